/- 'laws.FnExactChoices' returns true for every input. No condition. -/
import Derived.Test.YtkgjmgaccfmhpaaGreatWp
import Derived.Test.YtkgjmgaccfmhpaaGreatShelf
import Derived.Test.YtkgjmgaccfmhpaaGreatRows
import Derived.Test.YtkgjmgaccfmhpaaGreatChecked
import Derived.Shelf.RegionOpenPlain
import Derived.WalkKit
import Derived.Deep.LoopGhost
import Derived.Deep.RegionLaw
import Derived.Lib.Walk
import Derived.Sort.WalkB12
import Derived.Lib.SliceRun
import Derived.KernelRfl
namespace Go.Proofs.YtkgjmgaccfmhpaaGreat.World
open Go Go.V Go.Proofs
set_option linter.unusedVariables false
set_option linter.unusedSimpArgs false
set_option maxRecDepth 100000
set_option maxHeartbeats 4000000
abbrev TW:=xm
abbrev TT:Type:=Int×(List Int)×List Int
theorem bs {α β:Type} {o:Option α} {v:α} {f:α→Option β} (h:o=some v):o.bind f=f v:=by rw [h];rfl
theorem jt {k d:Nat} (h:d+1≤k):∃q,k=q+1:=⟨k-1,by omega⟩
/-! ### numbers, rows -/
def jp (a b:Int):Bool:=decide (a≥0)&&decide (a<b)
def inR (n a b:Int):Bool:=decide (a≤n)&&decide (n≤b)
theorem xf1 {k:Nat} (a b:Int) (hk:1≤k):yp k a b=some (jp a b):=by
 obtain ⟨k,rfl⟩:=jt (d:=0) hk;rw [xq9];unfold jp;cases decide (a≥0)<;>rfl
theorem w51 {k:Nat} (n a b:Int) (hk:1≤k):jm k n a b=some (inR n a b):=by
 obtain ⟨k,rfl⟩:=jt (d:=0) hk;rw [jba];unfold inR;cases decide (a≤n)<;>rfl
theorem zx1 {len:Nat} (n:Int) (h:len≤140737488351232):inR n 0 (IntKind.i64.wrap ((len:Int)-1))=jp n (len:Int):=by
 rw [y9 (by omega) (by omega)]
 unfold inR jp;have e:decide (n≤(len:Int)-1)=decide (n<(len:Int)):=by
  by_cases h:n<(len:Int)
  · rw [decide_eq_true h,decide_eq_true (by omega)]
  · rw [decide_eq_false h,decide_eq_false (by omega)]
 rw [e]
theorem zp {n:Int} {len:Nat} (h:jp n (len:Int)=true):0≤n∧n.toNat<len:=by
 unfold jp at h;simp only [Bool.and_eq_true,decide_eq_true_eq] at h;omega
theorem y31 {k:Nat} (n a b:Int) (hk:1≤k):xn k n a b=some (inR n a b):=by
 obtain ⟨k,rfl⟩:=jt (d:=0) hk;rw [jlb];unfold inR;show (if ((decide (a≤n))==true)=true then _ else _)=_
 cases decide (a≤n)<;>rfl
theorem wd6 {k:Nat} (x:List (Int)) (hl:x.length≤1048576) (hk:1≤k):wn3 k x=some x:=by
 obtain ⟨k,rfl⟩:=jt (d:=0) hk;rw [jk8,if_pos (by omega),yra]
theorem vy7 {k:Nat} (x:Int×(List Int)×List Int) (h1:x.2.1.length≤1048576) (h2:x.2.2.length≤1048576) (hk:2≤k):j54 k x=some x:=by
 obtain ⟨k,rfl⟩:=jt (d:=1) hk;rw [wy7,wd6 _ h1 (by omega),Option.bind_some,wd6 _ h2 (by omega),Option.bind_some]
theorem yga {k:Nat} (x:Int×(List Int)×List Int) (h1:x.2.1.length≤1048576) (h2:x.2.2.length≤1048576) (hk:1≤k):yr6 k x=some x:=by
 obtain ⟨k,rfl⟩:=jt (d:=0) hk;rw [xw9,if_pos (by omega),if_pos (by omega)]
/-! ### spans -/
def vq3 (s:Int×Int):Bool:=decide (s.1≥0)&&(decide (s.2≤1000)&&decide (s.1<s.2))
def zf1 (s:Int×Int) (t:Int):Bool:=vq3 s&&(decide (s.1≤t)&&decide (t<s.2))
theorem yu8 {k:Nat} (s:Int×Int) (hk:1≤k):v56 k s=some (vq3 s):=by
 obtain ⟨k,rfl⟩:=jt (d:=0) hk;rw [jra];unfold vq3;cases decide (s.1≥0)
 · rfl
 · cases decide (s.2≤1000)<;>rfl
theorem je7 {k:Nat} (s:Int×Int) (hk:1≤k):vc4 k s=some (vq3 s):=by
 obtain ⟨k,rfl⟩:=jt (d:=0) hk;rw [ypa];unfold vq3;cases decide (s.1≥0)
 · rfl
 · cases decide (s.2≤1000)<;>rfl
theorem jd7 {k:Nat} (s:Int×Int) (t:Int) (hk:2≤k):y65 k s t=some (zf1 s t):=by
 obtain ⟨k,rfl⟩:=jt (d:=1) hk;rw [yua,yu8 s (by omega),Option.bind_some]
 unfold zf1;cases vq3 s
 · rfl
 · cases decide (s.1≤t)<;>rfl
theorem vj7 {k:Nat} (s:Int×Int) (t:Int) (hk:2≤k):wo3 k s t=some (zf1 s t):=by
 obtain ⟨k,rfl⟩:=jt (d:=1) hk;rw [yqa,je7 s (by omega),Option.bind_some]
 unfold zf1;cases vq3 s
 · rfl
 · cases decide (s.1≤t)<;>rfl
/-! ### pieces, tables -/
def xo1 (p:j2) (t:Int):Int:=x81 (fun x:ze=>zf1 x.1 t) 0 p.2.2.2
theorem xi6 {k:Nat} (p:j2) (t:Int) (hl:p.2.2.2.length≤1048576) (hk:p.2.2.2.length+4≤k):vy2 k p t=some (xo1 p t):=by
 obtain ⟨k,rfl⟩:=jt (d:=0) (show 1≤k by omega)
 refine (x8a k p t).trans (zu3 (L:=zk3 k _ _ _) (a:=p.2.2.2) (fun i l=>some (x81 (fun x:ze=>zf1 x.1 t) i l)) (fun _ _=>rfl) (by omega) rfl (fun n i x r h0 ht hw hi hx ih=> ?_) (by omega))
 refine (bs (jd7 x.1 t (by omega))).trans ?_
 show (if zf1 x.1 t=true then some (i:Int) else _)=some (if zf1 x.1 t=true then (i:Int) else x81 (fun x:ze=>zf1 x.1 t) (i+1) r)
 rw [hw,ih];by_cases h:zf1 x.1 t=true
 · rw [if_pos h,if_pos h]
 · rw [if_neg h,if_neg h]
theorem ze6 {k:Nat} (p:j2) (t:Int) (hl:p.2.2.2.length≤1048576) (hk:p.2.2.2.length+6≤k):xg3 k p t=some (xo1 p t):=by
 obtain ⟨k,rfl⟩:=jt (d:=1) (show 2≤k by omega)
 refine (zw9 k p t).trans ((bs ?_).trans rfl)
 obtain ⟨k,rfl⟩:=jt (d:=0) (show 1≤k by omega)
 refine (zp2 k _ t).trans (zu3 (L:=wo k _ _ _) (a:=p.2.2.2) (fun i l=>some (x81 (fun x:ze=>zf1 x.1 t) i l)) (fun _ _=>rfl) (by omega) rfl (fun n i x r h0 ht hw hi hx ih=> ?_) (by omega))
 obtain ⟨k,rfl⟩:=jt (d:=0) (show 1≤k by omega)
 refine (bs ((jy7 k x t).trans ((bs (vj7 x.1 t (by omega))).trans rfl))).trans ?_
 show (if zf1 x.1 t=true then some (i:Int) else _)=some (if zf1 x.1 t=true then (i:Int) else x81 (fun x:ze=>zf1 x.1 t) (i+1) r)
 rw [hw,ih];by_cases h:zf1 x.1 t=true
 · rw [if_pos h,if_pos h]
 · rw [if_neg h,if_neg h]
def yrb (a b:Int) (x:ze):Bool:=vq3 x.1&&(decide (a≤b)&&(decide (x.1.1≤b)&&decide (a<x.1.2)))
def pcs (a b:Int):Nat→List ze→List Int
 | _,[]=>[]
 | i,x::r=>if yrb a b x=true then (i:Int)::pcs a b (i+1) r else pcs a b (i+1) r
theorem yh8 (a b:Int):∀(l:List ze) (i:Nat),(pcs a b i l).length≤l.length
  | [],i=>by simp [pcs]
  | x::r,i=>by
    have:=yh8 a b r (i+1)
    rw [pcs];split<;>simp<;>omega
theorem wz6 {k:Nat} (p:j2) (a b:Int) (hl:p.2.2.2.length≤1048576) (hk:p.2.2.2.length+4≤k):zx2 k p a b=some (pcs a b 0 p.2.2.2):=by
  obtain ⟨k,rfl⟩:=jt (d:=0) (show 1≤k by omega)
  refine (jg9 k p a b).trans ((yc2 (L:=ya3 k _ _) (a:=p.2.2.2) (fun (s:List Int) i=>(i,s)) (fun s i l=>some (s++pcs a b i l)) (fun s i=>s.length≤i) (fun _ _ _=>rfl) (by omega) (fun s _=>by simp [pcs]) (fun n i s x r hI h0 ht hw hi hx ih=> ?_) (by omega) [] (by simp)).trans (by simp))
  refine (bs (yu8 x.1 (by omega))).trans ?_
  dsimp only;rw [hw,pcs];have hn:=ih s (by omega)
  unfold yrb;cases vq3 x.1 with
  | false=>simpa using hn
  | true=>
    cases decide (a≤b) with
    | false=>simpa using hn
    | true=>
      cases decide (x.1.1≤b) with
      | false=>simpa using hn
      | true=>
        cases decide (a<x.1.2) with
        | false=>simpa using hn
        | true=>
          have hn:=ih (s++[(i:Int)]) (by simp;omega)
          rw [if_pos (by decide),if_pos (by decide),if_pos (by decide),if_pos rfl,if_pos (by simp;omega),if_pos (by decide),hn]
          simp
theorem y07 {k:Nat} (p:j2) (a b:Int) (hl:p.2.2.2.length≤1048576) (hk:p.2.2.2.length+4≤k):ju2 k p a b=some (pcs a b 0 p.2.2.2):=by
  obtain ⟨k,rfl⟩:=jt (d:=0) (show 1≤k by omega)
  refine (ja9 k p a b).trans ((yc2 (L:=w73 k _ _) (a:=p.2.2.2) (fun (s:List Int) i=>(i,s)) (fun s i l=>some (s++pcs a b i l)) (fun s i=>s.length≤i) (fun _ _ _=>rfl) (by omega) (fun s _=>by simp [pcs]) (fun n i s x r hI h0 ht hw hi hx ih=> ?_) (by omega) [] (by simp)).trans (by simp))
  refine (bs (je7 x.1 (by omega))).trans ?_
  dsimp only;rw [hw,pcs];have hn:=ih s (by omega)
  unfold yrb;have hgt:decide (x.1.2>a)=decide (a<x.1.2):=rfl;rw [hgt];cases vq3 x.1 with
  | false=>simpa using hn
  | true=>
    cases decide (a≤b) with
    | false=>simpa using hn
    | true=>
      cases decide (x.1.1≤b) with
      | false=>simpa using hn
      | true=>
        cases decide (a<x.1.2) with
        | false=>simpa using hn
        | true=>
          have hn:=ih (s++[(i:Int)]) (by simp;omega)
          rw [if_pos (by decide),if_pos (by decide),if_pos (by decide),if_pos rfl,if_pos (by simp;omega),if_pos (by decide),hn]
          simp
theorem xkb (a b:Int):∀(l:List ze) (i j:Nat) (x:ze),l[j]? =some x→yrb a b x=true→((i+j:Nat):Int) ∈ pcs a b i l
  | [],i,j,x,h,_=>by simp at h
  | y::r,i,0,x,h,hp=>by
    simp only [List.getElem?_cons_zero,Option.some.injEq] at h
    subst h;rw [pcs,if_pos hp];simp
  | y::r,i,j+1,x,h,hp=>by
    have:=xkb a b r (i+1) j x (by simpa using h) hp
    rw [pcs];have e:((i+(j+1):Nat):Int)=((i+1+j:Nat):Int):=by congr 1;omega
    rw [e];split
    · exact List.mem_cons_of_mem _ this
    · exact this
def tbl (p:j2) (a d:Int):Option TT:=if jp a (p.2.2.2.length:Int)=true then match p.2.2.2[a.toNat]? with
 | some x=>if jp d (x.2.2.length:Int)=true then x.2.2[d.toNat]? else none
 | none=>none
 else none
def zpa (p:j2) (a d:Int):TT×Bool:=match tbl p a d with
 | some t=>(t,true)
 | none=>((0,[],[]),false)
theorem jl3 {k N:Nat} (p:j2) (a d:Int) (hr:va N j4 p) (hN:N≤1048576) (hk:N+5≤k):yd3 k p a d=some (zpa p a d)∧wf3 k p a d=some (zpa p a d)∧(zpa p a d).1.2.2.length≤N:=by
  obtain ⟨k,rfl⟩:=jt (d:=0) (show 1≤k by omega)
  obtain ⟨h1',h2⟩:=vd hr.2.2.2;have h1:p.2.2.2.length≤N:=h1';have es:=(xha k p a d).trans (bs (y31 _ _ _ (by omega)))
  have ei:=(z8a k p a d).trans (bs (xf1 _ _ (by omega)))
  rw [zx1 a (by omega)] at es
  unfold zpa tbl;cases hI:jp a (p.2.2.2.length:Int) with
  | false=>
    rw [hI] at es ei;exact ⟨es,ei,by simp⟩
  | true=>
    rw [hI] at es ei;obtain ⟨a0,a1⟩:=zp hI;have hx:=h2 _ (List.getElem_mem a1);obtain ⟨g1',g2⟩:=vd hx.2.2;have g1:(p.2.2.2[a.toNat]).2.2.length≤N:=g1';have es:=es.trans ((if_pos rfl).trans ((if_pos a0).trans ((w61 a1 _).trans (bs (y31 _ _ _ (by omega))))))
    have ei:=ei.trans ((if_pos rfl).trans ((if_pos a0).trans ((w61 a1 _).trans (bs (xf1 _ _ (by omega))))))
    rw [zx1 d (by omega)] at es
    rw [if_pos rfl,List.getElem?_eq_getElem a1]
    dsimp only;cases hJ:jp d ((p.2.2.2[a.toNat]).2.2.length:Int) with
    | false=>
      rw [hJ] at es ei;exact ⟨es.trans (if_pos rfl),ei.trans (if_pos rfl),by simp⟩
    | true=>
      rw [hJ] at es ei;obtain ⟨d0,d1⟩:=zp hJ;have hy:=g2 _ (List.getElem_mem d1);have e1:((p.2.2.2[a.toNat]).2.2[d.toNat]).2.1.length≤N:=(vd hy.2.1).1;have e2:((p.2.2.2[a.toNat]).2.2[d.toNat]).2.2.length≤N:=(vd hy.2.2).1;rw [if_pos rfl,List.getElem?_eq_getElem d1]
      dsimp only;exact ⟨es.trans ((if_neg (by decide)).trans ((if_pos a0).trans ((w61 a1 _).trans ((if_pos d0).trans ((w61 d1 _).trans (bs (yga _ (by omega) (by omega) (by omega)))))))),
        ei.trans ((if_neg (by decide)).trans ((if_pos a0).trans ((w61 a1 _).trans ((if_pos d0).trans ((w61 d1 _).trans (bs (vy7 _ (by omega) (by omega) (by omega)))))))),e2⟩
/-- What the pieces' tables lay together. -/
def wpa (p:j2) (d:Int) (l:List Int):List (List Int):=l.filterMap fun a=>(tbl p a d).map (·.2.2)
def yta (p:j2) (d:Int) (l:List Int):List (List Int):=l.map fun a=>(zpa p a d).1.2.2
theorem zwa (p:j2) (d:Int) (l:List Int):(wpa p d l).length≤l.length:=List.length_filterMap_le _ _
theorem j23 {p:j2} {a d:Int} {t:TT} (h:tbl p a d=some t):zpa p a d=(t,true):=by unfold zpa;rw [h]
theorem w35 {p:j2} {a d:Int} (h:tbl p a d=none):zpa p a d=((0,[],[]),false):=by unfold zpa;rw [h]
end Go.Proofs.YtkgjmgaccfmhpaaGreat.World
namespace Go.Proofs.YtkgjmgaccfmhpaaGreat.World
open Go Go.V Go.Proofs
set_option linter.unusedVariables false
set_option linter.unusedSimpArgs false
set_option maxRecDepth 100000
set_option maxHeartbeats 4000000
/-! ### the program's UnionHasLoop -/
def mxl (l:List (List Int)):Int:=l.foldl (fun s x=>mx s (x.length:Int)) 0
theorem zvb (a b c:Int):mx a b≤c↔a≤c∧b≤c:=by unfold mx;split<;>omega
theorem jsb (a b:Int):a≤mx a b∧b≤mx a b:=by unfold mx;split<;>omega
theorem zz8:∀(l:List (List Int)) (s:Int),s≤l.foldl (fun s x=>mx s (x.length:Int)) s∧∀x ∈ l,(x.length:Int)≤l.foldl (fun s x=>mx s (x.length:Int)) s
  | [],s=>by simp
  | x::r,s=>by
    obtain ⟨h1,h2⟩:=zz8 r (mx s (x.length:Int))
    have:=jsb s (x.length:Int)
    refine ⟨by simp only [List.foldl_cons];omega,fun y hy=> ?_⟩
    simp only [List.foldl_cons];rcases List.mem_cons.1 hy with rfl | hy
    · omega
    · exact h2 y hy
theorem wha {N:Int}:∀(l:List (List Int)) (s:Int),s≤N→(∀x ∈ l,(x.length:Int)≤N)→l.foldl (fun s x=>mx s (x.length:Int)) s≤N
 | [],s,h,_=>h
 | x::r,s,h,hl=>wha r _ ((zvb _ _ _).2 ⟨h,hl x (by simp)⟩) fun y hy=>hl y (List.mem_cons_of_mem _ hy)
theorem iu0 {R:Type} {k:Nat} (X:zq→Option R) (l:List (List Int)) (hl:l.length≤1048576) (hk:l.length<k):x01 k X (l,l,(l.length:Int)) k (0,0)=X (mxl l,(l.length:Int)):=by
 refine (yx8 (L:=x01 k X _) (a:=l) (fun (s:Int) i=>(s,i)) (X:=fun s i=>X (s,i)) (fun s i l=>X (l.foldl (fun s x=>mx s (x.length:Int)) s,((i+l.length:Nat):Int))) (fun _ _ _=>rfl) (by omega) (fun s=>by simp) (fun n i s x r h0 ht hw hi hx ih=> ?_) hk 0).trans (by simp [mxl])
 dsimp only;rw [hw,ih];simp only [List.foldl_cons,List.length_cons]
 congr 3
 omega
/-- Does the node lead to one that is there? -/
def ld (g:List Bool) (n:Int) (x:Nat) (row:List Int):Bool:=match row[x]? with
 | some y=>jp y n&& !(g.getD y.toNat true)
 | none=>false
theorem iu3 {R:Type} {k:Nat} (X:xq→Option R) (c:wa1) (l:List (List Int)) (n:Int) (x:Nat) (g:List Bool) (h1:c.2.2.2.2.2.2.2.2.2.1=l) (h2:c.2.2.2.2.2.2.2.2.2.2.1=(l.length:Int)) (h3:c.2.2.2.2.2.2.2.2.2.2.2=g) (h4:c.2.2.2.1=(x:Int)) (h5:c.2.1=n)
    (hg:(g.length:Int)=n) (hl:l.length≤1048576) (hk:l.length+2≤k):wq k X c k (false,0)=X (l.any (ld g n x),(l.length:Int)):=by
  subst h1;generalize hl0:c.2.2.2.2.2.2.2.2.2.1=l at*;refine (yx8 (L:=wq k X c) (a:=l) (fun (s:Bool) i=>(s,i)) (X:=fun s i=>X (s,i)) (fun s i l=>X (s || l.any (ld g n x),((i+l.length:Nat):Int))) (body:=fun m s i x2=>if (s==false)=true then if ((decide (c.2.2.2.1<(x2.length:Int)))==true)=true then if 0≤c.2.2.2.1 then ix x2 c.2.2.2.1.toNat fun x3=>(yp k x3 c.2.1).bind fun p4=>if (p4==true)=true then if 0≤c.2.2.2.1 then ix x2 c.2.2.2.1.toNat fun x5=>if 0≤x5 then if x5<(c.2.2.2.2.2.2.2.2.2.2.2.length:Int) then ix c.2.2.2.2.2.2.2.2.2.2.2 x5.toNat fun x6=>wq k X c m ((!x6),(IntKind.i64.wrap (i+1))) else none else none else none else wq k X c m (false,(IntKind.i64.wrap (i+1))) else none else wq k X c m (false,(IntKind.i64.wrap (i+1))) else wq k X c m (true,(IntKind.i64.wrap (i+1)))) (fun m s i=>by rw [←h2,←hl0];rfl) (by omega) (fun s=>by simp) (fun m i s row r h0 ht hw hi hx ih=> ?_) (by omega) false).trans (by simp)
  rw [h3,h4,h5,hw];cases s with
  | true=>
    rw [if_neg (by decide),ih]
    simp only [List.length_cons,Bool.true_or]
    congr 3
    omega
  | false=>
    have hfin:∀b:Bool,b=ld g n x row→X (b || r.any (ld g n x),((i+1+r.length:Nat):Int))=X (false || (row::r).any (ld g n x),((i+(row::r).length:Nat):Int)):=by
      rintro b rfl
      simp only [List.length_cons,Bool.false_or,List.any_cons]
      congr 3
      omega
    rw [if_pos (by decide)]
    by_cases hx1:x<row.length
    · have c1:((decide ((x:Int)<(row.length:Int)))==true)=true:=by simp;omega
      have e1:((x:Int)).toNat=x:=by simp
      have hrow:row[x]? =some row[x]:=List.getElem?_eq_getElem hx1
      rw [if_pos c1,if_pos (by omega),e1,w61 hx1,xf1 _ _ (by omega),Option.bind_some]
      cases hI:jp row[x] n with
      | false=>
        rw [if_neg (by decide),ih]
        exact hfin false (by unfold ld;rw [hrow];simp [hI])
      | true=>
        have hI':=hI;rw [←hg] at hI';obtain ⟨y0,y1⟩:=zp hI';rw [if_pos (by decide),if_pos (by omega),w61 hx1,if_pos y0,if_pos (by omega),w61 y1,ih]
        exact hfin _ (by unfold ld;rw [hrow];simp [hI,List.getD,List.getElem?_eq_getElem y1])
    · have c1:¬((decide ((x:Int)<(row.length:Int)))==true)=true:=by simp;omega
      rw [if_neg c1,ih];exact hfin false (by unfold ld;rw [List.getElem?_eq_none (by omega)])
/-- One round. -/
def rnd (l:List (List Int)) (n:Int):Nat→Nat→Bool×List Bool→Bool×List Bool
 | 0,_,s=>s
 | m+1,x,s=>rnd l n m (x+1) (if s.2.getD x true=true then s else if l.any (ld s.2 n x)=true then s else (true,s.2.set x true))
theorem j8a (l:List (List Int)) (n:Int):∀(m x:Nat) (s:Bool×List Bool),(rnd l n m x s).2.length=s.2.length
  | 0,_,s=>rfl
  | m+1,x,s=>by
    rw [rnd,j8a l n m];split
    · rfl
    · split
      · rfl
      · simp
theorem iu2 {R:Type} {k:Nat} (X:jl→Option R) (c:ju) (l:List (List Int)) (n:Nat) (h1:c.1=l) (h2:c.2.1=(n:Int)) (h3:c.2.2.2.2.2=(n:Int)) (hl:l.length≤1048576) (hn:n≤1048576) (hk:l.length+3≤k):
    ∀(m q x:Nat) (ch:Bool) (g:List Bool),x+m=n→m<q→g.length=n→vm1 k X c q (ch,(x:Int),g)=X ((rnd l (n:Int) m x (ch,g)).1,(n:Int),(rnd l (n:Int) m x (ch,g)).2):=by
  intro m;induction m with
  | zero=>
    intro q x ch g h hq hg;obtain ⟨q,rfl⟩:∃z,q=z+1:=⟨q-1,by omega⟩
    obtain rfl:x=n:=by omega
    refine (if_neg (show ¬decide ((x:Int)<c.2.2.2.2.2)=true by rw [h3];simp)).trans rfl
  | succ m ih=>
    intro q x ch g h hq hg;obtain ⟨q,rfl⟩:∃z,q=z+1:=⟨q-1,by omega⟩
    have hx:x<g.length:=by omega
    have e1:((x:Int)).toNat=x:=by simp
    have e2:IntKind.i64.wrap ((x:Int)+1)=((x+1:Nat):Int):=by rw [y9 (by omega) (by omega)];omega
    have p0:(0:Int)≤(x:Int):=by omega
    have p1:(x:Int)<(g.length:Int):=by omega
    refine (if_pos (show decide ((x:Int)<c.2.2.2.2.2)=true by rw [h3];simp;omega)).trans ((if_pos p0).trans ((if_pos p1).trans ?_))
    dsimp only;rw [e1,w61 hx,rnd];have hgx:g.getD x true=g[x]:=by simp [List.getD,List.getElem?_eq_getElem hx]
    rw [hgx,e2];by_cases hb:g[x]=true
    · rw [if_pos hb,if_pos hb];exact ih q (x+1) ch g (by omega) (by omega) hg
    · rw [if_neg hb,if_neg hb];refine (iu3 _ _ l (n:Int) x g h1 (by rw [h1]) rfl rfl h2 (by rw [hg]) hl (by omega)).trans ?_
      by_cases ha:l.any (ld g (n:Int) x)=true
      · rw [if_pos ha];refine (if_neg (show ¬(!(l.any (ld g (n:Int) x)))=true by rw [ha];decide)).trans ?_
        exact ih q (x+1) ch g (by omega) (by omega) hg
      · rw [if_neg ha];refine (if_pos (show (!(l.any (ld g (n:Int) x)))=true by simpa using ha)).trans ((if_pos p0).trans ((if_pos p1).trans ?_))
        rw [w61 hx];exact ih q (x+1) true (g.set x true) (by omega) (by omega) (by simpa using hg)
/-- Nodes that lead to one another. -/
def Closed (l:List (List Int)) (R:Nat→Prop):Prop:=∀x,R x→∃row ∈ l,∃y:Nat,row[x]? =some (y:Int)∧R y
theorem xx8 {l:List (List Int)} {n:Int} {R:Nat→Prop} (hR:Closed l R) (hn:∀x,R x→(x:Int)<n):∀(m x:Nat) (s:Bool×List Bool),(∀y,R y→s.2.getD y true=false)→∀y,R y→(rnd l n m x s).2.getD y true=false
  | 0,_,s,h=>h
  | m+1,x,s,h=>by
    rw [rnd];refine xx8 hR hn m (x+1) _ ?_
    split
    · exact h
    · split
      · exact h
      · rename_i hna;intro y hy;by_cases e:y=x
        · exfalso;subst e;obtain ⟨row,hrow,z,hz,hRz⟩:=hR y hy;apply hna
          refine List.any_eq_true.2 ⟨row,hrow,?_⟩
          unfold ld;rw [hz]
          have:=hn z hRz
          simp only [jp,Int.toNat_natCast,h z hRz,Bool.not_false,Bool.and_true,Bool.and_eq_true,decide_eq_true_eq];omega
        · have:=h y hy
          rw [List.getD_eq_getElem?_getD] at this ⊢
          simp only [List.getElem?_set,if_neg (Ne.symm e)]
          exact this
theorem xv8 {l:List (List Int)} {n:Int}:∀(m x:Nat) (s:Bool×List Bool),s.1=true→(rnd l n m x s).1=true
  | 0,_,s,h=>h
  | m+1,x,s,h=>by
    rw [rnd];refine xv8 m (x+1) _ ?_
    split
    · exact h
    · split
      · exact h
      · rfl
theorem zh7 {l:List (List Int)} {n:Int}:∀(m x:Nat) (g:List Bool),(rnd l n m x (false,g)).1=false→(rnd l n m x (false,g)).2=g∧∀y,x≤y→y<x+m→g.getD y true=false→l.any (ld g n y)=true
  | 0,x,g,h=>⟨rfl,fun y h1 h2=>by omega⟩
  | m+1,x,g,h=>by
    rw [rnd] at h ⊢;by_cases h1:g.getD x true=true
    · rw [if_pos h1] at h ⊢;obtain ⟨h2,h3⟩:=zh7 m (x+1) g h;refine ⟨h2,fun y hy1 hy2 hy=> ?_⟩
      by_cases e:y=x
      · subst e;rw [h1] at hy;cases hy
      · exact h3 y (by omega) (by omega) hy
    · rw [if_neg h1] at h ⊢;by_cases h4:l.any (ld g n x)=true
      · rw [if_pos h4] at h ⊢;obtain ⟨h2,h3⟩:=zh7 m (x+1) g h;refine ⟨h2,fun y hy1 hy2 hy=> ?_⟩
        by_cases e:y=x
        · subst e;exact h4
        · exact h3 y (by omega) (by omega) hy
      · rw [if_neg h4] at h;rw [xv8 m (x+1) _ rfl] at h;cases h
theorem vd5 {l:List (List Int)} {n:Int}:∀(m x:Nat) (s:Bool×List Bool),(rnd l n m x s).2.count false≤s.2.count false∧(s.1=false→(rnd l n m x s).1=true→(rnd l n m x s).2.count false<s.2.count false)
  | 0,x,s=>⟨Nat.le_refl _,fun h1 h2=>by rw [rnd,h1] at h2;cases h2⟩
  | m+1,x,s=>by
    rw [rnd];by_cases h1:s.2.getD x true=true
    · rw [if_pos h1];exact vd5 m (x+1) s
    · rw [if_neg h1];by_cases h4:l.any (ld s.2 n x)=true
      · rw [if_pos h4];exact vd5 m (x+1) s
      · rw [if_neg h4];have hlt:x<s.2.length:=by
          apply Classical.byContradiction
          intro hx;apply h1
          simp [List.getD,List.getElem?_eq_none (by omega:s.2.length≤x)]
        have hf:s.2[x]=false:=by
          have:¬s.2[x]=true:=by simpa [List.getD,List.getElem?_eq_getElem hlt] using h1
          simpa using this
        have hc:(s.2.set x true).count false+1=s.2.count false:=by
          have:=List.count_set (l:=s.2) (i:=x) (a:=true) (b:=false) hlt
          have hpos:0<s.2.count false:=List.count_pos_iff.2 (by rw [←hf];exact List.getElem_mem hlt)
          rw [this,hf];simp
          omega
        have:=(vd5 (l:=l) (n:=n) m (x+1) (true,s.2.set x true)).1
        simp only at this
        exact ⟨by omega,fun _ _=>by omega⟩
theorem xrb {R:Type} {k:Nat} (X:xj→Option R) (c:zo) (q:Nat) (g:List Bool):xg k X c (q+1) (false,g)=X (false,g):=by
 show w01 k X c _ (false,g)=_
 unfold w01;exact if_neg (by simp)
theorem wxb {R:Type} {k:Nat} (X:xj→Option R) (c:zo) (q:Nat) (g:List Bool):xg k X c (q+1) (true,g)=vm1 k (fun (v2:Bool×Int×(List Bool))=>xg k X c q (v2.1,v2.2.2)) (c.1,c.2.1,c.2.2.1,c.2.2.2.1,c.2.2.2.2,c.2.1) k (false,0,g):=by
 show w01 k X c _ (true,g)=_
 unfold w01;exact if_pos rfl
theorem iu1 {R:Type} {k:Nat} (X:xj→Option R) (c:zo) (l:List (List Int)) (n:Nat) (h1:c.1=l) (h2:c.2.1=(n:Int)) (hl:l.length≤1048576) (hn:n≤1048576) (hk:l.length+n+5≤k):
    ∀(m q:Nat) (ch:Bool) (g:List Bool),g.count false≤m→m+2≤q→g.length=n→(ch=false→∀y,y<n→g.getD y true=false→l.any (ld g (n:Int) y)=true)→
      ∃g',xg k X c q (ch,g)=X (false,g')∧g'.length=n∧(∀y,y<n→g'.getD y true=false→l.any (ld g' (n:Int) y)=true)∧∀Rr,Closed l Rr→(∀x,Rr x→(x:Int)<(n:Int))→(∀y,Rr y→g.getD y true=false)→∀y,Rr y→g'.getD y true=false:=by
  intro m;induction m with
  | zero=>
    intro q ch g hc hq hg hfix;obtain ⟨q,rfl⟩:∃z,q=z+2:=⟨q-2,by omega⟩
    cases ch with
    | false=>exact ⟨g,xrb X c _ g,hg,hfix rfl,fun _ _ _ h=>h⟩
    | true=>
      have e:=(wxb X c _ g).trans (iu2 (k:=k) (fun (v2:Bool×Int×(List Bool))=>xg k X c (q+1) (v2.1,v2.2.2)) (c.1,c.2.1,c.2.2.1,c.2.2.2.1,c.2.2.2.2,c.2.1) l n h1 h2 h2 hl hn (by omega) n k 0 false g (by omega) (by omega) hg)
      have hless:=(vd5 (l:=l) (n:=(n:Int)) n 0 (false,g)).2 rfl;have hf:(rnd l (n:Int) n 0 (false,g)).1=false:=by
        cases hx:(rnd l (n:Int) n 0 (false,g)).1 with
        | false=>rfl
        | true=>have:=hless hx;simp only at this;omega
      obtain ⟨f1,f2⟩:=zh7 n 0 g hf;have e':xg k X c (q+2) (true,g)=X (false,g):=by
        refine Eq.trans (b:=xg k X c (q+1) ((rnd l (n:Int) n 0 (false,g)).1,(rnd l (n:Int) n 0 (false,g)).2)) e ?_
        rw [hf,f1];exact xrb X c _ g
      exact ⟨g,e',hg,fun y hy=>f2 y (by omega) (by omega),fun _ _ _ h=>h⟩
  | succ m ih=>
    intro q ch g hc hq hg hfix;obtain ⟨q,rfl⟩:∃z,q=z+1:=⟨q-1,by omega⟩
    cases ch with
    | false=>exact ⟨g,xrb X c _ g,hg,hfix rfl,fun _ _ _ h=>h⟩
    | true=>
      have e:=(wxb X c _ g).trans (iu2 (k:=k) (fun (v2:Bool×Int×(List Bool))=>xg k X c q (v2.1,v2.2.2)) (c.1,c.2.1,c.2.2.1,c.2.2.2.1,c.2.2.2.2,c.2.1) l n h1 h2 h2 hl hn (by omega) n k 0 false g (by omega) (by omega) hg)
      have hlen:=j8a l (n:Int) n 0 (false,g);have hless:=vd5 (l:=l) (n:=(n:Int)) n 0 (false,g);have hm:(rnd l (n:Int) n 0 (false,g)).1=true→(rnd l (n:Int) n 0 (false,g)).2.count false≤m:=fun hx=>by have:=hless.2 rfl hx;simp only at this;omega
      cases hx:(rnd l (n:Int) n 0 (false,g)).1 with
      | true=>
        obtain ⟨g',e1,e2,e3,e4⟩:=ih q (rnd l (n:Int) n 0 (false,g)).1 (rnd l (n:Int) n 0 (false,g)).2 (hm hx) (by omega) (by rw [hlen];exact hg) (fun h=>by rw [hx] at h;cases h)
        exact ⟨g',Eq.trans (b:=xg k X c q ((rnd l (n:Int) n 0 (false,g)).1,(rnd l (n:Int) n 0 (false,g)).2)) e e1,e2,e3,fun Rr a b h=>e4 Rr a b (xx8 a b n 0 (false,g) h)⟩
      | false=>
        obtain ⟨f1,f2⟩:=zh7 n 0 g hx;obtain ⟨q,rfl⟩:∃z,q=z+1:=⟨q-1,by omega⟩
        have e':xg k X c (q+1+1) (true,g)=X (false,g):=by
          refine Eq.trans (b:=xg k X c (q+1) ((rnd l (n:Int) n 0 (false,g)).1,(rnd l (n:Int) n 0 (false,g)).2)) e ?_
          rw [hx,f1];exact xrb X c _ g
        exact ⟨g,e',hg,fun y hy=>f2 y (by omega) (by omega),fun _ _ _ h=>h⟩
theorem iu4 {k:Nat} (c:j01) (g:List Bool) (h1:c.2.2.2.2.2.2.1=(g.length:Int)) (h2:c.2.2.2.2.2.2.2=g) (hl:g.length≤1048576) (hk:g.length<k):y01 k (fun (v4:Int) (x1:Bool)=>some true) (fun (v4:Int)=>some false) c k 0=some (g.any fun b=> !b):=by
 refine zu3 (L:=y01 k _ _ c) (a:=g) (fun _ l=>some (l.any fun b=> !b)) (body:=fun n i x=>if i<(g.length:Int) then if (!x)=true then some true else y01 k (fun (v4:Int) (x1:Bool)=>some true) (fun (v4:Int)=>some false) c n (IntKind.i64.wrap (i+1)) else none) (X:=fun _=>some false) (fun n i=> ?_) (by omega) rfl (fun n i x r h0 ht hw hi hx ih=> ?_) hk
 · show z02 k _ _ c _ i=_
   unfold z02;rw [h1,h2];by_cases c1:decide (i<(g.length:Int))=true
   · rw [if_pos c1,if_pos c1];by_cases c2:0≤i
     · rw [if_pos c2,if_pos c2];have c3:i<(g.length:Int):=by simpa using c1
       rw [if_pos c3]
       have:i.toNat<g.length:=by omega
       rw [w61 this,w61 this,if_pos c3]
     · rw [if_neg c2,if_neg c2]
   · rw [if_neg c1,if_neg c1]
 · rw [if_pos (by omega),hw,ih,List.any_cons]
   cases x<;>rfl
theorem wib {k N:Nat} (l:List (List Int)) (hl:l.length≤N) (hx:∀x ∈ l,x.length≤N) (hN:N≤1048576) (hk:2*N+20≤k):∃b,js k l=some b∧(b=true→∃R x,Closed l R∧R x)∧(∀R x,Closed l R→R x→b=true):=by
  obtain ⟨k,rfl⟩:=jt (d:=0) (show 1≤k by omega)
  obtain ⟨m1,m2⟩:=zz8 l 0;have m3:=wha (N:=(N:Int)) l 0 (by omega) (fun x h=>by have:=hx x h;omega)
  obtain ⟨n,hn⟩:∃n:Nat,mxl l=(n:Int):=⟨(mxl l).toNat,by unfold mxl at*;omega⟩
  have hnN:n≤N:=by unfold mxl at hn;omega
  have hlt:∀x ∈ l,x.length≤n:=fun x h=>by have:=m2 x h;unfold mxl at hn;omega
  have e0:=(xt6 k l).trans (iu0 _ l (by omega) (by omega))
  rw [hn] at e0;have e1:=e0.trans ((if_pos (beq_self_eq_true _)).trans ((if_pos (show (0:Int)≤(n:Int) by omega)).trans (if_pos (show 1*((n:Int)).toNat≤281474976710656 by simp;omega))))
  have hrep:∀y,y<n→(List.replicate ((n:Int)).toNat false).getD y true=false:=fun y hy=>by simp [List.getD,List.getElem?_replicate,hy]
  obtain ⟨g,g1,g2,g3,g4⟩:=iu1 (k:=k) (fun (v1:Bool×(List Bool))=>y01 k (fun (v4:Int) (x1:Bool)=>some true) (fun (v4:Int)=>some false) (l,(n:Int),v1.1,l,(l.length:Int),(l.length:Int),(n:Int),v1.2) k 0) (l,(n:Int),l,(l.length:Int),(l.length:Int)) l n rfl rfl (by omega) (by omega) (by omega) n k true (List.replicate ((n:Int)).toNat false) (by simp [List.count_replicate]) (by omega) (by simp) (fun h=>by cases h)
  have e2:=e1.trans (g1.trans (iu4 _ g (by rw [g2]) rfl (by omega) (by omega)))
  refine ⟨_,e2,fun hb=> ?_,fun R x hR hx0=> ?_⟩
  · obtain ⟨b,hb1,hb2⟩:=List.any_eq_true.1 hb;have hbf:b=false:=by simpa using hb2
    subst hbf;obtain ⟨x,hxl,hxe⟩:=List.getElem_of_mem hb1;refine ⟨fun y=>y<n∧g.getD y true=false,x,fun y hy=> ?_,by omega,by simp [List.getD,List.getElem?_eq_getElem hxl,hxe]⟩
    obtain ⟨row,hrow,hld⟩:=List.any_eq_true.1 (g3 y hy.1 hy.2);unfold ld at hld;cases hz:row[y]? with
    | none=>rw [hz] at hld;cases hld
    | some z=>
      rw [hz] at hld;simp only [Bool.and_eq_true,Bool.not_eq_true'] at hld;obtain ⟨z0,z1⟩:=zp hld.1;exact ⟨row,hrow,z.toNat,by rw [hz];congr 1;omega,z1,hld.2⟩
  · have hRn:∀y,R y→(y:Int)<(n:Int):=fun y hy=>by
      obtain ⟨row,hrow,z,hz,_⟩:=hR y hy
      have:=(List.getElem?_eq_some_iff.1 hz).1
      have:=hlt row hrow
      omega
    have:=g4 R hR hRn (fun y hy=>hrep y (by have:=hRn y hy;omega)) x hx0
    have hxn:=hRn x hx0;have hxl:x<g.length:=by omega
    refine List.any_eq_true.2 ⟨g[x],List.getElem_mem hxl,?_⟩
    have:g[x]=false:=by simpa [List.getD,List.getElem?_eq_getElem hxl] using this
    rw [this];rfl
end Go.Proofs.YtkgjmgaccfmhpaaGreat.World
namespace Go.Proofs.YtkgjmgaccfmhpaaGreat.World
open Go Go.V Go.Proofs
set_option linter.unusedVariables false
set_option linter.unusedSimpArgs false
set_option maxRecDepth 100000
set_option maxHeartbeats 4000000
/-! ### the reference's HasLoop, UnionHasLoop -/
inductive Pth (E:Nat→Nat→Prop):Nat→Nat→Prop
 | one {a b:Nat}:E a b→Pth E a b
 | more {a b c:Nat}:Pth E a b→E b c→Pth E a c
def Ed (nx:List Int) (x y:Nat):Prop:=nx[x]? =some (y:Int)∧y<nx.length
theorem vn9 {k:Nat} (a b:Int) (hk:1≤k):jp8 k a b=some (mx a b):=by
 obtain ⟨k,rfl⟩:=jt (d:=0) hk;rw [vtb];unfold mx;by_cases h:a<b
 · rw [if_pos (by simpa using h),if_pos h]
 · rw [if_neg (by simpa using h),if_neg h]
theorem yv9 {k:Nat} (l:List (List Int)) (hl:l.length≤1048576) (hk:l.length+3≤k):y14 k l=some (mxl l):=by
 obtain ⟨k,rfl⟩:=jt (d:=0) (show 1≤k by omega)
 refine (x5a k l).trans (yx8 (L:=xo3 k _ _) (a:=l) (fun (s:Int) i=>(s,i)) (fun s i l=>some (l.foldl (fun s x=>mx s (x.length:Int)) s)) (fun _ _ _=>rfl) (by omega) (fun s=>by simp) (fun n i s x r h0 ht hw hi hx ih=> ?_) (by omega) 0)
 refine (bs (vn9 _ _ (by omega))).trans ?_
 rw [hw,ih];rfl
theorem y56 {k:Nat} (l:List Int) (x:Int) (hl:l.length≤1048576) (hk:l.length+2≤k):xc2 k l x=some (l.any fun y=>y==x):=by
 obtain ⟨k,rfl⟩:=jt (d:=0) (show 1≤k by omega)
 refine (vpa k l x).trans (zu3 (L:=jc4 k _ _ _) (a:=l) (fun _ l=>some (l.any fun y=>y==x)) (fun _ _=>rfl) (by omega) rfl (fun n i y r h0 ht hw hi hx ih=> ?_) (by omega))
 show (if (y==x)=true then some true else _)=_
 rw [hw,ih,List.any_cons];cases (y==x)<;>rfl
theorem zg7:∀(n:Nat) (l:List Int),l.Nodup→(∀x ∈ l,0≤x∧x<(n:Int))→l.length≤n
  | 0,l,_,h=>by
    cases l with
    | nil=>simp
    | cons x r=>have:=h x (by simp);omega
  | n+1,l,hd,h=>by
    have h1:=zg7 n (l.erase (n:Int)) (hd.erase _) (fun x hx=>by
      have hx':=(List.Nodup.mem_erase_iff hd).1 hx
      have:=h x hx'.2
      have hne:=hx'.1;omega)
    by_cases hm:(n:Int) ∈ l
    · rw [List.length_erase_of_mem hm] at h1;omega
    · rw [List.erase_of_not_mem hm] at h1;omega
/-- An edge of one of the rows. -/
def Un (l:List (List Int)) (x y:Nat):Prop:=(∃row ∈ l,row[x]? =some (y:Int))∧(y:Int)<mxl l
/-- A set of jx1, as a row. -/
structure Nodes (n:Nat) (s:List Int):Prop where
 nodup:s.Nodup
 range:∀x ∈ s,0≤x∧x<(n:Int)
theorem Nodes.len {n:Nat} {s:List Int} (h:Nodes n s):s.length≤n:=zg7 n s h.nodup h.range
theorem Nodes.snoc {n:Nat} {s:List Int} (h:Nodes n s) {x:Int} (hx:jp x (n:Int)=true) (hn:(s.any fun y=>y==x)=false):Nodes n (s++[x]):=by
 have hnm:x ∉ s:=fun hm=>by
  have:(s.any fun y=>y==x)=true:=List.any_eq_true.2 ⟨x,hm,by simp⟩
  rw [hn] at this;cases this
 unfold jp at hx;simp only [Bool.and_eq_true,decide_eq_true_eq] at hx;refine ⟨List.nodup_append.2 ⟨h.nodup,by simp,?_⟩,fun y hy=> ?_⟩
 · rintro a ha b hb rfl
   have hax:a=x:=by simpa using hb
   rw [hax] at ha;exact hnm ha
 · rcases List.mem_append.1 hy with hy | hy
   · exact h.range y hy
   · have:y=x:=by simpa using hy
     subst this;exact ⟨by omega,by omega⟩
theorem xr9 {k N:Nat} (l:List (List Int)) (n x:Nat) (hn:mxl l=(n:Int)) (hl:l.length≤N) (hN:N≤1048576) (hnN:n≤N) (hk:N+10≤k):∃st,zi2 k l (n:Int) (x:Int)=some st∧Nodes n st∧(∀y:Nat,Un l x y→(y:Int) ∈ st)∧∀y ∈ st,Un l x y.toNat:=by
  obtain ⟨k,rfl⟩:=jt (d:=0) (show 1≤k by omega)
  have key:∀(m q i:Nat) (out:List Int),i+m=l.length→m<q→Nodes n out→(∀y ∈ out,Un l x y.toNat)→∃st,xn2 k (fun (v0:Int×(List Int))=>some v0.2) (l,(n:Int),(x:Int)) q ((i:Int),out)=some st∧Nodes n st∧(∀y ∈ out,y ∈ st)∧(∀y:Nat,(∃row ∈ l.drop i,row[x]? =some (y:Int))→(y:Int)<mxl l→(y:Int) ∈ st)∧∀y ∈ st,Un l x y.toNat:=by
    intro m;induction m with
    | zero=>
      intro q i out h hq ho hu;obtain ⟨q,rfl⟩:∃z,q=z+1:=⟨q-1,by omega⟩
      refine ⟨out,if_neg (show ¬decide ((i:Int)<(l.length:Int))=true by simp;omega),ho,fun _ h=>h,fun y hy _=> ?_,hu⟩
      obtain ⟨row,hr,_⟩:=hy;rw [List.drop_eq_nil_of_le (by omega)] at hr
      simp at hr
    | succ m ih=>
      intro q i out h hq ho hu;obtain ⟨q,rfl⟩:∃z,q=z+1:=⟨q-1,by omega⟩
      have hi:i<l.length:=by omega
      have c:decide ((i:Int)<(l.length:Int))=true:=by simp;omega
      have h0:(0:Int)≤(i:Int):=by omega
      have x0:(0:Int)≤(x:Int):=by omega
      have hg:l[i]? =some l[i]:=List.getElem?_eq_getElem hi
      have e2:IntKind.i64.wrap ((i:Int)+1)=((i+1:Nat):Int):=by rw [y9 (by omega) (by omega)];omega
      have hol:=ho.len;have hdrop:l.drop i=l[i]::l.drop (i+1):=List.drop_eq_getElem_cons hi;have skip:(∀y:Nat,l[i][x]? =some (y:Int)→(y:Int)<mxl l→(y:Int) ∈ out)→∃st,xn2 k (fun (v0:Int×(List Int))=>some v0.2) (l,(n:Int),(x:Int)) q (IntKind.i64.wrap ((i:Int)+1),out)=some st∧Nodes n st∧(∀y ∈ out,y ∈ st)∧(∀y:Nat,(∃row ∈ l.drop i,row[x]? =some (y:Int))→(y:Int)<mxl l→(y:Int) ∈ st)∧∀y ∈ st,Un l x y.toNat:=by
        intro hy;obtain ⟨st,s1,s2,s3,s4,s5⟩:=ih q (i+1) out (by omega) (by omega) ho hu
        refine ⟨st,by rw [e2];exact s1,s2,s3,fun y hr hlt=> ?_,s5⟩
        obtain ⟨row,hr,hrow⟩:=hr;rw [hdrop] at hr;rcases List.mem_cons.1 hr with rfl | hr
        · exact s3 _ (hy y hrow hlt)
        · exact s4 y ⟨row,hr,hrow⟩ hlt
      by_cases hx:x<l[i].length
      · have c1:((decide ((x:Int)<(l[i].length:Int)))==true)=true:=by simp;omega
        have hrow:l[i][x]? =some l[i][x]:=List.getElem?_eq_getElem hx
        have hI1:xn k l[i][x] 0 (IntKind.i64.wrap ((n:Int)-1))=some (jp l[i][x] (n:Int)):=by rw [y31 _ _ _ (by omega),zx1 _ (by omega)]
        cases hI:jp l[i][x] (n:Int) with
        | false=>
          rw [hI] at hI1;obtain ⟨st,s1,s2⟩:=skip (fun y hy hlt=>by
            rw [hrow] at hy;have hy':l[i][x]=(y:Int):=Option.some.inj hy;rw [hn] at hlt;rw [hy'] at hI;simp [jp] at hI;omega)
          exact ⟨st,(if_pos c).trans ((if_pos h0).trans ((v7 (n:=i) hg _).trans ((if_pos c1).trans ((if_pos h0).trans ((v7 (n:=i) hg _).trans ((if_pos x0).trans ((v7 (n:=x) hrow _).trans ((bs hI1).trans ((if_neg (by decide)).trans s1))))))))),s2⟩
        | true=>
          rw [hI] at hI1;have hH:xc2 k out l[i][x]=some (out.any fun y=>y==l[i][x]):=y56 _ _ (by omega) (by omega)
          cases ha:(out.any fun y=>y==l[i][x]) with
          | true=>
            rw [ha] at hH;obtain ⟨st,s1,s2⟩:=skip (fun y hy hlt=>by
              rw [hrow] at hy;have hy:=Option.some.inj hy;obtain ⟨z,hz,hze⟩:=List.any_eq_true.1 ha
              have:z=(y:Int):=by rw [←hy];simpa using hze
              rw [←this];exact hz)
            exact ⟨st,(if_pos c).trans ((if_pos h0).trans ((v7 (n:=i) hg _).trans ((if_pos c1).trans ((if_pos h0).trans ((v7 (n:=i) hg _).trans ((if_pos x0).trans ((v7 (n:=x) hrow _).trans ((bs hI1).trans ((if_pos rfl).trans ((if_pos h0).trans ((v7 (n:=i) hg _).trans ((if_pos x0).trans ((v7 (n:=x) hrow _).trans ((bs hH).trans ((if_neg (by decide)).trans s1))))))))))))))),s2⟩
          | false=>
            rw [ha] at hH;have c8:(out.length+([l[i][x]]).length)*8≤140737488355328:=by simp;omega
            have hI':=zp hI;obtain ⟨st,s1,s2,s3,s4,s5⟩:=ih q (i+1) (out++[l[i][x]]) (by omega) (by omega) (ho.snoc hI ha) (fun y hy=>by
              rcases List.mem_append.1 hy with hy | hy
              · exact hu y hy
              · rw [List.mem_singleton.1 hy];refine ⟨⟨l[i],List.getElem_mem hi,?_⟩,?_⟩
                · rw [hrow];congr 1;omega
                · rw [hn];omega)
            rw [←e2] at s1;refine ⟨st,(if_pos c).trans ((if_pos h0).trans ((v7 (n:=i) hg _).trans ((if_pos c1).trans ((if_pos h0).trans ((v7 (n:=i) hg _).trans ((if_pos x0).trans ((v7 (n:=x) hrow _).trans ((bs hI1).trans ((if_pos rfl).trans ((if_pos h0).trans ((v7 (n:=i) hg _).trans ((if_pos x0).trans ((v7 (n:=x) hrow _).trans ((bs hH).trans ((if_pos rfl).trans ((if_pos h0).trans ((v7 (n:=i) hg _).trans ((if_pos x0).trans ((v7 (n:=x) hrow _).trans ((if_pos c8).trans s1)))))))))))))))))))),s2,fun y hy=>s3 y (List.mem_append_left _ hy),fun y hr hlt=> ?_,s5⟩
            obtain ⟨row,hr,hrw⟩:=hr;rw [hdrop] at hr;rcases List.mem_cons.1 hr with rfl | hr
            · rw [hrow] at hrw;rw [←Option.some.inj hrw];exact s3 _ (by simp)
            · exact s4 y ⟨row,hr,hrw⟩ hlt
      · have c1:¬((decide ((x:Int)<(l[i].length:Int)))==true)=true:=by simp;omega
        obtain ⟨st,s1,s2⟩:=skip (fun y hy _=>by rw [List.getElem?_eq_none (by omega)] at hy;cases hy)
        exact ⟨st,(if_pos c).trans ((if_pos h0).trans ((v7 (n:=i) hg _).trans ((if_neg c1).trans s1))),s2⟩
  obtain ⟨st,s1,s2,s3,s4,s5⟩:=key l.length k 0 [] (by omega) (by omega) ⟨List.nodup_nil,by simp⟩ (by simp)
  exact ⟨st,(y49 k l _ _).trans s1,s2,fun y hy=>s4 y (by simpa using hy.1) hy.2,s5⟩
theorem us2 {R:Type} {k N n:Nat} (X:yq→Option R) (c:ya1) (more:List Int) (hc:c.2.2.2.2=more) (hm:Nodes n more) (hnN:n≤N) (hN:N≤1048576) (hk:N+10≤k):
    ∀(m q j:Nat) (seen:List Int),j+m=more.length→m<q→Nodes n seen→∃e,wz1 k X c q ((j:Int),seen)=X ((more.length:Int),seen++e)∧Nodes n (seen++e)∧(∀y ∈ more.drop j,y ∈ seen++e)∧∀y ∈ e,y ∈ more:=by
  intro m;induction m with
  | zero=>
    intro q j seen h hq hs;obtain ⟨q,rfl⟩:∃z,q=z+1:=⟨q-1,by omega⟩
    obtain rfl:j=more.length:=by omega
    refine ⟨[],?_,by simpa using hs,by simp,by simp⟩
    rw [List.append_nil];exact if_neg (show ¬decide ((more.length:Int)<(c.2.2.2.2.length:Int))=true by rw [hc];simp)
  | succ m ih=>
    intro q j seen h hq hs;obtain ⟨q,rfl⟩:∃z,q=z+1:=⟨q-1,by omega⟩
    have hml:=hm.len;have hsl:=hs.len;have hj:j<more.length:=by omega
    have hg:c.2.2.2.2[j]? =some more[j]:=by rw [hc];exact List.getElem?_eq_getElem hj
    have p0:(0:Int)≤(j:Int):=by omega
    have p1:(j:Int)<(c.2.2.2.2.length:Int):=by rw [hc];omega
    have e2:IntKind.i64.wrap ((j:Int)+1)=((j+1:Nat):Int):=by rw [y9 (by omega) (by omega)];omega
    have hd:more.drop j=more[j]::more.drop (j+1):=List.drop_eq_getElem_cons hj;have hH:xc2 k seen more[j]=some (seen.any fun y=>y==more[j]):=y56 _ _ (by omega) (by omega)
    cases ha:(seen.any fun y=>y==more[j]) with
    | true=>
      rw [ha] at hH;obtain ⟨e,e1,e3,e4,e5⟩:=ih q (j+1) seen (by omega) (by omega) hs
      rw [←e2] at e1;refine ⟨e,(if_pos (decide_eq_true p1)).trans ((if_pos p0).trans ((if_pos p1).trans ((v7 (n:=j) hg _).trans ((bs hH).trans ((if_neg (by decide)).trans e1))))),e3,fun y hy=> ?_,e5⟩
      rw [hd] at hy;rcases List.mem_cons.1 hy with rfl | hy
      · obtain ⟨z,hz,hze⟩:=List.any_eq_true.1 ha
        have:z=more[j]:=by simpa using hze
        rw [←this];exact List.mem_append_left _ hz
      · exact e4 y hy
    | false=>
      rw [ha] at hH;have hI:jp more[j] (n:Int)=true:=by
        have:=hm.range more[j] (List.getElem_mem hj)
        simp [jp];omega
      have c8:(seen.length+([more[j]]).length)*8≤140737488355328:=by simp;omega
      obtain ⟨e,e1,e3,e4,e5⟩:=ih q (j+1) (seen++[more[j]]) (by omega) (by omega) (hs.snoc hI ha)
      rw [←e2] at e1;refine ⟨more[j]::e,?_,by simpa using e3,fun y hy=> ?_,fun y hy=> ?_⟩
      · refine ((if_pos (decide_eq_true p1)).trans ((if_pos p0).trans ((if_pos p1).trans ((v7 (n:=j) hg _).trans ((bs hH).trans ((if_pos rfl).trans ((if_pos p0).trans ((if_pos p1).trans ((v7 (n:=j) hg _).trans ((if_pos c8).trans e1)))))))))).trans ?_
        simp
      · rw [hd] at hy;rcases List.mem_cons.1 hy with rfl | hy
        · simp
        · simpa using e4 y hy
      · rcases List.mem_cons.1 hy with rfl | hy
        · exact List.getElem_mem hj
        · exact e5 y hy
theorem us1 {k N n:Nat} (Y:Option Bool) (l:List (List Int)) (i:Nat) (hn:mxl l=(n:Int)) (hl:l.length≤N) (hnN:n≤N) (hN:N≤1048576) (hk:N+15≤k):
    ∀(m q j:Nat) (seen:List Int),j+m=n+1→m<q→j≤seen.length→Nodes n seen→(∀a,a<j→∀z,seen[a]? =some z→z≠(i:Int)∧∀y:Nat,Un l z.toNat y→(y:Int) ∈ seen)→(∀z ∈ seen,Pth (Un l) i z.toNat)→
      (xv k (fun (v1:Int×(List Int)) (x3:Int)=>some true) (fun (v1:Int×(List Int))=>Y) (l,(n:Int),(i:Int)) q ((j:Int),seen)=some true∧Pth (Un l) i i)∨
        (xv k (fun (v1:Int×(List Int)) (x3:Int)=>some true) (fun (v1:Int×(List Int))=>Y) (l,(n:Int),(i:Int)) q ((j:Int),seen)=Y∧∃S:List Int,(∀y ∈ seen,y ∈ S)∧(∀y ∈ S,y≠(i:Int))∧∀z ∈ S,∀y:Nat,Un l z.toNat y→(y:Int) ∈ S):=by
  intro m;induction m with
  | zero=>
    intro q j seen h hq hj hs hp hpt
    have:=hs.len
    omega
  | succ m ih=>
    intro q j seen h hq hj hs hp hpt;obtain ⟨q,rfl⟩:∃z,q=z+1:=⟨q-1,by omega⟩
    have hsl:=hs.len;by_cases hjl:j=seen.length
    · subst hjl;refine .inr ⟨if_neg (show ¬decide ((seen.length:Int)<(seen.length:Int))=true by simp),seen,fun y hy=>hy,fun y hy=> ?_,fun z hz=> ?_⟩
      · obtain ⟨a,ha,hae⟩:=List.getElem_of_mem hy;exact (hp a ha y (by rw [List.getElem?_eq_getElem ha,hae])).1
      · obtain ⟨a,ha,hae⟩:=List.getElem_of_mem hz;exact (hp a ha z (by rw [List.getElem?_eq_getElem ha,hae])).2
    · have hjlt:j<seen.length:=by omega
      have hg:seen[j]? =some seen[j]:=List.getElem?_eq_getElem hjlt
      have p0:(0:Int)≤(j:Int):=by omega
      have p1:(j:Int)<(seen.length:Int):=by omega
      have e2:IntKind.i64.wrap ((j:Int)+1)=((j+1:Nat):Int):=by rw [y9 (by omega) (by omega)];omega
      by_cases hd:(seen[j]==(i:Int))=true
      · have hP:=hpt _ (List.getElem_mem hjlt);rw [show seen[j]=(i:Int) by simpa using hd] at hP
        exact .inl ⟨(if_pos (decide_eq_true p1)).trans ((if_pos p0).trans ((if_pos p1).trans ((v7 (n:=j) hg _).trans (if_pos hd)))),by simpa using hP⟩
      · have hr:=hs.range seen[j] (List.getElem_mem hjlt);obtain ⟨x,hx⟩:∃x:Nat,seen[j]=(x:Int):=⟨seen[j].toNat,by omega⟩
        obtain ⟨st,s1,s2,s3,s4⟩:=xr9 (k:=k) l n x hn hl hN hnN (by omega)
        rw [←hx] at s1;obtain ⟨e,e1,e3,e4,e5⟩:=us2 (k:=k) (N:=N) (n:=n) (fun (v2:Int×(List Int))=>xv k (fun (v1:Int×(List Int)) (x3:Int)=>some true) (fun (v1:Int×(List Int))=>Y) (l,(n:Int),(i:Int)) q ((IntKind.i64.wrap ((j:Int)+1)),v2.2)) (l,(n:Int),(i:Int),(j:Int),st) st rfl s2 hnN hN (by omega) st.length k 0 seen (by omega) (by have:=s2.len;omega) hs
        have hstep:xv k (fun (v1:Int×(List Int)) (x3:Int)=>some true) (fun (v1:Int×(List Int))=>Y) (l,(n:Int),(i:Int)) (q+1) ((j:Int),seen)=xv k (fun (v1:Int×(List Int)) (x3:Int)=>some true) (fun (v1:Int×(List Int))=>Y) (l,(n:Int),(i:Int)) q (((j+1:Nat):Int),seen++e):=by
          rw [←e2];exact (if_pos (decide_eq_true p1)).trans ((if_pos p0).trans ((if_pos p1).trans ((v7 (n:=j) hg _).trans ((if_neg hd).trans ((if_pos p0).trans ((if_pos p1).trans ((v7 (n:=j) hg _).trans ((bs s1).trans e1))))))))
        rw [hstep];have hpre:∀a z,a<j→(seen++e)[a]? =some z→seen[a]? =some z:=fun a z ha hz=>by rw [List.getElem?_append_left (by omega)] at hz;exact hz
        rcases ih q (j+1) (seen++e) (by omega) (by omega) (by simp;omega) e3 (fun a ha z hz=>by
          by_cases haj:a=j
          · subst haj;rw [List.getElem?_append_left hjlt,hg] at hz
            have hz:=Option.some.inj hz;subst hz;refine ⟨by simpa using hd,fun y hy=> ?_⟩
            rw [hx] at hy;exact e4 _ (by simpa using s3 y (by simpa using hy))
          · obtain ⟨q1,q2⟩:=hp a (by omega) z (hpre a z (by omega) hz)
            exact ⟨q1,fun y hy=>List.mem_append_left _ (q2 y hy)⟩) (fun z hz=>by
          rcases List.mem_append.1 hz with hz | hz
          · exact hpt z hz
          · have hP:=hpt _ (List.getElem_mem hjlt);rw [hx] at hP;exact .more (by simpa using hP) (s4 z (e5 z hz))) with r | ⟨r,S,t1,t2,t3⟩
        · exact .inl r
        · exact .inr ⟨r,S,fun y hy=>t1 y (List.mem_append_left _ hy),t2,t3⟩
theorem whb {k N:Nat} (l:List (List Int)) (hl:l.length≤N) (hx:∀x ∈ l,x.length≤N) (hN:N≤1048576) (hk:N+30≤k):∃b,jr k l=some b∧(b=false→∀i,¬Pth (Un l) i i)∧(b=true→∃i,Pth (Un l) i i):=by
  obtain ⟨k,rfl⟩:=jt (d:=0) (show 1≤k by omega)
  obtain ⟨m1,m2⟩:=zz8 l 0;have m3:=wha (N:=(N:Int)) l 0 (by omega) (fun x h=>by have:=hx x h;omega)
  obtain ⟨n,hn⟩:∃n:Nat,mxl l=(n:Int):=⟨(mxl l).toNat,by unfold mxl at*;omega⟩
  have hnN:n≤N:=by unfold mxl at hn;omega
  have e0:=(yx6 k l).trans (bs (yv9 l (by omega) (by omega)))
  rw [hn] at e0;have key:∀(m q i:Nat),i+m=n→m<q→(∀a,a<i→¬Pth (Un l) a a)→∃b,ym1 k (fun (v0:Int) (p2:List Int) (v1:Int×(List Int)) (x3:Int)=>some true) (fun (v0:Int)=>some false) (l,(n:Int)) q (i:Int)=some b∧(b=false→∀i,¬Pth (Un l) i i)∧(b=true→∃i,Pth (Un l) i i):=by
    intro m;induction m with
    | zero=>
      intro q i h hq hp;obtain ⟨q,rfl⟩:∃z,q=z+1:=⟨q-1,by omega⟩
      refine ⟨false,if_neg (show ¬decide ((i:Int)<(n:Int))=true by simp;omega),fun _ a ha=> ?_,fun h=>by cases h⟩
      have:(a:Int)<mxl l:=by
        cases ha with
        | one h=>exact h.2
        | more _ h=>exact h.2
      rw [hn] at this;exact hp a (by omega) ha
    | succ m ih=>
      intro q i h hq hp;obtain ⟨q,rfl⟩:∃z,q=z+1:=⟨q-1,by omega⟩
      have c:decide ((i:Int)<(n:Int))=true:=by simp;omega
      have e2:IntKind.i64.wrap ((i:Int)+1)=((i+1:Nat):Int):=by rw [y9 (by omega) (by omega)];omega
      obtain ⟨st,s1,s2,s3,s4⟩:=xr9 (k:=k) l n i hn hl hN hnN (by omega)
      rcases us1 (k:=k) (ym1 k (fun (v0:Int) (p2:List Int) (v1:Int×(List Int)) (x3:Int)=>some true) (fun (v0:Int)=>some false) (l,(n:Int)) q (IntKind.i64.wrap ((i:Int)+1))) l i hn hl hnN hN (by omega) (n+1) k 0 st (by omega) (by omega) (by omega) s2 (fun a ha=>by omega) (fun z hz=> .one (s4 z hz)) with ⟨r,rp⟩ | ⟨r,S,t1,t2,t3⟩
      · exact ⟨true,(if_pos c).trans ((bs s1).trans r),(fun h=>by cases h),fun _=>⟨i,rp⟩⟩
      · obtain ⟨b,b1,b2⟩:=ih q (i+1) (by omega) (by omega) (fun a ha hpt=>by
          by_cases e:a=i
          · subst e;have all:∀y:Nat,Pth (Un l) a y→(y:Int) ∈ S:=by
              intro y hy;induction hy with
              | one h=>exact t1 _ (s3 _ h)
              | more _ h ih=>exact t3 _ ih _ (by simpa using h)
            exact t2 _ (all a hpt) rfl
          · exact hp a (by omega) hpt)
        rw [←e2] at b1;exact ⟨b,(if_pos c).trans ((bs s1).trans (r.trans b1)),b2⟩
  obtain ⟨b,b1,b2⟩:=key n k 0 (by omega) (by omega) (fun a ha=>by omega)
  exact ⟨b,e0.trans b1,b2⟩
end Go.Proofs.YtkgjmgaccfmhpaaGreat.World
namespace Go.Proofs.YtkgjmgaccfmhpaaGreat.World
open Go Go.V Go.Proofs
set_option linter.unusedVariables false
set_option linter.unusedSimpArgs false
set_option maxRecDepth 100000
set_option maxHeartbeats 4000000
/-! ### safe mixes -/
theorem x85 {R:Type} (i n:Int) (A B:Option R):(if decide (i<n)=true then if 0≤i then if i<n then A else none else none else B)=if decide (i<n)=true then if 0≤i then A else none else B:=by
 by_cases h:i<n
 · rw [if_pos h]
 · rw [if_neg (by simpa using h),if_neg (by simpa using h)]
theorem yya {N:Nat} {p:j2} {d:Int} (hr:va N j4 p) (hN:N≤1048576) (l:List Int):∀x ∈ wpa p d l,x.length≤N:=by
  intro x hx;obtain ⟨a,ha,he⟩:=List.mem_filterMap.1 hx;have h3:=(jl3 (k:=N+5) p a d hr hN (Nat.le_refl _)).2.2;cases ht:tbl p a d with
  | none=>rw [ht] at he;cases he
  | some t=>
    rw [ht] at he;rw [j23 ht] at h3
    obtain rfl:t.2.2=x:=by simpa using he
    exact h3
theorem wma {N:Nat} {p:j2} {d:Int} (hr:va N j4 p) (hN:N≤1048576) (l:List Int):∀x ∈ yta p d l,x.length≤N:=by
 intro x hx;obtain ⟨a,ha,he⟩:=List.mem_map.1 hx;have h3:=(jl3 (k:=N+5) p a d hr hN (Nat.le_refl _)).2.2;rw [he] at h3;exact h3
theorem ymb {k N:Nat} (p:j2) (d a b:Int) (hr:va N j4 p) (hN:N≤1048576) (hk:N+40≤k):
    ∃c,y23 k p d a b=some c∧(c=true↔∀i,¬Pth (Un (wpa p d (pcs a b 0 p.2.2.2))) i i):=by
  obtain ⟨k,rfl⟩:=jt (d:=0) (show 1≤k by omega)
  have h1:p.2.2.2.length≤N:=(vd hr.2.2.2).1;have hp:=yh8 a b p.2.2.2 0;have hm:=zwa p d (pcs a b 0 p.2.2.2);obtain ⟨c,c1,c2,c3⟩:=whb (k:=k) (wpa p d (pcs a b 0 p.2.2.2)) (N:=N) (by omega) (yya hr hN _) hN (by omega)
  have e0:=(vt8 k p d a b).trans (bs (wz6 p a b (by omega) (by omega)))
  refine ⟨!c,e0.trans ?_,fun h=>c2 (by simpa using h),fun h=> ?_⟩
  rotate_left
  · cases hc:c with
    | false=>rfl
    | true=>
      obtain ⟨i,hi⟩:=c3 hc;exact absurd hi (h i)
  generalize hl:pcs a b 0 p.2.2.2=l at*;refine (yc2 (L:=vt2 k (fun v0=>(jr k v0.2).bind fun p2=>some (!p2)) (d,p,l)) (a:=l) (fun (s:List (List Int)) i=>(i,s)) (fun s i r=>(jr k (s++wpa p d r)).bind fun p2=>some (!p2)) (X:=fun s _=>(jr k s).bind fun p2=>some (!p2)) (fun s i=>s.length≤i) (fun _ _ _=>x85 _ _ _ _) (by omega) (fun s _=>by simp [wpa]) (fun n i s x r hI h0 ht hw hi hx ih=> ?_) (by omega) [] (by simp)).trans ?_
  · dsimp only;refine (bs (jl3 p x d hr hN (by omega)).1).trans ?_
    rw [hw];cases hq:tbl p x d with
    | none=>
      rw [w35 hq,if_neg (by decide),ih s (by omega)]
      show _=(jr k (s++(x::r).filterMap _)).bind _
      rw [List.filterMap_cons,hq];rfl
    | some t=>
      rw [j23 hq,if_pos rfl,if_pos (by simp;omega),ih _ (by simp;omega)]
      show _=(jr k (s++(x::r).filterMap _)).bind _
      rw [List.filterMap_cons,hq];simp [wpa]
  · show (jr k ([]++wpa p d l)).bind _=_
    rw [List.nil_append,c1];rfl
theorem jnb {k N:Nat} (p:j2) (d a b:Int) (hr:va N j4 p) (hN:N≤1048576) (hk:2*N+40≤k):
    ∃c,z33 k p d a b=some c∧(c=true↔∀R i,Closed (yta p d (pcs a b 0 p.2.2.2)) R→¬R i):=by
  obtain ⟨k,rfl⟩:=jt (d:=0) (show 1≤k by omega)
  have h1:p.2.2.2.length≤N:=(vd hr.2.2.2).1;have hp:=yh8 a b p.2.2.2 0;obtain ⟨c,c1,c3,c2⟩:=wib (k:=k) (yta p d (pcs a b 0 p.2.2.2)) (N:=N) (by simp only [yta,List.length_map];omega) (wma hr hN _) hN (by omega)
  have e0:=(vh8 k p d a b).trans (bs (y07 p a b (by omega) (by omega)))
  refine ⟨!c,e0.trans ?_,fun h R i hR hi=>(by have:=c2 R i hR hi;rw [this] at h;cases h),fun h=> ?_⟩
  rotate_left
  · cases hc:c with
    | false=>rfl
    | true=>
      obtain ⟨R,x,h1,h2⟩:=c3 hc;exact absurd h2 (h R x h1)
  generalize hl:pcs a b 0 p.2.2.2=l at*;refine (yc2 (L:=wr2 k (fun v0=>(js k v0.2).bind fun p2=>some (!p2)) (d,(l.length:Int),p,l)) (a:=l) (fun (s:List (List Int)) i=>(i,s)) (fun s i r=>(js k (s++yta p d r)).bind fun p2=>some (!p2)) (X:=fun s _=>(js k s).bind fun p2=>some (!p2)) (fun s i=>s.length≤i) (fun _ _ _=>x85 _ _ _ _) (by omega) (fun s _=>by simp [yta]) (fun n i s x r hI h0 ht hw hi hx ih=> ?_) (by omega) [] (by simp)).trans ?_
  · dsimp only;refine (bs (jl3 p x d hr hN (by omega)).2.1).trans ?_
    rw [hw,if_pos (by simp;omega),ih _ (by simp;omega)]
    simp [yta]
  · show (js k ([]++yta p d l)).bind _=_
    rw [List.nil_append,c1];rfl
/-! ### a loop, a set that is never left -/
theorem Pth.first {E:Nat→Nat→Prop} {a b:Nat} (h:Pth E a b):∃c,E a c∧(c=b∨Pth E c b):=by
  induction h with
  | one h=>exact ⟨_,h,.inl rfl⟩
  | more _ e ih=>
    obtain ⟨c,h1,h2⟩:=ih;rcases h2 with rfl | h2
    · exact ⟨_,h1,.inr (.one e)⟩
    · exact ⟨_,h1,.inr (.more h2 e)⟩
theorem wt6 {l:List (List Int)} {i:Nat} (h:Pth (Un l) i i):∃R x,Closed l R∧R x:=by
 refine ⟨fun y=>Pth (Un l) y i,i,fun y hy=> ?_,h⟩
 obtain ⟨c,h1,h2⟩:=hy.first;obtain ⟨row,hr,hc⟩:=h1.1;refine ⟨row,hr,c,hc,?_⟩
 rcases h2 with rfl | h2
 · exact h
 · exact h2
theorem yt6 {l:List (List Int)} {R:Nat→Prop} {x:Nat} (hR:Closed l R) (hx:R x):∃i,Pth (Un l) i i:=by
 obtain ⟨m1,m2⟩:=zz8 l 0;obtain ⟨n,hn⟩:∃n:Nat,mxl l=(n:Int):=⟨(mxl l).toNat,by unfold mxl at*;omega⟩
 have hlt:∀y,R y→(y:Int)<mxl l:=fun y hy=>by
  obtain ⟨row,hr,c,hc,_⟩:=hR y hy;have h1:=(List.getElem?_eq_some_iff.1 hc).1
  have h2:=m2 row hr;unfold mxl;omega
 have step:∀y:{y // R y},∃z:{z // R z},Un l y.1 z.1:=fun ⟨y,hy⟩=>by
  obtain ⟨row,hr,c,hc,hRc⟩:=hR y hy;exact ⟨⟨c,hRc⟩,⟨row,hr,hc⟩,hlt c hRc⟩
 let f:Nat→{y // R y}:=fun j=>Nat.rec ⟨x,hx⟩ (fun _ y=>Classical.choose (step y)) j
 have hf:∀j,Un l (f j).1 (f (j+1)).1:=fun j=>Classical.choose_spec (step (f j))
 have hp:∀j a,Pth (Un l) (f a).1 (f (a+j+1)).1:=by
  intro j;induction j with
  | zero=>intro a;exact .one (hf a)
  | succ j ih=>intro a;exact .more (ih a) (hf (a+j+1))
 by_cases hex:∃a b,a<b∧b≤n∧(f a).1=(f b).1
 · obtain ⟨a,b,hab,_,he⟩:=hex;refine ⟨(f a).1,?_⟩
   have:=hp (b-a-1) a
   rw [show a+(b-a-1)+1=b by omega,←he] at this
   exact this
 · exfalso;have hnd:((List.range (n+1)).map fun j=>(((f j).1:Nat):Int)).Nodup:=by
    rw [List.nodup_iff_pairwise_ne,List.pairwise_map,List.pairwise_iff_getElem];intro a b ha hb hab he;have hb':b<n+1:=by simpa using hb
    rw [List.getElem_range,List.getElem_range] at he;exact hex ⟨a,b,hab,by omega,Int.ofNat_inj.1 he⟩
   have:=zg7 n _ hnd (fun y hy=>by
    obtain ⟨j,_,rfl⟩:=List.mem_map.1 hy;have h1:=hlt _ (f j).2;rw [hn] at h1;exact ⟨Int.natCast_nonneg _,h1⟩)
   simp only [List.length_map,List.length_range] at this;omega
theorem x47 {p:j2} {d:Int} {l:List Int} {R:Nat→Prop}:Closed (yta p d l) R↔Closed (wpa p d l) R:=by
  constructor
  · intro h x hx;obtain ⟨row,hr,y,hy,hRy⟩:=h x hx;obtain ⟨a,ha,rfl⟩:=List.mem_map.1 hr;cases hq:tbl p a d with
    | none=>rw [w35 hq] at hy;simp at hy
    | some t=>
      rw [j23 hq] at hy;exact ⟨t.2.2,List.mem_filterMap.2 ⟨a,ha,by rw [hq];rfl⟩,y,hy,hRy⟩
  · intro h x hx;obtain ⟨row,hr,y,hy,hRy⟩:=h x hx;obtain ⟨a,ha,he⟩:=List.mem_filterMap.1 hr;cases hq:tbl p a d with
    | none=>rw [hq] at he;cases he
    | some t=>
      rw [hq] at he
      obtain rfl:t.2.2=row:=by simpa using he
      exact ⟨t.2.2,List.mem_map.2 ⟨a,ha,by rw [j23 hq]⟩,y,hy,hRy⟩
/-- Both sides hold the same mixes safe. -/
theorem ywb {k N:Nat} (p:j2) (d a b:Int) (hr:va N j4 p) (hN:N≤1048576) (hk:2*N+40≤k):
 ∃c,y23 k p d a b=some c∧z33 k p d a b=some c:=by
 obtain ⟨c,c1,c2⟩:=ymb (k:=k) p d a b hr hN (by omega)
 obtain ⟨e,e1,e2⟩:=jnb (k:=k) p d a b hr hN (by omega)
 have:c=e:=by
  rw [Bool.eq_iff_iff,c2,e2];constructor
  · intro h R i hR hi;obtain ⟨j,hj⟩:=yt6 (x47.1 hR) hi;exact h j hj
  · intro h i hi;obtain ⟨R,x,h1,h2⟩:=wt6 hi;exact h R x (x47.2 h1) h2
 subst this;exact ⟨c,c1,e1⟩
end Go.Proofs.YtkgjmgaccfmhpaaGreat.World
namespace Go.Proofs.YtkgjmgaccfmhpaaGreat.World
open Go Go.V Go.Proofs
set_option linter.unusedVariables false
set_option linter.unusedSimpArgs false
set_option maxRecDepth 100000
set_option maxHeartbeats 4000000
/-! ### numbers in jw5 of a key, then of themselves -/
def key (ds:List Int) (x:Int):Int:=(ds[x.toNat]?).getD 0
def zo5 (ds:List Int) (x:Int):Prop:=0≤x∧x.toNat<ds.length
def ltx (ds:List Int) (x y:Int):Prop:=key ds x<key ds y∨(key ds x=key ds y∧x<y)
theorem v95 {ds:List Int} {x y z:Int} (h1:ltx ds x y) (h2:ltx ds y z):ltx ds x z:=by
 unfold ltx at*;omega
theorem zy8 {k:Nat} {ds nx:List Int} {x y a:Int} (hx:zo5 ds x) (hy:zo5 ds y) (hk:4≤k):∃c,xg2 k x y a ds nx=some c∧decide (c<0)=decide (key ds x<key ds y):=by
 obtain ⟨k,rfl⟩:=jt (d:=0) (show 1≤k by omega)
 obtain ⟨k,rfl⟩:=jt (d:=0) (show 1≤k by omega)
 obtain ⟨k,rfl⟩:=jt (d:=0) (show 1≤k by omega)
 have h1:ds[x.toNat]? =some (key ds x):=by unfold key;rw [List.getElem?_eq_getElem hx.2];rfl
 have h2:ds[y.toNat]? =some (key ds y):=by unfold key;rw [List.getElem?_eq_getElem hy.2];rfl
 have e:=(jr8 (k+1+1) x y a ds nx).trans ((if_pos hx.1).trans ((v7 h1 _).trans ((if_pos hy.1).trans (v7 h2 _))));have c:=(xb7 (k+1) (key ds x) (key ds y)).trans ((bs (z74 k _)).trans (bs (z74 k _)));have f1:¬(key ds x !=key ds x)=true:=by simp
 have f2:¬(key ds y !=key ds y)=true:=by simp
 have c:=c.trans ((if_neg f1).trans (if_neg f2));by_cases h:key ds x<key ds y
 · have c:=c.trans (if_pos (decide_eq_true h));exact ⟨-1,e.trans ((bs c).trans rfl),by rw [decide_eq_true h];rfl⟩
 · have c:=c.trans (if_neg (by rw [decide_eq_false h];decide))
   rw [decide_eq_false h];by_cases h2:key ds x>key ds y
   · have c:=c.trans (if_pos (decide_eq_true h2));exact ⟨1,e.trans ((bs c).trans rfl),rfl⟩
   · have c:=c.trans (if_neg (by rw [decide_eq_false h2];decide))
     exact ⟨0,e.trans ((bs c).trans rfl),rfl⟩
/-! ### rows, by their parts -/
theorem job {α:Type} (P S:List α) (x:α):(P++x::S)[P.length]? =some x:=by simp
theorem v8a {α:Type} (P S:List α) (x y:α):(P++x::S).set P.length y=P++y::S:=by simp
theorem wp4 {α:Type} {v P S:List α} {x:α} {n:Nat} (h:v=P++x::S) (hn:P.length=n):v[n]? =some x:=by subst h;subst hn;exact job P S x
theorem w88 {α:Type} {v P S:List α} {x y:α} {n:Nat} (h:v=P++y::x::S) (hn:P.length+1=n):v[n]? =some x:=
 wp4 (P:=P++[y]) (S:=S) (by rw [h];simp) (by simpa using hn)
theorem vv8 {α:Type} {v P S:List α} {x y:α} {n:Nat} (h:v=P++y::x::S) (hn:P.length=n):(v.set (n+1) y).set n x=P++x::y::S:=by
 subst h;subst hn;simp
theorem wq9 {α:Type} {v P S:List α} {x y:α} {n:Nat} (h:v=P++y::x::S) (hn:P.length=n):(v.set n x).set (n+1) y=P++x::y::S:=by
 subst h;subst hn;simp
theorem jk1 {i:Int} (h0: -4611686018427387904≤i) (h1:i≤4611686018427387904):IntKind.i64.wrap i=i:=y9 (by omega) (by omega)
/-! ### a number is set in its place -/
theorem zwb {R:Type} {k:Nat} {ds nx:List Int} {X0:j3→Int→Int→Int→Option R} {X1:j3→Option R} {a b z i:Int} (Y:List Int→Option R) (hX0:∀v x y p,X0 v x y p=Y v.2) (hX1:∀v,X1 v=Y v.2) (hk:4≤k)
    (P:List Int) (x:Int) (hx:zo5 ds x) (ha:(P.length:Int)=a):∀(m:Nat) (L1 L2 T:List Int),L1.length<m→(∀y ∈ L1,zo5 ds y)→(P++L1++x::L2++T).length≤1048576→
      ∃M1 M2,L1=M1++M2∧vf k X0 X1 (a,b,z,ds,nx,i) m (((P++L1).length:Int),P++L1++x::L2++T)=Y (P++M1++x::(M2++L2)++T)∧(∀y,M1.getLast? =some y→¬key ds x<key ds y)∧(∀y ∈ M2,key ds x<key ds y):=by
  intro m;induction m with
  | zero=>intro L1 L2 T h;omega
  | succ m ih=>
    intro L1 L2 T hm hg hlen;rcases List.eq_nil_or_concat L1 with rfl | ⟨L,y,rfl⟩
    · refine ⟨[],[],rfl,?_,by simp,by simp⟩
      show (if ((decide (((P++[]).length:Int)>a))==true)=true then _ else X1 _)=_
      refine (if_neg (by rw [decide_eq_false (by simp;omega)];decide)).trans ?_
      rw [hX1];simp
    · rw [List.concat_eq_append] at*;have hy:zo5 ds y:=hg y (by simp)
      have hv:P++(L++[y])++x::L2++T=(P++L)++y::x::(L2++T):=by simp
      have hn:((P++(L++[y])).length:Int)=((P++L).length:Int)+1:=by simp;omega
      rw [hv] at hlen ⊢;have hlen':(P++L).length+2+(L2++T).length≤1048576:=by simp at hlen ⊢;omega
      have hlv:((P++L)++y::x::(L2++T)).length=(P++L).length+2+(L2++T).length:=by simp;omega
      generalize hq:(P++L).length=q at hn hlen' hlv;generalize hvv:(P++L)++y::x::(L2++T)=v at hlv;rw [hn];have w1:IntKind.i64.wrap (((q:Int)+1)-1)=(q:Int):=by rw [jk1 (by omega) (by omega)];omega
      have t1:((q:Int)+1).toNat=q+1:=by omega
      have t0:(q:Int).toNat=q:=by omega
      have hx1:v[((q:Int)+1).toNat]? =some x:=by rw [t1];exact w88 hvv.symm (by omega)
      have hy1:v[(q:Int).toNat]? =some y:=by rw [t0];exact wp4 hvv.symm hq
      obtain ⟨c,hc,hcd⟩:=zy8 (k:=k) (nx:=nx) (a:=z) hx hy hk;show ∃M1 M2,_∧(if ((decide (((q:Int)+1)>a))==true)=true then _ else _)=_∧_
      have hgt:((decide (((q:Int)+1)>a))==true)=true:=by rw [decide_eq_true (by simp at hq;omega)];rfl
      rw [if_pos hgt];dsimp only;rw [w1,if_pos (by omega),if_pos (by omega),v7 hx1,if_pos (by omega),if_pos (by omega),v7 hy1,hc,Option.bind_some]
      by_cases h:key ds x<key ds y
      · rw [if_pos (by rw [hcd];exact decide_eq_true h),if_pos (by omega),if_pos (by omega),v7 hy1,if_pos (by omega),if_pos (by omega),v7 hx1,if_pos (by omega),if_pos (by omega),v7 hx1,if_pos (by omega),if_pos (by rw [List.length_set];omega)]
        have hy2:(v.set ((q:Int)+1).toNat y)[(q:Int).toNat]? =some y:=by rw [List.getElem?_set_ne (by omega)];exact hy1
        rw [v7 hy2,t1,t0,vv8 hvv.symm hq];obtain ⟨M1,M2,e1,e2,e3,e4⟩:=ih L (y::L2) T (by simp at hm;omega) (fun z hz=>hg z (by simp [hz])) (by have:=hq;simp at this hlen' ⊢;omega)
        refine ⟨M1,M2++[y],by rw [e1];simp,?_,e3,?_⟩
        · have e2':vf k X0 X1 (a,b,z,ds,nx,i) m ((q:Int),P++L++x::y::(L2++T))=Y (P++M1++x::(M2++y::L2)++T):=by
            rw [←e2,←hq];simp
          rw [e2'];simp
        · intro u hu;rcases List.mem_append.1 hu with hu | hu
          · exact e4 u hu
          · rw [List.mem_singleton.1 hu];exact h
      · rw [if_neg (by rw [hcd,decide_eq_false h];decide)]
        refine ⟨L++[y],[],by simp,?_,?_,by simp⟩
        · rw [hX0,←hvv];simp
        · intro u hu
          have:y=u:=by simpa using hu
          rw [←this];exact h
/-- What holds of a sorted part and a later number that stands among it. -/
theorem yh9 {ds:List Int} {x:Int} {M1 M2:List Int} (hs:(M1++M2).Pairwise (ltx ds)) (hlt:∀y ∈ M1++M2,y<x) (h1:∀y,M1.getLast? =some y→¬key ds x<key ds y) (h2:∀y ∈ M2,key ds x<key ds y):(M1++x::M2).Pairwise (ltx ds):=by
 rw [List.pairwise_append] at hs ⊢;obtain ⟨p1,p2,p3⟩:=hs;refine ⟨p1,List.pairwise_cons.2 ⟨fun y hy=> .inl (h2 y hy),p2⟩,fun u hu y hy=> ?_⟩
 have hux:ltx ds u x:=by
  rcases List.eq_nil_or_concat M1 with rfl | ⟨M,l,rfl⟩
  · simp at hu
  · rw [List.concat_eq_append] at*;have hl:=h1 l (by simp)
    have hlx:ltx ds l x:=by
     have:=hlt l (by simp)
     unfold ltx;omega
    rcases List.mem_append.1 hu with hu | hu
    · have:=(List.pairwise_append.1 p1).2.2 u hu l (by simp)
      exact v95 this hlx
    · rw [List.mem_singleton.1 hu];exact hlx
 rcases List.mem_cons.1 hy with rfl | hy
 · exact hux
 · exact p3 u hu y hy
theorem j6b {R:Type} {k:Nat} {ds nx:List Int} {X:v6→Option R} {a b z:Int} (Y:List Int→Option R) (hX:∀v,X v=Y v.2)
    (P T:List Int) (ha:(P.length:Int)=a):∀(M:List Int) (m:Nat) (N D:List Int),M.length<m→N.length+M.length+10≤k→(∀y ∈ D++M,zo5 ds y)→N.Perm D→N.Pairwise (ltx ds)→(D++M).Pairwise (· < ·)→((P++N).length+M.length:Int)=b→(P++N++M++T).length≤1048576→
      ∃Q,Q.Perm (D++M)∧Q.Pairwise (ltx ds)∧wd k X (a,b,z,ds,nx) m (((P++N).length:Int),P++N++M++T)=Y (P++Q++T)
  | [],m+1,N,D,_,_,hg,hp,hs,hlt,hb,hlen=>by
    refine ⟨N,by simpa using hp,hs,?_⟩
    show (if (decide (((P++N).length:Int)<b))=true then _ else X _)=_
    refine (if_neg (by rw [decide_eq_false (by simp at hb ⊢;omega)];decide)).trans ?_
    rw [hX];simp
  | x::M,m+1,N,D,hm,hk,hg,hp,hs,hlt,hb,hlen=>by
    have hx:zo5 ds x:=hg x (by simp)
    show ∃Q,_∧_∧(if (decide (((P++N).length:Int)<b))=true then _ else X _)=_
    rw [if_pos (decide_eq_true (by simp at hb ⊢;omega))]
    have hND:∀y ∈ N,y<x:=fun y hy=>by
      have:=(List.pairwise_append.1 hlt).2.2 y (hp.mem_iff.1 hy) x (by simp)
      exact this
    obtain ⟨M1,M2,e1,e2,e3,e4⟩:=zwb (k:=k) (ds:=ds) (nx:=nx) (a:=a) (b:=b) (z:=z) (i:=((P++N).length:Int)) (X0:=fun v1 _ _ _=>wd k X (a,b,z,ds,nx) m ((IntKind.i64.wrap (((P++N).length:Int)+1)),v1.2)) (X1:=fun v1=>wd k X (a,b,z,ds,nx) m ((IntKind.i64.wrap (((P++N).length:Int)+1)),v1.2)) (fun v=>wd k X (a,b,z,ds,nx) m ((IntKind.i64.wrap (((P++N).length:Int)+1)),v)) (fun _ _ _ _=>rfl) (fun _=>rfl) (by omega) P x hx ha k N [] (M++T) (by simp at hk;omega) (fun y hy=>hg y (by simp [hp.mem_iff.1 hy])) (by simp at hlen ⊢;omega)
    have hpre:P++N++x::M++T=P++N++x::[]++(M++T):=by simp
    have hlp:(P++(M1++x::M2)).length=(P++N).length+1:=by rw [e1];simp;omega
    have hNl:N.length=M1.length+M2.length:=by rw [e1];simp
    obtain ⟨Q,q1,q2,q3⟩:=j6b (k:=k) (ds:=ds) (nx:=nx) (X:=X) (a:=a) (b:=b) (z:=z) Y hX P T ha M m (M1++x::M2) (D++[x]) (by simp at hm;omega) (by simp at hk ⊢;omega) (by simpa using hg)
      (by
        refine (List.perm_middle (l₁:=M1) (l₂:=M2) (a:=x)).trans ?_
        rw [←e1];exact (List.Perm.cons x hp).trans (List.perm_append_singleton x D).symm)
      (yh9 (by rw [←e1];exact hs) (by rw [←e1];exact hND) e3 e4) (by simpa using hlt) (by rw [hlp];simp at hb ⊢;omega) (by simp at hlen ⊢;omega)
    refine ⟨Q,by simpa using q1,q2,?_⟩
    rw [←q3,hpre];refine e2.trans ?_
    have hw:IntKind.i64.wrap (((P++N).length:Int)+1)=((P++(M1++x::M2)).length:Int):=by
      rw [hlp,jk1 (by omega) (by simp at hlen ⊢;omega)];omega
    rw [hw];simp
end Go.Proofs.YtkgjmgaccfmhpaaGreat.World
namespace Go.Proofs.YtkgjmgaccfmhpaaGreat.World
open Go Go.V Go.Proofs
set_option linter.unusedVariables false
set_option linter.unusedSimpArgs false
set_option maxRecDepth 100000
set_option maxHeartbeats 4000000
/-! ### two parts change places -/
theorem v4b {R:Type} {k:Nat} {X:za→Option R} {a b n:Int} (Y:List Int→Option R) (hX:∀v,X v=Y v.2) (P Q S:List Int) (ha:a=(P.length:Int)):
    ∀(U2 V2:List Int) (m:Nat) (V1 U1:List Int),U2.length=V2.length→V1.length=U1.length→U2.length<m→b=((P.length+V1.length+U2.length+Q.length:Nat):Int)→n=((V1.length+U2.length:Nat):Int)→(P++V1++U2++Q++U1++V2++S).length≤1048576→
      vl k X (a,b,n) m ((V1.length:Int),P++V1++U2++Q++U1++V2++S)=Y (P++(V1++V2)++Q++(U1++U2)++S)
  | [],V2,m+1,V1,U1,h1,h2,hm,hb,hn,hl=>by
    have hV:V2=[]:=by cases V2 with
      | nil=>rfl
      | cons y V=>simp at h1
    subst hV;show (if (decide ((V1.length:Int)<n))=true then _ else X _)=_
    refine (if_neg (by rw [decide_eq_false (by simp at hn;omega)];decide)).trans ?_
    rw [hX];simp
  | x::U2,[],m+1,V1,U1,h1,_,_,_,_,_=>by simp at h1
  | x::U2,y::V2,m+1,V1,U1,h1,h2,hm,hb,hn,hl=>by
    have hlen:(P++V1++x::U2++Q++U1++y::V2++S).length=P.length+V1.length+(U2.length+1)+Q.length+U1.length+(V2.length+1)+S.length:=by simp;omega
    rw [hlen] at hl;generalize hv:P++V1++x::U2++Q++U1++y::V2++S=v at hlen;have ev1:v=(P++V1)++x::(U2++Q++U1++y::V2++S):=by rw [←hv];simp
    have ev2:v=(P++V1++x::U2++Q++U1)++y::(V2++S):=by rw [←hv];simp
    simp only [List.length_cons] at hb hn;have wa:IntKind.i64.wrap (a+(V1.length:Int))=((P.length+V1.length:Nat):Int):=by rw [ha,jk1 (by omega) (by omega)];omega
    have wb:IntKind.i64.wrap (b+(V1.length:Int))=((P.length+V1.length+(U2.length+1)+Q.length+U1.length:Nat):Int):=by rw [hb,jk1 (by omega) (by omega)];omega
    have hx:v[((P.length+V1.length:Nat):Int).toNat]? =some x:=wp4 ev1 (by simp;omega)
    have hy:v[((P.length+V1.length+(U2.length+1)+Q.length+U1.length:Nat):Int).toNat]? =some y:=wp4 ev2 (by simp;omega)
    have es:(v.set ((P.length+V1.length:Nat):Int).toNat y).set ((P.length+V1.length+(U2.length+1)+Q.length+U1.length:Nat):Int).toNat x=P++(V1++[y])++U2++Q++(U1++[x])++V2++S:=by
      have e1:v.set ((P.length+V1.length:Nat):Int).toNat y=(P++V1++y::U2++Q++U1)++y::(V2++S):=by
        have:((P.length+V1.length:Nat):Int).toNat=(P++V1).length:=by simp;omega
        rw [this,ev1,v8a];simp
      have e2:((P.length+V1.length+(U2.length+1)+Q.length+U1.length:Nat):Int).toNat=(P++V1++y::U2++Q++U1).length:=by simp;omega
      rw [e1,e2,v8a];simp
    have hy2:(v.set ((P.length+V1.length:Nat):Int).toNat y)[((P.length+V1.length+(U2.length+1)+Q.length+U1.length:Nat):Int).toNat]? =some y:=by rw [List.getElem?_set_ne (by omega)];exact hy
    show (if (decide ((V1.length:Int)<n))=true then _ else X _)=_
    rw [if_pos (decide_eq_true (by omega))]
    dsimp only;rw [wa,wb,if_pos (by omega),if_pos (by omega),v7 hy,if_pos (by omega),if_pos (by omega),v7 hx,if_pos (by omega),if_pos (by omega),v7 hx,if_pos (by omega),if_pos (by rw [List.length_set];omega),v7 hy2,es]
    have hw:IntKind.i64.wrap ((V1.length:Int)+1)=((V1++[y]).length:Int):=by rw [jk1 (by omega) (by omega)];simp
    rw [hw,v4b Y hX P Q S ha U2 V2 m (V1++[y]) (U1++[x]) (by simpa using h1) (by simpa using h2) (by simp at hm;omega) (by rw [hb];simp;omega) (by rw [hn];simp;omega) (by simp;omega)]
    simp
theorem jm9 {k:Nat} {a b n z:Int} {ds nx:List Int} (P U Q V S:List Int) (hUV:U.length=V.length) (ha:a=(P.length:Int)) (hb:b=((P.length+U.length+Q.length:Nat):Int)) (hn:n=(U.length:Int)) (hl:(P++U++Q++V++S).length≤1048576) (hk:U.length+2≤k):
 xe k (P++U++Q++V++S) a b n z ds nx=some (P++V++Q++U++S):=by
 obtain ⟨k,rfl⟩:=jt (d:=0) (show 1≤k by omega)
 have h:=v4b (k:=k) (X:=fun v0=>some v0.2) (a:=a) (b:=b) (n:=n) (fun v=>some v) (fun _=>rfl) P Q S ha U V k [] [] hUV rfl (by omega) (by rw [hb];simp) (by rw [hn];simp) (by simpa using hl)
 refine (yd2 k _ a b n z ds nx).trans (Eq.trans ?_ (h.trans ?_))
 · simp
 · simp
/-! ### two parts that stand side by side change places -/
theorem wdb {k:Nat} {z mm:Int} {ds nx:List Int} {X:yd→Option (List Int)} (hX:∀v,X v=(xe k v.2.2 (IntKind.i64.wrap (mm-v.1)) mm v.1 z ds nx).bind fun p1=>some p1):
    ∀(m:Nat) (P U V S:List Int),U.length+V.length<m→0<U.length→0<V.length→mm=((P.length+U.length:Nat):Int)→(P++U++V++S).length≤1048576→U.length+V.length+2≤k→
      yn k X (mm,z,ds,nx) m ((U.length:Int),(V.length:Int),P++U++V++S)=some (P++V++U++S)
  | 0,P,U,V,S,h,_,_,_,_,_=>by omega
  | m+1,P,U,V,S,hm,hU,hV,hmm,hl,hk=>by
    have hl':P.length+U.length+V.length+S.length≤1048576:=by simp at hl;omega
    have wm:IntKind.i64.wrap (mm-(U.length:Int))=(P.length:Int):=by rw [hmm,jk1 (by omega) (by omega)];omega
    show (if ((U.length:Int) !=(V.length:Int))=true then _ else X _)=_
    by_cases hne:U.length=V.length
    · refine (if_neg (by rw [hne];simp)).trans ?_
      rw [hX];dsimp only;have h:=jm9 (k:=k) (a:=(P.length:Int)) (b:=mm) (n:=(U.length:Int)) (z:=z) (ds:=ds) (nx:=nx) P U [] V S hne rfl (by rw [hmm];simp) rfl (by simpa using hl) (by omega)
      rw [wm];simp only [List.append_nil] at h;rw [h];rfl
    · have hc:((U.length:Int) !=(V.length:Int))=true:=by
        rw [bne_iff_ne];omega
      refine (if_pos hc).trans ?_
      by_cases hgt:V.length<U.length
      · refine (if_pos (decide_eq_true (show (U.length:Int)>(V.length:Int) by omega))).trans ?_
        have hsplit:U=U.take V.length++U.drop V.length:=(List.take_append_drop _ _).symm;have l1:(U.take V.length).length=V.length:=by simp;omega
        have l2:(U.drop V.length).length=U.length-V.length:=by simp
        generalize U.take V.length=U1 at hsplit l1;generalize U.drop V.length=U2 at hsplit l2;dsimp only;rw [wm];have hsw:=jm9 (k:=k) (a:=(P.length:Int)) (b:=mm) (n:=(V.length:Int)) (z:=z) (ds:=ds) (nx:=nx) P U1 U2 V S l1 rfl (by rw [hmm,hsplit];simp;omega) (by rw [l1]) (by rw [hsplit] at hl;simpa using hl) (by omega)
        have ev:P++U++V++S=P++U1++U2++V++S:=by rw [hsplit];simp
        rw [ev,hsw,Option.bind_some];have hw:IntKind.i64.wrap ((U.length:Int)-(V.length:Int))=(U2.length:Int):=by rw [jk1 (by omega) (by omega)];omega
        rw [hw];have ih:=wdb hX m (P++V) U2 U1 S (by omega) (by omega) (by omega) (by rw [hmm];simp;omega) (by rw [hsplit] at hl;simp at hl ⊢;omega) (by omega)
        rw [l1] at ih;rw [ih,hsplit];simp
      · refine (if_neg (by rw [decide_eq_false (show ¬(U.length:Int)>(V.length:Int) by omega)];decide)).trans ?_
        have hsplit:V=V.take (V.length-U.length)++V.drop (V.length-U.length):=(List.take_append_drop _ _).symm;have l1:(V.take (V.length-U.length)).length=V.length-U.length:=by simp
        have l2:(V.drop (V.length-U.length)).length=U.length:=by simp;omega
        generalize V.take (V.length-U.length)=V1 at hsplit l1;generalize V.drop (V.length-U.length)=V2 at hsplit l2;dsimp only;have wj:IntKind.i64.wrap (IntKind.i64.wrap (mm+(V.length:Int))-(U.length:Int))=((P.length+U.length+V1.length:Nat):Int):=by
          rw [hmm,jk1 (i:=((P.length+U.length:Nat):Int)+(V.length:Int)) (by omega) (by omega),jk1 (by omega) (by omega)];omega
        rw [wm,wj];have hsw:=jm9 (k:=k) (a:=(P.length:Int)) (b:=((P.length+U.length+V1.length:Nat):Int)) (n:=(U.length:Int)) (z:=z) (ds:=ds) (nx:=nx) P U V1 V2 S l2.symm rfl rfl rfl (by rw [hsplit] at hl;simpa using hl) (by omega)
        have ev:P++U++V++S=P++U++V1++V2++S:=by rw [hsplit];simp
        rw [ev,hsw,Option.bind_some];have hw:IntKind.i64.wrap ((V.length:Int)-(U.length:Int))=(V1.length:Int):=by rw [jk1 (by omega) (by omega)];omega
        rw [hw];have ih:=wdb hX m P V2 V1 (U++S) (by omega) (by omega) (by omega) (by rw [hmm,l2]) (by rw [hsplit] at hl;simp at hl ⊢;omega) (by omega)
        rw [l2] at ih;have ev2:P++V2++V1++U++S=P++V2++V1++(U++S):=by simp
        rw [ev2,ih,hsplit];simp
theorem yxb {k:Nat} {a mm b z:Int} {ds nx:List Int} (P U V S:List Int) (hU:0<U.length) (hV:0<V.length) (ha:a=(P.length:Int)) (hm:mm=((P.length+U.length:Nat):Int)) (hb:b=((P.length+U.length+V.length:Nat):Int)) (hl:(P++U++V++S).length≤1048576) (hk:U.length+V.length+4≤k):
 ye k (P++U++V++S) a mm b z ds nx=some (P++V++U++S):=by
 obtain ⟨k,rfl⟩:=jt (d:=0) (show 1≤k by omega)
 have hl':P.length+U.length+V.length+S.length≤1048576:=by simp at hl;omega
 have w1:IntKind.i64.wrap (mm-a)=(U.length:Int):=by rw [hm,ha,jk1 (by omega) (by omega)];omega
 have w2:IntKind.i64.wrap (b-mm)=(V.length:Int):=by rw [hm,hb,jk1 (by omega) (by omega)];omega
 refine (jn2 k _ a mm b z ds nx).trans ?_
 rw [w1,w2];exact wdb (fun _=>rfl) k P U V S (by omega) hU hV hm hl (by omega)
end Go.Proofs.YtkgjmgaccfmhpaaGreat.World
namespace Go.Proofs.YtkgjmgaccfmhpaaGreat.World
open Go Go.V Go.Proofs
set_option linter.unusedVariables false
set_option linter.unusedSimpArgs false
set_option maxRecDepth 100000
set_option maxHeartbeats 4000000
theorem yc7 {i j:Nat} (h1:i≤1048576) (h2:j≤1048576):IntKind.i64.wrap (((IntKind.u64.wrap (IntKind.i64.wrap ((i:Int)+(j:Int))))).fdiv (2^(min (1:Int).toNat IntKind.u64.bits)))=(((i+j) / 2:Nat):Int):=by
 have e1:IntKind.i64.wrap ((i:Int)+(j:Int))=((i+j:Nat):Int):=by rw [y9 (by omega) (by omega)];omega
 have e2:IntKind.u64.wrap ((i+j:Nat):Int)=((i+j:Nat):Int):=by
  rw [show IntKind.u64.wrap ((i+j:Nat):Int)=((i+j:Nat):Int)%18446744073709551616 from rfl];omega
 have e3:(2:Int)^(min (1:Int).toNat IntKind.u64.bits)=2:=by decide
 rw [e1,e2,e3];have e4:Int.fdiv ((i+j:Nat):Int) 2=(((i+j) / 2:Nat):Int):=by
  rw [Int.fdiv_eq_ediv_of_nonneg _ (by omega)];omega
 rw [e4,y9 (by omega) (by omega)]
/-- A search by halves: what holds where it stops. -/
theorem za8 {R:Type} {L:Nat→Int×Int→Option R} {X:Int×Int→Option R} (q:Nat→Bool) (lo hi:Nat)
    (hstep:∀(n i j:Nat),lo≤i→i<j→j≤hi→L (n+1) ((i:Int),(j:Int))=if q ((i+j) / 2)=true then L n ((i:Int),(((i+j) / 2:Nat):Int)) else L n ((((i+j) / 2+1:Nat):Int),(j:Int)))
    (hend:∀(n i:Nat),lo≤i→i≤hi→L (n+1) ((i:Int),(i:Int))=X ((i:Int),(i:Int))):
    ∀(m i j:Nat),j-i<m→lo≤i→i≤j→j≤hi→(lo<i→q (i-1)=false)→(j<hi→q j=true)→
      ∃s:Nat,lo≤s∧s≤hi∧L m ((i:Int),(j:Int))=X ((s:Int),(s:Int))∧(lo<s→q (s-1)=false)∧(s<hi→q s=true):=by
  intro m;induction m with
  | zero=>intro i j h;omega
  | succ m ih=>
    intro i j hm hi hij hj h1 h2;by_cases hlt:i<j
    · rw [hstep m i j hi hlt hj];cases hq:q ((i+j) / 2) with
      | true=>
        rw [if_pos rfl];exact ih i ((i+j) / 2) (by omega) hi (by omega) (by omega) h1 (fun _=>hq)
      | false=>
        rw [if_neg (by decide)]
        exact ih ((i+j) / 2+1) j (by omega) (by omega) (by omega) hj (fun _=>by simpa using hq) h2
    · have:i=j:=by omega
      subst this;exact ⟨i,hi,hj,hend m i hi hj,h1,h2⟩
def at0 (v:List Int) (h:Nat):Int:=(v[h]?).getD 0
theorem xl3 {v:List Int} {h:Nat} (hh:h<v.length):v[h]? =some (at0 v h):=by
 unfold at0;rw [List.getElem?_eq_getElem hh];rfl
theorem vh5 {v:List Int} {h:Nat} (hh:h<v.length):at0 v h ∈ v:=List.mem_of_getElem? (xl3 hh)
theorem vq2 {v P S:List Int} {x:Int} {n:Nat} (h:v=P++x::S) (hn:P.length=n):at0 v n=x:=by unfold at0;rw [wp4 h hn];rfl
theorem sm0 {R:Type} {k:Nat} {X:xb→Option R} {z a2 a3:Int} {ds nx:List Int} (v:List Int) (A M B:Nat) (hg:∀y ∈ v,zo5 ds y) (hl:v.length≤1048576) (hA:A<v.length) (hB:B≤v.length) (hMB:M≤B) (hk:4≤k) (m:Nat) (hm:B-M<m):
 ∃s:Nat,M≤s∧s≤B∧yf k X ((A:Int),a2,a3,z,ds,nx,v) m ((M:Int),(B:Int))=X ((s:Int),(s:Int))∧(M<s→key ds (at0 v (s-1))<key ds (at0 v A))∧(s<B→¬key ds (at0 v s)<key ds (at0 v A)):=by
 obtain ⟨s,h1,h2,h3,h4,h5⟩:=za8 (L:=yf k X ((A:Int),a2,a3,z,ds,nx,v)) (X:=X) (fun h=> !decide (key ds (at0 v h)<key ds (at0 v A))) M B (fun n i j hi hij hj=>by
  have hmid:=yc7 (i:=i) (j:=j) (by omega) (by omega)
  have hml:(i+j) / 2<v.length:=by omega
  have hx:v[(((i+j) / 2:Nat):Int).toNat]? =some (at0 v ((i+j) / 2)):=xl3 hml;have hy:v[((A:Nat):Int).toNat]? =some (at0 v A):=xl3 hA;obtain ⟨c,hc,hcd⟩:=zy8 (k:=k) (nx:=nx) (a:=z) (hg _ (vh5 hml)) (hg _ (vh5 hA)) hk;show (if (decide ((i:Int)<(j:Int)))=true then _ else X _)=_
  rw [if_pos (decide_eq_true (by omega))]
  dsimp only;rw [hmid,if_pos (by omega),if_pos (by omega),v7 hx,if_pos (by omega),if_pos (by omega),v7 hy,hc,Option.bind_some,hcd]
  rw [show IntKind.i64.wrap ((((i+j) / 2:Nat):Int)+1)=(((i+j) / 2+1:Nat):Int) by rw [jk1 (by omega) (by omega)];omega]
  cases decide (key ds (at0 v ((i+j) / 2))<key ds (at0 v A))<;>rfl)
  (fun n i hi hj=>by
   show (if (decide ((i:Int)<(i:Int)))=true then _ else X _)=_
   exact if_neg (by simp)) m M B hm (Nat.le_refl _) hMB (Nat.le_refl _) (fun h=>absurd h (by omega)) (fun h=>absurd h (by omega))
 refine ⟨s,h1,h2,h3,fun h=> ?_,fun h=> ?_⟩
 · simpa using h4 h
 · have:=h5 h
   simp only [Bool.not_eq_true',decide_eq_false_iff_not] at this;exact this
theorem sm2 {R:Type} {k:Nat} {X:zb→Option R} {z a1 a3:Int} {ds nx:List Int} (v:List Int) (A M:Nat) (hg:∀y ∈ v,zo5 ds y) (hl:v.length≤1048576) (hM:M<v.length) (hAM:A≤M) (hk:4≤k) (m:Nat) (hm:M-A<m):
 ∃s:Nat,A≤s∧s≤M∧xf k X (a1,(M:Int),a3,z,ds,nx,v) m ((A:Int),(M:Int))=X ((s:Int),(s:Int))∧(A<s→¬key ds (at0 v M)<key ds (at0 v (s-1)))∧(s<M→key ds (at0 v M)<key ds (at0 v s)):=by
 obtain ⟨s,h1,h2,h3,h4,h5⟩:=za8 (L:=xf k X (a1,(M:Int),a3,z,ds,nx,v)) (X:=X) (fun h=>decide (key ds (at0 v M)<key ds (at0 v h))) A M (fun n i j hi hij hj=>by
  have hmid:=yc7 (i:=i) (j:=j) (by omega) (by omega)
  have hml:(i+j) / 2<v.length:=by omega
  have hx:v[(((i+j) / 2:Nat):Int).toNat]? =some (at0 v ((i+j) / 2)):=xl3 hml;have hy:v[((M:Nat):Int).toNat]? =some (at0 v M):=xl3 hM;obtain ⟨c,hc,hcd⟩:=zy8 (k:=k) (nx:=nx) (a:=z) (hg _ (vh5 hM)) (hg _ (vh5 hml)) hk;show (if (decide ((i:Int)<(j:Int)))=true then _ else X _)=_
  rw [if_pos (decide_eq_true (by omega))]
  dsimp only;rw [hmid,if_pos (by omega),if_pos (by omega),v7 hy,if_pos (by omega),if_pos (by omega),v7 hx,hc,Option.bind_some,hcd]
  rw [show IntKind.i64.wrap ((((i+j) / 2:Nat):Int)+1)=(((i+j) / 2+1:Nat):Int) by rw [jk1 (by omega) (by omega)];omega]
  cases decide (key ds (at0 v M)<key ds (at0 v ((i+j) / 2)))<;>rfl)
  (fun n i hi hj=>by
   show (if (decide ((i:Int)<(i:Int)))=true then _ else X _)=_
   exact if_neg (by simp)) m A M hm (Nat.le_refl _) hAM (Nat.le_refl _) (fun h=>absurd h (by omega)) (fun h=>absurd h (by omega))
 refine ⟨s,h1,h2,h3,fun h=> ?_,fun h=> ?_⟩
 · have:=h4 h
   simp only [decide_eq_false_iff_not] at this;exact this
 · simpa using h5 h
theorem sm4 {R:Type} {k:Nat} {X:ja→Option R} {z a1 a2 a3 mid n':Int} {ds nx:List Int} (v:List Int) (lo hi p:Nat) (hg:∀y ∈ v,zo5 ds y) (hl:v.length≤1048576) (hle:lo≤hi) (hr:∀c,lo≤c→c<hi→c<v.length∧c≤p∧p-c<v.length) (hhi:hi≤1048576) (hp:p≤2097152) (hk:4≤k) (m:Nat) (hm:hi-lo<m):
 ∃s:Nat,lo≤s∧s≤hi∧v8 k X (a1,a2,a3,z,ds,nx,mid,n',(p:Int),v) m ((lo:Int),(hi:Int))=X ((s:Int),(s:Int))∧(lo<s→¬key ds (at0 v (p-(s-1)))<key ds (at0 v (s-1)))∧(s<hi→key ds (at0 v (p-s))<key ds (at0 v s)):=by
 obtain ⟨s,h1,h2,h3,h4,h5⟩:=za8 (L:=v8 k X (a1,a2,a3,z,ds,nx,mid,n',(p:Int),v)) (X:=X) (fun h=>decide (key ds (at0 v (p-h))<key ds (at0 v h))) lo hi (fun n i j hi hij hj=>by
  have hmid:=yc7 (i:=i) (j:=j) (by omega) (by omega)
  obtain ⟨g1,g2,g3⟩:=hr ((i+j) / 2) (by omega) (by omega)
  have hx:v[(((i+j) / 2:Nat):Int).toNat]? =some (at0 v ((i+j) / 2)):=xl3 g1;have hpc:IntKind.i64.wrap ((p:Int)-(((i+j) / 2:Nat):Int))=((p-(i+j) / 2:Nat):Int):=by rw [jk1 (by omega) (by omega)];omega
  have hy:v[((p-(i+j) / 2:Nat):Int).toNat]? =some (at0 v (p-(i+j) / 2)):=xl3 g3;obtain ⟨c,hc,hcd⟩:=zy8 (k:=k) (nx:=nx) (a:=z) (hg _ (vh5 g3)) (hg _ (vh5 g1)) hk;show (if (decide ((i:Int)<(j:Int)))=true then _ else X _)=_
  rw [if_pos (decide_eq_true (by omega))]
  dsimp only;rw [hmid,hpc,if_pos (by omega),if_pos (by omega),v7 hy,if_pos (by omega),if_pos (by omega),v7 hx,hc,Option.bind_some,hcd]
  rw [show IntKind.i64.wrap ((((i+j) / 2:Nat):Int)+1)=(((i+j) / 2+1:Nat):Int) by rw [jk1 (by omega) (by omega)];omega]
  cases decide (key ds (at0 v (p-(i+j) / 2))<key ds (at0 v ((i+j) / 2)))<;>rfl)
  (fun n i hi hj=>by
   show (if (decide ((i:Int)<(i:Int)))=true then _ else X _)=_
   exact if_neg (by simp)) m lo hi hm (Nat.le_refl _) hle (Nat.le_refl _) (fun h=>absurd h (by omega)) (fun h=>absurd h (by omega))
 refine ⟨s,h1,h2,h3,fun h=> ?_,fun h=> ?_⟩
 · have:=h4 h
   simp only [decide_eq_false_iff_not] at this;exact this
 · simpa using h5 h
/-- A number moves to the right. -/
theorem sm1 {R:Type} {k:Nat} {X:yb→Option R} {z a1 a2 a3 s s':Int} {ds nx:List Int} (Y:List Int→Option R) (hX:∀v,X v=Y v.2) (x:Int):∀(C:List Int) (m:Nat) (P T:List Int),C.length<m→s=((P.length+C.length+1:Nat):Int)→(P++x::C++T).length≤1048576→
      vi k X (a1,a2,a3,z,ds,nx,s,s') m ((P.length:Int),P++x::C++T)=Y (P++C++x::T)
  | [],m+1,P,T,hm,hs,hl=>by
    have hl':P.length+1+T.length≤1048576:=by simp at hl;omega
    have hs1:s=(P.length:Int)+1:=by simpa using hs
    have hw:IntKind.i64.wrap (s-1)=(P.length:Int):=by rw [hs1,jk1 (by omega) (by omega)];omega
    show (if (decide ((P.length:Int)<IntKind.i64.wrap (s-1)))=true then _ else X _)=_
    rw [hw];refine (if_neg (by simp)).trans ?_
    rw [hX];simp
  | y::C,m+1,P,T,hm,hs,hl=>by
    have hl':P.length+2+C.length+T.length≤1048576:=by simp at hl;omega
    have ev:P++x::(y::C)++T=P++x::y::(C++T):=by simp
    have hlen:(P++x::y::(C++T)).length=P.length+2+C.length+T.length:=by simp;omega
    rw [ev];generalize hv:P++x::y::(C++T)=v at hlen;simp only [List.length_cons] at hs;have hw:IntKind.i64.wrap (s-1)=((P.length+C.length+1:Nat):Int):=by rw [hs,jk1 (by omega) (by omega)];omega
    have hw1:IntKind.i64.wrap ((P.length:Int)+1)=((P.length+1:Nat):Int):=by rw [jk1 (by omega) (by omega)];omega
    have hx:v[(P.length:Int).toNat]? =some x:=wp4 hv.symm (by simp)
    have hy:v[((P.length+1:Nat):Int).toNat]? =some y:=w88 hv.symm (by simp)
    show (if (decide ((P.length:Int)<IntKind.i64.wrap (s-1)))=true then _ else X _)=_
    rw [hw,if_pos (decide_eq_true (by omega))]
    dsimp only;have hy2:(v.set (P.length:Int).toNat y)[((P.length+1:Nat):Int).toNat]? =some y:=by rw [List.getElem?_set_ne (by omega)];exact hy
    rw [hw1,if_pos (by omega),if_pos (by omega),v7 hy,if_pos (by omega),if_pos (by omega),v7 hx,if_pos (by omega),if_pos (by omega),v7 hx,if_pos (by omega),if_pos (by rw [List.length_set];omega),v7 hy2]
    have es:(v.set (P.length:Int).toNat y).set ((P.length+1:Nat):Int).toNat x=(P++[y])++x::C++T:=by
      rw [show (P.length:Int).toNat=P.length by omega,show ((P.length+1:Nat):Int).toNat=P.length+1 by omega,wq9 hv.symm rfl];simp
    have ep:((P.length+1:Nat):Int)=((P++[y]).length:Int):=by simp
    rw [es,ep,sm1 Y hX x C m (P++[y]) T (by simp at hm;omega) (by rw [hs];simp;omega) (by simp;omega)]
    simp
/-- A number moves to the left. -/
theorem sm3 {R:Type} {k:Nat} {X:jb→Option R} {z a1 a2 a3 s s':Int} {ds nx:List Int} (Y:List Int→Option R) (hX:∀v,X v=Y v.2) (P:List Int) (y:Int) (hs:s=(P.length:Int)):∀(m:Nat) (C T:List Int),C.length<m→(P++C++y::T).length≤1048576→
      yi k X (a1,a2,a3,z,ds,nx,s,s') m (((P.length+C.length:Nat):Int),P++C++y::T)=Y (P++y::C++T):=by
  intro m;induction m with
  | zero=>intro C T h;omega
  | succ m ih=>
    intro C T hm hl;rcases List.eq_nil_or_concat C with rfl | ⟨C,u,rfl⟩
    · show (if (decide (((P.length+([]:List Int).length:Nat):Int)>s))=true then _ else X _)=_
      refine (if_neg (by rw [hs];simp)).trans ?_
      rw [hX];simp
    · rw [List.concat_eq_append] at*;have hl':P.length+C.length+2+T.length≤1048576:=by simp at hl;omega
      have ev:P++(C++[u])++y::T=(P++C)++u::y::T:=by simp
      have hlen:((P++C)++u::y::T).length=P.length+C.length+2+T.length:=by simp;omega
      have ei:((P.length+(C++[u]).length:Nat):Int)=((P.length+C.length+1:Nat):Int):=by simp;omega
      rw [ev,ei];generalize hv:(P++C)++u::y::T=v at hlen;have hq:(P++C).length=P.length+C.length:=by simp
      have hw:IntKind.i64.wrap (((P.length+C.length+1:Nat):Int)-1)=((P.length+C.length:Nat):Int):=by rw [jk1 (by omega) (by omega)];omega
      have hu:v[((P.length+C.length:Nat):Int).toNat]? =some u:=wp4 hv.symm (by rw [hq];omega)
      have hy:v[((P.length+C.length+1:Nat):Int).toNat]? =some y:=w88 hv.symm (by rw [hq];omega)
      show (if (decide (((P.length+C.length+1:Nat):Int)>s))=true then _ else X _)=_
      rw [if_pos (decide_eq_true (by omega))]
      dsimp only;have hu2:(v.set ((P.length+C.length+1:Nat):Int).toNat u)[((P.length+C.length:Nat):Int).toNat]? =some u:=by rw [List.getElem?_set_ne (by omega)];exact hu
      rw [hw,if_pos (by omega),if_pos (by omega),v7 hu,if_pos (by omega),if_pos (by omega),v7 hy,if_pos (by omega),if_pos (by omega),v7 hy,if_pos (by omega),if_pos (by rw [List.length_set];omega),v7 hu2]
      have es:(v.set ((P.length+C.length+1:Nat):Int).toNat u).set ((P.length+C.length:Nat):Int).toNat y=P++C++y::(u::T):=by
        rw [show ((P.length+C.length:Nat):Int).toNat=P.length+C.length by omega,show ((P.length+C.length+1:Nat):Int).toNat=P.length+C.length+1 by omega,vv8 hv.symm hq]
      rw [es,ih C (u::T) (by simp at hm;omega) (by simp;omega)]
      simp
/-! ### two sorted parts become one -/
theorem below {ds:List Int} {A B:List Int} (hA:A.Pairwise (ltx ds)) (hB:B.Pairwise (ltx ds)) (h:∀y,A.getLast? =some y→∀z,B.head? =some z→ltx ds y z):∀x ∈ A,∀z ∈ B,ltx ds x z:=by
  intro x hx z hz;rcases List.eq_nil_or_concat A with rfl | ⟨C,l,rfl⟩
  · simp at hx
  rw [List.concat_eq_append] at*;cases B with
  | nil=>simp at hz
  | cons u B=>
    have h1:ltx ds l u:=h l (by simp) u rfl
    have h2:ltx ds x u:=by
      rcases List.mem_append.1 hx with hx | hx
      · exact v95 ((List.pairwise_append.1 hA).2.2 x hx l (by simp)) h1
      · rw [List.mem_singleton.1 hx];exact h1
    rcases List.mem_cons.1 hz with rfl | hz
    · exact h2
    · exact v95 h2 ((List.pairwise_cons.1 hB).1 z hz)
theorem xw8 {ds:List Int} {A B:List Int} (hA:A.Pairwise (ltx ds)) (hB:B.Pairwise (ltx ds)) (h:∀y,A.getLast? =some y→∀z,B.head? =some z→ltx ds y z):(A++B).Pairwise (ltx ds):=
 List.pairwise_append.2 ⟨hA,hB,below hA hB h⟩
end Go.Proofs.YtkgjmgaccfmhpaaGreat.World
namespace Go.Proofs.YtkgjmgaccfmhpaaGreat.World
open Go Go.V Go.Proofs
set_option linter.unusedVariables false
set_option linter.unusedSimpArgs false
set_option maxRecDepth 100000
set_option maxHeartbeats 4000000
noncomputable def zlb (k:Nat) (z:Int) (ds nx:List Int) (b mid en:Int) (q:List Int):Option (List Int):=if ((decide (mid<en))==true)=true then if (decide (en<b))=true then (j0 k q mid en b z ds nx).bind fun p3=>some p3 else some q else some q
noncomputable def xlb (k:Nat) (z:Int) (ds nx:List Int) (a s b mid en:Int) (q:List Int):Option (List Int):=if ((decide (a<s))==true)=true then if (decide (s<mid))=true then (j0 k q a s mid z ds nx).bind fun p2=>zlb k z ds nx b mid en p2 else zlb k z ds nx b mid en q else zlb k z ds nx b mid en q
noncomputable def zib (k:Nat) (z:Int) (ds nx:List Int) (a s m b mid en:Int) (q:List Int):Option (List Int):=if ((decide (s<m))==true)=true then if (decide (m<en))=true then (ye k q s m en z ds nx).bind fun p1=>xlb k z ds nx a s b mid en p1 else xlb k z ds nx a s b mid en q else xlb k z ds nx a s b mid en q
theorem yyb (k:Nat) (v:List Int) (a m b z:Int) (ds nx:List Int) (mid n:Int) (hmid:IntKind.i64.wrap (((IntKind.u64.wrap (IntKind.i64.wrap (a+b)))).fdiv (2^(min (1:Int).toNat IntKind.u64.bits)))=mid) (hn:IntKind.i64.wrap (mid+m)=n) (h1:¬((IntKind.i64.wrap (m-a))==1)=true) (h2:¬((IntKind.i64.wrap (b-m))==1)=true):
 j0 (k+1) v a m b z ds nx=if (decide (m>mid))=true then
  v8 k (fun v4=>zib k z ds nx a v4.1 m b mid (IntKind.i64.wrap (n-v4.1)) v) (a,m,b,z,ds,nx,mid,n,(IntKind.i64.wrap (n-1)),v) k ((IntKind.i64.wrap (n-b)),mid)
  else v8 k (fun v4=>zib k z ds nx a v4.1 m b mid (IntKind.i64.wrap (n-v4.1)) v) (a,m,b,z,ds,nx,mid,n,(IntKind.i64.wrap (n-1)),v) k (a,m):=by
 refine (jv k v a m b z ds nx).trans ((if_neg h1).trans ((if_neg h2).trans ?_))
 rw [hmid,hn];rfl
theorem v15 {α:Type} {l:List α} {y:α} (h:l.getLast? =some y):∃C,l=C++[y]:=by
 rcases List.eq_nil_or_concat l with rfl | ⟨C,u,rfl⟩
 · simp at h
 · rw [List.concat_eq_append] at*
   have:u=y:=by simpa using h
   exact ⟨C,by rw [this]⟩
theorem ws4 {α:Type} {l:List α} {y:α} (h:l.head? =some y):∃C,l=y::C:=by
  cases l with
  | nil=>simp at h
  | cons u C=>
    have:u=y:=by simpa using h
    exact ⟨C,by rw [this]⟩
theorem vmb {ds nx:List Int} {z:Int} {N:Nat} (hN:N≤1048576):∀(n k:Nat) (P L R S:List Int),L.length+R.length≤n→0<L.length→0<R.length→n+N+20≤k→(P++L++R++S).length≤N→(∀y ∈ P++L++R++S,zo5 ds y)→L.Pairwise (ltx ds)→R.Pairwise (ltx ds)→(∀x ∈ L,∀y ∈ R,x<y)→
    ∃Q,Q.Perm (L++R)∧Q.Pairwise (ltx ds)∧j0 k (P++L++R++S) (P.length:Int) ((P.length+L.length:Nat):Int) ((P.length+L.length+R.length:Nat):Int) z ds nx=some (P++Q++S):=by
  intro n;induction n with
  | zero=>intro k P L R S h h1;omega
  | succ n ih=>
    intro k P L R S hn hL0 hR0 hk hlen hg hL hR hX;obtain ⟨k,rfl⟩:=jt (d:=0) (show 1≤k by omega)
    have hl':P.length+L.length+R.length+S.length≤N:=by simp at hlen;omega
    have hvl:(P++L++R++S).length=P.length+L.length+R.length+S.length:=by simp;omega
    have w1:IntKind.i64.wrap (((P.length+L.length:Nat):Int)-(P.length:Int))=(L.length:Int):=by rw [jk1 (by omega) (by omega)];omega
    have w2:IntKind.i64.wrap (((P.length+L.length+R.length:Nat):Int)-((P.length+L.length:Nat):Int))=(R.length:Int):=by rw [jk1 (by omega) (by omega)];omega
    by_cases hL1:L.length=1
    · obtain ⟨x,rfl⟩:∃x,L=[x]:=by
        cases L with
        | nil=>simp at hL0
        | cons x L=>cases L with
          | nil=>exact ⟨x,rfl⟩
          | cons y L=>simp at hL1
      have e0:=(jv k (P++[x]++R++S) (P.length:Int) ((P.length+[x].length:Nat):Int) ((P.length+[x].length+R.length:Nat):Int) z ds nx).trans (if_pos (by rw [w1];rfl))
      simp only [List.length_singleton] at e0 hl' hvl hn ⊢;obtain ⟨s,s1,s2,e,c1,c2⟩:=sm0 (k:=k) (X:=fun v0=>vi k (fun v1=>some v1.2) ((P.length:Int),((P.length+1:Nat):Int),((P.length+1+R.length:Nat):Int),z,ds,nx,v0.1,v0.2) k ((P.length:Int),P++[x]++R++S)) (z:=z) (a2:=((P.length+1:Nat):Int)) (a3:=((P.length+1+R.length:Nat):Int)) (ds:=ds) (nx:=nx) (P++[x]++R++S) P.length (P.length+1) (P.length+1+R.length) hg (by omega) (by omega) (by omega) (by omega) (by omega) k (by omega)
      have e0:=e0.trans e;have hsplit:R=R.take (s-(P.length+1))++R.drop (s-(P.length+1)):=(List.take_append_drop _ _).symm;have l1:(R.take (s-(P.length+1))).length=s-(P.length+1):=by simp;omega
      have l2:(R.drop (s-(P.length+1))).length=P.length+1+R.length-s:=by simp;omega
      generalize R.take (s-(P.length+1))=R1 at hsplit l1;generalize R.drop (s-(P.length+1))=R2 at hsplit l2;subst hsplit;have ev:P++[x]++(R1++R2)++S=P++x::R1++(R2++S):=by simp
      dsimp only at e0;have e1:=sm1 (k:=k) (z:=z) (a1:=(P.length:Int)) (a2:=((P.length+1:Nat):Int)) (a3:=((P.length+1+(R1++R2).length:Nat):Int)) (s:=(s:Int)) (s':=(s:Int)) (ds:=ds) (nx:=nx) (X:=fun v1=>some v1.2) (fun v=>some v) (fun _=>rfl) x R1 k P (R2++S) (by omega) (by omega) (by rw [←ev];omega)
      rw [←ev] at e1;obtain ⟨p1,p2,p3⟩:=List.pairwise_append.1 hR;refine ⟨R1++x::R2,List.perm_middle,?_,?_⟩
      · refine xw8 p1 (xw8 (A:=[x]) (List.pairwise_singleton _ _) p2 ?_) ?_
        · intro y hy w hw
          have:x=y:=by simpa using hy
          subst this;obtain ⟨D,rfl⟩:=ws4 hw;have hat:at0 (P++[x]++(R1++w::D)++S) s=w:=vq2 (P:=P++x::R1) (S:=D++S) (by simp) (by simp;omega)
          have hat2:at0 (P++[x]++(R1++w::D)++S) P.length=x:=vq2 (P:=P) (S:=R1++w::D++S) (by simp) rfl
          have h:=c2 (by simp at l2 ⊢;omega)
          rw [hat,hat2] at h;have hlt:=hX x (by simp) w (by simp)
          unfold ltx;omega
        · intro y hy w hw
          have:w=x:=by simpa using hw.symm
          subst this;obtain ⟨C,rfl⟩:=v15 hy;have hat:at0 (P++[w]++(C++[y]++R2)++S) (s-1)=y:=vq2 (P:=P++w::C) (S:=R2++S) (by simp) (by simp at l1 ⊢;omega)
          have hat2:at0 (P++[w]++(C++[y]++R2)++S) P.length=w:=vq2 (P:=P) (S:=C++[y]++R2++S) (by simp) rfl
          have h:=c1 (by simp at l1;omega)
          rw [hat,hat2] at h;exact .inl h
      · refine e0.trans (e1.trans ?_)
        simp
    by_cases hR1:R.length=1
    · obtain ⟨y,rfl⟩:∃y,R=[y]:=by
        cases R with
        | nil=>simp at hR0
        | cons x R=>cases R with
          | nil=>exact ⟨x,rfl⟩
          | cons y R=>simp at hR1
      have e0:=(jv k (P++L++[y]++S) (P.length:Int) ((P.length+L.length:Nat):Int) ((P.length+L.length+[y].length:Nat):Int) z ds nx).trans ((if_neg (by rw [w1];simp;omega)).trans (if_pos (by rw [w2];rfl)))
      simp only [List.length_singleton] at e0 hl' hvl hn ⊢;obtain ⟨s,s1,s2,e,c1,c2⟩:=sm2 (k:=k) (X:=fun v2=>yi k (fun v3=>some v3.2) ((P.length:Int),((P.length+L.length:Nat):Int),((P.length+L.length+1:Nat):Int),z,ds,nx,v2.1,v2.2) k (((P.length+L.length:Nat):Int),P++L++[y]++S)) (z:=z) (a1:=(P.length:Int)) (a3:=((P.length+L.length+1:Nat):Int)) (ds:=ds) (nx:=nx) (P++L++[y]++S) P.length (P.length+L.length) hg (by omega) (by omega) (by omega) (by omega) k (by omega)
      have e0:=e0.trans e;have hsplit:L=L.take (s-P.length)++L.drop (s-P.length):=(List.take_append_drop _ _).symm;have l1:(L.take (s-P.length)).length=s-P.length:=by simp;omega
      have l2:(L.drop (s-P.length)).length=P.length+L.length-s:=by simp;omega
      generalize L.take (s-P.length)=L1 at hsplit l1;generalize L.drop (s-P.length)=L2 at hsplit l2;subst hsplit;have ev:P++(L1++L2)++[y]++S=(P++L1)++L2++y::S:=by simp
      have ei:((P.length+(L1++L2).length:Nat):Int)=(((P++L1).length+L2.length:Nat):Int):=by simp;omega
      dsimp only at e0;have e1:=sm3 (k:=k) (z:=z) (a1:=(P.length:Int)) (a2:=((P.length+(L1++L2).length:Nat):Int)) (a3:=((P.length+(L1++L2).length+1:Nat):Int)) (s:=(s:Int)) (s':=(s:Int)) (ds:=ds) (nx:=nx) (X:=fun v1=>some v1.2) (fun v=>some v) (fun _=>rfl) (P++L1) y (by simp;omega) k L2 S (by omega) (by rw [←ev];omega)
      rw [←ev,←ei] at e1;obtain ⟨p1,p2,p3⟩:=List.pairwise_append.1 hL;refine ⟨L1++y::L2,List.perm_middle.trans (List.perm_append_singleton y (L1++L2)).symm,?_,?_⟩
      · refine xw8 p1 (xw8 (A:=[y]) (List.pairwise_singleton _ _) p2 ?_) ?_
        · intro u hu w hw
          have:y=u:=by simpa using hu
          subst this;obtain ⟨D,rfl⟩:=ws4 hw;have hat:at0 (P++(L1++w::D)++[y]++S) s=w:=vq2 (P:=P++L1) (S:=D++y::S) (by simp) (by simp;omega)
          have hat2:at0 (P++(L1++w::D)++[y]++S) (P.length+(L1++w::D).length)=y:=vq2 (P:=P++(L1++w::D)) (S:=S) (by simp) (by simp)
          have h:=c2 (by simp at l2 ⊢;omega)
          rw [hat,hat2] at h;exact .inl h
        · intro u hu w hw
          have:w=y:=by simpa using hw.symm
          subst this;obtain ⟨C,rfl⟩:=v15 hu;have hat:at0 (P++(C++[u]++L2)++[w]++S) (s-1)=u:=vq2 (P:=P++C) (S:=L2++w::S) (by simp) (by simp at l1 ⊢;omega)
          have hat2:at0 (P++(C++[u]++L2)++[w]++S) (P.length+(C++[u]++L2).length)=w:=vq2 (P:=P++(C++[u]++L2)) (S:=S) (by simp) (by simp)
          have h:=c1 (by simp at l1;omega)
          rw [hat,hat2] at h;have hlt:=hX u (by simp) w (by simp)
          unfold ltx;omega
      · refine e0.trans (e1.trans ?_)
        simp
    · have hbig:P.length+L.length+R.length≤N:=by omega
      obtain ⟨mid,hmidE⟩:∃mid,mid=(P.length+(P.length+L.length+R.length)) / 2:=⟨_,rfl⟩;have hmid:=yc7 (i:=P.length) (j:=P.length+L.length+R.length) (by omega) (by omega)
      rw [←hmidE] at hmid;have hn':IntKind.i64.wrap ((mid:Int)+((P.length+L.length:Nat):Int))=((mid+(P.length+L.length):Nat):Int):=by rw [jk1 (by omega) (by omega)];omega
      have e0:=yyb k (P++L++R++S) (P.length:Int) ((P.length+L.length:Nat):Int) ((P.length+L.length+R.length:Nat):Int) z ds nx _ _ hmid hn' (by rw [w1];simp;omega) (by rw [w2];simp;omega)
      have wp:IntKind.i64.wrap (((mid+(P.length+L.length):Nat):Int)-1)=((mid+(P.length+L.length)-1:Nat):Int):=by rw [jk1 (by omega) (by omega)];omega
      rw [wp] at e0;obtain ⟨s,s1,s2,s3,s4,eS,c1,c2⟩:∃s:Nat,P.length≤s∧s≤P.length+L.length∧P.length+L.length≤mid+(P.length+L.length)-s∧mid+(P.length+L.length)-s≤P.length+L.length+R.length∧
          j0 (k+1) (P++L++R++S) (P.length:Int) ((P.length+L.length:Nat):Int) ((P.length+L.length+R.length:Nat):Int) z ds nx=zib k z ds nx (P.length:Int) (s:Int) ((P.length+L.length:Nat):Int) ((P.length+L.length+R.length:Nat):Int) (mid:Int) (IntKind.i64.wrap (((mid+(P.length+L.length):Nat):Int)-(s:Int))) (P++L++R++S)∧
          (P.length<s→mid+(P.length+L.length)-s<P.length+L.length+R.length→¬key ds (at0 (P++L++R++S) (mid+(P.length+L.length)-s))<key ds (at0 (P++L++R++S) (s-1)))∧
          (s<P.length+L.length→P.length+L.length<mid+(P.length+L.length)-s→key ds (at0 (P++L++R++S) (mid+(P.length+L.length)-s-1))<key ds (at0 (P++L++R++S) s)):=by
        by_cases hgt:mid<P.length+L.length
        · have e1:=e0.trans (if_pos (decide_eq_true (by omega)))
          have wlo:IntKind.i64.wrap (((mid+(P.length+L.length):Nat):Int)-((P.length+L.length+R.length:Nat):Int))=((mid+(P.length+L.length)-(P.length+L.length+R.length):Nat):Int):=by rw [jk1 (by omega) (by omega)];omega
          rw [wlo] at e1;obtain ⟨s,g1,g2,g3,g4,g5⟩:=sm4 (k:=k) (X:=fun v4=>zib k z ds nx (P.length:Int) v4.1 ((P.length+L.length:Nat):Int) ((P.length+L.length+R.length:Nat):Int) (mid:Int) (IntKind.i64.wrap (((mid+(P.length+L.length):Nat):Int)-v4.1)) (P++L++R++S)) (z:=z) (a1:=(P.length:Int)) (a2:=((P.length+L.length:Nat):Int)) (a3:=((P.length+L.length+R.length:Nat):Int)) (mid:=(mid:Int)) (n':=((mid+(P.length+L.length):Nat):Int)) (ds:=ds) (nx:=nx) (P++L++R++S) (mid+(P.length+L.length)-(P.length+L.length+R.length)) mid (mid+(P.length+L.length)-1) hg (by omega) (by omega) (fun c h1 h2=>⟨by omega,by omega,by omega⟩) (by omega) (by omega) (by omega) k (by omega)
          refine ⟨s,by omega,by omega,by omega,by omega,e1.trans g3,fun h h'=> ?_,fun h h'=> ?_⟩
          · have:=g4 (by omega)
            rwa [show mid+(P.length+L.length)-1-(s-1)=mid+(P.length+L.length)-s by omega] at this
          · have:=g5 (by omega)
            rwa [show mid+(P.length+L.length)-1-s=mid+(P.length+L.length)-s-1 by omega] at this
        · have e1:=e0.trans (if_neg (by rw [decide_eq_false (by omega)];decide))
          obtain ⟨s,g1,g2,g3,g4,g5⟩:=sm4 (k:=k) (X:=fun v4=>zib k z ds nx (P.length:Int) v4.1 ((P.length+L.length:Nat):Int) ((P.length+L.length+R.length:Nat):Int) (mid:Int) (IntKind.i64.wrap (((mid+(P.length+L.length):Nat):Int)-v4.1)) (P++L++R++S)) (z:=z) (a1:=(P.length:Int)) (a2:=((P.length+L.length:Nat):Int)) (a3:=((P.length+L.length+R.length:Nat):Int)) (mid:=(mid:Int)) (n':=((mid+(P.length+L.length):Nat):Int)) (ds:=ds) (nx:=nx) (P++L++R++S) P.length (P.length+L.length) (mid+(P.length+L.length)-1) hg (by omega) (by omega) (fun c h1 h2=>⟨by omega,by omega,by omega⟩) (by omega) (by omega) (by omega) k (by omega)
          refine ⟨s,by omega,by omega,by omega,by omega,e1.trans g3,fun h h'=> ?_,fun h h'=> ?_⟩
          · have:=g4 (by omega)
            rwa [show mid+(P.length+L.length)-1-(s-1)=mid+(P.length+L.length)-s by omega] at this
          · have:=g5 (by omega)
            rwa [show mid+(P.length+L.length)-1-s=mid+(P.length+L.length)-s-1 by omega] at this
      have wen:IntKind.i64.wrap (((mid+(P.length+L.length):Nat):Int)-(s:Int))=((mid+(P.length+L.length)-s:Nat):Int):=by rw [jk1 (by omega) (by omega)];omega
      rw [wen] at eS;obtain ⟨en,hen⟩:∃en,en=mid+(P.length+L.length)-s:=⟨_,rfl⟩;rw [←hen] at eS c1 c2 s3 s4;have hsL:L=L.take (s-P.length)++L.drop (s-P.length):=(List.take_append_drop _ _).symm;have l1:(L.take (s-P.length)).length=s-P.length:=by simp;omega
      have l2:(L.drop (s-P.length)).length=P.length+L.length-s:=by simp;omega
      have hsR:R=R.take (en-(P.length+L.length))++R.drop (en-(P.length+L.length)):=(List.take_append_drop _ _).symm;have r1:(R.take (en-(P.length+L.length))).length=en-(P.length+L.length):=by simp;omega
      have r2:(R.drop (en-(P.length+L.length))).length=P.length+L.length+R.length-en:=by simp;omega
      generalize L.take (s-P.length)=L1 at hsL l1;generalize L.drop (s-P.length)=L2 at hsL l2;generalize R.take (en-(P.length+L.length))=R1 at hsR r1;generalize R.drop (en-(P.length+L.length))=R2 at hsR r2;have hLl:L.length=L1.length+L2.length:=by rw [hsL];simp
      have hRl:R.length=R1.length+R2.length:=by rw [hsR];simp
      have ev:P++L++R++S=P++L1++L2++R1++(R2++S):=by rw [hsL,hsR];simp
      rw [hsL] at hL;rw [hsR] at hR;obtain ⟨pL1,pL2,pL3⟩:=List.pairwise_append.1 hL;obtain ⟨pR1,pR2,pR3⟩:=List.pairwise_append.1 hR;have hX':∀x,(x ∈ L1∨x ∈ L2)→∀y,(y ∈ R1∨y ∈ R2)→x<y:=fun x hx y hy=>hX x (by rw [hsL];exact List.mem_append.2 hx) y (by rw [hsR];exact List.mem_append.2 hy)
      -- the w57 parts change places
      have eT0:zib k z ds nx (P.length:Int) (s:Int) ((P.length+L.length:Nat):Int) ((P.length+L.length+R.length:Nat):Int) (mid:Int) (en:Int) (P++L++R++S)=xlb k z ds nx (P.length:Int) (s:Int) ((P.length+L.length+R.length:Nat):Int) (mid:Int) (en:Int) (P++L1++R1++(L2++R2++S)):=by
        unfold zib;by_cases hs:s<P.length+L.length
        · rw [if_pos (by rw [decide_eq_true (show (s:Int)<((P.length+L.length:Nat):Int) by omega)];rfl)]
          by_cases he:P.length+L.length<en
          · rw [if_pos (decide_eq_true (show ((P.length+L.length:Nat):Int)<(en:Int) by omega)),ev]
            have hrot:=yxb (k:=k) (a:=(s:Int)) (mm:=((P.length+L.length:Nat):Int)) (b:=(en:Int)) (z:=z) (ds:=ds) (nx:=nx) (P++L1) L2 R1 (R2++S) (by omega) (by omega) (by simp;omega) (by simp;omega) (by simp;omega) (by rw [←ev];omega) (by omega)
            rw [hrot,Option.bind_some];simp
          · rw [if_neg (by rw [decide_eq_false (show ¬((P.length+L.length:Nat):Int)<(en:Int) by omega)];decide),ev]
            have:R1=[]:=List.eq_nil_of_length_eq_zero (by omega)
            subst this;simp
        · rw [if_neg (by rw [decide_eq_false (show ¬(s:Int)<((P.length+L.length:Nat):Int) by omega)];decide),ev]
          have:L2=[]:=List.eq_nil_of_length_eq_zero (by omega)
          subst this;simp
      have hgm:∀y,(y ∈ P∨y ∈ L1∨y ∈ L2∨y ∈ R1∨y ∈ R2∨y ∈ S)→zo5 ds y:=fun y hy=>hg y (by rw [ev];simp only [List.mem_append];rcases hy with h | h | h | h | h | h<;>simp [h])
      -- the first half
      obtain ⟨Q1,q1p,q1s,eT1⟩:∃Q1,Q1.Perm (L1++R1)∧Q1.Pairwise (ltx ds)∧xlb k z ds nx (P.length:Int) (s:Int) ((P.length+L.length+R.length:Nat):Int) (mid:Int) (en:Int) (P++L1++R1++(L2++R2++S))=zlb k z ds nx ((P.length+L.length+R.length:Nat):Int) (mid:Int) (en:Int) (P++Q1++(L2++R2++S)):=by
        unfold xlb;by_cases hs:P.length<s
        · rw [if_pos (by rw [decide_eq_true (show (P.length:Int)<(s:Int) by omega)];rfl)]
          by_cases he:s<mid
          · rw [if_pos (decide_eq_true (show (s:Int)<(mid:Int) by omega))]
            obtain ⟨Q,a1,a2,a3⟩:=ih k P L1 R1 (L2++R2++S) (by omega) (by omega) (by omega) (by omega) (by simp;omega) (fun y hy=>hgm y (by simp only [List.mem_append] at hy;rcases hy with ((h | h) | h) | ((h | h) | h)<;>simp [h])) pL1 pR1 (fun x hx y hy=>hX' x (.inl hx) y (.inl hy))
            rw [show ((P.length+L1.length:Nat):Int)=(s:Int) by omega,show ((P.length+L1.length+R1.length:Nat):Int)=(mid:Int) by omega] at a3
            exact ⟨Q,a1,a2,by rw [a3,Option.bind_some]⟩
          · rw [if_neg (by rw [decide_eq_false (show ¬(s:Int)<(mid:Int) by omega)];decide)]
            have:R1=[]:=List.eq_nil_of_length_eq_zero (by omega)
            subst this;exact ⟨L1,by simp,pL1,by simp⟩
        · rw [if_neg (by rw [decide_eq_false (show ¬(P.length:Int)<(s:Int) by omega)];decide)]
          have:L1=[]:=List.eq_nil_of_length_eq_zero (by omega)
          subst this;exact ⟨R1,by simp,pR1,by simp⟩
      have q1l:Q1.length=L1.length+R1.length:=by rw [q1p.length_eq];simp
      have hgq:∀y ∈ Q1,zo5 ds y:=fun y hy=>hgm y (by have:=q1p.mem_iff.1 hy;simp only [List.mem_append] at this;rcases this with h | h<;>simp [h])
      -- the second half
      obtain ⟨Q2,q2p,q2s,eT2⟩:∃Q2,Q2.Perm (L2++R2)∧Q2.Pairwise (ltx ds)∧zlb k z ds nx ((P.length+L.length+R.length:Nat):Int) (mid:Int) (en:Int) (P++Q1++(L2++R2++S))=some (P++Q1++(Q2++S)):=by
        unfold zlb;by_cases hs:mid<en
        · rw [if_pos (by rw [decide_eq_true (show (mid:Int)<(en:Int) by omega)];rfl)]
          by_cases he:en<P.length+L.length+R.length
          · rw [if_pos (decide_eq_true (show (en:Int)<((P.length+L.length+R.length:Nat):Int) by omega))]
            obtain ⟨Q,a1,a2,a3⟩:=ih k (P++Q1) L2 R2 S (by omega) (by omega) (by omega) (by omega) (by simp;omega) (fun y hy=>by
              simp only [List.mem_append] at hy;rcases hy with (((h | h) | h) | h) | h
              · exact hgm y (.inl h)
              · exact hgq y h
              · exact hgm y (by simp [h])
              · exact hgm y (by simp [h])
              · exact hgm y (by simp [h])) pL2 pR2 (fun x hx y hy=>hX' x (.inr hx) y (.inr hy))
            rw [show (((P++Q1).length:Nat):Int)=(mid:Int) by simp;omega,show (((P++Q1).length+L2.length:Nat):Int)=(en:Int) by simp;omega,show (((P++Q1).length+L2.length+R2.length:Nat):Int)=((P.length+L.length+R.length:Nat):Int) by simp;omega] at a3
            refine ⟨Q,a1,a2,?_⟩
            rw [show P++Q1++(L2++R2++S)=P++Q1++L2++R2++S by simp,a3,Option.bind_some]
            simp
          · rw [if_neg (by rw [decide_eq_false (show ¬(en:Int)<((P.length+L.length+R.length:Nat):Int) by omega)];decide)]
            have:R2=[]:=List.eq_nil_of_length_eq_zero (by omega)
            subst this;exact ⟨L2,by simp,pL2,by simp⟩
        · rw [if_neg (by rw [decide_eq_false (show ¬(mid:Int)<(en:Int) by omega)];decide)]
          have:L2=[]:=List.eq_nil_of_length_eq_zero (by omega)
          subst this;exact ⟨R2,by simp,pR2,by simp⟩
      refine ⟨Q1++Q2,?_,?_,?_⟩
      · rw [hsL,hsR];refine (q1p.append q2p).trans ?_
        have e:(L1++L2)++(R1++R2)=L1++((L2++R1)++R2):=by simp
        have e':(L1++R1)++(L2++R2)=L1++((R1++L2)++R2):=by simp
        rw [e,e'];exact List.Perm.append_left L1 (List.Perm.append_right R2 List.perm_append_comm)
      · have b1:∀x ∈ L1,∀w ∈ R2,ltx ds x w:=below pL1 pR2 fun y hy w hw=>by
          have hyw:=hX' y (.inl (List.mem_of_getLast? hy)) w (.inr (List.mem_of_head? hw));obtain ⟨C,hC⟩:=v15 hy;obtain ⟨D,hD⟩:=ws4 hw;have h1:at0 (P++L++R++S) (s-1)=y:=vq2 (P:=P++C) (S:=L2++R1++R2++S) (by rw [ev,hC];simp) (by rw [hC] at l1;simp at l1 ⊢;omega)
          have h2:at0 (P++L++R++S) en=w:=vq2 (P:=P++L1++L2++R1) (S:=D++S) (by rw [ev,hD];simp) (by simp;omega)
          have hc:=c1 (by rw [hC] at l1;simp at l1;omega) (by rw [hD] at r2;simp at r2;omega)
          rw [h1,h2] at hc;unfold ltx;omega
        have b2:∀x ∈ R1,∀w ∈ L2,ltx ds x w:=below pR1 pL2 fun y hy w hw=>by
          obtain ⟨C,hC⟩:=v15 hy;obtain ⟨D,hD⟩:=ws4 hw;have h1:at0 (P++L++R++S) (en-1)=y:=vq2 (P:=P++L1++L2++C) (S:=R2++S) (by rw [ev,hC];simp) (by rw [hC] at r1;simp at r1 ⊢;omega)
          have h2:at0 (P++L++R++S) s=w:=vq2 (P:=P++L1) (S:=D++R1++R2++S) (by rw [ev,hD];simp) (by simp;omega)
          have hc:=c2 (by rw [hD] at l2;simp at l2;omega) (by rw [hC] at r1;simp at r1;omega)
          rw [h1,h2] at hc;exact .inl hc
        refine List.pairwise_append.2 ⟨q1s,q2s,fun x hx w hw=> ?_⟩
        rcases List.mem_append.1 (q1p.mem_iff.1 hx) with hx | hx<;>rcases List.mem_append.1 (q2p.mem_iff.1 hw) with hw | hw
        · exact pL3 x hx w hw
        · exact b1 x hx w hw
        · exact b2 x hx w hw
        · exact pR3 x hx w hw
      · rw [eS,eT0,eT1,eT2];simp
end Go.Proofs.YtkgjmgaccfmhpaaGreat.World
namespace Go.Proofs.YtkgjmgaccfmhpaaGreat.World
open Go Go.V Go.Proofs
set_option linter.unusedVariables false
set_option linter.unusedSimpArgs false
set_option maxRecDepth 100000
set_option maxHeartbeats 4000000
theorem vpb {k:Nat} {z:Int} {ds nx:List Int} (P D T:List Int) (hg:∀y ∈ D,zo5 ds y) (hD:D.Pairwise (· < ·)) (hl:(P++D++T).length≤1048576) (hk:D.length+15≤k):
    ∃Q,Q.Perm D∧Q.Pairwise (ltx ds)∧zc k (P++D++T) (P.length:Int) ((P.length+D.length:Nat):Int) z ds nx=some (P++Q++T):=by
  obtain ⟨k,rfl⟩:=jt (d:=0) (show 1≤k by omega)
  have hl':P.length+D.length+T.length≤1048576:=by simp at hl;omega
  have hw:IntKind.i64.wrap ((P.length:Int)+1)=((P.length+1:Nat):Int):=by rw [jk1 (by omega) (by omega)];omega
  have e:=wx1 k (P++D++T) (P.length:Int) ((P.length+D.length:Nat):Int) z ds nx;rw [hw] at e;cases D with
  | nil=>
    obtain ⟨k,rfl⟩:=jt (d:=0) (show 1≤k by omega)
    refine ⟨[],List.Perm.nil,List.Pairwise.nil,e.trans ?_⟩
    show (if (decide (((P.length+1:Nat):Int)<((P.length+([]:List Int).length:Nat):Int)))=true then _ else _)=_
    exact if_neg (by rw [decide_eq_false (by simp;omega)];decide)
  | cons x M=>
    obtain ⟨Q,q1,q2,q3⟩:=j6b (k:=k) (ds:=ds) (nx:=nx) (X:=fun v0=>some v0.2) (a:=(P.length:Int)) (b:=((P.length+(x::M).length:Nat):Int)) (z:=z) (fun v=>some v) (fun _=>rfl) P T rfl M k [x] [x] (by simp at hk;omega) (by simp at hk ⊢;omega) (by simpa using hg) (List.Perm.refl _) (List.pairwise_singleton _ _) (by simpa using hD) (by simp;omega) (by simp at hl ⊢;omega)
    refine ⟨Q,by simpa using q1,q2,e.trans (Eq.trans ?_ q3)⟩
    have e1:((P.length+1:Nat):Int)=((P++[x]).length:Int):=by simp
    have e2:P++x::M++T=P++[x]++M++T:=by simp
    rw [e1,e2]
/-! ### blocks -/
inductive Blks (ds:List Int) (bs:Nat):List Int→List Int→Prop
 | last {A B:List Int}:A.length≤bs→B.Perm A→B.Pairwise (ltx ds)→Blks ds bs A B
 | cons {A B xs v:List Int}:A.length=bs→B.Perm A→B.Pairwise (ltx ds)→Blks ds bs xs v→Blks ds bs (A++xs) (B++v)
theorem Blks.perm {ds:List Int} {bs:Nat} {xs v:List Int} (h:Blks ds bs xs v):v.Perm xs:=by
 induction h with
 | last _ h _=>exact h
 | cons _ h _ _ ih=>exact h.append ih
theorem Blks.nil {ds:List Int} {bs:Nat}:Blks ds bs [] []:= .last (by simp) List.Perm.nil List.Pairwise.nil
theorem Blks.split {ds:List Int} {bs:Nat} {xs v:List Int} (h:Blks ds bs xs v) (hl:bs≤xs.length):∃A xs' B v',xs=A++xs'∧v=B++v'∧A.length=bs∧B.Perm A∧B.Pairwise (ltx ds)∧Blks ds bs xs' v':=by
 cases h with
 | last h1 h2 h3=>exact ⟨xs,[],v,[],by simp,by simp,by omega,h2,h3,.nil⟩
 | cons h1 h2 h3 h4=>exact ⟨_,_,_,_,rfl,rfl,h1,h2,h3,h4⟩
theorem Blks.one {ds:List Int} {bs:Nat} {xs v:List Int} (h:Blks ds bs xs v) (hl:xs.length≤bs) (h0:0<bs):v.Perm xs∧v.Pairwise (ltx ds):=by
  cases h with
  | last h1 h2 h3=>exact ⟨h2,h3⟩
  | @cons A B xs v h1 h2 h3 h4=>
    have hx:xs=[]:=List.eq_nil_of_length_eq_zero (by simp at hl;omega)
    subst hx;have hv:v=[]:=by have:=h4.perm;simpa using this
    subst hv;exact ⟨by simpa using h2,by simpa using h3⟩
theorem stA {R:Type} {k n:Nat} {z:Int} {ds nx:List Int} {X:wc→Option R} (Z:Int→Int→List Int→Option R) (hX:∀v,X v=(zc k v.2.2 v.1 (n:Int) z ds nx).bind fun p1=>Z v.1 v.2.1 p1) (hn:n≤1048576) (hk:60≤k):
    ∀(m:Nat) (P xs:List Int),xs.length<m→P.length+xs.length=n→(∀y ∈ xs,zo5 ds y)→xs.Pairwise (· < ·)→
      ∃v a b,Blks ds 20 xs v∧jk k X ((n:Int),z,ds,nx,20) m ((P.length:Int),((P.length+20:Nat):Int),P++xs)=Z a b (P++v):=by
  intro m;induction m with
  | zero=>intro P xs h;omega
  | succ m ih=>
    intro P xs hm hPn hg hs;show ∃v a b,_∧(if (decide (((P.length+20:Nat):Int)≤(n:Int)))=true then _ else X _)=_
    by_cases h:20≤xs.length
    · rw [if_pos (decide_eq_true (by omega))]
      have hsp:xs=xs.take 20++xs.drop 20:=(List.take_append_drop _ _).symm;have l1:(xs.take 20).length=20:=by simp;omega
      generalize xs.take 20=D at hsp l1;generalize xs.drop 20=T at hsp;subst hsp;obtain ⟨s1,s2,s3⟩:=List.pairwise_append.1 hs;obtain ⟨Q,q1,q2,q3⟩:=vpb (k:=k) (z:=z) (nx:=nx) P D T (fun y hy=>hg y (by simp [hy])) s1 (by simp at hPn ⊢;omega) (by omega)
      rw [l1] at q3;dsimp only;rw [show P++(D++T)=P++D++T by simp,q3,Option.bind_some]
      have ql:Q.length=20:=by rw [q1.length_eq,l1]
      have hTl:T.length+20=(D++T).length:=by simp;omega
      obtain ⟨v,a,b,hb,he⟩:=ih (P++Q) T (by omega) (by simp;omega) (fun y hy=>hg y (by simp [hy])) s2
      refine ⟨Q++v,a,b,.cons l1 q1 q2 hb,?_⟩
      have hw:IntKind.i64.wrap (((P.length+20:Nat):Int)+20)=(((P++Q).length+20:Nat):Int):=by rw [jk1 (by omega) (by omega)];simp;omega
      have hp:((P.length+20:Nat):Int)=((P++Q).length:Int):=by simp;omega
      rw [hw,hp];exact he.trans (by simp)
    · rw [if_neg (by rw [decide_eq_false (by omega)];decide),hX]
      obtain ⟨Q,q1,q2,q3⟩:=vpb (k:=k) (z:=z) (nx:=nx) P xs [] hg hs (by simp;omega) (by omega)
      refine ⟨Q,(P.length:Int),((P.length+20:Nat):Int),.last (by omega) q1 q2,?_⟩
      dsimp only;rw [←hPn];simp only [List.append_nil] at q3;rw [q3,Option.bind_some]
theorem stB {R:Type} {k n bs:Nat} {z:Int} {ds nx:List Int} {X:zd→Option R} (Y:List Int→Int→Int→Option R)
    (hX:∀v,X v=if (decide ((IntKind.i64.wrap (v.1+(bs:Int)))<(n:Int)))=true then (j0 k v.2.2 v.1 (IntKind.i64.wrap (v.1+(bs:Int))) (n:Int) z ds nx).bind fun p2=>Y p2 v.1 v.2.1 else Y v.2.2 v.1 v.2.1) (hn:n≤1048576) (hb0:0<bs) (hbs:bs≤1048576) (hk:2*n+60≤k):
    ∀(m:Nat) (P xs v:List Int),xs.length<m→P.length+xs.length=n→Blks ds bs xs v→(∀y ∈ P++xs,zo5 ds y)→xs.Pairwise (· < ·)→
      ∃v' a b,Blks ds (2*bs) xs v'∧zn k X ((n:Int),z,ds,nx,(bs:Int)) m ((P.length:Int),((P.length+2*bs:Nat):Int),P++v)=Y (P++v') a b:=by
  intro m;induction m with
  | zero=>intro P xs v h;omega
  | succ m ih=>
    intro P xs v hm hPn hB hg hs;have hvl:v.length=xs.length:=hB.perm.length_eq;have hgP:∀y ∈ P,zo5 ds y:=fun y hy=>hg y (by simp [hy])
    show ∃v' a b,_∧(if (decide (((P.length+2*bs:Nat):Int)≤(n:Int)))=true then _ else X _)=_
    have wa:IntKind.i64.wrap ((P.length:Int)+(bs:Int))=((P.length+bs:Nat):Int):=by rw [jk1 (by omega) (by omega)];omega
    by_cases h:2*bs≤xs.length
    · rw [if_pos (decide_eq_true (by omega))]
      obtain ⟨A1,ys,B1,u,rfl,rfl,a1,p1,t1,hB1⟩:=hB.split (by omega)
      obtain ⟨A2,zs,B2,w,rfl,rfl,a2,p2,t2,hB2⟩:=hB1.split (by simp at h;omega)
      obtain ⟨s1,s2,s3⟩:=List.pairwise_append.1 hs;obtain ⟨s4,s5,s6⟩:=List.pairwise_append.1 s2;have b1:B1.length=bs:=by rw [p1.length_eq,a1]
      have b2:B2.length=bs:=by rw [p2.length_eq,a2]
      have hwl:w.length=zs.length:=hB2.perm.length_eq;have hlz:(A1++(A2++zs)).length=2*bs+zs.length:=by simp;omega
      have hgw:∀y ∈ P++B1++B2++w,zo5 ds y:=fun y hy=>by
        simp only [List.mem_append] at hy;rcases hy with ((hy | hy) | hy) | hy
        · exact hgP y hy
        · exact hg y (by simp [p1.mem_iff.1 hy])
        · exact hg y (by simp [p2.mem_iff.1 hy])
        · exact hg y (by simp [hB2.perm.mem_iff.1 hy])
      obtain ⟨Q,q1,q2,q3⟩:=vmb (ds:=ds) (nx:=nx) (z:=z) (N:=n) (by omega) (2*bs) k P B1 B2 w (by omega) (by omega) (by omega) (by omega) (by simp;omega) hgw t1 t2 (fun x hx y hy=>s3 x (p1.mem_iff.1 hx) y (by simp [p2.mem_iff.1 hy]))
      dsimp only;rw [wa];rw [show ((P.length+B1.length:Nat):Int)=((P.length+bs:Nat):Int) by omega,show ((P.length+B1.length+B2.length:Nat):Int)=((P.length+2*bs:Nat):Int) by omega] at q3
      rw [show P++(B1++(B2++w))=P++B1++B2++w by simp,q3,Option.bind_some]
      have ql:Q.length=2*bs:=by rw [q1.length_eq];simp;omega
      obtain ⟨v',a,b,hb,he⟩:=ih (P++Q) zs w (by omega) (by simp;omega) hB2 (fun y hy=>by
        simp only [List.mem_append] at hy;rcases hy with (hy | hy) | hy
        · exact hgP y hy
        · have:=q1.mem_iff.1 hy
          simp only [List.mem_append] at this;rcases this with hy | hy
          · exact hg y (by simp [p1.mem_iff.1 hy])
          · exact hg y (by simp [p2.mem_iff.1 hy])
        · exact hg y (by simp [hy])) s5
      refine ⟨Q++v',a,b,?_,?_⟩
      · have:=Blks.cons (A:=A1++A2) (bs:=2*bs) (ds:=ds) (B:=Q) (by simp;omega) (q1.trans (p1.append p2)) q2 hb
        simpa using this
      · have w2:IntKind.i64.wrap (2*(bs:Int))=((2*bs:Nat):Int):=by rw [jk1 (by omega) (by omega)];omega
        have hw:IntKind.i64.wrap (((P.length+2*bs:Nat):Int)+((2*bs:Nat):Int))=(((P++Q).length+2*bs:Nat):Int):=by rw [jk1 (by omega) (by omega)];simp;omega
        have hp:((P.length+2*bs:Nat):Int)=((P++Q).length:Int):=by simp;omega
        rw [w2,hw,hp];exact he.trans (by simp)
    · rw [if_neg (by rw [decide_eq_false (by omega)];decide),hX]
      dsimp only;rw [wa];by_cases h2:bs<xs.length
      · rw [if_pos (decide_eq_true (by omega))]
        obtain ⟨A1,ys,B1,u,rfl,rfl,a1,p1,t1,hB1⟩:=hB.split (by omega)
        have hlz:(A1++ys).length=bs+ys.length:=by simp;omega
        obtain ⟨p2,t2⟩:=hB1.one (by omega) hb0
        obtain ⟨s1,s2,s3⟩:=List.pairwise_append.1 hs;have b1:B1.length=bs:=by rw [p1.length_eq,a1]
        have b2:u.length=ys.length:=p2.length_eq;have hgw:∀y ∈ P++B1++u++[],zo5 ds y:=fun y hy=>by
          simp only [List.mem_append,List.not_mem_nil,or_false] at hy;rcases hy with (hy | hy) | hy
          · exact hgP y hy
          · exact hg y (by simp [p1.mem_iff.1 hy])
          · exact hg y (by simp [p2.mem_iff.1 hy])
        obtain ⟨Q,q1,q2,q3⟩:=vmb (ds:=ds) (nx:=nx) (z:=z) (N:=n) (by omega) n k P B1 u [] (by omega) (by omega) (by omega) (by omega) (by simp;omega) hgw t1 t2 (fun x hx y hy=>s3 x (p1.mem_iff.1 hx) y (p2.mem_iff.1 hy))
        rw [show ((P.length+B1.length:Nat):Int)=((P.length+bs:Nat):Int) by omega,show ((P.length+B1.length+u.length:Nat):Int)=(n:Int) by omega] at q3
        simp only [List.append_nil] at q3;refine ⟨Q,(P.length:Int),((P.length+2*bs:Nat):Int),.last (by omega) (q1.trans (p1.append p2)) q2,?_⟩
        rw [show P++(B1++u)=P++B1++u by simp,q3,Option.bind_some]
      · rw [if_neg (by rw [decide_eq_false (by omega)];decide)]
        obtain ⟨p1,t1⟩:=hB.one (by omega) hb0
        exact ⟨v,_,_,.last (by omega) p1 t1,rfl⟩
theorem stC {k n:Nat} {z:Int} {ds nx:List Int} (hn:n≤1048576) (hk:2*n+60≤k) (xs:List Int) (hxn:xs.length=n) (hg:∀y ∈ xs,zo5 ds y) (hs:xs.Pairwise (· < ·)):
    ∀(m bs:Nat) (a b:Int) (v:List Int),0<bs→n-bs<m→Blks ds bs xs v→∃Q,Q.Perm xs∧Q.Pairwise (ltx ds)∧jc k (fun v1=>some v1.2.2.2) ((n:Int),z,ds,nx) m ((bs:Int),a,b,v)=some Q:=by
  intro m;induction m with
  | zero=>intro bs a b v _ h;omega
  | succ m ih=>
    intro bs a b v hb0 hm hB;show ∃Q,_∧_∧(if (decide ((bs:Int)<(n:Int)))=true then _ else _)=_
    by_cases h:bs<n
    · rw [if_pos (decide_eq_true (by omega))]
      dsimp only;have w2:IntKind.i64.wrap (2*(bs:Int))=((2*bs:Nat):Int):=by rw [jk1 (by omega) (by omega)];omega
      have w3:IntKind.i64.wrap ((bs:Int)*2)=((2*bs:Nat):Int):=by rw [jk1 (by omega) (by omega)];omega
      obtain ⟨v',a',b',hb',he⟩:=stB (k:=k) (n:=n) (bs:=bs) (z:=z) (ds:=ds) (nx:=nx) (X:=fun v2=>if (decide ((IntKind.i64.wrap (v2.1+(bs:Int)))<(n:Int)))=true then (j0 k v2.2.2 v2.1 (IntKind.i64.wrap (v2.1+(bs:Int))) (n:Int) z ds nx).bind fun p2=>jc k (fun v1=>some v1.2.2.2) ((n:Int),z,ds,nx) m (((2*bs:Nat):Int),v2.1,v2.2.1,p2) else jc k (fun v1=>some v1.2.2.2) ((n:Int),z,ds,nx) m (((2*bs:Nat):Int),v2.1,v2.2.1,v2.2.2)) (fun p a b=>jc k (fun v1=>some v1.2.2.2) ((n:Int),z,ds,nx) m (((2*bs:Nat):Int),a,b,p)) (fun _=>rfl) hn hb0 (by omega) hk k [] xs v (by omega) (by simpa using hxn) hB (by simpa using hg) hs
      obtain ⟨Q,q1,q2,q3⟩:=ih (2*bs) a' b' v' (by omega) (by omega) hb'
      refine ⟨Q,q1,q2,Eq.trans ?_ (he.trans (Eq.trans ?_ q3))⟩
      · rw [w2,w3];simp
      · simp
    · rw [if_neg (by rw [decide_eq_false (by omega)];decide)]
      obtain ⟨p,q⟩:=hB.one (by omega) hb0
      exact ⟨v,p,q,rfl⟩
/-- The stable sort of an increasing row: its permutation in jw5 of the key, then of the numbers. -/
theorem xta {k:Nat} {z:Int} {ds nx:List Int} (xs:List Int) (hn:xs.length≤1048576) (hk:2*xs.length+70≤k) (hg:∀y ∈ xs,zo5 ds y) (hs:xs.Pairwise (· < ·)):
 ∃Q,Q.Perm xs∧Q.Pairwise (ltx ds)∧j5 k xs z ds nx=some Q:=by
 obtain ⟨k,rfl⟩:=jt (d:=0) (show 1≤k by omega)
 obtain ⟨k,rfl⟩:=jt (d:=0) (show 1≤k by omega)
 have e:=vh2 (k+1) xs z ds nx;have e2:=jo2 k xs (xs.length:Int) z ds nx;obtain ⟨v,a,b,hB,he⟩:=stA (k:=k) (n:=xs.length) (z:=z) (ds:=ds) (nx:=nx) (X:=fun v0=>(zc k v0.2.2 v0.1 (xs.length:Int) z ds nx).bind fun p1=>jc k (fun v1=>some v1.2.2.2) ((xs.length:Int),z,ds,nx) k (20,v0.1,v0.2.1,p1)) (fun a b p=>jc k (fun v1=>some v1.2.2.2) ((xs.length:Int),z,ds,nx) k (20,a,b,p)) (fun _=>rfl) hn (by omega) k [] xs (by omega) (by simp) hg hs
 obtain ⟨Q,q1,q2,q3⟩:=stC (k:=k) (z:=z) (ds:=ds) (nx:=nx) hn (by omega) xs rfl hg hs k 20 a b v (by omega) (by omega) hB
 refine ⟨Q,q1,q2,e.trans ((bs (e2.trans (he.trans ?_))).trans rfl)⟩
 exact q3
end Go.Proofs.YtkgjmgaccfmhpaaGreat.World
namespace Go.Proofs.YtkgjmgaccfmhpaaGreat.World
open Go Go.V Go.Proofs
set_option linter.unusedVariables false
set_option linter.unusedSimpArgs false
set_option maxRecDepth 100000
set_option maxHeartbeats 4000000
def yt7 (n t:Int) (x:Int×Int×Int×Int):Bool:=x.1==n&&(x.2.1== -1&&zf1 x.2.2 t)
def jm8 (l:List (Int×Int×Int×Int)) (n t:Int):Bool:=l.any (yt7 n t)
theorem y09 {k:Nat} (x:Int×Int×Int×Int) (t:Int) (hk:3≤k):w94 k x t=some (zf1 x.2.2 t):=by
 obtain ⟨k,rfl⟩:=jt (d:=2) hk;rw [vna,jd7 _ _ (by omega)]
 rfl
theorem ja7 {k:Nat} (l:List (Int×Int×Int×Int)) (n t:Int) (hl:l.length≤140737488351232) (hk:l.length+5≤k):ja4 k l n t=some (jm8 l n t):=by
 obtain ⟨k,rfl⟩:=jt (d:=0) (show 1≤k by omega)
 refine (jna k l n t).trans (zu3 (a:=l) (fun _ l=>some (l.any (yt7 n t))) (fun _ _=>rfl) hl rfl (fun m i x r h0 hn hw hi hx ih=> ?_) (by omega))
 dsimp only;simp only [hw,ih,hn,v7 hx,if_pos h0,List.any_cons,y09 x t (show 3≤k by omega),Option.bind_some]
 unfold yt7;cases x.1==n<;>cases x.2.1== -1<;>cases zf1 x.2.2 t<;>rfl
theorem ym7 {k:Nat} (l:List (Int×Int×Int×Int)) (n t:Int) (hl:l.length≤140737488351232) (hk:l.length+5≤k):z94 k l n t=some (jm8 l n t):=by
 obtain ⟨k,rfl⟩:=jt (d:=0) (show 1≤k by omega)
 refine (z2b k l n t).trans (zu3 (a:=l) (fun _ l=>some (l.any (yt7 n t))) (fun _ _=>rfl) hl rfl (fun m i x r h0 hn hw hi hx ih=> ?_) (by omega))
 dsimp only;simp only [hw,ih,List.any_cons,vj7 x.2.2 t (show 2≤k by omega),Option.bind_some]
 unfold yt7;cases x.1==n<;>cases x.2.1== -1<;>cases zf1 x.2.2 t<;>rfl
def w0a (a b t:Int) (x:Int×Int×Int×Int):Bool:=((x.1==a&&x.2.1==b) || (x.1==b&&x.2.1==a))&&zf1 x.2.2 t
def cut (l:List (Int×Int×Int×Int)) (a b t:Int):Bool:=l.any (w0a a b t) || (jm8 l a t || jm8 l b t)
theorem xab {k:Nat} (l:List (Int×Int×Int×Int)) (a b t:Int) (hl:l.length≤140737488351232) (hk:l.length+6≤k):yn7 k l a b t=some (cut l a b t):=by
 obtain ⟨k,rfl⟩:=jt (d:=0) (show 1≤k by omega)
 rw [zjb,ja7 l a t hl (by omega),ja7 l b t hl (by omega)]
 simp only [Option.bind_some];refine (zu3 (a:=l) (fun _ m=>some (m.any (w0a a b t) || (jm8 l a t || jm8 l b t))) (fun _ _=>rfl) hl ?_ (fun m i x r h0 hn hw hi hx ih=> ?_) (by omega))
 · cases jm8 l a t<;>cases jm8 l b t<;>rfl
 · dsimp only;simp only [hw,ih,hn,v7 hx,if_pos h0,List.any_cons,y09 x t (show 3≤k by omega),Option.bind_some]
   unfold w0a;cases x.1==a<;>cases x.2.1==b<;>cases x.1==b<;>cases x.2.1==a<;>cases zf1 x.2.2 t<;>rfl
theorem x7b {k:Nat} (l:List (Int×Int×Int×Int)) (a b t:Int) (hl:l.length≤140737488351232) (hk:l.length+6≤k):w77 k l a b t=some (cut l a b t):=by
 obtain ⟨k,rfl⟩:=jt (d:=0) (show 1≤k by omega)
 rw [xgb,ym7 l a t hl (by omega),ym7 l b t hl (by omega)]
 simp only [Option.bind_some];refine (zu3 (a:=l) (fun _ m=>some (m.any (w0a a b t) || (jm8 l a t || jm8 l b t))) (fun _ _=>rfl) hl ?_ (fun m i x r h0 hn hw hi hx ih=> ?_) (by omega))
 · cases jm8 l a t<;>cases jm8 l b t<;>rfl
 · dsimp only;simp only [hw,ih,List.any_cons,vj7 x.2.2 t (show 2≤k by omega),Option.bind_some]
   unfold w0a;cases x.1==a<;>cases x.2.1==b<;>cases x.1==b<;>cases x.2.1==a<;>cases zf1 x.2.2 t<;>rfl
/-- The jx1 from i on, m of them, that node n is cut from. -/
def xs2 (l:List (Int×Int×Int×Int)) (n t:Int):Nat→Nat→List Int→List Int
 | 0,_,out=>out
 | m+1,i,out=>xs2 l n t m (i+1) (if ((i:Int) !=n&&cut l n (i:Int) t)=true then out++[(i:Int)] else out)
def x53 (l:List (Int×Int×Int×Int)) (n t jx1:Int):List Int:=if inR jx1 1 12 then xs2 l n t jx1.toNat 0 [] else []
theorem vs5 (l:List (Int×Int×Int×Int)) (n t:Int):∀(m i:Nat) (out:List Int),(xs2 l n t m i out).length≤out.length+m
  | 0,i,out=>by simp [xs2]
  | m+1,i,out=>by
    have:=vs5 l n t m (i+1) (if ((i:Int) !=n&&cut l n (i:Int) t)=true then out++[(i:Int)] else out)
    simp only [xs2];split at this
    · rename_i h;rw [if_pos h];simp at this;omega
    · rename_i h;rw [if_neg h];omega
theorem vqa (l:List (Int×Int×Int×Int)) (n t jx1:Int):(x53 l n t jx1).length≤12:=by
 unfold x53;split
 · rename_i h
   have:=vs5 l n t jx1.toNat 0 []
   unfold inR at h;simp at h this;omega
 · simp
theorem j09 {n a b:Int} (h:inR n a b=true):a≤n∧n≤b:=by unfold inR at h;simpa using h
theorem j29 {k:Nat} (n:Int) (hk:2≤k):xd4 k n=some (inR n 1 12):=by
 obtain ⟨k,rfl⟩:=jt (d:=1) hk;rw [yc9,w51 _ _ _ (by omega)]
 rfl
theorem wba {k:Nat} (l:List (Int×Int×Int×Int)) (n t jx1:Int) (hl:l.length≤140737488351232) (hk:l.length+30≤k):x95 k l n t jx1=some (x53 l n t jx1):=by
  obtain ⟨k,rfl⟩:=jt (d:=0) (show 1≤k by omega)
  rw [v1a,y31 _ _ _ (by omega),Option.bind_some]
  unfold x53;cases h:inR jx1 1 12 with
  | false=>rfl
  | true=>
    obtain ⟨h1,h2⟩:=j09 h;rw [if_neg (by decide),if_pos rfl]
    have hN:((jx1.toNat:Nat):Int)=jx1:=by omega
    refine z4a (len:=jx1.toNat) (fun (s:List Int) i=>(i,s)) (fun s i=>some (xs2 l n t (jx1.toNat-i) i s)) (fun s i=>s.length≤i) (by omega) (fun m i s hI hi h0 hn hw ih=> ?_) (by omega) [] (by simp)
    show xq3 k _ _ _ _=_
    unfold xq3;dsimp only;by_cases hlt:i<jx1.toNat
    · have hm:jx1.toNat-i=(jx1.toNat-(i+1))+1:=by omega
      rw [if_pos (by simp;omega),xab l n (i:Int) t hl (by omega),hw,hm,xs2]
      cases hc:((i:Int) !=n) with
      | false=>
        rw [if_neg (by decide),Bool.false_and,if_neg (by decide)]
        exact ih hlt s (by omega)
      | true=>
        rw [if_pos (by decide),Option.bind_some,Bool.true_and]
        cases cut l n (i:Int) t with
        | false=>
          rw [if_neg (by decide),if_neg (by decide)]
          exact ih hlt s (by omega)
        | true=>
          rw [if_pos rfl,if_pos rfl,if_pos (by simp;omega)]
          exact ih hlt _ (by simp;omega)
    · have:i=jx1.toNat:=by omega
      subst this;rw [if_neg (by simp;omega),Nat.sub_self]
      rfl
theorem zaa {k:Nat} (l:List (Int×Int×Int×Int)) (n t jx1:Int) (hl:l.length≤140737488351232) (hk:l.length+30≤k):jy4 k l n t jx1=some (x53 l n t jx1):=by
  obtain ⟨k,rfl⟩:=jt (d:=0) (show 1≤k by omega)
  rw [xca,j29 _ (by omega),Option.bind_some]
  unfold x53;cases h:inR jx1 1 12 with
  | false=>rfl
  | true=>
    obtain ⟨h1,h2⟩:=j09 h;rw [if_neg (by decide),if_pos rfl]
    have hN:((jx1.toNat:Nat):Int)=jx1:=by omega
    refine z4a (len:=jx1.toNat) (fun (s:List Int) i=>(i,s)) (fun s i=>some (xs2 l n t (jx1.toNat-i) i s)) (fun s i=>s.length≤i) (by omega) (fun m i s hI hi h0 hn hw ih=> ?_) (by omega) [] (by simp)
    show yq3 k _ _ _ _=_
    unfold yq3;dsimp only;by_cases hlt:i<jx1.toNat
    · have hm:jx1.toNat-i=(jx1.toNat-(i+1))+1:=by omega
      rw [if_pos (by simp;omega),x7b l n (i:Int) t hl (by omega),hw,hm,xs2]
      cases hc:((i:Int) !=n) with
      | false=>
        rw [if_neg (by decide),Bool.false_and,if_neg (by decide)]
        exact ih hlt s (by omega)
      | true=>
        rw [if_pos (by decide),Option.bind_some,Bool.true_and]
        cases cut l n (i:Int) t with
        | false=>
          rw [if_neg (by decide),if_neg (by decide)]
          exact ih hlt s (by omega)
        | true=>
          rw [if_pos rfl,if_pos rfl,if_pos (by simp;omega)]
          exact ih hlt _ (by simp;omega)
    · have:i=jx1.toNat:=by omega
      subst this;rw [if_neg (by simp;omega),Nat.sub_self]
      rfl
def vf8 (w:TW) (n:Int):List Int:=x53 w.2.2.2.2.2.2.2.2.2.1 n w.2.2.2.2.2.2.2.2.2.2.1 w.2.1.1
theorem y9a {k:Nat} (w:TW) (n:Int) (hl:w.2.2.2.2.2.2.2.2.2.1.length≤140737488351232) (hk:w.2.2.2.2.2.2.2.2.2.1.length+31≤k):wl6 k w n=some (vf8 w n):=by
 obtain ⟨k,rfl⟩:=jt (d:=0) (show 1≤k by omega)
 rw [x7a,wba _ _ _ _ hl (by omega)]
 rfl
theorem wn9 {k:Nat} (w:TW) (n:Int) (hl:w.2.2.2.2.2.2.2.2.2.1.length≤140737488351232) (hk:w.2.2.2.2.2.2.2.2.2.1.length+31≤k):w86 k w n=some (vf8 w n):=by
 obtain ⟨k,rfl⟩:=jt (d:=0) (show 1≤k by omega)
 rw [x9a,zaa _ _ _ _ hl (by omega)]
 rfl
/-! ### laws whose result is a row -/
/-! ### the next hop -/
theorem xi3 {k:Nat} (p:j2) (t:Int) (hk:2≤k):jw2 k p t=some (inR p.2.2.1 0 5&&inR t 0 1000):=by
  obtain ⟨k,rfl⟩:=jt (d:=1) hk;have e0:=(wg9 k p t).trans (bs (w51 _ _ _ (by omega)))
  cases h:inR p.2.2.1 0 5 with
  | false=>rw [h] at e0;exact e0
  | true=>
    rw [h] at e0;exact e0.trans ((if_pos rfl).trans ((bs (w51 _ _ _ (by omega))).trans (by simp)))
def nxt (p:j2) (x d t:Int):Option Int:=match tbl p (xo1 p t) d with
 | some u=>if jp x (u.2.2.length:Int)=true then u.2.2[x.toNat]? else none
 | none=>none
def ykb (o:Option Int):Int×Bool:=match o with
 | some h=>(h,true)
 | none=>(-1,false)
theorem yqb {k N:Nat} (p:j2) (x d t:Int) (hr:va N j4 p) (hN:N≤1048576) (hk:N+40≤k):v96 k p x d t=some (ykb (nxt p x d t)).1:=by
  obtain ⟨k,rfl⟩:=jt (d:=0) (show 1≤k by omega)
  have h1:p.2.2.2.length≤N:=(vd hr.2.2.2).1;obtain ⟨t1,_,t3⟩:=jl3 (k:=k) p (xo1 p t) d hr hN (by omega)
  have e0:=(yka k p x d t).trans ((bs (xi6 p t (by omega) (by omega))).trans (bs t1))
  unfold nxt;cases hq:tbl p (xo1 p t) d with
  | none=>
    rw [w35 hq] at e0;exact e0.trans (if_neg (by simp))
  | some u=>
    rw [j23 hq] at e0 t3;have e1:=e0.trans ((if_pos rfl).trans (bs (y31 _ _ _ (by omega))))
    rw [zx1 _ (by show u.2.2.length≤_;dsimp only at t3;omega)] at e1
    dsimp only at e1 t3 ⊢;by_cases hx:jp x (u.2.2.length:Int)=true
    · obtain ⟨x0,x1⟩:=zp hx;rw [if_pos hx];have hg:u.2.2[x.toNat]? =some u.2.2[x.toNat]:=List.getElem?_eq_getElem x1
      rw [hg];exact e1.trans ((if_neg (by rw [hx];decide)).trans ((if_pos x0).trans ((if_pos (by omega)).trans (v7 hg _))))
    · have hx':jp x (u.2.2.length:Int)=false:=by simpa using hx
      rw [if_neg hx];exact e1.trans (if_pos (by rw [hx'];rfl))
theorem zqb {k N:Nat} (p:j2) (x d t:Int) (hr:va N j4 p) (hN:N≤1048576) (hk:N+40≤k):x77 k p (xo1 p t) d x=some (ykb (nxt p x d t)):=by
  obtain ⟨k,rfl⟩:=jt (d:=0) (show 1≤k by omega)
  have h1:p.2.2.2.length≤N:=(vd hr.2.2.2).1;obtain ⟨_,t1,t3⟩:=jl3 (k:=k) p (xo1 p t) d hr hN (by omega)
  have e0:=(w1b k p (xo1 p t) d x).trans (bs t1);unfold nxt;cases hq:tbl p (xo1 p t) d with
  | none=>
    rw [w35 hq] at e0;exact e0.trans (if_neg (by simp))
  | some u=>
    rw [j23 hq] at e0 t3;have e1:=e0.trans ((if_pos rfl).trans (bs (xf1 _ _ (by omega))))
    dsimp only at e1 t3 ⊢;by_cases hx:jp x (u.2.2.length:Int)=true
    · obtain ⟨x0,x1⟩:=zp hx;rw [if_pos hx];have hg:u.2.2[x.toNat]? =some u.2.2[x.toNat]:=List.getElem?_eq_getElem x1
      rw [hg];exact e1.trans ((if_neg (by rw [hx];decide)).trans ((if_pos x0).trans ((if_pos (by omega)).trans (v7 hg _))))
    · have hx':jp x (u.2.2.length:Int)=false:=by simpa using hx
      rw [if_neg hx];exact e1.trans (if_pos (by rw [hx'];rfl))
/-- Both sides give the same hop; one that is no '-1' stands in a table. -/
theorem xqb {k N:Nat} (p:j2) (x d t:Int) (hr:va N j4 p) (hN:N≤1048576) (hk:2*N+50≤k):
    ∃h,wr6 k p x d t=some h∧xm6 k p x d t=some h∧(0≤h→nxt p x d t=some h):=by
  obtain ⟨k,rfl⟩:=jt (d:=0) (show 1≤k by omega)
  have h1:p.2.2.2.length≤N:=(vd hr.2.2.2).1;have es:=(wbb k p x d t).trans (bs (y31 _ _ _ (by omega)))
  have ei:=(wkb k p x d t).trans ((bs (ze6 p t (by omega) (by omega))).trans (bs (zqb p x d t hr hN (by omega))))
  have hc:inR p.2.2.1 0 5=true→inR t 0 1000=true→∃c,wr6 (k+1) p x d t=(if (!c)=true then some (-1) else some (ykb (nxt p x d t)).1)∧((ykb (nxt p x d t)).2=true→xm6 (k+1) p x d t=(if (!c)=true then some (-1) else some (ykb (nxt p x d t)).1)):=by
    intro h1 h2;obtain ⟨c,c1,c2⟩:=ywb (k:=k) p d (IntKind.i64.wrap (t-(IntKind.i64.wrap (2*p.2.2.1)))) (IntKind.i64.wrap (t+(IntKind.i64.wrap (2*p.2.2.1)))) hr hN (by omega)
    rw [h1] at es;have es:=es.trans ((if_pos rfl).trans (bs (y31 _ _ _ (by omega))))
    rw [h2] at es;have es:=es.trans ((if_pos rfl).trans ((bs c1).trans (by rw [yqb p x d t hr hN (by omega)])))
    refine ⟨c,es,fun hn=> ?_⟩
    rw [hn] at ei;have ei:=ei.trans ((if_pos rfl).trans (bs (xi3 p t (by omega))))
    rw [h1,h2] at ei;exact ei.trans ((if_pos rfl).trans (bs c2))
  cases h1:inR p.2.2.1 0 5 with
  | false=>
    rw [h1] at es;refine ⟨-1,es.trans (if_neg (by decide)),?_,fun h=>by omega⟩
    cases hn:(ykb (nxt p x d t)).2 with
    | false=>rw [hn] at ei;exact ei.trans (if_neg (by decide))
    | true=>
      rw [hn] at ei;have ei:=ei.trans ((if_pos rfl).trans (bs (xi3 p t (by omega))))
      rw [h1] at ei;exact ei.trans (if_neg (by simp))
  | true=>
  cases h2:inR t 0 1000 with
  | false=>
    rw [h1] at es;have es:=es.trans ((if_pos rfl).trans (bs (y31 _ _ _ (by omega))))
    rw [h2] at es;refine ⟨-1,es.trans (if_neg (by decide)),?_,fun h=>by omega⟩
    cases hn:(ykb (nxt p x d t)).2 with
    | false=>rw [hn] at ei;exact ei.trans (if_neg (by decide))
    | true=>
      rw [hn] at ei;have ei:=ei.trans ((if_pos rfl).trans (bs (xi3 p t (by omega))))
      rw [h1,h2] at ei;exact ei.trans (if_neg (by simp))
  | true=>
  obtain ⟨c,e1,e2⟩:=hc h1 h2;cases hq:nxt p x d t with
  | none=>
    rw [hq] at e1 ei;refine ⟨-1,e1.trans (by cases c<;>rfl),ei.trans (if_neg (by decide)),fun h=>by omega⟩
  | some h=>
    rw [hq] at e1 e2;cases c with
    | false=>exact ⟨-1,e1,e2 rfl,fun h=>by omega⟩
    | true=>exact ⟨h,e1,e2 rfl,fun _=>rfl⟩
def calm (p:j2) (t:Int):Bool:=inR p.2.2.1 0 5&&(inR t 0 1000&&(((pcs (IntKind.i64.wrap (t-(IntKind.i64.wrap (2*p.2.2.1)))) (IntKind.i64.wrap (t+(IntKind.i64.wrap (2*p.2.2.1)))) 0 p.2.2.2).length:Int)==1))
theorem ywa {k:Nat} (p:j2) (t:Int) (hl:p.2.2.2.length≤1048576) (hk:p.2.2.2.length+10≤k):y36 k p t=some (calm p t):=by
  obtain ⟨k,rfl⟩:=jt (d:=0) (show 1≤k by omega)
  have e:=(xna k p t).trans (bs (y31 _ _ _ (by omega)))
  unfold calm;cases h1:inR p.2.2.1 0 5 with
  | false=>rw [h1] at e;exact e
  | true=>
    rw [h1] at e;have e:=e.trans ((if_pos rfl).trans (bs (y31 _ _ _ (by omega))))
    cases h2:inR t 0 1000 with
    | false=>rw [h2] at e;exact e
    | true=>
      rw [h2] at e;exact e.trans ((if_pos rfl).trans (bs (wz6 p _ _ hl (by omega))))
theorem xma {k:Nat} (p:j2) (t:Int) (hl:p.2.2.2.length≤1048576) (hk:p.2.2.2.length+10≤k):v16 k p t=some (calm p t):=by
  obtain ⟨k,rfl⟩:=jt (d:=0) (show 1≤k by omega)
  have e:=(wqa k p t).trans (bs (xi3 p t (by omega)))
  unfold calm;cases h1:inR p.2.2.1 0 5 with
  | false=>rw [h1] at e;exact e
  | true=>
    cases h2:inR t 0 1000 with
    | false=>rw [h1,h2] at e;exact e
    | true=>
      rw [h1,h2] at e;exact e.trans ((if_pos rfl).trans (bs (y07 p _ _ hl (by omega))))
end Go.Proofs.YtkgjmgaccfmhpaaGreat.World
namespace Go.Proofs.YtkgjmgaccfmhpaaGreat.World
open Go Go.V Go.Proofs
set_option linter.unusedVariables false
set_option linter.unusedSimpArgs false
set_option maxRecDepth 100000
set_option maxHeartbeats 4000000
/-! ### links -/
def lnk (a b:Int) (x:Int×Int):Bool:=(x.1==a&&x.2==b) || (x.1==b&&x.2==a)
def jqb (p:j2) (i a b:Int):Bool:=if jp i (p.2.2.2.length:Int)=true then match p.2.2.2[i.toNat]? with
 | some x=>x.2.1.any (lnk a b)
 | none=>false
 else false
theorem eq2 (x:Int×Int) (a b:Int):eqT sI2 x (a,b)=(x.1==a&&x.2==b):=by
 rfl
theorem vaa {k N:Nat} (p:j2) (i a b:Int) (hr:va N j4 p) (hN:N≤1048576) (hk:N+5≤k):wb5 k p i a b=some (jqb p i a b):=by
 obtain ⟨k,rfl⟩:=jt (d:=0) (show 1≤k by omega)
 obtain ⟨h1,h2⟩:=vd hr.2.2.2;have h1:p.2.2.2.length≤N:=h1;have es:=(x2a k p i a b).trans (bs (y31 _ _ _ (by omega)))
 rw [zx1 _ (by omega)] at es
 unfold jqb;by_cases hx:jp i (p.2.2.2.length:Int)=true
 · obtain ⟨x0,x1⟩:=zp hx;have hg:p.2.2.2[i.toNat]? =some p.2.2.2[i.toNat]:=List.getElem?_eq_getElem x1
   have hl:(p.2.2.2[i.toNat]).2.1.length≤N:=(vd ((h2 _ (List.getElem_mem x1)).2.1)).1;rw [if_pos hx,hg];refine es.trans ((if_neg (by rw [hx];decide)).trans ((if_pos x0).trans ((v7 hg _).trans ?_)))
   dsimp only;generalize (p.2.2.2[i.toNat]).2.1=l at hl;refine zu3 (L:=wj3 k _ _ _ _) (a:=l) (fun _ l=>some (l.any (lnk a b))) (fun _ _=>rfl) (by omega) rfl (fun n i x r h0 ht hw hi hx ih=> ?_) (by omega)
   have hx':l[(i:Int).toNat]? =some x:=by rw [ht];exact hx
   show (if ((eqT sI2 x (a,b))==false)=true then _ else some true)=_
   rw [eq2,if_pos h0,v7 hx',eq2,hw,ih,List.any_cons];unfold lnk;cases (x.1==a&&x.2==b)<;>cases hh:(x.1==b&&x.2==a)<;>simp
 · have hx':jp i (p.2.2.2.length:Int)=false:=by simpa using hx
   rw [if_neg hx];exact es.trans (if_pos (by rw [hx'];rfl))
theorem jo9 {k N:Nat} (p:j2) (i a b:Int) (hr:va N j4 p) (hN:N≤1048576) (hk:N+8≤k):jd6 k p i a b=some (jqb p i a b):=by
 obtain ⟨k,rfl⟩:=jt (d:=0) (show 1≤k by omega)
 obtain ⟨h1,h2⟩:=vd hr.2.2.2;have h1:p.2.2.2.length≤N:=h1;have es:=(yn9 k p i a b).trans (bs (xf1 _ _ (by omega)))
 unfold jqb;by_cases hx:jp i (p.2.2.2.length:Int)=true
 · obtain ⟨x0,x1⟩:=zp hx;have hg:p.2.2.2[i.toNat]? =some p.2.2.2[i.toNat]:=List.getElem?_eq_getElem x1
   have hl:(p.2.2.2[i.toNat]).2.1.length≤N:=(vd ((h2 _ (List.getElem_mem x1)).2.1)).1;rw [if_pos hx,hg];refine es.trans ((if_pos (by rw [hx];rfl)).trans ((if_pos x0).trans ((v7 hg _).trans ?_)))
   dsimp only;generalize (p.2.2.2[i.toNat]).2.1=l at hl;have hc:ww k l a b=some (l.any (lnk a b)):=by
    obtain ⟨k,rfl⟩:=jt (d:=0) (show 1≤k by omega)
    refine (vf2 k l a b).trans ((bs (v:=x81 (lnk a b) 0 l) ?_).trans (by rw [v14]))
    obtain ⟨k,rfl⟩:=jt (d:=0) (show 1≤k by omega)
    refine (xu2 k l a b).trans (zu3 (L:=jo k _ _ _) (a:=l) (fun i l=>some (x81 (lnk a b) i l)) (fun _ _=>rfl) (by omega) rfl (fun n i x r h0 ht hw hi hx ih=> ?_) (by omega))
    obtain ⟨k,rfl⟩:=jt (d:=0) (show 1≤k by omega)
    have hv:j34 (k+1) x a b=some (lnk a b x):=by
     rw [v38];unfold lnk;cases h1:(x.1==a)<;>cases h2:(x.2==b)<;>cases h3:(x.1==b)<;>cases h4:(x.2==a)<;>rfl
    refine (bs hv).trans ?_
    rw [hw,ih];show _=some (if lnk a b x=true then (i:Int) else x81 (lnk a b) (i+1) r)
    by_cases h:lnk a b x=true
    · rw [if_pos h,if_pos h]
    · rw [if_neg h,if_neg h]
   exact (bs hc).trans rfl
 · have hx':jp i (p.2.2.2.length:Int)=false:=by simpa using hx
   rw [if_neg hx];exact es.trans (if_neg (by rw [hx'];decide))
def vp8 (p:j2) (a b t:Int):Bool:=jqb p (xo1 p t) a b
theorem w19 {k N:Nat} (p:j2) (a b t:Int) (hr:va N j4 p) (hN:N≤1048576) (hk:N+12≤k):xi5 k p a b t=some (vp8 p a b t):=by
 obtain ⟨k,rfl⟩:=jt (d:=0) (show 1≤k by omega)
 have h1:p.2.2.2.length≤N:=(vd hr.2.2.2).1;exact (jf9 k p a b t).trans ((bs (xi6 p t (by omega) (by omega))).trans (bs (vaa p _ a b hr hN (by omega))))
theorem ze9 {k N:Nat} (p:j2) (a b t:Int) (hr:va N j4 p) (hN:N≤1048576) (hk:N+12≤k):yj5 k p a b t=some (vp8 p a b t):=by
 obtain ⟨k,rfl⟩:=jt (d:=0) (show 1≤k by omega)
 have h1:p.2.2.2.length≤N:=(vd hr.2.2.2).1;exact (z29 k p a b t).trans ((bs (ze6 p t (by omega) (by omega))).trans (bs (jo9 p _ a b hr hN (by omega))))
/-- All moments from t on, m of them. -/
def vqb (p:j2) (a b:Int):Nat→Int→Bool
 | 0,_=>true
 | m+1,t=>vp8 p a b t&&vqb p a b m (t+1)
theorem z9b {k N:Nat} (p:j2) (a b t:Int) (hr:va N j4 p) (hN:N≤1048576) (hk:N+40≤k):∃c,w66 k p a b t=some c∧z66 k p a b t=some c:=by
  obtain ⟨k,rfl⟩:=jt (d:=0) (show 1≤k by omega)
  have es:=(wwa k p a b t).trans (bs (y31 _ _ _ (by omega)))
  have ei:=(zqa k p a b t).trans (bs (xi3 p t (by omega)))
  cases h1:inR p.2.2.1 0 5 with
  | false=>
    rw [h1] at es ei;exact ⟨false,es.trans (if_neg (by decide)),ei.trans (if_pos (by simp))⟩
  | true=>
  rw [h1] at es;have es:=es.trans ((if_pos rfl).trans (bs (y31 _ _ _ (by omega))))
  cases h2:inR t 0 1000 with
  | false=>
    rw [h2] at es;rw [h1,h2] at ei;exact ⟨false,es.trans (if_pos rfl),ei.trans (if_pos rfl)⟩
  | true=>
  rw [h2] at es;rw [h1,h2] at ei;have es:=es.trans (if_neg (by decide))
  have ei:=ei.trans (if_neg (by decide))
  obtain ⟨s0,s5⟩:=j09 h1;obtain ⟨t0,t1⟩:=j09 h2;have w1:IntKind.i64.wrap (t-p.2.2.1)=t-p.2.2.1:=jk1 (by omega) (by omega)
  have w2:IntKind.i64.wrap (t+p.2.2.1)=t+p.2.2.1:=jk1 (by omega) (by omega)
  rw [w1] at es ei;have ks:∀(m q:Nat) (u:Int),m<q→u+m=t+p.2.2.1+1→-10≤u→v94 k (fun (v0:Int) (p3:Bool)=>some false) (fun (v0:Int)=>some true) (a,b,t,p) q u=some (vqb p a b m u):=by
    intro m;induction m with
    | zero=>
      intro q u hq hu h0;obtain ⟨q,rfl⟩:∃z,q=z+1:=⟨q-1,by omega⟩
      show (if (decide (u≤IntKind.i64.wrap (t+p.2.2.1)))=true then _ else _)=_
      rw [w2];exact if_neg (by rw [decide_eq_false (by omega)];decide)
    | succ m ih=>
      intro q u hq hu h0;obtain ⟨q,rfl⟩:∃z,q=z+1:=⟨q-1,by omega⟩
      show (if (decide (u≤IntKind.i64.wrap (t+p.2.2.1)))=true then _ else _)=_
      rw [w2];refine (if_pos (decide_eq_true (by omega))).trans ((bs (w19 p a b u hr hN (by omega))).trans ?_)
      show _=some (vp8 p a b u&&vqb p a b m (u+1))
      have hw:IntKind.i64.wrap (u+1)=u+1:=jk1 (by omega) (by omega)
      rw [hw,ih q (u+1) (by omega) (by omega) (by omega)]
      cases vp8 p a b u<;>rfl
  have ki:∀(m q:Nat) (u:Int),m<q→u+m=t+p.2.2.1+1→-10≤u→ze4 k (fun (v0:Int) (p2:Bool)=>some false) (fun (v0:Int)=>some true) (a,b,t,p) q u=some (vqb p a b m u):=by
    intro m;induction m with
    | zero=>
      intro q u hq hu h0;obtain ⟨q,rfl⟩:∃z,q=z+1:=⟨q-1,by omega⟩
      show (if (decide (u≤IntKind.i64.wrap (t+p.2.2.1)))=true then _ else _)=_
      rw [w2];exact if_neg (by rw [decide_eq_false (by omega)];decide)
    | succ m ih=>
      intro q u hq hu h0;obtain ⟨q,rfl⟩:∃z,q=z+1:=⟨q-1,by omega⟩
      show (if (decide (u≤IntKind.i64.wrap (t+p.2.2.1)))=true then _ else _)=_
      rw [w2];refine (if_pos (decide_eq_true (by omega))).trans ((bs (ze9 p a b u hr hN (by omega))).trans ?_)
      show _=some (vp8 p a b u&&vqb p a b m (u+1))
      have hw:IntKind.i64.wrap (u+1)=u+1:=jk1 (by omega) (by omega)
      rw [hw,ih q (u+1) (by omega) (by omega) (by omega)]
      cases vp8 p a b u<;>rfl
  exact ⟨_,es.trans (ks (2*p.2.2.1+1).toNat k _ (by omega) (by omega) (by omega)),ei.trans (ki (2*p.2.2.1+1).toNat k _ (by omega) (by omega) (by omega))⟩
end Go.Proofs.YtkgjmgaccfmhpaaGreat.World
namespace Go.Proofs.YtkgjmgaccfmhpaaGreat.World
open Go Go.V Go.Proofs
set_option linter.unusedVariables false
set_option linter.unusedSimpArgs false
set_option maxRecDepth 100000
set_option maxHeartbeats 4000000
/-! ### a number is set into an increasing row -/
def cnt (a:Int):List Int→Nat
 | []=>0
 | x::r=>if x<a then cnt a r+1 else 0
theorem v3b (a:Int):∀(l:List Int),cnt a l≤l.length
  | []=>Nat.le_refl 0
  | x::r=>by
    have:=v3b a r
    unfold cnt;split
    · simpa using this
    · omega
def yvb (x:Int) (l:List Int):List Int:=if l[cnt x l]? =some x then l else l.take (cnt x l)++[x]++l.drop (cnt x l)
def z78 (x:Int):List Int→List Int
 | []=>[x]
 | y::r=>if y<x then y::z78 x r else if y=x then y::r else x::y::r
theorem vz9 (x:Int):∀(l:List Int),yvb x l=z78 x l
  | []=>rfl
  | y::r=>by
    have ih:=vz9 x r;unfold yvb at ih ⊢;unfold z78;by_cases h:y<x
    · have hc:cnt x (y::r)=cnt x r+1:=by rw [cnt,if_pos h]
      rw [hc,if_pos h,←ih,List.getElem?_cons_succ]
      by_cases h2:r[cnt x r]? =some x
      · rw [if_pos h2,if_pos h2]
      · rw [if_neg h2,if_neg h2];simp
    · have hc:cnt x (y::r)=0:=by rw [cnt,if_neg h]
      rw [hc,if_neg h];by_cases h2:y=x
      · rw [if_pos (by simp [h2]),if_pos h2]
      · rw [if_neg (by simp [h2]),if_neg h2];simp
theorem w16 (x z:Int):∀(l:List Int),z ∈ z78 x l↔z=x∨z ∈ l
  | []=>by simp [z78]
  | y::r=>by
    have ih:=w16 x z r;unfold z78;by_cases h:y<x
    · rw [if_pos h,List.mem_cons,ih,List.mem_cons];constructor
      · rintro (h | h | h)<;>simp [h]
      · rintro (h | h | h)<;>simp [h]
    · rw [if_neg h];by_cases h2:y=x
      · rw [if_pos h2,h2];simp
      · rw [if_neg h2];simp
theorem xp4 (x:Int):∀(l:List Int),l.Pairwise (· < ·)→(z78 x l).Pairwise (· < ·)
  | [],_=>List.pairwise_singleton _ _
  | y::r,h=>by
    obtain ⟨h1,h2⟩:=List.pairwise_cons.1 h;unfold z78;by_cases hy:y<x
    · rw [if_pos hy];refine List.pairwise_cons.2 ⟨fun z hz=> ?_,xp4 x r h2⟩
      rcases (w16 x z r).1 hz with rfl | hz
      · exact hy
      · exact h1 z hz
    · rw [if_neg hy];by_cases hx:y=x
      · rw [if_pos hx];exact h
      · rw [if_neg hx];refine List.pairwise_cons.2 ⟨fun z hz=> ?_,h⟩
        rcases List.mem_cons.1 hz with rfl | hz
        · omega
        · have:=h1 z hz;omega
theorem xi7 (x:Int):∀(l:List Int),(z78 x l).length≤l.length+1
  | []=>by simp [z78]
  | y::r=>by
    have:=xi7 x r
    unfold z78;split
    · simpa using this
    · split<;>simp
/-! ### a row in jw5, each number once -/
theorem xhb {l r:List Int} (hl:l.Pairwise (· < ·)) (hr:r.Pairwise (· < ·)) (h:∀x,x ∈ l↔x ∈ r):l=r:=by
 have nl:l.Nodup:=hl.imp fun h=>by omega
 have nr:r.Nodup:=hr.imp fun h=>by omega
 exact List.Perm.eq_of_pairwise (le:=(· < ·)) (fun a b _ _ h1 h2=>by omega) hl hr ((List.perm_ext_iff_of_nodup nl nr).2 h)
theorem xn8 (zs:List Int) (hs:zs.Pairwise (· ≤ ·)):(vu2 zs).Pairwise (· < ·)∧∀x,x ∈ vu2 zs↔x ∈ zs:=by
  have hget:∀j (h:j<zs.length),zs.toArray[j]! =zs[j]:=fun j h=>by simp [h]
  have mono:∀i j,i≤j→j<zs.length→zs.toArray[i]! ≤zs.toArray[j]! :=fun i j hij hj=>by
    rw [hget i (by omega),hget j hj]
    rcases Nat.lt_or_eq_of_le hij with h | h
    · exact List.pairwise_iff_getElem.1 hs i j (by omega) hj h
    · subst h;exact Int.le_refl _
  have key:∀m,m≤zs.length→(Lib.compactUpTo zs.toArray m).Pairwise (· < ·)∧∀x,x ∈ Lib.compactUpTo zs.toArray m↔∃j,j<m∧zs.toArray[j]! =x:=by
    intro m;induction m with
    | zero=>intro _;exact ⟨List.Pairwise.nil,fun x=>by simp [Lib.compactUpTo]⟩
    | succ m ih=>
      intro hm;obtain ⟨h1,h2⟩:=ih (by omega)
      rw [Lib.compactUpTo_succ];by_cases hk:Lib.keeps zs.toArray m=true
      · rw [if_pos hk];refine ⟨List.pairwise_append.2 ⟨h1,List.pairwise_singleton _ _,fun x hx y hy=> ?_⟩,fun x=> ?_⟩
        · obtain ⟨j,hj,rfl⟩:=(h2 x).1 hx;rw [List.mem_singleton.1 hy];have hne:zs.toArray[m]! ≠zs.toArray[m-1]! :=by
            have hk':=hk;unfold Lib.keeps at hk';rcases of_decide_eq_true hk' with h | h
            · omega
            · exact h
          have a1:=mono j (m-1) (by omega) (by omega)
          have a2:=mono (m-1) m (by omega) (by omega)
          omega
        · rw [List.mem_append,h2,List.mem_singleton];constructor
          · rintro (⟨j,hj,h⟩ | h)
            · exact ⟨j,by omega,h⟩
            · exact ⟨m,by omega,h.symm⟩
          · rintro ⟨j,hj,h⟩
            by_cases e:j=m
            · subst e;exact .inr h.symm
            · exact .inl ⟨j,by omega,h⟩
      · rw [if_neg hk,List.append_nil];refine ⟨h1,fun x=> ?_⟩
        have hk':¬(m=0∨zs.toArray[m]! ≠zs.toArray[m-1]!):=fun h=>hk (by unfold Lib.keeps;exact decide_eq_true h)
        rw [h2];constructor
        · rintro ⟨j,hj,h⟩
          exact ⟨j,by omega,h⟩
        · rintro ⟨j,hj,h⟩
          by_cases e:j=m
          · subst e;refine ⟨j-1,by omega,?_⟩
            have:zs.toArray[j]! =zs.toArray[j-1]! :=Classical.byContradiction fun hn=>hk' (.inr hn)
            rw [←this];exact h
          · exact ⟨j,by omega,h⟩
  obtain ⟨h1,h2⟩:=key zs.length (Nat.le_refl _);refine ⟨h1,fun x=>(h2 x).trans ?_⟩
  constructor
  · rintro ⟨j,hj,rfl⟩
    rw [hget j hj];exact List.getElem_mem hj
  · intro hx;obtain ⟨j,hj,rfl⟩:=List.getElem_of_mem hx;exact ⟨j,hj,hget j hj⟩
theorem vw6 (zs:List Int):(vu2 (zf5 zs)).Pairwise (· < ·)∧∀x,x ∈ vu2 (zf5 zs)↔x ∈ zs:=by
 have hs:(zf5 zs).Pairwise (· ≤ ·):=by
  have:=List.pairwise_mergeSort (le:=fun x y:Int=>decide (x≤y)) (fun a b c h1 h2=>by simp at*;omega) (fun a b=>by simp;omega) zs
  exact this.imp fun h=>by simpa using h
 obtain ⟨h1,h2⟩:=xn8 (zf5 zs) hs;exact ⟨h1,fun x=>(h2 x).trans (List.mergeSort_perm zs _).mem_iff⟩
/-! ### who is linked -/
def zr2 (a:Int) (out:List Int) (x:Int×Int):List Int:=if (x.1==a)=true then z78 x.2 out else if (x.2==a)=true then z78 x.1 out else out
def nb (g:List (Int×Int)) (a:Int):List Int:=g.foldl (zr2 a) []
def vc6 (a:Int) (out:List Int) (x:Int×Int):List Int:=if (x.1==a)=true then (if (x.2==a)=true then (out++[x.2])++[x.1] else out++[x.2]) else if (x.2==a)=true then out++[x.1] else out
def nbr (a:Int) (x:Int×Int) (y:Int):Prop:=(x.1=a∧y=x.2)∨(x.2=a∧y=x.1)
theorem z89 (a:Int) (x:Int×Int) (out:List Int) (y:Int):y ∈ zr2 a out x↔nbr a x y∨y ∈ out:=by
 unfold zr2 nbr;by_cases h1:x.1=a
 · rw [if_pos (by simp [h1]),w16]
   constructor
   · rintro (h | h)
     · exact .inl (.inl ⟨h1,h⟩)
     · exact .inr h
   · rintro ((⟨_,h⟩ | ⟨h2,h⟩) | h)
     · exact .inl h
     · exact .inl (by omega)
     · exact .inr h
 · rw [if_neg (by simp [h1])]
   by_cases h2:x.2=a
   · rw [if_pos (by simp [h2]),w16]
     constructor
     · rintro (h | h)
       · exact .inl (.inr ⟨h2,h⟩)
       · exact .inr h
     · rintro ((⟨h3,_⟩ | ⟨_,h⟩) | h)
       · exact absurd h3 h1
       · exact .inl h
       · exact .inr h
   · rw [if_neg (by simp [h2])]
     constructor
     · exact .inr
     · rintro ((⟨h3,_⟩ | ⟨h3,_⟩) | h)
       · exact absurd h3 h1
       · exact absurd h3 h2
       · exact h
theorem yr9 (a:Int) (x:Int×Int) (out:List Int) (y:Int):y ∈ vc6 a out x↔nbr a x y∨y ∈ out:=by
 unfold vc6 nbr;by_cases h1:x.1=a
 · rw [if_pos (by simp [h1])]
   by_cases h2:x.2=a
   · rw [if_pos (by simp [h2])]
     simp only [List.mem_append,List.mem_singleton];constructor
     · rintro ((h | h) | h)
       · exact .inr h
       · exact .inl (.inl ⟨h1,h⟩)
       · exact .inl (.inr ⟨h2,h⟩)
     · rintro ((⟨_,h⟩ | ⟨_,h⟩) | h)
       · exact .inl (.inr h)
       · exact .inr h
       · exact .inl (.inl h)
   · rw [if_neg (by simp [h2])]
     simp only [List.mem_append,List.mem_singleton];constructor
     · rintro (h | h)
       · exact .inr h
       · exact .inl (.inl ⟨h1,h⟩)
     · rintro ((⟨_,h⟩ | ⟨h3,_⟩) | h)
       · exact .inr h
       · exact absurd h3 h2
       · exact .inl h
 · rw [if_neg (by simp [h1])]
   by_cases h2:x.2=a
   · rw [if_pos (by simp [h2])]
     simp only [List.mem_append,List.mem_singleton];constructor
     · rintro (h | h)
       · exact .inr h
       · exact .inl (.inr ⟨h2,h⟩)
     · rintro ((⟨h3,_⟩ | ⟨_,h⟩) | h)
       · exact absurd h3 h1
       · exact .inr h
       · exact .inl h
   · rw [if_neg (by simp [h2])]
     constructor
     · exact .inr
     · rintro ((⟨h3,_⟩ | ⟨h3,_⟩) | h)
       · exact absurd h3 h1
       · exact absurd h3 h2
       · exact h
theorem v97 {f:List Int→(Int×Int)→List Int} {a:Int} (hf:∀out x y,y ∈ f out x↔nbr a x y∨y ∈ out) (y:Int):∀(g:List (Int×Int)) (out:List Int),y ∈ g.foldl f out↔(∃x ∈ g,nbr a x y)∨y ∈ out
  | [],out=>by simp
  | x::g,out=>by
    rw [List.foldl_cons,v97 hf y g,hf];constructor
    · rintro (⟨z,hz,h⟩ | h | h)
      · exact .inl ⟨z,List.mem_cons_of_mem _ hz,h⟩
      · exact .inl ⟨x,by simp,h⟩
      · exact .inr h
    · rintro (⟨z,hz,h⟩ | h)
      · rcases List.mem_cons.1 hz with rfl | hz
        · exact .inr (.inl h)
        · exact .inl ⟨z,hz,h⟩
      · exact .inr (.inr h)
theorem wj9 (a:Int) (x:Int×Int) {out:List Int} (h:out.Pairwise (· < ·)):(zr2 a out x).Pairwise (· < ·):=by
 unfold zr2;split
 · exact xp4 _ _ h
 · split
   · exact xp4 _ _ h
   · exact h
theorem zi5 (a:Int) (x:Int×Int) (out:List Int):(zr2 a out x).length≤out.length+1:=by
 unfold zr2;split
 · exact xi7 _ _
 · split
   · exact xi7 _ _
   · omega
theorem jm7 (a:Int):∀(g:List (Int×Int)) (out:List Int),out.Pairwise (· < ·)→(g.foldl (zr2 a) out).Pairwise (· < ·)∧(g.foldl (zr2 a) out).length≤out.length+g.length
  | [],out,h=>⟨h,by simp⟩
  | x::g,out,h=>by
    obtain ⟨h1,h2⟩:=jm7 a g _ (wj9 a x h)
    have:=zi5 a x out
    exact ⟨h1,by simp at h2 ⊢;omega⟩
theorem x4b (g:List (Int×Int)) (a:Int):(nb g a).Pairwise (· < ·):=(jm7 a g [] List.Pairwise.nil).1
theorem wpb (g:List (Int×Int)) (a:Int):(nb g a).length≤g.length:=by unfold nb;simpa using (jm7 a g [] List.Pairwise.nil).2
theorem yub (g:List (Int×Int)) (a:Int):vu2 (zf5 (g.foldl (vc6 a) []))=nb g a:=by
 obtain ⟨h1,h2⟩:=vw6 (g.foldl (vc6 a) []);refine xhb h1 (x4b g a) fun x=> ?_
 unfold nb;rw [h2,v97 (fun out x y=>yr9 a x out y) x g [],v97 (fun out x y=>z89 a x out y) x g []]
theorem yf7 {k:Nat} (g:List (Int×Int)) (a:Int) (hl:g.length≤1048576) (hk:g.length+5≤k):wb2 k g a=some (nb g a):=by
  obtain ⟨k,rfl⟩:=jt (d:=0) (show 1≤k by omega)
  have hout:∀(l:List (Int×Int)) (o:List Int),(l.foldl (vc6 a) o).length≤o.length+2*l.length:=by
    intro l;induction l with
    | nil=>intro o;simp
    | cons x l ih=>
      intro o;have h1:=ih (vc6 a o x);have h2:(vc6 a o x).length≤o.length+2:=by
        unfold vc6;split
        · split<;>simp
        · split<;>simp
      simp only [List.foldl_cons,List.length_cons];omega
  have hfin:((jd3 k (g.foldl (vc6 a) [])).bind fun p1=>(ya2 k p1).bind fun p2=>some p2)=some (nb g a):=by
    have:=hout g []
    obtain ⟨k,rfl⟩:=jt (d:=0) (show 1≤k by omega)
    rw [zg9,if_pos (by simp at this;omega),Option.bind_some,jf7,Option.bind_some,yub]
  refine (j87 k g a).trans ((yc2 (L:=jb2 k _ _) (a:=g) (fun (s:List Int) i=>(i,s)) (fun s i r=>(jd3 k (r.foldl (vc6 a) s)).bind fun p1=>(ya2 k p1).bind fun p2=>some p2) (X:=fun s _=>(jd3 k s).bind fun p1=>(ya2 k p1).bind fun p2=>some p2) (fun s i=>s.length≤2*i) (fun _ _ _=>rfl) (by omega) (fun s _=>rfl) (fun n i s x r hI h0 ht hw hi hx ih=> ?_) (by omega) [] (by simp)).trans hfin)
  dsimp only;rw [hw,List.foldl_cons];unfold vc6;by_cases h1:(x.1==a)=true
  · rw [if_pos h1,if_pos (by simp;omega),if_pos h1]
    by_cases h2:(x.2==a)=true
    · rw [if_pos h2,if_pos (by simp;omega),if_pos h2]
      exact ih _ (by simp;omega)
    · rw [if_neg h2,if_neg h2];exact ih _ (by simp;omega)
  · rw [if_neg h1,if_neg h1];by_cases h2:(x.2==a)=true
    · rw [if_pos h2,if_pos (by simp;omega),if_pos h2]
      exact ih _ (by simp;omega)
    · rw [if_neg h2,if_neg h2];exact ih _ (by omega)
end Go.Proofs.YtkgjmgaccfmhpaaGreat.World
namespace Go.Proofs.YtkgjmgaccfmhpaaGreat.World
open Go Go.V Go.Proofs
set_option linter.unusedVariables false
set_option linter.unusedSimpArgs false
set_option maxRecDepth 100000
set_option maxHeartbeats 4000000
/-! ### a number is set in, as the program does it -/
def wlb {R:Type} (K:List Int→Option R) (out:List Int) (c x:Int):Option R:=if 0≤c then if c≤(out.length:Int) then if (0+((out.take c.toNat).drop ((0:Int).toNat)).length)*8≤140737488355328 then if (((out.take c.toNat).drop ((0:Int).toNat)).length+([x]).length)*8≤140737488355328 then if 0≤c then if c≤(out.length:Int) then if (out.length:Int)≤(out.length:Int) then if ((((out.take c.toNat).drop ((0:Int).toNat))++[x]).length+((out.take ((out.length:Int).toNat)).drop c.toNat).length)*8≤140737488355328 then K ((((out.take c.toNat).drop ((0:Int).toNat))++[x])++((out.take ((out.length:Int).toNat)).drop c.toNat)) else none else none else none else none else none else none else none else none
theorem xh8 {R:Type} (K:List Int→Option R) (out:List Int) (c:Nat) (x:Int) (hc:c≤out.length) (hl:out.length≤2097152):wlb K out (c:Int) x=K (out.take c++[x]++out.drop c):=by
 have e1:((out.take (c:Int).toNat).drop ((0:Int).toNat))=out.take c:=by simp
 have e2:((out.take ((out.length:Int).toNat)).drop (c:Int).toNat)=out.drop c:=by simp
 have t1:(out.take c).length≤out.length:=by simp;omega
 have t2:(out.drop c).length≤out.length:=by simp
 have t3:([x]:List Int).length=1:=rfl;have t4:(out.take c++[x]).length≤out.length+1:=by simp;omega
 unfold wlb;rw [e1,e2,if_pos (by omega),if_pos (by omega),if_pos (by omega),if_pos (by omega),if_pos (by omega),if_pos (by omega),if_pos (Int.le_refl _),if_pos (by omega)]
def xxb {R:Type} (K:List Int→Option R) (out:List Int) (c x:Int):Option R:=if ((c==(out.length:Int))==false)=true then if 0≤c then if c<(out.length:Int) then ix out c.toNat fun x4=>if (x4 !=x)=true then wlb K out c x else K out else none else none else wlb K out c x
theorem z9a {R:Type} (K:List Int→Option R) (out:List Int) (x:Int) (hl:out.length≤2097152):xxb K out ((cnt x out:Nat):Int) x=K (z78 x out):=by
 have hc:=v3b x out;rw [←vz9];unfold xxb yvb;by_cases h:cnt x out=out.length
 · have c1:¬(((((cnt x out:Nat):Int))==(out.length:Int))==false)=true:=by rw [h];simp
   rw [if_neg c1,xh8 K out _ x hc hl,if_neg (by rw [h];simp)]
 · have c1:(((((cnt x out:Nat):Int))==(out.length:Int))==false)=true:=by
    have:(((cnt x out:Nat):Int)==(out.length:Int))=false:=by simp;omega
    rw [this];rfl
   have hlt:cnt x out<out.length:=by omega
   have hg:out[cnt x out]? =some out[cnt x out]:=List.getElem?_eq_getElem hlt
   rw [if_pos c1,if_pos (by omega),if_pos (by omega),v7 (n:=(((cnt x out:Nat):Int)).toNat) (x:=out[cnt x out]) (by simp [hg]),hg]
   by_cases he:out[cnt x out]=x
   · rw [if_neg (by simp [he]),if_pos (by rw [he])]
   · rw [if_pos (by simp [he]),xh8 K out _ x hc hl,if_neg (by simp [he])]
theorem w6b {R:Type} {k:Nat} (X0:yl→Int→Option R) (X1:yl→Option R) (c:j51) (hX:∀v x,X0 v x=X1 v) (hl:c.2.2.2.2.length≤1048576) (hk:c.2.2.2.2.length<k):j61 k X0 X1 c k 0=X1 ((cnt c.2.2.2.1 c.2.2.2.2:Nat):Int):=by
 refine (zu3 (L:=j61 k X0 X1 c) (X:=X1) (a:=c.2.2.2.2) (body:=fun n i x=>if (decide (x<c.2.2.2.1))=true then j61 k X0 X1 c n (IntKind.i64.wrap (i+1)) else X0 i x) (fun i l=>X1 ((i+cnt c.2.2.2.1 l:Nat):Int)) (fun n i=> ?_) (by omega) rfl (fun n i x r h0 ht hw hi hx ih=> ?_) hk).trans (by simp)
 · show (if ((decide (i<(c.2.2.2.2.length:Int)))==true)=true then _ else _)=_
   rw [beq_true];exact x85 _ _ _ _
 · show (if (decide (x<c.2.2.2.1))=true then _ else _)=_
   unfold cnt;by_cases h:x<c.2.2.2.1
   · rw [if_pos (decide_eq_true h),if_pos h,hw,ih]
     congr 2;omega
   · rw [if_neg (by rw [decide_eq_false h];decide),if_neg h]
     exact hX _ _
theorem wj7 {k:Nat} (g:List (Int×Int)) (a:Int) (hl:g.length≤1048576) (hk:g.length+5≤k):va2 k g a=some (nb g a):=by
 obtain ⟨k,rfl⟩:=jt (d:=0) (show 1≤k by omega)
 refine (xe7 k g a).trans ((yc2 (L:=yi1 k _ _) (a:=g) (fun (s:List Int) i=>(i,s)) (fun s i r=>some (r.foldl (zr2 a) s)) (X:=fun s _=>some s) (fun s i=>s.length≤i) (fun _ _ _=>rfl) (by omega) (fun s _=>rfl) (fun n i s x r hI h0 ht hw hi hx ih=> ?_) (by omega) [] (by simp)).trans rfl)
 have hx':g[(i:Int).toNat]? =some x:=by rw [ht];exact hx
 dsimp only;rw [List.foldl_cons];by_cases h1:(x.1==a)=true
 · have hst:zr2 a s x=z78 x.2 s:=by unfold zr2;rw [if_pos h1]
   have hlen:=zi5 a x s;rw [if_pos h1,if_pos h0,v7 hx'];refine (w6b _ _ _ (by intros;rfl) (by show s.length≤_;omega) (by show s.length<_;omega)).trans ?_
   refine (z9a (fun o=>yi1 k (fun v0=>some v0.2) (g,a) n (IntKind.i64.wrap ((i:Int)+1),o)) s x.2 (by omega)).trans ?_
   rw [hw,←hst];exact ih _ (by omega)
 · rw [if_neg h1,if_pos h0,v7 hx'];by_cases h2:(x.2==a)=true
   · have hst:zr2 a s x=z78 x.1 s:=by unfold zr2;rw [if_neg h1,if_pos h2]
     have hlen:=zi5 a x s;rw [if_pos h2,if_pos h0,v7 hx'];refine (w6b _ _ _ (by intros;rfl) (by show s.length≤_;omega) (by show s.length<_;omega)).trans ?_
     refine (z9a (fun o=>yi1 k (fun v0=>some v0.2) (g,a) n (IntKind.i64.wrap ((i:Int)+1),o)) s x.1 (by omega)).trans ?_
     rw [hw,←hst];exact ih _ (by omega)
   · have hst:zr2 a s x=s:=by unfold zr2;rw [if_neg h1,if_neg h2]
     rw [if_neg h2,hw,hst];exact ih _ (by omega)
end Go.Proofs.YtkgjmgaccfmhpaaGreat.World
namespace Go.Proofs.YtkgjmgaccfmhpaaGreat.World
open Go Go.V Go.Proofs
set_option linter.unusedVariables false
set_option linter.unusedSimpArgs false
set_option maxRecDepth 100000
set_option maxHeartbeats 4000000
/-! ### the other ways -/
def okA (T:TT) (S me x:Int):Bool:=(!(x==(T.2.2[me.toNat]?).getD 0))&&((decide (x<S) || x==T.1)&&(jp x (T.2.1.length:Int)&&(decide (key T.2.1 x≥0)&&decide (key T.2.1 x<key T.2.1 me))))
theorem zv8 {T:TT} {S me x:Int} (h:okA T S me x=true):zo5 T.2.1 x:=by
 unfold okA at h;simp only [Bool.and_eq_true] at h;exact zp h.2.2.1
def wm9 (ds:List Int) (a:Int):List Int→Nat
 | []=>0
 | x::r=>if key ds x≤key ds a then wm9 ds a r+1 else 0
theorem ys9 (ds:List Int) (a:Int):∀(l:List Int),wm9 ds a l≤l.length
  | []=>Nat.le_refl 0
  | x::r=>by
    have:=ys9 ds a r
    unfold wm9;split
    · simpa using this
    · omega
def v7b (ds:List Int) (x:Int) (l:List Int):List Int:=l.take (wm9 ds x l)++[x]++l.drop (wm9 ds x l)
theorem v65 (ds:List Int) (x:Int) (l:List Int):(v7b ds x l).Perm (l++[x]):=by
 have h:=List.take_append_drop (wm9 ds x l) l;unfold v7b;refine List.Perm.trans (l₂:=x::l) ?_ (List.perm_append_singleton x l).symm
 rw [List.append_assoc];refine (List.perm_middle (a:=x) (l₁:=l.take (wm9 ds x l)) (l₂:=l.drop (wm9 ds x l))).trans ?_
 rw [h]
theorem jj6 (ds:List Int) (x:Int):∀(l:List Int),l.Pairwise (ltx ds)→(∀y ∈ l,y<x)→(v7b ds x l).Pairwise (ltx ds)
  | [],_,_=>List.pairwise_singleton _ _
  | y::r,h,hlt=>by
    obtain ⟨h1,h2⟩:=List.pairwise_cons.1 h;have ih:=jj6 ds x r h2 (fun z hz=>hlt z (by simp [hz]))
    have hyx:=hlt y (by simp)
    unfold v7b at ih ⊢;unfold wm9;by_cases hk:key ds y≤key ds x
    · rw [if_pos hk];simp only [List.take_succ_cons,List.drop_succ_cons,List.cons_append];refine List.pairwise_cons.2 ⟨fun z hz=> ?_,ih⟩
      have hz':=(v65 ds x r).mem_iff.1 hz;rcases List.mem_append.1 hz' with hz' | hz'
      · exact h1 z hz'
      · rw [List.mem_singleton.1 hz'];unfold ltx;omega
    · rw [if_neg hk];simp only [List.take_zero,List.drop_zero,List.nil_append,List.singleton_append];have hxy:ltx ds x y:= .inl (by omega)
      refine List.pairwise_cons.2 ⟨fun z hz=> ?_,h⟩
      rcases List.mem_cons.1 hz with rfl | hz
      · exact hxy
      · exact v95 hxy (h1 z hz)
def z12 (T:TT) (S me:Int) (out:List Int) (x:Int):List Int:=if okA T S me x=true then v7b T.2.1 x out else out
theorem z09 (T:TT) (S me:Int):∀(r D out:List Int),(D++r).Pairwise (· < ·)→out.Perm (D.filter (okA T S me))→out.Pairwise (ltx T.2.1)→(r.foldl (z12 T S me) out).Perm ((D++r).filter (okA T S me))∧(r.foldl (z12 T S me) out).Pairwise (ltx T.2.1)
  | [],D,out,_,h1,h2=>⟨by simpa using h1,h2⟩
  | x::r,D,out,h,h1,h2=>by
    have hx:∀y ∈ D,y<x:=fun y hy=>(List.pairwise_append.1 h).2.2 y hy x (by simp)
    have e:D++x::r=(D++[x])++r:=by simp
    rw [List.foldl_cons,e];refine z09 T S me r (D++[x]) _ (by rw [←e];exact h) ?_ ?_
    · unfold z12;rw [List.filter_append];by_cases ho:okA T S me x=true
      · rw [if_pos ho];refine (v65 _ x out).trans ?_
        have:[x].filter (okA T S me)=[x]:=by simp [ho]
        rw [this];exact h1.append_right _
      · rw [if_neg ho]
        have:[x].filter (okA T S me)=[]:=by simp [ho]
        rw [this,List.append_nil];exact h1
    · unfold z12;split
      · exact jj6 _ x out h2 fun y hy=>hx y (List.mem_filter.1 (h1.mem_iff.1 hy)).1
      · exact h2
theorem yeb {R:Type} {k:Nat} (X0:j41→Int→Int→Int→Option R) (X1:j41→Option R) (c:jf2) (hX:∀v x y z,X0 v x y z=X1 v) (hl:c.2.2.2.2.2.1.length≤1048576) (hk:c.2.2.2.2.2.1.length<k) (hg:∀y ∈ c.2.2.2.2.2.1,zo5 c.2.2.2.2.1.2.1 y) (hx:zo5 c.2.2.2.2.1.2.1 c.2.2.2.1):z42 k X0 X1 c k 0=X1 ((wm9 c.2.2.2.2.1.2.1 c.2.2.2.1 c.2.2.2.2.2.1:Nat):Int):=by
 refine (zu3 (L:=z42 k X0 X1 c) (X:=X1) (a:=c.2.2.2.2.2.1) (body:=fun n i x=>if 0≤x then ix c.2.2.2.2.1.2.1 x.toNat fun x11=>if 0≤c.2.2.2.1 then ix c.2.2.2.2.1.2.1 c.2.2.2.1.toNat fun x12=>if (decide (x11≤x12))=true then z42 k X0 X1 c n (IntKind.i64.wrap (i+1)) else X0 i x x11 x12 else none else none) (fun i l=>X1 ((i+wm9 c.2.2.2.2.1.2.1 c.2.2.2.1 l:Nat):Int)) (fun n i=> ?_) (by omega) rfl (fun n i x r h0 ht hw hi hx' ih=> ?_) hk).trans (by simp)
 · show (if ((decide (i<(c.2.2.2.2.2.1.length:Int)))==true)=true then _ else _)=_
   rw [beq_true];exact x85 _ _ _ _
 · have gx:=hg x (List.mem_of_getElem? hx');have e1:c.2.2.2.2.1.2.1[x.toNat]? =some (key c.2.2.2.2.1.2.1 x):=by unfold key;rw [List.getElem?_eq_getElem gx.2];rfl
   have e2:c.2.2.2.2.1.2.1[c.2.2.2.1.toNat]? =some (key c.2.2.2.2.1.2.1 c.2.2.2.1):=by unfold key;rw [List.getElem?_eq_getElem hx.2];rfl
   rw [if_pos gx.1,v7 e1,if_pos hx.1,v7 e2];unfold wm9;by_cases h:key c.2.2.2.2.1.2.1 x≤key c.2.2.2.2.1.2.1 c.2.2.2.1
   · rw [if_pos (decide_eq_true h),if_pos h,hw,ih]
     congr 2;omega
   · rw [if_neg (by rw [decide_eq_false h];decide),if_neg h]
     exact hX _ _ _ _
theorem xib {k N:Nat} (T:TT) (g:List (Int×Int)) (S me:Int) (hg:g.length≤N) (h1:T.2.1.length≤N) (h2:T.2.2.length≤N) (hN:N≤1048576) (hk:2*N+100≤k):
    ∃q:List Int,q.length≤N∧zx4 k T g S me=some q∧vy4 k T g S me=some q:=by
  obtain ⟨k,rfl⟩:=jt (d:=0) (show 1≤k by omega)
  have es:=(xpa k T g S me).trans (bs (y31 _ _ _ (by omega)))
  have ei:=(z3b k T g S me).trans (bs (xf1 _ _ (by omega)))
  rw [zx1 _ (by omega)] at es
  cases hA:jp me (T.2.1.length:Int) with
  | false=>
    rw [hA] at es ei;exact ⟨[],by simp,es.trans (if_neg (by decide)),ei.trans (if_neg (by decide))⟩
  | true=>
  rw [hA] at es ei;have es:=es.trans ((if_pos rfl).trans (bs (y31 _ _ _ (by omega))))
  have ei:=ei.trans ((if_pos rfl).trans (bs (xf1 _ _ (by omega))))
  rw [zx1 _ (by omega)] at es
  cases hB:jp me (T.2.2.length:Int) with
  | false=>
    rw [hB] at es ei;exact ⟨[],by simp,es.trans (if_pos rfl),ei.trans (if_pos rfl)⟩
  | true=>
  rw [hB] at es ei;obtain ⟨a0,a1⟩:=zp hA;obtain ⟨b0,b1⟩:=zp hB;have es:=es.trans ((if_neg (by decide)).trans (bs (wj7 g me (by omega) (by omega))))
  have ei:=ei.trans ((if_neg (by decide)).trans (bs (yf7 g me (by omega) (by omega))))
  have hinc:=x4b g me;have hlen:=wpb g me;generalize nb g me=ns at es ei hinc hlen;have eme:T.2.1[me.toNat]? =some (key T.2.1 me):=by unfold key;rw [List.getElem?_eq_getElem a1];rfl
  have enx:T.2.2[me.toNat]? =some ((T.2.2[me.toNat]?).getD 0):=by rw [List.getElem?_eq_getElem b1];rfl
  have ekey:∀x,jp x (T.2.1.length:Int)=true→0≤x∧T.2.1[x.toNat]? =some (key T.2.1 x):=fun x hx=>by
    obtain ⟨x0,x1⟩:=zp hx;exact ⟨x0,by unfold key;rw [List.getElem?_eq_getElem x1];rfl⟩
  -- the spec's side
  have hs:zg1 k (fun v0=>some v0.2) (S,me,T,ns) k (0,[])=some (ns.foldl (z12 T S me) []):=by
    refine (yc2 (L:=zg1 k (fun v0=>some v0.2) (S,me,T,ns)) (a:=ns) (fun (s:List Int) i=>(i,s)) (fun s i r=>some (r.foldl (z12 T S me) s)) (X:=fun s _=>some s) (fun s i=>s.length≤i∧∀y ∈ s,zo5 T.2.1 y) (fun _ _ _=>x85 _ _ _ _) (by omega) (fun s _=>rfl) (fun n i s x r hI h0 ht hw hi hx ih=> ?_) (by omega) [] (by simp))
    obtain ⟨hI1,hI2⟩:=hI;dsimp only;rw [List.foldl_cons,if_pos b0,v7 enx];have skip:okA T S me x=false→some (r.foldl (z12 T S me) s)=some (r.foldl (z12 T S me) (z12 T S me s x)):=fun h=>by
      unfold z12;rw [if_neg (by rw [h];decide)]
    have rest:okA T S me x=(jp x (T.2.1.length:Int)&&(decide (key T.2.1 x≥0)&&decide (key T.2.1 x<key T.2.1 me)))→∀G:Option (List Int),G=((xn k x 0 (IntKind.i64.wrap ((T.2.1.length:Int)-1))).bind fun p6=>if ((!p6)==false)=true then if 0≤x then ix T.2.1 x.toNat fun x7=>if ((decide (x7<0))==false)=true then if 0≤x then ix T.2.1 x.toNat fun x8=>if 0≤me then ix T.2.1 me.toNat fun x9=>if (decide (x8≥x9))=true then zg1 k (fun v0=>some v0.2) (S,me,T,ns) n ((IntKind.i64.wrap ((i:Int)+1)),s) else z42 k (fun (v1:Int) (x10:Int) (x11:Int) (x12:Int)=>wlb (fun o=>zg1 k (fun v0=>some v0.2) (S,me,T,ns) n ((IntKind.i64.wrap ((i:Int)+1)),o)) s v1 x) (fun (v1:Int)=>wlb (fun o=>zg1 k (fun v0=>some v0.2) (S,me,T,ns) n ((IntKind.i64.wrap ((i:Int)+1)),o)) s v1 x) (S,me,(i:Int),x,T,s,ns) k 0 else none else none else zg1 k (fun v0=>some v0.2) (S,me,T,ns) n ((IntKind.i64.wrap ((i:Int)+1)),s) else none else zg1 k (fun v0=>some v0.2) (S,me,T,ns) n ((IntKind.i64.wrap ((i:Int)+1)),s))→G=some (r.foldl (z12 T S me) (z12 T S me s x)):=by
      intro hok G hG;rw [hG,y31 _ _ _ (by omega),zx1 _ (by omega),Option.bind_some,hw]
      have hsame:=ih s ⟨by omega,hI2⟩
      cases hx1:jp x (T.2.1.length:Int) with
      | false=>
        rw [hx1] at hok;rw [if_neg (by decide),hsame]
        exact skip hok
      | true=>
        obtain ⟨x0,ex⟩:=ekey x hx1;rw [hx1] at hok;rw [if_pos (show ((!true)==false)=true from rfl),if_pos x0,v7 ex]
        by_cases hx2:key T.2.1 x<0
        · rw [if_neg (by rw [decide_eq_true hx2];decide),hsame]
          refine skip (hok.trans ?_)
          rw [decide_eq_false (show ¬key T.2.1 x≥0 by omega)];rfl
        · rw [if_pos (by rw [decide_eq_false hx2];rfl),if_pos x0,v7 ex,if_pos a0,v7 eme]
          rw [decide_eq_true (show key T.2.1 x≥0 by omega)] at hok
          by_cases hx3:key T.2.1 x≥key T.2.1 me
          · rw [if_pos (decide_eq_true hx3),hsame];refine skip (hok.trans ?_)
            rw [decide_eq_false (show ¬key T.2.1 x<key T.2.1 me by omega)];rfl
          · rw [decide_eq_true (show key T.2.1 x<key T.2.1 me by omega)] at hok
            have hgx:zo5 T.2.1 x:=zv8 (hok.trans rfl);rw [if_neg (by rw [decide_eq_false hx3];decide)]
            have hc:=ys9 T.2.1 x s;refine (yeb _ _ (S,me,(i:Int),x,T,s,ns) (by intros;rfl) (by show s.length≤_;omega) (by show s.length<_;omega) hI2 hgx).trans ?_
            refine (xh8 (fun o=>zg1 k (fun v0=>some v0.2) (S,me,T,ns) n (((i+1:Nat):Int),o)) s _ x hc (by omega)).trans ?_
            have hst:z12 T S me s x=v7b T.2.1 x s:=by unfold z12;rw [if_pos (show okA T S me x=true from hok.trans rfl)]
            rw [hst];exact ih (v7b T.2.1 x s) ⟨by rw [(v65 T.2.1 x s).length_eq];simp;omega,fun y hy=>by
              rcases List.mem_append.1 ((v65 T.2.1 x s).mem_iff.1 hy) with hy | hy
              · exact hI2 y hy
              · rw [List.mem_singleton.1 hy];exact hgx⟩
    by_cases c1:(x==(T.2.2[me.toNat]?).getD 0)=true
    · rw [if_neg (by rw [c1];decide),hw,ih s ⟨by omega,hI2⟩]
      refine skip ?_
      unfold okA;rw [c1];rfl
    · have c1':(x==(T.2.2[me.toNat]?).getD 0)=false:=by simpa using c1
      rw [if_pos (by rw [c1'];rfl)]
      by_cases c2:x≥S
      · rw [if_pos (by rw [decide_eq_true c2];rfl)]
        by_cases c3:(x==T.1)=true
        · have c3':(x !=T.1)=false:=by rw [bne,c3];rfl
          rw [if_pos (by rw [c3'];rfl)]
          exact rest (by unfold okA;rw [c1',c3];simp) _ rfl
        · have c3':(x !=T.1)=true:=by rw [bne];simp at c3 ⊢;exact c3
          rw [if_neg (by rw [c3'];decide),hw,ih s ⟨by omega,hI2⟩]
          refine skip ?_
          unfold okA
          have:(x==T.1)=false:=by simpa using c3
          rw [this,decide_eq_false (show ¬x<S by omega)];simp
      · rw [if_neg (by rw [decide_eq_false c2];decide)]
        exact rest (by unfold okA;rw [c1',decide_eq_true (show x<S by omega)];simp) _ rfl
  -- the program's side
  have hi:xv1 k (fun v0=>(j5 k v0.2 T.1 T.2.1 T.2.2).bind fun p4=>some p4) (S,me,(ns.length:Int),T,ns) k (0,[])=(j5 k (ns.filter (okA T S me)) T.1 T.2.1 T.2.2).bind fun p4=>some p4:=by
    refine (yc2 (L:=xv1 k (fun v0=>(j5 k v0.2 T.1 T.2.1 T.2.2).bind fun p4=>some p4) (S,me,(ns.length:Int),T,ns)) (a:=ns) (fun (s:List Int) i=>(i,s)) (fun s i r=>(j5 k (s++r.filter (okA T S me)) T.1 T.2.1 T.2.2).bind fun p4=>some p4) (X:=fun s _=>(j5 k s T.1 T.2.1 T.2.2).bind fun p4=>some p4) (fun s i=>s.length≤i) (fun _ _ _=>x85 _ _ _ _) (by omega) (fun s _=>by simp) (fun n i s x r hI h0 ht hw hi hx ih=> ?_) (by omega) [] (by simp)).trans (by rw [List.nil_append])
    dsimp only;rw [if_pos b0,v7 enx,hw];have hsame:=ih s (by omega)
    have skip:okA T S me x=false→(j5 k (s++r.filter (okA T S me)) T.1 T.2.1 T.2.2).bind (fun p4=>some p4)=(j5 k (s++(x::r).filter (okA T S me)) T.1 T.2.1 T.2.2).bind fun p4=>some p4:=fun h=>by
      rw [List.filter_cons,if_neg (by rw [h];decide)]
    have rest:okA T S me x=(jp x (T.2.1.length:Int)&&(decide (key T.2.1 x≥0)&&decide (key T.2.1 x<key T.2.1 me)))→∀G:Option (List Int),G=((yp k x (T.2.1.length:Int)).bind fun p6=>if (p6==true)=true then if 0≤x then ix T.2.1 x.toNat fun x7=>if ((decide (x7≥0))==true)=true then if 0≤x then ix T.2.1 x.toNat fun x8=>if 0≤me then ix T.2.1 me.toNat fun x9=>if (decide (x8<x9))=true then if (s.length+([x]).length)*8≤140737488355328 then xv1 k (fun v0=>(j5 k v0.2 T.1 T.2.1 T.2.2).bind fun p4=>some p4) (S,me,(ns.length:Int),T,ns) n (((i+1:Nat):Int),(s++[x])) else none else xv1 k (fun v0=>(j5 k v0.2 T.1 T.2.1 T.2.2).bind fun p4=>some p4) (S,me,(ns.length:Int),T,ns) n (((i+1:Nat):Int),s) else none else none else xv1 k (fun v0=>(j5 k v0.2 T.1 T.2.1 T.2.2).bind fun p4=>some p4) (S,me,(ns.length:Int),T,ns) n (((i+1:Nat):Int),s) else none else xv1 k (fun v0=>(j5 k v0.2 T.1 T.2.1 T.2.2).bind fun p4=>some p4) (S,me,(ns.length:Int),T,ns) n (((i+1:Nat):Int),s))→G=(j5 k (s++(x::r).filter (okA T S me)) T.1 T.2.1 T.2.2).bind fun p4=>some p4:=by
      intro hok G hG;rw [hG,xf1 _ _ (by omega),Option.bind_some]
      cases hx1:jp x (T.2.1.length:Int) with
      | false=>
        rw [hx1] at hok;rw [if_neg (by decide),hsame]
        exact skip hok
      | true=>
        obtain ⟨x0,ex⟩:=ekey x hx1;rw [hx1] at hok;rw [if_pos (show (true==true)=true from rfl),if_pos x0,v7 ex]
        by_cases hx2:key T.2.1 x≥0
        · rw [if_pos (by rw [decide_eq_true hx2];rfl),if_pos x0,v7 ex,if_pos a0,v7 eme]
          rw [decide_eq_true hx2] at hok;by_cases hx3:key T.2.1 x<key T.2.1 me
          · rw [decide_eq_true hx3] at hok;rw [if_pos (decide_eq_true hx3),if_pos (by simp;omega),ih _ (by simp;omega),List.filter_cons,if_pos (show okA T S me x=true from hok.trans rfl)]
            simp
          · rw [decide_eq_false hx3] at hok;rw [if_neg (by rw [decide_eq_false hx3];decide),hsame]
            exact skip (hok.trans rfl)
        · rw [decide_eq_false hx2] at hok;rw [if_neg (by rw [decide_eq_false hx2];decide),hsame]
          exact skip (hok.trans rfl)
    by_cases c1:(x==(T.2.2[me.toNat]?).getD 0)=true
    · have c1':(x !=(T.2.2[me.toNat]?).getD 0)=false:=by rw [bne,c1];rfl
      rw [if_neg (by rw [c1'];decide),hsame]
      refine skip ?_
      unfold okA;rw [c1];rfl
    · have c0:(x==(T.2.2[me.toNat]?).getD 0)=false:=by simpa using c1
      have c1':(x !=(T.2.2[me.toNat]?).getD 0)=true:=by rw [bne,c0];rfl
      rw [if_pos (by rw [c1'];rfl)]
      by_cases c2:x<S
      · rw [if_neg (by rw [decide_eq_true c2];decide)]
        exact rest (by unfold okA;rw [c0,decide_eq_true c2];simp) _ rfl
      · rw [if_pos (by rw [decide_eq_false c2];rfl)]
        by_cases c3:(x==T.1)=true
        · rw [if_pos (by rw [c3];rfl)]
          exact rest (by unfold okA;rw [c0,c3];simp) _ rfl
        · have c3':(x==T.1)=false:=by simpa using c3
          rw [if_neg (by rw [c3'];decide),hsame]
          refine skip ?_
          unfold okA;rw [c3',decide_eq_false c2];simp
  obtain ⟨p1,p2⟩:=z09 T S me ns [] [] (by simpa using hinc) List.Perm.nil List.Pairwise.nil
  rw [List.nil_append] at p1;have hfl:(ns.filter (okA T S me)).length≤ns.length:=List.length_filter_le _ _;obtain ⟨Q,q1,q2,q3⟩:=xta (k:=k) (z:=T.1) (ds:=T.2.1) (nx:=T.2.2) (ns.filter (okA T S me)) (by omega) (by omega) (fun y hy=>zv8 (List.mem_filter.1 hy).2) (hinc.filter _)
  have hQ:Q=ns.foldl (z12 T S me) []:=List.Perm.eq_of_pairwise (le:=ltx T.2.1) (fun a b _ _ h1 h2=>by unfold ltx at h1 h2;omega) q2 p2 (q1.trans p1.symm)
  subst hQ;refine ⟨_,?_,es.trans hs,ei.trans (hi.trans (by rw [q3];rfl))⟩
  rw [q1.length_eq];omega
end Go.Proofs.YtkgjmgaccfmhpaaGreat.World
namespace Go.Proofs.YtkgjmgaccfmhpaaGreat.World
open Go Go.V Go.Proofs
set_option linter.unusedVariables false
set_option linter.unusedSimpArgs false
set_option maxRecDepth 100000
set_option maxHeartbeats 4000000
theorem yi4 {k:Nat} (l:List Int) (x:Int) (hl:l.length≤1048576) (hk:l.length+3≤k):xn1 k l x=some (l.any fun y=>y==x):=by
 obtain ⟨k,rfl⟩:=jt (d:=1) (show 2≤k by omega)
 refine (yw6 k l x).trans ((bs (v:=x81 (fun y=>y==x) 0 l) ?_).trans (by rw [v14]))
 obtain ⟨k,rfl⟩:=jt (d:=0) (show 1≤k by omega)
 refine (jd8 k l x).trans (zu3 (L:=js2 k _ _ _) (a:=l) (fun i l=>some (x81 (fun y=>y==x) i l)) (fun _ _=>rfl) (by omega) rfl (fun n i y r h0 ht hw hi hx ih=> ?_) (by omega))
 show (if (x==y)=true then some (i:Int) else _)=some (if (y==x)=true then (i:Int) else x81 (fun y=>y==x) (i+1) r)
 rw [hw,ih,show (x==y)=(y==x) by rw [Bool.eq_iff_iff,beq_iff_eq,beq_iff_eq];exact eq_comm]
 by_cases h:(y==x)=true
 · rw [if_pos h,if_pos h]
 · rw [if_neg h,if_neg h]
/-! ### a way round what is x53 -/
def xq4 (x53:List Int):List Int→Int
 | []=> -1
 | x::r=>if (!(x53.any fun y=>y==x))=true then x else xq4 x53 r
theorem zhb {k:Nat} (x53 l:List Int) (hl:l.length≤1048576) (hd:x53.length≤1048576) (hk:l.length<k) (hk2:x53.length+2≤k):xw1 k (fun (v0:Int) (x8:Int) (p9:Bool) (x10:Int)=>some x10) (fun (v0:Int)=>some (-1)) (x53,l) k 0=some (xq4 x53 l):=by
 refine (zu3 (L:=xw1 k _ _ (x53,l)) (X:=fun _=>some (-1)) (a:=l) (body:=fun n i x=>(xc2 k x53 x).bind fun p9=>if (!p9)=true then if 0≤i then if i<(l.length:Int) then ix l i.toNat fun x10=>some x10 else none else none else xw1 k (fun (v0:Int) (x8:Int) (p9:Bool) (x10:Int)=>some x10) (fun (v0:Int)=>some (-1)) (x53,l) n (IntKind.i64.wrap (i+1))) (fun _ r=>some (xq4 x53 r)) (fun n i=>x85 _ _ _ _) (by omega) rfl (fun n i x r h0 ht hw hi hx ih=> ?_) hk)
 have hx':l[(i:Int).toNat]? =some x:=by rw [ht];exact hx
 rw [y56 _ _ hd hk2,Option.bind_some,hw,ih];show _=some (if (!(x53.any fun y=>y==x))=true then x else xq4 x53 r)
 by_cases h:(!(x53.any fun y=>y==x))=true
 · rw [if_pos h,if_pos h,if_pos h0,if_pos (by omega),v7 hx']
 · rw [if_neg h,if_neg h]
theorem xeb {k:Nat} (x53 l:List Int) (hl:l.length≤1048576) (hd:x53.length≤1048576) (hk:l.length<k) (hk2:x53.length+3≤k):wu1 k (fun (v0:Int) (x8:Int) (p9:Bool)=>some x8) (fun (v0:Int)=>some (-1)) (x53,l,(l.length:Int)) k 0=some (xq4 x53 l):=by
 refine (zu3 (L:=wu1 k _ _ (x53,l,(l.length:Int))) (X:=fun _=>some (-1)) (a:=l) (body:=fun n i x=>(xn1 k x53 x).bind fun p9=>if (!p9)=true then some x else wu1 k (fun (v0:Int) (x8:Int) (p9:Bool)=>some x8) (fun (v0:Int)=>some (-1)) (x53,l,(l.length:Int)) n (IntKind.i64.wrap (i+1))) (fun _ r=>some (xq4 x53 r)) (fun n i=>rfl) (by omega) rfl (fun n i x r h0 ht hw hi hx ih=> ?_) hk)
 rw [yi4 _ _ hd hk2,Option.bind_some,hw,ih];show _=some (if (!(x53.any fun y=>y==x))=true then x else xq4 x53 r)
 by_cases h:(!(x53.any fun y=>y==x))=true
 · rw [if_pos h,if_pos h]
 · rw [if_neg h,if_neg h]
theorem vg9 {k N:Nat} (p:j2) (me d t:Int) (x53:List Int) (hr:va N j4 p) (hN:N≤1048576) (hd:x53.length≤12) (hk:2*N+150≤k):
    ∃h,wp3 k p me d t x53=some h∧zl3 k p me d t x53=some h:=by
  obtain ⟨k,rfl⟩:=jt (d:=0) (show 1≤k by omega)
  obtain ⟨h1,h2⟩:=vd hr.2.2.2;have h1:p.2.2.2.length≤N:=h1;obtain ⟨h,es0,ei0,hn⟩:=xqb (k:=k) p me d t hr hN (by omega)
  have es:=(yd8 k p me d t x53).trans ((bs es0).trans (bs (y56 _ _ (by omega) (by omega))))
  have ei:=(xt8 k p me d t x53).trans ((bs ei0).trans (bs (yi4 _ _ (by omega) (by omega))))
  cases hA:(x53.any fun y=>y==h) with
  | false=>
    rw [hA] at es ei;exact ⟨h,es.trans (if_pos rfl),ei.trans (if_pos rfl)⟩
  | true=>
  rw [hA] at es ei;obtain ⟨t1,t2,t3⟩:=jl3 (k:=k) p (xo1 p t) d hr hN (by omega)
  have es:=es.trans ((if_neg (by decide)).trans ((bs (xi6 p t (by omega) (by omega))).trans (bs t1)))
  have ei:=ei.trans (if_neg (by decide))
  by_cases h0:h<0
  · have c:¬((decide (h<0))==false)=true:=by rw [decide_eq_true h0];decide
    exact ⟨-1,es.trans (if_neg c),ei.trans (if_neg c)⟩
  have c:((decide (h<0))==false)=true:=by rw [decide_eq_false h0];rfl
  have hq:=hn (by omega)
  obtain ⟨u,hu⟩:∃u,tbl p (xo1 p t) d=some u:=by
    unfold nxt at hq;cases hu:tbl p (xo1 p t) d with
    | none=>rw [hu] at hq;cases hq
    | some u=>exact ⟨u,rfl⟩
  have hu':=hu;rw [j23 hu] at es t2 t3;have es:=es.trans ((if_pos c).trans ((if_pos rfl).trans (bs (ywa p t (by omega) (by omega)))))
  have ei:=ei.trans ((if_pos c).trans (bs (xma p t (by omega) (by omega))))
  cases hC:calm p t with
  | false=>
    rw [hC] at es ei;exact ⟨-1,es.trans (if_pos rfl),ei.trans (if_pos rfl)⟩
  | true=>
  rw [hC] at es ei;unfold tbl at hu';by_cases hI:jp (xo1 p t) (p.2.2.2.length:Int)=true
  rotate_left
  · rw [if_neg hI] at hu';cases hu'
  obtain ⟨i0,i1⟩:=zp hI;have hg:p.2.2.2[(xo1 p t).toNat]? =some p.2.2.2[(xo1 p t).toNat]:=List.getElem?_eq_getElem i1
  rw [if_pos hI,hg] at hu';have hpc:=h2 _ (List.getElem_mem i1);have hgl:(p.2.2.2[(xo1 p t).toNat]).2.1.length≤N:=(vd hpc.2.1).1;have hul:u.2.1.length≤N:=by
    dsimp only at hu';split at hu'
    · have hm:=List.mem_of_getElem? hu';obtain ⟨_,hT⟩:=vd hpc.2.2;exact (vd (hT _ hm).2.1).1
    · cases hu'
  have es:=es.trans ((if_neg (by decide)).trans ((if_pos i0).trans (v7 hg _)))
  have ei:=ei.trans ((if_neg (by decide)).trans ((bs (ze6 p t (by omega) (by omega))).trans ((bs t2).trans ((if_pos i0).trans (v7 hg _)))))
  obtain ⟨q,q1,q2,q3⟩:=xib (k:=k) u (p.2.2.2[(xo1 p t).toNat]).2.1 p.2.1 me hgl hul t3 hN (by omega)
  have es:=es.trans ((bs q2).trans (zhb x53 q (by omega) (by omega) (by omega) (by omega)))
  have ei:=ei.trans ((bs q3).trans (xeb x53 q (by omega) (by omega) (by omega) (by omega)))
  exact ⟨_,es,ei⟩
theorem vbb {k N:Nat} (w:TW) (n d:Int) (hr:va N xi w) (hN:N≤1048576) (hk:2*N+200≤k):
    ∃h,x35 k w n d=some h∧z75 k w n d=some h:=by
  obtain ⟨k,rfl⟩:=jt (d:=0) (show 1≤k by omega)
  have hp:va N j4 w.2.1:=hr.2.1;have l4:w.2.2.2.1.length≤N:=(vd hr.2.2.2.1).1;have l10:w.2.2.2.2.2.2.2.2.2.1.length≤N:=(vd hr.2.2.2.2.2.2.2.2.2.1).1;have es:=(xoa k w n d).trans (bs (y31 _ _ _ (by omega)))
  have ei:=(joa k w n d).trans (bs (xf1 _ _ (by omega)))
  rw [zx1 _ (by omega)] at es
  cases hA:jp n (w.2.2.2.1.length:Int) with
  | false=>
    rw [hA] at es ei;exact ⟨-1,es.trans (if_neg (by decide)),ei.trans (if_neg (by decide))⟩
  | true=>
  obtain ⟨n0,n1⟩:=zp hA;rw [hA] at es ei;have es:=es.trans ((if_pos rfl).trans (bs (y31 _ _ _ (by omega))))
  have ei:=ei.trans ((if_pos rfl).trans (bs (w51 _ _ _ (by omega))))
  cases hB:inR w.2.2.2.2.2.2.2.2.2.2.1 0 1000 with
  | false=>
    rw [hB] at es ei;exact ⟨-1,es.trans (if_neg (by decide)),ei.trans (if_neg (by decide))⟩
  | true=>
  rw [hB] at es ei;have hg:w.2.2.2.1[n.toNat]? =some w.2.2.2.1[n.toNat]:=List.getElem?_eq_getElem n1
  have es:=es.trans ((if_pos rfl).trans ((if_pos n0).trans ((v7 hg _).trans (bs (y31 _ _ _ (by omega))))))
  have ei:=ei.trans ((if_pos rfl).trans ((if_pos n0).trans ((v7 hg _).trans (bs (w51 _ _ _ (by omega))))))
  cases hC:inR w.2.2.2.1[n.toNat] (-5) 5 with
  | false=>
    rw [hC] at es ei;exact ⟨-1,es.trans (if_pos rfl),ei.trans (if_pos rfl)⟩
  | true=>
  rw [hC] at es ei;obtain ⟨h,r1,r2⟩:=vg9 (k:=k) w.2.1 n d (IntKind.i64.wrap (w.2.2.2.2.2.2.2.2.2.2.1+w.2.2.2.1[n.toNat])) (vf8 w n) hp hN (vqa _ _ _ _) (by omega)
  have es:=es.trans ((if_neg (by decide)).trans ((if_pos n0).trans ((v7 hg _).trans ((bs (y9a w n (by omega) (by omega))).trans (bs r1)))))
  have ei:=ei.trans ((if_neg (by decide)).trans ((if_pos n0).trans ((v7 hg _).trans ((bs (wn9 w n (by omega) (by omega))).trans (bs r2)))))
  by_cases h0:h<0
  · have c:¬((decide (h<0))==false)=true:=by rw [decide_eq_true h0];decide
    exact ⟨-1,es.trans (if_neg c),ei.trans (if_neg c)⟩
  have c:((decide (h<0))==false)=true:=by rw [decide_eq_false h0];rfl
  obtain ⟨b,m1,m2⟩:=z9b (k:=k) w.2.1 n h (IntKind.i64.wrap (w.2.2.2.2.2.2.2.2.2.2.1+w.2.2.2.1[n.toNat])) hp hN (by omega)
  have es:=es.trans ((if_pos c).trans (bs m1));have ei:=ei.trans ((if_pos c).trans (bs m2));cases b with
  | false=>exact ⟨-1,es.trans (if_pos rfl),ei.trans (if_pos rfl)⟩
  | true=>exact ⟨h,es.trans (if_neg (by decide)),ei.trans (if_neg (by decide))⟩
end Go.Proofs.YtkgjmgaccfmhpaaGreat.World
namespace Go.Proofs.YtkgjmgaccfmhpaaGreat.World
open Go Go.V Go.Proofs
set_option linter.unusedVariables false
set_option linter.unusedSimpArgs false
set_option maxRecDepth 100000
set_option maxHeartbeats 4000000
def jx1 (s:jd2):Int:=IntKind.i64.wrap ((s.2.1.length:Int)+(s.2.2.1.length:Int))
def zzb (s:jd2) (n:Int):Bool:=inR n (s.2.1.length:Int) (IntKind.i64.wrap (jx1 s-1))
abbrev wyb (w:TW):=w.2.2.2.2.2.2.2.2.2.2.2.2.1
abbrev jyb (w:TW):=w.2.2.2.2.2.2.2.2.2.2.2.2.2
abbrev jrb (w:TW):=w.2.2.2.2.2.1
abbrev vwb (w:TW):=w.2.2.2.2.2.2.2.2.2.1
theorem w28 (a:Int) (h:a<0):a.tmod 360= -((-a)%360):=by
 have:a= -(-a):=by omega
 rw [this,Int.neg_tmod,Int.tmod_eq_emod_of_nonneg (by omega)]
 simp
def vp2 (n:Int):Int:=n%360
theorem vub {k:Nat} (n:Int) (hk:2≤k):vfb k n 360=some (vp2 n):=by
 obtain ⟨k,rfl⟩:=jt (d:=1) hk;rw [zsb,y31 _ _ _ (by omega)]
 have e:inR 360 1 1000000000000=true:=by decide
 rw [e,Option.bind_some,if_neg (by decide),if_neg (by decide),if_neg (by decide)]
 congr 1
 unfold vp2;by_cases h:0≤n
 · rw [Int.tmod_eq_emod_of_nonneg h,y9 (by omega) (by omega),Int.tmod_eq_emod_of_nonneg (by omega)]
   omega
 · rw [w28 n (by omega),y9 (by omega) (by omega),Int.tmod_eq_emod_of_nonneg (by omega)]
   omega
theorem ysb {k:Nat} (n:Int) (hk:2≤k):vcb k n 360=some (vp2 n):=by
 obtain ⟨k,rfl⟩:=jt (d:=1) hk;rw [vsb,w51 _ _ _ (by omega)]
 have e:inR 360 1 1000000000000=true:=by decide
 rw [e,Option.bind_some,if_neg (by decide),if_neg (by decide)]
 unfold vp2;by_cases h:0≤n
 · rw [Int.tmod_eq_emod_of_nonneg h,if_neg (by simp;omega)]
 · rw [w28 n (by omega)]
   split
   · rename_i h2;simp only [decide_eq_true_eq] at h2;rw [y9 (by omega) (by omega)]
     congr 1
     omega
   · rename_i h2;simp only [decide_eq_true_eq] at h2
     congr 1
     omega
theorem yz1 {k:Nat} (n:Int) (hk:3≤k):v11 k n=some (vp2 n):=by
 obtain ⟨k,rfl⟩:=jt (d:=2) hk;rw [wca,vub _ (by omega)]
 rfl
theorem yy1 {k:Nat} (n:Int) (hk:3≤k):yb1 k n=some (vp2 n):=by
 obtain ⟨k,rfl⟩:=jt (d:=2) hk;rw [y2a,ysb _ (by omega)]
 rfl
def vyb (x:Int×Int) (a:Int):Bool:=decide (vp2 (vp2 a-vp2 x.1)≤x.2)
def j3a (v:Int):Int:=if inR v (-60) 60 then v else 0
theorem vu9 {k:Nat} (v:Int) (hk:2≤k):zc5 k v=some (j3a v):=by
 obtain ⟨k,rfl⟩:=jt (d:=1) hk;rw [vp9,y31 _ _ _ (by omega),Option.bind_some]
 unfold j3a;cases inR v (-60) 60<;>rfl
theorem x1a {k:Nat} (s:Int×Int×Int×Int) (hk:2≤k):j35 k s=some (j3a s.2.2.1):=by
 obtain ⟨k,rfl⟩:=jt (d:=1) hk;rw [xp9,w51 _ _ _ (by omega),Option.bind_some]
 unfold j3a;cases inR s.2.2.1 (-60) 60<;>rfl
def zh5 (s:Int×Int×Int×Int) (t:Int):Int:=vp2 (IntKind.i64.wrap (vp2 s.2.1+IntKind.i64.wrap (j3a s.2.2.1*(if inR t 0 1000 then t else 0))))
theorem x08 {k:Nat} (s:Int×Int×Int×Int) (t:Int) (hk:4≤k):z54 k s t=some (zh5 s t):=by
 obtain ⟨k,rfl⟩:=jt (d:=3) hk;simp only [v2a,y31 t 0 1000 (show 1≤k by omega),Option.bind_some,yz1 s.2.1 (show 3≤k by omega),vu9 s.2.2.1 (show 2≤k by omega)]
 unfold zh5;cases inR t 0 1000
 · simp only [Bool.not_false,if_true,Bool.false_eq_true,if_false];rw [yz1 _ (by omega)]
   rfl
 · simp only [Bool.not_true,if_true,Bool.false_eq_true,if_false];rw [yz1 _ (by omega)]
   rfl
theorem jv7 {k:Nat} (s:Int×Int×Int×Int) (t:Int) (hk:4≤k):z04 k s t=some (zh5 s t):=by
 obtain ⟨k,rfl⟩:=jt (d:=3) hk;simp only [yja,w51 t 0 1000 (show 1≤k by omega),Option.bind_some,yy1 s.2.1 (show 3≤k by omega),x1a s (show 2≤k by omega)]
 unfold zh5;cases inR t 0 1000
 · simp only [Bool.not_false,if_true,Bool.false_eq_true,if_false];rw [yy1 _ (by omega)]
   rfl
 · simp only [Bool.not_true,if_true,Bool.false_eq_true,if_false];rw [yy1 _ (by omega)]
   rfl
def yy9 (x:Int×Int) (by_:Int):Int×Int:=if inR by_ 0 360&&inR x.2 0 359 then (vp2 (IntKind.i64.wrap (vp2 x.1-by_)),mn (IntKind.i64.wrap (x.2+IntKind.i64.wrap (2*by_))) 359) else (vp2 x.1,x.2)
theorem xb9 {k:Nat} (x:Int×Int) (n:Int) (hk:4≤k):xj5 k x n=some (yy9 x n):=by
 obtain ⟨k,rfl⟩:=jt (d:=3) hk;simp only [x69,y31 n 0 360 (show 1≤k by omega),y31 x.2 0 359 (show 1≤k by omega),Option.bind_some,yz1 x.1 (show 3≤k by omega),yz1 (IntKind.i64.wrap (vp2 x.1-n)) (show 3≤k by omega)]
 obtain ⟨k,rfl⟩:=jt (d:=2) (show 3≤k by omega)
 rw [xnb];unfold yy9 mn;cases inR n 0 360
 · rfl
 · cases inR x.2 0 359
   · rfl
   · simp only [Bool.not_true,beq_self_eq_true,if_true,Bool.false_eq_true,if_false,Bool.and_self];generalize IntKind.i64.wrap (x.2+IntKind.i64.wrap (2*n))=z;by_cases h1:z<359
     · rw [if_pos (by simpa using h1),Option.bind_some,if_neg (by omega)]
     · rw [if_neg (by simpa using h1),Option.bind_some]
       by_cases h2:359<z
       · rw [if_pos h2]
       · rw [if_neg h2]
         have:z=359:=by omega
         rw [this]
theorem y08 {k:Nat} (n:Int) (hk:2≤k):v45 k n=some (inR n 0 359):=by
 obtain ⟨k,rfl⟩:=jt (d:=1) hk;rw [jz9,w51 _ _ _ (by omega)]
 rfl
theorem jb9 {k:Nat} (x:Int×Int) (n:Int) (hk:4≤k):jh5 k x n=some (yy9 x n):=by
 obtain ⟨k,rfl⟩:=jt (d:=3) hk;simp only [wi9,w51 n 0 360 (show 1≤k by omega),y08 x.2 (show 2≤k by omega),Option.bind_some,yy1 x.1 (show 3≤k by omega),yy1 (IntKind.i64.wrap (vp2 x.1-n)) (show 3≤k by omega)]
 unfold yy9;cases inR n 0 360
 · rfl
 · cases inR x.2 0 359<;>rfl
def jg7 (s:Int×Int×Int×Int) (t:Int):Int×Int:=yy9 (zh5 s t,0) s.2.2.2
theorem wb9 {k:Nat} (s:Int×Int×Int×Int) (t:Int) (hk:5≤k):wj5 k s t=some (jg7 s t):=by
 obtain ⟨k,rfl⟩:=jt (d:=4) hk;rw [w39,x08 _ _ (by omega),Option.bind_some,xb9 _ _ (by omega)]
 rfl
theorem j99 {k:Nat} (s:Int×Int×Int×Int) (t:Int) (hk:5≤k):ve5 k s t=some (jg7 s t):=by
 obtain ⟨k,rfl⟩:=jt (d:=4) hk;rw [j89,jv7 _ _ (by omega),Option.bind_some,jb9 _ _ (by omega)]
 rfl
/-- Where a satellite may be. -/
def vf9 (s:jd2) (n t:Int):Int×Int:=match s.2.1[n.toNat]? with
 | some x=>jg7 x t
 | none=>(0,0)
def zk9 (s:jd2) (n:Int):Bool:=jp n (s.2.1.length:Int)
theorem zna {k:Nat} (s:jd2) (n t:Int) (hl:s.2.1.length≤140737488351232) (h:zk9 s n=true) (hk:6≤k):z97 k s n t=some (vf9 s n t):=by
 obtain ⟨k,rfl⟩:=jt (d:=5) hk;have h':jp n (s.2.1.length:Int)=true:=h;obtain ⟨h0,h1⟩:=zp h';rw [wua,y31 _ _ _ (by omega),zx1 _ hl,h',Option.bind_some,if_pos rfl,if_pos h0,w61 h1,wb9 _ _ (by omega)]
 unfold vf9;rw [List.getElem?_eq_getElem h1]
 rfl
theorem v75 {k:Nat} (s:jd2) (n:Int) (hl:s.2.1.length≤140737488351232) (hk:2≤k):ys2 k s n=some (zk9 s n):=by
 obtain ⟨k,rfl⟩:=jt (d:=1) hk;rw [vb7,w51 _ _ _ (by omega),zx1 _ hl]
 rfl
theorem jua {k:Nat} (s:jd2) (n t:Int) (hl:s.2.1.length≤140737488351232) (h:zk9 s n=true) (hk:6≤k):jn7 k s n t=some (vf9 s n t):=by
 obtain ⟨k,rfl⟩:=jt (d:=5) hk;have h':jp n (s.2.1.length:Int)=true:=h;obtain ⟨h0,h1⟩:=zp h';rw [xla,v75 _ _ hl (by omega),h,Option.bind_some,if_pos rfl,if_pos h0,w61 h1,j99 _ _ (by omega)]
 unfold vf9;rw [List.getElem?_eq_getElem h1]
 rfl
theorem wea {k:Nat} (a b:Int) (hk:1≤k):j77 k a b=some (mn a b):=by
 obtain ⟨k,rfl⟩:=jt (d:=0) hk;rw [xnb];unfold mn;by_cases h:b<a
 · rw [if_pos (by simpa using h),if_pos h]
 · rw [if_neg (by simpa using h),if_neg h]
def w57 (x:Int×Int):Int:=if inR x.2 0 359 then vp2 (IntKind.i64.wrap (vp2 x.1+IntKind.i64.wrap (x.2.tdiv 2))) else vp2 x.1
theorem xk9 {k:Nat} (x:Int×Int) (hk:4≤k):ye5 k x=some (w57 x):=by
 obtain ⟨k,rfl⟩:=jt (d:=3) hk;simp only [v89,y31 x.2 0 359 (show 1≤k by omega),Option.bind_some,yz1 x.1 (show 3≤k by omega)]
 unfold w57;cases inR x.2 0 359
 · rfl
 · simp only [Bool.not_true,Bool.false_eq_true,if_false,if_true];rw [yz1 _ (by omega)]
   rfl
theorem y29 {k:Nat} (x:Int×Int) (hk:4≤k):yf5 k x=some (w57 x):=by
 obtain ⟨k,rfl⟩:=jt (d:=3) hk;simp only [z49,y08 x.2 (show 2≤k by omega),Option.bind_some,yy1 x.1 (show 3≤k by omega)]
 unfold w57;cases inR x.2 0 359
 · rfl
 · simp only [Bool.not_true,Bool.false_eq_true,if_false,if_true];rw [yy1 _ (by omega)]
   rfl
def zdb (s:jd2) (t:Int):Int:=zh5 (0,0,s.2.2.2.2.2.2.1,0) t
theorem wjb {k:Nat} (s:jd2) (t:Int) (hk:5≤k):we8 k s t=some (zdb s t):=by
 obtain ⟨k,rfl⟩:=jt (d:=4) hk;rw [vhb,x08 _ _ (by omega)]
 rfl
theorem zbb {k:Nat} (s:jd2) (t:Int) (hk:5≤k):v78 k s t=some (zdb s t):=by
 obtain ⟨k,rfl⟩:=jt (d:=4) hk;rw [w9b,jv7 _ _ (by omega)]
 rfl
def gap (a b:Int):Int:=mn (vp2 (IntKind.i64.wrap (vp2 a-vp2 b))) (IntKind.i64.wrap (360-vp2 (IntKind.i64.wrap (vp2 a-vp2 b))))
theorem zeb {k:Nat} (a b:Int) (hk:4≤k):vc8 k a b=some (gap a b):=by
 obtain ⟨k,rfl⟩:=jt (d:=3) hk;rw [zkb,yz1 _ (by omega),Option.bind_some,yz1 _ (by omega),Option.bind_some,yz1 _ (by omega),Option.bind_some,wea _ _ (by omega)]
 rfl
theorem jib {k:Nat} (a b:Int) (hk:4≤k):vn8 k a b=some (gap a b):=by
 obtain ⟨k,rfl⟩:=jt (d:=3) hk;rw [w7b,yy1 _ (by omega),Option.bind_some,yy1 _ (by omega),Option.bind_some,yy1 _ (by omega),Option.bind_some]
 rfl
/-- 0: in the sun; 2: dark. -/
def j9b (lim g w:Int):Int:=if decide (IntKind.i64.wrap (g-IntKind.i64.wrap (w.tdiv 2))>lim)=true then 0 else if decide (IntKind.i64.wrap (g+IntKind.i64.wrap (w.tdiv 2))≤lim)=true then 2 else 1
def z14 (s:jd2) (n t:Int):Int:=if zk9 s n then j9b s.2.2.2.2.2.2.2.1 (gap (w57 (vf9 s n t)) (IntKind.i64.wrap (zdb s t+180))) (vf9 s n t).2 else 0
theorem yi9 {k:Nat} (s:jd2) (n t:Int) (hl:s.2.1.length≤140737488351232) (hk:8≤k):vd4 k s n t=some (z14 s n t):=by
  obtain ⟨k,rfl⟩:=jt (d:=7) hk;rw [jc9,y31 _ _ _ (by omega),zx1 _ hl,Option.bind_some]
  unfold z14;cases h:zk9 s n with
  | false=>
    have h':jp n (s.2.1.length:Int)=false:=h;rw [h'];rfl
  | true=>
    have h':jp n (s.2.1.length:Int)=true:=h;rw [h'];simp only [Bool.not_true,Bool.false_eq_true,if_false,if_true];rw [zna s n t hl h (by omega),Option.bind_some,xk9 _ (by omega),Option.bind_some,wjb _ _ (by omega),Option.bind_some,zeb _ _ (by omega),Option.bind_some]
    unfold j9b;split
    · rfl
    · split<;>rfl
theorem j19 {k:Nat} (s:jd2) (n t:Int) (hl:s.2.1.length≤140737488351232) (hk:8≤k):jg5 k s n t=some (z14 s n t):=by
  obtain ⟨k,rfl⟩:=jt (d:=7) hk;rw [vk9,v75 s n hl (by omega),Option.bind_some]
  unfold z14;cases h:zk9 s n with
  | false=>rfl
  | true=>
    simp only [Bool.not_true,Bool.false_eq_true,if_false,if_true];rw [jua s n t hl h (by omega),Option.bind_some,y29 _ (by omega),Option.bind_some,zbb _ _ (by omega),Option.bind_some,jib _ _ (by omega),Option.bind_some]
    unfold j9b;split
    · rfl
    · split<;>rfl
def y6b (xs:List (Int×Int)) (t:Int):List (Int×Int):=match xs[xs.length-1]? with
 | none=>[(t,IntKind.i64.wrap (t+1))]
 | some y=>if y.2==t then xs.set (xs.length-1) (y.1,IntKind.i64.wrap (t+1)) else xs++[(t,IntKind.i64.wrap (t+1))]
theorem zf7 (xs:List (Int×Int)) (t:Int):(y6b xs t).length≤xs.length+1:=by
 unfold y6b;split
 · simp
 · split<;>simp
theorem jy9 {xs:List (Int×Int)} (h0:0<xs.length) (h:xs.length≤1048576):IntKind.i64.wrap ((xs.length:Int)-1)=((xs.length-1:Nat):Int):=by
 rw [y9 (by omega) (by omega)]
 omega
theorem jdb {k:Nat} (xs:List (Int×Int)) (t:Int) (hl:xs.length≤1048576) (hk:1≤k):v88 k xs t=some (y6b xs t):=by
 obtain ⟨k,rfl⟩:=jt (d:=0) hk;rw [yfb];unfold y6b;by_cases h:0<xs.length
 · have e1:decide ((xs.length:Int)>0)=true:=by simp;omega
   have e2:((xs.length-1:Nat):Int).toNat=xs.length-1:=by simp
   have h1:xs.length-1<xs.length:=by omega
   rw [e1,if_pos (show (true==true)=true from rfl),jy9 h hl,if_pos (by omega),if_pos (by omega),e2,w61 h1,List.getElem?_eq_getElem h1]
   simp only
   by_cases hq:(xs[xs.length-1].2==t)=true
   · rw [if_pos hq,if_pos hq,if_pos (by omega),if_pos (by omega),w61 h1]
   · rw [if_neg hq,if_neg hq,if_pos (by simp;omega)]
 · have e1:decide ((xs.length:Int)>0)=false:=decide_eq_false (by omega)
   have e0:xs=[]:=List.eq_nil_of_length_eq_zero (by omega)
   subst e0;rfl
/-- The spans of the ticks i, i + 1, .. (m of them) where p holds. -/
def ym3 (p:Int→Bool):List (Int×Int)→Nat→Nat→List (Int×Int)
 | xs,_,0=>xs
 | xs,i,m+1=>ym3 p (if p (i:Int) then y6b xs (i:Int) else xs) (i+1) m
theorem wp9 (p:Int→Bool):∀(m i:Nat) (xs:List (Int×Int)),(ym3 p xs i m).length≤xs.length+m
  | 0,i,xs=>by simp [ym3]
  | m+1,i,xs=>by
    have:=wp9 p m (i+1) (if p (i:Int) then y6b xs (i:Int) else xs)
    have h2:=zf7 xs (i:Int);simp only [ym3];split at this<;>rename_i h<;>simp only [h] at* <;>simp at* <;>omega
def lit (s:jd2) (n T:Int):List (Int×Int):=ym3 (fun t=>z14 s n t==0) [] 0 (mn T 1000).toNat
theorem zpb (s:jd2) (n T:Int):(lit s n T).length≤1000:=by
 have h:=wp9 (fun t=>z14 s n t==0) (mn T 1000).toNat 0 []
 have:mn T 1000≤1000:=by unfold mn;split<;>omega
 simp only [List.length_nil] at h;unfold lit;omega
theorem wj8 {k:Nat} (s:jd2) (n:Int) (hl:s.2.1.length≤140737488351232) (hk:8≤k) (N:Nat) (hN:N≤1000):∀(m q i:Nat) (xs:List (Int×Int)),i+m=N→m<q→xs.length+m≤1048576→
    w43 k (fun (v0:Int×(List (Int×Int)))=>some v0.2) (n,(N:Int),s) q ((i:Int),xs)=some (ym3 (fun t=>z14 s n t==0) xs i m)
  | 0,q+1,i,xs,h,_,_=>by
    show (if decide ((i:Int)<(N:Int))=true then _ else _)=_
    rw [if_neg (by simp;omega)]
    rfl
  | m+1,q+1,i,xs,h,hq,hx=>by
    show (if decide ((i:Int)<(N:Int))=true then (vd4 k s n (i:Int)).bind _ else _)=_
    rw [if_pos (by simp;omega),yi9 s n _ hl hk,Option.bind_some]
    have hw:IntKind.i64.wrap ((i:Int)+1)=((i+1:Nat):Int):=by rw [y9 (by omega) (by omega)];omega
    have h2:=zf7 xs (i:Int);simp only [ym3];split
    · rw [jdb xs _ (by omega) (by omega),Option.bind_some]
      simp only [hw];exact wj8 s n hl hk N hN m q (i+1) _ (by omega) (by omega) (by omega)
    · simp only [hw];exact wj8 s n hl hk N hN m q (i+1) _ (by omega) (by omega) (by omega)
theorem xfa {k:Nat} (T:Int) (hk:1≤k):j95 (k+1) 0 T=some (0,((mn T 1000).toNat:Int)):=by
 rw [xt9,vn9 _ _ hk,Option.bind_some,wea _ _ hk,Option.bind_some,wea _ _ hk,Option.bind_some,vn9 _ _ hk,Option.bind_some]
 congr 1
 refine Prod.ext ?_ ?_
 · rfl
 · show mx 0 (mn 1000 T)=_
   unfold mx mn;split<;>split<;>(try split)<;>omega
theorem x79 {k:Nat} (s:jd2) (n T:Int) (hl:s.2.1.length≤140737488351232) (hk:1010≤k):yc4 k s n 0 T=some (lit s n T):=by
 obtain ⟨k,rfl⟩:=jt (d:=1009) hk;have hN:(mn T 1000).toNat≤1000:=by
  have:mn T 1000≤1000:=by unfold mn;split<;>omega
  omega
 obtain ⟨k,rfl⟩:=jt (d:=1008) (show 1009≤k by omega)
 rw [v79,xfa _ (by omega),Option.bind_some]
 exact wj8 s n hl (by omega) _ hN (mn T 1000).toNat (k+1) 0 [] (by omega) (by omega) (by simp;omega)
theorem vf7 {k:Nat} (s:jd2) (n t:Int) (hl:s.2.1.length≤140737488351232) (hk:9≤k):xt2 k t s.1 s.2.1 s.2.2.1 s.2.2.2.1 s.2.2.2.2.1 s.2.2.2.2.2.1 s.2.2.2.2.2.2.1 s.2.2.2.2.2.2.2.1 s.2.2.2.2.2.2.2.2.1 s.2.2.2.2.2.2.2.2.2 n=some (z14 s n t==0):=by
 obtain ⟨k,rfl⟩:=jt (d:=8) hk;rw [y87,j19 _ _ _ hl (by omega)]
 rfl
theorem z98 {k:Nat} (s:jd2) (n T:Int) (hl:s.2.1.length≤140737488351232) (hk:9≤k) (N:Nat) (hN:N≤1000) (hT:(mn T 1000).toNat=N):∀(m q i:Nat) (xs:List (Int×Int)),i+m=N→m<q→xs.length+m≤1048576→
    yu k (fun (v0:Int×(List (Int×Int)))=>some v0.2) (T,s.1,s.2.1,s.2.2.1,s.2.2.2.1,s.2.2.2.2.1,s.2.2.2.2.2.1,s.2.2.2.2.2.2.1,s.2.2.2.2.2.2.2.1,s.2.2.2.2.2.2.2.2.1,s.2.2.2.2.2.2.2.2.2,n) q ((i:Int),xs)=some (ym3 (fun t=>z14 s n t==0) xs i m)
  | 0,q+1,i,xs,h,_,_=>by
    show (if decide ((i:Int)<mn T 1000)=true then _ else _)=_
    rw [if_neg (by simp;omega)]
    rfl
  | m+1,q+1,i,xs,h,hq,hx=>by
    show (if decide ((i:Int)<mn T 1000)=true then (xt2 k (i:Int) s.1 s.2.1 s.2.2.1 s.2.2.2.1 s.2.2.2.2.1 s.2.2.2.2.2.1 s.2.2.2.2.2.2.1 s.2.2.2.2.2.2.2.1 s.2.2.2.2.2.2.2.2.1 s.2.2.2.2.2.2.2.2.2 n).bind _ else _)=_
    rw [if_pos (by simp;omega),vf7 s n _ hl hk,Option.bind_some]
    have hw:IntKind.i64.wrap ((i:Int)+1)=((i+1:Nat):Int):=by rw [y9 (by omega) (by omega)];omega
    have h2:=zf7 xs (i:Int);simp only [ym3];by_cases hs:(z14 s n (i:Int)==0)=true
    · rw [if_pos hs,hs,if_neg (by decide)]
      have ih:=z98 s n T hl hk N hN hT m q (i+1) (y6b xs (i:Int)) (by omega) (by omega) (by omega)
      rw [←ih];unfold y6b;by_cases h0:0<xs.length
      · have h1:xs.length-1<xs.length:=by omega
        have e2:((xs.length-1:Nat):Int).toNat=xs.length-1:=by simp
        have e1:decide (((xs.length-1:Nat):Int)≥0)=true:=by simp
        rw [jy9 h0 (by omega),e1,if_pos (show (true==true)=true from rfl),if_pos (by omega),if_pos (by omega),e2,w61 h1,List.getElem?_eq_getElem h1]
        simp only
        by_cases hq:(xs[xs.length-1].2==(i:Int))=true
        · rw [if_pos hq,if_pos (by omega),if_pos (by omega),w61 h1,if_pos (by omega),if_pos (by omega),w61 h1,if_pos hq,hw]
          have:xs[xs.length-1].2=(i:Int):=by simpa using hq
          rw [this,hw]
        · rw [if_neg hq,if_neg hq,if_pos (by simp;omega),hw]
      · have e0:xs=[]:=List.eq_nil_of_length_eq_zero (by omega)
        subst e0;rw [if_neg (show ¬(decide (IntKind.i64.wrap ((([]:List (Int×Int)).length:Int)-1)≥0)==true)=true from by decide),if_pos (by simp),hw]
        rfl
    · have hs':(z14 s n (i:Int)==0)=false:=by simpa using hs
      rw [if_neg hs,hs',if_pos (by decide),hw]
      exact z98 s n T hl hk N hN hT m q (i+1) xs (by omega) (by omega) (by omega)
theorem z39 {k:Nat} (s:jd2) (n T:Int) (hl:s.2.1.length≤140737488351232) (hk:1011≤k):jf5 k s n 0 T=some (lit s n T):=by
 obtain ⟨k,rfl⟩:=jt (d:=1010) hk;have hN:(mn T 1000).toNat≤1000:=by
  have:mn T 1000≤1000:=by unfold mn;split<;>omega
  omega
 obtain ⟨k,rfl⟩:=jt (d:=1009) (show 1010≤k by omega)
 rw [y99,wa3];have e:mx 0 0=((0:Nat):Int):=rfl;rw [e,z98 s n T hl (by omega) _ hN rfl (mn T 1000).toNat k 0 [] (by omega) (by omega) (by simp;omega)]
 rfl
def zza (w:TW) (n:Int):List (Int×Int):=lit w.1 n w.2.2.2.2.2.2.2.2.2.2.2.1
theorem vjb {k:Nat} (w:TW) (n:Int) (hl:w.1.2.1.length≤140737488351232) (hk:1011≤k):wi8 k w n=some (zza w n):=by
 obtain ⟨k,rfl⟩:=jt (d:=1010) hk;rw [ydb,x79 _ _ _ hl (by omega)]
 rfl
theorem xcb {k:Nat} (w:TW) (n:Int) (hl:w.1.2.1.length≤140737488351232) (hk:1012≤k):jo8 k w n=some (zza w n):=by
 obtain ⟨k,rfl⟩:=jt (d:=1011) hk;rw [yab,z39 _ _ _ hl (by omega)]
 rfl
def vx1 (xs:List (Int×Int)) (t:Int):Bool:=xs.any fun s=>zf1 s t
theorem vt9 {k:Nat} (xs:List (Int×Int)) (t:Int) (hl:xs.length≤140737488351232) (hk:xs.length+4≤k):j24 k xs t=some (vx1 xs t):=by
 obtain ⟨k,rfl⟩:=jt (d:=0) (show 1≤k by omega)
 refine (z5a k xs t).trans (zu3 (a:=xs) (fun _ l=>some (vx1 l t)) (fun _ _=>rfl) hl rfl (fun m i x r h0 hn hw hi hx ih=> ?_) (by omega))
 dsimp only;rw [hw,ih,jd7 _ _ (by omega),Option.bind_some]
 unfold vx1;rw [List.any_cons];cases zf1 x t<;>rfl
def x21 (p:Nat→Bool):List Bool:=(List.range 1000).map p
theorem zla (p:Nat→Bool) {j:Nat} (hj:j<1000):(x21 p).set j true=x21 fun u=>p u || u==j:=by
 unfold x21;apply List.ext_getElem
 · simp
 · intro u h1 h2;simp only [List.length_set,List.length_map,List.length_range] at h1;rw [List.getElem_set];simp only [List.getElem_map,List.getElem_range];by_cases e:j=u
   · subst e;simp
   · rw [if_neg e]
     have:(u==j)=false:=by simp;omega
     rw [this,Bool.or_false]
theorem y58 {k:Nat} {R:Type} (X:z92→Option R) (c:zf3) (N:Nat) (hN:N≤1000) (hc:c.2.2.2.2=(N:Int)):∀(m q i:Nat) (p:Nat→Bool),i+m=N→m<q→
    z24 k X c q ((i:Int),x21 p)=X ((N:Int),x21 fun u=>p u || (decide (i≤u)&&decide (u<N)))
  | 0,q+1,i,p,h,_=>by
    show (if decide ((i:Int)<c.2.2.2.2)=true then _ else _)=_
    rw [hc,if_neg (by simp;omega)]
    have e:(fun u=>p u || (decide (i≤u)&&decide (u<N)))=p:=by
      funext u
      have:(decide (i≤u)&&decide (u<N))=false:=by simp;omega
      rw [this,Bool.or_false]
    have hi:i=N:=by omega
    rw [e,hi]
  | m+1,q+1,i,p,h,hq=>by
    show (if decide ((i:Int)<c.2.2.2.2)=true then (if 0≤(i:Int) then (if (i:Int)<((x21 p).length:Int) then ix (x21 p) (i:Int).toNat fun _=>z24 k X c q ((IntKind.i64.wrap ((i:Int)+1)),((x21 p).set (i:Int).toNat true)) else none) else none) else _)=_
    have hlen:(x21 p).length=1000:=by simp [x21]
    have hn:(i:Int).toNat=i:=by simp
    rw [hc,if_pos (by simp;omega),if_pos (by omega),if_pos (by omega),hn,w61 (by omega),zla p (by omega)]
    have hw:IntKind.i64.wrap ((i:Int)+1)=((i+1:Nat):Int):=by rw [y9 (by omega) (by omega)];omega
    rw [hw,y58 X c N hN hc m q (i+1) _ (by omega) (by omega)]
    congr 2
    refine congrArg x21 (funext fun u=> ?_)
    by_cases e:u=i
    · subst e
      have:decide (u<N)=true:=by simp;omega
      simp [this]
    · have e1:(u==i)=false:=by simp [e]
      have e2:decide (i+1≤u)=decide (i≤u):=by
        by_cases h:i≤u
        · rw [decide_eq_true h,decide_eq_true (by omega)]
        · rw [decide_eq_false h,decide_eq_false (by omega)]
      rw [e1,e2,Bool.or_false]
theorem yjb {k:Nat} (xs:List (Int×Int)) (hl:xs.length≤140737488351232) (hk:xs.length+1010≤k):vl6 k xs=some (x21 fun u=>vx1 xs (u:Int)):=by
  obtain ⟨k,rfl⟩:=jt (d:=0) (show 1≤k by omega)
  have e0:List.replicate (1000:Int).toNat false=x21 fun _=>false:=by
    unfold x21;rw [List.map_const'];simp
  refine (wgb k xs).trans ?_
  rw [e0];refine (yx8 (S:=Nat→Bool) (a:=xs) (fun p i=>(i,x21 p)) (fun p _ l=>some (x21 fun u=>p u || vx1 l (u:Int))) (fun _ _ _=>rfl) hl (fun p=>by simp [vx1]) (fun m i p x r h0 hn hw hi hx ih=> ?_) (by omega) (fun _=>false)).trans ?_
  · dsimp only;rw [je7 _ (by omega),Option.bind_some,hw]
    cases hs:vq3 x with
    | false=>
      rw [if_neg (by decide),ih]
      have e:∀u:Int,zf1 x u=false:=fun u=>by unfold zf1;rw [hs];rfl
      simp [vx1,e]
    | true=>
      have hs':=hs;unfold vq3 at hs';simp only [Bool.and_eq_true,decide_eq_true_eq] at hs';rw [if_pos rfl];obtain ⟨a,ha⟩:∃a:Nat,x.1=(a:Int):=⟨x.1.toNat,by omega⟩
      obtain ⟨b,hb⟩:∃b:Nat,x.2=(b:Int):=⟨x.2.toNat,by omega⟩
      rw [ha,y58 _ _ b (by omega) hb (b-a) _ a p (by omega) (by omega)]
      simp only
      rw [ih]
      congr 1
      refine congrArg x21 (funext fun u=> ?_)
      have e:zf1 x (u:Int)=(decide (a≤u)&&decide (u<b)):=by
        unfold zf1;rw [hs,ha,hb,Bool.true_and]
        congr 1
        · by_cases h:a≤u
          · rw [decide_eq_true h,decide_eq_true (by omega)]
          · rw [decide_eq_false h,decide_eq_false (by omega)]
        · by_cases h:u<b
          · rw [decide_eq_true h,decide_eq_true (by omega)]
          · rw [decide_eq_false h,decide_eq_false (by omega)]
      unfold vx1;rw [List.any_cons,e,Bool.or_assoc]
  · simp
abbrev TB:=Int×Int×Int×Int×Int×Int
def z26 (b:TB) (xs:List (Int×Int)) (u v:Int):Int:=if vx1 xs u then mx 0 (IntKind.i64.wrap (IntKind.i64.wrap (v+b.2.2.2.1)-b.2.2.2.2.2)) else mx 0 (IntKind.i64.wrap (v+b.2.2.2.1))
/-- What is needed at tick lo, m ticks ahead of the end. -/
def y02 (b:TB) (xs:List (Int×Int)):Nat→Nat→Int
 | _,0=>0
 | lo,m+1=>z26 b xs (lo:Int) (y02 b xs (lo+1) m)
theorem w8a (b:TB) (xs:List (Int×Int)) {lo m n:Nat} (h:m+1≤n):y02 b xs (lo+m) (n-m)=z26 b xs ((lo+m:Nat):Int) (y02 b xs (lo+(m+1)) (n-(m+1))):=by
 have:n-m=(n-(m+1))+1:=by omega
 rw [this,y02];rfl
theorem yh6 {k:Nat} (b:TB) (xs:List (Int×Int)) (hl:xs.length≤1000) (hk:1004≤k) (lo n:Nat) (hn:lo+n≤1000):∀(m q:Nat),m≤n→m<q→
    yd4 k (fun (v0:Int×Int)=>some v0.1) (xs,(lo:Int),b) q (y02 b xs (lo+m) (n-m),((lo+m:Nat):Int)-1)=some (y02 b xs lo n)
  | 0,q+1,_,_=>by
    show (if decide (((lo+0:Nat):Int)-1≥(lo:Int))=true then _ else _)=_
    rw [if_neg (by simp;omega)]
    rfl
  | m+1,q+1,hm,hq=>by
    have e:((lo+(m+1):Nat):Int)-1=((lo+m:Nat):Int):=by omega
    rw [e];show (if decide (((lo+m:Nat):Int)≥(lo:Int))=true then (j24 k xs ((lo+m:Nat):Int)).bind _ else _)=_
    have hw:IntKind.i64.wrap (((lo+m:Nat):Int)-1)=((lo+m:Nat):Int)-1:=y9 (by omega) (by omega)
    rw [if_pos (by simp;omega),vt9 _ _ (by omega) (by omega),Option.bind_some]
    have ih:=yh6 b xs hl hk lo n hn m q (by omega) (by omega)
    rw [w8a b xs hm] at ih;unfold z26 at ih;cases hs:vx1 xs ((lo+m:Nat):Int) with
    | true=>
      rw [if_pos rfl,vn9 _ _ (by omega),Option.bind_some,hw]
      rw [hs,if_pos rfl] at ih;exact ih
    | false=>
      rw [if_neg (by decide),vn9 _ _ (by omega),Option.bind_some,hw]
      rw [hs,if_neg (by decide)] at ih
      exact ih
def zm9 (b:TB):Bool:=inR b.2.2.2.1 0 100&&inR b.2.2.2.2.2 0 100
theorem xz6 {k:Nat} (b:TB) (hk:2≤k):jc3 k b=some (zm9 b):=by
 obtain ⟨k,rfl⟩:=jt (d:=1) hk;rw [j79,y31 _ _ _ (by omega),Option.bind_some]
 unfold zm9;cases inR b.2.2.2.1 0 100
 · rfl
 · rw [if_pos (show (true==true)=true from rfl),y31 _ _ _ (by omega)]
   rfl
def y67 (b:TB) (xs:List (Int×Int)) (lo hi:Int):Int:=if zm9 b then if lo<0 then 0 else if hi>1000 then 0 else if hi≤lo then 0 else y02 b xs lo.toNat (hi-lo).toNat else 0
theorem wta {k:Nat} (b:TB) (xs:List (Int×Int)) (lo hi:Int) (hl:xs.length≤1000) (hk:1006≤k):j26 k b xs lo hi=some (y67 b xs lo hi):=by
 obtain ⟨k,rfl⟩:=jt (d:=1005) hk;rw [xqa,xz6 _ (by omega),Option.bind_some]
 unfold y67;cases zm9 b
 · rfl
 · rw [if_pos (show ((!true)==false)=true from rfl),if_pos rfl]
   by_cases h1:lo<0
   · rw [if_neg (by simp;omega),if_pos h1]
   · rw [if_pos (by simp;omega),if_neg h1]
     by_cases h2:hi>1000
     · rw [if_neg (by simp;omega),if_pos h2]
     · rw [if_pos (by simp;omega),if_neg h2]
       by_cases h3:hi≤lo
       · rw [if_pos (by simpa using h3),if_pos h3]
       · rw [if_neg (by simpa using h3),if_neg h3]
         obtain ⟨a,rfl⟩:∃a:Nat,lo=(a:Int):=⟨lo.toNat,by omega⟩
         obtain ⟨c,rfl⟩:∃c:Nat,hi=(c:Int):=⟨hi.toNat,by omega⟩
         have e1:((c:Int)-(a:Int)).toNat=c-a:=by omega
         have e2:(a:Int).toNat=a:=by simp
         have:=yh6 b xs hl (show 1004≤k by omega) a (c-a) (by omega) (c-a) k (by omega) (by omega)
         rw [show a+(c-a)=c by omega,show c-a-(c-a)=0 by omega] at this
         rw [e1,e2,y9 (by omega) (by omega)]
         exact this
theorem w37 {k:Nat} (b:TB) (xs:List (Int×Int)) (lo n:Nat) (hn:lo+n≤1000):∀(m q:Nat) (out:List Int),m≤n→m<q→out.length=n+1→out[m]? =some (y02 b xs (lo+m) (n-m))→
    ∃out',vz3 k (fun (v0:Int×(List Int))=>some v0.2) ((lo:Int),x21 (fun u=>vx1 xs (u:Int)),b) q (((lo+m:Nat):Int)-1,out)=some out'∧out'[0]? =some (y02 b xs lo n)
  | 0,q+1,out,_,_,_,h0=>by
    refine ⟨out,?_,h0⟩
    show (if decide (((lo+0:Nat):Int)-1≥(lo:Int))=true then _ else _)=_
    rw [if_neg (by simp;omega)]
  | m+1,q+1,out,hm,hq,hlen,h0=>by
    have hm1:m+1<out.length:=by omega
    have hm0:m<out.length:=by omega
    have e:((lo+(m+1):Nat):Int)-1=((lo+m:Nat):Int):=by omega
    have h0':out[m+1]=y02 b xs (lo+(m+1)) (n-(m+1)):=by
      rw [List.getElem?_eq_getElem hm1] at h0
      exact Option.some.inj h0
    obtain ⟨out',h1,h2⟩:=w37 (k:=k) b xs lo n hn m q (out.set m (y02 b xs (lo+m) (n-m))) (by omega) (by omega) (by simpa using hlen) (by rw [List.getElem?_set];simp [hm0])
    refine ⟨out',?_,h2⟩
    rw [←h1,e];have hw:IntKind.i64.wrap (((lo+m:Nat):Int)-1)=((lo+m:Nat):Int)-1:=y9 (by omega) (by omega)
    have hw1:IntKind.i64.wrap (((lo+m:Nat):Int)-(lo:Int))=(m:Int):=by rw [y9 (by omega) (by omega)];omega
    have hw2:IntKind.i64.wrap ((m:Int)+1)=((m+1:Nat):Int):=by rw [y9 (by omega) (by omega)];omega
    have hn1:((m+1:Nat):Int).toNat=m+1:=by simp
    have hn0:(m:Int).toNat=m:=by simp
    have hnu:((lo+m:Nat):Int).toNat=lo+m:=by omega
    have htl:(x21 (fun u=>vx1 xs (u:Int))).length=1000:=by simp [x21]
    have ht:(x21 (fun u=>vx1 xs (u:Int)))[lo+m]'(by omega)=vx1 xs ((lo+m:Nat):Int):=by simp [x21]
    show (jb5 k (fun (v0:Int×(List Int))=>some v0.2) ((lo:Int),x21 (fun u=>vx1 xs (u:Int)),b) (vz3 k (fun (v0:Int×(List Int))=>some v0.2) ((lo:Int),x21 (fun u=>vx1 xs (u:Int)),b) q) (((lo+m:Nat):Int),out))=_
    unfold jb5;dsimp only;rw [if_pos (by simp;omega),hw1,hw2,hn1,hn0,hnu,hw,if_pos (by omega),if_pos (by omega),w61 hm1,h0',if_pos (by omega),w61 (by omega),ht,w8a b xs hm]
    unfold z26;split
    · rename_i hs;rw [if_pos (by omega),if_pos (by omega),w61 hm0]
    · rename_i hs;rw [if_pos (by omega),if_pos (by omega),w61 hm0]
theorem jeb {k:Nat} (b:TB) (xs:List (Int×Int)) (lo hi:Int) (hl:xs.length≤1000) (hk:2012≤k):∃out,x97 k b xs lo hi=some out∧out[0]? =some (y67 b xs lo hi):=by
 obtain ⟨k,rfl⟩:=jt (d:=2011) hk;rw [xdb,w51 _ _ _ (by omega),Option.bind_some]
 unfold y67 zm9;cases h0:inR b.2.2.2.1 0 100
 · exact ⟨_,rfl,rfl⟩
 · rw [if_pos (show ((!true)==false)=true from rfl),w51 _ _ _ (by omega),Option.bind_some]
   cases h0':inR b.2.2.2.2.2 0 100
   · exact ⟨_,rfl,rfl⟩
   · rw [if_pos (show ((!true)==false)=true from rfl),if_pos (show (true&&true)=true from rfl)]
     by_cases h1:lo<0
     · rw [if_neg (by simp;omega),if_pos h1];exact ⟨_,rfl,rfl⟩
     · rw [if_pos (by simp;omega),if_neg h1]
       by_cases h2:hi>1000
       · rw [if_neg (by simp;omega),if_pos h2];exact ⟨_,rfl,rfl⟩
       · rw [if_pos (by simp;omega),if_neg h2]
         by_cases h3:hi≤lo
         · rw [if_pos (by simpa using h3),if_pos h3];exact ⟨_,rfl,rfl⟩
         · rw [if_neg (by simp;omega),if_neg h3,yjb _ (by omega) (by omega),Option.bind_some]
           obtain ⟨a,rfl⟩:∃a:Nat,lo=(a:Int):=⟨lo.toNat,by omega⟩
           obtain ⟨c,rfl⟩:∃c:Nat,hi=(c:Int):=⟨hi.toNat,by omega⟩
           have e1:((c:Int)-(a:Int)).toNat=c-a:=by omega
           have e2:(a:Int).toNat=a:=by simp
           have hw:IntKind.i64.wrap (IntKind.i64.wrap ((c:Int)-(a:Int))+1)=((c-a+1:Nat):Int):=by
            rw [y9 (n:=(c:Int)-(a:Int)) (by omega) (by omega),y9 (by omega) (by omega)]
            omega
           have hw1:IntKind.i64.wrap ((c:Int)-1)=((a+(c-a):Nat):Int)-1:=by rw [y9 (by omega) (by omega)];omega
           have hn1:((c-a+1:Nat):Int).toNat=c-a+1:=by simp
           rw [hw,if_pos (beq_self_eq_true _),if_pos (by omega),hn1,if_pos (by omega),hw1,e1,e2]
           exact w37 b xs a (c-a) (by omega) (c-a) k _ (by omega) (by omega) (by simp) (by rw [show c-a-(c-a)=0 by omega];rw [List.getElem?_replicate];simp [y02])
theorem jza {k:Nat} (b:TB) (xs:List (Int×Int)) (lo hi:Int) (hl:xs.length≤1000) (hk:2013≤k):w87 k b xs lo hi=some (y67 b xs lo hi):=by
 obtain ⟨k,rfl⟩:=jt (d:=2012) hk;obtain ⟨out,h1,h2⟩:=jeb (k:=k) b xs lo hi hl (by omega)
 rw [vka,h1,Option.bind_some];have hlt:0<out.length:=by
  rcases Nat.eq_zero_or_pos out.length with h | h
  · rw [List.getElem?_eq_none (by omega)] at h2;cases h2
  · exact h
 rw [if_pos (by omega)]
 unfold ix;rw [show (0:Int).toNat=0 from rfl,h2]
theorem xz8 (w:TW) (n:Int):(zza w n).length≤1000:=zpb _ _ _
def vg6 (w:TW) (n:Int):Int:=if jp n (w.2.2.2.2.1.length:Int) then match w.2.2.2.2.1[n.toNat]? with
 | some b=>y67 b (zza w n) w.2.2.2.2.2.2.2.2.2.2.1 w.2.2.2.2.2.2.2.2.2.2.2.1
 | none=>0
 else 0
theorem j9a {k:Nat} (w:TW) (n:Int) (h1:w.1.2.1.length≤1048576) (h2:w.2.2.2.2.1.length≤1048576) (hk:1020≤k):yg6 k w n=some (vg6 w n):=by
  obtain ⟨k,rfl⟩:=jt (d:=1019) hk;rw [w6a,y31 _ _ _ (by omega),zx1 _ (by omega),Option.bind_some]
  unfold vg6;cases h:jp n (w.2.2.2.2.1.length:Int) with
  | false=>rfl
  | true=>
    obtain ⟨h0,hlt⟩:=zp h;rw [if_neg (by decide),if_pos h0,w61 hlt,List.getElem?_eq_getElem hlt,vjb w n (by omega) (by omega),Option.bind_some,wta _ _ _ _ (xz8 w n) (by omega)]
    rfl
theorem wfa {k:Nat} (w:TW) (n:Int) (h1:w.1.2.1.length≤1048576) (h2:w.2.2.2.2.1.length≤1048576) (hk:2020≤k):vk6 k w n=some (vg6 w n):=by
  obtain ⟨k,rfl⟩:=jt (d:=2019) hk;rw [x0a,xf1 _ _ (by omega),Option.bind_some]
  unfold vg6;cases h:jp n (w.2.2.2.2.1.length:Int) with
  | false=>rfl
  | true=>
    obtain ⟨h0,hlt⟩:=zp h;rw [if_neg (by decide),if_pos h0,w61 hlt,List.getElem?_eq_getElem hlt,xcb w n (by omega) (by omega),Option.bind_some,jza _ _ _ _ (xz8 w n) (by omega)]
    rfl
def jc8 (b:TB):Bool:=inR b.2.2.2.1 0 100&&(inR b.2.2.2.2.1 0 100&&(inR b.2.2.2.2.2 0 100&&(inR b.2.1 0 10000&&(inR b.2.2.1 0 b.2.1&&inR b.1 b.2.2.1 b.2.1))))
theorem zr8 {k:Nat} (b:TB) (hk:3≤k):xs4 k b=some (jc8 b):=by
 obtain ⟨k,rfl⟩:=jt (d:=2) hk;simp only [w78,xz6 b (show 2≤k by omega),Option.bind_some,y31 _ _ _ (show 1≤k by omega)]
 unfold jc8 zm9;cases inR b.2.2.2.1 0 100<;>cases inR b.2.2.2.2.1 0 100<;>cases inR b.2.2.2.2.2 0 100<;>cases inR b.2.1 0 10000<;>cases inR b.2.2.1 0 b.2.1<;>rfl
theorem yt8 {k:Nat} (b:TB) (hk:2≤k):wq4 k b=some (jc8 b):=by
 obtain ⟨k,rfl⟩:=jt (d:=1) hk;simp only [zd8,Option.bind_some,w51 _ _ _ (show 1≤k by omega)]
 unfold jc8;cases inR b.2.2.2.1 0 100<;>cases inR b.2.2.2.2.1 0 100<;>cases inR b.2.2.2.2.2 0 100<;>cases inR b.2.1 0 10000<;>cases inR b.2.2.1 0 b.2.1<;>rfl
def vs6 (b:TB) (v:Int):Bool:=jc8 b&&(inR v 0 10000&&decide (IntKind.i64.wrap (b.1-b.2.2.2.2.1)≥IntKind.i64.wrap (b.2.2.1+v)))
theorem wia {k:Nat} (b:TB) (v:Int) (hk:4≤k):zr6 k b v=some (vs6 b v):=by
 obtain ⟨k,rfl⟩:=jt (d:=3) hk;simp only [vha,zr8 b (show 3≤k by omega),Option.bind_some,y31 _ _ _ (show 1≤k by omega)]
 unfold vs6;cases jc8 b<;>cases inR v 0 10000<;>rfl
theorem jda {k:Nat} (b:TB) (v:Int) (hk:4≤k):wf6 k b v=some (vs6 b v):=by
 obtain ⟨k,rfl⟩:=jt (d:=3) hk;simp only [zs9,yt8 b (show 2≤k by omega),Option.bind_some,w51 _ _ _ (show 1≤k by omega)]
 unfold vs6;cases jc8 b<;>cases inR v 0 10000<;>rfl
def ji5 (w:TW) (n:Int):Bool:=jp n w.2.1.1&&(!jm8 w.2.2.2.2.2.2.2.2.2.1 n w.2.2.2.2.2.2.2.2.2.2.1&&(if n≥w.2.1.2.1 then true else if jp n (w.2.2.2.2.1.length:Int) then match w.2.2.2.2.1[n.toNat]? with
 | some b=>vs6 b (vg6 w n)
 | none=>false
 else false))
theorem zba {k:Nat} (w:TW) (n:Int) (h1:w.1.2.1.length≤1048576) (h2:w.2.2.2.2.1.length≤1048576) (h3:w.2.2.2.2.2.2.2.2.2.1.length≤1048576) (hk:w.2.2.2.2.2.2.2.2.2.1.length+1030≤k):xb5 k w n=some (ji5 w n):=by
  obtain ⟨k,rfl⟩:=jt (d:=1029) (show 1030≤k by omega)
  rw [w4a];unfold ji5;by_cases g1:n<0
  · rw [if_neg (by simp;omega)]
    have:jp n w.2.1.1=false:=by unfold jp;simp;omega
    rw [this];rfl
  · rw [if_pos (by simp;omega)]
    by_cases g2:n≥w.2.1.1
    · rw [if_neg (by simp;omega)]
      have:jp n w.2.1.1=false:=by unfold jp;simp;omega
      rw [this];rfl
    · rw [if_pos (by simp;omega),ja7 _ _ _ (by omega) (by omega),Option.bind_some]
      have:jp n w.2.1.1=true:=by unfold jp;simp;omega
      rw [this];cases jm8 w.2.2.2.2.2.2.2.2.2.1 n w.2.2.2.2.2.2.2.2.2.2.1
      · rw [if_neg (by decide)]
        by_cases g3:n≥w.2.1.2.1
        · rw [if_pos (by simpa using g3),if_pos g3];rfl
        · rw [if_neg (by simpa using g3),if_neg g3]
          cases h:jp n (w.2.2.2.2.1.length:Int) with
          | false=>
            have:¬n<(w.2.2.2.2.1.length:Int):=fun hlt=>by unfold jp at h;simp at h;omega
            rw [if_neg (by simp;omega)]
            rfl
          | true=>
            obtain ⟨h0,hlt⟩:=zp h;rw [if_pos (by simp;omega),if_pos h0,w61 hlt,List.getElem?_eq_getElem hlt,j9a w n h1 h2 (by omega),Option.bind_some,wia _ _ (by omega)]
            rfl
      · rfl
theorem y1a {k:Nat} (w:TW) (n:Int) (h1:w.1.2.1.length≤1048576) (h2:w.2.2.2.2.1.length≤1048576) (h3:w.2.2.2.2.2.2.2.2.2.1.length≤1048576) (hk:w.2.2.2.2.2.2.2.2.2.1.length+2030≤k):ww4 k w n=some (ji5 w n):=by
  obtain ⟨k,rfl⟩:=jt (d:=2029) (show 2030≤k by omega)
  rw [zr9,xf1 _ _ (by omega),Option.bind_some]
  unfold ji5;cases jp n w.2.1.1
  · rfl
  · rw [if_pos (by decide),ym7 _ _ _ (by omega) (by omega),Option.bind_some]
    cases jm8 w.2.2.2.2.2.2.2.2.2.1 n w.2.2.2.2.2.2.2.2.2.2.1
    · rw [if_neg (by decide)]
      by_cases g3:n≥w.2.1.2.1
      · rw [if_neg (by simp;omega),if_pos g3];rfl
      · rw [if_pos (by simp;omega),if_neg g3,xf1 _ _ (by omega),Option.bind_some]
        cases h:jp n (w.2.2.2.2.1.length:Int) with
        | false=>rfl
        | true=>
          obtain ⟨h0,hlt⟩:=zp h;rw [if_pos (by decide),if_pos h0,w61 hlt,List.getElem?_eq_getElem hlt,wfa w n h1 h2 (by omega),Option.bind_some,jda _ _ (by omega)]
          rfl
    · rfl
end Go.Proofs.YtkgjmgaccfmhpaaGreat.World
namespace Go.Proofs.YtkgjmgaccfmhpaaGreat.World
open Go Go.V Go.Proofs
set_option linter.unusedVariables false
set_option linter.unusedSimpArgs false
set_option maxRecDepth 100000
set_option maxHeartbeats 4000000
/-! ### who goes first -/
abbrev TPk:Type:=Int×Int×Int×Int×Int×Int
def jd5 (p:TPk→Bool):Nat→List TPk→List Int
 | _,[]=>[]
 | i,x::r=>if p x=true then (i:Int)::jd5 p (i+1) r else jd5 p (i+1) r
theorem wk7 (p:TPk→Bool):∀(l:List TPk) (i:Nat),(jd5 p i l).length≤l.length
  | [],_=>Nat.le_refl 0
  | x::r,i=>by
    have:=wk7 p r (i+1)
    unfold jd5;split
    · simpa using this
    · simp;omega
theorem zo7 (p:TPk→Bool):∀(l:List TPk) (i:Nat) (y:Int),y ∈ jd5 p i l→∃j,y=((i+j:Nat):Int)∧j<l.length
  | [],_,y,h=>by simp [jd5] at h
  | x::r,i,y,h=>by
    unfold jd5 at h;have hrec:y ∈ jd5 p (i+1) r→∃j,y=((i+j:Nat):Int)∧j<(x::r).length:=fun h=>by
      obtain ⟨j,h1,h2⟩:=zo7 p r (i+1) y h;exact ⟨j+1,by omega,by simpa using h2⟩
    split at h
    · rcases List.mem_cons.1 h with h | h
      · exact ⟨0,by simpa using h,by simp⟩
      · exact hrec h
    · exact hrec h
def p1 (x:TPk):Bool:=x.2.2.2.2.2==1
def p2 (x:TPk):Bool:=x.2.2.2.2.2 !=1
def jw5 (q:List TPk):List Int:=jd5 p1 0 q++jd5 p2 0 q
theorem vw9 {k:Nat} (q:List TPk) (hl:q.length≤1048576) (hk:q.length+3≤k):vg3 k q=some (jw5 q):=by
 obtain ⟨k,rfl⟩:=jt (d:=0) (show 1≤k by omega)
 have h2:∀(s0:List Int) (z:Int),s0.length≤1048576→j12 k (fun (v1:Int×(List Int))=>some v1.2) (z,q) k (0,s0)=some (s0++jd5 p2 0 q):=by
  intro s0 z hs0;refine yc2 (L:=j12 k (fun (v1:Int×(List Int))=>some v1.2) (z,q)) (a:=q) (fun (s:List Int) i=>(i,s)) (fun s i r=>some (s++jd5 p2 i r)) (X:=fun s _=>some s) (fun s i=>s.length≤s0.length+i) (fun _ _ _=>rfl) (by omega) (fun s _=>by simp [jd5]) (fun n i s x r hI h0 ht hw hi hx ih=> ?_) (by omega) s0 (by omega)
  dsimp only;rw [hw];show _=some (s++(if p2 x=true then (i:Int)::jd5 p2 (i+1) r else jd5 p2 (i+1) r))
  by_cases h:p2 x=true
  · rw [if_pos (show (x.2.2.2.2.2 !=1)=true from h),if_pos (by simp;omega),ih _ (by simp;omega),if_pos h]
    simp
  · rw [if_neg (show ¬(x.2.2.2.2.2 !=1)=true from h),ih _ (by omega),if_neg h]
 refine (vq9 k q).trans ((yc2 (L:=v03 k (fun (v0:Int×(List Int))=>j12 k (fun (v1:Int×(List Int))=>some v1.2) (v0.1,q) k (0,v0.2)) q) (a:=q) (fun (s:List Int) i=>(i,s)) (fun s i r=>some (s++jd5 p1 i r++jd5 p2 0 q)) (X:=fun s i=>j12 k (fun (v1:Int×(List Int))=>some v1.2) (i,q) k (0,s)) (fun s i=>s.length≤i) (fun _ _ _=>rfl) (by omega) (fun s hs=>by rw [h2 s _ (by omega)];simp [jd5]) (fun n i s x r hI h0 ht hw hi hx ih=> ?_) (by omega) [] (by simp)).trans (by simp [jw5]))
 dsimp only;rw [hw];show _=some (s++(if p1 x=true then (i:Int)::jd5 p1 (i+1) r else jd5 p1 (i+1) r)++jd5 p2 0 q)
 by_cases h:p1 x=true
 · rw [if_pos (show (x.2.2.2.2.2==1)=true from h),if_pos (by simp;omega),ih _ (by simp;omega),if_pos h]
   simp
 · rw [if_neg (show ¬(x.2.2.2.2.2==1)=true from h),ih _ (by omega),if_neg h]
theorem jha {k:Nat} (q:List TPk) (hl:q.length≤1048576) (hk:q.length+3≤k):zv3 k q=some (jw5 q):=by
 obtain ⟨k,rfl⟩:=jt (d:=0) (show 1≤k by omega)
 refine (wu9 k q).trans ((yc2 (L:=zn3 k (fun (v0:Int×(List Int)×(List Int))=>if (v0.2.1.length+v0.2.2.length)*8≤140737488355328 then some (v0.2.1++v0.2.2) else none) (q,(q.length:Int))) (a:=q) (fun (s:List Int×List Int) i=>(i,s.1,s.2)) (fun s i r=>some ((s.1++jd5 p1 i r)++(s.2++jd5 p2 i r))) (X:=fun s _=>if (s.1.length+s.2.length)*8≤140737488355328 then some (s.1++s.2) else none) (fun s i=>s.1.length≤i∧s.2.length≤i) (fun _ _ _=>rfl) (by omega) (fun s hs=>by rw [if_pos (by omega)];simp [jd5]) (fun n i s x r hI h0 ht hw hi hx ih=> ?_) (by omega) ([],[]) (by simp)).trans (by simp [jw5]))
 obtain ⟨I1,I2⟩:=hI;dsimp only;rw [hw];show _=some ((s.1++(if p1 x=true then (i:Int)::jd5 p1 (i+1) r else jd5 p1 (i+1) r))++(s.2++(if p2 x=true then (i:Int)::jd5 p2 (i+1) r else jd5 p2 (i+1) r)))
 by_cases h:p1 x=true
 · have h':¬p2 x=true:=by unfold p1 at h;unfold p2;rw [bne,h];decide
   rw [if_pos (show (x.2.2.2.2.2==1)=true from h),if_pos (by simp;omega),if_pos h,if_neg h']
   refine (ih (s.1++[(i:Int)],s.2) ⟨by simp;omega,by simp;omega⟩).trans ?_
   simp
 · have h':p2 x=true:=by unfold p1 at h;unfold p2;rw [bne];simpa using h
   rw [if_neg (show ¬(x.2.2.2.2.2==1)=true from h),if_pos (by simp;omega),if_neg h,if_pos h']
   refine (ih (s.1,s.2++[(i:Int)]) ⟨by simp;omega,by simp;omega⟩).trans ?_
   simp
/-! ### what a node sends -/
def pick (q:List TPk) (hop:Int→Int):List Int→TPk×Int×Bool
 | []=>((0,0,0,0,0,0),-1,false)
 | x::r=>if hop ((q[x.toNat]?).getD (0,0,0,0,0,0)).2.2.2.2.1≥0 then ((q[x.toNat]?).getD (0,0,0,0,0,0),hop ((q[x.toNat]?).getD (0,0,0,0,0,0)).2.2.2.2.1,true) else pick q hop r
theorem y18 (q:List TPk) (hop:Int→Int) (x:Int) (r:List Int):pick q hop (x::r)=if hop ((q[x.toNat]?).getD (0,0,0,0,0,0)).2.2.2.2.1≥0 then ((q[x.toNat]?).getD (0,0,0,0,0,0),hop ((q[x.toNat]?).getD (0,0,0,0,0,0)).2.2.2.2.1,true) else pick q hop r:=rfl
theorem j49 {k N:Nat} (w:TW) (n:Int) (hr:va N xi w) (hN:N≤1048576) (hk:2*N+5000≤k):
    ∃c,v13 k w n=some c∧j03 k w n=some c:=by
  obtain ⟨k,rfl⟩:=jt (d:=0) (show 1≤k by omega)
  have l1:w.1.2.1.length≤N:=(vd hr.1.2.1).1;have l5:w.2.2.2.2.1.length≤N:=(vd hr.2.2.2.2.1).1;have l10:w.2.2.2.2.2.2.2.2.2.1.length≤N:=(vd hr.2.2.2.2.2.2.2.2.2.1).1;obtain ⟨l6',q6⟩:=vd hr.2.2.2.2.2.1;have l6:w.2.2.2.2.2.1.length≤N:=l6';have es:=(j98 k w n).trans (bs (zba w n (by omega) (by omega) (by omega) (by omega)))
  have ei:=(ve8 k w n).trans (bs (y1a w n (by omega) (by omega) (by omega) (by omega)))
  cases hC:ji5 w n with
  | false=>
    rw [hC] at es ei;exact ⟨_,es.trans (if_neg (by decide)),ei.trans (if_neg (by decide))⟩
  | true=>
  rw [hC] at es ei;have hn0:0≤n:=by
    unfold ji5 at hC;simp only [Bool.and_eq_true] at hC
    have:=hC.1
    unfold jp at this;simp only [Bool.and_eq_true,decide_eq_true_eq] at this;exact this.1
  have es:=es.trans (if_pos rfl);have ei:=ei.trans ((if_pos rfl).trans (bs (xf1 _ _ (by omega))))
  by_cases hl:n≥(w.2.2.2.2.2.1.length:Int)
  · have:jp n (w.2.2.2.2.2.1.length:Int)=false:=by unfold jp;simp;omega
    rw [this] at ei;exact ⟨_,es.trans (if_pos (decide_eq_true hl)),ei.trans (if_neg (by decide))⟩
  have hI:jp n (w.2.2.2.2.2.1.length:Int)=true:=by unfold jp;simp;omega
  rw [hI] at ei;have hlt:n.toNat<w.2.2.2.2.2.1.length:=by omega
  have hq:w.2.2.2.2.2.1[n.toNat]? =some w.2.2.2.2.2.1[n.toNat]:=List.getElem?_eq_getElem hlt
  have hql:(w.2.2.2.2.2.1[n.toNat]).length≤N:=(vd (e:=0) (sh:=sI6) (q6 _ (List.getElem_mem hlt))).1;have es:=es.trans ((if_neg (by rw [decide_eq_false hl];decide)).trans ((if_pos hn0).trans ((v7 hq _).trans (bs (vw9 _ (by omega) (by omega))))))
  have ei:=ei.trans ((if_pos rfl).trans ((if_pos hn0).trans ((v7 hq _).trans (bs (jha _ (by omega) (by omega))))))
  generalize w.2.2.2.2.2.1[n.toNat]=q at es ei hql;have hhop:∀d,∃h,x35 k w n d=some h∧z75 k w n d=some h:=fun d=>vbb w n d hr hN (by omega)
  obtain ⟨hop,hh⟩:=Classical.axiomOfChoice hhop;have hom:∀y ∈ jw5 q,0≤y∧y.toNat<q.length:=fun y hy=>by
    rcases List.mem_append.1 hy with h | h
    · obtain ⟨j,h1,h2⟩:=zo7 _ _ _ _ h;omega
    · obtain ⟨j,h1,h2⟩:=zo7 _ _ _ _ h;omega
  have hol:(jw5 q).length≤2*N:=by
    have h1:=wk7 p1 q 0;have h2:=wk7 p2 q 0;unfold jw5;simp;omega
  generalize jw5 q=o at es ei hom hol;have hq0:∀y ∈ o,q[y.toNat]? =some ((q[y.toNat]?).getD (0,0,0,0,0,0)):=fun y hy=>by
    rw [List.getElem?_eq_getElem (hom y hy).2];rfl
  refine ⟨pick q hop o,es.trans ?_,ei.trans ?_⟩
  · refine zu3 (L:=zb2 k (fun (v0:Int) (x4:Int) (x5:TPk) (p6:Int)=>some (x5,p6,true)) (fun (v0:Int)=>some ((0,0,0,0,0,0),-1,false)) (n,w,0,0,0,0,0,0,q,o)) (X:=fun _=>some ((0,0,0,0,0,0),-1,false)) (a:=o) (body:=fun m i x4=>if 0≤x4 then ix q x4.toNat fun x5=>(x35 k w n x5.2.2.2.2.1).bind fun p6=>if (decide (p6≥0))=true then some (x5,p6,true) else zb2 k (fun (v0:Int) (x4:Int) (x5:TPk) (p6:Int)=>some (x5,p6,true)) (fun (v0:Int)=>some ((0,0,0,0,0,0),-1,false)) (n,w,0,0,0,0,0,0,q,o) m (IntKind.i64.wrap (i+1)) else none) (fun _ r=>some (pick q hop r)) (fun m i=>x85 _ _ _ _) (by omega) rfl (fun m i x r h0 ht hw hi hx ih=> ?_) (by omega)
    have hm:=List.mem_of_getElem? hx;rw [if_pos (hom x hm).1,v7 (hq0 x hm),(hh _).1,Option.bind_some,hw,ih];rw [y18];by_cases h:hop ((q[x.toNat]?).getD (0,0,0,0,0,0)).2.2.2.2.1≥0
    · rw [if_pos (decide_eq_true h),if_pos h]
    · rw [if_neg (by rw [decide_eq_false h];decide),if_neg h]
  · refine zu3 (L:=jc2 k (fun (v0:Int) (x5:Int) (x6:TPk) (p7:Int) (x8:TPk)=>some (x8,p7,true)) (fun (v0:Int)=>some ((0,0,0,0,0,0),-1,false)) (n,(o.length:Int),w,0,0,0,0,0,0,q,o)) (X:=fun _=>some ((0,0,0,0,0,0),-1,false)) (a:=o) (body:=fun m i x5=>if 0≤x5 then ix q x5.toNat fun x6=>(z75 k w n x6.2.2.2.2.1).bind fun p7=>if (decide (p7≥0))=true then if 0≤x5 then ix q x5.toNat fun x8=>some (x8,p7,true) else none else jc2 k (fun (v0:Int) (x5:Int) (x6:TPk) (p7:Int) (x8:TPk)=>some (x8,p7,true)) (fun (v0:Int)=>some ((0,0,0,0,0,0),-1,false)) (n,(o.length:Int),w,0,0,0,0,0,0,q,o) m (IntKind.i64.wrap (i+1)) else none) (fun _ r=>some (pick q hop r)) (fun m i=>x85 _ _ _ _) (by omega) rfl (fun m i x r h0 ht hw hi hx ih=> ?_) (by omega)
    have hm:=List.mem_of_getElem? hx;rw [if_pos (hom x hm).1,v7 (hq0 x hm),(hh _).2,Option.bind_some,hw,ih];rw [y18];by_cases h:hop ((q[x.toNat]?).getD (0,0,0,0,0,0)).2.2.2.2.1≥0
    · rw [if_pos (decide_eq_true h),if_pos h,if_pos (hom x hm).1,v7 (hq0 x hm)]
    · rw [if_neg (by rw [decide_eq_false h];decide),if_neg h]
end Go.Proofs.YtkgjmgaccfmhpaaGreat.World
namespace Go.Proofs.YtkgjmgaccfmhpaaGreat.World
open Go Go.V Go.Proofs
set_option linter.unusedVariables false
set_option linter.unusedSimpArgs false
set_option maxRecDepth 100000
set_option maxHeartbeats 4000000
/-! ### all choices -/
def yt5 (now i:Int) (c:TPk×Int×Bool) (out:List (Int×Int×Int×Int)):List (Int×Int×Int×Int):=if c.2.2=true then out++[(now,i,c.2.1,c.1.1)] else out
theorem wf5 (now i:Int) (c:TPk×Int×Bool) (out:List (Int×Int×Int×Int)):(yt5 now i c out).length≤out.length+1:=by
 unfold yt5;split<;>simp
def chs (cf:Int→TPk×Int×Bool) (now:Int):Nat→Nat→List (Int×Int×Int×Int)→List (Int×Int×Int×Int)
 | 0,_,out=>out
 | m+1,i,out=>chs cf now m (i+1) (yt5 now (i:Int) (cf (i:Int)) out)
theorem jx9 (cf:Int→TPk×Int×Bool) (now:Int):∀(m i:Nat) (out:List (Int×Int×Int×Int)),(chs cf now m i out).length≤out.length+m
  | 0,_,_=>Nat.le_refl _
  | m+1,i,out=>by
    have h1:=jx9 cf now m (i+1) (yt5 now (i:Int) (cf (i:Int)) out);have h2:=wf5 now (i:Int) (cf (i:Int)) out;unfold chs;omega
theorem yna {k N:Nat} (w:TW) (hr:va N xi w) (hN:N≤1048576) (hk:2*N+5100≤k):
    ∃c:List (Int×Int×Int×Int),c.length≤12∧z45 k w=some c∧vw3 k w=some c:=by
  obtain ⟨k,rfl⟩:=jt (d:=0) (show 1≤k by omega)
  have hcf:∀n,∃c,v13 k w n=some c∧j03 k w n=some c:=fun n=>j49 w n hr hN (by omega)
  obtain ⟨cf,hh⟩:=Classical.axiomOfChoice hcf;obtain ⟨M,hM,hM12⟩:∃M:Nat,mx 0 (mn w.2.1.1 12)=(M:Int)∧M≤12:=⟨(mx 0 (mn w.2.1.1 12)).toNat,by unfold mx mn;split<;>split<;>omega,by unfold mx mn;split<;>split<;>omega⟩
  have hlt:∀i:Nat,decide ((i:Int)<mn w.2.1.1 12)=decide (i<M):=fun i=>by
    by_cases h:i<M
    · rw [decide_eq_true h,decide_eq_true];unfold mx at hM;split at hM<;>omega
    · rw [decide_eq_false h,decide_eq_false];unfold mx at hM;split at hM<;>omega
  refine ⟨chs cf w.2.2.2.2.2.2.2.2.2.2.1 M 0 [],by have:=jx9 cf w.2.2.2.2.2.2.2.2.2.2.1 M 0 [];simp at this;omega,?_,?_⟩
  · have key:∀(m q i:Nat) (out:List (Int×Int×Int×Int)),m<q→i+m=M→out.length≤i→wl3 k (fun (v0:Int×(List (Int×Int×Int×Int))) (p1:Int)=>some v0.2) w q ((i:Int),out)=some (chs cf w.2.2.2.2.2.2.2.2.2.2.1 m i out):=by
      intro m;induction m with
      | zero=>
        intro q i out hq hi ho;obtain ⟨q,rfl⟩:∃z,q=z+1:=⟨q-1,by omega⟩
        show ((j77 k w.2.1.1 12).bind fun p1=>if (decide ((i:Int)<p1))=true then _ else some out)=_
        refine (bs (wea _ _ (by omega))).trans ?_
        exact if_neg (by rw [hlt,decide_eq_false (by omega)];decide)
      | succ m ih=>
        intro q i out hq hi ho;obtain ⟨q,rfl⟩:∃z,q=z+1:=⟨q-1,by omega⟩
        show ((j77 k w.2.1.1 12).bind fun p1=>if (decide ((i:Int)<p1))=true then _ else some out)=_
        refine (bs (wea _ _ (by omega))).trans ?_
        refine (if_pos (by rw [hlt,decide_eq_true (by omega)])).trans ?_
        refine (bs (hh _).1).trans ?_
        have hw:IntKind.i64.wrap ((i:Int)+1)=((i+1:Nat):Int):=by rw [jk1 (by omega) (by omega)];omega
        show (if (cf (i:Int)).2.2=true then _ else _)=some (chs cf w.2.2.2.2.2.2.2.2.2.2.1 m (i+1) (yt5 w.2.2.2.2.2.2.2.2.2.2.1 (i:Int) (cf (i:Int)) out))
        have hl:=wf5 w.2.2.2.2.2.2.2.2.2.2.1 (i:Int) (cf (i:Int)) out;rw [←ih q (i+1) _ (by omega) (by omega) (by omega)]
        unfold yt5;by_cases h:(cf (i:Int)).2.2=true
        · rw [if_pos h,if_pos h,if_pos (by simp;omega),hw]
        · rw [if_neg h,if_neg h,hw]
    exact (xs9 k w).trans (key M k 0 [] (by omega) (by omega) (by simp))
  · have key:∀(m q i:Nat) (out:List (Int×Int×Int×Int)),m<q→i+m=M→out.length≤i→jo3 k (fun (v0:Int×(List (Int×Int×Int×Int)))=>some v0.2) ((M:Int),w) q ((i:Int),out)=some (chs cf w.2.2.2.2.2.2.2.2.2.2.1 m i out):=by
      intro m;induction m with
      | zero=>
        intro q i out hq hi ho;obtain ⟨q,rfl⟩:∃z,q=z+1:=⟨q-1,by omega⟩
        show (if (decide ((i:Int)<(M:Int)))=true then _ else some out)=_
        exact if_neg (by rw [decide_eq_false (by omega)];decide)
      | succ m ih=>
        intro q i out hq hi ho;obtain ⟨q,rfl⟩:∃z,q=z+1:=⟨q-1,by omega⟩
        show (if (decide ((i:Int)<(M:Int)))=true then _ else some out)=_
        refine (if_pos (decide_eq_true (by omega))).trans ?_
        refine (bs (hh _).2).trans ?_
        have hw:IntKind.i64.wrap ((i:Int)+1)=((i+1:Nat):Int):=by rw [jk1 (by omega) (by omega)];omega
        show (if (cf (i:Int)).2.2=true then _ else _)=some (chs cf w.2.2.2.2.2.2.2.2.2.2.1 m (i+1) (yt5 w.2.2.2.2.2.2.2.2.2.2.1 (i:Int) (cf (i:Int)) out))
        have hl:=wf5 w.2.2.2.2.2.2.2.2.2.2.1 (i:Int) (cf (i:Int)) out;rw [←ih q (i+1) _ (by omega) (by omega) (by omega)]
        unfold yt5;by_cases h:(cf (i:Int)).2.2=true
        · rw [if_pos h,if_pos h,if_pos (by simp;omega),hw]
        · rw [if_neg h,if_neg h,hw]
    have e:=vja k w;rw [hM] at e;exact e.trans (key M k 0 [] (by omega) (by omega) (by simp))
theorem w76 (w:TW) (hr:va 140737488351232 jw w):∃k,jp2 k w=some true:=by
 refine ⟨3*szT jw w+20000,?_⟩
 rw [xz5,xja _ w 1048576 hr (by omega) (by omega) (by omega),Option.bind_some]
 by_cases hz:szT jw w≤1048576
 · rw [jj3 (by omega),if_neg (by simp;omega)]
   have e60:szT xi w=szT jw w:=rfl;have hrow:=ya7 xi w (szT jw w) (Nat.le_of_eq e60);obtain ⟨c,hl,hs,hi⟩:=yna (k:=3*szT jw w+19999) w hrow hz (by omega)
   have er:szT (.l 146 sI4) c=c.length:=x23 (e:=146) (sh:=sI4) rfl c;have tw:=vda (3*szT jw w+19999) w hz (by omega)
   have qw:=wx9 (3*szT jw w+19999) w (by rw [e60];omega) (by rw [e60];omega)
   have qr:=vz7 (3*szT jw w+19999) c (by rw [er];omega) (by rw [er];omega)
   have mw:=x78 (3*szT jw w+19999) w 1 (by omega) (by rw [e60];omega) (by rw [e60];omega) (by rw [e60];omega)
   have mr:=yb6 (3*szT jw w+19999) c 1 (by omega) (by rw [er];omega) (by rw [er];omega) (by rw [er];omega)
   have hh:=zk8 (3*szT jw w+19999) c 1 (by omega) (by rw [er];omega) (by rw [er];omega) (by rw [er];omega)
   have nW:decide ((mkT xi w 1).2<0)=false:=by have:=wi1 xi w 1 rfl;rw [decide_eq_false];omega
   have nR:decide ((mkT (.l 146 sI4) c 1).2<0)=false:=by have:=wi1 (.l 146 sI4) c 1 rfl;rw [decide_eq_false];omega
   refine (bs tw).trans ?_
   refine (bs hs).trans ?_
   refine (bs tw).trans ?_
   refine (bs hi).trans ?_
   refine (bs qr).trans ?_
   refine (if_neg (by simp)).trans ?_
   refine (bs tw).trans ?_
   refine (bs qw).trans ?_
   refine (if_neg (by decide)).trans ?_
   refine (bs mw).trans ?_
   refine (if_pos (show ((decide ((mkT xi w 1).2<0))==false)=true by rw [nW];rfl)).trans ?_
   refine (bs qr).trans ?_
   refine (if_neg (by simp)).trans ?_
   refine (bs mr).trans ?_
   refine (bs hh).trans ?_
   refine (if_neg (by rw [nR];decide)).trans ?_
   refine (if_neg (by simp)).trans ?_
   refine (bs tw).trans ?_
   refine (bs hi).trans ?_
   refine (bs qr).trans ?_
   refine (if_neg (by simp)).trans ?_
   refine (bs hh).trans ?_
   refine (if_neg (by rw [nR];decide)).trans ?_
   refine (if_neg (by simp)).trans ?_
   rfl
 · rw [vb3 (by omega),if_pos (by decide)]
end Go.Proofs.YtkgjmgaccfmhpaaGreat.World
namespace Go.Proofs.YtkgjmgaccfmhpaaGreat.World
open Go Go.V Go.Proofs Go.RowKit Go.Lib Go.Sort
set_option linter.unusedVariables false
theorem y48 (p:Option Addr) (w:World):Calls Tryz.prog 386 #[.slice p 0 0] w fun e w'=>e= .returned (.slice p 0 0)∧w'=w:=by
 go_enter Tryz.func386,Tryz.ntmps386
 go_wp2
 go_ret
 exact ⟨rfl,rfl⟩
end Go.Proofs.YtkgjmgaccfmhpaaGreat.World
namespace Go.Proofs.YtkgjmgaccfmhpaaGreat.World
open Go Go.V Go.Proofs
open Go.ChangeShapes Go.WideShapes Go.ChangeAt Go.RowKit
set_option linter.unusedVariables false
set_option maxRecDepth 100000
theorem xyb:∀t i,E.ty t=some i→TyOk E.P t i:=by
 intro t i h;replace h:ty t=some i:=h;unfold ty at h;split at h<;>first | (cases h;done) | (cases h;exact ⟨by kernel_rfl,by kernel_rfl⟩)
theorem wsb : ∀ f F, fn0 f = some F → E.P.funcs[f]? = some F ∧ F.name ≠ "runtime.NumGoroutine" ∧ ∀ c, F.body = some c → yf2 c = true := by
 intro f F h;unfold fn0 at h;split at h<;>first | (cases h;done) | (cases h;exact ⟨by kernel_rfl,of_decide_eq_true (by kernel_rfl),fun c hc=>by cases hc;kernel_rfl⟩)
theorem xtb : ∀ f F, fn1 f = some F → E.P.funcs[f]? = some F ∧ F.name ≠ "runtime.NumGoroutine" ∧ ∀ c, F.body = some c → yf2 c = true := by
 intro f F h;unfold fn1 at h;split at h<;>first | (cases h;done) | (cases h;exact ⟨by kernel_rfl,of_decide_eq_true (by kernel_rfl),fun c hc=>by cases hc;kernel_rfl⟩)
theorem zxb : ∀ f F, fn2 f = some F → E.P.funcs[f]? = some F ∧ F.name ≠ "runtime.NumGoroutine" ∧ ∀ c, F.body = some c → yf2 c = true := by
 intro f F h;unfold fn2 at h;split at h<;>first | (cases h;done) | (cases h;exact ⟨by kernel_rfl,of_decide_eq_true (by kernel_rfl),fun c hc=>by cases hc;kernel_rfl⟩)
theorem jub : ∀ f F, fn3 f = some F → E.P.funcs[f]? = some F ∧ F.name ≠ "runtime.NumGoroutine" ∧ ∀ c, F.body = some c → yf2 c = true := by
 intro f F h;unfold fn3 at h;split at h<;>first | (cases h;done) | (cases h;exact ⟨by kernel_rfl,of_decide_eq_true (by kernel_rfl),fun c hc=>by cases hc;kernel_rfl⟩)
theorem ztb : ∀ f F, E.fn f = some F → E.P.funcs[f]? = some F ∧ F.name ≠ "runtime.NumGoroutine" ∧ ∀ c, F.body = some c → yf2 c = true := by
 intro f F h;replace h:fn f=some F:=h;unfold fn at h;split at h
 · rename_i F' hF;rw [←Option.some.inj h];exact wsb f F' hF
 split at h
 · rename_i F' hF;rw [←Option.some.inj h];exact xtb f F' hF
 split at h
 · rename_i F' hF;rw [←Option.some.inj h];exact zxb f F' hF
 exact jub f F h
theorem x3b:yy6 E 185 (xc7):=wo5.sound1 (E:=E) (f:=185) (vn7 (e:=3) ⟨Tryz.f185,Tryz.func185,of_decide_eq_true (by kernel_rfl),by kernel_rfl⟩ Tryz.slices_Sort_int Tryz.slices_Sort_int_none)
theorem xza:yy6 E 386 (ye3):=wo5.sound1 (E:=E) (f:=386) (yx5 (e:=3) ⟨Tryz.f386,Tryz.func386,of_decide_eq_true (by kernel_rfl),by kernel_rfl⟩ Tryz.slices_Compact_int (fun p w=>y48 p w))
theorem vvb:∀f g,E.ext f=some g→yy6 E f g:=by
 intro f g h;replace h:ext f=some g:=h;unfold ext at h;split at h
 · rw [←Option.some.inj h];exact x3b
 · rw [←Option.some.inj h];exact xza
 · cases h
theorem xvb:EnvOk E:=⟨xyb,fun f F h=>(ztb f F h).1,fun f F h=>(ztb f F h).2.1,by kernel_rfl⟩
theorem sound (k:Nat):wr9 E (den E k):=z58 xvb (fun f F c h=>(ztb f F h).2.2 c) vvb k
end Go.Proofs.YtkgjmgaccfmhpaaGreat.World
namespace Go.Proofs.YtkgjmgaccfmhpaaGreat.World
open Go Go.V Go.Proofs
open Go.ChangeShapes Go.WideShapes Go.ChangeAt Go.RowKit
set_option linter.unusedVariables false
set_option maxRecDepth 100000
theorem xwb {k:Nat} {y0:TW} (h:jp2 k y0=some true) {W:World} {v0:Value} (h0:VA W (fun _=>True) (fun _=>undef) (vy5 jw y0) v0) (l0:(vy5 jw y0).lt 0):
 Calls Tryz.prog 5 #[v0] W fun e W'=>e= .returned (.bool true)∧Go.RowKit.Below W.heap.size W W':=by
 have hs:=(sound k) 5 [vy5 jw y0] true h;refine (hs.2 (fun _=>True) W [v0] [] (fun p hp=>absurd (show p ∈ ([]:List (Nat×Array Value)) from hp) (by simp)) (by
  show yu3 W (fun _=>True) [] _ _ []
  exact ⟨⟨h0,trivial⟩,by intro x hx;simp at hx;rw [hx];exact l0,rfl⟩) List.nodup_nil (by simp)).mono ?_
 rintro e W' ⟨v,rfl,hb,hr⟩
 exact ⟨by rw [xe9 hr],Chg.below hb⟩
theorem own:ownKnob Tryz.prog.godebug=none:=by kernel_rfl
theorem lifted (os:Os) (started:os.Started) (H:Type) (enc:TypeId×Value→H):
 ReturnsInHanded {} Tryz.checked os 5 .any (YtkgjmgaccfmhpaaGreat.Rows.fnExactChoicesSpec.pre6 enc Tryz.prog Tryz.f5 YtkgjmgaccfmhpaaGreat.Rows.fnExactChoicesRow.domain false) (YtkgjmgaccfmhpaaGreat.Rows.fnExactChoicesSpec.post enc Tryz.prog Tryz.f5 false true false false):=by
 refine returnsInHanded_of_change_sized (C:=Tryz.checked) own started (by kernel_rfl) Tryz.func5
  (ChangeSpec.witness6 (enc:=enc) (C:=Tryz.checked) false ⟨#[],#[.agg #[(.int .i64 0),(.slice none 0 0),(.slice none 0 0),(.int .i64 0),(.int .i64 0),(.int .i64 0),(.int .i64 0),(.int .i64 0),(.slice none 0 0),(.int .i64 0),(.int .i64 0),(.int .i64 0),(.int .i64 0),(.slice none 0 0),(.slice none 0 0),(.slice none 0 0),(.slice none 0 0),(.slice none 0 0),(.slice none 0 0),(.slice none 0 0),(.slice none 0 0),(.slice none 0 0),(.int .i64 0),(.int .i64 0),(.slice none 0 0),(.slice none 0 0)]],[]⟩ 8 (by kernel_rfl) (by kernel_rfl) (by kernel_rfl) (by kernel_rfl)) ?_
 intro W base args ds gs before hval0 hW hcnd hsz0 _;have hsz:(DataW.weightsEach Tryz.prog (Tryz.f5.params.toList++YtkgjmgaccfmhpaaGreat.Rows.fnExactChoicesSpec.plain.varTypes Tryz.prog) (ds++gs)).all (· ≤reachBytes)=true:=hsz0;have hval:∀(j:Nat) t v,Tryz.f5.params[j]? =some t→args[j]? =some v→Value.okWide Tryz.prog W .any base t v:=hval0;have hW':=hW;obtain ⟨p,q,hA0,hV,rfl,hfz,hnd⟩:=hW;have hA:DataW.TrodAll enc Tryz.prog W 0 (fun _=>true) true Tryz.f5.params.toList args.toList ds p:=hA0
 have hAA:=hA;rw [Tryz.params5] at hA hval hsz;obtain ⟨v0,vs0,d0,ds0,p0,q0,hargs,rfl,rfl,h0,r0⟩:=trodAll_cons hA;obtain ⟨rfl,rfl,rfl⟩:=trodAll_nil r0
 obtain rfl:args=#[v0]:=by cases args;simp_all
 obtain ⟨rfl,rfl⟩:=trodVars_none hV;have hwt0:∀n ∈ d0.weights Tryz.prog 41,n≤reachBytes:=by
  intro n hn
  have:=List.all_eq_true.1 hsz n (by simp [DataW.weightsEach,hn])
  simpa using this
 obtain ⟨y0,a0,b0,w0⟩:=zob (sh:=jw) (by kernel_rfl) (hval 0 41 v0 rfl rfl) h0 hwt0
 obtain ⟨k,hk⟩:=w76 y0 (we7 (P:=Tryz.prog) jw y0 (by kernel_rfl) w0)
 have hlt:∀x ∈ p0++[],x.block<W.heap.size:=fun x hx=>hW'.lt x (by simpa using hx)
 refine (xwb hk a0 b0).mono fun e W' ⟨he,bel⟩=> ?_
 subst he;exact ⟨_,rfl,_,_,_,[],_,[],hW',trodAll_mk1 (shut_bool Tryz.underlying4 _),yc5 (by kernel_rfl) bel _ _ _ _ (by kernel_rfl) hAA hlt,rfl,bel.frame _,fun h=>by cases h⟩
theorem ysa {P:Program} {f:FuncId} {fn:Func} {s:ChangeSpec} {c:OpenClaim} (k1:(c.wf (OpenSpec.ofChange s))=true) (k2:(laidOutB P)=true) (k3:(mapsRowed P)=true) (k4:(fn.params.all (P.readableRec ·))=true) (k5:(namedTie P c.named s.vars)=true) (k6:((c.stops==[]))=true) (k7:((P.stops==[]))=true) (k8:((c.knobs==[]))=true) (k9:((P.stopKnobs==[]))=true) (k10:((c.inPlace==P.inPlace f))=true) (k11:((c.unfollowed==P.unfollowed f))=true) (k12:((c.recurses==P.recurses f))=true) (k13:((c.named==P.varsNamed f))=true) (k14:((c.maps==(fn.params.toList++s.plain.varTypes P).any (P.mapsRec ·)))=true) (k15:((c.ifaces==(fn.params.toList++s.plain.varTypes P).any (P.ifacesRec ·)))=true) (k16:((c.mapsOut==P.mapsAmong fn.resultTypes.toList))=true) (k17:((c.loops==(fn.params.toList++s.plain.varTypes P).any (P.loopsFrom ·)))=true) (k18:((c.wideKeys==(fn.params.toList++s.plain.varTypes P++fn.resultTypes.toList).any (P.wideKeysFrom ·)))=true) (k19:(s.vars.all (P.varReadable ·))=true) (k20:(fn.resultTypes.all (fun t=>P.readableRec t&&decide (t<P.types.size)))=true) (k21:((c.ifacesOut==fn.resultTypes.toList.any (P.ifacesRec ·)))=true) (k22:((c.loopsOut==fn.resultTypes.toList.any (P.loopsFrom ·)))=true) (k23:((c.plainKeys==P.plainKeys))=true) (k24:(c.shortTexts.isNone)=true) (k25:(P.stopsHeard)=true) (k26:(P.mayEnter)=true) (k27:((c.lifted==P.liftsFinal))=true) (k28:((P.make==some c.make))=true) (k29:((c.kinds==(if c.domain.isEmpty then [] else fn.params.toList.map fun t=>match P.underlying t with | some (.int k)=>some k | _=>none)))=true) (k30:((c.pinned==c.pinnedBy))=true) (k31:((c.veiled==(fn.params.toList++s.plain.varTypes P++fn.resultTypes.toList).any (P.veiledRec ·)))=true) (k32:(c.veiledFits P fn.params.toList (fn.params.toList++s.plain.varTypes P++fn.resultTypes.toList))=true):joinedFacts P f fn s c=true:=by
 unfold joinedFacts;simp only [k1,k2,k3,k4,k5,k6,k7,k8,k9,k10,k11,k12,k13,k14,k15,k16,k17,k18,k19,k20,k21,k22,k23,k24,k25,k26,k27,k28,k30,k31,k32,Bool.and_true,Bool.true_and];exact k29
theorem k1:(YtkgjmgaccfmhpaaGreat.Rows.fnExactChoicesRow.wf (OpenSpec.ofChange YtkgjmgaccfmhpaaGreat.Rows.fnExactChoicesSpec))=true:=by kernel_rfl
theorem k2:(laidOutB Tryz.checked.prog)=true:=by kernel_rfl
theorem k3:(mapsRowed Tryz.checked.prog)=true:=by kernel_rfl
theorem k4:(Tryz.f5.params.all (Tryz.checked.prog.readableRec ·))=true:=by kernel_rfl
theorem k5:(namedTie Tryz.checked.prog YtkgjmgaccfmhpaaGreat.Rows.fnExactChoicesRow.named YtkgjmgaccfmhpaaGreat.Rows.fnExactChoicesSpec.vars)=true:=by kernel_rfl
theorem k6:((YtkgjmgaccfmhpaaGreat.Rows.fnExactChoicesRow.stops==[]))=true:=by kernel_rfl
theorem k7:((Tryz.checked.prog.stops==[]))=true:=by kernel_rfl
theorem k8:((YtkgjmgaccfmhpaaGreat.Rows.fnExactChoicesRow.knobs==[]))=true:=by kernel_rfl
theorem k9:((Tryz.checked.prog.stopKnobs==[]))=true:=by kernel_rfl
theorem k10:((YtkgjmgaccfmhpaaGreat.Rows.fnExactChoicesRow.inPlace==Tryz.checked.prog.inPlace 5))=true:=by kernel_rfl
theorem k11:((YtkgjmgaccfmhpaaGreat.Rows.fnExactChoicesRow.unfollowed==Tryz.checked.prog.unfollowed 5))=true:=by kernel_rfl
theorem k12:((YtkgjmgaccfmhpaaGreat.Rows.fnExactChoicesRow.recurses==Tryz.checked.prog.recurses 5))=true:=by kernel_rfl
theorem k13:((YtkgjmgaccfmhpaaGreat.Rows.fnExactChoicesRow.named==Tryz.checked.prog.varsNamed 5))=true:=by kernel_rfl
theorem k14:((YtkgjmgaccfmhpaaGreat.Rows.fnExactChoicesRow.maps==(Tryz.f5.params.toList++YtkgjmgaccfmhpaaGreat.Rows.fnExactChoicesSpec.plain.varTypes Tryz.checked.prog).any (Tryz.checked.prog.mapsRec ·)))=true:=by kernel_rfl
theorem k15:((YtkgjmgaccfmhpaaGreat.Rows.fnExactChoicesRow.ifaces==(Tryz.f5.params.toList++YtkgjmgaccfmhpaaGreat.Rows.fnExactChoicesSpec.plain.varTypes Tryz.checked.prog).any (Tryz.checked.prog.ifacesRec ·)))=true:=by kernel_rfl
theorem k16:((YtkgjmgaccfmhpaaGreat.Rows.fnExactChoicesRow.mapsOut==Tryz.checked.prog.mapsAmong Tryz.f5.resultTypes.toList))=true:=by kernel_rfl
theorem k17:((YtkgjmgaccfmhpaaGreat.Rows.fnExactChoicesRow.loops==(Tryz.f5.params.toList++YtkgjmgaccfmhpaaGreat.Rows.fnExactChoicesSpec.plain.varTypes Tryz.checked.prog).any (Tryz.checked.prog.loopsFrom ·)))=true:=by kernel_rfl
theorem k18:((YtkgjmgaccfmhpaaGreat.Rows.fnExactChoicesRow.wideKeys==(Tryz.f5.params.toList++YtkgjmgaccfmhpaaGreat.Rows.fnExactChoicesSpec.plain.varTypes Tryz.checked.prog++Tryz.f5.resultTypes.toList).any (Tryz.checked.prog.wideKeysFrom ·)))=true:=by kernel_rfl
theorem k19:(YtkgjmgaccfmhpaaGreat.Rows.fnExactChoicesSpec.vars.all (Tryz.checked.prog.varReadable ·))=true:=by kernel_rfl
theorem k20:(Tryz.f5.resultTypes.all (fun t=>Tryz.checked.prog.readableRec t&&decide (t<Tryz.checked.prog.types.size)))=true:=by kernel_rfl
theorem k21:((YtkgjmgaccfmhpaaGreat.Rows.fnExactChoicesRow.ifacesOut==Tryz.f5.resultTypes.toList.any (Tryz.checked.prog.ifacesRec ·)))=true:=by kernel_rfl
theorem k22:((YtkgjmgaccfmhpaaGreat.Rows.fnExactChoicesRow.loopsOut==Tryz.f5.resultTypes.toList.any (Tryz.checked.prog.loopsFrom ·)))=true:=by kernel_rfl
theorem k23:((YtkgjmgaccfmhpaaGreat.Rows.fnExactChoicesRow.plainKeys==Tryz.checked.prog.plainKeys))=true:=by kernel_rfl
theorem k24:(YtkgjmgaccfmhpaaGreat.Rows.fnExactChoicesRow.shortTexts.isNone)=true:=by kernel_rfl
theorem k25:(Tryz.checked.prog.stopsHeard)=true:=by kernel_rfl
theorem k26:(Tryz.checked.prog.mayEnter)=true:=by kernel_rfl
theorem k27:((YtkgjmgaccfmhpaaGreat.Rows.fnExactChoicesRow.lifted==Tryz.checked.prog.liftsFinal))=true:=by kernel_rfl
theorem k28:((Tryz.checked.prog.make==some YtkgjmgaccfmhpaaGreat.Rows.fnExactChoicesRow.make))=true:=by kernel_rfl
theorem k29:((YtkgjmgaccfmhpaaGreat.Rows.fnExactChoicesRow.kinds==(if YtkgjmgaccfmhpaaGreat.Rows.fnExactChoicesRow.domain.isEmpty then [] else Tryz.f5.params.toList.map fun t=>match Tryz.checked.prog.underlying t with | some (.int k)=>some k | _=>none)))=true:=by kernel_rfl
theorem k30:((YtkgjmgaccfmhpaaGreat.Rows.fnExactChoicesRow.pinned==YtkgjmgaccfmhpaaGreat.Rows.fnExactChoicesRow.pinnedBy))=true:=by kernel_rfl
theorem k31:((YtkgjmgaccfmhpaaGreat.Rows.fnExactChoicesRow.veiled==(Tryz.f5.params.toList++YtkgjmgaccfmhpaaGreat.Rows.fnExactChoicesSpec.plain.varTypes Tryz.checked.prog++Tryz.f5.resultTypes.toList).any (Tryz.checked.prog.veiledRec ·)))=true:=by kernel_rfl
theorem k32:(YtkgjmgaccfmhpaaGreat.Rows.fnExactChoicesRow.veiledFits Tryz.checked.prog Tryz.f5.params.toList (Tryz.f5.params.toList++YtkgjmgaccfmhpaaGreat.Rows.fnExactChoicesSpec.plain.varTypes Tryz.checked.prog++Tryz.f5.resultTypes.toList))=true:=by kernel_rfl
theorem k0:YtkgjmgaccfmhpaaGreat.Tryz.pinned.checked.prog.funcNamed YtkgjmgaccfmhpaaGreat.Rows.fnExactChoicesRow.func=some 5:=by kernel_rfl
theorem wrapper:Tryz.f5.isWrapper Tryz.checked.prog YtkgjmgaccfmhpaaGreat.Rows.fnExactChoicesRow.wrapper YtkgjmgaccfmhpaaGreat.Rows.fnExactChoicesRow.mainSum:=by
 unfold Func.isWrapper
 first | (rw [if_pos (by decide+kernel)];kernel_rfl) | (rw [if_neg (by decide+kernel)];exact ⟨rfl,rfl⟩)
theorem wub:joinedFacts YtkgjmgaccfmhpaaGreat.Tryz.pinned.checked.prog 5 Tryz.f5 YtkgjmgaccfmhpaaGreat.Rows.fnExactChoicesSpec YtkgjmgaccfmhpaaGreat.Rows.fnExactChoicesRow=true:=ysa k1 k2 k3 k4 k5 k6 k7 k8 k9 k10 k11 k12 k13 k14 k15 k16 k17 k18 k19 k20 k21 k22 k23 k24 k25 k26 k27 k28 k29 k30 k31 k32
theorem over:YtkgjmgaccfmhpaaGreat.Rows.fnExactChoicesRow.holds YtkgjmgaccfmhpaaGreat.Tryz.pinned (OpenSpec.ofChange YtkgjmgaccfmhpaaGreat.Rows.fnExactChoicesSpec):=
 OpenClaim.holds_of_wide 5 Tryz.f5 rfl rfl rfl rfl rfl rfl rfl ⟨rfl,rfl,rfl,rfl,rfl⟩ rfl rfl rfl rfl rfl k0 Tryz.func5 wub
  (of_decide_eq_true (by kernel_rfl)) wrapper
  (fun os started H enc _=>lifted os started H enc)
end Go.Proofs.YtkgjmgaccfmhpaaGreat.World
namespace Go.Proofs.YtkgjmgaccfmhpaaGreat
/-- The row, under a short name. -/
theorem fnExactChoices_holds:Rows.FnExactChoicesSaid:=World.over
end Go.Proofs.YtkgjmgaccfmhpaaGreat
