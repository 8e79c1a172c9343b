/- The law FnTop, as a statement over lists: whatever the events, behind each of them program and reference agree, the index that followed is the index, asking it is looking at each other tube, and who is told is just who is ever too near. No condition beside the sizes that are typed. -/
import Derived.Test.YtgklmafdbgnohaaGreatXQ23
import Derived.Test.YtgklmafdbgnohaaGreatXG25
import Derived.DataShut
import Derived.Test.YtgklmafdbgnohaaGreatXP11
import Derived.Test.YtgklmafdbgnohaaGreatXR22
set_option linter.unusedVariables false
set_option linter.unusedSimpArgs false
section
namespace Go.Proofs.YtgklmafdbgnohaaGreat.Pure
open Go.RowKit Go.Proofs.YtgklmafdbgnohaaGreat.PA Go.Proofs.YtgklmafdbgnohaaGreat.Q Go.Proofs.YtgklmafdbgnohaaGreatW.PrintWords Go.Proofs.YtgklmafdbgnohaaGreatW.PrintLast Go.Proofs.YtgklmafdbgnohaaGreat.Ix
def ixOf (L:List S32):List S84:=if skyOk L=true then (evT L).foldl putI [] else []
theorem ix_small (L:List S32):(ixOf L).length≤960∧∀ c∈ixOf L,c.f2.length≤960:=by
  unfold ixOf
  split
  · rename_i h
    have h1:=(index_one h).1;have h2:=Ij.small_of (evT L);exact ⟨by omega,fun c hc=>Nat.le_trans (h2.2 c hc) h1⟩
  · simp
theorem impl_ix (L:List S32):Ev (fun k=>impl_ProbeIndexOf.f k L) (ixOf L):=by
  unfold impl_ProbeIndexOf.f ixOf
  by_cases h:skyOk L=true
  · rw [if_pos h];refine Ev.bind (impl_sky L) (Ev.pos h ?_);rw [(index_one h).2.2];exact Ev.now _
  · rw [if_neg h];exact Ev.bind (impl_sky L) (Ev.neg h (Ev.now _))
theorem spec_ix (L:List S32):Ev (fun k=>spec_ProbeIndexOf.f k L) (ixOf L):=by
  unfold spec_ProbeIndexOf.f ixOf
  by_cases h:skyOk L=true
  · rw [if_pos h];refine Ev.bind (spec_sky L) (Ev.pos h ?_);rw [(index_one h).2.1];exact Ev.now _
  · rw [if_neg h];exact Ev.bind (spec_sky L) (Ev.neg h (Ev.now _))
theorem sz_tubesN (l:List S55) (hg:g_tubes l) {n:Int} (h0:0≤n) (h1:n≤1048576):∃ m:Int,Ev (fun k=>laws_szProbeTubeS.f k l n) m∧(m = -1∨(0≤m∧m≤n∧l.length≤1048576∧∀ x∈l,x.f1.length≤1048576∧x.f0.size≤1048576)):=by
  have hl:=hg.1
  unfold maxLen at hl
  have hw:wrap64 (n - (l.length:Int))=n - (l.length:Int):=wsub (by omega) (by omega) (by omega) (by omega);by_cases h:n - (l.length:Int)<0
  · refine ⟨-1,⟨0,fun k _=>?_⟩, .inl rfl⟩;simp only [laws_szProbeTubeS.f];rw [hw,if_pos h]
  · obtain ⟨m,hm,hr⟩:=sz_tubes_l l (by omega) hg.2 0 (by omega) (n - (l.length:Int)) (by omega) (by omega);refine ⟨m,Ev.congr (fun k=>?_) hm,hr.imp id (fun ⟨a,b,c⟩=>⟨a,by omega,by omega,by simpa using c⟩)⟩;simp only [laws_szProbeTubeS.f];rw [hw,if_neg h];rfl
theorem marks_tubes (l:List S32) (hl:l.length≤1048576) (hb:∀ x∈l,x.f1.length≤1048576) {K:Int} (h0:0≤K) (h1:K+cntT l≤100000000000000):Ev (fun k=>laws_markProbeTubeS.f k l K) (K+cntT l,markT l K):=by
  unfold laws_markProbeTubeS.f
  exact marks_l l [] K h0 h1 (by simp;omega) hb
theorem happen_bad {L:List S32} (h:skyOk L=false) (d:Bool) (s:ByteArray) (l:List S75):happen L d s l=([],1):=by
  unfold happen
  simp [h]
theorem happen_code {L:List S32} {d:Bool} {s:ByteArray} {l:List S75} (h:(happen L d s l).2=1):(happen L d s l).1=[]:=by
  by_cases hk:skyOk L=true
  · exfalso
    revert h
    unfold happen
    simp only [hk,if_true,Bool.not_true,Bool.false_eq_true,if_false]
    repeat' split
    all_goals simp
  · rw [happen_bad (by simpa using hk)]
theorem impl_follow (I:List S84) (L:List S32) (d:Bool) (s:ByteArray) (l:List S75):Ev (fun k=>impl_ProbeFollow.f k I L d s l) (ixOf (happen L d s l).1):=by
  unfold impl_ProbeFollow.f
  exact Ev.bind (impl_happen L d s l) (Ev.bind (impl_ix _) (Ev.now _))
theorem spec_follow (I:List S84) (L:List S32) (d:Bool) (s:ByteArray) (l:List S75):Ev (fun k=>spec_ProbeFollow.f k I L d s l) (ixOf (happen L d s l).1):=by
  unfold spec_ProbeFollow.f
  refine Ev.bind (spec_happen L d s l) ?_;by_cases h:(happen L d s l).2=1
  · refine Ev.pos h ?_;rw [happen_code h];exact Ev.now _
  · exact Ev.neg h (Ev.bind (spec_ix _) (Ev.now _))
theorem FnExactProbeFollow (I:List S133) (L:List S55) (x:Bool × S55) (u:g_index I) (w:g_tubes L) (v:g_event x):∃ k,laws_FnExactProbeFollow.f k I L x.1 x.2.f0 x.2.f1=some true:=by
  obtain ⟨d,y⟩:=x;obtain ⟨_,v⟩:=v
  simp only at v ⊢
  refine Ev.rounds (g:=fun k=>laws_FnExactProbeFollow.f k I L d y.f0 y.f1) ?_
  unfold laws_FnExactProbeFollow.f
  obtain ⟨m1,hm1,h1⟩:=sz_index I u;refine Ev.bind hm1 ?_
  rcases h1 with rfl | ⟨p0,p1,pl,pc,_⟩
  · exact Ev.pos (by omega) (Ev.now true)
  refine Ev.neg (by omega) ?_;obtain ⟨m,hm,h⟩:=sz_tubesN L w p0 p1;refine Ev.bind hm ?_
  rcases h with rfl | ⟨h0,h1,hl,hb⟩
  · exact Ev.pos (by omega) (Ev.now true)
  refine Ev.neg (by omega) ?_
  rcases sz_event (d:=d) h0 (by omega) v.1 v.2.1 with h' | ⟨h',h0'⟩
  · simp only [h',Option.bind_some];exact Ev.pos (by omega) (Ev.now true)
  have hl':=len_of (by omega) h0';have hbI:∀ c∈I,c.f2.length≤1048576:=fun c hc=>Nat.le_trans (cntZ_mem hc) pc;have hI:=to_index I pl hbI;have hIl:(I.map cvC).length≤1048576:=by rw [List.length_map];exact pl
  have hIS:∀ c∈I.map cvC,c.f2.length≤1048576:=fun c hc=>by
    obtain ⟨d,hd,rfl⟩:=List.mem_map.1 hc;simp only [cvC,List.length_map];exact hbI d hd
  have hIC:=cntI_le hIS;have ht:=to_tubes L hl (fun x hx=>(hb x hx).1);have hu:=to_event d y.f0 y.f1 hl';have hcn:=cnt_le (map_ok hb);have hml:(L.map cvT).length=L.length:=List.length_map ..;have hi:=impl_follow (I.map cvC) (L.map cvT) d y.f0 (y.f1.map cv);have hs:=spec_follow (I.map cvC) (L.map cvT) d y.f0 (y.f1.map cv);have hsm:=ix_small (happen (L.map cvT) d y.f0 (y.f1.map cv)).1
  generalize ixOf (happen (L.map cvT) d y.f0 (y.f1.map cv)).1=R at hi hs hsm
  have hR:∀ c∈R,c.f2.length≤1048576:=fun c hc=>by have:=hsm.2 c hc;omega
  have he:=eq_index R (by omega) (fun c hc=>by have:=hR c hc;omega);have heI:=eq_index (I.map cvC) (by omega) (fun c hc=>by have:=hIS c hc;omega);have het:=eq_tubes (L.map cvT) (by omega) (map_ok' hb);have hee:=eq_event d y.f0 (y.f1.map cv) (by rw [List.length_map];omega);have hmI:=mark_indexI (I.map cvC) hIl hIS;have hmT:=marks_tubes (L.map cvT) (by omega) (map_ok hb) (K:=1+cntI (I.map cvC)) (by omega) (by omega);have hmE:=mark_event d y.f0 (y.f1.map cv) (by rw [List.length_map];omega) (K:=1+cntI (I.map cvC)+cntT (L.map cvT)) (by omega) (by rw [List.length_map];omega);have hmk:=mark_indexI R (by omega) hR;have hh:=held_index R (by omega) hR;have hcR:=cntI_le hR;simp only [h',Option.bind_some]
  refine Ev.neg (by omega) (Ev.bind hI (Ev.bind ht (Ev.bind hu (Ev.bind hs (Ev.bind hI (Ev.bind ht (Ev.bind hu (Ev.bind hi (Ev.bind he (Ev.pos rfl (Ev.bind hI (Ev.bind heI (Ev.pos rfl (Ev.bind ht (Ev.bind het (Ev.pos rfl (Ev.bind hu (Ev.bind hee (Ev.pos rfl (Ev.bind hmI (Ev.bind hmT (Ev.bind hmE (Ev.neg (by simp only [List.length_map];omega) (Ev.bind he ?_))))))))))))))))))))))));exact Ev.step (fun k=>laws_FnExactProbeFollow.j0.eq_2 ..) (Ev.neg (by simp) (Ev.bind hmk (Ev.bind hh (Ev.neg (by omega) (Ev.pos rfl (Ev.bind hI (Ev.bind ht (Ev.bind hu (Ev.bind hi (Ev.bind he (Ev.pos rfl (Ev.bind hh (Ev.neg (by omega) (Ev.pos rfl (Ev.now true)))))))))))))))
end Go.Proofs.YtgklmafdbgnohaaGreat.Pure
end
section
namespace Go.Proofs.YtgklmafdbgnohaaGreat.Q
open Go.RowKit Go.Proofs.YtgklmafdbgnohaaGreat.PA Go.Proofs.YtgklmafdbgnohaaGreatW.PrintWords Go.Proofs.YtgklmafdbgnohaaGreatW.PrintLast Go.Proofs.YtgklmafdbgnohaaGreatW.PrintMore Go.Proofs.YtgklmafdbgnohaaGreat.Ik Go.Proofs.YtgklmafdbgnohaaGreat.Ix
abbrev KT:=Int × Int × Int
def kl (a b:KT):Bool:=decide (a.1<b.1∨(a.1=b.1∧(a.2.1<b.2.1∨(a.2.1=b.2.1∧a.2.2<b.2.2))))
theorem kl_iff {a b:KT} : kl a b=true↔a.1<b.1∨(a.1=b.1∧(a.2.1<b.2.1∨(a.2.1=b.2.1∧a.2.2<b.2.2))):=by simp only [kl,decide_eq_true_eq]
theorem kl_not {a b:KT} : kl a b=false↔¬ (a.1<b.1∨(a.1=b.1∧(a.2.1<b.2.1∨(a.2.1=b.2.1∧a.2.2<b.2.2)))):=by simp only [kl,decide_eq_false_iff_not]
def mn (o:Option KT) (k:KT):Option KT:=match o with
  | none=>some k
  | some k0=>if kl k k0=true then some k else some k0
def IsMin (P:KT→Prop):Option KT→Prop
  | none=>∀ k,¬ P k
  | some k=>P k∧∀ k',P k'→kl k' k=false
theorem IsMin.step {P:KT→Prop} {o:Option KT} (h:IsMin P o) (k:KT):IsMin (fun x=>P x∨x=k) (mn o k):=by
  cases o with
  | none =>
    refine ⟨.inr rfl,fun k' hk'=>?_⟩
    rcases hk' with hk' | rfl
    · exact absurd hk' (h k')
    · rw [kl_not];omega
  | some k0 =>
    obtain ⟨h0,h1⟩:=h
    unfold mn
    simp only
    by_cases c:kl k k0=true
    · rw [if_pos c];refine ⟨.inr rfl,fun k' hk'=>?_⟩;rw [kl_iff] at c
      rcases hk' with hk' | rfl
      · have:=h1 k' hk';rw [kl_not] at this ⊢;omega
      · rw [kl_not];omega
    · rw [if_neg c];refine ⟨.inl h0,fun k' hk'=>?_⟩
      rcases hk' with hk' | rfl
      · exact h1 k' hk'
      · simpa using c
theorem IsMin.mono {P Q:KT→Prop} {o:Option KT} (h:IsMin P o) (hq:∀ x,P x↔Q x):IsMin Q o:=by
  have e:P=Q:=funext fun x=>propext (hq x)
  rwa [← e]
theorem IsMin.fold:∀ (L:List KT) {P:KT→Prop} {o:Option KT},IsMin P o→IsMin (fun x=>P x∨x∈L) (L.foldl mn o)
  | [],P,o,h=>h.mono (fun x=>by simp)
  | k::r,P,o,h=>(IsMin.fold r (h.step k)).mono (fun x=>by simp only [List.mem_cons,or_assoc])
theorem IsMin.uniq {P:KT→Prop} {o o':Option KT} (h:IsMin P o) (h':IsMin P o'):o=o':=by
  cases o with
  | none =>
    cases o' with
    | none=>rfl
    | some k=>exact absurd h'.1 (h k)
  | some k =>
    cases o' with
    | none=>exact absurd h.1 (h' k)
    | some k' =>
      have a:=h.2 k' h'.1;have b:=h'.2 k h.1;rw [kl_not] at a b;obtain ⟨k1,k2,k3⟩:=k;obtain ⟨l1,l2,l3⟩:=k'
      simp only at a b
      have e1:k1=l1:=by omega
      have e2:k2=l2:=by omega
      have e3:k3=l3:=by omega
      rw [e1,e2,e3]
theorem fold_mem {L L':List KT} (h:∀ x,x∈L↔x∈L'):L.foldl mn none=L'.foldl mn none:=by
  have a:IsMin (fun x=>False∨x∈L) (L.foldl mn none):=IsMin.fold L (P:=fun _=>False) (fun _ h=>h);have b:IsMin (fun x=>False∨x∈L') (L'.foldl mn none):=IsMin.fold L' (P:=fun _=>False) (fun _ h=>h);exact a.uniq (b.mono fun x=>by simp [h x])
def eS (t n:ByteArray):Option KT→Bool × S91
  | none=>st0
  | some k=>(true,⟨t,n,k.1,k.2.1,k.2.2⟩)
def one (p:Bool) (k:KT):List KT:=if p=true then [k] else []
theorem mem_one {p:Bool} {k x:KT} : x∈one p k↔p=true∧x=k:=by
  unfold one
  split<;>simp_all
def cdB (c:S84) (s:S80):List S75→Nat→List KT
  | [],_=>[]
  | b::r,j=>one (cl b c s).2 ((cl b c s).1,(j:Int),s.f5)++cdB c s r (j+1)
def cdS (n:ByteArray) (l:List S75) (c:S84):List S80→List KT
  | []=>[]
  | s::r=>(if s.f4.toList=n.toList then cdB c s l 0 else [])++cdS n l c r
def cdC (n:ByteArray) (l:List S75):List S84→List KT
  | []=>[]
  | c::r=>cdS n l c c.f2++cdC n l r
theorem ahd_kl (t i a:Int) (u v:ByteArray) (k:KT):ahd t i a ⟨u,v,k.1,k.2.1,k.2.2⟩=kl (t,i,a) k:=by
  unfold ahd
  simp only
  by_cases h1:t=k.1
  · rw [if_pos h1];by_cases h2:i=k.2.1
    · rw [if_pos h2]
      unfold kl
      simp only [decide_eq_decide];omega
    · rw [if_neg h2]
      unfold kl
      simp only [decide_eq_decide];omega
  · rw [if_neg h1]
    unfold kl
    simp only [decide_eq_decide];omega
theorem sF_eq {t n:ByteArray} {c:S84} {s:S80} (h:s.f4=n) (o:Option KT) (j:Nat) (b:S75):sF t c s (eS t n o) j b=eS t n ((one (cl b c s).2 ((cl b c s).1,(j:Int),s.f5)).foldl mn o):=by
  unfold sF one
  by_cases hc:(cl b c s).2=true
  · rw [if_pos hc,if_pos hc]
    cases o with
    | none =>
      rw [if_neg (by simp [eS,st0]),h];rfl
    | some k =>
      rw [if_pos (by simp [eS]),h]
      show (if ahd _ _ _ (⟨t,n,k.1,k.2.1,k.2.2⟩:S91)=true then _ else _)=eS t n (mn (some k) _)
      rw [ahd_kl]
      unfold mn
      simp only
      split<;>rfl
  · rw [if_neg hc,if_neg hc];rfl
theorem bF_eq {t n:ByteArray} {c:S84} {s:S80} (h:s.f4=n):∀ (r:List S75) (j:Nat) (o:Option KT),bF t c s r j (eS t n o)=eS t n ((cdB c s r j).foldl mn o)
  | [],_,_=>rfl
  | b::r,j,o=>by rw [bF,sF_eq h,bF_eq h r,cdB,List.foldl_append]
theorem ssF_eq {t n:ByteArray} {l:List S75} {c:S84} : ∀ (r:List S80) (o:Option KT),ssF n t l c r (eS t n o)=eS t n ((cdS n l c r).foldl mn o)
  | [],_=>rfl
  | s :: r,o=>by
    rw [ssF,cdS,List.foldl_append];by_cases hn:s.f4.toList=n.toList
    · rw [if_pos hn,if_pos hn,bF_eq (toList_iff.1 hn),ssF_eq r]
    · rw [if_neg hn,if_neg hn,ssF_eq r];rfl
theorem cF_eq {t n:ByteArray} {l:List S75} : ∀ (C:List S84) (o:Option KT),cF n t l C (eS t n o)=eS t n ((cdC n l C).foldl mn o)
  | [],_=>rfl
  | c::r,o=>by rw [cF,ssF_eq,cF_eq r,cdC,List.foldl_append]
theorem mem_cdB {c:S84} {s:S80} {k:KT} : ∀ {r:List S75} {j:Nat},k∈cdB c s r j↔∃ (q:Nat) (b:S75),r[q]? = some b∧(cl b c s).2=true∧k=((cl b c s).1,((j+q:Nat):Int),s.f5)
  | [],j=>by simp [cdB]
  | b :: r,j=>by
    rw [cdB,List.mem_append,mem_one,mem_cdB (r:=r) (j:=j+1)]
    constructor
    · rintro (⟨h,rfl⟩ | ⟨q,x,h1,h2,rfl⟩)
      · exact ⟨0,b,rfl,h,rfl⟩
      · exact ⟨q+1,x,by simpa using h1,h2,by rw [show j+1+q=j+(q+1) by omega]⟩
    · rintro ⟨q,x,h1,h2,rfl⟩
      cases q with
      | zero=>simp only [List.getElem?_cons_zero,Option.some.injEq] at h1;subst h1;exact .inl ⟨h2,rfl⟩
      | succ q=>exact .inr ⟨q,x,by simpa using h1,h2,by rw [show j+1+q=j+(q+1) by omega]⟩
theorem mem_cdS {n:ByteArray} {l:List S75} {c:S84} {k:KT} : ∀ {r:List S80},k∈cdS n l c r↔∃ s∈r,s.f4.toList=n.toList∧k∈cdB c s l 0
  | []=>by simp [cdS]
  | s :: r=>by
    rw [cdS,List.mem_append,mem_cdS (r:=r)];by_cases h:s.f4.toList=n.toList<;>simp [h]
theorem mem_cdC {n:ByteArray} {l:List S75} {k:KT} : ∀ {C:List S84},k∈cdC n l C↔∃ c∈C,∃ s∈c.f2,s.f4.toList=n.toList∧k∈cdB c s l 0
  | []=>by simp [cdC]
  | c::r=>by rw [cdC,List.mem_append,mem_cdC (C:=r),mem_cdS];simp
def cdR (x:S75) (i:Int):List S75→Nat→List KT
  | [],_=>[]
  | y::r,j=>one (bNear x y).2 ((bNear x y).1,i,(j:Int))++cdR x i r (j+1)
def cdA (l':List S75):List S75→Nat→List KT
  | [],_=>[]
  | x::r,i=>cdR x (i:Int) l' 0++cdA l' r (i+1)
theorem better_eq {x y:S75} {i j:Int} {st:Option KT} (h:∀ k,st=some k→k.2.1<i∨(k.2.1=i∧k.2.2<j)):better st x y i j=(one (bNear x y).2 ((bNear x y).1,i,j)).foldl mn st∧∀ k,better st x y i j=some k→k.2.1<i∨(k.2.1=i∧k.2.2<j+1):=by
  unfold better one
  by_cases hc:(bNear x y).2=true
  · rw [if_pos hc,if_pos hc]
    cases st with
    | none=>exact ⟨rfl,fun k e=>by cases e;exact .inr ⟨rfl,by simp only;omega⟩⟩
    | some k =>
      have hk:=h k rfl;simp only [List.foldl_cons,List.foldl_nil,mn];by_cases hl:(bNear x y).1<k.1
      · rw [if_pos hl,if_pos (by rw [kl_iff];exact .inl hl)];exact ⟨rfl,fun k' e=>by cases e;exact .inr ⟨rfl,by simp only;omega⟩⟩
      · rw [if_neg hl,if_neg (by rw [kl_iff];simp only;omega)];exact ⟨rfl,fun k' e=>by cases e;omega⟩
  · rw [if_neg hc,if_neg hc];exact ⟨rfl,fun k e=>by have:=h k e;omega⟩
theorem row_eq {x:S75} {i:Int} : ∀ (r:List S75) (j:Nat) (st:Option KT),(∀ k,st=some k→k.2.1<i∨(k.2.1=i∧k.2.2<(j:Int)))→meetRow x i r j st=(cdR x i r j).foldl mn st∧∀ k,meetRow x i r j st=some k→k.2.1≤i
  | [],j,st,h=>⟨rfl,fun k e=>by have:=h k e;omega⟩
  | y :: r,j,st,h=>by
    obtain ⟨e,h'⟩:=better_eq (x:=x) (y:=y) h;obtain ⟨e2,h2⟩:=row_eq (x:=x) (i:=i) r (j+1) (better st x y i j) (fun k hk=>by have:=h' k hk;omega);rw [meetRow,cdR,List.foldl_append,← e];exact ⟨e2,h2⟩
theorem all_eq {l':List S75} : ∀ (r:List S75) (i:Nat) (st:Option KT),(∀ k,st=some k→k.2.1<(i:Int))→meetAll l' r i st=(cdA l' r i).foldl mn st
  | [],_,_,_=>rfl
  | x :: r,i,st,h=>by
    obtain ⟨e,h'⟩:=row_eq (x:=x) (i:=(i:Int)) l' 0 st (fun k hk => .inl (h k hk));rw [meetAll,cdA,List.foldl_append,all_eq r (i+1) _ (fun k hk=>by have:=h' k hk;omega),e]
theorem mem_cdR {x:S75} {i:Int} {k:KT} : ∀ {r:List S75} {j:Nat},k∈cdR x i r j↔∃ (q:Nat) (y:S75),r[q]? = some y∧(bNear x y).2=true∧k=((bNear x y).1,i,((j+q:Nat):Int))
  | [],j=>by simp [cdR]
  | y :: r,j=>by
    rw [cdR,List.mem_append,mem_one,mem_cdR (r:=r) (j:=j+1)]
    constructor
    · rintro (⟨h,rfl⟩ | ⟨q,x,h1,h2,rfl⟩)
      · exact ⟨0,y,rfl,h,rfl⟩
      · exact ⟨q+1,x,by simpa using h1,h2,by rw [show j+1+q=j+(q+1) by omega]⟩
    · rintro ⟨q,x,h1,h2,rfl⟩
      cases q with
      | zero=>simp only [List.getElem?_cons_zero,Option.some.injEq] at h1;subst h1;exact .inl ⟨h2,rfl⟩
      | succ q=>exact .inr ⟨q,x,by simpa using h1,h2,by rw [show j+1+q=j+(q+1) by omega]⟩
theorem mem_cdA {l':List S75} {k:KT} : ∀ {r:List S75} {i:Nat},k∈cdA l' r i↔∃ (q:Nat) (x:S75),r[q]? = some x∧∃ (j:Nat) (y:S75),l'[j]? = some y∧(bNear x y).2=true∧k=((bNear x y).1,((i+q:Nat):Int),(j:Int))
  | [],i=>by simp [cdA]
  | x :: r,i=>by
    rw [cdA,List.mem_append,mem_cdR,mem_cdA (r:=r) (i:=i+1)]
    constructor
    · rintro (⟨j,y,h1,h2,rfl⟩ | ⟨q,z,h1,j,y,h2,h3,rfl⟩)
      · exact ⟨0,x,rfl,j,y,h1,h2,by simp⟩
      · exact ⟨q+1,z,by simpa using h1,j,y,h2,h3,by rw [show i+1+q=i+(q+1) by omega]⟩
    · rintro ⟨q,z,h1,j,y,h2,h3,rfl⟩
      cases q with
      | zero=>simp only [List.getElem?_cons_zero,Option.some.injEq] at h1;subst h1;exact .inl ⟨j,y,h2,h3,by simp⟩
      | succ q=>exact .inr ⟨q,z,by simpa using h1,j,y,h2,h3,by rw [show i+1+q=i+(q+1) by omega]⟩
theorem mem_insS {s x:Sl} : ∀ {l:List Sl},x∈insS s l↔x=s∨x∈l
  | []=>by simp [insS]
  | y :: r=>by
    rw [insS]
    split
    · simp only [List.mem_cons,mem_insS (l:=r)]
      constructor
      · rintro (h | h | h)<;>simp [h]
      · rintro (h | h | h)<;>simp [h]
    · simp
def Has (I:List Ce) (p:Int × Int) (s:Sl):Prop:=∃ c∈I,(c.f0,c.f1)=p∧s∈c.f2
theorem has_cons {c:Ce} {I:List Ce} {p:Int × Int} {s:Sl} : Has (c::I) p s↔((c.f0,c.f1)=p∧s∈c.f2)∨Has I p s:=by simp [Has]
theorem has_ins {q p:Int × Int} {s x:Sl} : ∀ {I:List Ce},Has (insC q s I) p x↔(p=q∧x=s)∨Has I p x
  | [] => by
    rw [insC,has_cons]
    constructor
    · rintro (⟨rfl,h⟩ | ⟨c,h,_⟩)
      · exact .inl ⟨rfl,by simpa using h⟩
      · cases h
    · rintro (⟨rfl,rfl⟩ | ⟨c,h,_⟩)
      · exact .inl ⟨rfl,by simp⟩
      · cases h
  | y :: r => by
    rw [insC]
    split
    · rw [has_cons,has_ins (I:=r),has_cons]
      constructor
      · rintro (h | h | h)
        · exact .inr (.inl h)
        · exact .inl h
        · exact .inr (.inr h)
      · rintro (h | h | h)
        · exact .inr (.inl h)
        · exact .inl h
        · exact .inr (.inr h)
    · split
      · rename_i he
        rw [has_cons,has_cons];simp only [mem_insS]
        constructor
        · rintro (⟨h1,rfl | h2⟩ | h)
          · exact .inl ⟨by rw [← h1,← he];rfl,rfl⟩
          · exact .inr (.inl ⟨h1,h2⟩)
          · exact .inr (.inr h)
        · rintro (⟨rfl,rfl⟩ | ⟨h1,h2⟩ | h)
          · exact .inl ⟨by rw [← he];rfl, .inl rfl⟩
          · exact .inl ⟨h1, .inr h2⟩
          · exact .inr h
      · rw [has_cons]
        constructor
        · rintro (⟨rfl,h⟩ | h)
          · exact .inl ⟨rfl,by simpa using h⟩
          · exact .inr h
        · rintro (⟨rfl,rfl⟩ | h)
          · exact .inl ⟨rfl,by simp⟩
          · exact .inr h
theorem has_fold {p:Int × Int} {x:Sl} : ∀ {E:List Ev} {I:List Ce},Has (E.foldl putI I) p x↔(p,x)∈E∨Has I p x
  | [],I=>by simp
  | e :: r,I=>by
    rw [List.foldl_cons,has_fold (E:=r),putI,has_ins];obtain ⟨q,s⟩:=e;simp only [List.mem_cons,Prod.mk.injEq]
    constructor
    · rintro (h | h | h)
      · exact .inl (.inr h)
      · exact .inl (.inl h)
      · exact .inr h
    · rintro ((h | h) | h)
      · exact .inr (.inl h)
      · exact .inl h
      · exact .inr (.inr h)
theorem mem_evB {name:ByteArray} {p:Int × Int} {s:Sl} : ∀ {r:List S75} {i:Nat},(p,s)∈evB name i r↔∃ (q:Nat) (y:S75),r[q]? = some y∧p=(y.f0,y.f1)∧s=⟨y.f4,y.f5,y.f2,y.f3,name,((i+q:Nat):Int)⟩
  | [],i=>by simp [evB]
  | y :: r,i=>by
    rw [evB,List.mem_cons,mem_evB (r:=r) (i:=i+1)]
    constructor
    · rintro (h | ⟨q,z,h1,h2,h3⟩)
      · simp only [Prod.mk.injEq] at h;exact ⟨0,y,rfl,h.1,h.2⟩
      · exact ⟨q+1,z,by simpa using h1,h2,by rw [h3,show i+1+q=i+(q+1) by omega]⟩
    · rintro ⟨q,z,h1,h2,h3⟩
      cases q with
      | zero=>simp only [List.getElem?_cons_zero,Option.some.injEq] at h1;subst h1;exact .inl (by rw [h2,h3];rfl)
      | succ q=>exact .inr ⟨q,z,by simpa using h1,h2,by rw [h3,show i+1+q=i+(q+1) by omega]⟩
theorem mem_evT {x:Ev} : ∀ {L:List S32},x∈evT L↔∃ u∈L,x∈evB u.f0 0 u.f1
  | []=>by simp [evT]
  | u::r=>by rw [evT,List.mem_append,mem_evT (L:=r)];simp
theorem has_ix {L:List S32} {p:Int × Int} {s:Sl} : Has ((evT L).foldl putI []) p s↔∃ u∈L,∃ (q:Nat) (y:S75),u.f1[q]? = some y∧p=(y.f0,y.f1)∧s=⟨y.f4,y.f5,y.f2,y.f3,u.f0,(q:Int)⟩:=by
  rw [has_fold,mem_evT]
  constructor
  · rintro (⟨u,hu,h⟩ | ⟨c,h,_⟩)
    · obtain ⟨q,y,h1,h2,h3⟩:=mem_evB.1 h;exact ⟨u,hu,q,y,h1,h2,by rw [h3,Nat.zero_add]⟩
    · cases h
  · rintro ⟨u,hu,q,y,h1,h2,h3⟩
    exact .inl ⟨u,hu,mem_evB.2 ⟨q,y,h1,h2,by rw [h3,Nat.zero_add]⟩⟩
theorem sky_uniq {L:List S32} (h:skyOk L=true) {u b:S32} (hu:u∈L) (hb:b∈L) (he:u.f0.toList=b.f0.toList):u=b:=by
  obtain ⟨i,hi,rfl⟩:=List.getElem_of_mem hu;obtain ⟨j,hj,rfl⟩:=List.getElem_of_mem hb;have hp:=List.pairwise_iff_getElem.1 (skyPw h)
  rcases Nat.lt_trichotomy i j with c | c | c
  · exact absurd he (lt_ne (hp i j hi hj c))
  · subst c;rfl
  · exact absurd he.symm (lt_ne (hp j i hj hi c))
theorem cl_near {x y:S75} {c:S84} {n:ByteArray} {a:Int} (hx:bOk x=true) (hy:bOk y=true) (hc:(c.f0,c.f1)=(y.f0,y.f1)):cl x c ⟨y.f4,y.f5,y.f2,y.f3,n,a⟩=bNear x y:=by
  simp only [Prod.mk.injEq] at hc
  unfold cl bNear
  rw [hc.1,hc.2,if_pos ⟨hx,hy⟩]
theorem first_meet {L:List S32} (hL:skyOk L=true) {t:ByteArray} {l:List S75} (ht:tubeOk t l=true) {b:S32} (hb:b∈L):cF b.f0 t l ((evT L).foldl putI []) st0=eS t b.f0 (meetSt l b.f1):=by
  have ho:=(len_of_tube ht).2;have hok:=(sky_len hL).2
  show cF b.f0 t l ((evT L).foldl putI []) (eS t b.f0 none)=_
  rw [cF_eq]
  congr 1
  unfold meetSt
  rw [all_eq l 0 none (fun k h=>by cases h)];refine fold_mem fun k=>?_;rw [mem_cdC,mem_cdA]
  constructor
  · rintro ⟨c,hc,s,hs,hn,hk⟩
    obtain ⟨q,x,h1,h2,rfl⟩:=mem_cdB.1 hk;obtain ⟨u,hu,j,y,h3,h4,h5⟩:=has_ix.1 (show Has _ (c.f0,c.f1) s from ⟨c,hc,rfl,hs⟩);have hux:u=b:=sky_uniq hL hu hb (by rw [h5] at hn;exact hn);subst hux;have hy:bOk y=true:=List.all_eq_true.1 (len_of_tube (hok u hu)).2 y (List.mem_of_getElem? h3);have hx:bOk x=true:=List.all_eq_true.1 ho x (List.mem_of_getElem? h1);subst h5;rw [cl_near hx hy h4] at h2 ⊢;exact ⟨q,x,h1,j,y,h3,h2,rfl⟩
  · rintro ⟨q,x,h1,j,y,h3,h2,rfl⟩
    have hy:bOk y=true:=List.all_eq_true.1 (len_of_tube (hok b hb)).2 y (List.mem_of_getElem? h3);have hx:bOk x=true:=List.all_eq_true.1 ho x (List.mem_of_getElem? h1);obtain ⟨c,hc,h4,hs⟩:=has_ix.2 ⟨b,hb,j,y,h3,rfl,rfl⟩;refine ⟨c,hc,_,hs,rfl,mem_cdB.2 ⟨q,x,h1,?_,?_⟩⟩
    · rw [cl_near hx hy h4];exact h2
    · rw [cl_near hx hy h4]
theorem nS_mem {n:ByteArray} : ∀ (r:List S80) {N:List ByteArray},n∈nS r N→n∈N∨∃ s∈r,s.f4=n
  | [],N,h => .inl h
  | s :: r,N,h=>by
    rcases nS_mem r h with h | ⟨x,hx,rfl⟩
    · rcases mem_insN.1 h with rfl | h
      · exact .inr ⟨s,by simp,rfl⟩
      · exact .inl h
    · exact .inr ⟨x,by simp [hx],rfl⟩
theorem nC_mem {n:ByteArray} : ∀ (C:List S84) {N:List ByteArray},n∈nC C N→n∈N∨∃ c∈C,∃ s∈c.f2,s.f4=n
  | [],N,h => .inl h
  | c :: r,N,h=>by
    rcases nC_mem r h with h | ⟨x,hx,h⟩
    · rcases nS_mem _ h with h | ⟨s,hs,rfl⟩
      · exact .inl h
      · exact .inr ⟨c,by simp,s,hs,rfl⟩
    · exact .inr ⟨x,by simp [hx],h⟩
def boxed (L:List S32):List ByteArray:=(L.filter fun b => !b.f1.isEmpty).map (·.f0)
theorem names_boxed {L:List S32} (hL:skyOk L=true):nC ((evT L).foldl putI []) []=boxed L:=by
  refine asc_eq (asc_nC _ List.Pairwise.nil) ?_ fun n=>?_
  · unfold Asc2 boxed
    rw [List.pairwise_map];exact ((skyPw hL).sublist List.filter_sublist).imp fun h=>lt_iff.1 h
  · unfold boxed
    rw [List.mem_map]
    constructor
    · intro h
      rcases nC_mem _ h with h | ⟨c,hc,s,hs,rfl⟩
      · cases h
      · obtain ⟨u,hu,j,y,h3,_,h5⟩:=has_ix.1 (show Has _ (c.f0,c.f1) s from ⟨c,hc,rfl,hs⟩);refine ⟨u,List.mem_filter.2 ⟨hu,?_⟩,by rw [h5]⟩
        cases he:u.f1 with
        | nil=>rw [he] at h3;simp at h3
        | cons a r=>rfl
    · rintro ⟨u,hu,rfl⟩
      obtain ⟨hu,hf⟩:=List.mem_filter.1 hu
      cases he:u.f1 with
      | nil=>rw [he] at hf;cases hf
      | cons y r =>
        obtain ⟨c,hc,_,hs⟩:=(has_ix (L:=L) (p:=(y.f0,y.f1)) (s:=⟨y.f4,y.f5,y.f2,y.f3,u.f0,((0:Nat):Int)⟩)).2 ⟨u,hu,0,y,by rw [he];rfl,rfl,rfl⟩;exact mem_nC _ (.inr ⟨c,hc,_,hs,rfl⟩)
theorem meet_nil (l:List S75):meetSt l []=none:=by
  unfold meetSt
  rw [all_eq l 0 none (fun k h=>by cases h)]
  rw [show cdA [] l 0=[] from by
    have:∀ (r:List S75) (i:Nat),cdA [] r i=[]:=fun r=>by
      induction r with
      | nil=>intro i;rfl
      | cons x r ih=>intro i;rw [cdA,ih];rfl
    exact this l 0]
  rfl
theorem ask_with {L:List S32} (hL:skyOk L=true) {t:ByteArray} {l:List S75} (ht:tubeOk t l=true):askS ((evT L).foldl putI []) t l (nC ((evT L).foldl putI []) [])=withL t l L:=by
  rw [names_boxed hL]
  have key : ∀ r:List S32,(∀ b∈r,b∈L)→askS ((evT L).foldl putI []) t l (boxed r)=withL t l r:=by
    intro r
    induction r with
    | nil=>intro _;rfl
    | cons b r ih =>
      intro h;have ih:=ih fun x hx=>h x (by simp [hx]);have hf:=first_meet hL ht (h b (by simp));rw [withL]
      cases he:b.f1 with
      | nil =>
        rw [meet_nil,if_neg (by simp),← ih]
        unfold boxed
        rw [List.filter_cons_of_neg (by simp [he])]
      | cons y q =>
        rw [show boxed (b::r)=b.f0::boxed r from by unfold boxed;rw [List.filter_cons_of_pos (by simp [he])];rfl,askS_cons,hf,ih,← he]
        cases hm:meetSt l b.f1 with
        | none=>rw [if_neg (by simp [eS,st0]),if_neg (by simp)];rfl
        | some k =>
          rw [if_pos (by rfl)];by_cases hn:b.f0.toList=t.toList
          · rw [if_pos hn,if_neg (by simp [hn])];rfl
          · rw [if_neg hn,if_pos ⟨rfl,hn⟩];rfl
  exact key L fun _ h=>h
theorem with_told {t:ByteArray} {l:List S75} {n:ByteArray} (hn:n.toList≠t.toList):∀ {L:List S32},((withL t l L).any fun c=>decide (c.f1.toList=n.toList))=L.any fun b=>decide (b.f0.toList=n.toList) && (meetSt l b.f1).isSome
  | []=>rfl
  | b :: r=>by
    have ih:=with_told (t:=t) (l:=l) hn (L:=r);rw [withL,List.any_cons,← ih]
    cases hm:meetSt l b.f1 with
    | none=>rw [if_neg (by simp)];simp
    | some k =>
      by_cases hb:b.f0.toList=t.toList
      · rw [if_neg (by simp [hb])];have:¬ b.f0.toList=n.toList:=fun e=>hn (e.symm.trans hb);simp [this]
      · rw [if_pos ⟨rfl,hb⟩,List.any_cons];simp only [Option.isSome_some,Bool.and_true];rfl
theorem told_one {L:List S32} (hL:skyOk L=true) {t:ByteArray} {l:List S75} {b:S32} (hb:b∈L) (hn:b.f0.toList≠t.toList):((withL t l L).any fun c=>decide (c.f1.toList=b.f0.toList))=(meetSt l b.f1).isSome:=by
  rw [with_told hn]
  cases hm:(meetSt l b.f1).isSome with
  | true=>exact List.any_eq_true.2 ⟨b,hb,by simp [hm]⟩
  | false =>
    rw [List.any_eq_false];intro u hu h;simp only [Bool.and_eq_true,decide_eq_true_eq] at h;rw [sky_uniq hL hu hb h.1,hm] at h;cases h.2
theorem ever_met {l l':List S75} (ho:l.all bOk=true) (ho':l'.all bOk=true):((l.any fun x=>nearL l l' x.f4) || l'.any fun y=>nearL l l' y.f4)=(meetSt l l').isSome:=by
  have hb:∀ x∈l,bOk x=true:=List.all_eq_true.1 ho;have hb':∀ x∈l',bOk x=true:=List.all_eq_true.1 ho'
  cases hm:meetSt l l' with
  | none =>
    have hno:∀ t,nearL l l' t=false:=fun t=>by
      unfold nearL
      rw [List.any_eq_false];intro x hx h;obtain ⟨y,hy,h⟩:=List.any_eq_true.1 h;exact meet_none'.1 hm x hx y hy ((nearT_iff (hb x hx) (hb' y hy) t).1 h).1
    simp [hno]
  | some k =>
    have:∃ x∈l,∃ y∈l',(bNear x y).2=true:=by
      refine Classical.byContradiction fun hc=>?_;have:=meet_none'.2 (fun x hx y hy h=>hc ⟨x,hx,y,hy,h⟩);rw [hm] at this;cases this
    obtain ⟨x,hx,y,hy,hn⟩:=this;have hat:=nearT_at (hb x hx) (hb' y hy) hn
    have hT:(bNear x y).1=x.f4∨(bNear x y).1=y.f4:=by
      unfold bNear near at hn ⊢
      split
      · unfold mx;split<;>simp
      · rename_i h;rw [if_neg h] at hn;cases hn
    have hnl:∀ T,(bNear x y).1=T→nearL l l' T=true:=fun T hT=>List.any_eq_true.2 ⟨x,hx,List.any_eq_true.2 ⟨y,hy,by rw [← hT];exact hat⟩⟩
    rcases hT with hT | hT
    · rw [List.any_eq_true.2 ⟨x,hx,hnl _ hT⟩];rfl
    · rw [List.any_eq_true.2 ⟨y,hy,hnl _ hT⟩,Bool.or_true];rfl
end Go.Proofs.YtgklmafdbgnohaaGreat.Q
end
section
namespace Go.Proofs.YtgklmafdbgnohaaGreat.Q
open Go.RowKit Go.Proofs.YtgklmafdbgnohaaGreat.PA Go.Proofs.YtgklmafdbgnohaaGreatW.PrintWords Go.Proofs.YtgklmafdbgnohaaGreatW.PrintLast Go.Proofs.YtgklmafdbgnohaaGreatW.PrintMore
theorem sky_mk {L:List S32} (hl:L.length≤24) (hp:L.Pairwise (fun a b=>lt a.f0 b.f0=true)) (ho:∀ t∈L,tubeOk t.f0 t.f1=true):skyOk L=true:=by
  simp only [skyOk,Bool.and_eq_true,decide_eq_true_eq];exact ⟨hl,sky_of_pw (fun n h=>by cases h) hp ho⟩
theorem sky_set {L:List S32} (h:skyOk L=true) {s:ByteArray} {l:List S75} (ht:tubeOk s l=true) {i:Nat} (hi:i<L.length) (hn:L[i].f0.toList=s.toList):skyOk (L.set i ⟨s,l⟩)=true:=by
  have h1:=sky_len h;have hp:=List.pairwise_iff_getElem.1 (skyPw h)
  have hx:∀ (j:Nat) (hj:j<L.length),((L.set i ⟨s,l⟩)[j]'(by rw [List.length_set];exact hj)).f0.toList=L[j].f0.toList:=by
    intro j hj;rw [List.getElem_set]
    split
    · rename_i e;subst e;exact hn.symm
    · rfl
  refine sky_mk (by rw [List.length_set];exact h1.1) (List.pairwise_iff_getElem.2 fun j k hj hk hjk=>?_) (fun t hm=>?_)
  · rw [List.length_set] at hj hk;have:=hp j k hj hk hjk
    unfold lt at this ⊢
    rw [hx j hj,hx k hk];exact this
  · rcases List.mem_or_eq_of_mem_set hm with h2 | h2
    · exact h1.2 t h2
    · rw [h2];exact ht
theorem bl_total:∀ x y:List UInt8,Op.bytesLess x y=false→x≠y→Op.bytesLess y x=true
  | [],[],_,hn=>absurd rfl hn
  | [],_::_,h,_=>by simp [Op.bytesLess] at h
  | _::_,[],_,_=>by simp [Op.bytesLess]
  | a :: x,b::y,h,hn=>by
    simp only [Op.bytesLess] at h ⊢;by_cases h1:a<b
    · simp [h1] at h
    · by_cases h2:b<a
      · simp [h2]
      · have e:a=b:=UInt8.le_antisymm (UInt8.not_lt.1 h2) (UInt8.not_lt.1 h1);subst e;have h3:=bl_total x y (by simpa [h1] using h) (fun e=>hn (by rw [e]));simp [h3]
theorem sky_insert {L:List S32} (h:skyOk L=true) {s:ByteArray} {l:List S75} (ht:tubeOk s l=true) (hl:L.length<24) (hn:isThere L s=false):skyOk (L.take (place L s)++⟨s,l⟩::L.drop (place L s))=true:=by
  have h1:=sky_len h;have hp:=List.pairwise_iff_getElem.1 (skyPw h);have hpl:=place_le L s
  have ha:∀ t∈L.take (place L s),lt t.f0 s=true:=by
    intro t hm;obtain ⟨j,hj,rfl⟩:=List.getElem_of_mem hm;rw [List.length_take] at hj;rw [List.getElem_take];exact less_below (by omega) (by omega)
  have hb:∀ t∈L.drop (place L s),lt s t.f0=true:=by
    intro t hm;obtain ⟨j,hj,rfl⟩:=List.getElem_of_mem hm;rw [List.length_drop] at hj;rw [List.getElem_drop];have hlt:place L s<L.length:=by omega
    have h2:=not_less_at hlt
    have h3:(L[place L s]'hlt).f0.toList≠s.toList:=by
      intro e
      unfold isThere at hn
      rw [rd39 hlt] at hn;simp [hlt,e] at hn
    have h4:lt s (L[place L s]'hlt).f0=true:=bl_total _ _ h2 h3
    rcases Nat.eq_zero_or_pos j with hz | hz
    · subst hz;exact h4
    · exact bl_trans _ _ _ h4 (hp (place L s) (place L s+j) hlt (by omega) (by omega))
  refine sky_mk (by simp;omega) (List.pairwise_append.2 ⟨(skyPw h).sublist (List.take_sublist _ _),List.pairwise_cons.2 ⟨hb,(skyPw h).sublist (List.drop_sublist _ _)⟩,fun x hx y hy=>?_⟩) (fun t hm=>?_)
  · rcases List.mem_cons.1 hy with e | hy
    · rw [e];exact ha x hx
    · exact bl_trans _ _ _ (ha x hx) (hb y hy)
  · rcases List.mem_append.1 hm with h2 | h2
    · exact h1.2 t (List.mem_of_mem_take h2)
    · rcases List.mem_cons.1 h2 with e | h2
      · rw [e];exact ht
      · exact h1.2 t (List.mem_of_mem_drop h2)
theorem there_at {L:List S32} {s:ByteArray} (h:isThere L s=true):∃ hi:place L s<L.length,(L[place L s]'hi).f0.toList=s.toList:=by
  unfold isThere at h
  rw [Bool.and_eq_true,decide_eq_true_eq] at h;refine ⟨h.1,?_⟩;have:=h.2;rw [rd39 h.1] at this;exact beq_iff_eq.1 this
theorem sky_happen {L:List S32} (h:skyOk L=true) (d:Bool) (s:ByteArray) (l:List S75):skyOk (happen L d s l).1=true:=by
  unfold happen
  rw [if_pos h]
  split
  · split
    · exact sky_sub h (List.eraseIdx_sublist _ _)
    · exact h
  · split
    · rename_i ht
      split
      · rename_i hi
        obtain ⟨h1,h2⟩:=there_at hi;exact sky_set h ht h1 h2
      · rename_i hi
        split
        · exact h
        · have:=(sky_len h).1;exact sky_insert h ht (by omega) (Bool.eq_false_iff.2 hi)
    · exact h
theorem happen_same {L:List S32} (h:skyOk L=true) {d:Bool} {s:ByteArray} {l:List S75} (hc:(happen L d s l).2≠0):(happen L d s l).1=L:=by
  unfold happen at hc ⊢
  rw [if_pos h] at hc ⊢;by_cases hd:d=true
  · by_cases hi:isThere L s=true
    · simp [hd,hi] at hc
    · simp [hd,hi]
  · by_cases ht:tubeOk s l=true
    · by_cases hi:isThere L s=true
      · simp [hd,ht,hi] at hc
      · by_cases h24:L.length=24
        · simp [hd,ht,hi,h24]
        · simp [hd,ht,hi,h24] at hc
    · simp [hd,ht]
end Go.Proofs.YtgklmafdbgnohaaGreat.Q
end
section
namespace Go.Proofs.YtgklmafdbgnohaaGreat.Q
open Go.RowKit Go.Proofs.YtgklmafdbgnohaaGreat.PA Go.Proofs.YtgklmafdbgnohaaGreatW.PrintWords Go.Proofs.YtgklmafdbgnohaaGreatW.PrintLast Go.Proofs.YtgklmafdbgnohaaGreatW.PrintMore Go.Proofs.YtgklmafdbgnohaaGreat.Ik Go.Proofs.YtgklmafdbgnohaaGreat.Ix
theorem rt39 {l:List S32} {i:Nat} (h:i<l.length):rd_T32 l (i:Int)=l[i]:=by
  unfold rd_T32
  simp [h]
theorem rt52 {l:List S91} {i:Nat} (h:i<l.length):rd_T91 l (i:Int)=l[i]:=by
  unfold rd_T91
  simp [h]
theorem clashes_l (l:List S91) (hl:l.length≤9223372036854775807):∀ i:Nat,i≤l.length→Ev (fun k=>laws_wClashes.l0 k l l (i:Int)) true :=
  drop_ind l (P:=fun i _=>Ev (fun k=>laws_wClashes.l0 k l l (i:Int)) true)
    (Ev.step (fun k=>laws_wClashes.l0.eq_2 ..) (Ev.neg (by omega) (Ev.now true)))
    (fun i hi ih=>by
      refine Ev.step (fun k=>laws_wClashes.l0.eq_2 ..) (Ev.pos (by omega) (Ev.pos (by omega) (Ev.pos (by omega) (Ev.neg (by simp) ?_))));rw [w64 hi (by omega)];exact ih)
theorem clashes (l:List S91) (hl:l.length≤9223372036854775807):Ev (fun k=>laws_wClashes.f k l l) true:=by
  unfold laws_wClashes.f
  exact Ev.pos rfl (clashes_l l hl 0 (by omega))
theorem wtube_l (s s':ByteArray) (l:List S75) (hl:l.length≤1000):∀ i:Nat,i≤l.length→Ev (fun k=>laws_wTube.l0 k (i:Int) s l s' l) true :=
  drop_ind l (P:=fun i _=>Ev (fun k=>laws_wTube.l0 k (i:Int) s l s' l) true)
    (Ev.step (fun k=>laws_wTube.l0.eq_2 ..) (Ev.neg (by omega) (Ev.now true)))
    (fun i hi ih=>by
      refine Ev.step (fun k=>laws_wTube.l0.eq_2 ..) (Ev.pos (by omega) (Ev.pos (by omega) (Ev.pos (by omega) (Ev.neg (by simp) ?_))));rw [w64 hi (by omega)];exact ih)
theorem wtube (s:ByteArray) (l:List S75) (hl:l.length≤1000):Ev (fun k=>laws_wTube.f k s l s l) true:=by
  unfold laws_wTube.f
  refine Ev.pos rfl (Ev.step (fun k=>laws_wTube.j0.eq_2 ..) (Ev.neg (by simp) ?_));exact wtube_l s s l hl 0 (by omega)
theorem wlist_l (L:List S32) (h:Small L):∀ i:Nat,i≤L.length→Ev (fun k=>laws_wList.l0 k L L (i:Int)) true :=
  drop_ind L (P:=fun i _=>Ev (fun k=>laws_wList.l0 k L L (i:Int)) true)
    (Ev.step (fun k=>laws_wList.l0.eq_2 ..) (Ev.neg (by omega) (Ev.now true)))
    (fun i hi ih=>by
      refine Ev.step (fun k=>laws_wList.l0.eq_2 ..) (Ev.pos (by omega) (Ev.pos (by omega) (Ev.pos (by omega) (Ev.bind (wtube _ _ (by rw [rt39 hi];exact h.2 _ (List.getElem_mem hi))) (Ev.pos rfl ?_)))));rw [w64 hi (by have:=h.1;omega)];exact ih)
theorem wlist (L:List S32) (h:Small L):Ev (fun k=>laws_wList.f k L L) true:=by
  unfold laws_wList.f
  exact Ev.pos rfl (wlist_l L h 0 (by omega))
theorem windex_l1 {C:List S84} (hC:C.length≤1000) {i:Nat} (hi:i<C.length) (hS:C[i].f2.length≤1000) (ih:Ev (fun k=>laws_wIndex.l0 k ((i+1:Nat):Int) C C) true):∀ j:Nat,j≤C[i].f2.length→Ev (fun k=>laws_wIndex.l1 k (i:Int) (j:Int) C C) true :=
  drop_ind C[i].f2 (P:=fun j _=>Ev (fun k=>laws_wIndex.l1 k (i:Int) (j:Int) C C) true)
    (by
      refine Ev.step (fun k=>laws_wIndex.l1.eq_2 ..) (Ev.pos (by omega) (Ev.pos (by omega) (Ev.neg (by rw [rd105 hi];omega) ?_)));rw [w64 hi (by omega)];exact ih)
    (fun j hj ih2=>by
      refine Ev.step (fun k=>laws_wIndex.l1.eq_2 ..) (Ev.pos (by omega) (Ev.pos (by omega) (Ev.pos (by rw [rd105 hi];omega) (Ev.pos (by omega) (Ev.pos (by omega) (Ev.pos (by rw [rd105 hi];omega) (Ev.neg (by simp) ?_)))))));rw [w64 hj (by omega)];exact ih2)
theorem windex_l0 {C:List S84} (hC:C.length≤1000) (hS:∀ c∈C,c.f2.length≤1000):∀ i:Nat,i≤C.length→Ev (fun k=>laws_wIndex.l0 k (i:Int) C C) true :=
  drop_ind C (P:=fun i _=>Ev (fun k=>laws_wIndex.l0 k (i:Int) C C) true)
    (Ev.step (fun k=>laws_wIndex.l0.eq_2 ..) (Ev.neg (by omega) (Ev.now true)))
    (fun i hi ih=>Ev.step (fun k=>laws_wIndex.l0.eq_2 ..) (Ev.pos (by omega) (Ev.pos (by omega) (Ev.pos (by omega) (Ev.pos rfl (Ev.pos rfl (Ev.step (fun k=>laws_wIndex.j1.eq_2 ..) (Ev.neg (by simp) (windex_l1 hC hi (hS _ (List.getElem_mem hi)) ih 0 (by omega))))))))))
theorem windex {C:List S84} (hC:C.length≤1000) (hS:∀ c∈C,c.f2.length≤1000):Ev (fun k=>laws_wIndex.f k C C) true:=by
  unfold laws_wIndex.f
  exact Ev.pos rfl (windex_l0 hC hS 0 (by omega))
theorem wtold_l (B:List S91) (n:ByteArray) (hl:B.length≤1000):∀ i:Nat,i≤B.length→Ev (fun k=>laws_wTold.l0 k B n (i:Int)) ((B.drop i).any fun c=>decide (c.f1.toList=n.toList)) :=
  drop_ind B (P:=fun i r=>Ev (fun k=>laws_wTold.l0 k B n (i:Int)) (r.any fun c=>decide (c.f1.toList=n.toList)))
    (Ev.step (fun k=>laws_wTold.l0.eq_2 ..) (Ev.neg (by omega) (Ev.now false)))
    (fun i hi ih=>by
      refine Ev.step (fun k=>laws_wTold.l0.eq_2 ..) (Ev.pos (by omega) (Ev.pos (by omega) ?_));rw [rt52 hi];by_cases h:B[i].f1.toList=n.toList
      · exact Ev.pos h (Ev.eq (Ev.now true) (by rw [List.any_cons,decide_eq_true h];rfl))
      · refine Ev.neg h ?_;rw [w64 hi (by omega)];exact Ev.eq ih (by rw [List.any_cons,decide_eq_false h];rfl))
theorem wtold (B:List S91) (n:ByteArray) (hl:B.length≤1000):Ev (fun k=>laws_wTold.f k B n) (B.any fun c=>decide (c.f1.toList=n.toList)):=by
  unfold laws_wTold.f
  exact wtold_l B n hl 0 (by omega)
theorem cntS_le {m:Nat} : ∀ {C:List S84},(∀ c∈C,c.f2.length≤m)→cntS C≤m * C.length
  | [],_=>by simp [cntS]
  | c :: r,h=>by
    have h1:=cntS_le (C:=r) (fun x hx=>h x (by simp [hx]));have h2:=h c (by simp);rw [cntS,List.length_cons,Nat.mul_succ];omega
theorem small_with {L:List S32} (hL:skyOk L=true) (s:ByteArray) (l:List S75):(withA L s l).length≤24:=by
  unfold withA
  split
  · exact Nat.le_trans (withL_len s l L) (sky_len hL).1
  · simp
end Go.Proofs.YtgklmafdbgnohaaGreat.Q
end
section
namespace Go.Proofs.YtgklmafdbgnohaaGreat.PA
open Go.RowKit Go.Proofs.YtgklmafdbgnohaaGreatW.PrintWords
theorem g_bytes_b {l:List Int} (w:g_bytes l):∀ x∈l,0≤x∧x≤255:=by
 intro x hx;have h:=(Lit.wf_int_iff _ _).1 (w.2 x hx);have h0:IntKind.u8.min=0:=rfl;have h1:IntKind.u8.max=255:=rfl;omega
end Go.Proofs.YtgklmafdbgnohaaGreat.PA
end
section
namespace Go.Proofs.YtgklmafdbgnohaaGreat.Pure
open Go.RowKit Go.Proofs.YtgklmafdbgnohaaGreat.PA Go.Proofs.YtgklmafdbgnohaaGreat.Q Go.Proofs.YtgklmafdbgnohaaGreatW.PrintWords Go.Proofs.YtgklmafdbgnohaaGreatW.PrintLast Go.Proofs.YtgklmafdbgnohaaGreat.Ix Go.Proofs.YtgklmafdbgnohaaGreat.Lt
theorem ix_ok {L:List S32} (h:skyOk L=true):ixOf L=(evT L).foldl putI []:=by
  unfold ixOf
  rw [if_pos h]
theorem ask_ix {L:List S32} (h:skyOk L=true) (s:ByteArray) (l:List S75) (hl:l.length≤100):Ev (fun k=>impl_ProbeAsk.f k (ixOf L) s l) (withA L s l):=by
  have hsm:=ix_small L;have hc:cntS (ixOf L)≤960 * (ixOf L).length:=cntS_le hsm.2;have hcs:cntS (ixOf L)≤1000000000:=by have:=hsm.1;omega
  have hz:∀ c∈ixOf L,∀ x∈c.f2,x.f4.size≤1000000000:=fun c hc x hx=>by
    rw [ix_ok h] at hc;obtain ⟨u,hu,q,y,_,_,h5⟩:=has_ix.1 (show Has _ (c.f0,c.f1) x from ⟨c,hc,rfl,hx⟩);rw [h5];have:=(size_of_tube ((sky_len h).2 u hu)).2
    show u.f0.size≤_
    omega
  obtain ⟨N,hN,hN',hNe⟩:=ask_same (ixOf L) s l hcs hz;have hi:=impl_ask (ixOf L) (by have:=hsm.1;omega) (fun c hc=>by have:=hsm.2 c hc;omega) s l (by omega) hN hN';refine Ev.eq hi ?_;rw [hNe,ix_ok h]
  unfold withA
  by_cases ht:tubeOk s l=true
  · rw [if_pos ht,if_pos ⟨h,ht⟩,ask_with h ht]
  · rw [if_neg ht,if_neg (fun x=>ht x.2)]
def Al (P:Nat→Prop):Prop:=∃ k0,∀ k,k0≤k→P k
theorem Al.of {α:Type} {F:Nat→Option α} {r:α} (h:Ev F r):Al fun k=>F k=some r:=h
theorem Al.and {P Q:Nat→Prop} (h:Al P) (h':Al Q):Al fun k=>P k∧Q k:=by
  obtain ⟨a,ha⟩:=h;obtain ⟨b,hb⟩:=h';exact ⟨max a b,fun k hk=>⟨ha k (by omega),hb k (by omega)⟩⟩
theorem Al.now {P:Prop} (h:P):Al fun _=>P:=⟨0,fun _ _=>h⟩
theorem Al.mono {P Q:Nat→Prop} (h:Al P) (e:∀ k,P k→Q k):Al Q:=h.imp fun _ hk k h=>e k (hk k h)
theorem Al.if {c:Prop} {P:Nat→Prop} (h:c→Al P):Al fun k=>c→P k:=by
  by_cases hc:c
  · exact (h hc).mono fun k hk _=>hk
  · exact ⟨0,fun k _ hk=>absurd hk hc⟩
theorem Al.all {P:Nat→Nat→Prop} : ∀ n:Nat,(∀ i,i<n→Al (P i))→Al fun k=>∀ i,i<n→P i k
  | 0,_=>⟨0,fun _ _ _ h=>by omega⟩
  | n + 1,h=>((Al.all n fun i hi=>h i (by omega)).and (h n (by omega))).mono fun k hk i hi=>by
    rcases Nat.lt_succ_iff_lt_or_eq.1 hi with hi | rfl
    · exact hk.1 i hi
    · exact hk.2
theorem top_e {L:List S32} (hL:skyOk L=true) (e:S34) (h1:e.f1.f1.length≤100):Al fun k=>TopE k L (ixOf L) e (happen L e.f0 e.f1.f0 e.f1.f1).1 (ixOf (happen L e.f0 e.f1.f0 e.f1.f1).1):=by
  have hN:=sky_happen hL e.f0 e.f1.f0 e.f1.f1;have a1:=Al.of (impl_happen L e.f0 e.f1.f0 e.f1.f1);have a2:=Al.of (spec_happen L e.f0 e.f1.f0 e.f1.f1);have hsm:=happen_small L e.f0 e.f1.f0 e.f1.f1;have a5:=Al.of (impl_follow (ixOf L) L e.f0 e.f1.f0 e.f1.f1);have hsame:=happen_same hL (d:=e.f0) (s:=e.f1.f0) (l:=e.f1.f1)
  generalize hH:happen L e.f0 e.f1.f0 e.f1.f1=H at hN a1 a2 hsm a5 hsame ⊢
  obtain ⟨N,c⟩:=H
  simp only at hN a1 a2 hsm a5 hsame ⊢
  have hix:=ix_small N;have a3:=Al.of (wlist N hsm)
  have a4:Al fun k=>(c != 0)=true→laws_wList.f k N L=some true:=Al.if fun hc=>by
    have e1:N=L:=hsame (by simpa using hc);rw [← e1];exact a3
  have a6:=Al.of (impl_sky N);rw [hN] at a6;have a7:=Al.of (impl_ix N);have a8:=Al.of (windex (C:=ixOf N) (by have:=hix.1;omega) (fun x hx=>by have:=hix.2 x hx;omega));have a9:=Al.of (ask_ix hN e.f1.f0 e.f1.f1 h1);have a10:=Al.of (impl_with N e.f1.f0 e.f1.f1);have hw:=small_with hN e.f1.f0 e.f1.f1;have a11:=Al.of (clashes (withA N e.f1.f0 e.f1.f1) (by omega));have a12:=Al.of (spec_with N e.f1.f0 e.f1.f1);have a14:=Al.of (spec_tube e.f1.f0 e.f1.f1)
  have a15:Al fun k=>tubeOk e.f1.f0 e.f1.f1=true→∀ i:Nat,i<N.length→(rd_T32 N (i:Int)).f0.toList≠e.f1.f0.toList→∃ t,laws_wTold.f k (withA N e.f1.f0 e.f1.f1) (rd_T32 N (i:Int)).f0=some t∧laws_wEver.f k e.f1.f0 e.f1.f1 (rd_T32 N (i:Int)).f0 (rd_T32 N (i:Int)).f1=some t :=
    Al.if fun ht=>Al.all N.length fun i hi=>Al.if fun hne=>by
      rw [rt39 hi] at hne ⊢;have hb:=List.getElem_mem hi;have ho:=len_of_tube ht;have ho':=len_of_tube ((sky_len hN).2 _ hb);have e1:=wtold (withA N e.f1.f0 e.f1.f1) N[i].f0 (by omega);have e2:=ever e.f1.f0 N[i].f0 h1 (show N[i].f1.length≤100 by have:=ho'.1;omega) ho.2;rw [ever_met ho.2 ho'.2] at e2;rw [show withA N e.f1.f0 e.f1.f1=withL e.f1.f0 e.f1.f1 N from by unfold withA;rw [if_pos ⟨hN,ht⟩],told_one hN hb hne] at e1
      have e1':Ev (fun k=>laws_wTold.f k (withA N e.f1.f0 e.f1.f1) N[i].f0) (meetSt e.f1.f1 N[i].f1).isSome:=by
        rw [show withA N e.f1.f0 e.f1.f1=withL e.f1.f0 e.f1.f1 N from by unfold withA;rw [if_pos ⟨hN,ht⟩]];exact e1
      exact ((Al.of e1').and (Al.of e2)).mono fun k hk=>⟨_,hk.1,hk.2⟩
  refine ((((((((((((a1.and a2).and a3).and a4).and a5).and a6).and a7).and a8).and a9).and a10).and a11).and (a12.and (a14.and a15)))).mono fun k hk=>?_;obtain ⟨⟨⟨⟨⟨⟨⟨⟨⟨⟨⟨b1,b2⟩,b3⟩,b4⟩,b5⟩,b6⟩,b7⟩,b8⟩,b9⟩,b10⟩,b11⟩,b12,b14,b15⟩:=hk;exact ⟨c,N,ixOf N,withA N e.f1.f0 e.f1.f1,withA N e.f1.f0 e.f1.f1,withA N e.f1.f0 e.f1.f1,tubeOk e.f1.f0 e.f1.f1,by have:=hsm.1;omega,b1,b2,b3,b4,b5,b6,b7,b8,b9,b10,b11,b12,b11,b14,b15⟩
theorem top_ok:∀ (E:List S34) {L:List S32},skyOk L=true→(∀ q∈E,q.f1.f1.length≤100)→Al fun k=>TopOk k E L (ixOf L)
  | [],_,_,_=>Al.now trivial
  | e::r,L,hL,h=>((top_e hL e (h e (by simp))).and (top_ok r (sky_happen hL e.f0 e.f1.f0 e.f1.f1) fun q hq=>h q (by simp [hq]))).mono fun k hk=>⟨_,_,hk.1,hk.2⟩
theorem top (E:List S34) (_:E.length≤100) (h:∀ q∈E,q.f1.f1.length≤100∧q.f1.f0.size≤30):∃ (k:Nat) (I0:List S84),impl_ProbeIndexOf.f k []=some I0∧TopOk k E [] I0:=by
  obtain ⟨k,hk⟩:=(Al.of (impl_ix [])).and (top_ok E (L:=[]) rfl fun q hq=>(h q hq).1);exact ⟨k,_,hk k (Nat.le_refl _)⟩
end Go.Proofs.YtgklmafdbgnohaaGreat.Pure
end
