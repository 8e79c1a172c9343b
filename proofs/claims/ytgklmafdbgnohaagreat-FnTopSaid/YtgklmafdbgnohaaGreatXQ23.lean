/- The index by a map and the index box by box are one, if no two slots' keys are alike. No condition. -/
import Derived.Test.YtgklmafdbgnohaaGreatXQ12
import Derived.Sort.Walk0
import Derived.Test.YtgklmafdbgnohaaGreatXR14
set_option linter.unusedVariables false
set_option linter.unusedSimpArgs false
section
namespace Go.Proofs.YtgklmafdbgnohaaGreat.Q
open Go.RowKit Go.Proofs.YtgklmafdbgnohaaGreat.PA Go.Proofs.YtgklmafdbgnohaaGreatW.PrintWords Go.Proofs.YtgklmafdbgnohaaGreatW.PrintLast Go.Proofs.YtgklmafdbgnohaaGreatW.PrintMore
def cv (x:S163):S75:=⟨x.f0,x.f1,x.f2,x.f3,x.f4,x.f5⟩
def cvT (x:S55):S32:=⟨x.f0,x.f1.map cv⟩
theorem to_boxes_l (l:List S163) (hl:l.length≤5864062014805):∀ i:Nat,i≤l.length→Ev (fun k=>laws_toProbeBoxS.l0 k l ((l.take i).map cv++List.replicate (l.length - i) z75) (i:Int)) (l.map cv) :=
  drop_ind l (P:=fun i _=>Ev (fun k=>laws_toProbeBoxS.l0 k l ((l.take i).map cv++List.replicate (l.length - i) z75) (i:Int)) (l.map cv))
    (Ev.step (f:=fun _=>some (l.map cv)) (fun k=>by simp only [laws_toProbeBoxS.l0];rw [if_neg (by omega)];simp) (Ev.is rfl))
    (fun i hi ih=>by
      refine Ev.step (f:=fun k=>laws_toProbeBoxS.l0 k l ((l.take (i+1)).map cv++List.replicate (l.length - (i+1)) z75) ((i+1:Nat):Int)) (fun k=>?_) ih;have hr:rd_T163 l (i:Int)=l[i]:=by unfold rd_T163;simp [hi]
      simp only [laws_toProbeBoxS.l0];rw [if_pos (by omega),if_pos (by omega),hr];simp only [laws_toProbeBox.f,Option.bind_some];rw [if_pos (by simp;omega),w64 hi (by omega)]
      congr 1
      have e:l.length - i=(l.length - (i+1))+1:=by omega
      rw [e,List.replicate_succ,List.take_succ_eq_append_getElem hi,List.map_append,List.set_append_right _ _ (by simp;omega)];have e2:(i:Int).toNat - ((l.take i).map cv).length=0:=by simp;omega
      rw [e2,List.set_cons_zero,List.append_assoc]
      rfl)
theorem to_boxes (l:List S163) (hl:l.length≤1048576):Ev (fun k=>laws_toProbeBoxS.f k l) (l.map cv):=by
  refine Ev.congr (f:=fun k=>laws_toProbeBoxS.l0 k l ((l.take 0).map cv++List.replicate (l.length - 0) z75) ((0:Nat):Int)) (fun k=>?_) (to_boxes_l l (by omega) 0 (by omega));simp only [laws_toProbeBoxS.f];rw [if_pos (by omega),if_pos (by omega)];simp
theorem to_tube (s:ByteArray) (l:List S163) (hl:l.length≤1048576):Ev (fun k=>laws_toProbeTube.f k s l) (s,l.map cv):=by
  unfold laws_toProbeTube.f
  exact Ev.bind (to_boxes l hl) (Ev.now _)
theorem rd34 {l:List S55} {i:Nat} (h:i<l.length):rd_T55 l (i:Int)=l[i]:=by
  unfold rd_T55
  simp [h]
theorem rd39 {l:List S32} {i:Nat} (h:i<l.length):rd_T32 l (i:Int)=l[i]:=by
  unfold rd_T32
  simp [h]
theorem to_tubes_l (l:List S55) (hl:l.length≤1048576) (hb:∀ x∈l,x.f1.length≤1048576):∀ i:Nat,i≤l.length→Ev (fun k=>laws_toProbeTubeS.l0 k l ((l.take i).map cvT++List.replicate (l.length - i) z32) (i:Int)) (l.map cvT) :=
  drop_ind l (P:=fun i _=>Ev (fun k=>laws_toProbeTubeS.l0 k l ((l.take i).map cvT++List.replicate (l.length - i) z32) (i:Int)) (l.map cvT))
    (Ev.step (f:=fun _=>some (l.map cvT)) (fun k=>by simp only [laws_toProbeTubeS.l0];rw [if_neg (by omega)];simp) (Ev.is rfl))
    (fun i hi ih=>by
      refine Ev.step (f:=fun k=>(laws_toProbeTube.f k l[i].f0 l[i].f1).bind fun p=>laws_toProbeTubeS.l0 k l (((l.take i).map cvT++List.replicate (l.length - i) z32).set i ⟨p.1,p.2⟩) ((i+1:Nat):Int)) (fun k=>?_) (Ev.bind (to_tube _ _ (hb _ (List.getElem_mem hi))) (Ev.congr (fun k=>?_) ih))
      · simp only [laws_toProbeTubeS.l0];rw [if_pos (by omega),if_pos (by omega),rd34 hi]
        congr 1
        funext p
        rw [if_pos (by simp;omega),w64 hi (by omega)];rfl
      · congr 1
        have e:l.length - i=(l.length - (i+1))+1:=by omega
        rw [e,List.replicate_succ,List.take_succ_eq_append_getElem hi,List.map_append,List.set_append_right _ _ (by simp;omega)];have e2:i - ((l.take i).map cvT).length=0:=by simp;omega
        rw [e2,List.set_cons_zero,List.append_assoc]
        rfl)
theorem to_tubes (l:List S55) (hl:l.length≤1048576) (hb:∀ x∈l,x.f1.length≤1048576):Ev (fun k=>laws_toProbeTubeS.f k l) (l.map cvT):=by
  refine Ev.congr (f:=fun k=>laws_toProbeTubeS.l0 k l ((l.take 0).map cvT++List.replicate (l.length - 0) z32) ((0:Nat):Int)) (fun k=>?_) (to_tubes_l l hl hb 0 (by omega));simp only [laws_toProbeTubeS.f];rw [if_pos (by omega),if_pos (by omega)];simp
theorem eq_box (x:S75):laws_eqProbeBox.f x.f0 x.f1 x.f2 x.f3 x.f4 x.f5 x.f0 x.f1 x.f2 x.f3 x.f4 x.f5=some true:=by simp [laws_eqProbeBox.f]
theorem eq_boxes_l (l:List S75) (hl:l.length≤9223372036854775807):∀ i:Nat,i≤l.length→Ev (fun k=>laws_eqProbeBoxS.l0 k l l (i:Int)) true :=
  drop_ind l (P:=fun i _=>Ev (fun k=>laws_eqProbeBoxS.l0 k l l (i:Int)) true)
    (Ev.step (f:=fun _=>some true) (fun k=>by simp only [laws_eqProbeBoxS.l0];rw [if_neg (by omega)]) (Ev.is rfl))
    (fun i hi ih=>by
      refine Ev.step (f:=fun k=>laws_eqProbeBoxS.l0 k l l ((i+1:Nat):Int)) (fun k=>?_) ih;simp only [laws_eqProbeBoxS.l0];rw [if_pos (by omega),if_pos (by omega),if_pos (by omega),rd26 hi,eq_box,w64 hi hl]
      simp)
theorem eq_boxes (l:List S75) (hl:l.length≤9223372036854775807):Ev (fun k=>laws_eqProbeBoxS.f k l l) true:=by
  unfold laws_eqProbeBoxS.f
  exact Ev.pos rfl (eq_boxes_l l hl 0 (by omega))
theorem eq_tube (s:ByteArray) (l:List S75) (hl:l.length≤9223372036854775807):Ev (fun k=>laws_eqProbeTube.f k s l s l) true:=by
  unfold laws_eqProbeTube.f
  exact Ev.pos rfl (Ev.bind (eq_boxes l hl) (Ev.pos rfl (Ev.now true)))
theorem eq_tubes_l (l:List S32) (hl:l.length≤9223372036854775807) (hb:∀ x∈l,x.f1.length≤9223372036854775807):∀ i:Nat,i≤l.length→Ev (fun k=>laws_eqProbeTubeS.l0 k l l (i:Int)) true :=
  drop_ind l (P:=fun i _=>Ev (fun k=>laws_eqProbeTubeS.l0 k l l (i:Int)) true)
    (Ev.step (f:=fun _=>some true) (fun k=>by simp only [laws_eqProbeTubeS.l0];rw [if_neg (by omega)]) (Ev.is rfl))
    (fun i hi ih=>by
      refine Ev.step (f:=fun k=>(laws_eqProbeTube.f k l[i].f0 l[i].f1 l[i].f0 l[i].f1).bind fun t=>if t=true then laws_eqProbeTubeS.l0 k l l ((i+1:Nat):Int) else some false) (fun k=>?_) (Ev.bind (eq_tube _ _ (hb _ (List.getElem_mem hi))) (Ev.pos rfl ih));simp only [laws_eqProbeTubeS.l0];rw [if_pos (by omega),if_pos (by omega),if_pos (by omega),rd39 hi,w64 hi hl])
theorem eq_tubes (l:List S32) (hl:l.length≤9223372036854775807) (hb:∀ x∈l,x.f1.length≤9223372036854775807):Ev (fun k=>laws_eqProbeTubeS.f k l l) true:=by
  unfold laws_eqProbeTubeS.f
  exact Ev.pos rfl (eq_tubes_l l hl hb 0 (by omega))
theorem sz_boxes {l:List S163} {n:Int} (h0:0≤n) (h1:n≤1048576) (hl:l.length≤maxLen):(laws_szProbeBoxS.f l n=some (-1)∧n<l.length)∨(laws_szProbeBoxS.f l n=some (n - l.length)∧0≤n - l.length):=by
  unfold maxLen at hl
  unfold laws_szProbeBoxS.f
  rw [wsub h0 h1 (by omega) (by omega)];by_cases h:n - (l.length:Int)<0
  · exact .inl ⟨by rw [if_pos h],by omega⟩
  · exact .inr ⟨by rw [if_neg h],by omega⟩
theorem sz_tube {s:ByteArray} {l:List S163} {n:Int} (h0:0≤n) (h1:n≤1048576) (hs:s.size≤maxLen) (hl:l.length≤maxLen):laws_szProbeTube.f s l n=some (-1)∨(laws_szProbeTube.f s l n=some (n - s.size - l.length)∧0≤n - s.size - l.length):=by
  unfold maxLen at hs
  unfold laws_szProbeTube.f
  rw [wsub h0 h1 (by omega) (by omega)];by_cases h:n - (s.size:Int)<0
  · exact .inl (by rw [if_pos h])
  · rw [if_neg h]
    rcases sz_boxes (l:=l) (n:=n - (s.size:Int)) (by omega) (by omega) hl with ⟨h2,_⟩ | ⟨h2,h3⟩
    · rw [h2];exact .inl rfl
    · rw [h2];refine .inr ⟨?_,h3⟩;simp only [Option.bind_some];rw [if_neg (by omega)]
theorem sz_tubes_l (l:List S55) (hl:l.length≤9223372036854775807) (hg:∀ x∈l,g_tube x):∀ i:Nat,i≤l.length→∀ n:Int,0≤n→n≤1048576→∃ m:Int,Ev (fun k=>laws_szProbeTubeS.l0 k l n (i:Int)) m∧(m = -1∨(0≤m∧m≤n∧∀ x∈l.drop i,x.f1.length≤1048576∧x.f0.size≤1048576)) :=
  drop_ind l (P:=fun i r=>∀ n:Int,0≤n→n≤1048576→∃ m:Int,Ev (fun k=>laws_szProbeTubeS.l0 k l n (i:Int)) m∧(m = -1∨(0≤m∧m≤n∧∀ x∈r,x.f1.length≤1048576∧x.f0.size≤1048576)))
    (fun n h0 h1=>⟨n,Ev.step (f:=fun _=>some n) (fun k=>by simp only [laws_szProbeTubeS.l0];rw [if_neg (by omega)]) (Ev.is rfl), .inr ⟨h0,Int.le_refl _,by simp⟩⟩)
    (fun i hi ih n h0 h1=>by
      have hx:=hg _ (List.getElem_mem hi)
      rcases sz_tube (s:=l[i].f0) (l:=l[i].f1) h0 h1 hx.1 hx.2.1 with h2 | ⟨h2,h3⟩
      · refine ⟨-1,Ev.step (f:=fun _=>some (-1)) (fun k=>?_) (Ev.is rfl), .inl rfl⟩;simp only [laws_szProbeTubeS.l0];rw [if_pos (by omega),if_pos (by omega),rd34 hi,h2];rfl
      · obtain ⟨m,hm,hr⟩:=ih _ h3 (by omega);refine ⟨m,Ev.step (f:=fun k=>laws_szProbeTubeS.l0 k l (n - l[i].f0.size - l[i].f1.length) ((i+1:Nat):Int)) (fun k=>?_) hm,hr.imp id (fun ⟨a,b,c⟩=>⟨a,by omega,fun x hx=>?_⟩)⟩
        · simp only [laws_szProbeTubeS.l0];rw [if_pos (by omega),if_pos (by omega),rd34 hi,h2,w64 hi hl];simp only [Option.bind_some];rw [if_neg (by omega)]
        · rcases List.mem_cons.1 hx with rfl | hx
          · constructor<;>omega
          · exact c x hx)
def lt (s t:ByteArray):Bool:=Op.bytesLess s.toList t.toList
def skyFrom:Option ByteArray→List S32→Bool
  | _,[]=>true
  | p,t::r=>tubeOk t.f0 t.f1 && (match p with | none=>true | some n=>lt n t.f0) && skyFrom (some t.f0) r
def skyOk (l:List S32):Bool:=decide (l.length≤24) && skyFrom none l
def ahead (l:List S32) (i:Nat):Option ByteArray:=if i=0 then none else some (rd_T32 l ((i:Int) - 1)).f0
theorem ahead_succ {l:List S32} {i:Nat} (h:i<l.length):ahead l (i+1)=some l[i].f0:=by
  unfold ahead
  rw [if_neg (by omega),show ((i+1:Nat):Int) - 1=(i:Int) by omega,rd39 h]
theorem wpred {i n:Nat} (h:i<n) (hn:n≤9223372036854775807):wrap64 ((i:Int) - 1)=(i:Int) - 1:=by
  unfold wrap64
  omega
theorem spec_sky_l (l:List S32) (hl:l.length≤24):∀ i:Nat,i≤l.length→Ev (fun k=>spec_ProbeSkyOk.l0 k l (i:Int)) (skyFrom (ahead l i) (l.drop i)) :=
  drop_ind l (P:=fun i r=>Ev (fun k=>spec_ProbeSkyOk.l0 k l (i:Int)) (skyFrom (ahead l i) r))
    (Ev.step (f:=fun _=>some true) (fun k=>by simp only [spec_ProbeSkyOk.l0];rw [if_neg (by omega)]) (Ev.is rfl))
    (fun i hi ih=>by
      refine Ev.step (f:=fun k=>(spec_ProbeTubeOk.f k l[i].f0 l[i].f1).bind fun t=>if t=true then (if (i:Int) > 0 then (if lt (rd_T32 l ((i:Int) - 1)).f0 l[i].f0=true then spec_ProbeSkyOk.l0 k l ((i+1:Nat):Int) else some false) else spec_ProbeSkyOk.l0 k l ((i+1:Nat):Int)) else some false) (fun k=>?_) ?_
      · simp only [spec_ProbeSkyOk.l0];rw [if_pos (by omega),if_pos (by omega),rd39 hi,w64 hi (by omega),wpred hi (by omega)]
        congr 1
        funext t
        by_cases h0:(i:Int) > 0
        · rw [if_pos h0,if_pos h0,if_pos (show 0≤(i:Int) - 1 by omega),if_pos (show (i:Int) - 1<(l.length:Int) by omega)];rfl
        · rw [if_neg h0,if_neg h0]
      · refine Ev.bind (spec_tube l[i].f0 l[i].f1) ?_;rw [ahead_succ hi] at ih;by_cases ht:tubeOk l[i].f0 l[i].f1=true
        · refine Ev.pos ht ?_;by_cases h0:(i:Int) > 0
          · refine Ev.pos h0 ?_;have ha:ahead l i=some (rd_T32 l ((i:Int) - 1)).f0:=by unfold ahead;rw [if_neg (by omega)]
            by_cases hn:lt (rd_T32 l ((i:Int) - 1)).f0 l[i].f0=true
            · exact Ev.pos hn (Ev.eq ih (by rw [ha];simp only [skyFrom,ht,hn,Bool.true_and]))
            · exact Ev.neg hn (Ev.is (by rw [ha];simp only [skyFrom,ht,hn,Bool.true_and,Bool.false_and]))
          · refine Ev.neg h0 (Ev.eq ih ?_);have ha:ahead l i=none:=by unfold ahead;rw [if_pos (by omega)]
            rw [ha];simp only [skyFrom,ht,Bool.true_and]
        · exact Ev.neg ht (Ev.is (by simp only [skyFrom,ht,Bool.false_and])))
theorem spec_sky (l:List S32):Ev (fun k=>spec_ProbeSkyOk.f k l) (skyOk l):=by
  unfold spec_ProbeSkyOk.f
  by_cases h:l.length≤24
  · exact Ev.neg (by omega) (Ev.eq (spec_sky_l l h 0 (by omega)) (by simp [skyOk,h,ahead]))
  · exact Ev.pos (by omega) (Ev.is (by simp [skyOk,h]))
theorem impl_sky_l (l:List S32) (hl:l.length≤24):∀ i:Nat,i≤l.length→Ev (fun k=>impl_ProbeSkyOk.l0 k l l (l.length:Int) (i:Int)) (skyFrom (ahead l i) (l.drop i)) :=
  drop_ind l (P:=fun i r=>Ev (fun k=>impl_ProbeSkyOk.l0 k l l (l.length:Int) (i:Int)) (skyFrom (ahead l i) r))
    (Ev.step (f:=fun _=>some true) (fun k=>by simp only [impl_ProbeSkyOk.l0];rw [if_neg (by omega)]) (Ev.is rfl))
    (fun i hi ih=>by
      refine Ev.step (f:=fun k=>(impl_ProbeTubeOk.f k l[i].f0 l[i].f1).bind fun t=>if t=true then (if (i:Int) > 0 then (if lt (rd_T32 l ((i:Int) - 1)).f0 l[i].f0=true then impl_ProbeSkyOk.l0 k l l (l.length:Int) ((i+1:Nat):Int) else some false) else impl_ProbeSkyOk.l0 k l l (l.length:Int) ((i+1:Nat):Int)) else some false) (fun k=>?_) ?_
      · simp only [impl_ProbeSkyOk.l0];rw [if_pos (by omega),if_pos (by omega),if_pos (by omega),rd39 hi,w64 hi (by omega),wpred hi (by omega)]
        congr 1
        funext t
        by_cases h0:(i:Int) > 0
        · rw [if_pos h0,if_pos h0,if_pos (show 0≤(i:Int) - 1 by omega),if_pos (show (i:Int) - 1<(l.length:Int) by omega)];rfl
        · rw [if_neg h0,if_neg h0]
      · refine Ev.bind (impl_tube l[i].f0 l[i].f1) ?_;rw [ahead_succ hi] at ih;by_cases ht:tubeOk l[i].f0 l[i].f1=true
        · refine Ev.pos ht ?_;by_cases h0:(i:Int) > 0
          · refine Ev.pos h0 ?_;have ha:ahead l i=some (rd_T32 l ((i:Int) - 1)).f0:=by unfold ahead;rw [if_neg (by omega)]
            by_cases hn:lt (rd_T32 l ((i:Int) - 1)).f0 l[i].f0=true
            · exact Ev.pos hn (Ev.eq ih (by rw [ha];simp only [skyFrom,ht,hn,Bool.true_and]))
            · exact Ev.neg hn (Ev.is (by rw [ha];simp only [skyFrom,ht,hn,Bool.true_and,Bool.false_and]))
          · refine Ev.neg h0 (Ev.eq ih ?_);have ha:ahead l i=none:=by unfold ahead;rw [if_pos (by omega)]
            rw [ha];simp only [skyFrom,ht,Bool.true_and]
        · exact Ev.neg ht (Ev.is (by simp only [skyFrom,ht,Bool.false_and])))
theorem impl_sky (l:List S32):Ev (fun k=>impl_ProbeSkyOk.f k l) (skyOk l):=by
  unfold impl_ProbeSkyOk.f
  by_cases h:l.length≤24
  · exact Ev.neg (by omega) (Ev.eq (impl_sky_l l h 0 (by omega)) (by simp [skyOk,h,ahead]))
  · exact Ev.pos (by omega) (Ev.is (by simp [skyOk,h]))
def cover (b a:S75):Bool:=decide (a.f0=b.f0∧a.f1=b.f1∧b.f2≤a.f2∧a.f3≤b.f3∧b.f4≤a.f4∧a.f5≤b.f5)
def smaller (s:ByteArray) (l:List S75) (s':ByteArray) (l':List S75):Bool:=tubeOk s l && tubeOk s' l' && l.all fun a=>l'.any fun b=>cover b a
def cutB (fr:Int) (b:S75):S75:=⟨b.f0,b.f1,b.f2,b.f3,mx b.f4 fr,b.f5⟩
def cutL (fr:Int) (l:List S75):List S75:=(l.filter fun b=>decide (fr≤b.f5)).map (cutB fr)
def cut (s:ByteArray) (l:List S75) (fr:Int):ByteArray × List S75:=if tubeOk s l=true then (s,cutL fr l) else (⟨#[]⟩,[])
def markL:List S75→Int→List S75
  | [],_=>[]
  | _::r,k=>⟨k,k+1,k+1+1,k+1+1+1,k+1+1+1+1,k+1+1+1+1+1⟩::markL r (k+6)
theorem w1 {k:Int} (h0:0≤k) (h:k≤1000000000000000):wrap64 (k+1)=k+1:=by
  unfold wrap64
  omega
theorem rd_set {l:List S75} {i:Nat} (h:i<l.length) (v:S75):rd_T75 (l.set i v) (i:Int)=v:=by
  unfold rd_T75
  simp [h]
theorem mark_l:∀ (r:List S75) (pre:List S75) (K:Int),0≤K→K+6 * r.length≤100000000000000→pre.length+r.length≤100000000 →
    Ev (fun k=>laws_markProbeBoxS.l0 k (pre++r) K (pre.length:Int)) (K+6 * r.length,pre++markL r K)
  | [],pre,K,_,_,_=>by
    refine Ev.step (f:=fun _=>some (K,pre++[])) (fun k=>?_) (Ev.is (by simp [markL]));simp only [laws_markProbeBoxS.l0];rw [if_neg (by simp)]
  | x :: r,pre,K,h0,h1,h2=>by
    simp only [List.length_cons] at h1 h2;have ih:=mark_l r (pre++[⟨K,K+1,K+1+1,K+1+1+1,K+1+1+1+1,K+1+1+1+1+1⟩]) (K+6) (by omega) (by omega) (by simp;omega);refine Ev.step (f:=fun k=>laws_markProbeBoxS.l0 k ((pre++[⟨K,K+1,K+1+1,K+1+1+1,K+1+1+1+1,K+1+1+1+1+1⟩])++r) (K+6) (((pre++[(⟨K,K+1,K+1+1,K+1+1+1,K+1+1+1+1,K+1+1+1+1+1⟩:S75)]).length:Nat):Int)) (fun k=>?_) (Ev.eq ih ?_)
    · have hp:pre.length<(pre++x::r).length:=by simp
      simp only [laws_markProbeBoxS.l0];rw [if_pos (by simp;omega),if_pos (by omega)];simp only [Option.bind_some,Int.toNat_natCast];rw [w1 (k:=K) (by omega) (by omega),w1 (k:=K+1) (by omega) (by omega),w1 (k:=K+1+1) (by omega) (by omega),w1 (k:=K+1+1+1) (by omega) (by omega),w1 (k:=K+1+1+1+1) (by omega) (by omega),w1 (k:=K+1+1+1+1+1) (by omega) (by omega)];simp only [rd_set hp,List.set_set]
      congr 1
      · rw [List.set_append_right _ _ (Nat.le_refl _),Nat.sub_self,List.set_cons_zero,List.append_assoc];rfl
      · omega
      · rw [w64 (n:=100000000) (by omega) (by omega)];simp
    · simp only [List.length_cons,markL,List.append_assoc,List.cons_append,List.nil_append,Prod.mk.injEq];exact ⟨by omega,trivial⟩
theorem mark_boxes (l:List S75) (hl:l.length≤10000000) {K:Int} (h0:0≤K) (h1:K+6 * l.length≤100000000000000):Ev (fun k=>laws_markProbeBoxS.f k l K) (K+6 * l.length,markL l K):=by
  unfold laws_markProbeBoxS.f
  exact mark_l l [] K h0 h1 (by simp;omega)
theorem mark_tube (s:ByteArray) (l:List S75) (hl:l.length≤10000000) {K:Int} (h0:0≤K) (h1:K+6 * l.length≤100000000000000):Ev (fun k=>laws_markProbeTube.f k s l K) (K+6 * l.length,markL l K):=by
  unfold laws_markProbeTube.f
  exact Ev.bind (mark_boxes l hl h0 h1) (Ev.now _)
def mkC (c:Cl):S91:=⟨c.1,c.2.1,c.2.2.1,c.2.2.2.1,c.2.2.2.2.1⟩
def withL (s:ByteArray) (l:List S75):List S32→List S91
  | []=>[]
  | t::r=>if (meetSt l t.f1).isSome=true∧t.f0.toList≠s.toList then mkC (enc s t.f0 (meetSt l t.f1))::withL s l r else withL s l r
theorem withL_len (s:ByteArray) (l:List S75):∀ r:List S32,(withL s l r).length≤r.length
  | []=>Nat.le_refl _
  | t :: r=>by
    have:=withL_len s l r
    unfold withL
    split
    · simp only [List.length_cons];omega
    · simp only [List.length_cons];omega
theorem sky_mem:∀ {l:List S32} {p:Option ByteArray},skyFrom p l=true→∀ t∈l,tubeOk t.f0 t.f1=true
  | [],_,_,t,h=>by simp at h
  | x :: r,p,h,t,ht=>by
    simp only [skyFrom,Bool.and_eq_true] at h
    rcases List.mem_cons.1 ht with rfl | ht
    · exact h.1.1
    · exact sky_mem h.2 t ht
theorem sky_len {l:List S32} (h:skyOk l=true):l.length≤24∧∀ t∈l,tubeOk t.f0 t.f1=true:=by
  simp only [skyOk,Bool.and_eq_true,decide_eq_true_eq] at h;exact ⟨h.1,sky_mem h.2⟩
theorem spec_with_l {s:ByteArray} {l:List S75} (ht:tubeOk s l=true) {L:List S32} (hL:skyOk L=true):∀ i:Nat,i≤L.length→∀ acc:List S91,acc.length≤i→Ev (fun k=>spec_l4With.l0 k L acc (i:Int) s l) (acc++withL s l (L.drop i)) :=
  drop_ind L (P:=fun i r=>∀ acc:List S91,acc.length≤i→Ev (fun k=>spec_l4With.l0 k L acc (i:Int) s l) (acc++withL s l r))
    (fun acc _=>Ev.step (f:=fun _=>some acc) (fun k=>by simp only [spec_l4With.l0];rw [if_neg (by omega)]) (Ev.is (by simp [withL])))
    (fun i hi ih acc ha=>by
      have hk:=sky_len hL;have hx:=hk.2 _ (List.getElem_mem hi);refine Ev.step (f:=fun k=>(spec_l3Meet.f k s l L[i].f0 L[i].f1).bind fun c=>if c.2.2.2.2.2=true then (if L[i].f0.toList=s.toList then spec_l4With.l0 k L acc ((i+1:Nat):Int) s l else spec_l4With.l0 k L (acc++[mkC c]) ((i+1:Nat):Int) s l) else spec_l4With.l0 k L acc ((i+1:Nat):Int) s l) (fun k=>?_) ?_
      · simp only [spec_l4With.l0];rw [if_pos (by omega),if_pos (by omega),rd39 hi,w64 hi (by omega)]
        congr 1
        funext c
        rw [if_pos (show acc.length<2513169434916 by omega)];rfl
      · refine Ev.bind (spec_l3meet s L[i].f0 (len_of_tube ht).1 (len_of_tube hx).1 (len_of_tube ht).2 (len_of_tube hx).2) ?_;by_cases hm:(meetSt l L[i].f1).isSome=true
        · refine Ev.pos hm ?_;by_cases hn:L[i].f0.toList=s.toList
          · exact Ev.pos hn (Ev.eq (ih acc (by omega)) (by rw [withL,if_neg (fun x=>x.2 hn)]))
          · exact Ev.neg hn (Ev.eq (ih (acc++[mkC (enc s L[i].f0 (meetSt l L[i].f1))]) (by simp;omega)) (by rw [withL,if_pos ⟨hm,hn⟩,List.append_assoc];rfl))
        · exact Ev.neg hm (Ev.eq (ih acc (by omega)) (by rw [withL,if_neg (fun x=>hm x.1)])))
theorem spec_l4with {s:ByteArray} {l:List S75} (ht:tubeOk s l=true) {L:List S32} (hL:skyOk L=true):Ev (fun k=>spec_l4With.f k L s l) (withL s l L):=by
  unfold spec_l4With.f
  exact spec_with_l ht hL 0 (by omega) [] (by simp)
theorem impl_with_l {s:ByteArray} {l:List S75} (ht:tubeOk s l=true) {L:List S32} (hL:skyOk L=true):∀ i:Nat,i≤L.length→∀ acc:List S91,acc.length≤i→Ev (fun k=>impl_ProbeWith.l0 k acc L (L.length:Int) (i:Int) s l) (acc++withL s l (L.drop i)) :=
  drop_ind L (P:=fun i r=>∀ acc:List S91,acc.length≤i→Ev (fun k=>impl_ProbeWith.l0 k acc L (L.length:Int) (i:Int) s l) (acc++withL s l r))
    (fun acc _=>Ev.step (f:=fun _=>some acc) (fun k=>by simp only [impl_ProbeWith.l0];rw [if_neg (by omega)]) (Ev.is (by simp [withL])))
    (fun i hi ih acc ha=>by
      have hk:=sky_len hL;have hx:=hk.2 _ (List.getElem_mem hi);refine Ev.step (f:=fun k=>(impl_ProbeMeet.f k s l L[i].f0 L[i].f1).bind fun c=>if c.2.2.2.2.2=true then (if L[i].f0.toList=s.toList then impl_ProbeWith.l0 k acc L (L.length:Int) ((i+1:Nat):Int) s l else impl_ProbeWith.l0 k (acc++[mkC c]) L (L.length:Int) ((i+1:Nat):Int) s l) else impl_ProbeWith.l0 k acc L (L.length:Int) ((i+1:Nat):Int) s l) (fun k=>?_) ?_
      · simp only [impl_ProbeWith.l0];rw [if_pos (by omega),if_pos (by omega),if_pos (by omega),rd39 hi,w64 hi (by omega)]
        congr 1
        funext c
        rw [if_pos (show acc.length<2513169434916 by omega)];rfl
      · refine Ev.bind (Ev.eq (impl_meet s l L[i].f0 L[i].f1) (by rw [meet,if_pos ⟨ht,hx⟩])) ?_;by_cases hm:(meetSt l L[i].f1).isSome=true
        · refine Ev.pos hm ?_;by_cases hn:L[i].f0.toList=s.toList
          · exact Ev.pos hn (Ev.eq (ih acc (by omega)) (by rw [withL,if_neg (fun x=>x.2 hn)]))
          · exact Ev.neg hn (Ev.eq (ih (acc++[mkC (enc s L[i].f0 (meetSt l L[i].f1))]) (by simp;omega)) (by rw [withL,if_pos ⟨hm,hn⟩,List.append_assoc];rfl))
        · exact Ev.neg hm (Ev.eq (ih acc (by omega)) (by rw [withL,if_neg (fun x=>hm x.1)])))
def withA (L:List S32) (s:ByteArray) (l:List S75):List S91:=if skyOk L=true∧tubeOk s l=true then withL s l L else []
theorem impl_with (L:List S32) (s:ByteArray) (l:List S75):Ev (fun k=>impl_ProbeWith.f k L s l) (withA L s l):=by
  unfold impl_ProbeWith.f
  refine Ev.bind (impl_sky L) ?_;by_cases hL:skyOk L=true
  · refine Ev.pos hL (Ev.bind (impl_tube s l) ?_);by_cases ht:tubeOk s l=true
    · refine Ev.step (f:=fun k=>impl_ProbeWith.l0 k [] L (L.length:Int) ((0:Nat):Int) s l) (fun k=>?_) (Ev.eq (impl_with_l ht hL 0 (by omega) [] (by simp)) (by rw [withA,if_pos ⟨hL,ht⟩];rfl));simp only [impl_ProbeWith.j0];rw [if_neg (by simp [ht])];rfl
    · refine Ev.step (f:=fun _=>some []) (fun k=>?_) (Ev.is (by rw [withA,if_neg (fun x=>ht x.2)]));simp only [impl_ProbeWith.j0];rw [if_pos (by simpa using ht)]
  · refine Ev.neg hL (Ev.step (f:=fun _=>some []) (fun k=>?_) (Ev.is (by rw [withA,if_neg (fun x=>hL x.1)])));simp only [impl_ProbeWith.j0];rfl
theorem size_one (c:Int):(strOfNums [c]).size=1:=rfl
theorem mark_text_l:∀ (n x:Nat) (s:ByteArray),x≤n→n≤1000000000000000→s.size+n≤1000000000000000000→∃ r,Ev (fun k=>laws_markText.l0 k (x:Int) s) r:=by
  intro n
  induction n with
  | zero =>
    intro x s hx _ hs;refine ⟨_,Ev.step (f:=fun _=>some ((⟨#[109]⟩:ByteArray)++s)) (fun k=>?_) (Ev.is rfl)⟩;simp only [laws_markText.l0];rw [if_neg (by omega),if_pos (by omega)]
  | succ n ih =>
    intro x s hx hn hs;by_cases h:x=0
    · subst h;refine ⟨_,Ev.step (f:=fun _=>some ((⟨#[109]⟩:ByteArray)++s)) (fun k=>?_) (Ev.is rfl)⟩;simp only [laws_markText.l0];rw [if_neg (by omega),if_pos (by omega)]
    · have hz:(strOfNums [(wrap64 (48+(Int.tmod (x:Int) 10))) % 256]).size=1:=size_one _;obtain ⟨r,hr⟩:=ih (x / 10) (strOfNums [(wrap64 (48+(Int.tmod (x:Int) 10))) % 256]++s) (by omega) (by omega) (by rw [ByteArray.size_append,hz];omega);refine ⟨r,Ev.step (f:=fun k=>laws_markText.l0 k ((x / 10:Nat):Int) (strOfNums [(wrap64 (48+(Int.tmod (x:Int) 10))) % 256]++s)) (fun k=>?_) hr⟩;simp only [laws_markText.l0];rw [if_pos (by omega)];simp only [Option.bind_some];rw [if_pos (by rw [hz];omega)]
      have hd:wrap64 (Int.tdiv (x:Int) 10)=((x / 10:Nat):Int):=by
        rw [Int.tdiv_eq_ediv_of_nonneg (by omega)]
        unfold wrap64
        omega
      rw [hd]
theorem mark_text (K:Int) (h:K≤1000000000000000):∃ r,Ev (fun k=>laws_markText.f k K) r:=by
  unfold laws_markText.f
  by_cases h0:K≤0
  · exact ⟨_,Ev.pos h0 (Ev.is rfl)⟩
  · obtain ⟨r,hr⟩:=mark_text_l K.toNat K.toNat ⟨#[]⟩ (Nat.le_refl _) (by omega) (by show 0+K.toNat≤_;omega);rw [Int.toNat_of_nonneg (by omega)] at hr;exact ⟨r,Ev.neg h0 hr⟩
noncomputable def mt (K:Int):ByteArray:=if h:K≤1000000000000000 then Classical.choose (mark_text K h) else ⟨#[]⟩
theorem mt_ev {K:Int} (h:K≤1000000000000000):Ev (fun k=>laws_markText.f k K) (mt K):=by
  unfold mt
  rw [dif_pos h];exact Classical.choose_spec (mark_text K h)

noncomputable def markT:List S32→Int→List S32
  | [],_=>[]
  | t::r,K=>⟨mt K,markL t.f1 (K+1)⟩::markT r (K+1+6 * t.f1.length)
def cntT:List S32→Int
  | []=>0
  | t::r=>1+6 * t.f1.length+cntT r
theorem cnt_le:∀ {l:List S32},(∀ x∈l,x.f1.length≤1048576)→0≤cntT l∧cntT l≤6291457 * (l.length:Int)
  | [],_=>by simp [cntT]
  | t :: r,h=>by
    have h1:=h t (by simp);have h2:=cnt_le (l:=r) (fun x hx=>h x (by simp [hx]));simp only [cntT,List.length_cons];omega
theorem rd_set39 {l:List S32} {i:Nat} (h:i<l.length) (v:S32):rd_T32 (l.set i v) (i:Int)=v:=by
  unfold rd_T32
  simp [h]
theorem marks_l:∀ (r:List S32) (pre:List S32) (K:Int),0≤K→K+cntT r≤100000000000000→pre.length+r.length≤100000000→(∀ x∈r,x.f1.length≤1048576) →
    Ev (fun k=>laws_markProbeTubeS.l0 k (pre++r) K (pre.length:Int)) (K+cntT r,pre++markT r K)
  | [],pre,K,_,_,_,_=>by
    refine Ev.step (f:=fun _=>some (K,pre++[])) (fun k=>?_) (Ev.is (by simp [markT,cntT]));simp only [laws_markProbeTubeS.l0];rw [if_neg (by simp)]
  | x :: r,pre,K,h0,h1,h2,h3=>by
    have hx:=h3 x (by simp);have hc:=cnt_le (l:=r) (fun x hx=>h3 x (by simp [hx]));simp only [List.length_cons,cntT] at h1 h2;have ih:=marks_l r (pre++[⟨mt K,markL x.f1 (K+1)⟩]) (K+1+6 * x.f1.length) (by omega) (by omega) (by simp;omega) (fun y hy=>h3 y (by simp [hy]));have hp:pre.length<(pre++x::r).length:=by simp
    have hrd:rd_T32 (pre++x::r) (pre.length:Int)=x:=by unfold rd_T32;simp
    refine Ev.step (f:=fun k=>(laws_markText.f k K).bind fun t=>(laws_markProbeBoxS.f k x.f1 (K+1)).bind fun b=>laws_markProbeTubeS.l0 k (pre++⟨t,b.2⟩::r) b.1 ((pre.length+1:Nat):Int)) (fun k=>?_) (Ev.bind (mt_ev (by omega)) (Ev.bind (mark_boxes x.f1 (by omega) (K:=K+1) (by omega) (by omega)) (Ev.eq (Ev.congr (fun k=>?_) ih) ?_)))
    · simp only [laws_markProbeTubeS.l0];rw [if_pos (by simp;omega)]
      congr 1
      funext t
      rw [if_pos (by omega)];simp only [Option.bind_some,Int.toNat_natCast,hrd,rd_set39 hp,List.set_set];rw [w1 h0 (by omega),w64 (n:=100000000) (by omega) (by omega)]
      congr 1
      funext b
      rw [List.set_append_right _ _ (Nat.le_refl _),Nat.sub_self,List.set_cons_zero]
    · simp
    · simp only [cntT,markT,List.append_assoc,List.cons_append,List.nil_append,Prod.mk.injEq,and_true];omega
def rowL (t:S32):List S32→List S91
  | []=>[]
  | u::r=>if (meetSt t.f1 u.f1).isSome=true then mkC (enc t.f0 u.f0 (meetSt t.f1 u.f1))::rowL t r else rowL t r
def allL:List S32→List S91
  | []=>[]
  | t::r=>rowL t r++allL r
theorem spec_with (L:List S32) (s:ByteArray) (l:List S75):Ev (fun k=>spec_ProbeWith.f k L s l) (withA L s l):=by
  unfold spec_ProbeWith.f
  refine Ev.bind (spec_sky L) ?_;by_cases hL:skyOk L=true
  · refine Ev.pos hL (Ev.bind (spec_tube s l) ?_);by_cases ht:tubeOk s l=true
    · exact Ev.pos ht (Ev.bind (spec_l4with ht hL) (Ev.is (by rw [withA,if_pos ⟨hL,ht⟩])))
    · exact Ev.neg ht (Ev.is (by rw [withA,if_neg (fun x=>ht x.2)]))
  · exact Ev.neg hL (Ev.is (by rw [withA,if_neg (fun x=>hL x.1)]))
def wab (a:Int):Int:=if a<0 then wrap64 (-a) else a
def nearT (x y:S75) (t:Int):Bool:=decide (x.f4≤t∧t≤x.f5∧y.f4≤t∧t≤y.f5∧wab (wrap64 (x.f0 - y.f0))<2∧wab (wrap64 (x.f1 - y.f1))<2∧x.f2≤x.f3∧x.f2≤y.f3∧y.f2≤x.f3∧y.f2≤y.f3)
theorem abs_eq (a:Int):laws_wAbs.f a=some (wab a):=by
 unfold laws_wAbs.f wab
 split<;>rfl
theorem wnear_l {x y:S75} (h0:0≤x.f2) (h1:x.f3≤6) (d:Nat):∀ z:Int,0≤z→(x.f3+1 - z).toNat=d→Ev (fun k=>laws_wNear.l0 k z x.f0 x.f1 x.f2 x.f3 x.f4 x.f5 y.f0 y.f1 y.f2 y.f3 y.f4 y.f5) (decide (z≤x.f3∧z≤y.f3∧y.f2≤x.f3∧y.f2≤y.f3)):=by
 induction d with
 | zero =>
  intro z hz hd;exact Ev.step (fun k=>laws_wNear.l0.eq_2 ..) (Ev.neg (by omega) (Ev.eq (Ev.now false) (by rw [eq_comm,decide_eq_false_iff_not];omega)))
 | succ d ih =>
  intro z hz hd;have hw:wrap64 (z+1)=z+1:=wr (by omega) (by omega);have hi:=ih (z+1) (by omega) (by omega);rw [← hw] at hi;refine Ev.step (fun k=>laws_wNear.l0.eq_2 ..) (Ev.pos (by omega) ?_);by_cases h2:z ≥ y.f2
  ·by_cases h3:z≤y.f3
   ·exact Ev.pos h2 (Ev.pos h3 (Ev.eq (Ev.now true) (by rw [eq_comm,decide_eq_true_eq];omega)))
   ·exact Ev.pos h2 (Ev.neg h3 (Ev.eq hi (by rw [decide_eq_decide];omega)))
  ·exact Ev.neg h2 (Ev.eq hi (by rw [decide_eq_decide];omega))
theorem wnear_no {a b c d e f a' b' c' d' e' f':Int} {v:Bool} (h:v=false):Ev (fun k=>laws_wNear.j0 k true a b c d e f a' b' c' d' e' f') v :=
 h▸Ev.step (fun k=>laws_wNear.j0.eq_2 ..) (Ev.pos rfl (Ev.now false))
theorem bOk_bounds {x:S75} (h:bOk x=true):0≤x.f0∧x.f0≤15∧0≤x.f1∧x.f1≤15∧0≤x.f2∧x.f2≤x.f3∧x.f3≤6∧0≤x.f4∧x.f4≤x.f5∧x.f5≤10000:=ok_bounds h
theorem wnear {x:S75} (hx:bOk x=true) (y:S75) (t:Int):Ev (fun k=>laws_wNear.f k x.f0 x.f1 x.f2 x.f3 x.f4 x.f5 y.f0 y.f1 y.f2 y.f3 y.f4 y.f5 t) (nearT x y t):=by
 have hb:=bOk_bounds hx
 unfold laws_wNear.f
 by_cases h1:t<x.f4
 ·exact Ev.pos h1 (wnear_no (by rw [nearT,decide_eq_false_iff_not];omega))
 by_cases h2:t > x.f5
 ·exact Ev.neg h1 (Ev.pos h2 (wnear_no (by rw [nearT,decide_eq_false_iff_not];omega)))
 by_cases h3:t<y.f4
 ·exact Ev.neg h1 (Ev.neg h2 (Ev.pos h3 (wnear_no (by rw [nearT,decide_eq_false_iff_not];omega))))
 by_cases h4:t > y.f5
 ·exact Ev.neg h1 (Ev.neg h2 (Ev.neg h3 (Ev.pos h4 (wnear_no (by rw [nearT,decide_eq_false_iff_not];omega)))))
 refine Ev.neg h1 (Ev.neg h2 (Ev.neg h3 (Ev.neg h4 (Ev.bind (Ev.is (abs_eq _)) ?_))));by_cases h5:wab (wrap64 (x.f0 - y.f0)) ≥ 2
 ·exact Ev.pos h5 (wnear_no (by rw [nearT,decide_eq_false_iff_not];omega))
 refine Ev.neg h5 (Ev.bind (Ev.is (abs_eq _)) ?_);by_cases h6:wab (wrap64 (x.f1 - y.f1)) ≥ 2
 ·rw [decide_eq_true h6];exact wnear_no (by rw [nearT,decide_eq_false_iff_not];omega)
 ·rw [decide_eq_false h6];exact Ev.step (fun k=>laws_wNear.j0.eq_2 ..) (Ev.neg (by simp) (Ev.eq (wnear_l (by omega) (by omega) _ x.f2 (by omega) rfl) (by rw [nearT,decide_eq_decide];omega)))
def nearL (l l':List S75) (t:Int):Bool:=l.any fun x=>l'.any fun y=>nearT x y t
theorem near_row {s s':ByteArray} {l l':List S75} {t:Int} (hl:l.length≤100) (hl':l'.length≤100) (ho:l.all bOk=true) {i:Nat} (hi:i<l.length) {R:Bool} (hy:Ev (fun k=>laws_wNearAt.l0 k t ((i+1:Nat):Int) s l s' l') R) :
  ∀ j:Nat,j≤l'.length→Ev (fun k=>laws_wNearAt.l1 k t (i:Int) (j:Int) s l s' l') (((l'.drop j).any fun y=>nearT l[i] y t) || R) :=
 drop_ind l' (P:=fun j r=>Ev (fun k=>laws_wNearAt.l1 k t (i:Int) (j:Int) s l s' l') ((r.any fun y=>nearT l[i] y t) || R))
  (Ev.step (fun k=>laws_wNearAt.l1.eq_2 ..) (Ev.neg (by omega) (by rw [w64 hi (by omega)];exact hy)))
  (fun j hj ih=>by
   refine Ev.step (fun k=>laws_wNearAt.l1.eq_2 ..) (Ev.pos (by omega) (Ev.pos (by omega) (Ev.pos (by omega) (Ev.pos (by omega) ?_))));rw [rd26 hi,rd26 hj,w64 hj (by omega)];refine Ev.bind (wnear (bOk_of ho hi) _ _) ?_;by_cases h:nearT l[i] l'[j] t=true
   ·exact Ev.pos h (Ev.eq (Ev.now true) (by rw [List.any_cons,h];rfl))
   ·exact Ev.neg h (Ev.eq ih (by rw [List.any_cons,Bool.eq_false_iff.2 h,Bool.false_or])))
theorem near_l {s s':ByteArray} {l l':List S75} {t:Int} (hl:l.length≤100) (hl':l'.length≤100) (ho:l.all bOk=true):∀ i:Nat,i≤l.length→Ev (fun k=>laws_wNearAt.l0 k t (i:Int) s l s' l') ((l.drop i).any fun x=>l'.any fun y=>nearT x y t) :=
 drop_ind l (P:=fun i r=>Ev (fun k=>laws_wNearAt.l0 k t (i:Int) s l s' l') (r.any fun x=>l'.any fun y=>nearT x y t))
  (Ev.step (fun k=>laws_wNearAt.l0.eq_2 ..) (Ev.neg (by omega) (Ev.now false)))
  (fun i hi ih=>Ev.step (fun k=>laws_wNearAt.l0.eq_2 ..) (Ev.pos (by omega) (Ev.eq (near_row hl hl' ho hi ih 0 (by omega)) rfl)))
theorem nearAt (s s':ByteArray) {l l':List S75} (t:Int) (hl:l.length≤100) (hl':l'.length≤100) (ho:l.all bOk=true):Ev (fun k=>laws_wNearAt.f k s l s' l' t) (nearL l l' t):=by
 unfold laws_wNearAt.f
 exact near_l hl hl' ho 0 (by omega)
theorem ever_l1 {s s':ByteArray} {l l':List S75} (hl:l.length≤100) (hl':l'.length≤100) (ho:l.all bOk=true):∀ j:Nat,j≤l'.length→Ev (fun k=>laws_wEver.l1 k (j:Int) s l s' l') ((l'.drop j).any fun y=>nearL l l' y.f4) :=
 drop_ind l' (P:=fun j r=>Ev (fun k=>laws_wEver.l1 k (j:Int) s l s' l') (r.any fun y=>nearL l l' y.f4))
  (Ev.step (fun k=>laws_wEver.l1.eq_2 ..) (Ev.neg (by omega) (Ev.now false)))
  (fun j hj ih=>by
   refine Ev.step (fun k=>laws_wEver.l1.eq_2 ..) (Ev.pos (by omega) (Ev.pos (by omega) ?_));rw [rd26 hj,w64 hj (by omega)];refine Ev.bind (nearAt _ _ _ hl hl' ho) ?_;by_cases h:nearL l l' l'[j].f4=true
   ·exact Ev.pos h (Ev.eq (Ev.now true) (by rw [List.any_cons,h];rfl))
   ·exact Ev.neg h (Ev.eq ih (by rw [List.any_cons,Bool.eq_false_iff.2 h,Bool.false_or])))
theorem ever_l0 {s s':ByteArray} {l l':List S75} (hl:l.length≤100) (hl':l'.length≤100) (ho:l.all bOk=true):∀ i:Nat,i≤l.length→Ev (fun k=>laws_wEver.l0 k (i:Int) s l s' l') (((l.drop i).any fun x=>nearL l l' x.f4) || l'.any fun y=>nearL l l' y.f4) :=
 drop_ind l (P:=fun i r=>Ev (fun k=>laws_wEver.l0 k (i:Int) s l s' l') ((r.any fun x=>nearL l l' x.f4) || l'.any fun y=>nearL l l' y.f4))
  (Ev.step (fun k=>laws_wEver.l0.eq_2 ..) (Ev.neg (by omega) (Ev.eq (ever_l1 hl hl' ho 0 (by omega)) rfl)))
  (fun i hi ih=>by
   refine Ev.step (fun k=>laws_wEver.l0.eq_2 ..) (Ev.pos (by omega) (Ev.pos (by omega) ?_));rw [rd26 hi,w64 hi (by omega)];refine Ev.bind (nearAt _ _ _ hl hl' ho) ?_;by_cases h:nearL l l' l[i].f4=true
   ·exact Ev.pos h (Ev.eq (Ev.now true) (by rw [List.any_cons,h];rfl))
   ·exact Ev.neg h (Ev.eq ih (by rw [List.any_cons,Bool.eq_false_iff.2 h,Bool.false_or])))
theorem ever (s s':ByteArray) {l l':List S75} (hl:l.length≤100) (hl':l'.length≤100) (ho:l.all bOk=true):Ev (fun k=>laws_wEver.f k s l s' l') ((l.any fun x=>nearL l l' x.f4) || l'.any fun y=>nearL l l' y.f4):=by
 unfold laws_wEver.f
 exact ever_l0 hl hl' ho 0 (by omega)

def Best (l l':List S75) (seen:S75→S75→Prop):St→Prop
 | none=>∀ x y,seen x y→¬ (bNear x y).2=true
 | some t=>(∃ i j:Nat,t.2.1=i∧t.2.2=j∧∃ (hi:i<l.length) (hj:j<l'.length),bNear l[i] l'[j]=(t.1,true))∧∀ x y,seen x y→(bNear x y).2=true→t.1≤(bNear x y).1
theorem Best.one {l l':List S75} {seen:S75→S75→Prop} {st:St} (h:Best l l' seen st) {i j:Nat} (hi:i<l.length) (hj:j<l'.length):Best l l' (fun x y=>seen x y∨(x=l[i]∧y=l'[j])) (better st l[i] l'[j] i j):=by
 by_cases hn:(bNear l[i] l'[j]).2=true
 ·cases st with
  | none =>
   simp only [better,hn,if_true];refine ⟨⟨i,j,rfl,rfl,hi,hj,Prod.ext rfl hn⟩,?_⟩
   rintro x y (hs | ⟨rfl,rfl⟩) hxy
   ·exact absurd hxy (h x y hs)
   ·exact Int.le_refl _
  | some t =>
   simp only [better,hn,if_true];by_cases ht:(bNear l[i] l'[j]).1<t.1
   ·rw [if_pos ht];refine ⟨⟨i,j,rfl,rfl,hi,hj,Prod.ext rfl hn⟩,?_⟩
    rintro x y (hs | ⟨rfl,rfl⟩) hxy
    ·have:=h.2 x y hs hxy
     show (bNear l[i] l'[j]).1≤_
     omega
    ·exact Int.le_refl _
   ·rw [if_neg ht];refine ⟨h.1,?_⟩
    rintro x y (hs | ⟨rfl,rfl⟩) hxy
    ·exact h.2 x y hs hxy
    ·omega
 ·rw [show better st l[i] l'[j] i j=st by simp only [better,hn];rfl]
  cases st with
  | none =>
   rintro x y (hs | ⟨rfl,rfl⟩)
   ·exact h x y hs
   ·exact hn
  | some t =>
   refine ⟨h.1,?_⟩
   rintro x y (hs | ⟨rfl,rfl⟩) hxy
   ·exact h.2 x y hs hxy
   ·exact absurd hxy hn
theorem Best.mono {l l':List S75} {seen seen':S75→S75→Prop} {st:St} (h:Best l l' seen st) (hs:∀ x y,seen' x y→seen x y):Best l l' seen' st:=by
 cases st with
 | none=>exact fun x y hh=>h x y (hs x y hh)
 | some t=>exact ⟨h.1,fun x y hh=>h.2 x y (hs x y hh)⟩
theorem Best.row {l l':List S75} {i:Nat} (hi:i<l.length):∀ j:Nat,j≤l'.length→∀ (seen:S75→S75→Prop) (st:St),Best l l' seen st→Best l l' (fun x y=>seen x y∨(x=l[i]∧y∈l'.drop j)) (meetRow l[i] i (l'.drop j) j st) :=
 drop_ind l' (P:=fun j r=>∀ (seen:S75→S75→Prop) (st:St),Best l l' seen st→Best l l' (fun x y=>seen x y∨(x=l[i]∧y∈r)) (meetRow l[i] i r j st))
  (fun seen st h=>h.mono (by simp))
  (fun j hj ih seen st h=>(ih _ _ (h.one hi hj)).mono (by
   rintro x y (h | ⟨rfl,h⟩)
   ·exact .inl (.inl h)
   ·rcases List.mem_cons.1 h with rfl | h
    ·exact .inl (.inr ⟨rfl,rfl⟩)
    ·exact .inr ⟨rfl,h⟩))
theorem Best.all {l l':List S75} : ∀ i:Nat,i≤l.length→∀ (seen:S75→S75→Prop) (st:St),Best l l' seen st→Best l l' (fun x y=>seen x y∨(x∈l.drop i∧y∈l')) (meetAll l' (l.drop i) i st) :=
 drop_ind l (P:=fun i r=>∀ (seen:S75→S75→Prop) (st:St),Best l l' seen st→Best l l' (fun x y=>seen x y∨(x∈r∧y∈l')) (meetAll l' r i st))
  (fun seen st h=>h.mono (by simp))
  (fun i hi ih seen st h=>(ih _ _ (Best.row hi 0 (by omega) seen st h)).mono (by
   rintro x y (h | ⟨h,h'⟩)
   ·exact .inl (.inl h)
   ·rcases List.mem_cons.1 h with rfl | h
    ·exact .inl (.inr ⟨rfl,h'⟩)
    ·exact .inr ⟨h,h'⟩))
theorem best (l l':List S75):Best l l' (fun x y=>x∈l∧y∈l') (meetSt l l') :=
 (Best.all (l:=l) (l':=l') 0 (by omega) (fun _ _=>False) none (fun _ _ h=>h.elim)).mono (fun _ _ h => .inr h)
theorem bNear_comm (x y:S75):bNear x y=bNear y x:=by
 unfold bNear near mx
 grind
theorem wab_wr {a b:Int} (h0:0≤a) (h1:a≤15) (h2:0≤b) (h3:b≤15):wab (wrap64 (a - b))<2↔a - b≤1∧b - a≤1:=by
 rw [wdiff h0 h1 h2 h3]
 unfold wab
 split
 ·rw [wr (by omega) (by omega)];omega
 ·omega
theorem nearT_iff {x y:S75} (hx:bOk x=true) (hy:bOk y=true) (t:Int):nearT x y t=true↔(bNear x y).2=true∧(bNear x y).1≤t∧t≤x.f5∧t≤y.f5:=by
 have h:=bOk_bounds hx;have h':=bOk_bounds hy;have e0:=wab_wr h.1 h.2.1 h'.1 h'.2.1;have e1:=wab_wr h.2.2.1 h.2.2.2.1 h'.2.2.1 h'.2.2.2.1;simp only [nearT,decide_eq_true_eq,e0,e1,bNear,near,mx]
 grind
theorem nearT_at {x y:S75} (hx:bOk x=true) (hy:bOk y=true) (hn:(bNear x y).2=true):nearT x y (bNear x y).1=true:=by
 rw [nearT_iff hx hy];have h:=bOk_bounds hx;have h':=bOk_bounds hy
 revert hn
 simp only [bNear,near,mx]
 grind
theorem bl_irrefl:∀ x:List UInt8,Op.bytesLess x x=false
  | []=>rfl
  | a::x=>by simp [Op.bytesLess,bl_irrefl x]
theorem bl_trans:∀ x y z:List UInt8,Op.bytesLess x y=true→Op.bytesLess y z=true→Op.bytesLess x z=true
  | _,_,[],_,h=>by simp [Op.bytesLess] at h
  | _,[],_::_,h,_=>by simp [Op.bytesLess] at h
  | [],_::_,_::_,_,_=>by simp [Op.bytesLess]
  | a :: x,b::y,c::z,h,h'=>by
    simp only [Op.bytesLess,Bool.or_eq_true,decide_eq_true_eq,Bool.and_eq_true,beq_iff_eq] at h h' ⊢
    rcases h with h | ⟨rfl,h⟩
    · rcases h' with h' | ⟨rfl,h'⟩
      · exact .inl (UInt8.lt_trans h h')
      · exact .inl h
    · rcases h' with h' | ⟨rfl,h'⟩
      · exact .inl h'
      · exact .inr ⟨rfl,bl_trans x y z h h'⟩
theorem lt_ne {s t:ByteArray} (h:lt s t=true):s.toList≠t.toList:=by
  intro e
  unfold lt at h
  rw [e,bl_irrefl] at h;cases h
theorem sky_pw:∀ {l:List S32} {p:Option ByteArray},skyFrom p l=true→(∀ n,p=some n→∀ t∈l,lt n t.f0=true)∧l.Pairwise (fun a b=>lt a.f0 b.f0=true)
  | [],_,_=>⟨fun _ _ t ht=>by simp at ht,List.Pairwise.nil⟩
  | t :: r,p,h=>by
    simp only [skyFrom,Bool.and_eq_true] at h;obtain ⟨⟨_,h1⟩,h2⟩:=h;have ih:=sky_pw h2;refine ⟨fun n hn u hu=>?_,List.Pairwise.cons (fun u hu=>ih.1 t.f0 rfl u hu) ih.2⟩;subst hn
    rcases List.mem_cons.1 hu with rfl | hu
    · exact h1
    · exact bl_trans _ _ _ h1 (ih.1 t.f0 rfl u hu)
theorem sky_of_pw:∀ {l:List S32} {p:Option ByteArray},(∀ n,p=some n→∀ t∈l,lt n t.f0=true)→l.Pairwise (fun a b=>lt a.f0 b.f0=true)→(∀ t∈l,tubeOk t.f0 t.f1=true)→skyFrom p l=true
  | [],_,_,_,_=>rfl
  | t :: r,p,h,hp,ho=>by
    obtain ⟨h1,h2⟩:=List.pairwise_cons.1 hp;simp only [skyFrom,Bool.and_eq_true];refine ⟨⟨ho t (by simp),?_⟩,sky_of_pw (p:=some t.f0) (fun n hn u hu=>?_) h2 (fun u hu=>ho u (by simp [hu]))⟩
    · cases p with
      | none=>rfl
      | some n=>exact h n rfl t (by simp)
    · injection hn with hn
      subst hn;exact h1 u hu
theorem skyPw {L:List S32} (h:skyOk L=true):L.Pairwise (fun a b=>lt a.f0 b.f0=true):=by
  simp only [skyOk,Bool.and_eq_true] at h;exact (sky_pw h.2).2
theorem sky_sub {L M:List S32} (h:skyOk L=true) (hs:M.Sublist L):skyOk M=true:=by
  have h1:=sky_len h;have h2:=hs.length_le;simp only [skyOk,Bool.and_eq_true,decide_eq_true_eq];exact ⟨by omega,sky_of_pw (fun n hn=>nomatch hn) ((skyPw h).sublist hs) (fun t ht=>h1.2 t (hs.subset ht))⟩
theorem asc_of {L:List S32} (h:skyOk L=true) (s:ByteArray):Asc L s:=by
  have hp:=List.pairwise_iff_getElem.1 (skyPw h);intro b hb a ha h0;rw [rd39 (show a<L.length by omega)] at h0;rw [rd39 hb]
  cases e:Op.bytesLess L[b].f0.toList s.toList with
  | false=>rfl
  | true =>
    by_cases hab:a=b
    · subst hab;rw [e] at h0;cases h0
    · have:=bl_trans _ _ _ (hp a b (by omega) hb (by omega)) e;rw [h0] at this;cases this
theorem copy_tube {s:ByteArray} {l:List S75} (hl:l.length≤1000):impl_copyTube.f s l=some (s,l):=by
  unfold impl_copyTube.f
  simp only [Option.bind_some];rw [if_pos (by simp;omega)];simp
theorem copy_tubes_l {L:List S32} (h:skyOk L=true):∀ i:Nat,i≤L.length→∀ acc:List S32,acc.length≤i→Ev (fun k=>impl_copyTubes.l0 k acc L (L.length:Int) (i:Int)) (acc++L.drop i) :=
  drop_ind L (P:=fun i r=>∀ acc:List S32,acc.length≤i→Ev (fun k=>impl_copyTubes.l0 k acc L (L.length:Int) (i:Int)) (acc++r))
    (fun acc _=>Ev.step (f:=fun _=>some acc) (fun k=>by simp only [impl_copyTubes.l0];rw [if_neg (by omega)]) (Ev.is (by simp)))
    (fun i hi ih acc ha=>by
      have hk:=sky_len h;have hx:=(len_of_tube (hk.2 _ (List.getElem_mem hi))).1;refine Ev.step (f:=fun k=>impl_copyTubes.l0 k (acc++[L[i]]) L (L.length:Int) ((i+1:Nat):Int)) (fun k=>?_) (Ev.eq (ih (acc++[L[i]]) (by simp;omega)) (by simp));simp only [impl_copyTubes.l0];rw [if_pos (by omega),if_pos (by omega),if_pos (by omega),rd39 hi,copy_tube (by omega),w64 hi (by omega)];simp only [Option.bind_some];rw [if_pos (by omega)])
theorem copy_tubes {L:List S32} (h:skyOk L=true):Ev (fun k=>impl_copyTubes.f k L) L:=by
  unfold impl_copyTubes.f
  exact copy_tubes_l h 0 (by omega) [] (by simp)
def met (a b:S32):Bool:=(meetSt a.f1 b.f1).isSome
def hit (s:ByteArray) (c:S91):Bool:=decide (c.f0.toList=s.toList) || decide (c.f1.toList=s.toList)
theorem meet_none' {l l':List S75} : meetSt l l'=none↔∀ x∈l,∀ y∈l',¬ (bNear x y).2=true:=by
  have h:=best l l'
  cases e:meetSt l l' with
  | none =>
    rw [e] at h;exact ⟨fun _ x hx y hy=>h x y ⟨hx,hy⟩,fun _=>rfl⟩
  | some t =>
    rw [e] at h;obtain ⟨⟨i,j,_,_,hi,hj,hn⟩,_⟩:=h;exact ⟨fun h'=>(nomatch h'),fun h'=>absurd (by rw [hn]) (h' l[i] (List.getElem_mem hi) l'[j] (List.getElem_mem hj))⟩
theorem met_comm (a b:S32):met a b=met b a:=by
  have h:meetSt a.f1 b.f1=none↔meetSt b.f1 a.f1=none:=by
    rw [meet_none',meet_none']
    constructor
    · intro h x hx y hy hn;exact h y hy x hx (by rw [bNear_comm];exact hn)
    · intro h x hx y hy hn;exact h y hy x hx (by rw [bNear_comm];exact hn)
  unfold met
  cases e:meetSt a.f1 b.f1 with
  | none=>rw [h.1 e]
  | some t =>
    cases e':meetSt b.f1 a.f1 with
    | none=>rw [h.2 e'] at e;cases e
    | some _=>rfl
theorem mkC_names {s s':ByteArray} {st:St} (h:st.isSome=true):(mkC (enc s s' st)).f0=s∧(mkC (enc s s' st)).f1=s':=by
  cases st with
  | none=>cases h
  | some t=>exact ⟨rfl,rfl⟩
theorem rowL_yes {t u:S32} (r:List S32) (h:met t u=true):rowL t (u::r)=mkC (enc t.f0 u.f0 (meetSt t.f1 u.f1))::rowL t r:=by
  unfold met at h
  rw [rowL,if_pos h]
theorem rowL_no {t u:S32} (r:List S32) (h:¬ met t u=true):rowL t (u::r)=rowL t r:=by
  unfold met at h
  rw [rowL,if_neg h]
theorem rowL_append (t:S32) (b:List S32):∀ a:List S32,rowL t (a++b)=rowL t a++rowL t b
  | []=>rfl
  | u :: r=>by
    by_cases h:met t u=true
    · rw [List.cons_append,rowL_yes _ h,rowL_yes _ h,rowL_append t b r,List.cons_append]
    · rw [List.cons_append,rowL_no _ h,rowL_no _ h,rowL_append t b r]
theorem row_hit0 {t:S32} {s:ByteArray} (ht:t.f0.toList≠s.toList):∀ {r:List S32},(∀ u∈r,u.f0.toList≠s.toList)→(rowL t r).countP (hit s)=0
  | [],_=>rfl
  | u :: r,h=>by
    have ih:=row_hit0 ht (r:=r) (fun v hv=>h v (by simp [hv]));by_cases hm:met t u=true
    · have hn:=mkC_names (s:=t.f0) (s':=u.f0) hm;rw [rowL_yes _ hm,List.countP_cons_of_neg,ih];simp only [hit,hn.1,hn.2,Bool.or_eq_true,decide_eq_true_eq];exact fun hh=>hh.elim ht (h u (by simp))
    · rw [rowL_no _ hm,ih]
theorem row_hit (x:S32):∀ r:List S32,(rowL x r).countP (hit x.f0)=r.countP (met x)∧(rowL x r).length=r.countP (met x)
  | []=>⟨rfl,rfl⟩
  | u :: r=>by
    have ih:=row_hit x r;by_cases hm:met x u=true
    · have hn:=mkC_names (s:=x.f0) (s':=u.f0) hm;rw [rowL_yes _ hm,List.countP_cons_of_pos,List.countP_cons_of_pos hm,List.length_cons,ih.1,ih.2]
      · exact ⟨rfl,rfl⟩
      · simp only [hit,hn.1,decide_true,Bool.true_or]
    · rw [rowL_no _ hm,List.countP_cons_of_neg hm,ih.1,ih.2];exact ⟨rfl,rfl⟩
theorem all_hit0 {s:ByteArray} : ∀ {l:List S32},(∀ u∈l,u.f0.toList≠s.toList)→(allL l).countP (hit s)=0
  | [],_=>rfl
  | t :: r,h=>by
    rw [allL,List.countP_append,row_hit0 (h t (by simp)) (fun u hu=>h u (by simp [hu])),all_hit0 (fun u hu=>h u (by simp [hu]))]
theorem all_split {x:S32} {post:List S32} (hq:∀ u∈post,u.f0.toList≠x.f0.toList):∀ {pre:List S32},(∀ u∈pre,u.f0.toList≠x.f0.toList) →
    (allL (pre++x::post)).countP (hit x.f0)=pre.countP (met x)+post.countP (met x)∧(allL (pre++x::post)).length=(allL (pre++post)).length+(pre.countP (met x)+post.countP (met x))
  | [],_=>by
    have h:=row_hit x post;rw [List.nil_append,List.nil_append,allL,List.countP_append,List.length_append,h.1,h.2,all_hit0 hq,List.countP_nil];omega
  | t :: pre,hp=>by
    have ht:=hp t (by simp);have hp':∀ u∈pre,u.f0.toList≠x.f0.toList:=fun u hu=>hp u (by simp [hu]);have ih:=all_split hq hp';rw [List.cons_append,List.cons_append,allL,allL,List.countP_append,List.length_append,List.length_append,ih.1,ih.2,rowL_append,rowL_append,List.countP_append,List.length_append,List.length_append,row_hit0 ht hp'];have hx:met x t=met t x:=met_comm x t;by_cases hm:met t x=true
    · have hn:=mkC_names (s:=t.f0) (s':=x.f0) hm;rw [rowL_yes _ hm,List.countP_cons_of_pos,row_hit0 ht hq,List.countP_cons_of_pos (by rw [hx];exact hm),List.length_cons]
      · omega
      · simp only [hit,hn.2,decide_true,Bool.or_true]
    · rw [rowL_no _ hm,row_hit0 ht hq,List.countP_cons_of_neg (by rw [hx];exact hm)];omega
theorem with_append (s:ByteArray) (l:List S75) (b:List S32):∀ a:List S32,withL s l (a++b)=withL s l a++withL s l b
  | []=>rfl
  | t :: r=>by
    rw [List.cons_append];by_cases h:(meetSt l t.f1).isSome=true∧t.f0.toList≠s.toList
    · rw [withL,withL,if_pos h,if_pos h,with_append s l b r,List.cons_append]
    · rw [withL,withL,if_neg h,if_neg h,with_append s l b r]
theorem with_len' {x:S32} : ∀ {r:List S32},(∀ u∈r,u.f0.toList≠x.f0.toList)→(withL x.f0 x.f1 r).length=r.countP (met x)
  | [],_=>rfl
  | t :: r,h=>by
    have ih:=with_len' (x:=x) (r:=r) (fun u hu=>h u (by simp [hu]));by_cases hm:met x t=true
    · rw [withL,if_pos ⟨hm,h t (by simp)⟩,List.countP_cons_of_pos hm,List.length_cons,ih]
    · rw [withL,if_neg (fun hh=>hm hh.1),List.countP_cons_of_neg hm,ih]
theorem taken {L:List S32} (h:skyOk L=true) {i:Nat} (hi:i<L.length) :
    (withL L[i].f0 L[i].f1 L).length=(allL L).countP (hit L[i].f0)∧(allL L).length=(allL (L.eraseIdx i)).length+(allL L).countP (hit L[i].f0):=by
  have hs:L=L.take i++L[i]::L.drop (i+1):=by rw [← List.drop_eq_getElem_cons hi,List.take_append_drop]
  have hp:=skyPw h;rw [hs,List.pairwise_append] at hp;obtain ⟨_,h2,h3⟩:=hp;have hq:=fun u hu=>(lt_ne ((List.pairwise_cons.1 h2).1 u hu)).symm;have hp':=fun u hu=>lt_ne (h3 u hu L[i] (.head _));have hm:=all_split (x:=L[i]) hq hp';rw [← hs] at hm
  have hw:(withL L[i].f0 L[i].f1 (L.take i++L[i]::L.drop (i+1))).length=(L.take i).countP (met L[i])+(L.drop (i+1)).countP (met L[i]):=by
    rw [with_append,List.length_append,with_len' hp',withL,if_neg (fun hh=>hh.2 rfl),with_len' hq]
  rw [← hs] at hw;rw [List.eraseIdx_eq_take_drop_succ];omega
def place (L:List S32) (s:ByteArray):Nat:=L.findIdx fun t => !(Op.bytesLess t.f0.toList s.toList)
def isThere (L:List S32) (s:ByteArray):Bool:=decide (place L s<L.length) && ((rd_T32 L (place L s:Int)).f0.toList==s.toList)
def happen (L:List S32) (d:Bool) (s:ByteArray) (l:List S75):List S32 × Int :=
  if skyOk L=true then
    if d=true then (if isThere L s=true then (L.eraseIdx (place L s),0) else (L,3))
    else if tubeOk s l=true then
      (if isThere L s=true then (L.set (place L s) ⟨s,l⟩,0) else if L.length=24 then (L,4) else (L.take (place L s)++⟨s,l⟩::L.drop (place L s),0))
    else (L,2)
  else ([],1)
def Small (L:List S32):Prop:=L.length≤100∧∀ x∈L,x.f1.length≤1000
theorem small_sky {L:List S32} (h:skyOk L=true):Small L:=by
  have hk:=sky_len h;exact ⟨by omega,fun x hx=>by have:=(len_of_tube (hk.2 x hx)).1;omega⟩
theorem happen_small (L:List S32) (d:Bool) (s:ByteArray) (l:List S75):Small (happen L d s l).1:=by
  unfold happen
  by_cases h:skyOk L=true
  · have hk := sky_len h;have hs:=small_sky h;rw [if_pos h]
    split
    · split
      · exact ⟨by have:=List.length_eraseIdx_le L (place L s);simp only;omega,fun x hx=>hs.2 x (List.mem_of_mem_eraseIdx hx)⟩
      · exact hs
    · split
      · rename_i ht
        have hl:=(len_of_tube ht).1
        split
        · refine ⟨by simp only [List.length_set];omega,fun x hx=>?_⟩
          rcases List.mem_or_eq_of_mem_set hx with hx | rfl
          · exact hs.2 x hx
          · simp only;omega
        · split
          · exact hs
          · refine ⟨by simp only [List.length_append,List.length_cons,List.length_take,List.length_drop];omega,fun x hx=>?_⟩
            rcases List.mem_append.1 hx with hx | hx
            · exact hs.2 x (List.mem_of_mem_take hx)
            · rcases List.mem_cons.1 hx with rfl | hx
              · simp only;omega
              · exact hs.2 x (List.mem_of_mem_drop hx)
      · exact hs
  · rw [if_neg h];exact ⟨by simp,fun x hx=>by simp at hx⟩
theorem place_le (L:List S32) (s:ByteArray):place L s≤L.length:=List.findIdx_le_length
theorem search_place {L:List S32} (h:skyOk L=true) (s:ByteArray):impl_search.f (L.length:Int) L s=some (place L s:Int):=by
  have hl:=(sky_len h).1
  unfold impl_search.f
  rw [if_pos ⟨rfl,by omega,asc_of h _⟩];rfl
theorem impl_happen (L:List S32) (d:Bool) (s:ByteArray) (l:List S75):Ev (fun k=>impl_ProbeHappen.f k L d s l) (happen L d s l):=by
  unfold impl_ProbeHappen.f
  refine Ev.bind (impl_sky L) ?_;by_cases h:skyOk L=true
  · have hl := (sky_len h).1;have hp:=place_le L s;refine Ev.pos h (Ev.bind (copy_tubes h) ?_);simp only [search_place h s,Option.bind_some]
    have core : Ev (fun k=>impl_ProbeHappen.j0 k L (place L s:Int) (isThere L s) L d s l) (happen L d s l):=by
      cases d with
      | true =>
        refine Ev.step (fun k=>impl_ProbeHappen.j0.eq_2 ..) (Ev.pos rfl ?_);refine Ev.step (fun k=>impl_ProbeHappen.j1.eq_2 ..) (Ev.neg (by simp) (Ev.pos rfl ?_));refine Ev.step (fun k=>impl_ProbeHappen.j2.eq_2 ..) ?_;by_cases ht:isThere L s=true
        · have hpl:place L s<L.length:=by
            simp only [isThere,Bool.and_eq_true,decide_eq_true_eq] at ht;exact ht.1
          have hw:=w64 hpl (show L.length≤9223372036854775807 by omega);refine Ev.neg (by simp [ht]) (Ev.pos rfl (Ev.pos (by omega) (Ev.pos (by omega) (Ev.pos (by omega) (Ev.pos (by omega) (Ev.is ?_))))));simp [happen,h,ht]
        · exact Ev.pos (by simpa using ht) (Ev.is (by simp [happen,h,ht]))
      | false =>
        refine Ev.step (fun k=>impl_ProbeHappen.j0.eq_2 ..) (Ev.neg (by simp) (Ev.bind (impl_tube s l) ?_));refine Ev.step (fun k=>impl_ProbeHappen.j1.eq_2 ..) ?_;by_cases ho:tubeOk s l=true
        · have hll:=(len_of_tube ho).1;refine Ev.neg (by simp [ho]) (Ev.neg (by simp) ?_);refine Ev.step (fun k=>impl_ProbeHappen.j2.eq_2 ..) (Ev.neg (by simp) (Ev.neg (by simp) ?_));by_cases ht:isThere L s=true
          · have hpl:place L s<L.length:=by
              simp only [isThere,Bool.and_eq_true,decide_eq_true_eq] at ht;exact ht.1
            refine Ev.pos ht ?_;simp only [copy_tube (s:=s) (l:=l) (by omega),Option.bind_some];exact Ev.pos (by omega) (Ev.pos (by omega) (Ev.is (by simp [happen,h,ht,ho])))
          · refine Ev.neg ht ?_;by_cases h24:(L.length:Int)=24
            · exact Ev.pos h24 (Ev.is (by simp [happen,h,ht,ho,show L.length=24 by omega]))
            · refine Ev.neg h24 ?_;simp only [copy_tube (s:=s) (l:=l) (by omega),Option.bind_some];exact Ev.pos (by omega) (Ev.pos (by omega) (Ev.pos (by omega) (Ev.is (by simp [happen,h,ht,ho,show ¬ L.length=24 by omega]))))
        · exact Ev.pos (by simpa using ho) (Ev.is (by simp [happen,h,ho]))
    by_cases hpl:place L s<L.length
    · refine Ev.pos (by omega) (Ev.pos (by omega) (Ev.congr (fun k=>?_) core))
      congr 1
      simp [isThere,hpl]
    · refine Ev.neg (by omega) (Ev.congr (fun k=>?_) core)
      congr 1
      simp [isThere,hpl]
  · exact Ev.neg h (Ev.is (by simp [happen,h]))

theorem copy2 {s:ByteArray} {l:List S75} (hl:l.length≤1000):spec_l2Copy.f s l=some (s,l):=by
  unfold spec_l2Copy.f
  simp only [Option.bind_some];rw [if_pos (by simp;omega)];simp
theorem list_l {L:List S32} (h:Small L):∀ i:Nat,i≤L.length→∀ acc:List S32,acc.length≤i→Ev (fun k=>spec_l2List.l0 k L acc (i:Int)) (acc++L.drop i) :=
  drop_ind L (P:=fun i r=>∀ acc:List S32,acc.length≤i→Ev (fun k=>spec_l2List.l0 k L acc (i:Int)) (acc++r))
    (fun acc _=>Ev.step (f:=fun _=>some acc) (fun k=>by simp only [spec_l2List.l0];rw [if_neg (by omega)]) (Ev.is (by simp)))
    (fun i hi ih acc ha=>by
      have hk:=h.1;have hx:=h.2 _ (List.getElem_mem hi);refine Ev.step (f:=fun k=>spec_l2List.l0 k L (acc++[L[i]]) ((i+1:Nat):Int)) (fun k=>?_) (Ev.eq (ih (acc++[L[i]]) (by simp;omega)) (by simp));simp only [spec_l2List.l0];rw [if_pos (by omega),if_pos (by omega),rd39 hi,copy2 hx,w64 hi (by omega)];simp only [Option.bind_some];rw [if_pos (by omega)])
theorem list_ev {L:List S32} (h:Small L):Ev (fun k=>spec_l2List.f k L) L:=by
  unfold spec_l2List.f
  exact list_l h 0 (by omega) [] (by simp)
def atOf (L:List S32) (s:ByteArray):Int:=if isThere L s=true then (place L s:Int) else -1
theorem less_below {L:List S32} {s:ByteArray} {i:Nat} (hi:i<L.length) (h:i<place L s):Op.bytesLess L[i].f0.toList s.toList=true:=by
  have:=List.not_of_lt_findIdx (p:=fun t:S32 => !(Op.bytesLess t.f0.toList s.toList)) (xs:=L) (i:=i) h
  simpa using this
theorem not_less_at {L:List S32} {s:ByteArray} (h:place L s<L.length):Op.bytesLess (L[place L s]'h).f0.toList s.toList=false:=by
  have:=List.findIdx_getElem (p:=fun t:S32 => !(Op.bytesLess t.f0.toList s.toList)) (xs:=L) (w:=h);simp only [Bool.not_eq_true'] at this;exact this
theorem name_ne {L:List S32} (h:skyOk L=true) {s:ByteArray} {i:Nat} (hi:i<L.length) (ha:(i:Int)≠atOf L s):L[i].f0.toList≠s.toList:=by
  intro e;have hp:=List.pairwise_iff_getElem.1 (skyPw h)
  have hnl:¬ i<place L s:=fun hlt=>by
    have:=less_below hi hlt;rw [e,bl_irrefl] at this;cases this
  have hpl:place L s<L.length:=by omega
  by_cases hip:i=place L s
  · have ht:isThere L s=true:=by
      simp only [isThere,Bool.and_eq_true,decide_eq_true_eq,beq_iff_eq];refine ⟨hpl,?_⟩;rw [rd39 hpl];have:L[place L s]=L[i]:=by congr 1;exact hip.symm
      rw [this];exact e
    exact ha (by rw [atOf,if_pos ht];omega)
  · have h1:=hp (place L s) i hpl hi (by omega);have h2:=not_less_at hpl
    unfold lt at h1
    rw [e] at h1;rw [h1] at h2;cases h2
theorem at_l {L : List S32} (h : skyOk L = true) (s : ByteArray):∀ i:Nat,i≤L.length→((i:Int)≤atOf L s∨isThere L s=false)→Ev (fun k=>spec_l6At.l0 k L s (i:Int)) (atOf L s) :=
  drop_ind L (P := fun i _ => ((i : Int) ≤ atOf L s ∨ isThere L s=false)→Ev (fun k=>spec_l6At.l0 k L s (i:Int)) (atOf L s))
    (fun hc => by
      refine Ev.step (f:=fun _=>some (-1)) (fun k=>by simp only [spec_l6At.l0];rw [if_neg (by omega)]) (Ev.is ?_)
      have : isThere L s=false:=hc.elim (fun hle=>by
        cases ht:isThere L s with
        | false=>rfl
        | true =>
          have hpl:place L s<L.length:=by
            simp only [isThere,Bool.and_eq_true,decide_eq_true_eq] at ht;exact ht.1
          rw [atOf,if_pos ht] at hle
          omega) id
      rw [atOf,if_neg (by simp [this])])
    (fun i hi ih hc => by
      have hl:=(sky_len h).1;by_cases he:L[i].f0.toList=s.toList
      · have:(i:Int)=atOf L s:=by
          by_cases hne:(i:Int)=atOf L s
          · exact hne
          · exact absurd he (name_ne h hi hne)
        refine Ev.step (f:=fun _=>some (i:Int)) (fun k=>?_) (Ev.is (by rw [this]));simp only [spec_l6At.l0];rw [if_pos (by omega),if_pos (by omega),rd39 hi,if_pos he]
      · refine Ev.step (f := fun k => spec_l6At.l0 k L s ((i+1:Nat):Int)) (fun k=>?_) (ih ?_)
        · simp only [spec_l6At.l0];rw [if_pos (by omega),if_pos (by omega),rd39 hi,if_neg he,w64 hi (by omega)]
        · rcases hc with hc | hc
          · by_cases ht : isThere L s = true
            · left
              have hpl:place L s<L.length∧(rd_T32 L (place L s:Int)).f0.toList=s.toList:=by
                simpa only [isThere,Bool.and_eq_true,decide_eq_true_eq,beq_iff_eq] using ht
              rw [atOf,if_pos ht] at hc ⊢;rw [rd39 hpl.1] at hpl
              have hne : i ≠ place L s := fun e => he (by have:L[i]=L[place L s]'hpl.1:=by congr 1
                                                          rw [this];exact hpl.2)
              omega
            · right
              simpa using ht
          · exact .inr hc)
theorem at_ev {L:List S32} (h:skyOk L=true) (s:ByteArray):Ev (fun k=>spec_l6At.f k L s) (atOf L s):=by
  unfold spec_l6At.f
  refine at_l h s 0 (by omega) ?_;by_cases ht:isThere L s=true
  · left;rw [atOf,if_pos ht];omega
  · right;simpa using ht
def skipL (A:Int):Nat→List S32→List S32
  | _,[]=>[]
  | i,x::r=>if (i:Int)=A then skipL A (i+1) r else x::skipL A (i+1) r
theorem skip_none {A:Int} : ∀ (r:List S32) (i:Nat),(∀ j:Nat,i≤j→(j:Int)≠A)→skipL A i r=r
  | [],_,_=>rfl
  | x::r,i,h=>by rw [skipL,if_neg (h i (Nat.le_refl _)),skip_none r (i+1) (fun j hj=>h j (by omega))]
theorem skip_at:∀ (r:List S32) (i p:Nat),skipL ((i+p:Nat):Int) i r=r.eraseIdx p
  | [],_,_=>rfl
  | x::r,i,0=>by rw [skipL,if_pos (by omega),skip_none r (i+1) (fun j hj=>by omega),List.eraseIdx_zero,List.tail_cons]
  | x :: r,i,p+1=>by
    have:=skip_at r (i+1) p;rw [skipL,if_neg (by omega),List.eraseIdx_cons_succ,← this]
    congr 2
    omega
theorem done_l {L:List S32} (h:skyOk L=true) (A:Int) (d:Bool) (s:ByteArray) (l:List S75):∀ i:Nat,i≤L.length→∀ acc:List S32,acc.length≤i+1→(∀ x∈acc,x.f1.length≤1000) →
    Ev (fun k=>spec_ProbeHappen.l0 k L A acc true (i:Int) d s l) (acc++skipL A i (L.drop i),0) :=
  drop_ind L (P:=fun i r=>∀ acc:List S32,acc.length≤i+1→(∀ x∈acc,x.f1.length≤1000)→Ev (fun k=>spec_ProbeHappen.l0 k L A acc true (i:Int) d s l) (acc++skipL A i r,0))
    (fun acc ha hb=>by
      have hl:=(sky_len h).1;refine Ev.step (fun k=>spec_ProbeHappen.l0.eq_2 ..) (Ev.neg (by omega) (Ev.pos rfl (Ev.bind (list_ev ⟨by omega,hb⟩) (Ev.is (by simp [skipL])))))
    )
    (fun i hi ih acc ha hb=>by
      have hk:=sky_len h;have hx:=(len_of_tube (hk.2 _ (List.getElem_mem hi))).1;refine Ev.step (fun k=>spec_ProbeHappen.l0.eq_2 ..) (Ev.pos (by omega) (Ev.pos rfl ?_));refine Ev.step (fun k=>spec_ProbeHappen.j4.eq_2 ..) (Ev.neg (by simp) ?_);have hw:=w64 hi (show L.length≤9223372036854775807 by omega);by_cases hA:(i:Int)=A
      · refine Ev.pos hA ?_;rw [hw,skipL,if_pos hA];exact ih acc (by omega) hb
      · refine Ev.neg hA (Ev.pos (by omega) (Ev.pos (by omega) (Ev.pos (by omega) ?_)));rw [hw,rd39 hi,skipL,if_neg hA];refine Ev.eq (ih (acc++[L[i]]) (by simp;omega) (fun x hx'=>?_)) (by simp)
        rcases List.mem_append.1 hx' with hx' | hx'
        · exact hb x hx'
        · rw [List.mem_singleton.1 hx'];omega)
theorem put_l {L:List S32} (h:skyOk L=true) {s:ByteArray} {l:List S75} {R:List S32 × Int}
    (hR:Ev (fun k=>spec_ProbeHappen.l0 k L (atOf L s) (L.take (place L s)) false (place L s:Int) false s l) R) :
    ∀ m i:Nat,i+m=place L s→Ev (fun k=>spec_ProbeHappen.l0 k L (atOf L s) (L.take i) false (i:Int) false s l) R:=by
  intro m
  induction m with
  | zero =>
    intro i hi;obtain rfl:i=place L s:=by omega
    exact hR
  | succ m ih =>
    intro i hi;have hk:=sky_len h;have hpl:=place_le L s;have hil:i<L.length:=by omega
    have hne:(i:Int)≠atOf L s:=by
      unfold atOf
      split<;>omega
    have hw:=w64 hil (show L.length≤9223372036854775807 by omega);refine Ev.step (fun k=>spec_ProbeHappen.l0.eq_2 ..) (Ev.pos (by omega) (Ev.neg (by simp) (Ev.pos (by omega) ?_)));rw [rd39 hil,less_below hil (by omega)];refine Ev.step (fun k=>spec_ProbeHappen.j4.eq_2 ..) (Ev.neg (by simp) (Ev.neg hne (Ev.pos (by omega) (Ev.pos (by omega) (Ev.pos (by rw [List.length_take];omega) ?_)))));rw [hw,rd39 hil];have:=ih (i+1) (by omega);rw [List.take_succ_eq_append_getElem hil] at this;exact this
theorem spec_happen (L:List S32) (d:Bool) (s:ByteArray) (l:List S75):Ev (fun k=>spec_ProbeHappen.f k L d s l) (happen L d s l):=by
  unfold spec_ProbeHappen.f
  refine Ev.bind (spec_sky L) ?_;by_cases h:skyOk L=true
  · have hk := sky_len h;have hs:=small_sky h;have hp:=place_le L s;refine Ev.pos h ?_
    cases d with
    | true =>
      refine Ev.pos rfl (Ev.step (fun k=>spec_ProbeHappen.j0.eq_2 ..) (Ev.neg (by simp) (Ev.bind (at_ev h s) (Ev.pos rfl ?_))));refine Ev.step (fun k=>spec_ProbeHappen.j1.eq_2 ..) ?_;by_cases ht:isThere L s=true
      · refine Ev.neg (by rw [atOf,if_pos ht];simp) (Ev.pos rfl ?_);refine Ev.step (fun k=>spec_ProbeHappen.j2.eq_2 ..) (Ev.neg (by simp) ?_);refine Ev.eq (done_l h (atOf L s) true s l 0 (by omega) [] (by simp) (by simp)) ?_;have:=skip_at L 0 (place L s);rw [Nat.zero_add] at this;rw [atOf,if_pos ht,List.drop_zero,List.nil_append,this];simp [happen,h,ht]
      · exact Ev.pos (by rw [atOf,if_neg ht];simp) (Ev.bind (list_ev hs) (Ev.is (by simp [happen,h,ht])))
    | false =>
      refine Ev.neg (by simp) (Ev.bind (spec_tube s l) (Ev.step (fun k=>spec_ProbeHappen.j0.eq_2 ..) ?_));by_cases ho:tubeOk s l=true
      · have hll := (len_of_tube ho).1;refine Ev.neg (by simp [ho]) (Ev.bind (at_ev h s) (Ev.neg (by simp) ?_));refine Ev.step (fun k=>spec_ProbeHappen.j1.eq_2 ..) (Ev.neg (by simp) (Ev.neg (by simp) ?_))
        have put:∀ R,Ev (fun k=>spec_ProbeHappen.l0 k L (atOf L s) (L.take (place L s)) false (place L s:Int) false s l) R→Ev (fun k=>spec_ProbeHappen.j2 k L (atOf L s) false false s l) R:=fun R hR =>
          Ev.step (fun k=>spec_ProbeHappen.j2.eq_2 ..) (Ev.neg (by simp) (put_l h hR (place L s) 0 (by omega)))
        have hbt:∀ x∈L.take (place L s)++[(⟨s,l⟩:S32)],x.f1.length≤1000:=fun x hx=>by
          rcases List.mem_append.1 hx with hx | hx
          · exact hs.2 x (List.mem_of_mem_take hx)
          · rw [List.mem_singleton.1 hx];simp only;omega
        have hlt:(L.take (place L s)).length=place L s:=by rw [List.length_take];omega
        by_cases ht:isThere L s=true
        · have hpl:place L s<L.length:=by
            simp only [isThere,Bool.and_eq_true,decide_eq_true_eq] at ht;exact ht.1
          have hA:atOf L s=(place L s:Int):=by rw [atOf,if_pos ht]
          refine Ev.neg (by rw [hA];omega) (put _ ?_);have hw:=w64 hpl (show L.length≤9223372036854775807 by omega);refine Ev.step (fun k=>spec_ProbeHappen.l0.eq_2 ..) (Ev.pos (by omega) (Ev.neg (by simp) (Ev.pos (by omega) ?_)));rw [rd39 hpl,not_less_at hpl];refine Ev.step (fun k=>spec_ProbeHappen.j4.eq_2 ..) (Ev.pos rfl (Ev.pos (by omega) ?_));simp only [Option.bind_some];refine Ev.pos hA.symm ?_;rw [hw];refine Ev.eq (done_l h (atOf L s) false s l (place L s+1) (by omega) _ (by rw [List.length_append,hlt,List.length_singleton];omega) hbt) ?_;rw [skip_none _ _ (fun j hj=>by rw [hA];omega)];simp [happen,h,ht,ho,List.set_eq_take_append_cons_drop,hpl]
        · have hA : atOf L s = -1:=by rw [atOf,if_neg ht]
          refine Ev.pos (by rw [hA];omega) ?_;by_cases h24:L.length=24
          · rw [show (decide ((L.length:Int) ≥ 24))=true from decide_eq_true (by omega)];exact Ev.step (fun k=>spec_ProbeHappen.j2.eq_2 ..) (Ev.pos rfl (Ev.bind (list_ev hs) (Ev.is (by simp [happen,h,ht,ho,h24]))))
          · rw [show (decide ((L.length:Int) ≥ 24))=false from decide_eq_false (by omega)];refine put _ ?_;have hres:happen L false s l=(L.take (place L s)++⟨s,l⟩::L.drop (place L s),0):=by simp [happen,h,ht,ho,h24]
            by_cases hpl:place L s<L.length
            · have hw:=w64 hpl (show L.length≤9223372036854775807 by omega);refine Ev.step (fun k=>spec_ProbeHappen.l0.eq_2 ..) (Ev.pos (by omega) (Ev.neg (by simp) (Ev.pos (by omega) ?_)));rw [rd39 hpl,not_less_at hpl];refine Ev.step (fun k=>spec_ProbeHappen.j4.eq_2 ..) (Ev.pos rfl (Ev.pos (by omega) ?_));simp only [Option.bind_some];refine Ev.neg (by rw [hA];omega) (Ev.pos (by omega) (Ev.pos (by omega) (Ev.pos (by rw [List.length_append,hlt,List.length_singleton];omega) ?_)));rw [hw,rd39 hpl];refine Ev.eq (done_l h (atOf L s) false s l (place L s+1) (by omega) _ (by rw [List.length_append,List.length_append,hlt,List.length_singleton,List.length_singleton];omega) (fun x hx=>?_)) ?_
              · rcases List.mem_append.1 hx with hx | hx
                · exact hbt x hx
                · rw [List.mem_singleton.1 hx];exact hs.2 _ (List.getElem_mem hpl)
              · rw [skip_none _ _ (fun j hj=>by rw [hA];omega),hres];simp
                exact (List.drop_eq_getElem_cons hpl).symm
            · have hpe:place L s=L.length:=by omega
              refine Ev.step (fun k=>spec_ProbeHappen.l0.eq_2 ..) (Ev.neg (by omega) (Ev.neg (by simp) (Ev.pos (by omega) (Ev.bind (list_ev ⟨by rw [List.length_append,hlt,List.length_singleton];omega,hbt⟩) (Ev.is ?_)))));rw [hres,hpe,List.drop_length]
      · exact Ev.pos (by simpa using ho) (Ev.bind (list_ev hs) (Ev.is (by simp [happen,h,ho])))
  · exact Ev.neg h (Ev.is (by simp [happen,h]))
end Go.Proofs.YtgklmafdbgnohaaGreat.Q
end
section
namespace Go.Proofs.YtgklmafdbgnohaaGreat.Pure
open Go.RowKit Go.Proofs.YtgklmafdbgnohaaGreat.PA Go.Proofs.YtgklmafdbgnohaaGreat.Q Go.Proofs.YtgklmafdbgnohaaGreatW.PrintWords Go.Proofs.YtgklmafdbgnohaaGreatW.PrintLast
theorem map_ok {l:List S55} (hb:∀ x∈l,x.f1.length≤1048576∧x.f0.size≤1048576):∀ x∈l.map cvT,x.f1.length≤1048576:=by
  intro x hx;obtain ⟨y,hy,rfl⟩:=List.mem_map.1 hx;have:=(hb y hy).1;simp only [cvT,List.length_map];exact this
theorem map_ok' {l:List S55} (hb:∀ x∈l,x.f1.length≤1048576∧x.f0.size≤1048576):∀ x∈l.map cvT,x.f1.length≤9223372036854775807:=fun x hx=>by
  have:=map_ok hb x hx;omega
theorem len_of {s:ByteArray} {l:List S163} {n:Int} (h:n≤1048576) (h0:0≤n - s.size - l.length):l.length≤1048576:=by omega
theorem to_event (d:Bool) (s:ByteArray) (l:List S163) (hl:l.length≤1048576):Ev (fun k=>laws_toProbeEvent.f k d s l) (d,s,l.map cv):=by
  unfold laws_toProbeEvent.f
  exact Ev.bind (to_tube s l hl) (Ev.now _)
theorem eq_event (d:Bool) (s:ByteArray) (l:List S75) (hl:l.length≤9223372036854775807):Ev (fun k=>laws_eqProbeEvent.f k d s l d s l) true:=by
  unfold laws_eqProbeEvent.f
  exact Ev.neg (by simp) (Ev.bind (eq_tube s l hl) (Ev.pos rfl (Ev.now true)))
theorem mark_event (d:Bool) (s:ByteArray) (l:List S75) (hl:l.length≤10000000) {K:Int} (h0:0≤K) (h1:K+6 * l.length≤100000000000000):Ev (fun k=>laws_markProbeEvent.f k d s l K) (K+6 * l.length,markL l K):=by
  unfold laws_markProbeEvent.f
  exact Ev.bind (mark_tube s l hl h0 h1) (Ev.now _)
theorem sz_event {d:Bool} {s:ByteArray} {l:List S163} {n:Int} (h0:0≤n) (h1:n≤1048576) (hs:s.size≤maxLen) (hl:l.length≤maxLen):laws_szProbeEvent.f d s l n=some (-1)∨(laws_szProbeEvent.f d s l n=some (n - s.size - l.length)∧0≤n - s.size - l.length):=by
  unfold laws_szProbeEvent.f
  rcases sz_tube h0 h1 hs hl with h | ⟨h,h'⟩
  · left;rw [h];rfl
  · right
    refine ⟨?_,h'⟩;rw [h];simp only [Option.bind_some];rw [if_neg (by omega)]
end Go.Proofs.YtgklmafdbgnohaaGreat.Pure
end
section
namespace Go.Proofs.YtgklmafdbgnohaaGreat.Q
open Go.RowKit Go.Proofs.YtgklmafdbgnohaaGreat.PA Go.Proofs.YtgklmafdbgnohaaGreatW.PrintWords Go.Proofs.YtgklmafdbgnohaaGreatW.PrintLast Go.Proofs.YtgklmafdbgnohaaGreatW.PrintMore
theorem rd182 {l:List S184} {i:Nat} (h:i<l.length):rd_T184 l (i:Int)=l[i]:=by
  unfold rd_T184
  simp [h]
theorem rd147 {l:List S133} {i:Nat} (h:i<l.length):rd_T133 l (i:Int)=l[i]:=by
  unfold rd_T133
  simp [h]
theorem rd101 {l:List S80} {i:Nat} (h:i<l.length):rd_T80 l (i:Int)=l[i]:=by
  unfold rd_T80
  simp [h]
theorem rd105 {l:List S84} {i:Nat} (h:i<l.length):rd_T84 l (i:Int)=l[i]:=by
  unfold rd_T84
  simp [h]
def cvS (x:S184):S80:=⟨x.f0,x.f1,x.f2,x.f3,x.f4,x.f5⟩
def cvC (x:S133):S84:=⟨x.f0,x.f1,x.f2.map cvS⟩
theorem to_slots_l (l:List S184) (hl:l.length≤1048576):∀ i:Nat,i≤l.length→Ev (fun k=>laws_toProbeSlotS.l0 k l ((l.take i).map cvS++List.replicate (l.length - i) z80) (i:Int)) (l.map cvS) :=
  drop_ind l (P:=fun i _=>Ev (fun k=>laws_toProbeSlotS.l0 k l ((l.take i).map cvS++List.replicate (l.length - i) z80) (i:Int)) (l.map cvS))
    (Ev.step (f:=fun _=>some (l.map cvS)) (fun k=>by simp only [laws_toProbeSlotS.l0];rw [if_neg (by omega)];simp) (Ev.is rfl))
    (fun i hi ih=>by
      refine Ev.step (f:=fun k=>laws_toProbeSlotS.l0 k l ((l.take (i+1)).map cvS++List.replicate (l.length - (i+1)) z80) ((i+1:Nat):Int)) (fun k=>?_) ih;simp only [laws_toProbeSlotS.l0];rw [if_pos (by omega),if_pos (by omega),rd182 hi];simp only [laws_toProbeSlot.f,Option.bind_some];rw [if_pos (by simp;omega),w64 hi (by omega)]
      congr 1
      have e:l.length - i=(l.length - (i+1))+1:=by omega
      rw [e,List.replicate_succ,List.take_succ_eq_append_getElem hi,List.map_append,List.set_append_right _ _ (by simp;omega)];have e2:(i:Int).toNat - ((l.take i).map cvS).length=0:=by simp;omega
      rw [e2,List.set_cons_zero,List.append_assoc]
      rfl)
theorem to_slots (l:List S184) (hl:l.length≤1048576):Ev (fun k=>laws_toProbeSlotS.f k l) (l.map cvS):=by
  refine Ev.congr (f:=fun k=>laws_toProbeSlotS.l0 k l ((l.take 0).map cvS++List.replicate (l.length - 0) z80) ((0:Nat):Int)) (fun k=>?_) (to_slots_l l hl 0 (by omega));simp only [laws_toProbeSlotS.f];rw [if_pos (by omega),if_pos (by omega)];simp
theorem to_cell (x y:Int) (l:List S184) (hl:l.length≤1048576):Ev (fun k=>laws_toProbeCell.f k x y l) (x,y,l.map cvS):=by
  unfold laws_toProbeCell.f
  exact Ev.bind (to_slots l hl) (Ev.now _)
theorem to_cells_l (l:List S133) (hl:l.length≤1048576) (hb:∀ x∈l,x.f2.length≤1048576):∀ i:Nat,i≤l.length→Ev (fun k=>laws_toProbeCellS.l0 k l ((l.take i).map cvC++List.replicate (l.length - i) z84) (i:Int)) (l.map cvC) :=
  drop_ind l (P:=fun i _=>Ev (fun k=>laws_toProbeCellS.l0 k l ((l.take i).map cvC++List.replicate (l.length - i) z84) (i:Int)) (l.map cvC))
    (Ev.step (f:=fun _=>some (l.map cvC)) (fun k=>by simp only [laws_toProbeCellS.l0];rw [if_neg (by omega)];simp) (Ev.is rfl))
    (fun i hi ih=>by
      refine Ev.step (f:=fun k=>(laws_toProbeCell.f k l[i].f0 l[i].f1 l[i].f2).bind fun p=>laws_toProbeCellS.l0 k l (((l.take i).map cvC++List.replicate (l.length - i) z84).set i ⟨p.1,p.2.1,p.2.2⟩) ((i+1:Nat):Int)) (fun k=>?_) (Ev.bind (to_cell _ _ _ (hb _ (List.getElem_mem hi))) (Ev.congr (fun k=>?_) ih))
      · simp only [laws_toProbeCellS.l0];rw [if_pos (by omega),if_pos (by omega),rd147 hi]
        congr 1
        funext p
        rw [if_pos (by simp;omega),w64 hi (by omega)];rfl
      · congr 1
        have e:l.length - i=(l.length - (i+1))+1:=by omega
        rw [e,List.replicate_succ,List.take_succ_eq_append_getElem hi,List.map_append,List.set_append_right _ _ (by simp;omega)];have e2:i - ((l.take i).map cvC).length=0:=by simp;omega
        rw [e2,List.set_cons_zero,List.append_assoc]
        rfl)
theorem to_index (l:List S133) (hl:l.length≤1048576) (hb:∀ x∈l,x.f2.length≤1048576):Ev (fun k=>laws_toProbeIndex.f k l) (l.map cvC):=by
  unfold laws_toProbeIndex.f
  refine Ev.bind (r:=l.map cvC) (Ev.congr (f:=fun k=>laws_toProbeCellS.l0 k l ((l.take 0).map cvC++List.replicate (l.length - 0) z84) ((0:Nat):Int)) (fun k=>?_) (to_cells_l l hl hb 0 (by omega))) (Ev.now _);simp only [laws_toProbeCellS.f];rw [if_pos (by omega),if_pos (by omega)];simp
theorem eq_slot (x:S80):laws_eqProbeSlot.f x.f0 x.f1 x.f2 x.f3 x.f4 x.f5 x.f0 x.f1 x.f2 x.f3 x.f4 x.f5=some true:=by simp [laws_eqProbeSlot.f]
theorem eq_slots_l (l:List S80) (hl:l.length≤9223372036854775807):∀ i:Nat,i≤l.length→Ev (fun k=>laws_eqProbeSlotS.l0 k l l (i:Int)) true :=
  drop_ind l (P:=fun i _=>Ev (fun k=>laws_eqProbeSlotS.l0 k l l (i:Int)) true)
    (Ev.step (f:=fun _=>some true) (fun k=>by simp only [laws_eqProbeSlotS.l0];rw [if_neg (by omega)]) (Ev.is rfl))
    (fun i hi ih=>by
      refine Ev.step (f:=fun k=>laws_eqProbeSlotS.l0 k l l ((i+1:Nat):Int)) (fun k=>?_) ih;simp only [laws_eqProbeSlotS.l0];rw [if_pos (by omega),if_pos (by omega),if_pos (by omega),rd101 hi,eq_slot,w64 hi hl]
      rfl)
theorem eq_slots (l:List S80) (hl:l.length≤9223372036854775807):Ev (fun k=>laws_eqProbeSlotS.f k l l) true:=by
  unfold laws_eqProbeSlotS.f
  exact Ev.pos rfl (eq_slots_l l hl 0 (by omega))
theorem eq_cell (x y:Int) (l:List S80) (hl:l.length≤9223372036854775807):Ev (fun k=>laws_eqProbeCell.f k x y l x y l) true:=by
  unfold laws_eqProbeCell.f
  exact Ev.pos rfl (Ev.pos rfl (Ev.bind (eq_slots l hl) (Ev.pos rfl (Ev.now true))))
theorem eq_cells_l (l:List S84) (hl:l.length≤9223372036854775807) (hb:∀ x∈l,x.f2.length≤9223372036854775807):∀ i:Nat,i≤l.length→Ev (fun k=>laws_eqProbeCellS.l0 k l l (i:Int)) true :=
  drop_ind l (P:=fun i _=>Ev (fun k=>laws_eqProbeCellS.l0 k l l (i:Int)) true)
    (Ev.step (f:=fun _=>some true) (fun k=>by simp only [laws_eqProbeCellS.l0];rw [if_neg (by omega)]) (Ev.is rfl))
    (fun i hi ih=>by
      refine Ev.step (f:=fun k=>(laws_eqProbeCell.f k l[i].f0 l[i].f1 l[i].f2 l[i].f0 l[i].f1 l[i].f2).bind fun t=>if t=true then laws_eqProbeCellS.l0 k l l ((i+1:Nat):Int) else some false) (fun k=>?_) (Ev.bind (eq_cell _ _ _ (hb _ (List.getElem_mem hi))) (Ev.pos rfl ih));simp only [laws_eqProbeCellS.l0];rw [if_pos (by omega),if_pos (by omega),if_pos (by omega),rd105 hi,w64 hi hl])
theorem eq_index (l:List S84) (hl:l.length≤9223372036854775807) (hb:∀ x∈l,x.f2.length≤9223372036854775807):Ev (fun k=>laws_eqProbeIndex.f k l l) true:=by
  unfold laws_eqProbeIndex.f
  refine Ev.bind (r:=true) ?_ (Ev.pos rfl (Ev.now true))
  unfold laws_eqProbeCellS.f
  exact Ev.pos rfl (eq_cells_l l hl hb 0 (by omega))
end Go.Proofs.YtgklmafdbgnohaaGreat.Q
end
section
namespace Go.Proofs.YtgklmafdbgnohaaGreat.Q
open Go.RowKit Go.Proofs.YtgklmafdbgnohaaGreat.PA Go.Proofs.YtgklmafdbgnohaaGreatW.PrintWords Go.Proofs.YtgklmafdbgnohaaGreatW.PrintLast Go.Proofs.YtgklmafdbgnohaaGreatW.PrintMore
open Mp (MS mget mhas mput mnames mfind keyL sorted)
theorem toList_iff {s t:ByteArray} : s.toList=t.toList↔s=t:=by
  rw [Lib.toList_data,Lib.toList_data]
  constructor
  · intro h;cases s with | mk a=>cases t with | mk b=>simpa using h
  · rintro rfl;rfl
theorem lt_iff {s t:ByteArray} : Op.bytesLess s.toList t.toList=true↔s.data.toList<t.data.toList:=by
  rw [bytesLess_eq,Lib.toList_data,Lib.toList_data,decide_eq_true_eq]
def insN (s:ByteArray):List ByteArray→List ByteArray
  | []=>[s]
  | y::r=>if Op.bytesLess y.toList s.toList=true then y::insN s r else if y.toList=s.toList then y::r else s::y::r
def Asc2 (l:List ByteArray):Prop:=l.Pairwise fun x y=>x.data.toList<y.data.toList
theorem mem_insN {s n:ByteArray} : ∀ {l:List ByteArray},n∈insN s l↔n=s∨n∈l
  | []=>by simp [insN]
  | y :: r=>by
    unfold insN
    split
    · simp only [List.mem_cons,mem_insN (l:=r)]
      constructor
      · rintro (h | h | h)<;>simp [h]
      · rintro (h | h | h)<;>simp [h]
    · split
      · rename_i h
        have:=toList_iff.1 h;subst this;simp
      · simp
theorem len_insN {s:ByteArray} : ∀ {l:List ByteArray},(insN s l).length≤l.length+1
  | []=>by simp [insN]
  | y :: r=>by
    unfold insN
    have:=len_insN (s:=s) (l:=r)
    split
    · simp only [List.length_cons];omega
    · split<;>simp
theorem asc_insN {s:ByteArray} : ∀ {l:List ByteArray},Asc2 l→Asc2 (insN s l)
  | [],_=>by simp [insN,Asc2]
  | y :: r, h => by
    obtain ⟨h1,h2⟩:=List.pairwise_cons.1 h
    unfold insN
    split
    · rename_i hl
      refine List.pairwise_cons.2 ⟨fun z hz=>?_,asc_insN h2⟩
      rcases mem_insN.1 hz with rfl | hz
      · exact lt_iff.1 hl
      · exact h1 z hz
    · rename_i hl
      split
      · exact h
      · rename_i hne
        have hys:s.data.toList<y.data.toList:=by
          rw [lt_iff] at hl;have hle:s.data.toList≤y.data.toList:=hl
          rcases Decidable.em (s.data.toList<y.data.toList) with h3 | h3
          · exact h3
          · have:s.data.toList=y.data.toList:=List.le_antisymm hle h3;exact absurd (by rw [Lib.toList_data,Lib.toList_data,this]) hne
        refine List.pairwise_cons.2 ⟨fun z hz=>?_,h⟩
        rcases List.mem_cons.1 hz with rfl | hz
        · exact hys
        · exact List.lt_trans hys (h1 z hz)
theorem asc_eq {l l':List ByteArray} (h:Asc2 l) (h':Asc2 l') (hm:∀ n,n∈l↔n∈l'):l=l':=by
  have nd:∀ {l:List ByteArray},Asc2 l→l.Nodup:=fun h=>h.imp (fun {a b} hab e=>by subst e;exact List.lt_irrefl _ hab);refine List.Perm.eq_of_pairwise (le:=fun a b:ByteArray=>a.data.toList<b.data.toList) (fun a b _ _ h1 h2=>absurd (List.lt_trans h1 h2) (List.lt_irrefl _)) h h' ((List.perm_ext_iff_of_nodup (nd h) (nd h')).2 hm)
theorem mfind_some {s:ByteArray} : ∀ {M:MS} {i:Nat},(mfind s M i).isSome=M.any fun p=>decide (p.1=s)
  | [],i=>rfl
  | p :: r,i=>by
    unfold mfind
    by_cases h:s=p.1
    · simp [h]
    · have:¬ p.1=s:=fun e=>h e.symm;simp only [if_neg h,List.any_cons,this,decide_false,Bool.false_or];exact mfind_some
theorem has_iff {M:MS} {s:ByteArray} : mhas M s=true↔s∈M.map Prod.fst:=by
  unfold mhas
  rw [mfind_some,List.any_eq_true,List.mem_map]
  constructor
  · rintro ⟨p,hp,h⟩;exact ⟨p,hp,of_decide_eq_true h⟩
  · rintro ⟨p,hp,h⟩;exact ⟨p,hp,decide_eq_true h⟩
theorem keys_put {M:MS} {s:ByteArray} {c:S91} : (mput M s c).map Prod.fst=if mhas M s=true then M.map Prod.fst else M.map Prod.fst++[s]:=by
  unfold mput mhas
  cases h:mfind s M 0 with
  | none=>simp
  | some p =>
    obtain ⟨i,d⟩:=p;obtain ⟨_,h2⟩:=Mp.mfind_get s M 0 h;simp only [Option.isSome_some,if_true,List.map_set];refine List.ext_getElem? fun j=>?_;rw [List.getElem?_set]
    split
    · rename_i e
      subst e;rw [List.getElem?_map];have h2':M[i]? = some (s,d):=by simpa using h2
      obtain ⟨hl,hg⟩:=List.getElem?_eq_some_iff.1 h2';simp [hl,hg]
    · rfl
theorem has_put {M:MS} {s n:ByteArray} {c:S91} : mhas (mput M s c) n=(decide (n=s) || mhas M n):=by
  rw [Bool.eq_iff_iff,has_iff,keys_put,Bool.or_eq_true,decide_eq_true_eq];by_cases h:mhas M s=true
  · rw [if_pos h,← has_iff];exact ⟨.inr,fun h'=>h'.elim (fun e=>e▸h) id⟩
  · rw [if_neg h,List.mem_append,List.mem_singleton,← has_iff];exact or_comm
theorem mfind_app {s:ByteArray} {c:S91} : ∀ {M:MS} {i:Nat},mfind s M i=none→mfind s (M++[(s,c)]) i=some (i+M.length,c)
  | [],i,_=>by simp [mfind]
  | p :: r,i,h=>by
    unfold mfind at h
    by_cases e:s=p.1
    · simp [e] at h
    · rw [if_neg e] at h
      show mfind s (p::(r++[(s,c)])) i=_
      unfold mfind
      rw [if_neg e,mfind_app h]
      simp;omega
theorem mfind_app_ne {s n:ByteArray} {c:S91} (hn:n≠s):∀ {M:MS} {i:Nat},mfind n (M++[(s,c)]) i=mfind n M i
  | [],i=>by simp [mfind,hn]
  | p :: r,i=>by
    show mfind n (p::(r++[(s,c)])) i=_
    unfold mfind
    rw [mfind_app_ne hn]
theorem mfind_set {s:ByteArray} {c d:S91} : ∀ {M:MS} {i j:Nat},mfind s M i=some (j,d)→mfind s (M.set (j - i) (s,c)) i=some (j,c)
  | [],i,j,h=>by simp [mfind] at h
  | p :: r,i,j,h=>by
    unfold mfind at h
    by_cases e:s=p.1
    · rw [if_pos e] at h;cases h
      rw [Nat.sub_self,List.set_cons_zero];simp [mfind]
    · rw [if_neg e] at h;obtain ⟨h1,_⟩:=Mp.mfind_get s r (i+1) h;rw [show j - i=(j - (i+1))+1 by omega,List.set_cons_succ]
      unfold mfind
      rw [if_neg e];exact mfind_set h
theorem mfind_set_ne {s n:ByteArray} {c d:S91} (hn:n≠s):∀ {M:MS} {i j:Nat},mfind s M i=some (j,d)→(mfind n (M.set (j - i) (s,c)) i).map Prod.snd=(mfind n M i).map Prod.snd
  | [],i,j,h=>by simp [mfind] at h
  | p :: r,i,j,h=>by
    unfold mfind at h
    by_cases e:s=p.1
    · rw [if_pos e] at h;cases h
      rw [Nat.sub_self,List.set_cons_zero]
      unfold mfind
      rw [if_neg hn,if_neg (fun e2=>hn (e2.trans e.symm))]
    · rw [if_neg e] at h;obtain ⟨h1,_⟩:=Mp.mfind_get s r (i+1) h;rw [show j - i=(j - (i+1))+1 by omega,List.set_cons_succ]
      unfold mfind
      by_cases e2:n=p.1
      · rw [if_pos e2,if_pos e2]
      · rw [if_neg e2,if_neg e2];exact mfind_set_ne hn h
theorem get_put {M:MS} {s:ByteArray} {c:S91} : mget (mput M s c) s=c:=by
  unfold mget mput
  cases h:mfind s M 0 with
  | none=>simp [mfind_app h]
  | some p =>
    obtain ⟨i,d⟩:=p;have:=mfind_set (c:=c) h;simp only [Nat.sub_zero] at this;simp [this]
theorem get_put_ne {M:MS} {s n:ByteArray} {c:S91} (hn:n≠s):mget (mput M s c) n=mget M n:=by
  unfold mget mput
  cases h:mfind s M 0 with
  | none=>simp [mfind_app_ne hn]
  | some p =>
    obtain ⟨i,d⟩:=p;have:=mfind_set_ne (c:=c) hn h;simp only [Nat.sub_zero] at this;simp [this]
theorem nodup_put {M:MS} {s:ByteArray} {c:S91} (h:(M.map Prod.fst).Nodup):((mput M s c).map Prod.fst).Nodup:=by
  rw [keys_put]
  split
  · exact h
  · rename_i hn
    rw [has_iff] at hn;exact List.nodup_append.2 ⟨h,by simp,fun a ha b hb e=>by simp at hb;subst hb;subst e;exact hn ha⟩
def cl (b:S75) (c:S84) (s:S80):Int × Bool:=if boxOk b.f0 b.f1 b.f2 b.f3 b.f4 b.f5=true∧boxOk c.f0 c.f1 s.f2 s.f3 s.f0 s.f1=true then near b.f0 b.f1 b.f2 b.f3 b.f4 b.f5 c.f0 c.f1 s.f2 s.f3 s.f0 s.f1 else (0,false)
def ahd (t i a:Int) (o:S91):Bool:=if t=o.f2 then (if i=o.f3 then decide (a<o.f4) else decide (i<o.f3)) else decide (t<o.f2)
def sB (t:ByteArray) (c:S84) (s:S80) (M:MS) (j:Nat) (b:S75):MS:=if (cl b c s).2=true then (if mhas M s.f4=true then (if ahd (cl b c s).1 j s.f5 (mget M s.f4)=true then mput M s.f4 ⟨t,s.f4,(cl b c s).1,j,s.f5⟩ else M) else mput M s.f4 ⟨t,s.f4,(cl b c s).1,j,s.f5⟩) else M
def bM (t:ByteArray) (c:S84) (s:S80):List S75→Nat→MS→MS
  | [],_,M=>M
  | b::r,j,M=>bM t c s r (j+1) (sB t c s M j b)
def sM (t:ByteArray) (l:List S75) (c:S84):List S80→MS→MS
  | [],M=>M
  | s::r,M=>sM t l c r (if s.f4.toList=t.toList then M else bM t c s l 0 M)
def cM (t:ByteArray) (l:List S75):List S84→MS→MS
  | [],M=>M
  | c::r,M=>cM t l r (sM t l c c.f2 M)
def sF (t:ByteArray) (c:S84) (s:S80) (st:Bool × S91) (j:Nat) (b:S75):Bool × S91:=if (cl b c s).2=true then (if st.1=true then (if ahd (cl b c s).1 j s.f5 st.2=true then (true,⟨t,s.f4,(cl b c s).1,j,s.f5⟩) else st) else (true,⟨t,s.f4,(cl b c s).1,j,s.f5⟩)) else st
def bF (t:ByteArray) (c:S84) (s:S80):List S75→Nat→Bool × S91→Bool × S91
  | [],_,st=>st
  | b::r,j,st=>bF t c s r (j+1) (sF t c s st j b)
def ssF (n t:ByteArray) (l:List S75) (c:S84):List S80→Bool × S91→Bool × S91
  | [],st=>st
  | s::r,st=>ssF n t l c r (if s.f4.toList=n.toList then bF t c s l 0 st else st)
def cF (n t:ByteArray) (l:List S75):List S84→Bool × S91→Bool × S91
  | [],st=>st
  | c::r,st=>cF n t l r (ssF n t l c c.f2 st)
def Agree (n:ByteArray) (M:MS) (st:Bool × S91):Prop:=mhas M n=st.1∧(st.1=true→mget M n=st.2)
theorem agree_B {n t:ByteArray} {c:S84} {s:S80} (h:s.f4=n):∀ (r:List S75) (j:Nat) (M:MS) (st:Bool × S91),Agree n M st→Agree n (bM t c s r j M) (bF t c s r j st)
  | [],_,_,_,h1=>h1
  | b :: r,j,M,st,h1=>by
    refine agree_B h r (j+1) _ _ ?_
    unfold sB sF
    subst h;by_cases hc:(cl b c s).2=true
    · rw [if_pos hc,if_pos hc,h1.1];by_cases hs:st.1=true
      · rw [if_pos hs,if_pos hs,h1.2 hs]
        split
        · exact ⟨by simp [has_put],fun _=>get_put⟩
        · exact h1
      · rw [if_neg hs,if_neg hs];exact ⟨by simp [has_put],fun _=>get_put⟩
    · rw [if_neg hc,if_neg hc];exact h1
theorem agree_ne {n t:ByteArray} {c:S84} {s:S80} (h:s.f4≠n):∀ (r:List S75) (j:Nat) (M:MS) (st:Bool × S91),Agree n M st→Agree n (bM t c s r j M) st
  | [],_,_,_,h1=>h1
  | b :: r,j,M,st,h1=>by
    refine agree_ne h r (j+1) _ _ ?_;have put:∀ c:S91,Agree n (mput M s.f4 c) st:=fun c=>⟨by rw [has_put,h1.1];simp [h.symm],fun hs=>by rw [get_put_ne h.symm];exact h1.2 hs⟩
    unfold sB
    split
    · split
      · split
        · exact put _
        · exact h1
      · exact put _
    · exact h1
theorem agree_S {n t:ByteArray} {l:List S75} {c:S84} (hn:n≠t):∀ (r:List S80) (M:MS) (st:Bool × S91),Agree n M st→Agree n (sM t l c r M) (ssF n t l c r st)
  | [],_,_,h1=>h1
  | s :: r,M,st,h1=>by
    refine agree_S hn r _ _ ?_;by_cases ht:s.f4=t
    · rw [if_pos (toList_iff.2 ht),if_neg (fun h=>hn ((toList_iff.1 h).symm.trans ht))];exact h1
    · rw [if_neg (fun h=>ht (toList_iff.1 h))];by_cases hs:s.f4=n
      · rw [if_pos (toList_iff.2 hs)];exact agree_B hs l 0 M st h1
      · rw [if_neg (fun h=>hs (toList_iff.1 h))];exact agree_ne hs l 0 M st h1
theorem agree_C {n t:ByteArray} {l:List S75} (hn:n≠t):∀ (r:List S84) (M:MS) (st:Bool × S91),Agree n M st→Agree n (cM t l r M) (cF n t l r st)
  | [],_,_,h1=>h1
  | c::r,M,st,h1=>agree_C hn r _ _ (agree_S hn c.f2 M st h1)
theorem rdB {l:List S75} {i:Nat} (h:i<l.length):rd_T75 l (i:Int)=l[i]:=by
  unfold rd_T75
  simp [h]
theorem impl_cl (b:S75) (c:S84) (s:S80):Ev (fun k=>impl_ProbeClose.f k b.f0 b.f1 b.f2 b.f3 b.f4 b.f5 c.f0 c.f1 s.f2 s.f3 s.f0 s.f1) (cl b c s):=impl_close ..
theorem ahead_is (x y u v:ByteArray) (t i a p q r:Int):impl_ProbeClash_ahead.f x y t i a u v p q r=some (ahd t i a ⟨u,v,p,q,r⟩):=by
  unfold impl_ProbeClash_ahead.f ahd
  split
  · split<;>rfl
  · rfl
theorem ask_l2 (C:List S84) (i:Nat) (S:List S80) {j:Nat} (hj:j<S.length) (hS:S.length≤1048576) (t:ByteArray) (l:List S75) (hl:l.length≤1048576) (c:S84) (s:S80):∀ n:Nat,n≤l.length→∀ (M:MS) (R:List S91),
    Ev (fun k=>impl_ProbeAsk.l1 k C (C.length:Int) (i:Int) S (S.length:Int) ((j+1:Nat):Int) t l (bM t c s (l.drop n) n M) c.f0 c.f1 c.f2) R →
    Ev (fun k=>impl_ProbeAsk.l2 k C (C.length:Int) (i:Int) S (S.length:Int) (j:Int) l (l.length:Int) (n:Int) t l M c.f0 c.f1 c.f2 s.f0 s.f1 s.f2 s.f3 s.f4 s.f5 c.f0 c.f1 s.f2 s.f3 s.f0 s.f1) R :=
  drop_ind l (P:=fun n r=>∀ (M:MS) (R:List S91),Ev (fun k=>impl_ProbeAsk.l1 k C (C.length:Int) (i:Int) S (S.length:Int) ((j+1:Nat):Int) t l (bM t c s r n M) c.f0 c.f1 c.f2) R→Ev (fun k=>impl_ProbeAsk.l2 k C (C.length:Int) (i:Int) S (S.length:Int) (j:Int) l (l.length:Int) (n:Int) t l M c.f0 c.f1 c.f2 s.f0 s.f1 s.f2 s.f3 s.f4 s.f5 c.f0 c.f1 s.f2 s.f3 s.f0 s.f1) R)
    (fun M R h=>Ev.step (fun k=>impl_ProbeAsk.l2.eq_2 ..) (Ev.neg (by omega) (Ev.congr (fun k=>by rw [w64 hj (by omega)];rfl) h)))
    (fun n hn ih M R h=>by
      refine Ev.step (fun k=>impl_ProbeAsk.l2.eq_2 ..) (Ev.pos (by omega) (Ev.pos (by omega) (Ev.pos (by omega) ?_)));rw [rdB hn,w64 hn (by omega)];refine Ev.bind (impl_cl l[n] c s) ?_;simp only [ahead_is,Option.bind_some];refine Ev.congr (fun k=>?_) (ih (sB t c s M n l[n]) R h)
      unfold sB
      by_cases h1:(cl l[n] c s).2=true
      · rw [if_pos h1,if_pos h1];by_cases h2:mhas M s.f4=true
        · rw [if_pos h2,if_pos h2];by_cases h3:ahd (cl l[n] c s).1 n s.f5 (mget M s.f4)=true
          · rw [if_pos h3,if_pos h3]
          · rw [if_neg h3,if_neg h3]
        · rw [if_neg h2,if_neg h2]
      · rw [if_neg h1,if_neg h1])
theorem ask_l1 (C:List S84) (hC:C.length≤1048576) {i:Nat} (hi:i<C.length) (hS:C[i].f2.length≤1048576) (t:ByteArray) (l:List S75) (hl:l.length≤1048576):∀ j:Nat,j≤C[i].f2.length→∀ (M:MS) (R:List S91),
    Ev (fun k=>impl_ProbeAsk.l0 k C (C.length:Int) ((i+1:Nat):Int) t l (sM t l C[i] (C[i].f2.drop j) M)) R →
    Ev (fun k=>impl_ProbeAsk.l1 k C (C.length:Int) (i:Int) C[i].f2 (C[i].f2.length:Int) (j:Int) t l M C[i].f0 C[i].f1 C[i].f2) R :=
  drop_ind C[i].f2 (P:=fun j r=>∀ (M:MS) (R:List S91),Ev (fun k=>impl_ProbeAsk.l0 k C (C.length:Int) ((i+1:Nat):Int) t l (sM t l C[i] r M)) R→Ev (fun k=>impl_ProbeAsk.l1 k C (C.length:Int) (i:Int) C[i].f2 (C[i].f2.length:Int) (j:Int) t l M C[i].f0 C[i].f1 C[i].f2) R)
    (fun M R h=>by
      refine Ev.step (fun k=>impl_ProbeAsk.l1.eq_2 ..) (Ev.neg (Int.lt_irrefl _) ?_);rw [w64 hi (by omega)];exact h)
    (fun j hj ih M R h=>by
      refine Ev.step (fun k=>impl_ProbeAsk.l1.eq_2 ..) (Ev.pos (by omega) (Ev.pos (by omega) (Ev.pos (by omega) ?_)));rw [rd101 hj];by_cases ht:(C[i].f2[j]).f4.toList=t.toList
      · refine Ev.pos ht (Ev.congr (fun k=>by rw [w64 hj (by omega)]) (ih M R ?_));rw [sM,if_pos ht] at h;exact h
      · refine Ev.neg ht (ask_l2 C i C[i].f2 hj hS t l hl C[i] C[i].f2[j] 0 (by omega) M R (ih _ R ?_));rw [sM,if_neg ht] at h;exact h)
theorem ask_l0 (C:List S84) (hC:C.length≤1048576) (hS:∀ c∈C,c.f2.length≤1048576) (t:ByteArray) (l:List S75) (hl:l.length≤1048576):∀ i:Nat,i≤C.length→∀ (M:MS) (R:List S91),
    Ev (fun k=>(mnames (cM t l (C.drop i) M)).bind fun q=>impl_ProbeAsk.l3 k [] q (q.length:Int) 0 (cM t l (C.drop i) M)) R →
    Ev (fun k=>impl_ProbeAsk.l0 k C (C.length:Int) (i:Int) t l M) R :=
  drop_ind C (P:=fun i r=>∀ (M:MS) (R:List S91),Ev (fun k=>(mnames (cM t l r M)).bind fun q=>impl_ProbeAsk.l3 k [] q (q.length:Int) 0 (cM t l r M)) R→Ev (fun k=>impl_ProbeAsk.l0 k C (C.length:Int) (i:Int) t l M) R)
    (fun M R h=>Ev.step (fun k=>impl_ProbeAsk.l0.eq_2 ..) (Ev.neg (by omega) h))
    (fun i hi ih M R h=>by
      refine Ev.step (fun k=>impl_ProbeAsk.l0.eq_2 ..) (Ev.pos (by omega) (Ev.pos (by omega) (Ev.pos (by omega) ?_)));rw [rd105 hi];exact ask_l1 C hC hi (hS _ (List.getElem_mem hi)) t l hl 0 (by omega) M R (ih _ R h))
theorem rdN {l:List ByteArray} {i:Nat} (h:i<l.length):rdOf ByteArray.empty l (i:Int)=l[i]:=by
  unfold rdOf
  simp [h]
theorem ask_l3 (N:List ByteArray) (hN:N.length≤1000000000) (M:MS):∀ i:Nat,i≤N.length→∀ acc:List S91,acc.length≤i→Ev (fun k=>impl_ProbeAsk.l3 k acc N (N.length:Int) (i:Int) M) (acc++(N.drop i).map (mget M)) :=
  drop_ind N (P:=fun i r=>∀ acc:List S91,acc.length≤i→Ev (fun k=>impl_ProbeAsk.l3 k acc N (N.length:Int) (i:Int) M) (acc++r.map (mget M)))
    (fun acc h=>Ev.step (fun k=>impl_ProbeAsk.l3.eq_2 ..) (Ev.neg (by omega) (Ev.is (by simp))))
    (fun i hi ih acc h=>by
      refine Ev.step (fun k=>impl_ProbeAsk.l3.eq_2 ..) (Ev.pos (by omega) (Ev.pos (by omega) (Ev.pos (by omega) (Ev.pos (by omega) ?_))));rw [rdN hi,w64 hi (by omega)];exact Ev.eq (ih (acc++[mget M N[i]]) (by simp;omega)) (by rw [List.append_assoc];rfl))
theorem impl_ask (C:List S84) (hC:C.length≤1048576) (hS:∀ c∈C,c.f2.length≤1048576) (t:ByteArray) (l:List S75) (hl:l.length≤1048576) {N:List ByteArray} (hN:mnames (cM t l C [])=some N) (hN':N.length≤1000000000) :
    Ev (fun k=>impl_ProbeAsk.f k C t l) (if tubeOk t l=true then N.map (mget (cM t l C [])) else []):=by
  unfold impl_ProbeAsk.f
  refine Ev.bind (impl_tube t l) ?_;by_cases h:tubeOk t l=true
  · rw [if_pos h];refine Ev.pos h (ask_l0 C hC hS t l hl 0 (by omega) [] _ ?_);simp only [List.drop_zero,hN,Option.bind_some];exact Ev.eq (ask_l3 N hN' _ 0 (by omega) [] (by simp)) (by simp)
  · rw [if_neg h];exact Ev.neg h (Ev.now _)
def nS:List S80→List ByteArray→List ByteArray
  | [],N=>N
  | s::r,N=>nS r (insN s.f4 N)
def nC:List S84→List ByteArray→List ByteArray
  | [],N=>N
  | c::r,N=>nC r (nS c.f2 N)
theorem len_nS:∀ (r:List S80) (N:List ByteArray),(nS r N).length≤N.length+r.length
  | [],N=>by simp [nS]
  | s :: r,N=>by
    have:=len_nS r (insN s.f4 N);have:=len_insN (s:=s.f4) (l:=N);simp only [nS,List.length_cons];omega
def cntS:List S84→Nat
  | []=>0
  | c::r=>c.f2.length+cntS r
def st0:Bool × S91:=(false,⟨⟨#[]⟩,⟨#[]⟩,0,0,0⟩)
def askS (C:List S84) (t:ByteArray) (l:List S75) (N:List ByteArray):List S91:=(N.filter fun n=>(cF n t l C st0).1 && !decide (n.toList=t.toList)).map fun n=>(cF n t l C st0).2
theorem askS_cons (C:List S84) (t:ByteArray) (l:List S75) (n:ByteArray) (r:List ByteArray):askS C t l (n::r)=(if (cF n t l C st0).1=true then (if n.toList=t.toList then [] else [(cF n t l C st0).2]) else [])++askS C t l r:=by
  unfold askS
  by_cases h1:(cF n t l C st0).1=true
  · by_cases h2:n.toList=t.toList<;>simp [h1,h2]
  · simp [h1]
theorem len_nC:∀ (C:List S84) (N:List ByteArray),(nC C N).length≤N.length+cntS C
  | [],N=>by simp [nC,cntS]
  | c :: r,N=>by
    have:=len_nC r (nS c.f2 N);have:=len_nS c.f2 N;simp only [nC,cntS];omega
theorem asc_nS:∀ (r:List S80) {N:List ByteArray},Asc2 N→Asc2 (nS r N)
  | [],_,h=>h
  | s::r,_,h=>asc_nS r (asc_insN h)
theorem asc_nC:∀ (C:List S84) {N:List ByteArray},Asc2 N→Asc2 (nC C N)
  | [],_,h=>h
  | c::r,_,h=>asc_nC r (asc_nS c.f2 h)
theorem mem_nS {n:ByteArray} : ∀ (r:List S80) {N:List ByteArray},n∈N∨(∃ s∈r,s.f4=n)→n∈nS r N
  | [],_,h=>by simpa [nS] using h
  | s :: r,_,h=>by
    refine mem_nS r ?_
    rcases h with h | ⟨s',hs,rfl⟩
    · exact .inl (mem_insN.2 (.inr h))
    · rcases List.mem_cons.1 hs with rfl | hs
      · exact .inl (mem_insN.2 (.inl rfl))
      · exact .inr ⟨_,hs,rfl⟩
theorem mem_nC {n:ByteArray} : ∀ (C:List S84) {N:List ByteArray},n∈N∨(∃ c∈C,∃ s∈c.f2,s.f4=n)→n∈nC C N
  | [],_,h=>by simpa [nC] using h
  | c :: r,_,h=>by
    refine mem_nC r ?_
    rcases h with h | ⟨c',hc,hs⟩
    · exact .inl (mem_nS _ (.inl h))
    · rcases List.mem_cons.1 hc with rfl | hc
      · exact .inl (mem_nS _ (.inr hs))
      · exact .inr ⟨_,hc,hs⟩
def KeysIn (M:MS) (P:ByteArray→Prop):Prop:=(M.map Prod.fst).Nodup∧∀ n∈M.map Prod.fst,P n
theorem keys_in_put {M:MS} {P:ByteArray→Prop} {s:ByteArray} {c:S91} (h:KeysIn M P) (hs:P s):KeysIn (mput M s c) P:=by
  refine ⟨nodup_put h.1,fun n hn=>?_⟩;rw [keys_put] at hn
  split at hn
  · exact h.2 n hn
  · rcases List.mem_append.1 hn with hn | hn
    · exact h.2 n hn
    · rw [List.mem_singleton.1 hn];exact hs
theorem keys_B {t:ByteArray} {c:S84} {s:S80} {P:ByteArray→Prop} (hs:P s.f4):∀ (r:List S75) (j:Nat) (M:MS),KeysIn M P→KeysIn (bM t c s r j M) P
  | [],_,_,h=>h
  | b :: r,j,M,h=>by
    refine keys_B hs r (j+1) _ ?_
    unfold sB
    split
    · split
      · split
        · exact keys_in_put h hs
        · exact h
      · exact keys_in_put h hs
    · exact h
theorem keys_S {t:ByteArray} {l:List S75} {c:S84} {P:ByteArray→Prop} : ∀ (r:List S80) (M:MS),(∀ s∈r,s.f4≠t→P s.f4)→KeysIn M P→KeysIn (sM t l c r M) P
  | [],_,_,h=>h
  | s :: r,M,hP,h=>by
    refine keys_S r _ (fun s' hs=>hP s' (List.mem_cons_of_mem _ hs)) ?_
    split
    · exact h
    · rename_i hne
      exact keys_B (hP s List.mem_cons_self (fun e=>hne (by rw [e]))) l 0 M h
theorem keys_C {t:ByteArray} {l:List S75} {P:ByteArray→Prop} : ∀ (r:List S84) (M:MS),(∀ c∈r,∀ s∈c.f2,s.f4≠t→P s.f4)→KeysIn M P→KeysIn (cM t l r M) P
  | [],_,_,h=>h
  | c::r,M,hP,h=>keys_C r _ (fun c' hc=>hP c' (List.mem_cons_of_mem _ hc)) (keys_S c.f2 M (hP c List.mem_cons_self) h)
theorem ba_eta (n:ByteArray):(⟨n.data.toList.toArray⟩:ByteArray)=n:=by cases n;rfl
theorem mem_sorted' {M:MS} {n:ByteArray} : n∈sorted (keyL M)↔n∈M.map Prod.fst:=by
  unfold sorted keyL
  simp only [List.mem_map,List.mem_mergeSort]
  constructor
  · rintro ⟨_,⟨p,hp,rfl⟩,rfl⟩
    exact ⟨p,hp,(ba_eta _).symm⟩
  · rintro ⟨p,hp,rfl⟩
    exact ⟨_,⟨p,hp,rfl⟩,ba_eta _⟩
theorem asc_sorted {M:MS} (h:(M.map Prod.fst).Nodup):Asc2 (sorted (keyL M)):=by
  have tr:∀ a b c:List UInt8,leB a b=true→leB b c=true→leB a c=true:=fun a b c h1 h2=>by simp only [leB,decide_eq_true_eq] at *;exact List.le_trans h1 h2
  have tot:∀ a b:List UInt8,(leB a b || leB b a)=true:=fun a b=>by simp only [leB,Bool.or_eq_true,decide_eq_true_eq];exact List.le_total a b
  have hn:(keyL M).Nodup:=by
    unfold keyL
    refine List.pairwise_map.2 ((List.pairwise_map.1 h).imp fun {p q} hne e=>hne ?_);rw [← ba_eta p.1,← ba_eta q.1,e]
  have hn2:((keyL M).mergeSort leB).Nodup:=(List.mergeSort_perm (keyL M) leB).nodup_iff.2 hn
  unfold Asc2 sorted
  refine List.pairwise_map.2 (((List.pairwise_mergeSort tr tot (keyL M)).and hn2).imp fun {a b} hab=>?_);obtain ⟨h1,h2⟩:=hab;have h1':a≤b:=by simpa [leB] using h1
  show a<b
  rcases Decidable.em (a<b) with h3 | h3
  · exact h3
  · exact absurd (List.le_antisymm h1' h3) h2
theorem ask_same (C:List S84) (t:ByteArray) (l:List S75) (hN:cntS C≤1000000000) (hz:∀ c∈C,∀ s∈c.f2,s.f4.size≤1000000000) :
    ∃ N,mnames (cM t l C [])=some N∧N.length≤1000000000∧N.map (mget (cM t l C []))=askS C t l (nC C []):=by
  have hk:KeysIn (cM t l C []) (fun n=>(∃ c∈C,∃ s∈c.f2,s.f4=n)∧n≠t):=keys_C C [] (fun c hc s hs hne=>⟨⟨c,hc,s,hs,rfl⟩,hne⟩) ⟨by simp,by simp⟩;have hag:∀ n,n≠t→Agree n (cM t l C []) (cF n t l C st0):=fun n hn=>agree_C hn C [] st0 ⟨rfl,fun h=>by cases h⟩
  have hmem:∀ n,n∈(cM t l C []).map Prod.fst↔n∈(nC C []).filter fun n=>(cF n t l C st0).1 && !decide (n.toList=t.toList):=by
    intro n;rw [List.mem_filter,Bool.and_eq_true,Bool.not_eq_true',decide_eq_false_iff_not,toList_iff]
    constructor
    · intro h;have hp:=hk.2 n h;exact ⟨mem_nC C (.inr hp.1),by rw [← (hag n hp.2).1];exact has_iff.2 h,hp.2⟩
    · rintro ⟨_,h1,h2⟩
      exact has_iff.1 (by rw [(hag n h2).1];exact h1)
  have hasc:Asc2 ((nC C []).filter fun n=>(cF n t l C st0).1 && !decide (n.toList=t.toList)):=(asc_nC C (N:=[]) (by simp [Asc2])).filter _;have heq:sorted (keyL (cM t l C []))=(nC C []).filter fun n=>(cF n t l C st0).1 && !decide (n.toList=t.toList):=asc_eq (asc_sorted hk.1) hasc (fun n=>by rw [mem_sorted',hmem n])
  have hlen:(sorted (keyL (cM t l C []))).length≤1000000000:=by
    rw [heq];have:=List.length_filter_le (fun n=>(cF n t l C st0).1 && !decide (n.toList=t.toList)) (nC C []);have:=len_nC C [];simp only [List.length_nil,Nat.zero_add] at this;omega
  have hlM:(cM t l C []).length≤1000000000:=by rw [Mp.sorted_len] at hlen;simpa [keyL] using hlen
  refine ⟨sorted (keyL (cM t l C [])),?_,hlen,?_⟩
  · unfold mnames
    have hz':∀ p∈cM t l C [],p.1.size≤1000000000:=by
      intro p hp;obtain ⟨⟨c,hc,s,hs,e⟩,_⟩:=hk.2 p.1 (List.mem_map_of_mem hp);rw [← e];exact hz c hc s hs
    rw [if_pos ⟨hz',hk.1,hlM⟩]
  · unfold askS
    rw [heq];refine List.map_congr_left fun n hn=>?_;rw [List.mem_filter,Bool.and_eq_true,Bool.not_eq_true',decide_eq_false_iff_not,toList_iff] at hn;exact (hag n hn.2.2).2 hn.2.1
end Go.Proofs.YtgklmafdbgnohaaGreat.Q
end
section
namespace Go.Proofs.YtgklmafdbgnohaaGreat.Pure
open Go.RowKit Go.Proofs.YtgklmafdbgnohaaGreat.PA Go.Proofs.YtgklmafdbgnohaaGreat.Q Go.Proofs.YtgklmafdbgnohaaGreatW.PrintWords Go.Proofs.YtgklmafdbgnohaaGreatW.PrintLast
def cntZ:List S133→Nat
  | []=>0
  | c::r=>c.f2.length+cntZ r
theorem sz_slots_l (l:List S184) (hl:l.length≤9223372036854775807) (hg:∀ x∈l,g_slot x):∀ i:Nat,i≤l.length→∀ n:Int,0≤n→n≤1048576→∃ m:Int,Ev (fun k=>laws_szProbeSlotS.l0 k l n (i:Int)) m∧(m = -1∨(0≤m∧m≤n∧∀ x∈l.drop i,x.f4.size≤1048576)) :=
  drop_ind l (P:=fun i r=>∀ n:Int,0≤n→n≤1048576→∃ m:Int,Ev (fun k=>laws_szProbeSlotS.l0 k l n (i:Int)) m∧(m = -1∨(0≤m∧m≤n∧∀ x∈r,x.f4.size≤1048576)))
    (fun n h0 h1=>⟨n,Ev.step (fun k=>laws_szProbeSlotS.l0.eq_2 ..) (Ev.neg (by omega) (Ev.is rfl)), .inr ⟨h0,Int.le_refl _,by simp⟩⟩)
    (fun i hi ih n h0 h1=>by
      have hx:l[i].f4.size≤maxLen:=(hg _ (List.getElem_mem hi)).2.2.2.2.1
      unfold maxLen at hx
      have hf:laws_szProbeSlot.f l[i].f0 l[i].f1 l[i].f2 l[i].f3 l[i].f4 l[i].f5 n=if n - (l[i].f4.size:Int)<0 then some (-1) else some (n - (l[i].f4.size:Int)):=by
        unfold laws_szProbeSlot.f
        rw [wsub h0 h1 (by omega) (by omega)]
      by_cases h:n - (l[i].f4.size:Int)<0
      · refine ⟨-1,Ev.step (fun k=>laws_szProbeSlotS.l0.eq_2 ..) (Ev.pos (by omega) (Ev.pos (by omega) ?_)), .inl rfl⟩;rw [rd182 hi,hf,if_pos h];exact Ev.bind (Ev.now _) (Ev.pos (by omega) (Ev.now _))
      · obtain ⟨m,hm,hr⟩:=ih (n - (l[i].f4.size:Int)) (by omega) (by omega);refine ⟨m,Ev.step (fun k=>laws_szProbeSlotS.l0.eq_2 ..) (Ev.pos (by omega) (Ev.pos (by omega) ?_)),hr.imp id (fun ⟨a,b,c⟩=>⟨a,by omega,fun x hx=>?_⟩)⟩
        · rw [rd182 hi,hf,if_neg h,w64 hi hl];exact Ev.bind (Ev.now _) (Ev.neg (by omega) hm)
        · rcases List.mem_cons.1 hx with rfl | hx
          · omega
          · exact c x hx)
theorem sz_slots (l:List S184) (hg:g_slots l) {n:Int} (h0:0≤n) (h1:n≤1048576):∃ m:Int,Ev (fun k=>laws_szProbeSlotS.f k l n) m∧(m = -1∨(0≤m∧m≤n - l.length∧∀ x∈l,x.f4.size≤1048576)):=by
  have hl:=hg.1
  unfold maxLen at hl
  have hw:wrap64 (n - (l.length:Int))=n - (l.length:Int):=wsub (by omega) (by omega) (by omega) (by omega);by_cases h:n - (l.length:Int)<0
  · refine ⟨-1,?_, .inl rfl⟩
    unfold laws_szProbeSlotS.f
    rw [hw];exact Ev.pos h (Ev.now _)
  · obtain ⟨m,hm,hr⟩:=sz_slots_l l (by omega) hg.2 0 (by omega) (n - (l.length:Int)) (by omega) (by omega);refine ⟨m,?_,hr.imp id (fun ⟨a,b,c⟩=>⟨a,b,by simpa using c⟩)⟩
    unfold laws_szProbeSlotS.f
    rw [hw];exact Ev.neg h hm
theorem sz_cells_l (l:List S133) (hl:l.length≤9223372036854775807) (hg:∀ x∈l,g_cell x):∀ i:Nat,i≤l.length→∀ n:Int,0≤n→n≤1048576→∃ m:Int,Ev (fun k=>laws_szProbeCellS.l0 k l n (i:Int)) m∧(m = -1∨(0≤m∧m≤n - cntZ (l.drop i)∧∀ c∈l.drop i,∀ x∈c.f2,x.f4.size≤1048576)) :=
  drop_ind l (P:=fun i r=>∀ n:Int,0≤n→n≤1048576→∃ m:Int,Ev (fun k=>laws_szProbeCellS.l0 k l n (i:Int)) m∧(m = -1∨(0≤m∧m≤n - cntZ r∧∀ c∈r,∀ x∈c.f2,x.f4.size≤1048576)))
    (fun n h0 h1=>⟨n,Ev.step (fun k=>laws_szProbeCellS.l0.eq_2 ..) (Ev.neg (by omega) (Ev.is rfl)), .inr ⟨h0,by simp [cntZ],by simp⟩⟩)
    (fun i hi ih n h0 h1=>by
      obtain ⟨m,hm,hr⟩:=sz_slots l[i].f2 (hg _ (List.getElem_mem hi)).2.2 h0 h1
      have hc:Ev (fun k=>laws_szProbeCell.f k l[i].f0 l[i].f1 l[i].f2 n) m:=by
        unfold laws_szProbeCell.f
        refine Ev.bind hm ?_
        rcases hr with rfl | ⟨a,_⟩
        · exact Ev.pos (by omega) (Ev.now _)
        · exact Ev.neg (by omega) (Ev.now _)
      rcases hr with rfl | ⟨a,b,c⟩
      · refine ⟨-1,Ev.step (fun k=>laws_szProbeCellS.l0.eq_2 ..) (Ev.pos (by omega) (Ev.pos (by omega) ?_)), .inl rfl⟩;rw [rd147 hi];exact Ev.bind hc (Ev.pos (by omega) (Ev.now _))
      · obtain ⟨m',hm',hr'⟩:=ih m a (by omega);refine ⟨m',Ev.step (fun k=>laws_szProbeCellS.l0.eq_2 ..) (Ev.pos (by omega) (Ev.pos (by omega) ?_)),hr'.imp id (fun ⟨a',b',c'⟩=>⟨a',by simp only [cntZ];omega,fun x hx=>?_⟩)⟩
        · rw [rd147 hi,w64 hi hl];exact Ev.bind hc (Ev.neg (by omega) hm')
        · rcases List.mem_cons.1 hx with rfl | hx
          · exact c
          · exact c' x hx)
theorem cntZ_mem:∀ {l:List S133} {c:S133},c∈l→c.f2.length≤cntZ l
  | d :: r,c,h=>by
    rcases List.mem_cons.1 h with rfl | h
    · simp [cntZ]
    · have:=cntZ_mem h;simp only [cntZ];omega
theorem sz_index (l:List S133) (hg:g_index l):∃ m:Int,Ev (fun k=>laws_szProbeIndex.f k l 1048576) m∧(m = -1∨(0≤m∧m≤1048576∧l.length≤1048576∧cntZ l≤1048576∧∀ c∈l,∀ x∈c.f2,x.f4.size≤1048576)):=by
  have hl:=hg.1
  unfold maxLen at hl
  have hw:wrap64 (1048576 - (l.length:Int))=1048576 - (l.length:Int):=wsub (by omega) (by omega) (by omega) (by omega)
  have key:∃ m:Int,Ev (fun k=>laws_szProbeCellS.f k l 1048576) m∧(m = -1∨(0≤m∧m≤1048576∧l.length≤1048576∧cntZ l≤1048576∧∀ c∈l,∀ x∈c.f2,x.f4.size≤1048576)):=by
    by_cases h:1048576 - (l.length:Int)<0
    · refine ⟨-1,?_, .inl rfl⟩
      unfold laws_szProbeCellS.f
      rw [hw];exact Ev.pos h (Ev.now _)
    · obtain ⟨m,hm,hr⟩:=sz_cells_l l (by omega) hg.2 0 (by omega) (1048576 - (l.length:Int)) (by omega) (by omega);refine ⟨m,?_,hr.imp id (fun ⟨a,b,c⟩=>⟨a,by omega,by omega,by simp only [List.drop_zero] at b;omega,by simpa using c⟩)⟩
      unfold laws_szProbeCellS.f
      rw [hw];exact Ev.neg h hm
  obtain ⟨m,hm,hr⟩:=key;refine ⟨m,?_,hr⟩
  unfold laws_szProbeIndex.f
  refine Ev.bind hm ?_
  rcases hr with rfl | ⟨a,_⟩
  · exact Ev.pos (by omega) (Ev.now _)
  · exact Ev.neg (by omega) (Ev.now _)
end Go.Proofs.YtgklmafdbgnohaaGreat.Pure
end
section
namespace Go.Proofs.YtgklmafdbgnohaaGreat.Q
open Go.RowKit Go.Proofs.YtgklmafdbgnohaaGreat.PA Go.Proofs.YtgklmafdbgnohaaGreatW.PrintWords Go.Proofs.YtgklmafdbgnohaaGreatW.PrintLast Go.Proofs.YtgklmafdbgnohaaGreatW.PrintMore
noncomputable def markS:List S80→Int→List S80
  | [],_=>[]
  | _::r,K=>⟨K,K+1,K+2,K+3,mt (K+4),K+5⟩::markS r (K+6)
theorem wsix {K:Int} (h0:0≤K) (h1:K≤900000000000000):wrap64 (K+1)=K+1∧wrap64 (K+1+1)=K+2∧wrap64 (K+2+1)=K+3∧wrap64 (K+3+1)=K+4∧wrap64 (K+4+1)=K+5∧wrap64 (K+5+1)=K+6 :=
  ⟨w1 h0 (by omega),by rw [w1 (by omega) (by omega)];omega,by rw [w1 (by omega) (by omega)];omega,by rw [w1 (by omega) (by omega)];omega,by rw [w1 (by omega) (by omega)];omega,by rw [w1 (by omega) (by omega)];omega⟩
theorem mark_s:∀ (r pre:List S80) (K:Int),0≤K→K+6 * r.length≤100000000000000→pre.length+r.length≤100000000→Ev (fun k=>laws_markProbeSlotS.l0 k (pre++r) K (pre.length:Int)) (K+6 * r.length,pre++markS r K)
  | [],pre,K,_,_,_=>by
    refine Ev.step (f:=fun _=>some (K,pre++[])) (fun k=>?_) (Ev.is (by simp [markS]));simp only [laws_markProbeSlotS.l0];rw [if_neg (by simp)]
  | x :: r,pre,K,h0,h1,h2=>by
    simp only [List.length_cons] at h1 h2;obtain ⟨e1,e2,e3,e4,e5,e6⟩:=wsix (K:=K) h0 (by omega);have ih:=mark_s r (pre++[⟨K,K+1,K+2,K+3,mt (K+4),K+5⟩]) (K+6) (by omega) (by omega) (by simp;omega);have hg:∀ v:S80,rd_T80 (pre++v::r) (pre.length:Int)=v:=fun v=>by unfold rd_T80;simp [List.getD]
    have hset:∀ u v:S80,(pre++u::r).set ((pre.length:Int)).toNat v=pre++v::r:=fun u v=>by simp
    refine Ev.step (f:=fun k=>(laws_markText.f k (K+4)).bind fun t=>laws_markProbeSlotS.l0 k (pre++⟨K,K+1,K+2,K+3,t,K+5⟩::r) (K+6) ((pre.length+1:Nat):Int)) (fun k=>?_) (Ev.bind (mt_ev (by omega)) ?_)
    · simp only [laws_markProbeSlotS.l0];rw [if_pos (by simp;omega),if_pos (by omega)];simp only [Option.bind_some,e1,e2,e3,e4,e5,e6,hset,hg];rw [w64 (n:=pre.length+1) (by omega) (by omega)]
    · refine Ev.eq (Ev.congr (fun k=>?_) ih) (by simp only [List.length_cons,markS,List.append_assoc,List.cons_append,List.nil_append,Prod.mk.injEq,and_true];omega);simp
theorem mark_slots (l:List S80) (hl:l.length≤1048576) {K:Int} (h0:0≤K) (h1:K+6 * l.length≤100000000000000):Ev (fun k=>laws_markProbeSlotS.f k l K) (K+6 * l.length,markS l K):=by
  unfold laws_markProbeSlotS.f
  exact mark_s l [] K h0 h1 (by simp;omega)
def cntI:List S84→Int
  | []=>0
  | c::r=>2+6 * c.f2.length+cntI r
theorem cntI_le:∀ {l:List S84},(∀ c∈l,c.f2.length≤1048576)→0≤cntI l∧cntI l≤8000000 * (l.length:Int)
  | [],_=>by simp [cntI]
  | c :: r,h=>by
    have h1:=cntI_le (l:=r) (fun x hx=>h x (by simp [hx]));have h2:=h c (by simp);simp only [cntI,List.length_cons];omega
noncomputable def markI:List S84→Int→List S84
  | [],_=>[]
  | c::r,K=>⟨K,K+1,markS c.f2 (K+2)⟩::markI r (K+2+6 * c.f2.length)
theorem mark_c:∀ (r pre:List S84) (K:Int),0≤K→K+cntI r≤100000000000000→pre.length+r.length≤100000000→(∀ c∈r,c.f2.length≤1048576)→Ev (fun k=>laws_markProbeCellS.l0 k (pre++r) K (pre.length:Int)) (K+cntI r,pre++markI r K)
  | [],pre,K,_,_,_,_=>by
    refine Ev.step (f:=fun _=>some (K,pre++[])) (fun k=>?_) (Ev.is (by simp [markI,cntI]));simp only [laws_markProbeCellS.l0];rw [if_neg (by simp)]
  | c :: r,pre,K,h0,h1,h2,h3=>by
    have hc:=h3 c (by simp);have hr:=cntI_le (l:=r) (fun x hx=>h3 x (by simp [hx]));simp only [List.length_cons,cntI] at h1 h2;obtain ⟨e1,e2,_,_,_,_⟩:=wsix (K:=K) h0 (by omega);have ih:=mark_c r (pre++[⟨K,K+1,markS c.f2 (K+2)⟩]) (K+2+6 * c.f2.length) (by omega) (by omega) (by simp;omega) (fun x hx=>h3 x (by simp [hx]));have hg:∀ v:S84,rd_T84 (pre++v::r) (pre.length:Int)=v:=fun v=>by unfold rd_T84;simp [List.getD]
    have hset:∀ u v:S84,(pre++u::r).set ((pre.length:Int)).toNat v=pre++v::r:=fun u v=>by simp
    refine Ev.step (f:=fun k=>(laws_markProbeSlotS.f k c.f2 (K+2)).bind fun b=>laws_markProbeCellS.l0 k (pre++⟨K,K+1,b.2⟩::r) b.1 ((pre.length+1:Nat):Int)) (fun k=>?_) (Ev.bind (mark_slots c.f2 hc (by omega) (by omega)) ?_)
    · simp only [laws_markProbeCellS.l0];rw [if_pos (by simp;omega),if_pos (by omega)];simp only [Option.bind_some,e1,e2,hset,hg];rw [w64 (n:=pre.length+1) (by omega) (by omega)]
    · refine Ev.eq (Ev.congr (fun k=>?_) ih) (by simp only [cntI,markI,List.append_assoc,List.cons_append,List.nil_append,Prod.mk.injEq,and_true];omega);simp
theorem mark_indexI (l:List S84) (hl:l.length≤1048576) (hb:∀ c∈l,c.f2.length≤1048576):Ev (fun k=>laws_markProbeIndex.f k l 1) (1+cntI l,markI l 1):=by
  have h:=cntI_le hb
  unfold laws_markProbeIndex.f
  have hf:Ev (fun k=>laws_markProbeCellS.f k l 1) (1+cntI l,markI l 1):=by
    unfold laws_markProbeCellS.f
    exact mark_c l [] 1 (by omega) (by omega) (by simp;omega) hb
  exact Ev.bind hf (Ev.now _)
theorem held_s:∀ (r pre:List S80) (K:Int),0≤K→K+6 * r.length≤100000000000000→pre.length+r.length≤100000000→Ev (fun k=>laws_heldProbeSlotS.l0 k (pre++markS r K) K (pre.length:Int)) (K+6 * r.length)
  | [],pre,K,_,_,_=>by
    refine Ev.step (f:=fun _=>some K) (fun k=>?_) (Ev.is (by simp));simp only [laws_heldProbeSlotS.l0,markS,List.append_nil];rw [if_neg (by omega)]
  | x :: r,pre,K,h0,h1,h2=>by
    simp only [List.length_cons] at h1 h2;obtain ⟨e1,e2,e3,e4,e5,e6⟩:=wsix (K:=K) h0 (by omega);have ih:=held_s r (pre++[⟨K,K+1,K+2,K+3,mt (K+4),K+5⟩]) (K+6) (by omega) (by omega) (by simp;omega);have hg:rd_T80 (pre++markS (x::r) K) (pre.length:Int)=⟨K,K+1,K+2,K+3,mt (K+4),K+5⟩:=by unfold rd_T80;simp [List.getD,markS]
    refine Ev.step (f:=fun k=>(laws_markText.f k (K+4)).bind fun t=>if (mt (K+4)).toList=t.toList then laws_heldProbeSlotS.l0 k (pre++markS (x::r) K) (K+6) ((pre.length+1:Nat):Int) else some (-1)) (fun k=>?_) (Ev.bind (mt_ev (by omega)) (Ev.pos rfl ?_))
    · simp only [laws_heldProbeSlotS.l0];rw [if_pos (by simp [markS];omega),if_pos (by omega),hg];simp only [e1,e2,e3,e4,e5,e6,if_true];rw [w64 (n:=pre.length+1) (by omega) (by omega)]
    · refine Ev.eq (Ev.congr (fun k=>?_) ih) (by simp only [List.length_cons];omega);simp [markS]
theorem held_slots (l:List S80) (hl:l.length≤1048576) {K:Int} (h0:0≤K) (h1:K+6 * l.length≤100000000000000):Ev (fun k=>laws_heldProbeSlotS.f k (markS l K) K) (K+6 * l.length):=by
  unfold laws_heldProbeSlotS.f
  exact held_s l [] K h0 h1 (by simp;omega)
theorem held_c:∀ (r pre:List S84) (K:Int),0≤K→K+cntI r≤100000000000000→pre.length+r.length≤100000000→(∀ c∈r,c.f2.length≤1048576)→Ev (fun k=>laws_heldProbeCellS.l0 k (pre++markI r K) K (pre.length:Int)) (K+cntI r)
  | [],pre,K,_,_,_,_=>by
    refine Ev.step (f:=fun _=>some K) (fun k=>?_) (Ev.is (by simp [cntI]));simp only [laws_heldProbeCellS.l0,markI,List.append_nil];rw [if_neg (by omega)]
  | c :: r,pre,K,h0,h1,h2,h3=>by
    have hc:=h3 c (by simp);have hr:=cntI_le (l:=r) (fun x hx=>h3 x (by simp [hx]));simp only [List.length_cons,cntI] at h1 h2;obtain ⟨e1,e2,_,_,_,_⟩:=wsix (K:=K) h0 (by omega);have ih:=held_c r (pre++[⟨K,K+1,markS c.f2 (K+2)⟩]) (K+2+6 * c.f2.length) (by omega) (by omega) (by simp;omega) (fun x hx=>h3 x (by simp [hx]));have hg:rd_T84 (pre++markI (c::r) K) (pre.length:Int)=⟨K,K+1,markS c.f2 (K+2)⟩:=by unfold rd_T84;simp [List.getD,markI]
    refine Ev.step (f:=fun k=>(laws_heldProbeSlotS.f k (markS c.f2 (K+2)) (K+2)).bind fun b=>if b<0 then some (-1) else laws_heldProbeCellS.l0 k (pre++markI (c::r) K) b ((pre.length+1:Nat):Int)) (fun k=>?_) (Ev.bind (held_slots c.f2 hc (by omega) (by omega)) (Ev.neg (by omega) ?_))
    · simp only [laws_heldProbeCellS.l0];rw [if_pos (by simp [markI];omega),if_pos (by omega),hg];simp only [e1,e2,if_true];rw [w64 (n:=pre.length+1) (by omega) (by omega)]
    · refine Ev.eq (Ev.congr (fun k=>?_) ih) (by simp only [cntI];omega);simp [markI]
theorem held_index (l:List S84) (hl:l.length≤1048576) (hb:∀ c∈l,c.f2.length≤1048576):Ev (fun k=>laws_heldProbeIndex.f k (markI l 1) 1) (1+cntI l):=by
  have h:=cntI_le hb
  unfold laws_heldProbeIndex.f
  refine Ev.bind (r:=1+cntI l) ?_ (Ev.neg (by omega) (Ev.now _))
  unfold laws_heldProbeCellS.f
  exact held_c l [] 1 (by omega) (by omega) (by simp;omega) hb
end Go.Proofs.YtgklmafdbgnohaaGreat.Q
end
section
namespace Go.Proofs.YtgklmafdbgnohaaGreat.Q
open Go.RowKit Go.Proofs.YtgklmafdbgnohaaGreat.PA Go.Proofs.YtgklmafdbgnohaaGreatW.PrintWords Go.Proofs.YtgklmafdbgnohaaGreatW.PrintLast Go.Proofs.YtgklmafdbgnohaaGreatW.PrintMore Go.Proofs.YtgklmafdbgnohaaGreat.Ik Go.Proofs.YtgklmafdbgnohaaGreat.Ix Go.Proofs.YtgklmafdbgnohaaGreat.Iw
def grp (E:List Ev) (c:Int × Int):List Sl:=(E.filter fun e=>decide (e.1=c)).map Prod.snd
theorem grp_snoc (E:List Ev) (e:Ev) (c:Int × Int):grp (E++[e]) c=if e.1=c then grp E c++[e.2] else grp E c:=by
  unfold grp
  by_cases h:e.1=c<;>simp [h]
theorem grp_none {E:List Ev} {c:Int × Int} (h:c ∉ E.map Prod.fst):grp E c=[]:=by
  unfold grp
  rw [List.filter_eq_nil_iff.2 fun e he=>by
    have:e.1≠c:=fun e'=>h (List.mem_map.2 ⟨e,he,e'⟩)
    simpa using this]
  rfl
theorem grp_nodup {E:List Ev} (h:(E.map fun e=>sk e.2).Nodup) (c:Int × Int):((grp E c).map sk).Nodup:=by
  unfold grp
  rw [List.map_map];exact ((List.filter_sublist (p:=fun e:Ev=>decide (e.1=c)) (l:=E)).map (fun e=>sk e.2)).nodup h
theorem find_iff (c:Int × Int):∀ (M:MQ) (i:Nat),(Mq.qfind c M i).isSome=true↔c∈M.map Prod.fst
  | [],i=>by simp [Mq.qfind]
  | p :: r,i=>by
    unfold Mq.qfind
    by_cases h:c=p.1
    · simp [h]
    · rw [if_neg h,find_iff c r (i+1)];simp [h]
structure InvM (M:MQ) (E:List Ev):Prop where
  n:(M.map Prod.fst).Nodup
  k:∀ c,c∈M.map Prod.fst↔c∈E.map Prod.fst
  g:∀ p∈M,p.2=grp E p.1
theorem keys_mapp (M:MQ) (c:Int × Int) (s:Sl):(Mq.mapp M c s).map Prod.fst=(Mq.madd c M).map Prod.fst:=by
  unfold Mq.mapp
  refine List.ext_getElem? fun i=>?_;simp only [List.getElem?_map,List.getElem?_modify]
  split
  · cases (Mq.madd c M)[i]? <;> rfl
  · cases (Mq.madd c M)[i]? <;> rfl
theorem inv_put {M:MQ} {E:List Ev} (h:InvM M E) (e:Ev):InvM (putM M e) (E++[e]):=by
  obtain ⟨c,s⟩:=e
  have hka:(Mq.madd c M).map Prod.fst=if c∈M.map Prod.fst then M.map Prod.fst else M.map Prod.fst++[c]:=by
    unfold Mq.madd
    by_cases hc:c∈M.map Prod.fst
    · rw [if_pos ((find_iff c M 0).2 hc),if_pos hc]
    · rw [if_neg (fun e=>hc ((find_iff c M 0).1 e)),if_neg hc];simp
  have hna:((Mq.madd c M).map Prod.fst).Nodup:=by
    rw [hka]
    split
    · exact h.n
    · rename_i hc
      exact List.nodup_append.2 ⟨h.n,by simp,fun a ha b hb=>by
        rw [List.mem_singleton] at hb;subst hb
        rintro rfl
        exact hc ha⟩
  have hga:∀ p∈Mq.madd c M,p.2=grp E p.1:=fun p hp=>by
    unfold Mq.madd at hp
    split at hp
    · exact h.g p hp
    · rename_i hf
      rcases List.mem_append.1 hp with hp | hp
      · exact h.g p hp
      · rw [List.mem_singleton] at hp;subst hp;have hc:c ∉ E.map Prod.fst:=fun e=>hf ((find_iff c M 0).2 ((h.k c).2 e));exact (grp_none hc).symm
  refine ⟨by show ((Mq.mapp M c s).map Prod.fst).Nodup;rw [keys_mapp];exact hna,fun d=>?_,fun p hp=>?_⟩
  · show d ∈ (Mq.mapp M c s).map Prod.fst↔_
    rw [keys_mapp,hka,List.map_append,List.mem_append];have hk:=h.k d
    split
    · rename_i hc
      constructor
      · exact fun hd => .inl (hk.1 hd)
      · rintro (hd | hd)
        · exact hk.2 hd
        · simp at hd
          rw [hd];exact hc
    · rw [List.mem_append,hk];simp
  · obtain ⟨j,hj⟩:=List.getElem?_of_mem hp;have hj':(Mq.mapp M c s)[j]? = some p:=hj
    unfold Mq.mapp at hj'
    rw [List.getElem?_modify] at hj';have hq:=Mq.madd_at c M;by_cases e:Mq.qidx c M=j
    · subst e;rw [hq] at hj'
      simp at hj'
      subst hj';rw [grp_snoc,if_pos rfl];have:=hga _ (List.mem_of_getElem? hq)
      simp only at this ⊢
      rw [this]
    · have hj2:(Mq.madd c M)[j]? = some p:=by simpa [e] using hj'
      have hne:c≠p.1:=fun e2=>by
        have h1:((Mq.madd c M).map Prod.fst)[Mq.qidx c M]? = some c:=by rw [List.getElem?_map,hq];rfl
        have h2:((Mq.madd c M).map Prod.fst)[j]? = some c:=by rw [List.getElem?_map,hj2,e2];rfl
        exact e ((List.getElem?_inj (List.getElem?_eq_some_iff.1 h1).1 hna).1 (h1.trans h2.symm))
      rw [grp_snoc,if_neg hne];exact hga p (List.mem_of_getElem? hj2)
theorem inv_fold (E:List Ev):∀ (M:MQ) (E0:List Ev),InvM M E0→InvM (E.foldl putM M) (E0++E):=by
  induction E with
  | nil=>intro M E0 h;simpa using h
  | cons e r ih =>
    intro M E0 h;have:=ih _ _ (inv_put h e)
    simpa [List.append_assoc] using this
theorem invM (E:List Ev):InvM (E.foldl putM []) E:=by
  have:=inv_fold E [] [] ⟨by simp,fun c=>by simp,fun p hp=>by simp at hp⟩
  simpa using this
theorem insS_perm (s:Sl):∀ l:List Sl,(insS s l).Perm (s::l)
  | [] => .refl _
  | x :: r=>by
    rw [insS]
    split
    · exact ((insS_perm s r).cons x).trans (List.Perm.swap s x r)
    · exact .refl _
abbrev SrtS (l:List Sl):Prop:=l.Pairwise fun a b=>slt (sk b) (sk a)=false
theorem insS_sorted (s:Sl):∀ {l:List Sl},SrtS l→SrtS (insS s l)
  | [],_=>by simp [insS,SrtS]
  | x :: r,h=>by
    have h1:=List.pairwise_cons.1 h;rw [insS]
    split
    · rename_i hx
      refine List.pairwise_cons.2 ⟨fun y hy=>?_,insS_sorted s h1.2⟩
      rcases List.mem_cons.1 ((insS_perm s r).mem_iff.1 hy) with rfl | hy
      · exact to_s.asym hx
      · exact h1.1 y hy
    · rename_i hx
      have hx:slt (sk x) (sk s)=false:=by simpa using hx
      refine List.pairwise_cons.2 ⟨fun y hy=>?_,h⟩
      rcases List.mem_cons.1 hy with rfl | hy
      · exact hx
      · exact to_s.nt _ _ _ (h1.1 y hy) hx
abbrev Asc (I:List Ce):Prop:=I.Pairwise fun a b=>clt (cp a) (cp b)=true
theorem insC_mem {c:Int × Int} {s:Sl} : ∀ {I:List Ce},Asc I→∀ x∈insC c s I,(x∈I∧cp x≠c)∨(cp x=c∧((∃ y∈I,cp y=c∧x.f2=insS s y.f2)∨((∀ y∈I,cp y≠c)∧x.f2=[s])))
  | [],_,x,hx=>by
    simp [insC] at hx
    subst hx;exact .inr ⟨rfl, .inr ⟨by simp,rfl⟩⟩
  | y :: r, h, x,hx=>by
    have h1:=List.pairwise_cons.1 h;rw [insC] at hx
    split at hx
    · rename_i hy
      have hyc:cp y≠c:=fun e=>by rw [e,to_c.irr] at hy;cases hy
      rcases List.mem_cons.1 hx with rfl | hx
      · exact .inl ⟨by simp,hyc⟩
      · rcases insC_mem h1.2 x hx with ⟨ha,hb⟩ | ⟨ha,⟨z,hz,hzc,he⟩ | ⟨hn,he⟩⟩
        · exact .inl ⟨by simp [ha],hb⟩
        · exact .inr ⟨ha, .inl ⟨z,by simp [hz],hzc,he⟩⟩
        · exact .inr ⟨ha, .inr ⟨fun z hz=>by
            rcases List.mem_cons.1 hz with rfl | hz
            · exact hyc
            · exact hn z hz,he⟩⟩
    · rename_i hy
      have hy:clt (cp y) c=false:=by simpa using hy
      have hr:∀ z∈r,cp z≠c:=fun z hz e=>by have:=h1.1 z hz;rw [e,hy] at this;cases this
      split at hx
      · rename_i hyc
        rcases List.mem_cons.1 hx with rfl | hx
        · exact .inr ⟨hyc, .inl ⟨y,by simp,hyc,rfl⟩⟩
        · exact .inl ⟨by simp [hx],hr x hx⟩
      · rename_i hyc
        rcases List.mem_cons.1 hx with rfl | hx
        · exact .inr ⟨rfl, .inr ⟨fun z hz=>by
            rcases List.mem_cons.1 hz with rfl | hz
            · exact hyc
            · exact hr z hz,rfl⟩⟩
        · rcases List.mem_cons.1 hx with rfl | hx
          · exact .inl ⟨by simp,hyc⟩
          · exact .inl ⟨by simp [hx],hr x hx⟩
theorem insC_key {c d:Int × Int} {s:Sl} : ∀ (I:List Ce),d∈(insC c s I).map cp↔d=c∨d∈I.map cp
  | []=>by simp [insC,cp]
  | y :: r=>by
    have ih:=insC_key (c:=c) (d:=d) (s:=s) r;rw [insC]
    split
    · simp only [List.map_cons,List.mem_cons,ih]
      constructor
      · rintro (h | h | h)
        · exact .inr (.inl h)
        · exact .inl h
        · exact .inr (.inr h)
      · rintro (h | h | h)
        · exact .inr (.inl h)
        · exact .inl h
        · exact .inr (.inr h)
    · split
      · rename_i hyc
        simp only [List.map_cons,List.mem_cons];rw [show cp ⟨y.f0,y.f1,insS s y.f2⟩=cp y from rfl,hyc];simp
      · simp only [List.map_cons,List.mem_cons];rw [show cp ⟨c.1,c.2,[s]⟩=c from rfl]
theorem insC_asc (c:Int × Int) (s:Sl):∀ {I:List Ce},Asc I→Asc (insC c s I)
  | [],_=>by simp [insC,Asc]
  | y :: r, h=>by
    have h1:=List.pairwise_cons.1 h;rw [insC]
    split
    · rename_i hy
      refine List.pairwise_cons.2 ⟨fun z hz=>?_,insC_asc c s h1.2⟩
      rcases (insC_key r).1 (List.mem_map_of_mem (f:=cp) hz) with e | e
      · rw [e];exact hy
      · obtain ⟨u,hu,he⟩:=List.mem_map.1 e;rw [← he];exact h1.1 u hu
    · rename_i hy
      have hy:clt (cp y) c=false:=by simpa using hy
      split
      · exact List.pairwise_cons.2 ⟨fun z hz=>h1.1 z hz,h1.2⟩
      · rename_i hyc
        have hlt:clt c (cp y)=true:=by
          cases e:clt c (cp y) with
          | true=>rfl
          | false=>exact absurd (to_c.tot _ _ hy e) hyc
        refine List.pairwise_cons.2 ⟨fun z hz=>?_,h⟩
        rcases List.mem_cons.1 hz with rfl | hz
        · exact hlt
        · exact to_c.tr _ _ _ hlt (h1.1 z hz)
structure InvI (I:List Ce) (E:List Ev):Prop where
  a:Asc I
  k:∀ c,c∈I.map cp↔c∈E.map Prod.fst
  g:∀ x∈I,x.f2.Perm (grp E (cp x))∧SrtS x.f2
theorem invI_put {I:List Ce} {E:List Ev} (h:InvI I E) (e:Ev):InvI (putI I e) (E++[e]):=by
  obtain ⟨c,s⟩:=e;refine ⟨insC_asc c s h.a,fun d=>?_,fun x hx=>?_⟩
  · show d∈(insC c s I).map cp↔_
    rw [insC_key,h.k d,List.map_append,List.mem_append];simp [or_comm]
  · rcases insC_mem h.a x hx with ⟨ha,hb⟩ | ⟨ha,⟨y,hy,hyc,he⟩ | ⟨hn,he⟩⟩
    · rw [grp_snoc,if_neg (Ne.symm hb)];exact h.g x ha
    · rw [grp_snoc,if_pos ha.symm,ha,he];have hg:=h.g y hy;rw [hyc] at hg;exact ⟨((insS_perm s y.f2).trans (hg.1.cons s)).trans (List.perm_append_comm (l₁:=[s])),insS_sorted s hg.2⟩
    · have hc:c ∉ E.map Prod.fst:=fun e=>by
        obtain ⟨y,hy,hyc⟩:=List.mem_map.1 ((h.k c).2 e);exact hn y hy hyc
      rw [grp_snoc,if_pos ha.symm,ha,he,grp_none hc];exact ⟨.refl _,by simp [SrtS]⟩
theorem invI_fold (E:List Ev):∀ (I:List Ce) (E0:List Ev),InvI I E0→InvI (E.foldl putI I) (E0++E):=by
  induction E with
  | nil=>intro M E0 h;simpa using h
  | cons e r ih =>
    intro M E0 h;have:=ih _ _ (invI_put h e)
    simpa [List.append_assoc] using this
theorem invI (E:List Ev):InvI (E.foldl putI []) E:=by
  have:=invI_fold E [] [] ⟨by simp [Asc],fun c=>by simp,fun x hx=>by simp at hx⟩
  simpa using this
theorem perm_nodup {l l':List (Int × Int)} (h1:l.Nodup) (h2:l'.Nodup) (h:∀ a,a∈l↔a∈l'):l.Perm l':=by
  refine List.perm_iff_count.2 fun a=>?_;rw [h1.count,h2.count];simp [h a]
theorem fin_one (E:List Ev) (hn:(E.map fun e=>sk e.2).Nodup):fin (E.foldl putM [])=some (E.foldl putI []):=by
  have hM:=invM E;have hI:=invI E
  generalize E.foldl putM []=M at hM
  generalize E.foldl putI []=I at hI
  have hin:(I.map cp).Nodup:=by
    refine List.Pairwise.map cp (S:=fun a b=>a≠b) ?_ hI.a;intro a b hab e;rw [e,to_c.irr] at hab;cases hab
  have hp:(I.map cp).Perm (M.map Prod.fst):=perm_nodup hin hM.n fun c=>by rw [hI.k,hM.k]
  have e1:M.map (fun p=>(p.1,srt slt sk p.2))=(M.map Prod.fst).map fun c=>(c,srt slt sk (grp E c)):=by
    rw [List.map_map];refine List.map_congr_left fun p hp=>?_;rw [hM.g p hp];rfl
  have e2:I.map (fun x=>(cp x,x.f2))=(I.map cp).map fun c=>(c,srt slt sk (grp E c)):=by
    rw [List.map_map];refine List.map_congr_left fun x hx=>?_;have hg:=hI.g x hx
    show (cp x,x.f2)=(cp x,srt slt sk (grp E (cp x)))
    rw [srt_eq to_s sk hg.1 hg.2 (grp_nodup hn _)]
  have e3:I.map (fun x=>(cp x,x.f2))=srt clt (fun p:(Int × Int) × List Sl=>p.1) (M.map fun p=>(p.1,srt slt sk p.2)):=by
    refine srt_eq to_c _ ?_ ?_ ?_
    · rw [e1,e2];exact hp.map _
    · rw [List.pairwise_map];exact hI.a.imp fun {a b} h=>to_c.asym h
    · rw [List.map_map];exact hM.n
  unfold fin
  rw [if_pos ⟨hM.n,fun p hp=>by rw [hM.g p hp];exact grp_nodup hn _⟩,← e3,List.map_map]
  congr 1
  conv=>rhs;rw [← List.map_id I]
  rfl
theorem evB_len (nm:ByteArray):∀ (a:Nat) (B:List S75),(evB nm a B).length=B.length
  | _,[]=>rfl
  | a,b::r=>by simp [evB,evB_len nm (a+1) r]
theorem evB_mem {nm:ByteArray} : ∀ {a:Nat} {B:List S75} {e:Ev},e∈evB nm a B→e.2.f4=nm∧(a:Int)≤e.2.f5
  | _,[],_,h=>by simp [evB] at h
  | a, b::r,e,h=>by
    rcases List.mem_cons.1 h with rfl | h
    · exact ⟨rfl,Int.le_refl _⟩
    · have:=evB_mem h;exact ⟨this.1,by have:=this.2;omega⟩
theorem evB_nodup (nm:ByteArray):∀ (a:Nat) (B:List S75),((evB nm a B).map fun e=>sk e.2).Nodup
  | _,[]=>by simp [evB]
  | a, b::r=>by
    rw [evB,List.map_cons,List.nodup_cons];refine ⟨fun h=>?_,evB_nodup nm (a+1) r⟩;obtain ⟨e,he,hs⟩:=List.mem_map.1 h;have h1:=(evB_mem he).2
    unfold sk at hs
    simp only [Prod.mk.injEq] at hs;omega
theorem evT_mem:∀ {L:List S32} {e:Ev},e∈evT L→∃ t∈L,e.2.f4=t.f0
  | [],_,h=>by simp [evT] at h
  | t :: r,e,h=>by
    rcases List.mem_append.1 h with h | h
    · exact ⟨t,by simp,(evB_mem h).1⟩
    · obtain ⟨u,hu,he⟩:=evT_mem h;exact ⟨u,by simp [hu],he⟩
theorem sky_lt:∀ {L:List S32} {p:Option ByteArray},skyFrom p L=true→(∀ n,p=some n→∀ t∈L,lt n t.f0=true)∧((evT L).map fun e=>sk e.2).Nodup
  | [],p,_=>⟨fun n _ t ht=>by simp at ht,by simp [evT]⟩
  | t :: r,p,h=>by
    simp only [skyFrom,Bool.and_eq_true] at h;obtain ⟨⟨_,h2⟩,h3⟩:=h;obtain ⟨ih1,ih2⟩:=sky_lt h3;have hlt:=ih1 t.f0 rfl;refine ⟨fun n hn u hu=>?_,?_⟩
    · subst hn;have h2:lt n t.f0=true:=h2
      rcases List.mem_cons.1 hu with rfl | hu
      · exact h2
      · exact bl_tr _ _ _ h2 (hlt u hu)
    · rw [evT,List.map_append];refine List.nodup_append.2 ⟨evB_nodup _ _ _,ih2,fun a ha b hb e=>?_⟩;obtain ⟨x,hx,rfl⟩:=List.mem_map.1 ha;obtain ⟨y,hy,hyx⟩:=List.mem_map.1 hb;obtain ⟨u,hu,he⟩:=evT_mem hy;have h4:=(evB_mem hx).1;have h5:=hlt u hu;rw [← hyx] at e
      unfold sk at e
      simp only [Prod.mk.injEq] at e;rw [h4,he] at e
      unfold lt at h5
      rw [e.2.1,bl_irr] at h5;cases h5
theorem sky_boxes:∀ {L:List S32} {p:Option ByteArray},skyFrom p L=true→∀ t∈L,t.f1.length≤40
  | [],p,_,t,ht=>by simp at ht
  | u :: r,p,h,t,ht=>by
    simp only [skyFrom,Bool.and_eq_true] at h;obtain ⟨⟨h1,_⟩,h3⟩:=h
    rcases List.mem_cons.1 ht with rfl | ht
    · simp only [tubeOk,Bool.and_eq_true,decide_eq_true_eq] at h1;exact h1.1.2
    · exact sky_boxes h3 t ht
theorem evT_len:∀ {L:List S32},(∀ t∈L,t.f1.length≤40)→(evT L).length≤40 * L.length
  | [],_=>by simp [evT]
  | t :: r,h=>by
    have h1:=h t (by simp);have h2:=evT_len (L:=r) fun u hu=>h u (by simp [hu]);rw [evT,List.length_append,evB_len,List.length_cons];omega
theorem index_one {L:List S32} (h:skyOk L=true):(evT L).length≤960∧Ix.spec L=some ((evT L).foldl putI [])∧Ix.impl L=some ((evT L).foldl putI []):=by
  simp only [skyOk,Bool.and_eq_true,decide_eq_true_eq] at h;obtain ⟨h1,h2⟩:=h;have h3:=sky_boxes h2;have h4:=evT_len h3;have hs:Ix.Small L:=⟨by omega,by omega,fun t ht=>by have:=h3 t ht;omega⟩;refine ⟨by omega,?_,?_⟩
  · unfold Ix.spec
    rw [if_pos hs]
  · unfold Ix.impl
    rw [if_pos hs];exact fin_one _ (sky_lt h2).2
end Go.Proofs.YtgklmafdbgnohaaGreat.Q
end
