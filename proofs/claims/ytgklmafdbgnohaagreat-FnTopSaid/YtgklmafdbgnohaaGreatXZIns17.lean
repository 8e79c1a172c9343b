/- One element put into a row of rows: the row behind it. No condition. -/
import Derived.Laws.Slices
import Derived.Test.YtgklmafdbgnohaaGreatXW0
set_option linter.unusedVariables false
set_option linter.unusedSimpArgs false
namespace Go.Proofs.YtgklmafdbgnohaaGreat.Z
open Go.RowKit Go.Proofs.YtgklmafdbgnohaaGreatW.PrintWords Go.Proofs.YtgklmafdbgnohaaGreatW.PrintLast Go.Proofs.YtgklmafdbgnohaaGreatW.PrintMore
section
variable {α:Type} {d:Kd α} {e at_:Nat} {W W2 W5:World} {base N:Nat} {v':Value} {xs:List α} {x':α} {inner in85 c:List Value} {f:Nat→Nat}
theorem S_insert (hat:at_≤xs.length) (hl:inner.length=xs.length * d.sz)
    (hr:∀ j p,xs[j]? = some p→d.M W base (fun k=>f k=j) p ((inner.drop (j * d.sz)).take d.sz))
    (hx:d.M W2 W.heap.size (fun _=>True) x' c)
    (hW:∀ k,k<W.heap.size→W5.heap[k]? = W.heap[k]?) (hW2:∀ k,k<W2.heap.size→W5.heap[k]? = W2.heap[k]?) (hs:W.heap.size≤W2.heap.size) (hN:W2.heap.size≤N) (hb:base≤W.heap.size)
    (ho:W5.ownsRow N e d.sz v' (xs.length+1) (inner.take (at_ * d.sz)++in85))
    (h85:in85.length=(1+(xs.length - at_)) * d.sz)
    (h0:(in85.drop (0 * d.sz)).take d.sz=c)
    (h1:∀ j,j<xs.length - at_→(in85.drop ((j+1) * d.sz)).take d.sz=(inner.drop ((at_+j) * d.sz)).take d.sz) :
    Kd.S d e W5 base (fun _=>True) v' (xs.take at_++x'::xs.drop at_):=by
  have hlen:(xs.take at_++x'::xs.drop at_).length=xs.length+1:=by
    rw [List.length_append,List.length_cons,List.length_take,List.length_drop];omega
  have htl:(inner.take (at_ * d.sz)).length=at_ * d.sz:=by
    rw [List.length_take,hl];exact Nat.min_eq_left (Nat.mul_le_mul_right _ hat)
  have hnot:∀ k,k<N→some k≠v'.ownBlock:=fun k hk he=>by
    have:=own_base ho k he.symm;omega
  refine ⟨fun k=>if W.heap.size≤k then at_ else if f k<at_ then f k else f k+1,fun _ _=>trivial,inner.take (at_ * d.sz)++in85,?_,?_,fun j p hj=>?_⟩
  · rw [List.length_zipIdx,hlen];exact own_weaken ho (by omega)
  · rw [List.length_zipIdx,hlen,List.length_append,htl,h85,← Nat.add_mul]
    congr 1
    omega
  · rw [List.getElem?_zipIdx,Nat.zero_add] at hj;obtain ⟨q,hq,rfl⟩:=Option.map_eq_some_iff.1 hj
    show (Kd.tag (fun k=>if W.heap.size≤k then at_ else if f k<at_ then f k else f k+1) d).M W5 base (fun k=>True∧some k≠v'.ownBlock) (q,j) (((inner.take (at_ * d.sz)++in85).drop (j * d.sz)).take d.sz)
    have old:∀ i,xs[i]? = some q→(if i<at_ then i else i+1)=j→(Kd.tag (fun k=>if W.heap.size≤k then at_ else if f k<at_ then f k else f k+1) d).M W5 base (fun k=>True∧some k≠v'.ownBlock) (q,j) ((inner.drop (i * d.sz)).take d.sz):=fun i hi hij =>
      d.M_mono (fun k hk=>⟨⟨trivial,hnot k (by have:=hk.2.2.1;omega)⟩,by
        show (if W.heap.size≤k then at_ else if f k<at_ then f k else f k+1)=j
        have h2:=hk.2.2.1;have h3:f k=i:=hk.1;rw [if_neg (by omega),h3];exact hij⟩) (d.M_move (fun k hk=>hW k hk.2.2.1) (d.M_bound (hr i q hi)))
    rcases Nat.lt_trichotomy j at_ with hlt | rfl | hgt
    · have e1:((inner.take (at_ * d.sz)++in85).drop (j * d.sz)).take d.sz=(inner.drop (j * d.sz)).take d.sz:=by
        have h2:j * d.sz+d.sz≤at_ * d.sz:=by rw [← Nat.succ_mul];exact Nat.mul_le_mul_right _ hlt
        rw [List.drop_append_of_le_length (by rw [htl];omega),List.take_append_of_le_length (by rw [List.length_drop,htl];omega),List.drop_take,List.take_take]
        congr 1
        omega
      rw [e1];refine old j ?_ (if_pos hlt);rw [List.getElem?_append_left (by rw [List.length_take];omega),List.getElem?_take,if_pos hlt] at hq;exact hq
    · have e1:((inner.take (j * d.sz)++in85).drop (j * d.sz)).take d.sz=c:=by
        rw [List.drop_append,htl,Nat.sub_self,List.drop_eq_nil_of_le (by rw [htl];exact Nat.le_refl _),List.nil_append,← h0,Nat.zero_mul]
      rw [e1]
      have hq':q=x':=by
        rw [List.getElem?_append_right (by rw [List.length_take];omega),List.length_take,Nat.min_eq_left hat,Nat.sub_self,List.getElem?_cons_zero] at hq;exact (Option.some.inj hq).symm
      subst hq';refine d.M_mono (fun k hk=>⟨⟨trivial,hnot k (by have:=hk.2.2.1;omega)⟩,if_pos hk.2.1⟩) (d.M_lower hb (d.M_move (fun k hk=>hW2 k hk.2.2.1) (d.M_bound hx)))
    · obtain ⟨i,rfl⟩:∃ i,j=at_+i+1:=⟨j - at_ - 1,by omega⟩
      have hq2:xs[at_+i]? = some q:=by
        rw [List.getElem?_append_right (by rw [List.length_take];omega),List.length_take,Nat.min_eq_left hat,show at_+i+1 - at_=i+1 by omega,List.getElem?_cons_succ,List.getElem?_drop] at hq;exact hq
      have hil:i<xs.length - at_:=by
        have:=(List.getElem?_eq_some_iff.1 hq2).1;omega
      have e1:((inner.take (at_ * d.sz)++in85).drop ((at_+i+1) * d.sz)).take d.sz=(inner.drop ((at_+i) * d.sz)).take d.sz:=by
        rw [List.drop_append,htl,List.drop_eq_nil_of_le (by rw [htl];exact Nat.mul_le_mul_right _ (by omega)),List.nil_append,← Nat.sub_mul,show at_+i+1 - at_=i+1 by omega];exact h1 i hil
      rw [e1];exact old (at_+i) hq2 (by rw [if_neg (by omega)])
end
theorem cut_max {P:Program} (t e:TypeId) (kh km:IntKind) {i:TypeInfo} (ht:P.underlying t=some (.slice e)) (hi:P.info? e=some i) (A:Option Addr) (n c j:Nat) (hm:j≤c) :
    ∀ W:World,(Instr.slice t (.slice A n c) none (some (.int kh (j:Int))) (some (.int km (j:Int)))).run P W = .ok (.slice A j j) W:=by
  intro W;have hel:P.elem t=e:=by simp [Program.elem,ht]
  have hu:P.underlying t=some (.slice (P.elem t)):=by rw [hel];exact ht
  have ha:(A.map fun x=>x.add 0)=A:=by cases A<;>simp [Addr.add]
  rw [run_slice_hm W t A n c hu kh km j j (by omega) (by omega) (by omega),hel];simp [sizeOf,typeInfo,hi,sliced,Result.andThen,ha]
theorem reps_one {α:Type} {d:Kd α} {W:World} {base:Nat} {ok:Nat→Prop} {xs:List α} {inner:List Value} (hs:0<d.sz) (hr:Reps (d.M W base ok) d.sz xs inner):∀ u∈inner,u.oneCell'=true:=by
  intro u hu;obtain ⟨i,hi,rfl⟩:=List.getElem_of_mem hu;have hl:=hr.1;have hj:i / d.sz<xs.length:=(Nat.div_lt_iff_lt_mul hs).2 (by omega);have hM:=hr.2 (i / d.sz) _ (List.getElem?_eq_getElem hj);refine d.K_one (d.K_of_M hM) _ ?_;have hm:i % d.sz<d.sz:=Nat.mod_lt _ hs;have he:i / d.sz * d.sz+i % d.sz=i:=by rw [Nat.mul_comm];exact Nat.div_add_mod i d.sz
  refine List.mem_of_getElem? (i:=i % d.sz) ?_;rw [List.getElem?_take,if_pos hm,List.getElem?_drop,he];exact List.getElem?_eq_getElem hi
theorem tail_reads {W W':World} {base e:Nat} {A:Option Addr} {len co n:Nat} {inner:List Value} (ho:W.ownsRow base e 2 (.slice A len co) len inner) (hW:∀ k,k<W.heap.size→W'.heap[k]? = W.heap[k]?) (h1:∀ u∈inner,u.oneCell'=true) (hn:n≤len) (hb:len≤1000) :
    ReadsRow (fun (x:List Value) cs=>cs=x∧cs.length=2∧∀ u∈cs,u.oneCell'=true) 2 W' (if co=n then A else A.map (·.add (n * 2))) (len - n) ((List.range (len - n)).map fun j=>(inner.drop ((n+j) * 2)).take 2):=by
  refine ⟨by simp,by omega,fun hp=>?_⟩;have hlen:=ho.1
  rcases ho.2 with ⟨hv,h0⟩ | ⟨g,cap,cur,hv,hg,hh,hnc,_⟩
  · omega
  · injection hv with ha _ hc
    subst ha hc;refine ⟨(⟨g,0,none⟩:Addr).add (n * 2),by rw [if_neg (by omega)];rfl,fun j p hj=>?_⟩;rw [List.getElem?_map] at hj;obtain ⟨j',hj',rfl⟩:=Option.map_eq_some_iff.1 hj
    obtain ⟨hjl,rfl⟩:j<len - n∧j=j':=by
      by_cases h:j<len - n
      · rw [List.getElem?_range h] at hj';exact ⟨h,Option.some.inj hj'⟩
      · rw [List.getElem?_eq_none (by simpa using h)] at hj';cases hj'
    refine ⟨_,?_,⟨rfl,?_,fun u hu=>h1 u (List.mem_of_mem_drop (List.mem_of_mem_take hu))⟩,fun i u hu=>?_⟩
    · rw [List.length_take,List.length_drop];omega
    · rw [List.length_take,List.length_drop];omega
    · rw [List.getElem?_take] at hu
      split at hu
      · rw [List.getElem?_drop] at hu;have h2:=ho.cells (g:=g) rfl _ u hu;rw [add_plain] at h2;rw [add_plain,add_at,show n * 2+(j * 2+i)=(n+j) * 2+i by omega];have:=hW g (blk_lt hh)
        simpa [World.cell?,this] using h2
      · cases hu
theorem own_none {W:World} {base e:Nat} {A:Option Addr} {len co n:Nat} {inner:List Value} (ho:W.ownsRow base e 2 (.slice A len co) len inner) (hn:n≤len):A=none→n=0∧n=0:=by
  intro hA;subst hA
  rcases ho.2 with ⟨_,h0⟩ | ⟨g,cap,cur,hv,_⟩
  · omega
  · injection hv with ha _ _
    cases ha
theorem own_holds {W W':World} {base e:Nat} {A:Option Addr} {len co n:Nat} {inner:List Value} (ho:W.ownsRow base e 2 (.slice A len co) len inner) (hW:∀ k,k<W.heap.size→W'.heap[k]? = W.heap[k]?) :
    ∀ b,A=some b→∀ j u,(inner.take (n * 2))[j]? = some u→W'.cell? (b.add j)=some u:=by
  intro b hb j u hj;subst hb
  rcases ho.2 with ⟨hv,_⟩ | ⟨g,cap,cur,hv,_,hh,_⟩
  · cases hv
  · injection hv with ha _ _
    injection ha with ha
    subst ha;rw [List.getElem?_take] at hj
    split at hj
    · have h2:=ho.cells (g:=g) rfl _ u hj;rw [add_plain] at h2 ⊢;have:=hW g (blk_lt hh)
      simpa [World.cell?,this] using h2
    · cases hj
end Go.Proofs.YtgklmafdbgnohaaGreat.Z
