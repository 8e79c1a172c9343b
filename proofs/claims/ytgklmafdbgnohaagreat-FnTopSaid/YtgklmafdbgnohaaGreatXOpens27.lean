/- What an argument that can be read holds, kind by kind: from the form's reading of data to the print's kinds (Kd). No condition. -/
import Derived.Test.YtgklmafdbgnohaaGreatXW0
import Derived.Deep.Slices
import Derived.Deep.Fields
import Derived.ChangeArms
import Derived.WideShapes
import Derived.ProofKit
set_option linter.unusedVariables false
set_option linter.unusedSimpArgs false
namespace Go.Proofs.YtgklmafdbgnohaaGreat.Op
open Go.RowKit Go.ChangeShapes Go.WideShapes Go.Deep Go.Proofs.YtgklmafdbgnohaaGreatW.PrintWords
structure Opens {α:Type} (P:Program) (t:TypeId) (d:Kd α) (good:α→Prop):Prop where
  cells:P.cellsOf t=d.sz
  out : ∀ {H:Type} {enc:TypeId × Value→H} {w:World} {base:Nat} {spare:Nat→Bool} {held:Bool} {fuel:Nat} {cs:List Value} {x:DataW H × List MemPlace},
    DataW.trod enc P w base spare held fuel t cs=some x→∃ a,d.K w a cs∧good a

theorem Opens.int {P:Program} {t:TypeId} {k:IntKind} (ht:P.underlying t=some (.int k)) (hc:P.cellsOf t=1):Opens P t (Kd.int k) (fun n=>(Lit.int k n).wf=true) :=
  ⟨hc, fun h=>by
    obtain ⟨n,rfl,_,hw⟩:=DataW.trod_int ht h;exact ⟨n,rfl,hw⟩⟩
theorem Opens.bool {P:Program} {t:TypeId} (ht:P.underlying t=some .bool) (hc:P.cellsOf t=1):Opens P t Kd.bool (fun _=>True) :=
  ⟨hc, fun h=>by
    obtain ⟨n,rfl,_⟩:=DataW.trod_bool ht h;exact ⟨n,rfl,trivial⟩⟩
theorem Opens.string {P:Program} {t:TypeId} (ht:P.underlying t=some .string) (hc:P.cellsOf t=1):Opens P t Kd.string (fun s=>s.size≤maxLen) :=
  ⟨hc, fun h=>by
    obtain ⟨n,rfl,_,hw⟩:=DataW.trod_string ht h;exact ⟨n,rfl,hw⟩⟩

theorem exists_list {α:Type} (p:Nat→α→Prop):∀ n:Nat,(∀ i,i<n→∃ a,p i a)→∃ l:List α,l.length=n∧∀ i a,l[i]? = some a→p i a
  | 0,_=>⟨[],rfl,fun i a h=>by simp at h⟩
  | n + 1, h=>by
    obtain ⟨l,hl,hp⟩:=exists_list p n (fun i hi=>h i (by omega));obtain ⟨a,ha⟩:=h n (by omega);refine ⟨l++[a],by simp [hl],fun i b hb=>?_⟩
    rcases Nat.lt_or_ge i l.length with hi | hi
    · rw [List.getElem?_append_left hi] at hb;exact hp i b hb
    · rw [List.getElem?_append_right hi] at hb
      have h0:i - l.length=0:=by
        rcases Nat.eq_zero_or_pos (i - l.length) with h0 | h0
        · exact h0
        · rw [List.getElem?_eq_none (by simp;omega)] at hb;cases hb
      rw [h0] at hb;have e:i=n:=by omega
      subst e
      simp at hb
      subst hb;exact ha

theorem Opens.slice {α:Type} {P:Program} {t e:TypeId} {d:Kd α} {good:α→Prop} (ht:P.underlying t=some (.slice e)) (hc:P.cellsOf t=1) (h:Opens P e d good) :
    Opens P t (Kd.slice e d) (fun l=>l.length≤maxLen∧∀ x∈l,good x) :=
  ⟨hc, fun {H enc w base spare held fuel cs x} hh=>by
    rcases open_slice ht hh with ⟨rfl,rfl⟩ | ⟨a,len,cap,m,n,D,Pl,rfl,hb,hl,hm,hmm,rfl,hi⟩
    · exact ⟨[],⟨none,0,rfl,Nat.le_refl _,Kd.C_nil d w⟩,by simp [maxLen],by simp⟩
    · have hle:len≤m:=by rw [hmm];split<;>omega
      obtain ⟨l,hlen,hp⟩:=exists_list (fun i (y:α)=>(∃ c,c.length=d.sz∧d.K w y c∧∀ j u,c[j]? = some u→w.cell? (a.add (i * d.sz+j))=some u)∧good y) len (by
        intro i hil;obtain ⟨cs',hcells,htr⟩:=hi i (by omega);obtain ⟨y,hK,hg⟩:=h.out htr;rw [h.cells] at hcells;obtain ⟨_,hcl,hat⟩:=World.cells?_some hcells;refine ⟨y,⟨cs',hcl,hK,fun j u hu=>?_⟩,hg⟩
        have hj:j<d.sz:=by
          rcases Nat.lt_or_ge j cs'.length with h1 | h1
          · omega
          · rw [List.getElem?_eq_none h1] at hu;cases hu
        have:=hat j hj;rw [Go.Deep.add_add] at this;rw [this,hu])
      refine ⟨l,⟨some a,cap,by rw [hlen],by omega,by simp [hlen],by have:=hm;unfold maxLen at this;omega,fun _=>⟨a,rfl,fun j p hj=>(hp j p hj).1⟩⟩,by rw [hlen];unfold maxLen at *;omega,fun y hy=>?_⟩;obtain ⟨j,hj⟩:=List.mem_iff_getElem?.1 hy;exact (hp j y hj).2⟩

structure OpensAt {α:Type} (P:Program) (fs:List (TypeId × Nat)) (o:Nat) (d:Kd α) (good:α→Prop):Prop where
  out : ∀ (H:Type) (enc:TypeId × Value→H) (w:World) (base:Nat) (spare:Nat→Bool) (held:Bool) (n:Nat) (cs:List Value),cs.length=o+d.sz →
    (∀ f∈fs,∃ x:DataW H × List MemPlace,DataW.trod enc P w base spare held n f.1 ((cs.drop f.2).take (P.cellsOf f.1))=some x)→∃ a,d.K w a (cs.drop o)∧good a

theorem OpensAt.one {α:Type} {P:Program} {t:TypeId} {o:Nat} {d:Kd α} {good:α→Prop} (h:Opens P t d good):OpensAt P [(t,o)] o d good:=by
  constructor
  intro H enc w base spare held n cs hl hf;obtain ⟨x,hx⟩:=hf (t,o) (by simp);have hx':DataW.trod enc P w base spare held n t ((cs.drop o).take (P.cellsOf t))=some x:=hx;rw [h.cells,List.take_of_length_le (by rw [List.length_drop];omega)] at hx';exact h.out hx'
theorem OpensAt.cons {α β:Type} {P:Program} {t:TypeId} {fs:List (TypeId × Nat)} {o:Nat} {d:Kd α} {d':Kd β} {good:α→Prop} {good':β→Prop} (h:Opens P t d good) (hr:OpensAt P fs (o+d.sz) d' good') :
    OpensAt P ((t,o)::fs) o (Kd.pair d d') (fun p=>good p.1∧good' p.2):=by
  constructor
  intro H enc w base spare held n cs hl hf;have hl':cs.length=o+(d.sz+d'.sz):=hl;obtain ⟨x,hx⟩:=hf (t,o) (by simp);have hx':DataW.trod enc P w base spare held n t ((cs.drop o).take (P.cellsOf t))=some x:=hx;rw [h.cells] at hx';obtain ⟨a,hK,hg⟩:=h.out hx';obtain ⟨b,hK',hg'⟩:=hr.out _ _ _ _ _ _ _ cs (by omega) (fun g hg=>hf g (List.mem_cons_of_mem _ hg));refine ⟨(a,b),⟨(cs.drop o).take d.sz,cs.drop (o+d.sz),?_,hK,hK'⟩,hg,hg'⟩;rw [← List.drop_drop,List.take_append_drop]
theorem Opens.struct {α:Type} {P:Program} {t:TypeId} {fs:Array Field} {l:List (TypeId × Nat)} {d:Kd α} {good:α→Prop} (h:OpensAt P l 0 d good) (ht:P.underlying t=some (.struct fs)) (hc:P.cellsOf t=d.sz) (hl:fs.toList.map (fun f=>(f.type,f.offset))=l):Opens P t d good :=
  ⟨hc, fun {H enc w base spare held fuel cs x} hh=>by
    obtain ⟨xs,n,_,_,hlen0,hlen,hf⟩:=DataW.trod_struct ht hh
    obtain ⟨a,hK,hg⟩:=h.out H enc w base spare held n cs (by omega) (fun p hm=>by
      rw [← hl] at hm;obtain ⟨f,hfm,rfl⟩:=List.mem_map.1 hm;obtain ⟨i,hi⟩:=List.mem_iff_getElem?.1 hfm;have hi':fs[i]? = some f:=by simpa using hi
      have hil:i<fs.size:=(Array.getElem?_eq_some_iff.1 hi').1;exact ⟨_,(hf i f hi').trans (List.getElem?_eq_getElem (by omega))⟩)
    exact ⟨a,by simpa using hK,hg⟩⟩
theorem Opens.iso {α β:Type} {P:Program} {t:TypeId} {d:Kd α} {good:α→Prop} {good':β→Prop} (f:β→α) (inv:α→β) (hi:∀ a,f (inv a)=a) (hg:∀ a,good a→good' (inv a)) (h:Opens P t d good):Opens P t (Kd.iso d f) good' :=
  ⟨h.cells,fun hh=>by
    obtain ⟨a,hK,hga⟩:=h.out hh;exact ⟨inv a,by show d.K _ (f (inv a)) _;rw [hi];exact hK,hg a hga⟩⟩

theorem Opens.agg {α:Type} {P:Program} {t:TypeId} {fs:Array Field} {d:Kd α} {good:α→Prop} {H:Type} {enc:TypeId × Value→H} {w:World} {r:Reach} {b0 base:Nat} {spare:Nat→Bool} {held:Bool} {v:Value} {y:DataW H} {p:List MemPlace}
    (h:Opens P t d good) (hs:P.underlying t=some (.struct fs)) (hv:Value.okWide P w r b0 t v) (hd:DataW.Trod enc P w base spare held t v y p):∃ a cs,v = .agg ⟨cs⟩∧d.K w a cs∧good a:=by
  obtain ⟨cs,rfl,_⟩:=okWide_struct hs hv;obtain ⟨l⟩:=cs;obtain ⟨fuel,hf⟩:=hd;obtain ⟨a,hK,hg⟩:=h.out hf;exact ⟨a,l,rfl,by simpa [Value.cells] using hK,hg⟩
theorem Opens.sl {α:Type} {P:Program} {t e:TypeId} {d:Kd α} {good:List α→Prop} {H:Type} {enc:TypeId × Value→H} {w:World} {r:Reach} {b0 base:Nat} {spare:Nat→Bool} {held:Bool} {v:Value} {y:DataW H} {p:List MemPlace}
    (h:Opens P t (Kd.slice e d) good) (hs:P.underlying t=some (.slice e)) (hv:Value.okWide P w r b0 t v) (hd:DataW.Trod enc P w base spare held t v y p):∃ l A c,v = .slice A l.length c∧l.length≤c∧Kd.C d w A l.length l∧good l:=by
  obtain ⟨A,len,cap,rfl⟩:=okWide_slice hs hv;obtain ⟨fuel,hf⟩:=hd;obtain ⟨l,⟨A',c',hcs,hl,hC⟩,hg⟩:=h.out hf;simp [Value.cells] at hcs
  obtain ⟨rfl,rfl,rfl⟩:=hcs;exact ⟨l,A,cap,rfl,hl,hC,hg⟩
end Go.Proofs.YtgklmafdbgnohaaGreat.Op
