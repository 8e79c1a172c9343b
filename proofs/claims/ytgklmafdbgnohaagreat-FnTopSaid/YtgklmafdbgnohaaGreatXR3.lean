/- The index of tubes as a function of their boxes: as the program makes it (grouped by a map, sorted), as the reference makes it (box by box, each put into its place). No condition. -/
import Derived.Sort.Statements
import Derived.Test.YtgklmafdbgnohaaGreatXPAs1
import Derived.Test.YtgklmafdbgnohaaGreatXP2
set_option linter.unusedVariables false
set_option linter.unusedSimpArgs false
section
namespace Go.Proofs.YtgklmafdbgnohaaGreat.Ik
open Go.Proofs.YtgklmafdbgnohaaGreat.PA
structure To {α:Type} (lt:α→α→Bool):Prop where
  irr:∀ x,lt x x=false
  tr:∀ x y z,lt x y=true→lt y z=true→lt x z=true
  tot:∀ x y,lt x y=false→lt y x=false→x=y
section
variable {α β:Type} {lt:α→α→Bool} {lu:β→β→Bool}
theorem To.asym (h:To lt) {x y:α} (h1:lt x y=true):lt y x=false:=by
  cases h2:lt y x with
  | false=>rfl
  | true=>have:=h.tr x y x h1 h2;rw [h.irr] at this;cases this
theorem To.nt (h:To lt) (x y z:α) (h1:lt x y=false) (h2:lt y z=false):lt x z=false:=by
  cases h3:lt x z with
  | false=>rfl
  | true =>
    cases h4:lt y x with
    | true=>have:=h.tr y x z h4 h3;rw [h2] at this;cases this
    | false=>rw [h.tot x y h1 h4,h2] at h3;cases h3
def lex [DecidableEq α] (lt:α→α→Bool) (lu:β→β→Bool) (p q:α × β):Bool:=if p.1=q.1 then lu p.2 q.2 else lt p.1 q.1
theorem To.lex [DecidableEq α] (h:To lt) (k:To lu):To (lex lt lu):=by
  refine ⟨fun x=>by simp [Ik.lex,k.irr],fun x y z h1 h2=>?_,fun x y h1 h2=>?_⟩
  · obtain ⟨x1,x2⟩:=x;obtain ⟨y1,y2⟩:=y;obtain ⟨z1,z2⟩:=z;simp only [Ik.lex] at h1 h2 ⊢;by_cases e1:x1=y1
    · subst e1;rw [if_pos rfl] at h1;by_cases e2:x1=z1
      · rw [if_pos e2] at h2 ⊢;exact k.tr _ _ _ h1 h2
      · rw [if_neg e2] at h2 ⊢;exact h2
    · rw [if_neg e1] at h1;by_cases e2:y1=z1
      · subst e2;rw [if_neg e1];exact h1
      · rw [if_neg e2] at h2;have h3:=h.tr _ _ _ h1 h2;rw [if_neg (fun e=>by subst e;rw [h.irr] at h3;cases h3)];exact h3
  · obtain ⟨x1,x2⟩:=x;obtain ⟨y1,y2⟩:=y;simp only [Ik.lex] at h1 h2 ⊢;by_cases e1:x1=y1
    · subst e1;rw [if_pos rfl] at h1 h2;rw [k.tot _ _ h1 h2]
    · rw [if_neg e1] at h1;rw [if_neg (Ne.symm e1)] at h2;exact absurd (h.tot _ _ h1 h2) e1
theorem To.int:To fun x y:Int=>decide (x<y):=⟨fun x=>by simp,fun x y z h1 h2=>by simp at *;omega,fun x y h1 h2=>by simp at *;omega⟩
theorem bl_irr:∀ x:List UInt8,Op.bytesLess x x=false
  | []=>rfl
  | a::x=>by simp [Op.bytesLess,bl_irr x]
theorem bl_tr:∀ x y z:List UInt8,Op.bytesLess x y=true→Op.bytesLess y z=true→Op.bytesLess x z=true
  | _,_,[],_,h=>by simp [Op.bytesLess] at h
  | _,[],_::_,h,_=>by simp [Op.bytesLess] at h
  | [],_::_,_::_,_,_=>by simp [Op.bytesLess]
  | a :: x,b::y,c::z,h,h'=>by
    simp only [Op.bytesLess,Bool.or_eq_true,decide_eq_true_eq,Bool.and_eq_true,beq_iff_eq] at h h' ⊢
    rcases h with h | ⟨rfl,h⟩
    · rcases h' with h' | ⟨rfl,h'⟩
      · exact .inl (UInt8.lt_trans h h')
      · exact .inl h
    · rcases h' with h' | ⟨rfl,h'⟩
      · exact .inl h'
      · exact .inr ⟨rfl,bl_tr x y z h h'⟩
theorem bl_tot:∀ x y:List UInt8,Op.bytesLess x y=false→Op.bytesLess y x=false→x=y
  | [],[],_,_=>rfl
  | [],_::_,h,_=>by simp [Op.bytesLess] at h
  | _::_,[],_,h=>by simp [Op.bytesLess] at h
  | a :: x,b::y,h,h'=>by
    simp only [Op.bytesLess,Bool.or_eq_false_iff,decide_eq_false_iff_not,Bool.and_eq_false_iff,beq_eq_false_iff_ne] at h h';obtain rfl:a=b:=UInt8.le_antisymm (UInt8.not_lt.1 h'.1) (UInt8.not_lt.1 h.1);rw [bl_tot x y (h.2.resolve_left (fun e=>e rfl)) (h'.2.resolve_left (fun e=>e rfl))]
theorem To.bytes:To Op.bytesLess:=⟨bl_irr,bl_tr,bl_tot⟩
theorem To.swo (h:To lt) (f:β→α):Go.Sort.SWO fun a b=>lt (f a) (f b):=⟨fun x=>h.irr _,fun x y z=>h.tr _ _ _,fun x y z=>h.nt _ _ _⟩
theorem one_sorted (h:To lt) (f:β→α):∀ {l l':List β},l.Perm l'→l.Pairwise (fun a b=>lt (f b) (f a)=false)→l'.Pairwise (fun a b=>lt (f b) (f a)=false)→(l.map f).Nodup→l=l'
  | [],l',hp,_,_,_=>hp.nil_eq
  | a::l,[],hp,_,_,_=>absurd hp.length_eq (by simp)
  | a :: l,b::l',hp,h1,h2,hn=>by
    have e:a=b:=by
      have ha:a∈b::l':=hp.subset (by simp);have hb:b∈a::l:=hp.symm.subset (by simp)
      rcases List.mem_cons.1 ha with e | ha
      · exact e
      rcases List.mem_cons.1 hb with e | hb
      · exact e.symm
      have k1:=(List.pairwise_cons.1 h1).1 b hb;have k2:=(List.pairwise_cons.1 h2).1 a ha;have k3:=h.tot _ _ k1 k2;rw [List.map_cons,List.nodup_cons] at hn;exact absurd (List.mem_map.2 ⟨b,hb,k3⟩) hn.1
    subst e;rw [one_sorted h f (List.perm_cons a |>.1 hp) (List.pairwise_cons.1 h1).2 (List.pairwise_cons.1 h2).2 (List.nodup_cons.1 hn).2]
def srt (lt:α→α→Bool) (f:β→α) (l:List β):List β:=l.mergeSort fun a b => !lt (f b) (f a)
theorem srt_perm (f:β→α) (l:List β):(srt lt f l).Perm l:=List.mergeSort_perm _ _
theorem srt_sorted (h:To lt) (f:β→α) (l:List β):(srt lt f l).Pairwise fun a b=>lt (f b) (f a)=false:=by
  have:=List.pairwise_mergeSort (le:=fun a b => !lt (f b) (f a)) (fun a b c h1 h2=>by
    simp only [Bool.not_eq_true'] at *;exact h.nt _ _ _ h2 h1) (fun a b=>by
    cases e:lt (f b) (f a) with
    | false=>simp
    | true=>simp [h.asym e]) l
  unfold srt
  simpa using this
theorem srt_eq (h:To lt) (f:β→α) {l l':List β} (hp:l'.Perm l) (hs:l'.Pairwise fun a b=>lt (f b) (f a)=false) (hn:(l.map f).Nodup):l'=srt lt f l :=
  one_sorted h f (hp.trans (srt_perm f l).symm) hs (srt_sorted h f l) ((hp.map f).nodup_iff.2 hn)
end
abbrev Sl:=S80
abbrev Ce:=S84
def sk (s:Sl):Int × (List UInt8 × Int):=(s.f0,s.f4.toList,s.f5)
def slt:Int × (List UInt8 × Int)→Int × (List UInt8 × Int)→Bool:=lex (fun x y=>decide (x<y)) (lex Op.bytesLess fun x y=>decide (x<y))
def clt:Int × Int→Int × Int→Bool:=lex (fun x y=>decide (x<y)) fun x y=>decide (x<y)
theorem to_s:To slt:=To.int.lex (To.bytes.lex To.int)
theorem to_c:To clt:=To.int.lex To.int
abbrev MQ:=List ((Int × Int) × List Sl)
def fin (M:MQ):Option (List Ce) :=
  if (M.map Prod.fst).Nodup∧∀ p∈M,(p.2.map sk).Nodup then some ((srt clt (fun p:(Int × Int) × List Sl=>p.1) (M.map fun p=>(p.1,srt slt sk p.2))).map fun p=>⟨p.1.1,p.1.2,p.2⟩) else none
end Go.Proofs.YtgklmafdbgnohaaGreat.Ik
end
section
namespace Go.Proofs.YtgklmafdbgnohaaGreat.Ix
open Go.Proofs.YtgklmafdbgnohaaGreat.PA Go.Proofs.YtgklmafdbgnohaaGreat.Ik
abbrev Ev:=(Int × Int) × Sl
def evB (name:ByteArray):Nat→List S75→List Ev
  | _,[]=>[]
  | i,b::r=>((b.f0,b.f1),⟨b.f4,b.f5,b.f2,b.f3,name,(i:Int)⟩)::evB name (i+1) r
def evT:List S32→List Ev
  | []=>[]
  | t::r=>evB t.f0 0 t.f1++evT r
def insS (s:Sl):List Sl→List Sl
  | []=>[s]
  | x::r=>if slt (sk x) (sk s)=true then x::insS s r else s::x::r
def cp (x:Ce):Int × Int:=(x.f0,x.f1)
def insC (c:Int × Int) (s:Sl):List Ce→List Ce
  | []=>[⟨c.1,c.2,[s]⟩]
  | x::r=>if clt (cp x) c=true then x::insC c s r else if cp x=c then ⟨x.f0,x.f1,insS s x.f2⟩::r else ⟨c.1,c.2,[s]⟩::x::r
def putI (I:List Ce) (e:Ev):List Ce:=insC e.1 e.2 I
def putM (M:MQ) (e:Ev):MQ:=Mq.mapp M e.1 e.2
abbrev Small (L:List S32):Prop:=(evT L).length≤1000000∧L.length≤1000000∧∀ t∈L,t.f1.length≤1000000
def impl (L:List S32):Option (List Ce):=if Small L then fin ((evT L).foldl putM []) else none
def spec (L:List S32):Option (List Ce):=if Small L then some ((evT L).foldl putI []) else none
end Go.Proofs.YtgklmafdbgnohaaGreat.Ix
end
