/- What the draws pick, and how great it may be: numbers of the reader, texts n times, decimals. No condition beside what is typed. -/
import Derived.Test.YtgklmafdbgnohaaGreatXPAd4
import Derived.Test.YtgklmafdbgnohaaGreatXP11
set_option linter.unusedVariables false
set_option linter.unusedSimpArgs false
section
namespace Go.Proofs.YtgklmafdbgnohaaGreat.Q
open Go.RowKit Go.Proofs.YtgklmafdbgnohaaGreat.PA Go.Proofs.YtgklmafdbgnohaaGreatW.PrintWords Go.Proofs.YtgklmafdbgnohaaGreatW.PrintLast Go.Proofs.YtgklmafdbgnohaaGreatW.PrintMore
section
variable {α β:Type} {r:α}
theorem Ev.pos {c:Prop} [Decidable c] {A B:Nat→Option α} (h:c) (e:Ev A r):Ev (fun k=>if c then A k else B k) r:=Ev.congr (fun _=>if_pos h) e
theorem Ev.neg {c:Prop} [Decidable c] {A B:Nat→Option α} (h:¬ c) (e:Ev B r):Ev (fun k=>if c then A k else B k) r:=Ev.congr (fun _=>if_neg h) e
theorem Ev.is {a:Option α} (h:a=some r):Ev (fun _=>a) r:=⟨0,fun _ _=>h⟩
theorem Ev.eq {g:Nat→Option α} {r r':α} (h:Ev g r) (e:r=r'):Ev g r':=e▸h
theorem drop_ind (l:List α) {P:Nat→List α→Prop} (h0:P l.length []) (h1:∀ i (hi:i<l.length),P (i+1) (l.drop (i+1))→P i (l[i]::l.drop (i+1))):∀ i,i≤l.length→P i (l.drop i):=by
 intro i hi
 induction hd:l.length - i generalizing i with
 | zero =>
  obtain rfl:i=l.length:=by omega
  rw [List.drop_length];exact h0
 | succ d ih =>
  have hlt:i<l.length:=by omega
  rw [List.drop_eq_getElem_cons hlt];exact h1 i hlt (ih (i+1) (by omega) (by omega))
end
theorem all_yes {α:Type} {p:α→Bool} {a:α} {l:List α} (h:p a=true):l.all p=(a::l).all p:=by rw [List.all_cons,h,Bool.true_and]
theorem all_no {α:Type} {p:α→Bool} {a:α} {l:List α} (h:¬ p a=true):(false:Bool)=(a::l).all p:=by rw [List.all_cons,Bool.eq_false_iff.2 h,Bool.false_and]
theorem w64 {i:Nat} {n:Nat} (h:i<n) (hn:n≤9223372036854775807):wrap64 ((i:Int)+1)=((i+1:Nat):Int):=by
 unfold wrap64
 omega
theorem wsub {a b:Int} (h0:0≤a) (h1:a≤1048576) (h2:0≤b) (h3:b≤9223372036854775807):wrap64 (a - b)=a - b:=by
 unfold wrap64
 omega

def boxOk (a b c d e f:Int):Bool:=decide (0≤a∧a≤15∧0≤b∧b≤15∧0≤c∧c≤d∧d≤6∧0≤e∧e≤f∧f≤10000)
def bOk (b:S75):Bool:=boxOk b.f0 b.f1 b.f2 b.f3 b.f4 b.f5
theorem l1In_eq (a b c:Int):spec_l1In.f a b c=some (decide (b≤a∧a≤c)):=by
 unfold spec_l1In.f
 grind
theorem in_eq (a b c:Int):impl_in.f a b c=some (decide (b≤a∧a≤c)):=by
 unfold impl_in.f
 grind
theorem spec_box (a b c d e f:Int):spec_ProbeBoxOk.f a b c d e f=some (boxOk a b c d e f):=by
 simp only [spec_ProbeBoxOk.f,l1In_eq,Option.bind_some,decide_eq_true_eq,boxOk]
 grind
theorem impl_box (a b c d e f:Int):impl_ProbeBoxOk.f a b c d e f=some (boxOk a b c d e f):=by
 simp only [impl_ProbeBoxOk.f,in_eq,Option.bind_some,decide_eq_true_eq,boxOk]
 grind

def near (a b c d e f a' b' c' d' e' f':Int):Int × Bool :=
 if a - a'≤1∧a' - a≤1∧b - b'≤1∧b' - b≤1∧c≤d'∧c'≤d∧e≤f'∧e'≤f then (mx e e',true) else (0,false)
def bNear (x y:S75):Int × Bool:=near x.f0 x.f1 x.f2 x.f3 x.f4 x.f5 y.f0 y.f1 y.f2 y.f3 y.f4 y.f5
theorem ok_bounds {a b c d e f:Int} (h:boxOk a b c d e f=true):0≤a∧a≤15∧0≤b∧b≤15∧0≤c∧c≤d∧d≤6∧0≤e∧e≤f∧f≤10000:=by
 simpa [boxOk] using h
theorem wdiff {a b:Int} (h0:0≤a) (h1:a≤15) (h2:0≤b) (h3:b≤15):wrap64 (a - b)=a - b:=by
 unfold wrap64
 omega
theorem spec_l1c {a b c d e f a' b' c' d' e' f':Int} (h:boxOk a b c d e f=true) (h':boxOk a' b' c' d' e' f'=true):Ev (fun k=>spec_l1Close.f k a b c d e f a' b' c' d' e' f') (near a b c d e f a' b' c' d' e' f'):=by
 obtain ⟨h0,h1,h2,h3,h4,h5,h6,h7,h8,h9⟩:=ok_bounds h;obtain ⟨k0,k1,k2,k3,k4,k5,k6,k7,k8,k9⟩:=ok_bounds h';refine ⟨1,fun k hk=>?_⟩;obtain ⟨k,rfl⟩:∃ m,k=m+1:=⟨k - 1,by omega⟩;simp only [spec_l1Close.f,l1In_eq,wdiff h0 h1 k0 k1,wdiff h2 h3 k2 k3,Option.bind_some,decide_eq_true_eq,spec_l1Close.j0,near,mx]
 grind
theorem impl_close (a b c d e f a' b' c' d' e' f':Int):Ev (fun k=>impl_ProbeClose.f k a b c d e f a' b' c' d' e' f') (if boxOk a b c d e f=true∧boxOk a' b' c' d' e' f'=true then near a b c d e f a' b' c' d' e' f' else (0,false)):=by
 refine ⟨1,fun k hk=>?_⟩;obtain ⟨k,rfl⟩:∃ m,k=m+1:=⟨k - 1,by omega⟩;by_cases h:boxOk a b c d e f=true
 ·by_cases h':boxOk a' b' c' d' e' f'=true
  ·obtain ⟨h0,h1,h2,h3,h4,h5,h6,h7,h8,h9⟩:=ok_bounds h;obtain ⟨k0,k1,k2,k3,k4,k5,k6,k7,k8,k9⟩:=ok_bounds h';rw [if_pos ⟨h,h'⟩];simp only [impl_ProbeClose.f,impl_box,h,h',in_eq,wdiff h0 h1 k0 k1,wdiff h2 h3 k2 k3,Option.bind_some,decide_eq_true_eq,impl_ProbeClose.j0,near,mx,mn]
   grind
  ·rw [if_neg (fun x=>h' x.2)];simp only [impl_ProbeClose.f,impl_box,h,h',Option.bind_some,if_true,Bool.false_eq_true,if_false,impl_ProbeClose.j0]
 ·rw [if_neg (fun x=>h x.1)];simp only [impl_ProbeClose.f,impl_box,h,Option.bind_some,Bool.false_eq_true,if_false,impl_ProbeClose.j0,if_true]

def ChOk (c:Int):Prop:=(97≤c∧c≤122)∨(48≤c∧c≤57)∨c=45
instance (c:Int):Decidable (ChOk c):=by unfold ChOk;infer_instance
def nameFrom (s:ByteArray) (i:Nat):Bool:=decide (∀ j,j<s.size→i≤j→ChOk (bt s (j:Int)))
def nameOk (s:ByteArray):Bool:=decide (1≤s.size∧s.size≤8) && nameFrom s 0
def tubeOk (s:ByteArray) (l:List S75):Bool:=nameOk s && decide (l.length≤40) && l.all bOk
theorem nameFrom_end (s:ByteArray) {i:Nat} (h:s.size≤i):nameFrom s i=true:=by
 simp only [nameFrom,decide_eq_true_eq];intro j h1 h2;omega
theorem nameFrom_yes {s:ByteArray} {i:Nat} (hc:ChOk (bt s (i:Int))):nameFrom s i=nameFrom s (i+1):=by
 rw [Bool.eq_iff_iff];simp only [nameFrom,decide_eq_true_eq]
 constructor
 ·intro h j h1 h2;exact h j h1 (by omega)
 ·intro h j h1 h2;by_cases e:j=i
  ·subst e;exact hc
  ·exact h j h1 (by omega)
theorem nameFrom_no {s:ByteArray} {i:Nat} (h:i<s.size) (hc:¬ ChOk (bt s (i:Int))):nameFrom s i=false:=by
 simp only [nameFrom,decide_eq_false_iff_not];intro hh;exact hc (hh i h (Nat.le_refl _))
theorem ch_if {α:Type} {c:Int} {A B:α} : (if c ≥ 97 then (if c≤122 then A else (if c ≥ 48 then (if c≤57 then A else (if c=45 then A else B)) else (if c=45 then A else B))) else (if c ≥ 48 then (if c≤57 then A else (if c=45 then A else B)) else (if c=45 then A else B)))=if ChOk c then A else B:=by
 unfold ChOk
 grind
theorem spec_name_l (s:ByteArray) (hs:s.size≤9223372036854775807) (d:Nat):∀ i:Nat,i≤s.size→s.size - i=d→Ev (fun k=>spec_l2NameOk.l0 k s (i:Int)) (nameFrom s i):=by
 induction d with
 | zero =>
  intro i hi hd;refine Ev.step (f:=fun _=>some true) (fun k=>?_) (Ev.is (by rw [nameFrom_end s (by omega)]));simp only [spec_l2NameOk.l0];rw [if_neg (by omega)]
 | succ d ih =>
  intro i hi hd;have hlt:i<s.size:=by omega
  by_cases hc:ChOk (bt s (i:Int))
  ·refine Ev.step (f:=fun k=>spec_l2NameOk.l0 k s ((i+1:Nat):Int)) (fun k=>?_) (by rw [nameFrom_yes hc];exact ih (i+1) (by omega) (by omega));simp only [spec_l2NameOk.l0];rw [if_pos (by omega),if_pos (by omega),ch_if,if_pos hc,w64 hlt hs]
  ·refine Ev.step (f:=fun _=>some false) (fun k=>?_) (Ev.is (by rw [nameFrom_no hlt hc]));simp only [spec_l2NameOk.l0];rw [if_pos (by omega),if_pos (by omega),ch_if,if_neg hc]
theorem spec_name (s:ByteArray):Ev (fun k=>spec_l2NameOk.f k s) (nameOk s):=by
 by_cases h:1≤s.size∧s.size≤8
 ·refine Ev.congr (f:=fun k=>spec_l2NameOk.l0 k s ((0:Nat):Int)) (fun k=>?_) (Ev.eq (spec_name_l s (by omega) s.size 0 (by omega) (by omega)) ?_)
  ·simp only [spec_l2NameOk.f,l1In_eq,Option.bind_some,decide_eq_true_eq];rw [if_pos (by omega)];rfl
  ·simp [nameOk,h]
 ·refine Ev.is ?_ |>.congr (fun k=>?_) (f:=fun _=>some (nameOk s))
  ·rfl
  ·simp only [spec_l2NameOk.f,l1In_eq,Option.bind_some,decide_eq_true_eq];rw [if_neg (by omega)];simp [nameOk,h]
theorem rd26 {l:List S75} {i:Nat} (h:i<l.length):rd_T75 l (i:Int)=l[i]:=by
 unfold rd_T75
 simp [h]
theorem spec_tube_l (s:ByteArray) (l:List S75) (hl:l.length≤9223372036854775807):∀ i:Nat,i≤l.length→Ev (fun k=>spec_ProbeTubeOk.l0 k (i:Int) s l) ((l.drop i).all bOk) :=
 drop_ind l (P:=fun i r=>Ev (fun k=>spec_ProbeTubeOk.l0 k (i:Int) s l) (r.all bOk))
  (Ev.step (f:=fun _=>some true) (fun k=>by simp only [spec_ProbeTubeOk.l0];rw [if_neg (by omega)]) (Ev.is rfl))
  (fun i hi ih=>by
   by_cases hb:bOk l[i]=true
   ·refine Ev.step (f:=fun k=>spec_ProbeTubeOk.l0 k ((i+1:Nat):Int) s l) (fun k=>?_) (Ev.eq ih (all_yes hb));simp only [spec_ProbeTubeOk.l0];rw [if_pos (by omega),if_pos (by omega),rd26 hi,spec_box,show boxOk l[i].f0 l[i].f1 l[i].f2 l[i].f3 l[i].f4 l[i].f5=true from hb];simp only [Option.bind_some,if_true];rw [w64 hi hl]
   ·refine Ev.step (f:=fun _=>some false) (fun k=>?_) (Ev.is (congrArg some (all_no hb)));simp only [spec_ProbeTubeOk.l0];rw [if_pos (by omega),if_pos (by omega),rd26 hi,spec_box,show boxOk l[i].f0 l[i].f1 l[i].f2 l[i].f3 l[i].f4 l[i].f5=false from Bool.eq_false_iff.2 hb]
    simp)
theorem spec_tube (s:ByteArray) (l:List S75):Ev (fun k=>spec_ProbeTubeOk.f k s l) (tubeOk s l):=by
 unfold spec_ProbeTubeOk.f
 refine Ev.bind (spec_name s) ?_;by_cases hn:nameOk s=true
 ·refine Ev.pos hn ?_;by_cases hl:l.length≤40
  ·refine Ev.step (f:=fun k=>spec_ProbeTubeOk.l0 k ((0:Nat):Int) s l) (fun k=>?_) (Ev.eq (spec_tube_l s l (by omega) 0 (by omega)) (by simp [tubeOk,hn,hl]));simp only [spec_ProbeTubeOk.j0];rw [if_neg (by simp;omega)];rfl
  ·refine Ev.step (f:=fun _=>some false) (fun k=>?_) (Ev.is (by simp [tubeOk,hl]));simp only [spec_ProbeTubeOk.j0];rw [if_pos (by simp;omega)]
 ·refine Ev.neg hn (Ev.step (f:=fun _=>some false) (fun k=>?_) (Ev.is (by simp [tubeOk,hn])));simp [spec_ProbeTubeOk.j0]
theorem impl_tube_l1 (l:List S75) (hl:l.length≤9223372036854775807):∀ i:Nat,i≤l.length→Ev (fun k=>impl_ProbeTubeOk.l1 k l (l.length:Int) (i:Int)) ((l.drop i).all bOk) :=
 drop_ind l (P:=fun i r=>Ev (fun k=>impl_ProbeTubeOk.l1 k l (l.length:Int) (i:Int)) (r.all bOk))
  (Ev.step (f:=fun _=>some true) (fun k=>by simp only [impl_ProbeTubeOk.l1];rw [if_neg (by omega)]) (Ev.is rfl))
  (fun i hi ih=>by
   by_cases hb:bOk l[i]=true
   ·refine Ev.step (f:=fun k=>impl_ProbeTubeOk.l1 k l (l.length:Int) ((i+1:Nat):Int)) (fun k=>?_) (Ev.eq ih (all_yes hb));simp only [impl_ProbeTubeOk.l1];rw [if_pos (by omega),if_pos (by omega),if_pos (by omega),rd26 hi,impl_box,show boxOk l[i].f0 l[i].f1 l[i].f2 l[i].f3 l[i].f4 l[i].f5=true from hb];simp only [Option.bind_some,if_true];rw [w64 hi hl]
   ·refine Ev.step (f:=fun _=>some false) (fun k=>?_) (Ev.is (congrArg some (all_no hb)));simp only [impl_ProbeTubeOk.l1];rw [if_pos (by omega),if_pos (by omega),if_pos (by omega),rd26 hi,impl_box,show boxOk l[i].f0 l[i].f1 l[i].f2 l[i].f3 l[i].f4 l[i].f5=false from Bool.eq_false_iff.2 hb]
    simp)
theorem impl_tube_l0 (s:ByteArray) (l:List S75) (hs:s.size≤9223372036854775807) (hl:l.length≤9223372036854775807) (d:Nat):∀ i:Nat,i≤s.size→s.size - i=d→Ev (fun k=>impl_ProbeTubeOk.l0 k (i:Int) s l) (nameFrom s i && l.all bOk):=by
 induction d with
 | zero =>
  intro i hi hd;refine Ev.step (f:=fun k=>impl_ProbeTubeOk.l1 k l (l.length:Int) ((0:Nat):Int)) (fun k=>?_) (Ev.eq (impl_tube_l1 l hl 0 (by omega)) (by rw [nameFrom_end s (by omega)];simp));simp only [impl_ProbeTubeOk.l0];rw [if_neg (by omega)];rfl
 | succ d ih =>
  intro i hi hd;have hlt:i<s.size:=by omega
  by_cases hc:ChOk (bt s (i:Int))
  ·refine Ev.step (f:=fun k=>impl_ProbeTubeOk.l0 k ((i+1:Nat):Int) s l) (fun k=>?_) (by rw [nameFrom_yes hc];exact ih (i+1) (by omega) (by omega));simp only [impl_ProbeTubeOk.l0];rw [if_pos (by omega),if_pos (by omega),ch_if,if_pos hc,w64 hlt hs]
  ·refine Ev.step (f:=fun _=>some false) (fun k=>?_) (Ev.is (by rw [nameFrom_no hlt hc];rfl));simp only [impl_ProbeTubeOk.l0];rw [if_pos (by omega),if_pos (by omega),ch_if,if_neg hc]
theorem impl_tube (s:ByteArray) (l:List S75):Ev (fun k=>impl_ProbeTubeOk.f k s l) (tubeOk s l):=by
 unfold impl_ProbeTubeOk.f
 simp only [in_eq,Option.bind_some,decide_eq_true_eq];by_cases hn:1≤s.size∧s.size≤8
 ·refine Ev.pos (by omega) ?_;by_cases hl:l.length≤40
  ·refine Ev.step (f:=fun k=>impl_ProbeTubeOk.l0 k ((0:Nat):Int) s l) (fun k=>?_) (Ev.eq (impl_tube_l0 s l (by omega) (by omega) s.size 0 (by omega) (by omega)) (by simp [tubeOk,nameOk,hn,hl]));simp only [impl_ProbeTubeOk.j0];rw [if_neg (by simp;omega)];rfl
  ·refine Ev.step (f:=fun _=>some false) (fun k=>?_) (Ev.is (by simp [tubeOk,hl]));simp only [impl_ProbeTubeOk.j0];rw [if_pos (by simp;omega)]
 ·refine Ev.neg (by omega) (Ev.step (f:=fun _=>some false) (fun k=>?_) (Ev.is (by simp [tubeOk,nameOk,hn])));simp [impl_ProbeTubeOk.j0]
theorem len_of_tube {s:ByteArray} {l:List S75} (h:tubeOk s l=true):l.length≤40∧l.all bOk=true:=by
 simp only [tubeOk,Bool.and_eq_true,decide_eq_true_eq] at h;exact ⟨h.1.2,h.2⟩
theorem size_of_tube {s:ByteArray} {l:List S75} (h:tubeOk s l=true):1≤s.size∧s.size≤8:=by
 simp only [tubeOk,nameOk,Bool.and_eq_true,decide_eq_true_eq] at h;exact h.1.1.1
abbrev St:=Option (Int × Int × Int)
abbrev Cl:=ByteArray × ByteArray × Int × Int × Int × Bool
def sA (s:ByteArray):St→ByteArray | none=>⟨#[]⟩ | some _=>s
def sT:St→Int | none=>0 | some t=>t.1
def sI:St→Int | none=>0 | some t=>t.2.1
def sJ:St→Int | none=>0 | some t=>t.2.2
def enc (s s':ByteArray) (st:St):Cl:=(sA s st,sA s' st,sT st,sI st,sJ st,st.isSome)
def better (st:St) (x y:S75) (i j:Int):St:=if (bNear x y).2=true then (match st with | none=>some ((bNear x y).1,i,j) | some t=>if (bNear x y).1<t.1 then some ((bNear x y).1,i,j) else some t) else st
def meetRow (x:S75) (i:Int):List S75→Nat→St→St
 | [],_,st=>st
 | y::r,j,st=>meetRow x i r (j+1) (better st x y i j)
def meetAll (l':List S75):List S75→Nat→St→St
 | [],_,st=>st
 | x::r,i,st=>meetAll l' r (i+1) (meetRow x i l' 0 st)
def meetSt (l l':List S75):St:=meetAll l' l 0 none
def meet (s:ByteArray) (l:List S75) (s':ByteArray) (l':List S75):Cl:=if tubeOk s l=true∧tubeOk s' l'=true then enc s s' (meetSt l l') else enc s s' none
theorem bOk_of {l:List S75} (h:l.all bOk=true) {i:Nat} (hi:i<l.length):bOk l[i]=true:=List.all_eq_true.1 h _ (List.getElem_mem hi)
theorem spec_meet_row {s s':ByteArray} {l l':List S75} (hl:l.length≤40) (hl':l'.length≤40) (ho:l.all bOk=true) (ho':l'.all bOk=true) {i:Nat} (hi:i<l.length) {R:St→Cl}
  (hy:∀ st:St,Ev (fun k=>spec_l3Meet.l0 k st.isSome ((i+1:Nat):Int) s l s' l' (sA s st) (sA s' st) (sT st) (sI st) (sJ st)) (R st)) :
  ∀ j:Nat,j≤l'.length→∀ st:St,Ev (fun k=>spec_l3Meet.l1 k st.isSome (i:Int) (j:Int) s l s' l' (sA s st) (sA s' st) (sT st) (sI st) (sJ st)) (R (meetRow l[i] i (l'.drop j) j st)) :=
 drop_ind l' (P:=fun j r=>∀ st:St,Ev (fun k=>spec_l3Meet.l1 k st.isSome (i:Int) (j:Int) s l s' l' (sA s st) (sA s' st) (sT st) (sI st) (sJ st)) (R (meetRow l[i] i r j st)))
  (fun st=>by
   refine Ev.step (f:=fun k=>spec_l3Meet.l0 k st.isSome ((i+1:Nat):Int) s l s' l' (sA s st) (sA s' st) (sT st) (sI st) (sJ st)) (fun k=>?_) (hy st);simp only [spec_l3Meet.l1];rw [if_neg (by omega),w64 hi (by omega)])
  (fun j hj ih st=>by
   have hc:=spec_l1c (bOk_of ho hi) (bOk_of ho' hj);refine Ev.step (f:=fun k=>(spec_l1Close.f k l[i].f0 l[i].f1 l[i].f2 l[i].f3 l[i].f4 l[i].f5 l'[j].f0 l'[j].f1 l'[j].f2 l'[j].f3 l'[j].f4 l'[j].f5).bind fun b=>if b.2=true then (if st.isSome=true then (if b.1<sT st then spec_l3Meet.l1 k true (i:Int) ((j+1:Nat):Int) s l s' l' s s' b.1 (i:Int) (j:Int) else spec_l3Meet.l1 k st.isSome (i:Int) ((j+1:Nat):Int) s l s' l' (sA s st) (sA s' st) (sT st) (sI st) (sJ st)) else spec_l3Meet.l1 k true (i:Int) ((j+1:Nat):Int) s l s' l' s s' b.1 (i:Int) (j:Int)) else spec_l3Meet.l1 k st.isSome (i:Int) ((j+1:Nat):Int) s l s' l' (sA s st) (sA s' st) (sT st) (sI st) (sJ st)) (fun k=>?_) ?_
   ·simp only [spec_l3Meet.l1];rw [if_pos (by omega),if_pos (by omega),if_pos (by omega),if_pos (by omega),rd26 hi,rd26 hj,w64 hj (by omega)]
   ·refine Ev.bind hc ?_
    show Ev (fun k=>if (bNear l[i] l'[j]).2=true then _ else _) _
    rw [show meetRow l[i] i (l'[j]::l'.drop (j+1)) j st=meetRow l[i] i (l'.drop (j+1)) (j+1) (better st l[i] l'[j] i j) from rfl];by_cases hn:(bNear l[i] l'[j]).2=true
    ·refine Ev.pos hn ?_
     cases st with
     | none =>
      refine Ev.neg (by simp) (Ev.eq (ih (some ((bNear l[i] l'[j]).1,i,j))) ?_);simp only [better,hn,if_true]
     | some t =>
      refine Ev.pos rfl ?_;by_cases ht:(bNear l[i] l'[j]).1<t.1
      ·refine Ev.pos ht (Ev.eq (ih (some ((bNear l[i] l'[j]).1,i,j))) ?_);simp only [better,hn,if_true,ht]
      ·refine Ev.neg ht (Ev.eq (ih (some t)) ?_);simp only [better,hn,if_true,ht,if_false]
    ·refine Ev.neg hn (Ev.eq (ih st) ?_);simp only [better,hn,Bool.false_eq_true,if_false])
theorem spec_meet_l {s s':ByteArray} {l l':List S75} (hl:l.length≤40) (hl':l'.length≤40) (ho:l.all bOk=true) (ho':l'.all bOk=true) :
  ∀ i:Nat,i≤l.length→∀ st:St,Ev (fun k=>spec_l3Meet.l0 k st.isSome (i:Int) s l s' l' (sA s st) (sA s' st) (sT st) (sI st) (sJ st)) (enc s s' (meetAll l' (l.drop i) i st)) :=
 drop_ind l (P:=fun i r=>∀ st:St,Ev (fun k=>spec_l3Meet.l0 k st.isSome (i:Int) s l s' l' (sA s st) (sA s' st) (sT st) (sI st) (sJ st)) (enc s s' (meetAll l' r i st)))
  (fun st=>Ev.step (f:=fun _=>some (enc s s' st)) (fun k=>by simp only [spec_l3Meet.l0];rw [if_neg (by omega)];rfl) (Ev.is rfl))
  (fun i hi ih st=>by
   refine Ev.step (f:=fun k=>spec_l3Meet.l1 k st.isSome (i:Int) ((0:Nat):Int) s l s' l' (sA s st) (sA s' st) (sT st) (sI st) (sJ st)) (fun k=>?_) (Ev.eq (spec_meet_row hl hl' ho ho' hi ih 0 (by omega) st) ?_)
   ·simp only [spec_l3Meet.l0];rw [if_pos (by omega)];rfl
   ·rfl)
theorem spec_l3meet (s s':ByteArray) {l l':List S75} (hl:l.length≤40) (hl':l'.length≤40) (ho:l.all bOk=true) (ho':l'.all bOk=true):Ev (fun k=>spec_l3Meet.f k s l s' l') (enc s s' (meetSt l l')):=by
 unfold spec_l3Meet.f
 exact spec_meet_l hl hl' ho ho' 0 (by omega) none
theorem impl_close_ok {x y:S75} (h:bOk x=true) (h':bOk y=true):Ev (fun k=>impl_ProbeClose.f k x.f0 x.f1 x.f2 x.f3 x.f4 x.f5 y.f0 y.f1 y.f2 y.f3 y.f4 y.f5) (bNear x y) :=
 Ev.eq (impl_close _ _ _ _ _ _ _ _ _ _ _ _) (by rw [if_pos ⟨h,h'⟩];rfl)
theorem impl_meet_row {s s':ByteArray} {l l':List S75} (hl:l.length≤40) (hl':l'.length≤40) (ho:l.all bOk=true) (ho':l'.all bOk=true) {i:Nat} (hi:i<l.length) {R:St→Cl}
  (hy:∀ st:St,Ev (fun k=>impl_ProbeMeet.l0 k st.isSome l (l.length:Int) ((i+1:Nat):Int) s l s' l' (sA s st) (sA s' st) (sT st) (sI st) (sJ st)) (R st)) :
  ∀ j:Nat,j≤l'.length→∀ st:St,Ev (fun k=>impl_ProbeMeet.l1 k st.isSome (i:Int) l (l.length:Int) (i:Int) l' (l'.length:Int) (j:Int) s l s' l' (sA s st) (sA s' st) (sT st) (sI st) (sJ st) l[i].f0 l[i].f1 l[i].f2 l[i].f3 l[i].f4 l[i].f5) (R (meetRow l[i] i (l'.drop j) j st)) :=
 drop_ind l' (P:=fun j r=>∀ st:St,Ev (fun k=>impl_ProbeMeet.l1 k st.isSome (i:Int) l (l.length:Int) (i:Int) l' (l'.length:Int) (j:Int) s l s' l' (sA s st) (sA s' st) (sT st) (sI st) (sJ st) l[i].f0 l[i].f1 l[i].f2 l[i].f3 l[i].f4 l[i].f5) (R (meetRow l[i] i r j st)))
  (fun st=>by
   refine Ev.step (f:=fun k=>impl_ProbeMeet.l0 k st.isSome l (l.length:Int) ((i+1:Nat):Int) s l s' l' (sA s st) (sA s' st) (sT st) (sI st) (sJ st)) (fun k=>?_) (hy st);simp only [impl_ProbeMeet.l1];rw [if_neg (by omega),w64 hi (by omega)])
  (fun j hj ih st=>by
   have hc:=impl_close_ok (bOk_of ho hi) (bOk_of ho' hj)
   refine Ev.step (f:=fun k=>(impl_ProbeClose.f k l[i].f0 l[i].f1 l[i].f2 l[i].f3 l[i].f4 l[i].f5 l'[j].f0 l'[j].f1 l'[j].f2 l'[j].f3 l'[j].f4 l'[j].f5).bind fun b=>if b.2=true then (if st.isSome=true then (if b.1<sT st then impl_ProbeMeet.l1 k true (i:Int) l (l.length:Int) (i:Int) l' (l'.length:Int) ((j+1:Nat):Int) s l s' l' s s' b.1 (i:Int) (j:Int) l[i].f0 l[i].f1 l[i].f2 l[i].f3 l[i].f4 l[i].f5 else impl_ProbeMeet.l1 k st.isSome (i:Int) l (l.length:Int) (i:Int) l' (l'.length:Int) ((j+1:Nat):Int) s l s' l' (sA s st) (sA s' st) (sT st) (sI st) (sJ st) l[i].f0 l[i].f1 l[i].f2 l[i].f3 l[i].f4 l[i].f5) else impl_ProbeMeet.l1 k true (i:Int) l (l.length:Int) (i:Int) l' (l'.length:Int) ((j+1:Nat):Int) s l s' l' s s' b.1 (i:Int) (j:Int) l[i].f0 l[i].f1 l[i].f2 l[i].f3 l[i].f4 l[i].f5) else impl_ProbeMeet.l1 k st.isSome (i:Int) l (l.length:Int) (i:Int) l' (l'.length:Int) ((j+1:Nat):Int) s l s' l' (sA s st) (sA s' st) (sT st) (sI st) (sJ st) l[i].f0 l[i].f1 l[i].f2 l[i].f3 l[i].f4 l[i].f5) (fun k=>?_) ?_
   ·simp only [impl_ProbeMeet.l1];rw [if_pos (by omega),if_pos (by omega),if_pos (by omega),rd26 hj,w64 hj (by omega)]
   ·refine Ev.bind hc ?_;rw [show meetRow l[i] i (l'[j]::l'.drop (j+1)) j st=meetRow l[i] i (l'.drop (j+1)) (j+1) (better st l[i] l'[j] i j) from rfl];by_cases hn:(bNear l[i] l'[j]).2=true
    ·refine Ev.pos hn ?_
     cases st with
     | none =>
      refine Ev.neg (by simp) (Ev.eq (ih (some ((bNear l[i] l'[j]).1,i,j))) ?_);simp only [better,hn,if_true]
     | some t =>
      refine Ev.pos rfl ?_;by_cases ht:(bNear l[i] l'[j]).1<t.1
      ·refine Ev.pos ht (Ev.eq (ih (some ((bNear l[i] l'[j]).1,i,j))) ?_);simp only [better,hn,if_true,ht]
      ·refine Ev.neg ht (Ev.eq (ih (some t)) ?_);simp only [better,hn,if_true,ht,if_false]
    ·refine Ev.neg hn (Ev.eq (ih st) ?_);simp only [better,hn,Bool.false_eq_true,if_false])
theorem impl_meet_l {s s':ByteArray} {l l':List S75} (hl:l.length≤40) (hl':l'.length≤40) (ho:l.all bOk=true) (ho':l'.all bOk=true) :
  ∀ i:Nat,i≤l.length→∀ st:St,Ev (fun k=>impl_ProbeMeet.l0 k st.isSome l (l.length:Int) (i:Int) s l s' l' (sA s st) (sA s' st) (sT st) (sI st) (sJ st)) (enc s s' (meetAll l' (l.drop i) i st)) :=
 drop_ind l (P:=fun i r=>∀ st:St,Ev (fun k=>impl_ProbeMeet.l0 k st.isSome l (l.length:Int) (i:Int) s l s' l' (sA s st) (sA s' st) (sT st) (sI st) (sJ st)) (enc s s' (meetAll l' r i st)))
  (fun st=>Ev.step (f:=fun _=>some (enc s s' st)) (fun k=>by simp only [impl_ProbeMeet.l0];rw [if_neg (by omega)];rfl) (Ev.is rfl))
  (fun i hi ih st=>by
   refine Ev.step (f:=fun k=>impl_ProbeMeet.l1 k st.isSome (i:Int) l (l.length:Int) (i:Int) l' (l'.length:Int) ((0:Nat):Int) s l s' l' (sA s st) (sA s' st) (sT st) (sI st) (sJ st) l[i].f0 l[i].f1 l[i].f2 l[i].f3 l[i].f4 l[i].f5) (fun k=>?_) (Ev.eq (impl_meet_row hl hl' ho ho' hi ih 0 (by omega) st) ?_)
   ·simp only [impl_ProbeMeet.l0];rw [if_pos (by omega),if_pos (by omega),if_pos (by omega),rd26 hi];rfl
   ·rfl)
theorem impl_meet (s:ByteArray) (l:List S75) (s':ByteArray) (l':List S75):Ev (fun k=>impl_ProbeMeet.f k s l s' l') (meet s l s' l'):=by
 unfold impl_ProbeMeet.f
 refine Ev.bind (impl_tube s l) ?_;by_cases h:tubeOk s l=true
 ·refine Ev.pos h (Ev.bind (impl_tube s' l') ?_);by_cases h':tubeOk s' l'=true
  ·refine Ev.step (f:=fun k=>impl_ProbeMeet.l0 k false l (l.length:Int) ((0:Nat):Int) s l s' l' (⟨#[]⟩:ByteArray) (⟨#[]⟩:ByteArray) 0 0 0) (fun k=>?_) (Ev.eq (impl_meet_l (len_of_tube h).1 (len_of_tube h').1 (len_of_tube h).2 (len_of_tube h').2 0 (by omega) none) (by rw [meet,if_pos ⟨h,h'⟩];rfl));simp only [impl_ProbeMeet.j0];rw [if_neg (by simp [h'])];rfl
  ·refine Ev.step (f:=fun _=>some (enc s s' none)) (fun k=>?_) (Ev.is (by rw [meet,if_neg (fun x=>h' x.2)]));simp only [impl_ProbeMeet.j0];rw [if_pos (by simpa using h')];rfl
 ·refine Ev.neg h (Ev.step (f:=fun _=>some (enc s s' none)) (fun k=>?_) (Ev.is (by rw [meet,if_neg (fun x=>h x.1)])));simp only [impl_ProbeMeet.j0];rfl
def Bs (b:List Int):Prop:=(∀ x∈b,0≤x∧x≤255)∧b.length≤2000
theorem wr {x:Int} (h : -9223372036854775808≤x) (h':x≤9223372036854775807):wrap64 x=x:=by
 unfold wrap64
 omega
theorem rd_bs {b:List Int} (hb:Bs b) (i:Int):0≤rd b i∧rd b i≤255:=by
 unfold rd
 rcases Nat.lt_or_ge i.toNat b.length with h | h
 ·rw [List.getD_eq_getElem?_getD,List.getElem?_eq_getElem h];exact hb.1 _ (List.getElem_mem h)
 ·rw [List.getD_eq_getElem?_getD,List.getElem?_eq_none h];simp
theorem tm {a n:Int} (h0:0≤a) (hn:0<n):0≤Int.tmod a n∧Int.tmod a n<n:=⟨Int.tmod_nonneg n h0,Int.tmod_lt_of_pos a hn⟩
theorem td {a n:Int} (h0:0≤a) (hn:0<n):0≤Int.tdiv a n∧Int.tdiv a n≤a:=by
 rw [Int.tdiv_eq_ediv_of_nonneg h0];exact ⟨Int.ediv_nonneg h0 (by omega),Int.ediv_le_self n h0⟩
theorem xor_pos {x y:Int} (h0:0≤x) (h1:x<4611686018427387904) (h2:0≤y) (h3:y<4611686018427387904):0≤Go.bits .xor .i64 x y:=by
 obtain ⟨a,rfl⟩:=Int.eq_ofNat_of_zero_le h0;obtain ⟨b,rfl⟩:=Int.eq_ofNat_of_zero_le h2
 have e:∀ n:Nat,n<9223372036854775808→(BitVec.ofInt 64 (n:Int)).toNat=n:=fun n hn=>by
  rw [BitVec.ofInt_natCast,BitVec.toNat_ofNat];exact Nat.mod_eq_of_lt (by omega)
 have hx:a ^^^ b<2 ^ 62:=Nat.xor_lt_two_pow (by omega) (by omega)
 show 0≤IntKind.i64.wrap ((BitVec.ofInt 64 (a:Int) ^^^ BitVec.ofInt 64 (b:Int)).toNat:Int)
 rw [BitVec.toNat_xor,e a (by omega),e b (by omega),IntKind.wrap_i64];omega
theorem pick_ev {b:List Int} (hb:Bs b) {p:Int} (h0:0≤p) (h1:p≤1000000) (n:Int):∃ r,Ev (fun k=>spec_l1Rd_pick.f k b p n) (r,p+1)∧0≤r∧(1≤n→r<n):=by
 have w1:wrap64 (p+1)=p+1:=wr (by omega) (by omega);have w2:wrap64 (p+1 - 1)=p:=by rw [show p+1 - 1=p by omega];exact wr (by omega) (by omega)
 by_cases hn:n<1
 ·refine ⟨0,⟨1,fun k hk=>?_⟩,Int.le_refl _,fun h=>by omega⟩;obtain ⟨k,rfl⟩:∃ m,k=m+1:=⟨k - 1,by omega⟩;simp only [spec_l1Rd_pick.f,spec_l1Rd_pick.j0];rw [if_pos hn,w1];rfl
 by_cases hl:b.length=0
 ·refine ⟨0,⟨1,fun k hk=>?_⟩,Int.le_refl _,fun h=>by omega⟩;obtain ⟨k,rfl⟩:∃ m,k=m+1:=⟨k - 1,by omega⟩;simp only [spec_l1Rd_pick.f,spec_l1Rd_pick.j0];rw [if_neg hn,w1,if_pos (by simp [hl])]
 have hlp:(0:Int)<b.length:=by omega
 have hl2:b.length≤2000:=hb.2;by_cases hp:p<(b.length:Int)
 ·have hr:=rd_bs hb p;have ht:=tm (a:=rd b p) (n:=n) hr.1 (by omega);refine ⟨Int.tmod (rd b p) n,⟨1,fun k hk=>?_⟩,ht.1,fun _=>ht.2⟩;obtain ⟨k,rfl⟩:∃ m,k=m+1:=⟨k - 1,by omega⟩;simp only [spec_l1Rd_pick.f,spec_l1Rd_pick.j0];rw [if_neg hn,w1,w2,if_neg (by simpa using hl),if_pos hp,if_pos h0,if_neg (by omega),wr (by omega) (by omega)]
 ·have i1:=tm (a:=p) h0 hlp;have w3:wrap64 (p * 7)=p * 7:=wr (by omega) (by omega);have w4:wrap64 (p * 7+3)=p * 7+3:=wr (by omega) (by omega);have i2:=tm (a:=p * 7+3) (by omega) hlp;have r1:=rd_bs hb (Int.tmod p b.length);have r2:=rd_bs hb (Int.tmod (p * 7+3) b.length);have d1:=td (a:=p) h0 hlp
  generalize ha:rd b (Int.tmod p b.length)=a at r1
  generalize hc:rd b (Int.tmod (p * 7+3) b.length)=c at r2
  generalize hd:Int.tdiv p b.length=d at d1
  have x0:0≤a * 131+c * 1117+p * 29+d * 53:=by omega
  have x1:a * 131+c * 1117+p * 29+d * 53≤1000000000:=by omega
  have d2:=td (a:=a * 131+c * 1117+p * 29+d * 53) (n:=64) x0 (by omega);have hx:=xor_pos x0 (by omega) d2.1 (by omega);have ht:=tm (n:=n) hx (by omega);refine ⟨Int.tmod (Go.bits .xor .i64 (a * 131+c * 1117+p * 29+d * 53) (Int.tdiv (a * 131+c * 1117+p * 29+d * 53) 64)) n,⟨1,fun k hk=>?_⟩,ht.1,fun _=>ht.2⟩;obtain ⟨k,rfl⟩:∃ m,k=m+1:=⟨k - 1,by omega⟩;simp only [spec_l1Rd_pick.f,spec_l1Rd_pick.j0]
  rw [if_neg hn,w1,w2,if_neg (by simpa using hl),if_neg hp,if_neg (by omega),if_pos i1.1,if_pos i1.2,w3,w4,if_pos i2.1,if_pos i2.2,if_neg (by omega),ha,hc,hd,
   wr (x:=a) (by omega) (by omega),wr (x:=a * 131) (by omega) (by omega),wr (x:=c) (by omega) (by omega),wr (x:=c * 1117) (by omega) (by omega),wr (x:=a * 131+c * 1117) (by omega) (by omega),wr (x:=p * 29) (by omega) (by omega),
   wr (x:=a * 131+c * 1117+p * 29) (by omega) (by omega),wr (x:=d) (by omega) (by omega),wr (x:=d * 53) (by omega) (by omega),wr (x:=a * 131+c * 1117+p * 29+d * 53) (by omega) (by omega),wr (x:=Int.tdiv (a * 131+c * 1117+p * 29+d * 53) 64) (by omega) (by omega)]
theorem open_ev (l:List Int) (h:∀ x∈l,0≤x∧x≤255):∃ b,spec_l1Open.f l=some (b,0)∧Bs b:=by
 unfold spec_l1Open.f
 by_cases hl:(l.length:Int) > 2000
 ·rw [if_pos hl,if_pos (by omega)];exact ⟨_,rfl,fun x hx=>h x (List.mem_of_mem_take hx),by simp;omega⟩
 ·rw [if_neg hl];exact ⟨_,rfl,h,by omega⟩
theorem of_ev {b:List Int} (hb:Bs b) {p:Int} (h0:0≤p) (h1:p≤1000000) (l:List ByteArray) (hl:0<l.length):∃ s,Ev (fun k=>spec_l1Rd_of.f k b p l) (s,p+1)∧s∈l:=by
 obtain ⟨r,hr,r0,r1⟩:=pick_ev hb h0 h1 (l.length:Int);have r2:=r1 (by omega);have hlt:r.toNat<l.length:=by omega
 refine ⟨l[r.toNat],?_,List.getElem_mem hlt⟩
 unfold spec_l1Rd_of.f
 refine Ev.bind hr (Ev.pos r0 (Ev.pos r2 (Ev.is ?_)))
 unfold rdOf
 simp [hlt]
def Dr (F:Nat→Option (ByteArray × List S75 × Int)) (s:ByteArray) (m:Nat) (p c:Int):Prop:=∃ (l:List S75) (q:Int),Ev F (s,l,q)∧l.length≤m∧p≤q∧q≤p+c
theorem Dr.more {F:Nat→Option (ByteArray × List S75 × Int)} {s:ByteArray} {m:Nat} {p c p' c':Int} (h:Dr F s m p c) (h1:p'≤p) (h2:p+c≤p'+c'):Dr F s m p' c':=by
 obtain ⟨l,q,h,a,b,d⟩:=h;exact ⟨l,q,h,a,by omega,by omega⟩
def Rg (n:Int):Prop := -9223372036854775808≤n∧n≤9223372036854775807
def Wf (x:S75):Prop:=Rg x.f0∧Rg x.f1∧Rg x.f2∧Rg x.f3∧Rg x.f4∧Rg x.f5
theorem wR (x:Int):Rg (wrap64 x):=by
 unfold Rg wrap64
 omega
theorem rdR {l:List Int} (h:∀ x∈l,Rg x) (i:Int):Rg (rd l i):=by
 unfold rd
 rcases Nat.lt_or_ge i.toNat l.length with h' | h'
 ·rw [List.getD_eq_getElem?_getD,List.getElem?_eq_getElem h'];exact h _ (List.getElem_mem h')
 ·rw [List.getD_eq_getElem?_getD,List.getElem?_eq_none h']
  unfold Rg
  simp
theorem many_evD (n:Nat):∀ x acc:ByteArray,n≤100000→x.size * n+acc.size≤1000000→∃ r,Ev (fun k=>spec_l1Many.l0 k x (n:Int) acc) r∧r.size≤acc.size+x.size * n:=by
 induction n using Nat.strongRecOn with
 | ind n ih =>
  intro x acc hn h;by_cases h0:n=0
  ·subst h0;exact ⟨acc,Ev.step (g:=fun k=>spec_l1Many.l0 k x ((0:Nat):Int) acc) (fun k=>spec_l1Many.l0.eq_2 ..) (Ev.neg (by omega) (Ev.now _)),by omega⟩
  ·have hd:wrap64 (Int.tdiv (n:Int) 2)=((n / 2:Nat):Int):=by
    rw [Int.tdiv_eq_ediv_of_nonneg (by omega),wr (by omega) (by omega)];omega
   have hxx:(x++x).size=x.size+x.size:=by simp
   have hxa:(acc++x).size=acc.size+x.size:=by simp
   have hm:x.size≤x.size * n:=Nat.le_mul_of_pos_right _ (by omega)
   have h2:2 * (x.size * (n / 2))≤x.size * n:=by
    rw [Nat.mul_left_comm];exact Nat.mul_le_mul_left _ (by omega)
   have h4:(x++x).size * (n / 2)=2 * (x.size * (n / 2)):=by rw [hxx,Nat.add_mul];omega
   by_cases ho:Int.tmod (n:Int) 2=1
   ·have ho':n % 2=1:=by
     rw [Int.tmod_eq_emod_of_nonneg (by omega)] at ho;omega
    have h5:2 * (x.size * (n / 2))+x.size=x.size * n:=by
     have e:n=2 * (n / 2)+1:=by omega
     conv=>rhs;rw [e]
     rw [Nat.mul_add,Nat.mul_one,Nat.mul_left_comm]
    obtain ⟨r,hr,hs⟩:=ih (n / 2) (by omega) (x++x) (acc++x) (by omega) (by rw [h4,hxa];omega);rw [h4,hxa] at hs;refine ⟨r,Ev.step (g:=fun k=>spec_l1Many.l0 k x (n:Int) acc) (fun k=>spec_l1Many.l0.eq_2 ..) (Ev.pos (by omega) (Ev.pos ho (Ev.pos (by omega) (Ev.pos (by omega) (by rw [hd];exact hr))))),by omega⟩
   ·obtain ⟨r,hr,hs⟩:=ih (n / 2) (by omega) (x++x) acc (by omega) (by rw [h4];omega);rw [h4] at hs;refine ⟨r,Ev.step (g:=fun k=>spec_l1Many.l0 k x (n:Int) acc) (fun k=>spec_l1Many.l0.eq_2 ..) (Ev.pos (by omega) (Ev.neg ho (Ev.pos (by omega) (by rw [hd];exact hr)))),by omega⟩
theorem many_f (m:Nat) (c:Int) (x:ByteArray) (h:c=(m:Int)) (hm:m≤100000) (hx:x.size * m≤1000000):∃ r,Ev (fun k=>spec_l1Many.f k x c) r∧r.size≤x.size * m:=by
  have o0:(⟨#[]⟩:ByteArray).size=0:=rfl;obtain ⟨r,hr,hz⟩:=many_evD m x ⟨#[]⟩ hm (by rw [o0];omega);rw [o0] at hz;subst h;exact ⟨r,by unfold spec_l1Many.f;exact hr,by omega⟩
end Go.Proofs.YtgklmafdbgnohaaGreat.Q
end
