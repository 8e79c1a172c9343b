/- A map[spot][]ProbeSlot that the call makes: its block as a function of the list of its entries (key, row's value), and the rows beside it. No condition. -/
import Derived.Maps.RangeWalk
import Derived.Sort.KeysCollected
import Derived.Sort.OwnSorted
import Derived.Test.YtgklmafdbgnohaaGreatXPAs1
import Derived.WideKeyEntry
set_option linter.unusedVariables false
set_option linter.unusedSimpArgs false
section
namespace Go.Proofs.YtgklmafdbgnohaaGreat.Mp
open Go.RowKit Go.Proofs.YtgklmafdbgnohaaGreat.PA Go.Proofs.YtgklmafdbgnohaaGreatW.PrintWords Go.Proofs.YtgklmafdbgnohaaGreatW.PrintLast Go.Proofs.YtgklmafdbgnohaaGreatW.PrintMore
open Go.MapKept Go.WideElems Go.WideShapes Go.ChangeMaps
abbrev MS:=List (ByteArray × S91)
def mval (c:S91):Value := .agg #[.string c.f0, .string c.f1, .int .i64 c.f2, .int .i64 c.f3, .int .i64 c.f4]
def entsFrom:MS→Nat→List MapEntry
  | [],_=>[]
  | p::r,i=>{ key := .string p.1,val:=mval p.2,born:=i } :: entsFrom r (i+1)
def mobj (M:MS):Obj := .map (entsFrom M 0).toArray M.length
def mfind (s:ByteArray):MS→Nat→Option (Nat × S91)
  | [],_=>none
  | p::r,i=>if s=p.1 then some (i,p.2) else mfind s r (i+1)
def mhas (M:MS) (s:ByteArray):Bool:=(mfind s M 0).isSome
def mget (M:MS) (s:ByteArray):S91:=((mfind s M 0).map Prod.snd).getD z91
def mput (M:MS) (s:ByteArray) (c:S91):MS:=match mfind s M 0 with | some (i,_)=>M.set i (s,c) | none=>M++[(s,c)]
theorem length_ents:∀ (M:MS) (i:Nat),(entsFrom M i).length=M.length
  | [],_=>rfl
  | p::r,i=>by simp [entsFrom,length_ents r]
theorem ents_append (p:ByteArray × S91):∀ (M:MS) (i:Nat),entsFrom (M++[p]) i=entsFrom M i++[{ key := .string p.1,val:=mval p.2,born:=i+M.length }]
  | [],i=>rfl
  | q::r,i=>by simp [entsFrom,ents_append p r,Nat.add_assoc,Nat.add_comm 1]
theorem ents_set (s:ByteArray) (c:S91):∀ (M:MS) (i j:Nat),entsFrom (M.set j (s,c)) i=(entsFrom M i).modify j fun e=>{ e with key := .string s,val:=mval c }
  | [],i,j=>by simp [entsFrom]
  | q::r,i,0=>rfl
  | q::r,i,j+1=>by simp [entsFrom,ents_set s c r]
theorem ba_beq (a b:ByteArray):(a==b)=decide (a=b):=by
  rw [Bool.eq_iff_iff,decide_eq_true_eq];cases a with | mk x=>cases b with | mk y =>
  show (x==y)=true↔_
  simp
theorem findNow_ents (s:ByteArray):∀ (M:MS) (i b:Nat),Instr.findNow .string (.string s) (entsFrom M b) i=some ((mfind s M i).map fun p=>(p.1,mval p.2))
  | [],i,b=>rfl
  | q :: r,i,b=>by
    simp only [entsFrom,Instr.findNow,Instr.sameNow,mfind];rw [ba_beq];by_cases h:s=q.1
    · simp [h]
    · simp only [h,decide_false,if_false];exact findNow_ents s r (i+1) (b+1)
theorem mfind_get (s:ByteArray):∀ (M:MS) (i:Nat) {j:Nat} {c:S91},mfind s M i=some (j,c)→i≤j∧M[j - i]? = some (s,c)
  | [],i,j,c,h=>by simp [mfind] at h
  | q :: r,i,j,c,h=>by
    simp only [mfind] at h
    split at h
    · rename_i hq
      cases h
      exact ⟨Nat.le_refl _,by simp [hq]⟩
    · obtain ⟨h1,h2⟩:=mfind_get s r (i+1) h;refine ⟨by omega,?_⟩;rw [show j - i=(j - (i+1))+1 by omega]
      simpa using h2
theorem ents_key:∀ (M:MS) (i j:Nat),(entsFrom M i)[j]?.map (·.key)=(M.map fun p=>Value.string p.1)[j]?
  | [],i,j=>by simp [entsFrom]
  | q::r,i,0=>by simp [entsFrom]
  | q::r,i,j+1=>by simpa [entsFrom] using ents_key r (i+1) j
section
variable {w:World} {g:Nat} {M:MS}
theorem underM:Tryz.prog.underlying 92=some (.map 9 91):=Tryz.underlying92
theorem under9:Tryz.prog.underlying 9=some .string:=Tryz.underlying9
theorem zero49 (w:World):(zeroValue 91).run Tryz.prog w = .ok (mval z91) w:=by kernel_rfl
theorem run_look (hB:w.heap[g]? = some (mobj M)) (s:ByteArray) (c:Bool):(Instr.lookup 92 (.map (some g)) (.string s) c).run Tryz.prog w = .ok (if c then .tuple #[mval (mget M s), .bool (mhas M s)] else mval (mget M s)) w:=by
  unfold mobj at hB
  have hf:=run_findKey (w:=w) under9 (findNow_ents s M 0 0);have hk:∀ b,(Instr.checkKey b 10000 9 (.string s)).run Tryz.prog w = .ok () w:=fun b=>run_checkKey under9 (show IsKey .string (.string s) from trivial) b 9999
  cases h:mfind s M 0 with
  | none =>
    rw [h] at hf;simp [Instr.lookup,run_underlying underM,Go.MapKept.run_getObj_map hB,hk,hf,zero49,mhas,mget,h,Result.andThen]
    cases c<;>simp [zero49]<;>rfl
  | some p =>
    rw [h] at hf;simp [Instr.lookup,run_underlying underM,Go.MapKept.run_getObj_map hB,hk,hf,mhas,mget,h,Result.andThen]
theorem run_upd (hB:w.heap[g]? = some (mobj M)) (s:ByteArray) (c:S91):(Instr.mapUpdate 92 (.map (some g)) (.string s) (mval c)).run Tryz.prog w = .ok () { w with heap:=w.heap.setIfInBounds g (mobj (mput M s c)) }:=by
  unfold mobj at hB
  have hf:=run_findKey (w:=w) under9 (findNow_ents s M 0 0);have hk:∀ b,(Instr.checkKey b 10000 9 (.string s)).run Tryz.prog w = .ok () w:=fun b=>run_checkKey under9 (show IsKey .string (.string s) from trivial) b 9999
  cases h:mfind s M 0 with
  | none =>
    rw [h] at hf;simp [Instr.mapUpdate,run_underlying underM,Go.MapKept.run_getObj_map hB,hk,hf,mput,h,Result.andThen,Go.MapKept.run_setObj_map _ hB,mobj,ents_append]
  | some p =>
    obtain ⟨j,d⟩:=p;rw [h] at hf;obtain ⟨_,h2⟩:=mfind_get s M 0 h;have hj:(entsFrom M 0)[j]?.map (·.key)=some (.string s):=by rw [ents_key];simp only [Nat.sub_zero] at h2;simp [h2]
    obtain ⟨e,he,hek⟩:∃ e,(entsFrom M 0)[j]? = some e∧e.key = .string s:=by simpa using hj
    have hst:(Instr.keyThatStays (.string s) (.string s)).run Tryz.prog w = .ok (.string s) w:=by
      have:Instr.sameBits 10000 (.string s) (.string s)=true:=by show (s==s)=true;rw [ba_beq];simp
      simp [Instr.keyThatStays,this]
    simp [Instr.mapUpdate,run_underlying underM,Go.MapKept.run_getObj_map hB,hk,hf,mput,h,Result.andThen,Go.MapKept.run_setObj_map _ hB,mobj,ents_set,he,hek,hst]
variable {ops:Array Oper} {rest:List Oper} {o:Oper} {a:Act} {Q:Exit→Act→World→Prop}
theorem mk_event (hgd:o.guard=none) (hop:o.op = .makeMap 92 none) (h:∀ g,g=w.heap.size→∀ w1:World,w1.heap[g]? = some (mobj [])→Below w.heap.size w w1→wpList Tryz.prog ops Q rest (a.put o.dst (.map (some g))) w1):wpList Tryz.prog ops Q (o::rest) a w:=by
  refine wpList_plain hgd fun K hK=>?_
  unfold Oper.wp
  simp [execOp,hop,run_makeMap,Result.andThen]
  exact hK _ _ (h _ rfl _ (heap_alloc w _).1 (below_alloc (Below.refl _ _) _))
theorem look_event (hgd:o.guard=none) (m x:Operand) (hop:o.op = .lookup 92 m x true) (s:ByteArray) (hm:a.eval m = .map (some g)) (hx:a.eval x = .string s) (hB:w.heap[g]? = some (mobj M))
    (h:wpList Tryz.prog ops Q rest (a.put o.dst (.tuple #[mval (mget M s), .bool (mhas M s)])) w):wpList Tryz.prog ops Q (o::rest) a w:=by
  refine wpList_plain hgd fun K hK=>?_;have:=run_look hB s true
  unfold Oper.wp
  simp [execOp,hop,hm,hx,this,Result.andThen]
  exact hK _ _ h
theorem get_event (hgd:o.guard=none) (m x:Operand) (hop:o.op = .lookup 92 m x false) (s:ByteArray) (hm:a.eval m = .map (some g)) (hx:a.eval x = .string s) (hB:w.heap[g]? = some (mobj M))
    (h:wpList Tryz.prog ops Q rest (a.put o.dst (mval (mget M s))) w):wpList Tryz.prog ops Q (o::rest) a w:=by
  refine wpList_plain hgd fun K hK=>?_;have:=run_look hB s false
  unfold Oper.wp
  simp [execOp,hop,hm,hx,this,Result.andThen]
  exact hK _ _ h
theorem upd_event (hgd:o.guard=none) (m x v:Operand) (hop:o.op = .mapUpdate 92 m x v) (hd:o.dst=none) (s:ByteArray) (c:S91) (hm:a.eval m = .map (some g)) (hx:a.eval x = .string s) (hv:a.eval v=mval c) (hB:w.heap[g]? = some (mobj M))
    (h:∀ w1:World,w1.heap[g]? = some (mobj (mput M s c))→w.grownBy w1 (some g)→wpList Tryz.prog ops Q rest a w1):wpList Tryz.prog ops Q (o::rest) a w:=by
  refine wpList_plain hgd fun K hK=>?_;have:=run_upd hB s c;have hl:g<w.heap.size:=(Array.getElem?_eq_some_iff.1 hB).1
  unfold Oper.wp
  have h1:=h { w with heap:=w.heap.setIfInBounds g (mobj (mput M s c)) } (by simp [hl]) ⟨rfl,rfl,rfl,by simp,fun i _ hi=>by
    have:g≠i:=fun e=>hi (by rw [e]);simp [Array.getElem?_setIfInBounds,this]⟩
  simp [execOp,hop,hm,hx,hv,this,Result.andThen]
  show K (a.put o.dst undef) _
  rw [hd];exact hK _ _ h1
theorem mfar {W:World} {o:Obj} {p:Addr} (h:W.heap[g]? = some o) (hn:g≠p.block) (u:Value):(W.setCell p u).heap[g]? = some o:=(Below.heap_setCell W p u g hn).trans h
theorem mb {W:World} (h:Aside0 (w.heap[g]? = some (mobj M))) (e:w.heap[g]? = some (mobj M)→W.heap[g]? = some (mobj M):=by
    (intro hq_;(repeat (first | (with_reducible exact hq_) | (with_reducible refine blk_drewN ?_ _) | (with_reducible refine blk_drew ?_) | (with_reducible refine blk_alloc ?_ _) | refine Mp.mfar ?_ (Aside0.out (by assumption)) _)))):W.heap[g]? = some (mobj M):=e h.out
theorem mn {g':Nat} {o:Obj} {W:World} (hg:g'=W.heap.size) (h:W.heap[g]? = some o):Aside0 (g≠g'):=⟨by rw [hg];exact Nat.ne_of_lt (blk_lt h)⟩
theorem mm {g':Nat} {o:Obj} {W:World} (hg:g'=W.heap.size) (h:W.heap[g]? = some o):Aside0 (g'≠g):=⟨by rw [hg];exact Nat.ne_of_gt (blk_lt h)⟩
def Rc:Value→Option (DataW Unit × List MemPlace):=fun _=>some (.lit (.bool true),[])
theorem law9:Go.Maps.Keyed Tryz.prog 9:=Go.Maps.string_keyed under9
noncomputable def mdat (M:MS):DataW Unit := .map (((entsFrom M 0).map (Go.WideElems.rg Tryz.prog 9 Rc)).foldr DataW.insert [])
def keyL (M:MS):List (List UInt8):=M.map fun p=>p.1.data.toList
def sorted (l:List (List UInt8)):List ByteArray:=(l.mergeSort leB).map fun x=>⟨x.toArray⟩
def mnames (M:MS):Option (List ByteArray):=if (∀ p∈M,p.1.size≤1000000000)∧(M.map Prod.fst).Nodup∧M.length≤1000000000 then some (sorted (keyL M)) else none
theorem mnames_inv {t:List ByteArray} (h:mnames M=some t):((∀ p∈M,p.1.size≤1000000000)∧(M.map Prod.fst).Nodup∧M.length≤1000000000)∧t=sorted (keyL M):=by
  unfold mnames at h
  split at h
  · rename_i hc
    exact ⟨hc,(Option.some.inj h).symm⟩
  · cases h
theorem mem_ents:∀ (M:MS) (i:Nat) {e:MapEntry},e∈entsFrom M i→∃ p∈M,e.key = .string p.1∧e.val=mval p.2∧i≤e.born∧e.born<i+M.length
  | [],_,e,h=>by simp [entsFrom] at h
  | q :: r,i,e,h=>by
    simp only [entsFrom,List.mem_cons] at h
    rcases h with rfl | h
    · exact ⟨q,by simp,rfl,rfl,Nat.le_refl _,by simp⟩
    · obtain ⟨p,hp,h1,h2,h3,h4⟩:=mem_ents r (i+1) h;exact ⟨p,by simp [hp],h1,h2,by omega,by simp;omega⟩
theorem born_ents:∀ (M:MS) (i:Nat),((entsFrom M i).map (·.born)).Nodup
  | [],_=>by simp [entsFrom]
  | q :: r,i=>by
    simp only [entsFrom,List.map_cons,List.nodup_cons,List.mem_map,not_exists,not_and];refine ⟨fun e he hb=>?_,born_ents r (i+1)⟩;obtain ⟨_,_,_,_,h3,_⟩:=mem_ents r (i+1) he;omega
theorem keys_ents:∀ (M:MS) (i:Nat),(entsFrom M i).map (·.key)=M.map fun p=>Value.string p.1
  | [],_=>rfl
  | q::r,i=>by simp [entsFrom,keys_ents r (i+1)]
theorem rd_ent {p:ByteArray × S91} (h:p.1.size≤1000000000) {e:MapEntry} (hk:e.key = .string p.1):Go.WideElems.rd Tryz.prog 9 Rc e=some (.string p.1.data.toList, .lit (.bool true)):=by
  have:=Go.WideMaps.keyOf_string_mk (P:=Tryz.prog) (k:=9) under9 (s:=p.1) (by unfold maxLen;omega)
  unfold Go.WideElems.rd
  rw [hk,this];rfl
theorem rg_ent (p:ByteArray × S91) (h:p.1.size≤1000000000) (v:Value) (i:Nat):Go.WideElems.rg Tryz.prog 9 Rc { key := .string p.1,val:=v,born:=i } = (.string p.1.data.toList, .lit (.bool true)):=Go.WideElems.rg_of (rd_ent h rfl)
theorem owns (hB:w.heap[g]? = some (mobj M)) (hs:∀ p∈M,p.1.size≤1000000000) (hn:(M.map Prod.fst).Nodup) (hl:M.length≤1000000000):w.ownsMap Tryz.prog 9 Rc g M.length (mdat M):=by
  refine ⟨_,_,hB,⟨by simp [length_ents,maxLen];omega,⟨fun e he=>?_,by simpa using born_ents M 0,?_⟩,fun e he=>?_⟩,by simp [length_ents],by simp [mdat]⟩
  · obtain ⟨p,_,_,_,_,h4⟩:=mem_ents M 0 (by simpa using he);omega
  · rw [List.toList_toArray,keys_ents];refine List.pairwise_map.2 ((List.pairwise_map.1 hn).imp fun {p q} h e=>h ?_)
    simpa using e
  · obtain ⟨p,hp,h1,_⟩:=mem_ents M 0 (by simpa using he);exact ⟨_,rd_ent (hs p hp) h1⟩
theorem keys_perm (hs:∀ p∈M,p.1.size≤1000000000):(strKeys (mdat M)).Perm (keyL M):=by
  unfold mdat strKeys
  refine ((sorted_perm _).map _).trans ?_
  have : ∀ (L:MS) (i:Nat),(∀ p∈L,p.1.size≤1000000000)→((entsFrom L i).map (Go.WideElems.rg Tryz.prog 9 Rc)).map (fun p=>strOf p.1)=keyL L:=by
    intro L
    induction L with
    | nil=>intro i _;rfl
    | cons q r ih =>
      intro i h;have hq:q.1.size≤1000000000:=h q List.mem_cons_self;have hr:=rg_ent q hq (mval q.2) i;simp only [entsFrom,List.map_cons,keyL,hr];rw [ih (i+1) (fun p hp=>h p (List.mem_cons_of_mem _ hp))];rfl
  rw [this M 0 hs]
theorem sorted_len (l:List (List UInt8)):(sorted l).length=l.length:=by simp [sorted]
end
end Go.Proofs.YtgklmafdbgnohaaGreat.Mp
end
section
namespace Go.Proofs.YtgklmafdbgnohaaGreat.Mq
open Go.RowKit Go.Proofs.YtgklmafdbgnohaaGreat.PA Go.Proofs.YtgklmafdbgnohaaGreatW.PrintWords Go.Proofs.YtgklmafdbgnohaaGreatW.PrintLast Go.Proofs.YtgklmafdbgnohaaGreatW.PrintMore
open Go.MapKept Go.WideElems Go.WideShapes Go.ChangeMaps
abbrev MQ:=List ((Int × Int) × List S80)
abbrev MV:=List ((Int × Int) × Value)
def qkey (c:Int × Int):Value := .agg #[.int .i64 c.1, .int .i64 c.2]
def qents:MV→Nat→List MapEntry
  | [],_=>[]
  | p::r,i=>{ key:=qkey p.1,val:=p.2,born:=i } :: qents r (i+1)
def mobj (V:MV):Obj := .map (qents V 0).toArray V.length
def qfind {α:Type} (c:Int × Int):List ((Int × Int) × α)→Nat→Option (Nat × α)
  | [],_=>none
  | p::r,i=>if c=p.1 then some (i,p.2) else qfind c r (i+1)
theorem length_qents:∀ (V:MV) (i:Nat),(qents V i).length=V.length
  | [],_=>rfl
  | p::r,i=>by simp [qents,length_qents r]
theorem qents_append (p:(Int × Int) × Value):∀ (V:MV) (i:Nat),qents (V++[p]) i=qents V i++[{ key:=qkey p.1,val:=p.2,born:=i+V.length }]
  | [],i=>rfl
  | q::r,i=>by simp [qents,qents_append p r,Nat.add_assoc,Nat.add_comm 1]
theorem qents_at:∀ (V:MV) (i j:Nat),(qents V i)[j]? = (V[j]?).map fun p=>({ key:=qkey p.1,val:=p.2,born:=i+j } : MapEntry)
  | [],i,j=>by simp [qents]
  | q::r,i,0=>by simp [qents]
  | q::r,i,j+1=>by simp [qents,qents_at r (i+1) j,Nat.add_assoc,Nat.add_comm 1]
theorem under_map:Tryz.prog.underlying 73=some (.map 77 78):=Tryz.underlying73
theorem check_spot (w:World) (c:Int × Int) (b:Bool):(Instr.checkKey b 10000 77 (qkey c)).run Tryz.prog w = .ok () w:=by kernel_rfl
theorem zero_slots (w:World):(zeroValue 78).run Tryz.prog w = .ok (.slice none 0 0) w:=by kernel_rfl
theorem equal_spot (w:World) (c d:Int × Int):(Op.equal 77 (qkey c) (qkey d)).run Tryz.prog w = .ok (decide (c=d)) w:=by
  have hu:Tryz.prog.underlying 77=_:=Tryz.underlying77;have h:=eqA_of (P:=Tryz.prog) (d:=9999) (xs:=#[.int .i64 c.1, .int .i64 c.2]) (ys:=#[.int .i64 d.1, .int .i64 d.2]) (w:=w) (r:=(c.1==d.1) && (c.2==d.2)) hu (by kernel_rfl) (eqf_cons (a := .int .i64 c.1) (b := .int .i64 d.1) (by rfl) (by kernel_rfl) (by kernel_rfl) (by kernel_rfl) (eqf_last (a := .int .i64 c.2) (b := .int .i64 d.2) (by rfl) (by kernel_rfl) (by kernel_rfl) (by kernel_rfl)))
  have e:((c.1==d.1) && (c.2==d.2))=decide (c=d):=by
    obtain ⟨a,b⟩:=c;obtain ⟨x,y⟩:=d;rw [Bool.eq_iff_iff];simp
  rw [← e];exact h
theorem find_ask (w:World) (c:Int × Int):∀ (V:MV) (i b:Nat),(Instr.findAsking 77 (qkey c) (qents V b) i).run Tryz.prog w = .ok (qfind c V i) w
  | [],i,b=>rfl
  | p :: r,i,b=>by
    simp only [qents,Instr.findAsking,qfind,Sem.run_bind,equal_spot,Result.andThen];by_cases h:c=p.1
    · simp [h]
    · simp only [h,decide_false,Bool.false_eq_true,if_false];exact find_ask w c r (i+1) (b+1)
theorem find_key (w:World) (c:Int × Int) (V:MV):(Instr.findKey 77 (qkey c) (qents V 0)).run Tryz.prog w = .ok (qfind c V 0) w:=by
  have hu:Tryz.prog.underlying 77=_:=Tryz.underlying77
  cases V with
  | nil=>simp [Instr.findKey,run_underlying hu,Result.andThen,qents,Instr.findNow,qfind]
  | cons p r =>
    have h:=find_ask w c (p::r) 0 0;simp only [qents] at h ⊢;simp [Instr.findKey,run_underlying hu,Result.andThen,Instr.findNow,Instr.sameNow,qkey] at h ⊢
    exact h
theorem key_stays (w:World) (c:Int × Int):(Instr.keyThatStays (qkey c) (qkey c)).run Tryz.prog w = .ok (qkey c) w:=by
  have h:Instr.sameBits (9999+1) (qkey c) (qkey c)=true:=by simp [Instr.sameBits,qkey]
  have h':Instr.sameBits 10000 (qkey c) (qkey c)=true:=h;simp [Instr.keyThatStays,h']
theorem qfind_get {α:Type} (c:Int × Int):∀ (V:List ((Int × Int) × α)) (i:Nat) {j:Nat} {v:α},qfind c V i=some (j,v)→i≤j∧V[j - i]? = some (c,v)
  | [],i,j,v,h=>by simp [qfind] at h
  | q :: r,i,j,v,h=>by
    simp only [qfind] at h
    split at h
    · rename_i hq
      cases h
      exact ⟨Nat.le_refl _,by simp [hq]⟩
    · obtain ⟨h1,h2⟩:=qfind_get c r (i+1) h;refine ⟨by omega,?_⟩;rw [show j - i=(j - (i+1))+1 by omega]
      simpa using h2
def qval (c:Int × Int) (V:MV):Value:=((qfind c V 0).map Prod.snd).getD (.slice none 0 0)
def qidx {α:Type} (c:Int × Int) (V:List ((Int × Int) × α)):Nat:=((qfind c V 0).map Prod.fst).getD V.length
def qadd (c:Int × Int) (V:MV):MV:=if (qfind c V 0).isSome then V else V++[(c, .slice none 0 0)]
def qset (V:MV) (i:Nat) (v:Value):MV:=V.modify i fun p=>(p.1,v)
theorem born_qents:∀ (V:MV) (i:Nat),(qents V i).map (·.born)=List.range' i V.length
  | [],i=>rfl
  | q::r,i=>by simp [qents,born_qents r (i+1),List.range'_succ]
theorem qents_set:∀ (V:MV) (i j:Nat) (v:Value),(qents V i).modify j (fun e=>{ e with val:=v })=qents (qset V j v) i
  | [],i,j,v=>by simp [qents,qset]
  | q::r,i,0,v=>by simp [qents,qset]
  | q::r,i,j+1,v=>by simpa [qents,qset] using qents_set r (i+1) j v
theorem qents_key {V:MV} {j:Nat} {c:Int × Int} {v:Value} (h:V[j]? = some (c,v)):(qents V 0).modify j (fun e=>{ e with key:=qkey c })=qents V 0:=by
  refine List.ext_getElem? fun i=>?_;rw [List.getElem?_modify];by_cases hij:j=i
  · subst hij;rw [qents_at,h];simp
  · simp [hij]
section
variable {w:World} {g:Nat} {V:MV}
theorem run_ent (hB:w.heap[g]? = some (mobj V)) (c:Int × Int):(Instr.mapEntry 73 (.map (some g)) (qkey c)).run Tryz.prog w = .ok (.tuple #[qval c V, .int .i64 (qidx c V:Nat)]) { w with heap:=w.heap.setIfInBounds g (mobj (qadd c V)) }:=by
  unfold mobj at hB
  have hf:=find_key w c V;have hk:=fun b=>check_spot w c b
  cases h:qfind c V 0 with
  | none =>
    rw [h] at hf;simp [Instr.mapEntry,run_underlying under_map,Go.MapKept.run_getObj_map hB,hk,hf,zero_slots,Result.andThen,Go.MapKept.run_setObj_map _ hB,mobj,qents_append,qadd,qval,qidx,h,goInt]
  | some p =>
    obtain ⟨j,v⟩:=p;rw [h] at hf;obtain ⟨_,h2⟩:=qfind_get c V 0 h;simp only [Nat.sub_zero] at h2;have he:=qents_at V 0 j;rw [h2] at he;simp only [Option.map_some,Nat.zero_add] at he;have hk2:=qents_key h2;simp [Instr.mapEntry,run_underlying under_map,Go.MapKept.run_getObj_map hB,hk,hf,Result.andThen,Go.MapKept.run_setObj_map _ hB,mobj,qadd,qval,qidx,h,he,key_stays,hk2,goInt]
theorem run_sto (hB:w.heap[g]? = some (mobj V)) {i:Nat} (hi:i<V.length) (v:Value):(Instr.entryStore 73 (.map (some g)) (.int .i64 (i:Nat)) v).run Tryz.prog w = .ok () { w with heap:=w.heap.setIfInBounds g (mobj (qset V i v)) }:=by
  unfold mobj at hB
  have hl:(qset V i v).length=V.length:=by simp [qset]
  have hx:(qents V 0).findIdx? (fun e=>((e.born:Nat):Int)==((i:Nat):Int))=some i:=by
    have he:=qents_at V 0 i;rw [List.getElem?_eq_getElem hi] at he;simp only [Option.map_some,Nat.zero_add] at he;exact findIdx_born (by rw [born_qents];exact List.nodup_range') he
  simp [Instr.entryStore,Go.MapKept.run_getObj_map hB,Result.andThen,Go.MapKept.run_setObj_map _ hB,mobj,hl,asInt,asIntOf,hx,qents_set]
variable {ops:Array Oper} {rest:List Oper} {o:Oper} {a:Act} {Q:Exit→Act→World→Prop}
theorem set_grown (hB:w.heap[g]? = some (mobj V)) (V':MV):({ w with heap:=w.heap.setIfInBounds g (mobj V') } : World).heap[g]? = some (mobj V')∧w.grownBy { w with heap:=w.heap.setIfInBounds g (mobj V') } (some g):=by
  have hl:g<w.heap.size:=(Array.getElem?_eq_some_iff.1 hB).1
  exact ⟨by simp [hl],rfl,rfl,rfl,by simp,fun i _ hi=>by
    have:g≠i:=fun e=>hi (by rw [e]);simp [Array.getElem?_setIfInBounds,this]⟩
theorem mk_event (hgd:o.guard=none) (hop:o.op = .makeMap 73 none) (h:∀ g,g=w.heap.size→∀ w1:World,w1.heap[g]? = some (mobj [])→Below w.heap.size w w1→wpList Tryz.prog ops Q rest (a.put o.dst (.map (some g))) w1):wpList Tryz.prog ops Q (o::rest) a w:=by
  refine wpList_plain hgd fun K hK=>?_
  unfold Oper.wp
  simp [execOp,hop,run_makeMap,Result.andThen]
  exact hK _ _ (h _ rfl _ (heap_alloc w _).1 (below_alloc (Below.refl _ _) _))
theorem ent_event (hgd:o.guard=none) (m x:Operand) (hop:o.op = .mapEntry 73 m x) (c:Int × Int) (hm:a.eval m = .map (some g)) (hx:a.eval x = .agg #[.int .i64 c.1, .int .i64 c.2]) (hB:w.heap[g]? = some (mobj V))
    (h:∀ w1:World,w1.heap[g]? = some (mobj (qadd c V))→w.grownBy w1 (some g)→wpList Tryz.prog ops Q rest (a.put o.dst (.tuple #[qval c V, .int .i64 (qidx c V:Nat)])) w1):wpList Tryz.prog ops Q (o::rest) a w:=by
  refine wpList_plain hgd fun K hK=>?_;have:=run_ent hB c
  unfold qkey at this
  obtain ⟨h1,h2⟩:=set_grown hB (qadd c V)
  unfold Oper.wp
  simp [execOp,hop,hm,hx,this,Result.andThen]
  exact hK _ _ (h _ h1 h2)
theorem sto_event (hgd:o.guard=none) (m s x:Operand) (hop:o.op = .entryStore 73 m s x) (hd:o.dst=none) (i:Nat) (v:Value) (hm:a.eval m = .map (some g)) (hs:a.eval s = .int .i64 (i:Nat)) (hx:a.eval x=v) (hB:w.heap[g]? = some (mobj V)) (hi:i<V.length)
    (h:∀ w1:World,w1.heap[g]? = some (mobj (qset V i v))→w.grownBy w1 (some g)→wpList Tryz.prog ops Q rest a w1):wpList Tryz.prog ops Q (o::rest) a w:=by
  refine wpList_plain hgd fun K hK=>?_;have:=run_sto hB hi v;obtain ⟨h1,h2⟩:=set_grown hB (qset V i v)
  unfold Oper.wp
  simp [execOp,hop,hm,hs,hx,this,Result.andThen]
  show K (a.put o.dst undef) _
  rw [hd];exact hK _ _ (h _ h1 h2)
end
def Rows (w:World) (base:Nat) (V:MV) (M:MQ):Prop :=
  V.map Prod.fst=M.map Prod.fst ∧
  (∀ (i:Nat) p q,V[i]? = some p→M[i]? = some q→Kd.R k80 80 w base (fun k=>some k=p.2.ownBlock) p.2 q.2) ∧
  (∀ (i j:Nat) p q,V[i]? = some p→V[j]? = some q→i≠j→p.2.ownBlock=none∨p.2.ownBlock≠q.2.ownBlock)
section
variable {w w1:World} {base g:Nat} {V V0:MV} {M:MQ}
theorem rows_len (h:Rows w base V M):V.length=M.length:=by have:=congrArg List.length h.1;simpa using this
theorem rows_nil (w:World) (base:Nat):Rows w base [] []:=⟨rfl,fun i p q h=>by simp at h,fun i j p q h=>by simp at h⟩
theorem rows_move (h:Rows w base V M) (hm:∀ (k:Nat) (cells:Array Value),w.heap[k]? = some (.cells cells 80 (0,0))→w1.heap[k]? = w.heap[k]?):Rows w1 base V M :=
  ⟨h.1,fun i p q hp hq=>by
    have hr:=h.2.1 i p q hp hq;refine Kd.R_move hr fun k hk=>?_;obtain ⟨cells,hc⟩:=Kd.R_typed hr k hk.symm;exact hm k cells hc,h.2.2⟩
theorem rows_below (h:Rows w base V M) (hb:Below w.heap.size w w1):Rows w1 base V M:=rows_move h fun k cells hc=>hb.block k (Array.getElem?_eq_some_iff.1 hc).1
theorem rows_set {cs:Array Value} {t:Nat} (h:Rows w base V M) (hb:w.heap[g]? = some (.cells cs t (0,0))) (ht:t≠80) (j:Nat) (u:Value):Rows (w.setCell ⟨g,j,none⟩ u) base V M:=rows_move h fun k cells hc=>by
  refine Below.heap_setCell w ⟨g,j,none⟩ u k fun e=>?_
  simp only at e
  subst e;rw [hb] at hc
  injection hc with hc
  injection hc with _ hc
  exact ht hc
theorem rows_grown (h:Rows w base V M) {row:Option Nat} (hg:w.grownBy w1 row) (hr:∀ (k:Nat) (cells:Array Value),w.heap[k]? = some (.cells cells 80 (0,0))→some k≠row):Rows w1 base V M:=rows_move h fun k cells hc=>hg.block k (Array.getElem?_eq_some_iff.1 hc).1 (hr k cells hc)
theorem rows_map (h:Rows w base V M) (hB:w.heap[g]? = some (mobj V0)) (hg:w.grownBy w1 (some g)):Rows w1 base V M:=rows_grown h hg fun k cells hc e=>by
  injection e with e
  subst e;rw [hB] at hc;cases hc
def madd (c:Int × Int) (M:MQ):MQ:=if (qfind c M 0).isSome then M else M++[(c,[])]
def mapp (M:MQ) (c:Int × Int) (s:S80):MQ:=(madd c M).modify (qidx c M) fun q=>(q.1,q.2++[s])
theorem qfind_keys {α β:Type} (c:Int × Int):∀ (A:List ((Int × Int) × α)) (B:List ((Int × Int) × β)) (i:Nat),A.map Prod.fst=B.map Prod.fst→(qfind c A i).map Prod.fst=(qfind c B i).map Prod.fst
  | [],[],i,_=>rfl
  | [],_::_,i,h=>by simp at h
  | _::_,[],i,h=>by simp at h
  | p :: A,q::B,i,h=>by
    simp only [List.map_cons,List.cons.injEq] at h;simp only [qfind,h.1]
    split
    · rfl
    · exact qfind_keys c A B (i+1) h.2
theorem idx_keys {c:Int × Int} (h:V.map Prod.fst=M.map Prod.fst):qidx c V=qidx c M:=by
  have h1:=qfind_keys c V M 0 h;have h2:V.length=M.length:=by have:=congrArg List.length h;simpa using this
  unfold qidx
  rw [h1,h2]
theorem rows_add (h:Rows w base V M) (c:Int × Int):Rows w base (qadd c V) (madd c M):=by
  have h1:=qfind_keys c V M 0 h.1;have hl:=rows_len h
  have hs:(qfind c V 0).isSome=(qfind c M 0).isSome:=by
    have:=congrArg Option.isSome h1
    simpa using this
  unfold qadd madd
  rw [hs]
  split
  · exact h
  · refine ⟨by simp [h.1],fun i p q hp hq=>?_,fun i j p q hp hq hij=>?_⟩
    · rcases Nat.lt_or_ge i V.length with hi | hi
      · rw [List.getElem?_append_left hi] at hp;rw [List.getElem?_append_left (by omega)] at hq;exact h.2.1 i p q hp hq
      · rw [List.getElem?_append_right hi] at hp;rw [List.getElem?_append_right (by omega),← hl] at hq
        cases hd:i - V.length with
        | zero =>
          rw [hd] at hp hq;simp only [List.getElem?_cons_zero,Option.some.injEq] at hp hq;subst hp;subst hq;exact Kd.R_nil _ _ _ _ _
        | succ d =>
          rw [hd] at hp
          simp at hp
    · rcases Nat.lt_or_ge i V.length with hi | hi
      · rw [List.getElem?_append_left hi] at hp
        rcases Nat.lt_or_ge j V.length with hj | hj
        · rw [List.getElem?_append_left hj] at hq;exact h.2.2 i j p q hp hq hij
        · rw [List.getElem?_append_right hj] at hq
          cases hd:j - V.length with
          | zero =>
            rw [hd] at hq;simp only [List.getElem?_cons_zero,Option.some.injEq] at hq;subst hq;by_cases hn:p.2.ownBlock=none
            · exact .inl hn
            · exact .inr (by simpa [Value.ownBlock] using hn)
          | succ d =>
            rw [hd] at hq
            simp at hq
      · rw [List.getElem?_append_right hi] at hp
        cases hd:i - V.length with
        | zero =>
          rw [hd] at hp;simp only [List.getElem?_cons_zero,Option.some.injEq] at hp;subst hp;exact .inl (by simp [Value.ownBlock])
        | succ d =>
          rw [hd] at hp
          simp at hp
theorem add_at {α:Type} (c:Int × Int) (A:List ((Int × Int) × α)) (z:α):(if (qfind c A 0).isSome then A else A++[(c,z)])[qidx c A]? = some (c,((qfind c A 0).map Prod.snd).getD z):=by
  unfold qidx
  cases h:qfind c A 0 with
  | none=>simp
  | some p =>
    obtain ⟨j,v⟩:=p;obtain ⟨_,h2⟩:=qfind_get c A 0 h
    simpa using h2
def mval (c:Int × Int) (M:MQ):List S80:=((qfind c M 0).map Prod.snd).getD []
theorem qadd_at (c:Int × Int) (V:MV):(qadd c V)[qidx c V]? = some (c,qval c V):=add_at c V _
theorem madd_at (c:Int × Int) (M:MQ):(madd c M)[qidx c M]? = some (c,mval c M):=add_at c M _
theorem idx_lt (c:Int × Int) (V:MV):qidx c V<(qadd c V).length:=(List.getElem?_eq_some_iff.1 (qadd_at c V)).1
theorem rows_at (h:Rows w base V M) (c:Int × Int):Kd.R k80 80 w base (fun k=>some k=(qval c V).ownBlock) (qval c V) (mval c M):=(rows_add h c).2.1 (qidx c V) _ _ (qadd_at c V) (by rw [idx_keys h.1];exact madd_at c M)
theorem rows_app {c:Int × Int} (h:Rows w base (qadd c V) (madd c M)) (hi:qidx c V=qidx c M) {v1:Value} {s:S80} (hg:w.grownBy w1 (qval c V).ownBlock) (hat:v1.ownBlock=(qval c V).ownBlock∨∃ b,v1.ownBlock=some b∧w.heap.size≤b)
    (hr:Kd.R k80 80 w1 base (fun _=>True) v1 (mval c M++[s])):Rows w1 base (qset (qadd c V) (qidx c V) v1) (mapp M c s):=by
  have ha:=qadd_at c V;have hb:=madd_at c M;refine ⟨?_,fun i p q hp hq=>?_,fun i j p q hp hq hij=>?_⟩
  · unfold mapp qset
    rw [← hi]
    have e1:((qadd c V).modify (qidx c V) fun p=>(p.1,v1)).map Prod.fst=(qadd c V).map Prod.fst:=by
      refine List.ext_getElem? fun i=>?_;simp only [List.getElem?_map,List.getElem?_modify]
      split<;>simp [Function.comp_def]
    have e2:((madd c M).modify (qidx c V) fun q=>(q.1,q.2++[s])).map Prod.fst=(madd c M).map Prod.fst:=by
      refine List.ext_getElem? fun i=>?_;simp only [List.getElem?_map,List.getElem?_modify]
      split<;>simp [Function.comp_def]
    rw [e1,e2];exact h.1
  · unfold qset at hp
    unfold mapp at hq
    rw [← hi] at hq;rw [List.getElem?_modify] at hp hq;by_cases e:qidx c V=i
    · subst e;rw [ha] at hp;rw [hi,hb] at hq
      simp at hp hq
      subst hp;subst hq;exact Kd.R_tight rfl hr
    · simp only [if_neg e] at hp hq;refine Kd.R_grown (h.2.1 i p q (by simpa using hp) (by simpa using hq)) hg fun k hk=>?_
      rcases h.2.2 i (qidx c V) p _ (by simpa using hp) ha (fun e'=>e e'.symm) with h1 | h1
      · rw [h1] at hk;cases hk
      · rw [hk];exact h1
  · unfold qset at hp hq
    rw [List.getElem?_modify] at hp hq
    have old:∀ (i:Nat) p,qidx c V≠i→(qadd c V)[i]? = some p→p.2.ownBlock=none∨p.2.ownBlock≠v1.ownBlock:=by
      intro i p hne hp
      rcases hat with hat | ⟨b,hb1,hb2⟩
      · rw [hat];exact h.2.2 i (qidx c V) p _ hp ha (fun e=>hne e.symm)
      · refine .inr fun e=>?_;have hl:i<(madd c M).length:=by rw [← rows_len h];exact (List.getElem?_eq_some_iff.1 hp).1
        have:=Kd.R_lt (h.2.1 i p _ hp (List.getElem?_eq_getElem hl)) b (e.trans hb1);omega
    by_cases e:qidx c V=i
    · subst e;rw [ha] at hp
      simp at hp
      subst hp;simp only [if_neg hij] at hq
      rcases old j q hij (by simpa using hq) with h1 | h1
      · by_cases hv:v1.ownBlock=none
        · exact .inl hv
        · exact .inr (by rw [h1];exact hv)
      · exact .inr (fun e=>h1 e.symm)
    · simp only [if_neg e] at hp;by_cases e':qidx c V=j
      · subst e';rw [ha] at hq
        simp at hq
        subst hq;exact old i p e (by simpa using hp)
      · simp only [if_neg e'] at hq;exact h.2.2 i j p q (by simpa using hp) (by simpa using hq) hij
end
end Go.Proofs.YtgklmafdbgnohaaGreat.Mq
end
