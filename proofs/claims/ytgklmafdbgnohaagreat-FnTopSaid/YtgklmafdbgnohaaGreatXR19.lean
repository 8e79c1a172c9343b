/- sort.Strings by the shelf's contract, laid at this program; the collected keys, sorted, as a row of the call's own. No condition. -/
import Derived.Shelf.Sort.Plain
import Derived.Test.YtgklmafdbgnohaaGreatXP2
set_option linter.unusedVariables false
set_option linter.unusedSimpArgs false
namespace Go.Proofs
def Tryz.lays192_ren:Go.Shelf.Ren:=⟨fun | 192=>51 | 190=>78 | 125=>73 | 258=>113 | 128=>103 | 129=>104 | 302=>130 | 303=>131 | 304=>132 | 305=>133 | 306=>134 | 307=>135 | 308=>136 | 309=>137 | 310=>138 | 333=>144 | 329=>145 | 330=>146 | 334=>147 | 335=>148 | 336=>149 | 344=>150 | n=>n,fun | 31=>97 | 0=>0 | 9=>9 | 3=>3 | 46=>124 | 51=>148 | 53=>150 | 4=>4 | 183=>177 | 182=>176 | 131=>93 | 5=>5 | 218=>191 | 222=>173 | 228=>194 | 229=>189 | n=>n,fun | n=>n⟩
theorem Tryz.lays192:Go.Proofs.Lays.n192 Tryz.prog Tryz.lays192_ren:={
  mixed:=by kernel_rfl,
  f125:=Tryz.func73.trans (congrArg some (by kernel_rfl)),
  f128:=Tryz.func103.trans (congrArg some (by kernel_rfl)),
  f129:=Tryz.func104.trans (congrArg some (by kernel_rfl)),
  f190:=Tryz.func78.trans (congrArg some (by kernel_rfl)),
  f192:=Tryz.func51.trans (congrArg some (by kernel_rfl)),
  f258:=Tryz.func113.trans (congrArg some (by kernel_rfl)),
  f302:=Tryz.func130.trans (congrArg some (by kernel_rfl)),
  f303:=Tryz.func131.trans (congrArg some (by kernel_rfl)),
  f304:=Tryz.func132.trans (congrArg some (by kernel_rfl)),
  f305:=Tryz.func133.trans (congrArg some (by kernel_rfl)),
  f306:=Tryz.func134.trans (congrArg some (by kernel_rfl)),
  f307:=Tryz.func135.trans (congrArg some (by kernel_rfl)),
  f308:=Tryz.func136.trans (congrArg some (by kernel_rfl)),
  f309:=Tryz.func137.trans (congrArg some (by kernel_rfl)),
  f310:=Tryz.func138.trans (congrArg some (by kernel_rfl)),
  f329:=Tryz.func145.trans (congrArg some (by kernel_rfl)),
  f330:=Tryz.func146.trans (congrArg some (by kernel_rfl)),
  f333:=Tryz.func144.trans (congrArg some (by kernel_rfl)),
  f334:=Tryz.func147.trans (congrArg some (by kernel_rfl)),
  f335:=Tryz.func148.trans (congrArg some (by kernel_rfl)),
  f336:=Tryz.func149.trans (congrArg some (by kernel_rfl)),
  f344:=Tryz.func150.trans (congrArg some (by kernel_rfl)),
  t0:=Tryz.underlying0,
  a0:=Tryz.isAgg0,
  z0:=Tryz.sizeOf0,
  v0:=Tryz.zeroValue0,
  t3:=Tryz.underlying3,
  a3:=Tryz.isAgg3,
  z3:=Tryz.sizeOf3,
  v3:=Tryz.zeroValue3,
  t4:=Tryz.underlying4,
  a4:=Tryz.isAgg4,
  z4:=Tryz.sizeOf4,
  v4:=Tryz.zeroValue4,
  t5:=Tryz.underlying5,
  a5:=Tryz.isAgg5,
  z5:=Tryz.sizeOf5,
  v5:=Tryz.zeroValue5,
  t9:=Tryz.underlying9,
  a9:=Tryz.isAgg9,
  z9:=Tryz.sizeOf9,
  v9:=Tryz.zeroValue9,
  t31:=Tryz.underlying97,
  a31:=Tryz.isAgg97,
  z31:=Tryz.sizeOf97,
  v31:=Tryz.zeroValue97,
  t46:=Tryz.underlying124,
  a46:=Tryz.isAgg124,
  z46:=Tryz.sizeOf124,
  v46:=Tryz.zeroValue124,
  t51:=Tryz.underlying148,
  a51:=Tryz.isAgg148,
  z51:=Tryz.sizeOf148,
  v51:=Tryz.zeroValue148,
  t53:=Tryz.underlying150,
  a53:=Tryz.isAgg150,
  z53:=Tryz.sizeOf150,
  v53:=Tryz.zeroValue150,
  t131:=Tryz.underlying93,
  a131:=Tryz.isAgg93,
  z131:=Tryz.sizeOf93,
  v131:=Tryz.zeroValue93,
  t182:=Tryz.underlying176,
  a182:=Tryz.isAgg176,
  z182:=Tryz.sizeOf176,
  v182:=Tryz.zeroValue176,
  t183:=Tryz.underlying177,
  a183:=Tryz.isAgg177,
  z183:=Tryz.sizeOf177,
  v183:=Tryz.zeroValue177,
  t218:=Tryz.underlying191,
  a218:=Tryz.isAgg191,
  z218:=Tryz.sizeOf191,
  v218:=Tryz.zeroValue191,
  t222:=Tryz.underlying173,
  a222:=Tryz.isAgg173,
  z222:=Tryz.sizeOf173,
  v222:=Tryz.zeroValue173,
  t228:=Tryz.underlying194,
  a228:=Tryz.isAgg194,
  z228:=Tryz.sizeOf194,
  v228:=Tryz.zeroValue194,
  t229:=Tryz.underlying189,
  a229:=Tryz.isAgg189,
  z229:=Tryz.sizeOf189,
  v229:=Tryz.zeroValue189 }
end Go.Proofs
namespace Go.Proofs.YtgklmafdbgnohaaGreat.Mp
open Go.RowKit Go.Proofs.YtgklmafdbgnohaaGreat.PA Go.Proofs.YtgklmafdbgnohaaGreatW.PrintWords Go.Proofs.YtgklmafdbgnohaaGreatW.PrintLast Go.Proofs.YtgklmafdbgnohaaGreatW.PrintMore
open Go.MapKept Go.WideElems Go.WideShapes Go.ChangeMaps
section
variable {w:World} {g:Nat} {M:MS} {ops:Array Oper} {rest:List Oper} {o:Oper} {a:Act} {Q:Exit→Act→World→Prop}
theorem lookA_event (hgd:o.guard=none) (m x:Operand) (hop:o.op = .lookup 92 m x true) (s:ByteArray) (hm:a.eval m = .map (some g)) (hx:a.eval x = .string s) (hB:w.heap[g]? = some (mobj M))
    (h:wpList Tryz.prog ops Q rest (a.put o.dst (.tuple #[.agg #[.string (mget M s).f0, .string (mget M s).f1, .int .i64 (mget M s).f2, .int .i64 (mget M s).f3, .int .i64 (mget M s).f4], .bool (mhas M s)])) w):wpList Tryz.prog ops Q (o::rest) a w:=look_event hgd m x hop s hm hx hB h
theorem getA_event (hgd:o.guard=none) (m x:Operand) (hop:o.op = .lookup 92 m x false) (s:ByteArray) (hm:a.eval m = .map (some g)) (hx:a.eval x = .string s) (hB:w.heap[g]? = some (mobj M))
    (h:wpList Tryz.prog ops Q rest (a.put o.dst (.agg #[.string (mget M s).f0, .string (mget M s).f1, .int .i64 (mget M s).f2, .int .i64 (mget M s).f3, .int .i64 (mget M s).f4])) w):wpList Tryz.prog ops Q (o::rest) a w:=get_event hgd m x hop s hm hx hB h
theorem updA_event (hgd:o.guard=none) (m x v:Operand) (hop:o.op = .mapUpdate 92 m x v) (hd:o.dst=none) (s:ByteArray) (c:S91) (hm:a.eval m = .map (some g)) (hx:a.eval x = .string s) (hv:a.eval v = .agg #[.string c.f0, .string c.f1, .int .i64 c.f2, .int .i64 c.f3, .int .i64 c.f4]) (hB:w.heap[g]? = some (mobj M))
    (h:∀ w1:World,w1.heap[g]? = some (mobj (mput M s c))→w.grownBy w1 (some g)→wpList Tryz.prog ops Q rest a w1):wpList Tryz.prog ops Q (o::rest) a w:=upd_event hgd m x v hop hd s c hm hx hv hB h
end
theorem row_ne {α:Type} {d:Kd α} {w:World} {e base g:Nat} {ok:Nat→Prop} {v:Value} {xs:List α} {M:MS} (h:d.R e w base ok v xs) (hB:w.heap[g]? = some (mobj M)):some g≠v.ownBlock:=by
  intro e1;obtain ⟨_,inner,ho,_⟩:=h;obtain ⟨cells,hc⟩:=own_typed ho g e1.symm;rw [hB] at hc;cases hc
theorem size_mdat (M:MS):Go.Maps.size (mdat M)=M.length:=by simp [mdat,Go.Maps.size,length_sorted,length_ents]
theorem sort78 {w:World} {g cap:Nat} {ss:List (List UInt8)} (hH:Go.Sort.Holds encStr w g 0 ss.toArray) (hg:g<w.heap.size) (hl:ss.length<4611686018427387904) :
    Calls Tryz.prog 51 #[.slice (some ⟨g,0,none⟩) ss.length cap] w fun e w'=>e = .returned (.tuple #[])∧∃ n os,w'=Go.Sort.grow (Go.Sort.putRow encStr (Go.Sort.ahead w n) g 0 (ss.mergeSort leB).toArray) os :=
  Any.sort_Strings Tryz.lays192 g 0 cap ss w hH hg hl
theorem own_sorted {w:World} {base:Nat} {v:Value} {M:MS} {ss:List (List UInt8)} {t:List ByteArray} (hp:ss.Perm (keyL M)) (ht:t=sorted (keyL M)) (ho:w.ownsRow base 9 1 v ss.length ((ss.mergeSort leB).map encStr)):Kd.string.R 9 w base (fun _=>True) v t:=by
  have hs:t=(ss.mergeSort leB).map fun x=>⟨x.toArray⟩:=by rw [ht,sorted,mergeSort_of_perm hp]
  have hl:t.length=ss.length:=by simp [hs]
  refine Kd.R_of_own (h1:=fun _=>rfl) ?_ (fun _ _=>trivial);have:encs Value.string t=(ss.mergeSort leB).map encStr:=by rw [hs];simp [encs,encStr]
  rw [this,hl];exact ho
end Go.Proofs.YtgklmafdbgnohaaGreat.Mp
