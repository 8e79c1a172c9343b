/- Contracts of the program's and the reference's functions (they began as prints of the kit's tool; shortened and joined). No condition beside what the Lean functions say. -/
import Derived.Test.YtgklmafdbgnohaaGreatXG10
import Derived.Test.YtgklmafdbgnohaaGreatXQ12
import Derived.Test.YtgklmafdbgnohaaGreatXZCy6
import Derived.Test.YtgklmafdbgnohaaGreatXPAd4
import Derived.Test.YtgklmafdbgnohaaGreatXZCx5
import Derived.Test.YtgklmafdbgnohaaGreatXZCv8
import Derived.Test.YtgklmafdbgnohaaGreatXZCm7
set_option linter.unusedVariables false
set_option linter.unusedSimpArgs false
section
namespace Go.Proofs.YtgklmafdbgnohaaGreat.PA
open Go.RowKit Go.Proofs.YtgklmafdbgnohaaGreat.Q Go.Proofs.YtgklmafdbgnohaaGreatW.PrintWords Go.Proofs.YtgklmafdbgnohaaGreatW.PrintLast Go.Proofs.YtgklmafdbgnohaaGreatW.PrintMore Go.Proofs.YtgklmafdbgnohaaGreat.Z
attribute [local go_sem] max2_int min2_int max_two min_two max_three min_three max_four min_four
set_option maxHeartbeats 8000000
set_option maxRecDepth 100000
structure DD (w0 w:World) (g:Nat) (b:List Int) (R:Nat) (W:World):Prop where
  i:∃ p:Int,0≤p∧p+R≤990000∧IsS113 w0 W g b p
  e:Below w0.heap.size w0 W
  k:KeepBut w W g none
  z:w0.heap.size≤w.heap.size
  h:Bs b
section
variable {w0 w W W1 w1:World} {g gb:Nat} {b:List Int} {R R':Nat} {α:Type} {d:Kd α} {e base:Nat} {ok:Nat→Prop} {v:Value} {xs:List α} {o:Obj}
theorem DD.below (h:DD w0 w g b R W) (hb:Below W.heap.size W W1):DD w0 w g b R W1:=⟨h.i.imp fun _ x=>⟨x.1,x.2.1,x.2.2.below hb⟩,below_step h.e hb,h.k.trans (KeepBut.of_below hb g none) (.inl rfl),h.z,h.h⟩
theorem DD.alloc (h:DD w0 w g b R W) (o:Obj):DD w0 w g b R (W.alloc o):=h.below (below_alloc (Below.refl _ _) o)
theorem DD.drewN (h:DD w0 w g b R W) (m:Nat):DD w0 w g b R (W.drewN m):=⟨h.i,pw_below_drewN h.e m,keep_drewN h.k m,h.z,h.h⟩
theorem DD.drew (h:DD w0 w g b R W):DD w0 w g b R W.drew:=⟨h.i,below_drew1 h.e,keep_drew h.k,h.z,h.h⟩
theorem DD.far (h:DD w0 w g b R W) {j:Nat} (h1:g≠gb) (h2:w.heap.size≤gb) (u:Value):DD w0 w g b R (W.setCell ⟨gb,j,none⟩ u):=⟨h.i.imp fun _ x=>⟨x.1,x.2.1,x.2.2.far h1 u⟩,below_set h.e (Nat.le_trans h.z h2),keep_far h.k h2 u,h.z,h.h⟩
theorem DD.app (h:DD w0 w g b R W) (ho:d.R e W w.heap.size ok v xs) (hg:W.grownBy W1 v.ownBlock) (hb:Below w.heap.size W W1) (ht:e≠113:=by decide):Aside0 (DD w0 w g b R W1):=⟨h.i.imp fun _ x=>⟨x.1,x.2.1,x.2.2.grown hg (x.2.2.own_ne ho ht)⟩,below_weaken h.e h.z hb,h.k.trans (KeepBut.of_grown hg g) (Kd.R_base2 ho),h.z,h.h⟩
theorem dq (h:Aside0 (DD w0 w g b R w1)) (t:DD w0 w g b R w1→DD w0 w g b R W:=by
    (intro hq_;(repeat (first | (with_reducible first | exact hq_ | apply DD.alloc | apply DD.drewN | apply DD.drew | refine DD.far ?_ (Aside0.out (by assumption)) (Aside0.out (by assumption)) _) | exact hq_)))):DD w0 w g b R W:=t h.out
theorem dt (h:DD w0 w g b R W) (k:DD w0 W g b R' W1):Aside0 (DD w0 w g b R' W1):=⟨k.i,k.e,h.k.trans k.k (.inl rfl),h.z,h.h⟩
theorem DD.less (h:DD w0 w g b R W) (hm:R'≤R:=by omega):DD w0 w g b R' W:=⟨h.i.imp fun _ x=>⟨x.1,by have:=x.2.1;omega,x.2.2⟩,h.e,h.k,h.z,h.h⟩
theorem DD.start (h:DD w0 w g b R W):Aside0 (DD w0 W g b R W):=⟨h.i,h.e,KeepBut.refl W g none,h.e.size,h.h⟩
theorem dn (hg:gb=W.heap.size) (h:DD w0 w g b R W):Aside0 (w.heap.size≤gb)∧Aside0 (g≠gb)∧Aside0 (gb≠g):=by
  obtain ⟨p,_,_,hi⟩:=h.i;exact ⟨⟨by rw [hg];exact keep_size h.k⟩,⟨by rw [hg];exact Nat.ne_of_lt hi.lt⟩,⟨by rw [hg];exact Nat.ne_of_gt hi.lt⟩⟩
theorem dR (h0:DD w0 w g b R W) (h:d.R e W base ok v xs) (hd:DD w0 W g b R' W1) (ht:∀ q,q∈e::d.E→q≠113:=by decide):Aside0 (d.R e W1 base ok v xs):=by
  obtain ⟨p,_,_,hi⟩:=h0.i;exact ⟨Kd.R_mono (Kd.R_keep (hi.apart h ht) hd.k (fun _ h=>h.2)) (fun _ h=>h.1)⟩
theorem kp {w w':World} {g g':Nat} {t:TypeId} (cs:Array Value) (hk:KeepBut w w' g none) (h:w.heap[g']? = some (.cells cs t (0,0))) (hne:Aside0 (g'≠g)):Aside0 (w'.heap[g']? = some (.cells cs t (0,0))):=⟨KeepBut.blk hk h hne.out (by simp)⟩
theorem rg {r n:Int} (h:Aside0 (0≤r∧r<n)) (hn:n≤1000:=by decide):Rg r:=by have:=h.out;unfold Rg;omega
theorem rpick (n:Int) (hD:DD w0 w g b (R+1) W) (hn:1≤n:=by decide) :
    Calls Tryz.prog 35 #[.pointer (some ⟨g,0,none⟩), .int .i64 n] W fun e w'=>∃ r:Int,e = .returned (.int .i64 r)∧Aside0 (0≤r∧r<n)∧DD w0 W g b R w':=by
  obtain ⟨p,p0,p1,hI⟩:=hD.i;obtain ⟨r,⟨k,e⟩,h0,h1⟩:=pick_ev hD.h (p:=p) p0 (by omega) n;exact (spec_l1Rd_pick.calls k g b p n r (p+1) w0 W hI hD.e (e k (Nat.le_refl _))).mono fun e w' x=>⟨r,x.1,⟨h0,h1 hn⟩,⟨p+1,by omega,by omega,x.2.1⟩,x.2.2.1,x.2.2.2,hD.e.size,hD.h⟩
theorem rof {A:Option Addr} {c:Nat} {l:List ByteArray} (hD:DD w0 w g b (R+1) W) (hr:Kd.C Kd.string W A l.length l) (hc:l.length≤c) (hf:∀ ad,A=some ad→0<l.length→ad.block≠g) (hl:0<l.length:=by decide) :
    Calls Tryz.prog 92 #[.pointer (some ⟨g,0,none⟩), .slice A l.length c] W fun e w'=>∃ s:ByteArray,e = .returned (.string s)∧Aside0 (s∈l)∧DD w0 W g b R w':=by
  obtain ⟨p,p0,p1,hI⟩:=hD.i;obtain ⟨s,⟨k,e⟩,hs⟩:=of_ev hD.h (p:=p) p0 (by omega) l hl;exact (spec_l1Rd_of.calls k g b p A c l s (p+1) w0 W hI hD.e hr hc hf (e k (Nat.le_refl _))).mono fun e w' x=>⟨s,x.1,⟨hs⟩,⟨p+1,by omega,by omega,x.2.1⟩,x.2.2.1,x.2.2.2,hD.e.size,hD.h⟩
end
theorem gz {P:Program} {ops:Array Oper} {Q:Exit→Act→World→Prop} {a:Act} {w:World} {oi:Oper} {rest:List Oper} (N:Option Tmp) {f:FuncId} {fn:Func} {as_:Array Operand} {ts:Array TypeId} {args:Array Value} {τ:Sort _} {F:τ→Value} {R:τ→World→Prop} (hf:P.funcs[f]? = some fn) (hc:Calls P f args w fun e w'=>∃ v,e = .returned (F v)∧R v w')
    (h:∀ v w',R v w'→wpList P ops Q rest (a.put N (F v)) w') (hop:oi.op = .call { callee := .value (.func f),args:=as_,argTypes:=ts }:=by rfl) (hd:oi.dst=N:=by rfl) (hg:oi.guard=none:=by rfl) (hname:(fn.name == "runtime.NumGoroutine")=false:=by kernel_rfl) (hbd:fn.body.isSome=true:=by rfl) (hargs:as_.map a.eval=args:=by ((try simp only [List.map_toArray,List.map_cons,List.map_nil]);first | rfl | (go_simp;done) | (go_simp;rfl))) :
    wpList P ops Q (oi::rest) a w:=gl N hf args (hc.mono fun e w' ⟨v,x,y⟩=>⟨F v,x,h v w' y⟩) hd hg hname hbd hop hargs
theorem gt {P:Program} {ops:Array Oper} {Q:Exit→Act→World→Prop} {a:Act} {w:World} {oi:Oper} {N:Option Tmp} {K:Act→World→Prop} {f:FuncId} {fn:Func} {as_:Array Operand} {ts:Array TypeId} {args:Array Value} {τ:Sort _} {F:τ→Value} {R:τ→World→Prop} (hf:P.funcs[f]? = some fn) (hc:Calls P f args w fun e w'=>∃ v,e = .returned (F v)∧R v w')
    (h:∀ v w',R v w'→K (a.put N (F v)) w') (hname:(fn.name == "runtime.NumGoroutine")=false:=by kernel_rfl) (hbd:fn.body.isSome=true:=by rfl) (hw:Region.wanted oi (yielded ops a.tmps)=true:=by rfl) (hd:oi.dst=N:=by rfl) (hop:oi.op = .call { callee := .value (.func f),args:=as_,argTypes:=ts }:=by rfl) (hargs:as_.map a.eval=args:=by ((try simp only [List.map_toArray,List.map_cons,List.map_nil]);first | done | rfl | (simp only [List.length_drop,List.length_take];rfl))) :
    if Region.wanted oi (yielded ops a.tmps)=true then Oper.wp P oi a w K Q else K (a.put N undef) w:=gs hf args (hc.mono fun e w' ⟨v,x,y⟩=>⟨F v,x,h v w' y⟩) hname hbd hw hd hop hargs
theorem sw3 (r:Int):(r==0)=true∨((r==0)=false∧(r==1)=true)∨((r==0)=false∧(r==1)=false∧(r==2)=true)∨((r==0)=false∧(r==1)=false∧(r==2)=false):=by
  simp only [beq_iff_eq,beq_eq_false_iff_ne];omega
theorem rbox {w0 w W:World} {g:Nat} {b:List Int} {R:Nat} (hD:DD w0 w g b (R+10) W) :
    Calls Tryz.prog 122 #[.pointer (some ⟨g,0,none⟩)] W fun e w'=>∃ x:S75,e = .returned (.agg #[.int .i64 x.f0, .int .i64 x.f1, .int .i64 x.f2, .int .i64 x.f3, .int .i64 x.f4, .int .i64 x.f5])∧Aside0 (Wf x)∧DD w0 W g b R w':=by
  have HD:=hD.start;clear hD
  go_enter Tryz.func122,Tryz.ntmps122
  try go_wp2_with (first | ((with_reducible refine gd 2 rfl ?_);refine be 2 #[.int .i64 0, .int .i64 0, .int .i64 0, .int .i64 0, .int .i64 0, .int .i64 0] 75 ?_;intro g1 hg w_ hbox hb_;have H1:=ra hbox;obtain ⟨Ag1,Bg1,Cg1⟩:=dn hg (dq HD);replace HD:=ra ((dq HD).below hb_);clear hb_ hbox hg) | ((with_reducible refine gd 5 rfl ?_);refine gz (some 5) Tryz.func35 (rpick 6 (dq HD)) ?_;rintro r0 w_ ⟨Rr0,hd⟩;replace H1:=kv hd.k (bk H1) Cg1;replace HD:=dt (dq HD) hd;clear hd) | ((with_reducible refine gd 7 rfl ?_);refine gz (some 7) Tryz.func35 (rpick 6 (dq HD)) ?_;rintro r1 w_ ⟨Rr1,hd⟩;replace H1:=kv hd.k (bk H1) Cg1;replace HD:=dt (dq HD) hd;clear hd) | ((with_reducible refine gd 9 rfl ?_);refine gz (some 9) Tryz.func35 (rpick 3 (dq HD)) ?_;rintro r2 w_ ⟨Rr2,hd⟩;replace H1:=kv hd.k (bk H1) Cg1;replace HD:=dt (dq HD) hd;clear hd) | ((with_reducible refine gd 11 rfl ?_);refine gz (some 11) Tryz.func35 (rpick 60 (dq HD)) ?_;rintro r3 w_ ⟨Rr3,hd⟩;replace H1:=kv hd.k (bk H1) Cg1;replace HD:=dt (dq HD) hd;clear hd) | ((with_reducible refine gd 3 rfl ?_);refine be 3 #[.int .i64 0, .int .i64 0, .int .i64 0, .int .i64 0, .int .i64 0, .int .i64 0] 75 ?_;intro g2 hg w_ hbox hb_;have H2:=ra hbox;obtain ⟨Ag2,Bg2,Cg2⟩:=dn hg (dq HD);have Ng1g2:=bn hg (bk H1);have Ng2g1:=bm hg (bk H1);replace H1:=bb (bk H1) hb_;replace HD:=ra ((dq HD).below hb_);clear hb_ hbox hg;have:=Ng2g1.out;have:=Ng1g2.out;have:=Bg2.out;have:=Cg2.out;obtain ⟨_,_,_,_,_,_,_,_,_,_,_,_⟩:=zc6 H2))
  refine start_ (n:=7) (S:=fun w'=>w'.cell? ⟨g2,2,none⟩=some (.int .i64 r2)) (ds:=[6]) #[false,false,false,false,false,false,false] (by kernel_rfl) rfl rfl ?_ (fun hHeld=>?_)
  · exact (blk_cell (bp (cs2:=#[.int .i64 r0, .int .i64 r1, .int .i64 r2, .int .i64 0, .int .i64 r3, .int .i64 0]) H2) 2).trans rfl
  refine pu 0 13 (bl 7 1) ?_;refine pu 2 15 (bl 7 5) ?_;refine tk 1 14 (bl 7 7) ?_ hHeld;refine oe 3 16 (bl 7 15) (fun K hK=>?_);refine gt Tryz.func35 (rpick 3 (dq HD)) ?_
  rintro r16 w_ ⟨Rr16,hd⟩
  (replace H1:=kv hd.k (bk H1) Cg1;replace H2:=kp #[.int .i64 r0, .int .i64 r1, .int .i64 r2, .int .i64 0, .int .i64 r3, .int .i64 0] hd.k (bp H2) Cg2;replace HD:=dt (dq HD) hd;clear hd)
  refine hK.out _ _ ((blk_cell H2.out 2).trans rfl) (fun hHeld=>?_);clear hK K;refine nm 16 ?_;refine pu 4 17 (bl 7 31) ?_;refine pu 5 18 (bl 7 63) ?_;refine last_ (i:=6) (N:=none) #[true,true,true,true,true,true,true] rfl rfl (by kernel_rfl) (by decide) (fun K hK=>?_);obtain ⟨_,_,_,_,_,_,_,_,_,_,_,_⟩:=zc6 H2;refine skip_ (w1:=?_) (by rfl) rfl ?_ ?_;rotate_left
  · go_simp
    rfl
  refine hK.out _ _ ?_;clear hK K;refine done_ (by kernel_rfl) ?_
  try go_wp2
  refine start_ (n:=7) (S:=fun w'=>w'.cell? ⟨g2,4,none⟩=some (.int .i64 r3)) (ds:=[6]) #[false,false,false,false,false,false,false] (by kernel_rfl) rfl rfl ?_ (fun hHeld=>?_)
  · exact (blk_cell (bp (cs2:=#[.int .i64 r0, .int .i64 r1, .int .i64 r2, .int .i64 (wrap64 (r2+r16)), .int .i64 r3, .int .i64 0]) H2) 4).trans rfl
  refine pu 0 19 (bl 7 1) ?_;refine pu 2 21 (bl 7 5) ?_;refine tk 1 20 (bl 7 7) ?_ hHeld;refine oe 3 22 (bl 7 15) (fun K hK=>?_);refine gt Tryz.func35 (rpick 20 (dq HD)) ?_
  rintro r22 w_ ⟨Rr22,hd⟩
  (replace H1:=kv hd.k (bk H1) Cg1;replace H2:=kp #[.int .i64 r0, .int .i64 r1, .int .i64 r2, .int .i64 (wrap64 (r2+r16)), .int .i64 r3, .int .i64 0] hd.k (bp H2) Cg2;replace HD:=dt (dq HD) hd;clear hd)
  refine hK.out _ _ ((blk_cell H2.out 4).trans rfl) (fun hHeld=>?_);clear hK K;refine nm 22 ?_;refine pu 4 23 (bl 7 31) ?_;refine pu 5 24 (bl 7 63) ?_;refine last_ (i:=6) (N:=none) #[true,true,true,true,true,true,true] rfl rfl (by kernel_rfl) (by decide) (fun K hK=>?_);obtain ⟨_,_,_,_,_,_,_,_,_,_,_,_⟩:=zc6 H2;refine skip_ (w1:=?_) (by rfl) rfl ?_ ?_;rotate_left
  · go_simp
    rfl
  refine hK.out _ _ ?_;clear hK K;refine done_ (by kernel_rfl) ?_
  go_wp2_with (first | ((with_reducible refine gd 26 rfl ?_);refine gz (some 26) Tryz.func35 (rpick 24 (dq HD)) ?_;rintro r26 w_ ⟨Rr26,hd⟩;replace H1:=kv hd.k (bk H1) Cg1;replace H2:=kp #[.int .i64 r0, .int .i64 r1, .int .i64 r2, .int .i64 (wrap64 (r2+r16)), .int .i64 r3, .int .i64 (wrap64 (r3+r22))] hd.k (bp H2) Cg2;replace HD:=dt (dq HD) hd;clear hd;obtain ⟨_,_,_,_,_,_,_,_,_,_,_,_⟩:=zc6 H2;obtain ⟨_,_,_,_,_,_,_,_,_,_,_,_⟩:=zc6 H1;have:=Bg1.out;have:=Cg1.out;rcases sw3 r26 with c1 | ⟨c1,c2⟩ | ⟨c1,c2,c3⟩ | ⟨c1,c2,c3⟩) | ((with_reducible refine gd 30 rfl ?_);refine gz (some 30) Tryz.func35 (rpick 2 (dq HD)) ?_;rintro r30 w_ ⟨Rr30,hd⟩;replace H1:=kv hd.k (bk H1) Cg1;replace H2:=kp #[.int .i64 r0, .int .i64 r1, .int .i64 r2, .int .i64 (wrap64 (r2+r16)), .int .i64 r3, .int .i64 (wrap64 (r3+r22))] hd.k (bp H2) Cg2;replace HD:=dt (dq HD) hd;clear hd;obtain ⟨_,_,_,_,_,_,_,_,_,_,_,_⟩:=zc6 H2;obtain ⟨_,_,_,_,_,_,_,_,_,_,_,_⟩:=zc6 H1;have:=Bg1.out;have:=Cg1.out) | ((with_reducible refine gd 37 rfl ?_);refine gz (some 37) Tryz.func35 (rpick 9 (dq HD)) ?_;rintro r37 w_ ⟨Rr37,hd⟩;replace H1:=kv hd.k (bk H1) Cg1;replace H2:=kp #[.int .i64 r0, .int .i64 r1, .int .i64 r2, .int .i64 (wrap64 (r2+r16)), .int .i64 r3, .int .i64 10000] hd.k (bp H2) Cg2;replace HD:=dt (dq HD) hd;clear hd;obtain ⟨_,_,_,_,_,_,_,_,_,_,_,_⟩:=zc6 H2;obtain ⟨_,_,_,_,_,_,_,_,_,_,_,_⟩:=zc6 H1;have:=Bg1.out;have:=Cg1.out))
  · refine bodyPost_ret (results_cell_row rfl _ _ g1 75 #[.int .i64 (wrap64 (15 - r30)), .int .i64 r1, .int .i64 r2, .int .i64 (wrap64 (r2+r16)), .int .i64 r3, .int .i64 (wrap64 (r3+r22))] (0,0) _ rfl (bp H1) Tryz.underlying75 rfl (by kernel_rfl)) rfl ?_;exact ⟨⟨_,_,_,_,_,_⟩,rfl,⟨by refine ⟨?_,?_,?_,?_,?_,?_⟩<;>first | exact wR _ | exact rg (by assumption) | (dsimp only [Rg];omega)⟩,(dq HD).less⟩
  · refine bodyPost_ret (results_cell_row rfl _ _ g1 75 #[.int .i64 r0, .int .i64 r1, .int .i64 r2, .int .i64 (wrap64 (r2+r16)), .int .i64 (wrap64 (10000 - r37)), .int .i64 10000] (0,0) _ rfl (bp H1) Tryz.underlying75 rfl (by kernel_rfl)) rfl ?_;exact ⟨⟨_,_,_,_,_,_⟩,rfl,⟨by refine ⟨?_,?_,?_,?_,?_,?_⟩<;>first | exact wR _ | exact rg (by assumption) | (dsimp only [Rg];omega)⟩,(dq HD).less⟩
  · refine bodyPost_ret (results_cell_row rfl _ _ g1 75 #[.int .i64 r0, .int .i64 r1, .int .i64 r2, .int .i64 6, .int .i64 r3, .int .i64 (wrap64 (r3+r22))] (0,0) _ rfl (bp H1) Tryz.underlying75 rfl (by kernel_rfl)) rfl ?_;exact ⟨⟨_,_,_,_,_,_⟩,rfl,⟨by refine ⟨?_,?_,?_,?_,?_,?_⟩<;>first | exact wR _ | exact rg (by assumption) | (dsimp only [Rg];omega)⟩,(dq HD).less⟩
  · refine bodyPost_ret (results_cell_row rfl _ _ g1 75 #[.int .i64 r0, .int .i64 r1, .int .i64 r2, .int .i64 (wrap64 (r2+r16)), .int .i64 r3, .int .i64 (wrap64 (r3+r22))] (0,0) _ rfl (bp H1) Tryz.underlying75 rfl (by kernel_rfl)) rfl ?_;exact ⟨⟨_,_,_,_,_,_⟩,rfl,⟨by refine ⟨?_,?_,?_,?_,?_,?_⟩<;>first | exact wR _ | exact rg (by assumption) | (dsimp only [Rg];omega)⟩,(dq HD).less⟩
section
variable {P:Program} {ops:Array Oper} {Q:Exit→Act→World→Prop} {a:Act} {W:World} {o:Oper} {T:Nat} {n:Nat}
theorem ilit {rest:List Oper} (N:Tmp) {xs:List Int} (h:∀ (y:List Int) (v:Value) w1,Aside0 (y=xs)→Aside0 (Kd.R (Kd.int .i64) T w1 W.heap.size (fun _=>True) v y)→Below W.heap.size W w1→wpList P ops Q rest (a.put o.dst v) w1) (hgd:o.guard=none:=by rfl) (hd:o.dst=some N:=by rfl)
    (hrun:(execOp a.eval o).run P W = .ok (.value (.slice (some ⟨W.heap.size,0,none⟩) xs.length xs.length)) (W.alloc (.cells (encs (Value.int .i64) xs).toArray T)):=by first | (go_simp;done) | (go_simp;rfl)) (hl:xs.length≤1000:=by simp):wpList P ops Q (o::rest) a W :=
  Kd.R_lit (Kd.int .i64) W.heap.size T hgd hd (ok:=fun _=>True) (okp:=fun _=>True) hrun (Kd.reps_scalar xs) (fun _ hk=>hk) trivial (Below.refl _ _) (Nat.le_refl _) (by omega) fun v w1 hr hb _ _=>h xs v w1 ⟨rfl⟩ ⟨hr⟩ hb
theorem ilits {K:Act→World→Prop} (N:Tmp) {xs:List Int} (h:∀ (y:List Int) (v:Value) w1,Aside0 (y=xs)→Aside0 (Kd.R (Kd.int .i64) T w1 W.heap.size (fun _=>True) v y)→Below W.heap.size W w1→K (a.put o.dst v) w1) (hw:Region.wanted o (yielded ops a.tmps)=true:=by rfl) (hd:o.dst=some N:=by rfl)
    (hrun:(execOp a.eval o).run P W = .ok (.value (.slice (some ⟨W.heap.size,0,none⟩) xs.length xs.length)) (W.alloc (.cells (encs (Value.int .i64) xs).toArray T)):=by first | (go_simp;done) | (go_simp;rfl)) (hl:xs.length≤1000:=by simp):if Region.wanted o (yielded ops a.tmps)=true then Oper.wp P o a W K Q else K (a.put o.dst undef) W :=
  Kd.R_lit_step (Kd.int .i64) W.heap.size T hw hd (ok:=fun _=>True) (okp:=fun _=>True) hrun (Kd.reps_scalar xs) (fun _ hk=>hk) trivial (Below.refl _ _) (Nat.le_refl _) (by omega) fun v w1 hr hb _ _=>h xs v w1 ⟨rfl⟩ ⟨hr⟩ hb
theorem ixi {base:Nat} {ok:Nat→Prop} {v:Value} {y xs:List Int} {t:Int} (h:Kd.R (Kd.int .i64) T W base ok v y) (hy:Aside0 (y=xs)) (hr:Aside0 (0≤t∧t<n)) (hl:xs.length=n:=by rfl):∃ ad c,v = .slice (some ad) y.length c∧W.cell? (ad.add t.toNat)=some (.int .i64 (rd y t))∧(0≤t)=True∧(t<(y.length:Int))=True:=by
  have hz:=hr.out;obtain ⟨A,c,rfl⟩:=Kd.R_slice h;have e:y.length=n:=by rw [hy.out];exact hl
  obtain ⟨ad,rfl,hc⟩:=Kd.at_int (Kd.R_reads' h).2.2 t hz.1 (by omega);exact ⟨ad,c,rfl,hc,eq_true hz.1,eq_true (by omega)⟩
end
theorem rdy {y xs:List Int} {t:Int} (hy:Aside0 (y=xs)) (h:∀ x∈xs,Rg x:=by repeat (first | exact List.forall_mem_nil _ | refine List.forall_mem_cons.2 ⟨by first | exact wR _ | assumption | exact Aside0.out (by assumption) | (unfold Rg;decide),?_⟩)):Rg (rd y t):=by
  rw [hy.out];exact rdR h t
theorem sw5 (r:Int):(r==0)=true∨((r==0)=false∧(r==1)=true)∨((r==0)=false∧(r==1)=false∧(r==2)=true)∨((r==0)=false∧(r==1)=false∧(r==2)=false∧(r==3)=true)∨((r==0)=false∧(r==1)=false∧(r==2)=false∧(r==3)=false∧(r==4)=true)∨((r==0)=false∧(r==1)=false∧(r==2)=false∧(r==3)=false∧(r==4)=false):=by
  simp only [beq_iff_eq,beq_eq_false_iff_ne];omega
def rspoil.T8:Bool × List (List Nat × List Nat):=(true,[([],[]),([0],[0]),([1],[1]),([],[]),([3],[3]),([2,4],[2,4]),([],[]),([6],[6]),([5,7],[5,7]),([8],[8]),([0,1,2,3,4,5,6,7,8,9],[]),([10,9,7,0,1,2,3,4,5,6,7,8,9],[9,10])])
def rspoil.B8:List Nat:=[0,1,3,0,8,31,0,64,255,511,1023,2047]
theorem rspoil.t8:rtab .any (opsOf Tryz.f124 8)=rspoil.T8:=by kernel_rfl
theorem rspoil.b8:waitsOk rspoil.T8.2 rspoil.B8=true:=by kernel_rfl
def rspoil.T12:Bool × List (List Nat × List Nat):=(true,[([],[]),([0],[0]),([],[]),([2],[2]),([3],[3]),([1,4],[1,4]),([],[]),([6],[6]),([5,7],[5,7]),([8],[8]),([0,1,2,3,4,5,6,7,8,9],[]),([10,9,7,0,1,2,3,4,5,6,7,8,9],[9,10])])
def rspoil.B12:List Nat:=[0,1,0,4,12,31,0,64,255,511,1023,2047]
theorem rspoil.t12:rtab .any (opsOf Tryz.f124 12)=rspoil.T12:=by kernel_rfl
theorem rspoil.b12:waitsOk rspoil.T12.2 rspoil.B12=true:=by kernel_rfl
theorem rspoil {w0 w W:World} {g:Nat} {b:List Int} {R:Nat} (x:S75) (hx:Wf x) (hD:DD w0 w g b (R+10) W) :
    Calls Tryz.prog 124 #[.pointer (some ⟨g,0,none⟩), .agg #[.int .i64 x.f0, .int .i64 x.f1, .int .i64 x.f2, .int .i64 x.f3, .int .i64 x.f4, .int .i64 x.f5]] W fun e w'=>∃ y:S75,e = .returned (.agg #[.int .i64 y.f0, .int .i64 y.f1, .int .i64 y.f2, .int .i64 y.f3, .int .i64 y.f4, .int .i64 y.f5])∧Aside0 (Wf y)∧DD w0 W g b R w':=by
  have HD:=hD.start;clear hD;obtain ⟨x0,x1,x2,x3,x4,x5⟩:=hx;have X0:=ra x0;have X1:=ra x1;have X2:=ra x2;have X3:=ra x3;have X4:=ra x4;have X5:=ra x5
  clear x0 x1 x2 x3 x4 x5
  go_enter Tryz.func124,Tryz.ntmps124
  go_wp2_with (first | ((with_reducible refine gd 3 rfl ?_);refine be 3 #[.int .i64 x.f0, .int .i64 x.f1, .int .i64 x.f2, .int .i64 x.f3, .int .i64 x.f4, .int .i64 x.f5] 75 ?_;intro g1 hg w_ hbox hb_;have H1:=ra hbox;obtain ⟨Ag1,Bg1,Cg1⟩:=dn hg (dq HD);replace HD:=ra ((dq HD).below hb_);clear hb_ hbox hg) | ((with_reducible refine gd 4 rfl ?_);refine be 4 #[.int .i64 0, .int .i64 0, .int .i64 0, .int .i64 0, .int .i64 0, .int .i64 0] 75 ?_;intro g2 hg w_ hbox hb_;have H2:=ra hbox;obtain ⟨Ag2,Bg2,Cg2⟩:=dn hg (dq HD);have Ng1g2:=bn hg (bk H1);have Ng2g1:=bm hg (bk H1);replace H1:=bb (bk H1) hb_;replace HD:=ra ((dq HD).below hb_);clear hb_ hbox hg) | ((with_reducible refine gd 6 rfl ?_);refine gz (some 6) Tryz.func35 (rpick 6 (dq HD)) ?_;rintro r6 w_ ⟨Rr6,hd⟩;replace H1:=kv hd.k (bk H1) Cg1;replace H2:=kv hd.k (bk H2) Cg2;replace HD:=dt (dq HD) hd;clear hd;obtain ⟨_,_,_,_,_,_,_,_,_,_,_,_⟩:=zc6 H1;obtain ⟨_,_,_,_,_,_,_,_,_,_,_,_⟩:=zc6 H2;have:=Ng1g2.out;have:=Ng2g1.out;have:=Bg1.out;have:=Cg1.out;have:=Bg2.out;have:=Cg2.out;rcases sw5 r6 with c0 | ⟨c0,c1⟩ | ⟨c0,c1,c2⟩ | ⟨c0,c1,c2,c3⟩ | ⟨c0,c1,c2,c3,c4⟩ | ⟨c0,c1,c2,c3,c4⟩) | ((with_reducible refine gd 15 rfl ?_);refine ilit 15 (T:=3) (xs:=[-1,16,-9223372036854775808,9223372036854775807]) ?_;intro y v w_ hy HO hb_;replace H1:=bb (bk H1) hb_;replace H2:=bb (bk H2) hb_;replace HD:=ra ((dq HD).below hb_);clear hb_) | ((with_reducible refine gd 17 rfl ?_);refine gz (some 17) Tryz.func35 (rpick 4 (dq HD)) ?_;rintro r w_ ⟨Rr,hd⟩;replace H1:=kv hd.k (bk H1) Cg1;replace H2:=kv hd.k (bk H2) Cg2;replace HO:=dR (dq HD) (rq HO) hd;replace HD:=dt (dq HD) hd;clear hd;obtain ⟨_,_,rfl,_,_,_⟩:=ixi HO.out hy Rr;obtain ⟨_,_,_,_,_,_,_,_,_,_,_,_⟩:=zc6 H1;obtain ⟨_,_,_,_,_,_,_,_,_,_,_,_⟩:=zc6 H2;have:=Ng1g2.out;have:=Ng2g1.out;have:=Bg1.out;have:=Cg1.out;have:=Bg2.out;have:=Cg2.out) | ((with_reducible refine gd 23 rfl ?_);refine ilit 23 (T:=3) (xs:=[-1,16]) ?_;intro y v w_ hy HO hb_;replace H1:=bb (bk H1) hb_;replace H2:=bb (bk H2) hb_;replace HD:=ra ((dq HD).below hb_);clear hb_) | ((with_reducible refine gd 25 rfl ?_);refine gz (some 25) Tryz.func35 (rpick 2 (dq HD)) ?_;rintro r w_ ⟨Rr,hd⟩;replace H1:=kv hd.k (bk H1) Cg1;replace H2:=kv hd.k (bk H2) Cg2;replace HO:=dR (dq HD) (rq HO) hd;replace HD:=dt (dq HD) hd;clear hd;obtain ⟨_,_,rfl,_,_,_⟩:=ixi HO.out hy Rr;obtain ⟨_,_,_,_,_,_,_,_,_,_,_,_⟩:=zc6 H1;obtain ⟨_,_,_,_,_,_,_,_,_,_,_,_⟩:=zc6 H2;have:=Ng1g2.out;have:=Ng2g1.out;have:=Bg1.out;have:=Cg1.out;have:=Bg2.out;have:=Cg2.out) | ((with_reducible refine gd 44 rfl ?_);refine ilit 44 (T:=3) (xs:=[6,7]) ?_;intro y v w_ hy HO hb_;replace H1:=bb (bk H1) hb_;replace H2:=bb (bk H2) hb_;replace HD:=ra ((dq HD).below hb_);clear hb_) | ((with_reducible refine gd 46 rfl ?_);refine gz (some 46) Tryz.func35 (rpick 2 (dq HD)) ?_;rintro r w_ ⟨Rr,hd⟩;replace H1:=kv hd.k (bk H1) Cg1;replace H2:=kv hd.k (bk H2) Cg2;replace HO:=dR (dq HD) (rq HO) hd;replace HD:=dt (dq HD) hd;clear hd;obtain ⟨_,_,rfl,_,_,_⟩:=ixi HO.out hy Rr;obtain ⟨_,_,_,_,_,_,_,_,_,_,_,_⟩:=zc6 H1;obtain ⟨_,_,_,_,_,_,_,_,_,_,_,_⟩:=zc6 H2;have:=Ng1g2.out;have:=Ng2g1.out;have:=Bg1.out;have:=Cg1.out;have:=Bg2.out;have:=Cg2.out) | ((with_reducible refine gd 7 rfl ?_);refine ilit 7 (T:=3) (xs:=[10000,10001]) ?_;intro y v w_ hy HO hb_;replace H1:=bb (bk H1) hb_;replace H2:=bb (bk H2) hb_;replace HD:=ra ((dq HD).below hb_);clear hb_) | ((with_reducible refine gd 9 rfl ?_);refine gz (some 9) Tryz.func35 (rpick 2 (dq HD)) ?_;rintro r w_ ⟨Rr,hd⟩;replace H1:=kv hd.k (bk H1) Cg1;replace H2:=kv hd.k (bk H2) Cg2;replace HO:=dR (dq HD) (rq HO) hd;replace HD:=dt (dq HD) hd;clear hd;obtain ⟨_,_,rfl,_,_,_⟩:=ixi HO.out hy Rr;obtain ⟨_,_,_,_,_,_,_,_,_,_,_,_⟩:=zc6 H1;obtain ⟨_,_,_,_,_,_,_,_,_,_,_,_⟩:=zc6 H2;have:=Ng1g2.out;have:=Ng2g1.out;have:=Bg1.out;have:=Cg1.out;have:=Bg2.out;have:=Cg2.out))
  · refine bodyPost_ret (results_cell_row rfl _ _ g2 75 #[.int .i64 (rd y r), .int .i64 x.f1, .int .i64 x.f2, .int .i64 x.f3, .int .i64 x.f4, .int .i64 x.f5] (0,0) _ rfl (bp H2) Tryz.underlying75 rfl (by kernel_rfl)) rfl ?_;exact ⟨⟨rd y r,x.f1,x.f2,x.f3,x.f4,x.f5⟩,rfl,⟨by refine ⟨?_,?_,?_,?_,?_,?_⟩<;>first | exact Aside0.out (by assumption) | exact rdy (by assumption)⟩,(dq HD).less⟩
  · refine bodyPost_ret (results_cell_row rfl _ _ g2 75 #[.int .i64 x.f0, .int .i64 (rd y r), .int .i64 x.f2, .int .i64 x.f3, .int .i64 x.f4, .int .i64 x.f5] (0,0) _ rfl (bp H2) Tryz.underlying75 rfl (by kernel_rfl)) rfl ?_;exact ⟨⟨x.f0,rd y r,x.f2,x.f3,x.f4,x.f5⟩,rfl,⟨by refine ⟨?_,?_,?_,?_,?_,?_⟩<;>first | exact Aside0.out (by assumption) | exact rdy (by assumption)⟩,(dq HD).less⟩
  · refine start_ (n:=12) (S:=fun w'=>w'.cell? ⟨g1,3,none⟩=some (.int .i64 x.f3)) (ds:=[11]) (bl 12 0) (by kernel_rfl) rfl rfl ((blk_cell H1.out 3).trans rfl) (fun hHeld=>?_);refine with_tabW rspoil.t8 rspoil.b8 (fun HT_ HW_=>?_);refine pu 0 31 (bl 12 1) ?_;refine pu 3 34 (bl 12 9) ?_;refine pu 6 37 (bl 12 73) ?_;refine tk 1 32 (bl 12 75) ?_ hHeld;refine pu 2 33 (bl 12 79) ?_;refine tk 4 35 (bl 12 95) ?_ hHeld;refine two_ (i:=5) (j:=7) (Ni:=some 36) (Nj:=some 38) (bl 12 127) (bl 12 223) rfl rfl rfl rfl (two_of HT_.out (by kernel_rfl)) (by decide) (by decide) (fun K hK=>?_) (fun K hK=>?_);rotate_left
    refine gt Tryz.func35 (rpick 3 (dq HD)) ?_;rintro r w_ ⟨Rr,hd⟩;replace H1:=kv hd.k (bk H1) Cg1;replace H2:=kv hd.k (bk H2) Cg2;replace HD:=dt (dq HD) hd;clear hd;refine hK.out _ _ ((blk_cell H1.out 3).trans rfl) (fun hHeld=>?_);clear hK K;refine nm 38 ?_;refine oe 5 36 (bl 12 255) (fun K hK=>?_);refine ilits 36 (T:=3) (xs:=[-1,wrap64 (x.f3+1),x.f3]) ?_;intro y v w_ hy HO hb_;replace H1:=bb (bk H1) hb_;replace H2:=bb (bk H2) hb_;replace HD:=ra ((dq HD).below hb_);clear hb_;refine hK.out _ _ ((blk_cell H1.out 3).trans rfl) (fun hHeld=>?_);clear hK K;refine nm 36 ?_;rotate_left
    refine ilits 36 (T:=3) (xs:=[-1,wrap64 (x.f3+1),x.f3]) ?_;intro y v w_ hy HO hb_;replace H1:=bb (bk H1) hb_;replace H2:=bb (bk H2) hb_;replace HD:=ra ((dq HD).below hb_);clear hb_;refine hK.out _ _ ((blk_cell H1.out 3).trans rfl) (fun hHeld=>?_);clear hK K;refine nm 36 ?_;refine oe 7 38 (bl 12 255) (fun K hK=>?_);refine gt Tryz.func35 (rpick 3 (dq HD)) ?_;rintro r w_ ⟨Rr,hd⟩;replace H1:=kv hd.k (bk H1) Cg1;replace H2:=kv hd.k (bk H2) Cg2;replace HO:=dR (dq HD) (rq HO) hd;replace HD:=dt (dq HD) hd;clear hd;refine hK.out _ _ ((blk_cell H1.out 3).trans rfl) (fun hHeld=>?_);clear hK K;refine nm 38 ?_
    all_goals
      obtain ⟨_,_,rfl,hx,_,_⟩:=ixi HO.out hy Rr;refine pu 8 39 (bl 12 511) ?_;refine oe 9 40 (bl 12 1023) (fun K hK=>?_);refine value_ (w1:=?_) (v:=?_) (by rfl) rfl ?_ ?_
      rotate_left 2
      · go_simp
        constructor<;>rfl
      clear hx;refine hK.out _ _ ((blk_cell H1.out 3).trans rfl) (fun hHeld=>?_);clear hK K;refine nm 40 ?_;refine pu 10 41 (bl 12 2047) ?_;refine last_ (i:=11) (N:=none) (bl 12 4095) rfl rfl (one_of HT_.out (by kernel_rfl)) (by decide) (fun K hK=>?_);obtain ⟨_,_,_,_,_,_,_,_,_,_,_,_⟩:=zc6 H1;obtain ⟨_,_,_,_,_,_,_,_,_,_,_,_⟩:=zc6 H2;have:=Ng1g2.out;have:=Ng2g1.out;have:=Bg1.out;have:=Cg1.out;have:=Bg2.out;have:=Cg2.out
      refine skip_ (w1:=?_) (by rfl) rfl ?_ ?_;rotate_left
      · go_simp
        rfl
      refine hK.out _ _ ?_;clear hK K;refine done_ (done_of HT_.out (by kernel_rfl)) ?_
      try go_wp2
      refine bodyPost_ret (results_cell_row rfl _ _ g2 75 #[.int .i64 x.f0, .int .i64 x.f1, .int .i64 (rd y r), .int .i64 x.f3, .int .i64 x.f4, .int .i64 x.f5] (0,0) _ rfl (bp H2) Tryz.underlying75 rfl (by kernel_rfl)) rfl ?_;exact ⟨⟨x.f0,x.f1,rd y r,x.f3,x.f4,x.f5⟩,rfl,⟨by refine ⟨?_,?_,?_,?_,?_,?_⟩<;>first | exact Aside0.out (by assumption) | exact rdy (by assumption)⟩,(dq HD).less⟩
  · refine bodyPost_ret (results_cell_row rfl _ _ g2 75 #[.int .i64 x.f0, .int .i64 x.f1, .int .i64 x.f2, .int .i64 (rd y r), .int .i64 x.f4, .int .i64 x.f5] (0,0) _ rfl (bp H2) Tryz.underlying75 rfl (by kernel_rfl)) rfl ?_;exact ⟨⟨x.f0,x.f1,x.f2,rd y r,x.f4,x.f5⟩,rfl,⟨by refine ⟨?_,?_,?_,?_,?_,?_⟩<;>first | exact Aside0.out (by assumption) | exact rdy (by assumption)⟩,(dq HD).less⟩
  · refine start_ (n:=12) (S:=fun w'=>w'.cell? ⟨g1,5,none⟩=some (.int .i64 x.f5)) (ds:=[11]) (bl 12 0) (by kernel_rfl) rfl rfl ((blk_cell H1.out 5).trans rfl) (fun hHeld=>?_);refine with_tabW rspoil.t12 rspoil.b12 (fun HT_ HW_=>?_);refine pu 0 52 (bl 12 1) ?_;refine pu 2 54 (bl 12 5) ?_;refine pu 6 58 (bl 12 69) ?_;refine tk 1 53 (bl 12 71) ?_ hHeld;refine tk 3 55 (bl 12 79) ?_ hHeld;refine pu 4 56 (bl 12 95) ?_;refine two_ (i:=5) (j:=7) (Ni:=some 57) (Nj:=some 59) (bl 12 127) (bl 12 223) rfl rfl rfl rfl (two_of HT_.out (by kernel_rfl)) (by decide) (by decide) (fun K hK=>?_) (fun K hK=>?_);rotate_left
    refine gt Tryz.func35 (rpick 3 (dq HD)) ?_;rintro r w_ ⟨Rr,hd⟩;replace H1:=kv hd.k (bk H1) Cg1;replace H2:=kv hd.k (bk H2) Cg2;replace HD:=dt (dq HD) hd;clear hd;refine hK.out _ _ ((blk_cell H1.out 5).trans rfl) (fun hHeld=>?_);clear hK K;refine nm 59 ?_;refine oe 5 57 (bl 12 255) (fun K hK=>?_);refine ilits 57 (T:=3) (xs:=[-1,x.f5,wrap64 (x.f5+1)]) ?_;intro y v w_ hy HO hb_;replace H1:=bb (bk H1) hb_;replace H2:=bb (bk H2) hb_;replace HD:=ra ((dq HD).below hb_);clear hb_;refine hK.out _ _ ((blk_cell H1.out 5).trans rfl) (fun hHeld=>?_);clear hK K;refine nm 57 ?_;rotate_left
    refine ilits 57 (T:=3) (xs:=[-1,x.f5,wrap64 (x.f5+1)]) ?_;intro y v w_ hy HO hb_;replace H1:=bb (bk H1) hb_;replace H2:=bb (bk H2) hb_;replace HD:=ra ((dq HD).below hb_);clear hb_;refine hK.out _ _ ((blk_cell H1.out 5).trans rfl) (fun hHeld=>?_);clear hK K;refine nm 57 ?_;refine oe 7 59 (bl 12 255) (fun K hK=>?_);refine gt Tryz.func35 (rpick 3 (dq HD)) ?_;rintro r w_ ⟨Rr,hd⟩;replace H1:=kv hd.k (bk H1) Cg1;replace H2:=kv hd.k (bk H2) Cg2;replace HO:=dR (dq HD) (rq HO) hd;replace HD:=dt (dq HD) hd;clear hd;refine hK.out _ _ ((blk_cell H1.out 5).trans rfl) (fun hHeld=>?_);clear hK K;refine nm 59 ?_
    all_goals
      obtain ⟨_,_,rfl,hx,_,_⟩:=ixi HO.out hy Rr;refine pu 8 60 (bl 12 511) ?_;refine oe 9 61 (bl 12 1023) (fun K hK=>?_);refine value_ (w1:=?_) (v:=?_) (by rfl) rfl ?_ ?_
      rotate_left 2
      · go_simp
        constructor<;>rfl
      clear hx;refine hK.out _ _ ((blk_cell H1.out 5).trans rfl) (fun hHeld=>?_);clear hK K;refine nm 61 ?_;refine pu 10 62 (bl 12 2047) ?_;refine last_ (i:=11) (N:=none) (bl 12 4095) rfl rfl (one_of HT_.out (by kernel_rfl)) (by decide) (fun K hK=>?_);obtain ⟨_,_,_,_,_,_,_,_,_,_,_,_⟩:=zc6 H1;obtain ⟨_,_,_,_,_,_,_,_,_,_,_,_⟩:=zc6 H2;have:=Ng1g2.out;have:=Ng2g1.out;have:=Bg1.out;have:=Cg1.out;have:=Bg2.out;have:=Cg2.out
      refine skip_ (w1:=?_) (by rfl) rfl ?_ ?_;rotate_left
      · go_simp
        rfl
      refine hK.out _ _ ?_;clear hK K;refine done_ (done_of HT_.out (by kernel_rfl)) ?_
      try go_wp2
      refine bodyPost_ret (results_cell_row rfl _ _ g2 75 #[.int .i64 x.f0, .int .i64 x.f1, .int .i64 x.f2, .int .i64 x.f3, .int .i64 (rd y r), .int .i64 x.f5] (0,0) _ rfl (bp H2) Tryz.underlying75 rfl (by kernel_rfl)) rfl ?_;exact ⟨⟨x.f0,x.f1,x.f2,x.f3,rd y r,x.f5⟩,rfl,⟨by refine ⟨?_,?_,?_,?_,?_,?_⟩<;>first | exact Aside0.out (by assumption) | exact rdy (by assumption)⟩,(dq HD).less⟩
  · refine bodyPost_ret (results_cell_row rfl _ _ g2 75 #[.int .i64 x.f0, .int .i64 x.f1, .int .i64 x.f2, .int .i64 x.f3, .int .i64 x.f4, .int .i64 (rd y r)] (0,0) _ rfl (bp H2) Tryz.underlying75 rfl (by kernel_rfl)) rfl ?_;exact ⟨⟨x.f0,x.f1,x.f2,x.f3,x.f4,rd y r⟩,rfl,⟨by refine ⟨?_,?_,?_,?_,?_,?_⟩<;>first | exact Aside0.out (by assumption) | exact rdy (by assumption)⟩,(dq HD).less⟩
end Go.Proofs.YtgklmafdbgnohaaGreat.PA
end
section
namespace Go.Proofs.YtgklmafdbgnohaaGreat.PA
open Go.RowKit Go.Proofs.YtgklmafdbgnohaaGreatW.PrintWords Go.Proofs.YtgklmafdbgnohaaGreatW.PrintLast Go.Proofs.YtgklmafdbgnohaaGreatW.PrintMore Go.Proofs.YtgklmafdbgnohaaGreat.Z
attribute [local go_sem] max2_int min2_int max_two min_two max_three min_three max_four min_four
set_option maxHeartbeats 8000000
set_option maxRecDepth 100000
theorem spec_l1In.calls (a0 a1 a2:Int) (r:Bool) (w:World) (h:spec_l1In.f a0 a1 a2=some r) :
  Calls Tryz.prog 80 #[.int .i64 a0, .int .i64 a1, .int .i64 a2] w fun e w'=>e = .returned (.bool r)∧Drawn0 w w':=by
 have H:=h;unfold spec_l1In.f at H;clear h
 rcases td H with ⟨Z0,H⟩ | ⟨Z0,H⟩
 rotate_left;rotate_left
 all_goals
  obtain rfl:=Option.some.inj H
  go_enter Tryz.func80,Tryz.ntmps80
  go_wp2;go_ret
  exact ⟨rs,d0⟩
theorem impl_in.calls (a0 a1 a2:Int) (r:Bool) (w:World) (h:impl_in.f a0 a1 a2=some r) :
  Calls Tryz.prog 75 #[.int .i64 a0, .int .i64 a1, .int .i64 a2] w fun e w'=>e = .returned (.bool r)∧Drawn0 w w':=by
 have H:=h;unfold impl_in.f at H;clear h
 rcases td H with ⟨Z0,H⟩ | ⟨Z0,H⟩
 rotate_left;rotate_left
 all_goals
  obtain rfl:=Option.some.inj H
  go_enter Tryz.func75,Tryz.ntmps75
  go_wp2;go_ret
  exact ⟨rs,d0⟩
theorem impl_ProbeBoxOk.calls (a0_0 a0_1 a0_2 a0_3 a0_4 a0_5:Int) (r:Bool) (w:World) (h:impl_ProbeBoxOk.f a0_0 a0_1 a0_2 a0_3 a0_4 a0_5=some r) :
  Calls Tryz.prog 76 #[.agg #[.int .i64 a0_0, .int .i64 a0_1, .int .i64 a0_2, .int .i64 a0_3, .int .i64 a0_4, .int .i64 a0_5]] w fun e w'=>e = .returned (.bool r)∧Below w.heap.size w w':=by
 have Z0:=Tryz.underlying75;have HB:=ra (Below.refl w.heap.size w);have H:=h;unfold impl_ProbeBoxOk.f at H;clear h;obtain ⟨Z1,Z2,H⟩:=bo H
 rcases ud H with ⟨rfl,Z3⟩ | ⟨rfl,Z3⟩<;>have H:=Z3
 obtain ⟨Z4,Z5,H⟩:=bo H
 rcases ud H with ⟨rfl,Z6⟩ | ⟨rfl,Z6⟩<;>have H:=Z6
 rcases td H with ⟨Z7,H⟩ | ⟨Z7,H⟩
 rcases td H with ⟨Z8,H⟩ | ⟨Z8,H⟩
 rcases td H with ⟨Z9,H⟩ | ⟨Z9,H⟩
 rcases td H with ⟨Z10,H⟩ | ⟨Z10,H⟩
 rcases td H with ⟨Z11,H⟩ | ⟨Z11,H⟩
 rotate_left;rotate_left;rotate_left;rotate_left;rotate_left;rotate_left;rotate_left
 ·obtain rfl:=Option.some.inj H
  go_enter Tryz.func76,Tryz.ntmps76
  go_wp2_with (first | ((with_reducible refine gd 1 rfl ?_);refine bd 1 #[.int .i64 a0_0, .int .i64 a0_1, .int .i64 a0_2, .int .i64 a0_3, .int .i64 a0_4, .int .i64 a0_5] 75 ?_;intro Z4 Z5 HB Z6 Z7;obtain ⟨Z8,Z9,Z10,Z11,Z12,Z13,Z14,Z15,Z16,Z17,Z18,Z19⟩:=zc6 Z6) | ((with_reducible refine gc 75 rfl ?_);refine gy (some 5) Tryz.func75 (impl_in.calls _ _ _ _ _ Z2.out) ?_;rintro w' ⟨nd,rfl⟩))
  go_ret
  exact ⟨re,bq⟩
 all_goals
  obtain rfl:=Option.some.inj H
  go_enter Tryz.func76,Tryz.ntmps76
  go_wp2_with (first | ((with_reducible refine gd 1 rfl ?_);refine bd 1 #[.int .i64 a0_0, .int .i64 a0_1, .int .i64 a0_2, .int .i64 a0_3, .int .i64 a0_4, .int .i64 a0_5] 75 ?_;intro Z12 Z13 HB Z14 Z15;obtain ⟨Z16,Z17,Z18,Z19,Z20,Z21,Z22,Z23,Z24,Z25,Z26,Z27⟩:=zc6 Z14) | ((with_reducible refine gc 75 rfl ?_);refine gy (some 5) Tryz.func75 (impl_in.calls _ _ _ _ _ Z2.out) ?_;rintro w' ⟨nd,rfl⟩) | (go_at_call 75;(with_reducible refine (impl_in.calls _ _ _ _ _ Z5.out).mono ?_);rintro e w' ⟨rfl,⟨nd,rfl⟩⟩))
  go_ret
  exact ⟨re,bq⟩
theorem impl_ProbeTubeOk.calls (k:Nat) (a0_0:ByteArray) (A0_1:Option Addr) (c0_1:Nat) (l0_1:List (S75)) (r:Bool) (w:World) (hr0_1:Kd.C k75 w A0_1 l0_1.length l0_1) (hc0_1:l0_1.length≤c0_1) (h:impl_ProbeTubeOk.f k a0_0 l0_1=some r) :
  Calls Tryz.prog 43 #[.agg #[.string a0_0, .slice A0_1 l0_1.length c0_1]] w fun e w'=>e = .returned (.bool r)∧Below w.heap.size w w':=by
 have Z0:=Tryz.underlying32;have Z1:=Tryz.underlying75;have Z2:=ra hr0_1;have Z3:=ra hc0_1;clear hr0_1 hc0_1;have HB:=ra (Below.refl w.heap.size w);have H:=h;unfold impl_ProbeTubeOk.f at H;clear h;have Z4:=ra H;clear H
 go_enter Tryz.func43,Tryz.ntmps43
 go_upto_region 1 with (first | ((with_reducible refine gd 1 rfl ?_);(try (refine gate_guard (by rfl) ?_;dsimp only));refine bd 1 #[.string a0_0, .slice A0_1 l0_1.length c0_1] 32 ?_;intro Z5 Z6 HB Z7 Z8))
 (try simp only [Act.put,List.setIfInBounds_toArray,List.set_cons_zero,List.set_cons_succ])
 go_cut [17] (fun v17 wc=>∃ (kq:Nat) (x17_1:Bool),v17 = .bool x17_1∧Aside0 (impl_ProbeTubeOk.j0 kq x17_1 a0_0 l0_1=some r)∧Aside0 (kq≤k)∧Aside0 (wc.heap[Z5]? = some (.cells #[.string a0_0,(.slice A0_1 l0_1.length c0_1)] 32 (0,0)))∧Aside0 (Below w.heap.size w wc))
 case first =>
  have H:=Z4.out;clear Z4;obtain ⟨Z9,Z10,H⟩:=bo H
  rcases ud H with ⟨rfl,Z11⟩ | ⟨rfl,Z11⟩<;>have H:=Z11
  rotate_left;rotate_left
  all_goals
   have H':=ra H;clear H;obtain ⟨Z12,Z13,Z14,Z15⟩:=zc2 Z7
   go_wp2_with (first | ((with_reducible refine gc 75 rfl ?_);refine gy (some 10) Tryz.func75 (impl_in.calls _ _ _ _ _ Z10.out) ?_;rintro w' ⟨nd,rfl⟩))
   go_meet
   case rel=>exact ⟨_,_,rs,H',⟨by first | omega | exact Nat.le_refl _⟩,⟨bk Z7⟩,⟨bq⟩⟩
 case rest =>
  clear Z4;obtain ⟨kq,Z9,rfl,HA,Z10,Z7,HB⟩:=hcut
  cases kq with
  | zero=>exact absurd HA.out (by simp [impl_ProbeTubeOk.j0])
  | succ Z11 =>
   have H:=HA.out;clear HA;simp only [impl_ProbeTubeOk.j0] at H
   rcases ud H with ⟨rfl,Z12⟩ | ⟨rfl,Z12⟩<;>have H:=Z12
   ·obtain rfl:=Option.some.inj H;go_wp2;go_ret
    exact ⟨re,bq⟩
   ·have H' := ra H;clear H;go_wp2
    go_loopg [3] Z11 (fun kq v3 w'=>∃ (x3_2:Int),v3 = .int .i64 x3_2∧Aside0 (impl_ProbeTubeOk.l0 kq x3_2 a0_0 l0_1=some r)∧Aside0 (kq≤Z11)∧Aside0 (w'.heap[Z5]? = some (.cells #[.string a0_0,(.slice A0_1 l0_1.length c0_1)] 32 (0,0)))∧Aside0 (Below w.heap.size w w'))
    case atStart=>exact ⟨_,rs,H',⟨Nat.le_refl _⟩,⟨bk Z7⟩,⟨bq⟩⟩
    case round =>
     clear H';obtain ⟨Z13,rfl,HA,Z14,Z7,HB⟩:=hrel
     cases gk with
     | zero=>exact absurd HA.out (by simp [impl_ProbeTubeOk.l0])
     | succ Z15 =>
      have H:=HA.out;clear HA;simp only [impl_ProbeTubeOk.l0] at H
      rcases td H with ⟨Z16,H⟩ | ⟨Z16,H⟩
      obtain ⟨Z17,H⟩:=tn H
      rcases td H with ⟨Z18,H⟩ | ⟨Z18,H⟩
      rcases td H with ⟨Z19,H⟩ | ⟨Z19,H⟩
      rotate_left
      rcases td H with ⟨Z20,H⟩ | ⟨Z20,H⟩
      rcases td H with ⟨Z21,H⟩ | ⟨Z21,H⟩
      rotate_left
      rcases ed H with ⟨-,Z22,Z23,H⟩ | ⟨Z24,Z22,Z23,H⟩
      rotate_left;rotate_left
      rcases ed H with ⟨-,Z21,Z22,H⟩ | ⟨Z23,Z21,Z22,H⟩
      rotate_left;rotate_left
      rcases td H with ⟨Z19,H⟩ | ⟨Z19,H⟩
      rcases td H with ⟨Z20,H⟩ | ⟨Z20,H⟩
      rotate_left
      rcases ed H with ⟨-,Z21,Z22,H⟩ | ⟨Z23,Z21,Z22,H⟩
      rotate_left;rotate_left
      rcases ed H with ⟨-,Z20,Z21,H⟩ | ⟨Z22,Z20,Z21,H⟩
      rotate_left;rotate_left
      ·have H':=ra H;clear H;obtain ⟨Z17,Z18,Z19,Z20⟩:=zc2 Z7;go_wp2
       go_loopg [51] Z15 (fun kq v51 w'=>∃ (x51_3:Int),v51 = .int .i64 x51_3∧Aside0 (impl_ProbeTubeOk.l1 kq l0_1 (l0_1.length:Int) x51_3=some r)∧Aside0 (kq≤Z15)∧Aside0 (w'.heap[Z5]? = some (.cells #[.string a0_0,(.slice A0_1 l0_1.length c0_1)] 32 (0,0)))∧Aside0 (Below w.heap.size w w'))
       case atStart=>exact ⟨_,rs,H',⟨Nat.le_refl _⟩,⟨bk Z7⟩,⟨bq⟩⟩
       case round =>
        clear H'
        try clear Z16
        try clear Z17
        try clear Z18
        try clear Z19
        try clear Z20
        obtain ⟨Z21,rfl,HA,Z22,Z7,HB⟩:=hrel
        cases gk with
        | zero=>exact absurd HA.out (by simp [impl_ProbeTubeOk.l1])
        | succ Z23 =>
         have H:=HA.out;clear HA;simp only [impl_ProbeTubeOk.l1] at H
         rcases td H with ⟨Z24,H⟩ | ⟨Z24,H⟩
         ·obtain ⟨Z25,H⟩:=tn H;obtain ⟨Z26,H⟩:=tn H;obtain ⟨Z27,Z28,H⟩:=bo H
          rcases ud H with ⟨rfl,Z29⟩ | ⟨rfl,Z29⟩<;>have H:=Z29
          ·have H':=ra H;clear H;have Z30:0≤(Z21:Int):=od;have Z31:Z21<(l0_1.length:Int):=od;obtain ⟨Z32,Z33,Z34,Z35,Z36,Z37,Z38,Z39⟩:=at_T75 Z2.out Z21 Z30 Z31;cases Z33
           replace Z34:=hc HB Z34;replace Z35:=hc HB Z35;replace Z36:=hc HB Z36;replace Z37:=hc HB Z37;replace Z38:=hc HB Z38;replace Z39:=hc HB Z39;replace Z30:=eq_true Z30;replace Z31:=eq_true Z31
           go_wp2_with (first | ((with_reducible refine gd 6 rfl ?_);(try (refine gate_guard (by rfl) ?_;dsimp only));refine bf 6 #[.int .i64 0, .int .i64 0, .int .i64 0, .int .i64 0, .int .i64 0, .int .i64 0] 75 ?_;intro Z40 Z41 hg hb HB Z42 Z43;have Z44:=bn hg (bk Z7);have Z45:=bm hg (bk Z7);replace Z7:=bb (bk Z7) hb;have Z46:=Z45.out;have Z47:=Z44.out;obtain ⟨Z48,Z49,Z50,Z51,Z52,Z53,Z54,Z55,Z56,Z57,Z58,Z59⟩:=zc6 Z42;clear hg hb) | ((with_reducible refine gc 76 rfl ?_);refine gy (some 56) Tryz.func76 (impl_ProbeBoxOk.calls _ _ _ _ _ _ _ _ Z28.out) ?_;rintro Z60 hb;replace Z7:=bb (bk Z7) hb;replace Z42:=bb (o := .cells #[.int .i64 ((rd_T75 l0_1 Z21).f0), .int .i64 ((rd_T75 l0_1 Z21).f1), .int .i64 ((rd_T75 l0_1 Z21).f2), .int .i64 ((rd_T75 l0_1 Z21).f3), .int .i64 ((rd_T75 l0_1 Z21).f4), .int .i64 ((rd_T75 l0_1 Z21).f5)] 75 (0,0)) (bp Z42) hb;replace HB:=bs hb;clear hb))
           go_roundg Z23
           case measure=>have:=Z10.out;have:=Z14.out;have:=Z22.out;omega
           case rel=>exact ⟨_,rs,H',⟨by have:=Z10.out;have:=Z14.out;have:=Z22.out;omega⟩,⟨bk Z7⟩,⟨bq⟩⟩
          ·obtain rfl:=Option.some.inj H;have Z30:0≤(Z21:Int):=od;have Z31:Z21<(l0_1.length:Int):=od;obtain ⟨Z32,Z33,Z34,Z35,Z36,Z37,Z38,Z39⟩:=at_T75 Z2.out Z21 Z30 Z31;cases Z33
           replace Z34:=hc HB Z34;replace Z35:=hc HB Z35;replace Z36:=hc HB Z36;replace Z37:=hc HB Z37;replace Z38:=hc HB Z38;replace Z39:=hc HB Z39;replace Z30:=eq_true Z30;replace Z31:=eq_true Z31
           go_wp2_with (first | ((with_reducible refine gd 6 rfl ?_);(try (refine gate_guard (by rfl) ?_;dsimp only));refine bf 6 #[.int .i64 0, .int .i64 0, .int .i64 0, .int .i64 0, .int .i64 0, .int .i64 0] 75 ?_;intro Z40 Z41 hg hb HB Z42 Z43;have Z44:=bn hg (bk Z7);have Z45:=bm hg (bk Z7);replace Z7:=bb (bk Z7) hb;have Z46:=Z45.out;have Z47:=Z44.out;obtain ⟨Z48,Z49,Z50,Z51,Z52,Z53,Z54,Z55,Z56,Z57,Z58,Z59⟩:=zc6 Z42;clear hg hb) | ((with_reducible refine gc 76 rfl ?_);refine gy (some 56) Tryz.func76 (impl_ProbeBoxOk.calls _ _ _ _ _ _ _ _ Z28.out) ?_;rintro Z60 hb;replace Z7:=bb (bk Z7) hb;replace Z42:=bb (o := .cells #[.int .i64 ((rd_T75 l0_1 Z21).f0), .int .i64 ((rd_T75 l0_1 Z21).f1), .int .i64 ((rd_T75 l0_1 Z21).f2), .int .i64 ((rd_T75 l0_1 Z21).f3), .int .i64 ((rd_T75 l0_1 Z21).f4), .int .i64 ((rd_T75 l0_1 Z21).f5)] 75 (0,0)) (bp Z42) hb;replace HB:=bs hb;clear hb))
           go_ret
           exact ⟨re,bq⟩
         ·obtain rfl:=Option.some.inj H;go_wp2;go_ret
          exact ⟨re,bq⟩
      all_goals first
       | have H':=ra H;clear H
         obtain ⟨Z20,Z21,Z22,Z23⟩:=zc2 Z7;have Z24:0≤(Z13:Int):=od;have Z25:Z13<(a0_0.size:Int):=od;have Z26:=bt_at a0_0 Z13;replace Z24:=eq_true Z24;replace Z25:=eq_true Z25;go_wp2
         go_roundg Z15
         case measure=>have:=Z10.out;have:=Z14.out;omega
         case rel=>exact ⟨_,rs,H',⟨by have:=Z10.out;have:=Z14.out;omega⟩,⟨bk Z7⟩,⟨bq⟩⟩
       | obtain rfl:=Option.some.inj H
         obtain ⟨Z25,Z26,Z27,Z28⟩:=zc2 Z7;have Z29:0≤(Z13:Int):=od;have Z30:Z13<(a0_0.size:Int):=od;have Z31:=bt_at a0_0 Z13;replace Z29:=eq_true Z29;replace Z30:=eq_true Z30;go_wp2;go_ret
         exact ⟨re,bq⟩
theorem spec_l2NameOk.calls (k:Nat) (a0:ByteArray) (r:Bool) (w:World) (h:spec_l2NameOk.f k a0=some r) :
  Calls Tryz.prog 54 #[.string a0] w fun e w'=>e = .returned (.bool r)∧Drawn0 w w':=by
 have H:=h;unfold spec_l2NameOk.f at H;clear h;obtain ⟨Z0,Z1,H⟩:=bo H
 rcases ud H with ⟨rfl,Z2⟩ | ⟨rfl,Z2⟩<;>have H:=Z2
 ·have H':=ra H;clear H
  go_enter Tryz.func54,Tryz.ntmps54
  go_wp2_with (first | ((with_reducible refine gc 80 rfl ?_);refine gy (some 7) Tryz.func80 (spec_l1In.calls _ _ _ _ _ Z1.out) ?_;rintro w' ⟨nd,rfl⟩))
  go_loopg [3] k (fun kq v3 w'=>∃ (x3_1:Int),v3 = .int .i64 x3_1∧Aside0 (spec_l2NameOk.l0 kq a0 x3_1=some r)∧Aside0 (kq≤k)∧Drawn0 w w')
  case atStart=>exact ⟨_,rs,H',⟨Nat.le_refl _⟩,d0⟩
  case round =>
   clear H';obtain ⟨Z3,rfl,HA,Z4,⟨Z5,rfl⟩⟩:=hrel
   cases gk with
   | zero=>exact absurd HA.out (by simp [spec_l2NameOk.l0])
   | succ Z6 =>
    have H:=HA.out;clear HA;simp only [spec_l2NameOk.l0] at H
    rcases td H with ⟨Z7,H⟩ | ⟨Z7,H⟩
    obtain ⟨Z8,H⟩:=tn H
    rcases td H with ⟨Z9,H⟩ | ⟨Z9,H⟩
    rcases td H with ⟨Z10,H⟩ | ⟨Z10,H⟩
    rotate_left
    rcases td H with ⟨Z11,H⟩ | ⟨Z11,H⟩
    rcases td H with ⟨Z12,H⟩ | ⟨Z12,H⟩
    rotate_left
    rcases ed H with ⟨-,Z13,Z14,H⟩ | ⟨Z15,Z13,Z14,H⟩
    rotate_left;rotate_left
    rcases ed H with ⟨-,Z12,Z13,H⟩ | ⟨Z14,Z12,Z13,H⟩
    rotate_left;rotate_left
    rcases td H with ⟨Z10,H⟩ | ⟨Z10,H⟩
    rcases td H with ⟨Z11,H⟩ | ⟨Z11,H⟩
    rotate_left
    rcases ed H with ⟨-,Z12,Z13,H⟩ | ⟨Z14,Z12,Z13,H⟩
    rotate_left;rotate_left
    rcases ed H with ⟨-,Z11,Z12,H⟩ | ⟨Z13,Z11,Z12,H⟩
    rotate_left;rotate_left
    ·obtain rfl:=Option.some.inj H;go_wp2;go_ret
     exact ⟨rs,d0⟩
    all_goals first
     | have H':=ra H;clear H
       have Z11:0≤(Z3:Int):=od;have Z12:Z3<(a0.size:Int):=od;have Z13:=bt_at a0 Z3;replace Z11:=eq_true Z11;replace Z12:=eq_true Z12;go_wp2
       go_roundg Z6
       case measure=>have:=Z4.out;omega
       case rel=>exact ⟨_,rs,H',⟨by have:=Z4.out;omega⟩,d0⟩
     | obtain rfl:=Option.some.inj H
       have Z16:0≤(Z3:Int):=od;have Z17:Z3<(a0.size:Int):=od;have Z18:=bt_at a0 Z3;replace Z16:=eq_true Z16;replace Z17:=eq_true Z17;go_wp2;go_ret
       exact ⟨rs,d0⟩
 ·obtain rfl:=Option.some.inj H
  go_enter Tryz.func54,Tryz.ntmps54
  go_wp2_with (first | ((with_reducible refine gc 80 rfl ?_);refine gy (some 7) Tryz.func80 (spec_l1In.calls _ _ _ _ _ Z1.out) ?_;rintro w' ⟨nd,rfl⟩))
  go_ret
  exact ⟨rs,d0⟩
theorem spec_ProbeBoxOk.calls (a0_0 a0_1 a0_2 a0_3 a0_4 a0_5:Int) (r:Bool) (w:World) (h:spec_ProbeBoxOk.f a0_0 a0_1 a0_2 a0_3 a0_4 a0_5=some r) :
  Calls Tryz.prog 55 #[.agg #[.int .i64 a0_0, .int .i64 a0_1, .int .i64 a0_2, .int .i64 a0_3, .int .i64 a0_4, .int .i64 a0_5]] w fun e w'=>e = .returned (.bool r)∧Below w.heap.size w w':=by
 have Z0:=Tryz.underlying75;have HB:=ra (Below.refl w.heap.size w);have H:=h;unfold spec_ProbeBoxOk.f at H;clear h;obtain ⟨Z1,Z2,H⟩:=bo H
 rcases ud H with ⟨rfl,Z3⟩ | ⟨rfl,Z3⟩<;>have H:=Z3
 obtain ⟨Z4,Z5,H⟩:=bo H
 rcases ud H with ⟨rfl,Z6⟩ | ⟨rfl,Z6⟩<;>have H:=Z6
 obtain ⟨Z7,Z8,H⟩:=bo H
 rcases ud H with ⟨rfl,Z9⟩ | ⟨rfl,Z9⟩<;>have H:=Z9
 rcases td H with ⟨Z10,H⟩ | ⟨Z10,H⟩
 obtain ⟨Z11,Z12,H⟩:=bo H
 rcases ud H with ⟨rfl,Z13⟩ | ⟨rfl,Z13⟩<;>have H:=Z13
 rotate_left;rotate_left;rotate_left;rotate_left
 ·obtain rfl:=Option.some.inj H
  go_enter Tryz.func55,Tryz.ntmps55
  go_wp2_with (first | ((with_reducible refine gd 1 rfl ?_);refine bd 1 #[.int .i64 a0_0, .int .i64 a0_1, .int .i64 a0_2, .int .i64 a0_3, .int .i64 a0_4, .int .i64 a0_5] 75 ?_;intro Z7 Z8 HB Z9 Z10;obtain ⟨Z11,Z12,Z13,Z14,Z15,Z16,Z17,Z18,Z19,Z20,Z21,Z22⟩:=zc6 Z9) | ((with_reducible refine gc 80 rfl ?_);refine gy (some 5) Tryz.func80 (spec_l1In.calls _ _ _ _ _ Z2.out) ?_;rintro w' ⟨nd,rfl⟩) | (go_at_call 80;(with_reducible refine (spec_l1In.calls _ _ _ _ _ Z5.out).mono ?_);rintro e w' ⟨rfl,⟨nd,rfl⟩⟩))
  go_ret
  exact ⟨re,bq⟩
 ·obtain rfl:=Option.some.inj H
  go_enter Tryz.func55,Tryz.ntmps55
  go_wp2_with (first | ((with_reducible refine gd 1 rfl ?_);refine bd 1 #[.int .i64 a0_0, .int .i64 a0_1, .int .i64 a0_2, .int .i64 a0_3, .int .i64 a0_4, .int .i64 a0_5] 75 ?_;intro Z4 Z5 HB Z6 Z7;obtain ⟨Z8,Z9,Z10,Z11,Z12,Z13,Z14,Z15,Z16,Z17,Z18,Z19⟩:=zc6 Z6) | ((with_reducible refine gc 80 rfl ?_);refine gy (some 5) Tryz.func80 (spec_l1In.calls _ _ _ _ _ Z2.out) ?_;rintro w' ⟨nd,rfl⟩))
  go_ret
  exact ⟨re,bq⟩
 all_goals first
  | obtain rfl:=Option.some.inj H
    go_enter Tryz.func55,Tryz.ntmps55
    go_wp2_with (first | ((with_reducible refine gd 1 rfl ?_);refine bd 1 #[.int .i64 a0_0, .int .i64 a0_1, .int .i64 a0_2, .int .i64 a0_3, .int .i64 a0_4, .int .i64 a0_5] 75 ?_;intro Z14 Z15 HB Z16 Z17;obtain ⟨Z18,Z19,Z20,Z21,Z22,Z23,Z24,Z25,Z26,Z27,Z28,Z29⟩:=zc6 Z16) | ((with_reducible refine gc 80 rfl ?_);refine gy (some 5) Tryz.func80 (spec_l1In.calls _ _ _ _ _ Z2.out) ?_;rintro w' ⟨nd,rfl⟩) | (go_at_call 80;(with_reducible refine (spec_l1In.calls _ _ _ _ _ Z5.out).mono ?_);rintro e w' ⟨rfl,⟨nd,rfl⟩⟩) | (go_at_call 80;(with_reducible refine (spec_l1In.calls _ _ _ _ _ Z8.out).mono ?_);rintro e w' ⟨rfl,⟨nd,rfl⟩⟩) | (go_at_call 80;(with_reducible refine (spec_l1In.calls _ _ _ _ _ Z12.out).mono ?_);rintro e w' ⟨rfl,⟨nd,rfl⟩⟩))
    go_ret
    exact ⟨re,bq⟩
  | obtain rfl:=Option.some.inj H
    go_enter Tryz.func55,Tryz.ntmps55
    go_wp2_with (first | ((with_reducible refine gd 1 rfl ?_);refine bd 1 #[.int .i64 a0_0, .int .i64 a0_1, .int .i64 a0_2, .int .i64 a0_3, .int .i64 a0_4, .int .i64 a0_5] 75 ?_;intro Z11 Z12 HB Z13 Z14;obtain ⟨Z15,Z16,Z17,Z18,Z19,Z20,Z21,Z22,Z23,Z24,Z25,Z26⟩:=zc6 Z13) | ((with_reducible refine gc 80 rfl ?_);refine gy (some 5) Tryz.func80 (spec_l1In.calls _ _ _ _ _ Z2.out) ?_;rintro w' ⟨nd,rfl⟩) | (go_at_call 80;(with_reducible refine (spec_l1In.calls _ _ _ _ _ Z5.out).mono ?_);rintro e w' ⟨rfl,⟨nd,rfl⟩⟩) | (go_at_call 80;(with_reducible refine (spec_l1In.calls _ _ _ _ _ Z8.out).mono ?_);rintro e w' ⟨rfl,⟨nd,rfl⟩⟩))
    go_ret
    exact ⟨re,bq⟩
theorem spec_ProbeTubeOk.calls (k:Nat) (a0_0:ByteArray) (A0_1:Option Addr) (c0_1:Nat) (l0_1:List (S75)) (r:Bool) (w:World) (hr0_1:Kd.C k75 w A0_1 l0_1.length l0_1) (hc0_1:l0_1.length≤c0_1) (h:spec_ProbeTubeOk.f k a0_0 l0_1=some r) :
  Calls Tryz.prog 17 #[.agg #[.string a0_0, .slice A0_1 l0_1.length c0_1]] w fun e w'=>e = .returned (.bool r)∧Below w.heap.size w w':=by
 have Z0:=Tryz.underlying32;have Z1:=Tryz.underlying75;have Z2:=ra hr0_1;have Z3:=ra hc0_1;clear hr0_1 hc0_1;have HB:=ra (Below.refl w.heap.size w);have H:=h;unfold spec_ProbeTubeOk.f at H;clear h;have Z4:=ra H;clear H
 go_enter Tryz.func17,Tryz.ntmps17
 go_upto_region 1 with (first | ((with_reducible refine gd 1 rfl ?_);(try (refine gate_guard (by rfl) ?_;dsimp only));refine bd 1 #[.string a0_0, .slice A0_1 l0_1.length c0_1] 32 ?_;intro Z5 Z6 HB Z7 Z8))
 (try simp only [Act.put,List.setIfInBounds_toArray,List.set_cons_zero,List.set_cons_succ])
 go_cut [13] (fun v13 wc=>∃ (kq:Nat) (x13_1:Bool),v13 = .bool x13_1∧Aside0 (spec_ProbeTubeOk.j0 kq x13_1 a0_0 l0_1=some r)∧Aside0 (kq≤k)∧Aside0 (wc.heap[Z5]? = some (.cells #[.string a0_0,(.slice A0_1 l0_1.length c0_1)] 32 (0,0)))∧Aside0 (Below w.heap.size w wc))
 case first =>
  have H:=Z4.out;clear Z4;obtain ⟨Z9,Z10,H⟩:=bo H
  rcases ud H with ⟨rfl,Z11⟩ | ⟨rfl,Z11⟩<;>have H:=Z11
  rotate_left;rotate_left
  all_goals
   have H':=ra H;clear H;obtain ⟨Z12,Z13,Z14,Z15⟩:=zc2 Z7
   go_wp2_with (first | ((with_reducible refine gc 54 rfl ?_);refine gy (some 6) Tryz.func54 (spec_l2NameOk.calls _ _ _ _ Z10.out) ?_;rintro w' ⟨nd,rfl⟩))
   go_meet
   case rel=>exact ⟨_,_,rs,H',⟨by first | omega | exact Nat.le_refl _⟩,⟨bk Z7⟩,⟨bq⟩⟩
 case rest =>
  clear Z4;obtain ⟨kq,Z9,rfl,HA,Z10,Z7,HB⟩:=hcut
  cases kq with
  | zero=>exact absurd HA.out (by simp [spec_ProbeTubeOk.j0])
  | succ Z11 =>
   have H:=HA.out;clear HA;simp only [spec_ProbeTubeOk.j0] at H
   rcases ud H with ⟨rfl,Z12⟩ | ⟨rfl,Z12⟩<;>have H:=Z12
   ·obtain rfl:=Option.some.inj H;go_wp2;go_ret
    exact ⟨re,bq⟩
   ·have H':=ra H;clear H;go_wp2
    go_loopg [3] Z11 (fun kq v3 w'=>∃ (x3_2:Int),v3 = .int .i64 x3_2∧Aside0 (spec_ProbeTubeOk.l0 kq x3_2 a0_0 l0_1=some r)∧Aside0 (kq≤Z11)∧Aside0 (w'.heap[Z5]? = some (.cells #[.string a0_0,(.slice A0_1 l0_1.length c0_1)] 32 (0,0)))∧Aside0 (Below w.heap.size w w'))
    case atStart=>exact ⟨_,rs,H',⟨Nat.le_refl _⟩,⟨bk Z7⟩,⟨bq⟩⟩
    case round =>
     clear H';obtain ⟨Z13,rfl,HA,Z14,Z7,HB⟩:=hrel
     cases gk with
     | zero=>exact absurd HA.out (by simp [spec_ProbeTubeOk.l0])
     | succ Z15 =>
      have H:=HA.out;clear HA;simp only [spec_ProbeTubeOk.l0] at H
      rcases td H with ⟨Z16,H⟩ | ⟨Z16,H⟩
      ·obtain ⟨Z17,H⟩:=tn H;obtain ⟨Z18,Z19,H⟩:=bo H
       rcases ud H with ⟨rfl,Z20⟩ | ⟨rfl,Z20⟩<;>have H:=Z20
       ·have H':=ra H;clear H;obtain ⟨Z21,Z22,Z23,Z24⟩:=zc2 Z7;have Z25:0≤(Z13:Int):=od;have Z26:Z13<(l0_1.length:Int):=od;obtain ⟨Z27,Z28,Z29,Z30,Z31,Z32,Z33,Z34⟩:=at_T75 Z2.out Z13 Z25 Z26;cases Z28
        replace Z29:=hc HB Z29;replace Z30:=hc HB Z30;replace Z31:=hc HB Z31;replace Z32:=hc HB Z32;replace Z33:=hc HB Z33;replace Z34:=hc HB Z34;replace Z25:=eq_true Z25;replace Z26:=eq_true Z26
        go_wp2_with (first | ((with_reducible refine gc 55 rfl ?_);refine gy (some 26) Tryz.func55 (spec_ProbeBoxOk.calls _ _ _ _ _ _ _ _ Z19.out) ?_;rintro Z35 hb;replace Z7:=bb (bk Z7) hb;replace HB:=bs hb;clear hb))
        go_roundg Z15
        case measure=>have:=Z10.out;have:=Z14.out;omega
        case rel=>exact ⟨_,rs,H',⟨by have:=Z10.out;have:=Z14.out;omega⟩,⟨bk Z7⟩,⟨bq⟩⟩
       ·obtain rfl:=Option.some.inj H;obtain ⟨Z21,Z22,Z23,Z24⟩:=zc2 Z7;have Z25:0≤(Z13:Int):=od;have Z26:Z13<(l0_1.length:Int):=od;obtain ⟨Z27,Z28,Z29,Z30,Z31,Z32,Z33,Z34⟩:=at_T75 Z2.out Z13 Z25 Z26;cases Z28
        replace Z29:=hc HB Z29;replace Z30:=hc HB Z30;replace Z31:=hc HB Z31;replace Z32:=hc HB Z32;replace Z33:=hc HB Z33;replace Z34:=hc HB Z34;replace Z25:=eq_true Z25;replace Z26:=eq_true Z26
        go_wp2_with (first | ((with_reducible refine gc 55 rfl ?_);refine gy (some 26) Tryz.func55 (spec_ProbeBoxOk.calls _ _ _ _ _ _ _ _ Z19.out) ?_;rintro Z35 hb;replace Z7:=bb (bk Z7) hb;replace HB:=bs hb;clear hb))
        go_ret
        exact ⟨re,bq⟩
      ·obtain rfl:=Option.some.inj H;obtain ⟨Z17,Z18,Z19,Z20⟩:=zc2 Z7;go_wp2;go_ret
       exact ⟨re,bq⟩
end Go.Proofs.YtgklmafdbgnohaaGreat.PA
end
section
namespace Go.Proofs.YtgklmafdbgnohaaGreat.PA
open Go.RowKit Go.Proofs.YtgklmafdbgnohaaGreat.Q Go.Proofs.YtgklmafdbgnohaaGreatW.PrintWords Go.Proofs.YtgklmafdbgnohaaGreatW.PrintLast Go.Proofs.YtgklmafdbgnohaaGreatW.PrintMore Go.Proofs.YtgklmafdbgnohaaGreat.Z
attribute [local go_sem] max2_int min2_int max_two min_two max_three min_three max_four min_four
set_option maxHeartbeats 8000000
set_option maxRecDepth 100000
theorem dc (p:Prop) [Decidable p]:decide p=true∨decide p=false:=by cases decide p<;>simp
theorem l1ex (a b c:Int):∃ t,spec_l1In.f a b c=some t:=by
  unfold spec_l1In.f
  repeat (first | split | exact ⟨_,rfl⟩)
theorem bgr {w w1:World} {g':Nat} {o:Obj} {v:Value} (h:w.heap[g']? = some o) (hg:w.grownBy w1 v.ownBlock) (hn:some g'≠v.ownBlock):Aside0 (w1.heap[g']? = some o):=⟨blk_grown h hg hn⟩
structure TS (w0 w:World) (g:Nat) (b:List Int) (nn:ByteArray) (g1 g2 g3:Nat) (R:Nat) (W:World) (y:S75) (u:Value) (xs:List S75):Prop where
  q0:Aside0 (Wf y)
  q1:Aside0 (W.heap[g1]? = some (.cells #[.string (⟨#[]⟩:ByteArray), .slice none 0 0] 32 (0,0)))
  q2:Aside0 (W.heap[g2]? = some (.cells #[.string nn,u] 32 (0,0)))
  q3:Aside0 (W.heap[g3]? = some (.cells #[.int .i64 y.f0, .int .i64 y.f1, .int .i64 y.f2, .int .i64 y.f3, .int .i64 y.f4, .int .i64 y.f5] 75 (0,0)))
  q4:Aside0 (Kd.R k75 75 W w.heap.size (fun k_=>k_≠g3) u xs)
  q5:Aside0 (DD w0 w g b R W)
  q6:Aside0 (∀ q∈xs,Wf q)
theorem sw1 (r:Int):(r==0)=true∨(r==0)=false:=by cases r==0<;>simp
theorem rtube {w0 w W:World} {g:Nat} {b:List Int} {R:Nat} (nn:ByteArray) (hD:DD w0 w g b (R+900) W) :
    Calls Tryz.prog 91 #[.pointer (some ⟨g,0,none⟩), .string nn] W fun e w'=>∃ x:Value × List S75,e = .returned (.agg #[.string nn,x.1])∧Aside0 ((∀ q∈x.2,Wf q)∧x.2.length≤100)∧Kd.R k75 75 w' W.heap.size (fun _=>True) x.1 x.2∧DD w0 W g b R w':=by
  have HD:=hD.start;clear hD;have hu1:=Tryz.underlying32;have hu2:=Tryz.underlying75
  go_enter Tryz.func91,Tryz.ntmps91
  go_wp2_with (first | ((with_reducible refine gd 4 rfl ?_);refine be 4 #[.string (⟨#[]⟩:ByteArray), .slice none 0 0] 32 ?_;intro g1 hg w_ hbox hb_;have H1:=ra hbox;obtain ⟨Ag1,Bg1,Cg1⟩:=dn hg (dq HD);replace HD:=ra ((dq HD).below hb_);clear hb_ hbox hg) | ((with_reducible refine gd 5 rfl ?_);refine be 5 #[.string (⟨#[]⟩:ByteArray), .slice none 0 0] 32 ?_;intro g2 hg w_ hbox hb_;have H2:=ra hbox;obtain ⟨Ag2,Bg2,Cg2⟩:=dn hg (dq HD);have Ng1g2:=bn hg (bk H1);have Ng2g1:=bm hg (bk H1);replace H1:=bb (bk H1) hb_;replace HD:=ra ((dq HD).below hb_);clear hb_ hbox hg;have:=Ng1g2.out;have:=Ng2g1.out;have:=Bg2.out;have:=Cg2.out;obtain ⟨_,_,_,_⟩:=zc2 H2) | ((with_reducible refine gd 13 rfl ?_);refine gz (some 13) Tryz.func122 (rbox (dq HD)) ?_;rintro y w_ ⟨HY,hd⟩;replace H1:=kv hd.k (bk H1) Cg1;replace H2:=kp #[.string nn, .slice none 0 0] hd.k (bp H2) Cg2;replace HD:=dt (dq HD) hd;clear hd) | ((with_reducible refine gd 6 rfl ?_);refine be 6 #[.int .i64 0, .int .i64 0, .int .i64 0, .int .i64 0, .int .i64 0, .int .i64 0] 75 ?_;intro g3 hg w_ hbox hb_;have H3:=ra hbox;obtain ⟨Ag3,Bg3,Cg3⟩:=dn hg (dq HD);have Ng1g3:=bn hg (bk H1);have Ng3g1:=bm hg (bk H1);replace H1:=bb (bk H1) hb_;have Ng2g3:=bn hg (bk H2);have Ng3g2:=bm hg (bk H2);replace H2:=bb (bk H2) hb_;replace HD:=ra ((dq HD).below hb_);clear hb_ hbox hg;have:=Bg3.out;have:=Cg3.out;have:=Ng1g3.out;have:=Ng3g1.out;have:=Ng2g3.out;have:=Ng3g2.out;obtain ⟨_,_,_,_,_,_,_,_,_,_,_,_⟩:=zc6 H3) | ((with_reducible refine gd 15 rfl ?_);refine gz (some 15) Tryz.func35 (rpick 7 (dq HD)) ?_;rintro r15 w_ ⟨Rr15,hd⟩;replace H1:=kv hd.k (bk H1) Cg1;replace H2:=kv hd.k (bk H2) Cg2;replace H3:=kp #[.int .i64 y.f0, .int .i64 y.f1, .int .i64 y.f2, .int .i64 y.f3, .int .i64 y.f4, .int .i64 y.f5] hd.k (bp H3) Cg3;replace HD:=dt (dq HD) hd;clear hd))
  have hE:∃ R1,R1=R+700:=⟨_,rfl⟩;obtain ⟨R1,hR1⟩:=hE;have HR1:=ra hR1;clear hR1
  go_loopg [7] 8 (fun kq v7 w'=>∃ (n:Int) (y:S75) (u:Value) (xs:List S75),v7 = .int .i64 n∧Aside0 (0≤n∧n<(kq:Int)∧xs.length+kq≤8)∧TS w0 W g b nn g1 g2 g3 (R1+20 * kq) w' y u xs)
  case atStart=>exact ⟨r15,y, .slice none 0 0,[],rs,⟨by have:=Rr15.out;omega,by have:=Rr15.out;omega,by simp⟩,HY,⟨bk H1⟩,⟨bk H2⟩,⟨bk H3⟩,⟨Kd.R_nil _ _ _ _ _⟩,⟨(dq HD).less (by have:=HR1.out;omega)⟩,⟨by simp⟩⟩
  case round =>
    clear HY H1 H2 H3 HD Rr15;obtain ⟨n,y,u,xs,rfl,HN,T⟩:=hrel;obtain ⟨HY,H1,H2,H3,HO,HD,HX⟩:=T
    rcases dc (0<n) with c | c
    · cases gk with
      | zero=>exact absurd HN.out (by have:=of_decide_eq_true c;omega)
      | succ k1 =>
      obtain ⟨R2,hR2⟩:∃ R2,R2=R1+20 * k1:=⟨_,rfl⟩;replace HD:Aside0 (DD w0 W g b (R2+20) _):=⟨HD.out.less (by omega)⟩;have HR2:=ra hR2;clear hR2;have:=Ng1g2.out;have:=Ng2g1.out;have:=Ng1g3.out;have:=Ng3g1.out;have:=Ng2g3.out;have:=Ng3g2.out;have:=Bg1.out;have:=Cg1.out;have:=Bg2.out;have:=Cg2.out;have:=Bg3.out;have:=Cg3.out
      obtain ⟨_,_,_,_⟩:=zc2 H2;obtain ⟨_,_,_,_,_,_,_,_,_,_,_,_⟩:=zc6 H3
      try go_wp2_with (first | ((with_reducible refine gate_builtin (b := .append) (xs:=#[.tmp 21, .tmp 23]) rfl ?_);at_builtin;refine Kd.R_append k75 W.heap.size rfl (.tmp 21) (.tmp 23) 30 75 (.agg #[.int .i64 0, .int .i64 0, .int .i64 0, .int .i64 0, .int .i64 0, .int .i64 0]) 48 rfl Tryz.underlying30 info75 rfl (by decide) (by omega) u xs y [.int .i64 y.f0, .int .i64 y.f1, .int .i64 y.f2, .int .i64 y.f3, .int .i64 y.f4, .int .i64 y.f5] (fun k_=>k_≠g3) (fun _=>False) rfl rfl ?aP (fun _ hk=>hk.elim) ?aF ?aO (Below.refl _ _) ?aS ?aL ?_;(case aP=>exact k75_mkM _ _ _ y);(case aF=>exact fun k_ hk=>Kd.freshB (bk H3) k_ hk);(case aO=>exact rq HO);(case aS=>exact keep_size (dq HD).k);(case aL=>have:=HN.out;omega);intro v1 w_ ho hb hg _;obtain ⟨xs2,hxs⟩:∃ l,l=xs++[y]:=⟨_,rfl⟩;rw [← hxs] at ho;have HX2:=ra hxs;clear hxs;obtain ⟨Av,cv,rfl⟩:=Kd.R_slice ho;replace HD:=DD.app (dq HD) (rq HO) hg hb;replace H1:=bgr (bk H1) hg (Kd.R_ne HO.out H1.out (by decide));replace H2:=bgr (bk H2) hg (Kd.R_ne HO.out H2.out (by decide));replace H3:=bgr (bk H3) hg (Kd.R_away HO.out (fun _ hk=>hk));replace HO:=ra ho;clear ho hb hg;obtain ⟨_,_,_,_⟩:=zc2 H2) | ((with_reducible refine gd 27 rfl ?_);refine gz (some 27) Tryz.func35 (rpick 10 (dq HD)) ?_;rintro r27 w_ ⟨-,hd⟩;replace HO:=dR (dq HD) (Kd.R_mono (rf (Kd.R_types HO.out H2.out (by decide))) (fun _ hk=>hk.1)) hd;replace H1:=kv hd.k (bk H1) Cg1;replace H2:=kp #[.string nn, .slice Av xs2.length cv] hd.k (bp H2) Cg2;replace H3:=kv hd.k (bk H3) Cg3;replace HD:=dt (dq HD) hd;clear hd;rcases sw1 r27 with c1 | c1) | ((with_reducible refine gd 30 rfl ?_);refine gz (some 30) Tryz.func122 (rbox (dq HD)) ?_;rintro y2 w_ ⟨HY2,hd⟩;replace H1:=kv hd.k (bk H1) Cg1;replace H2:=kv hd.k (bk H2) Cg2;replace H3:=kv hd.k (bk H3) Cg3;replace HO:=dR (dq HD) (rq HO) hd;replace HD:=dt (dq HD) hd;clear hd;obtain ⟨_,_,_,_,_,_,_,_,_,_,_,_⟩:=zc6 H3))
      · go_roundg k1
        case measure=>have:=HN.out;omega
        case rel=>exact ⟨_,y2, .slice Av xs2.length cv,xs2,rfl,⟨by have:=HN.out;have:=of_decide_eq_true c;rw [HX2.out,List.length_append];unfold wrap64;simp;omega⟩,HY2,⟨bk H1⟩,⟨bk H2⟩,⟨bp H3⟩,⟨(Kd.R_mono (rf (Kd.R_mono HO.out (fun k_ hk=>(⟨hk,hk⟩:_∧k_≠g3)))) (fun _ hk=>hk.1))⟩,⟨(dq HD).less (by have:=HR2.out;omega)⟩,⟨by rw [HX2.out];exact fun q hq=>(List.mem_append.1 hq).elim (HX.out q) fun h=>by rw [List.mem_singleton.1 h];exact HY.out⟩⟩
      refine start_ (n:=7) (S:=fun w'=>w'.cell? ⟨g3,0,none⟩=some (.int .i64 y.f0)) (ds:=[]) (bl 7 0) (by kernel_rfl) rfl rfl ((blk_cell (bk H3) 0).trans rfl) (fun hHeld=>?_);refine pu 0 31 (bl 7 1) ?_;refine pu 2 33 (bl 7 5) ?_;refine tk 1 32 (bl 7 7) ?_ hHeld;refine oe 3 34 (bl 7 15) (fun K hK=>?_);refine gt Tryz.func35 (rpick 3 (dq HD)) ?_
      rintro r34 w_ ⟨-,hd⟩
      replace H1:=kv hd.k (bk H1) Cg1;replace H2:=kv hd.k (bk H2) Cg2;replace H3:=kv hd.k (bk H3) Cg3;replace HO:=dR (dq HD) (rq HO) hd;replace HD:=dt (dq HD) hd;clear hd;refine hK.out _ _ ((blk_cell H3.out 0).trans rfl) (fun hHeld=>?_);clear hK K;refine nm 34 ?_;refine pu 4 35 (bl 7 31) ?_;refine pu 5 36 (bl 7 63) ?_;refine pu 6 8 (bl 7 127) ?_;refine done_ (by kernel_rfl) ?_
      try go_wp2
      refine start_ (n:=7) (S:=fun w'=>w'.cell? ⟨g3,1,none⟩=some (.int .i64 y.f1)) (ds:=[]) (bl 7 0) (by kernel_rfl) rfl rfl ((blk_cell (bk H3) 1).trans rfl) (fun hHeld=>?_);refine pu 0 37 (bl 7 1) ?_;refine pu 2 39 (bl 7 5) ?_;refine tk 1 38 (bl 7 7) ?_ hHeld;refine oe 3 40 (bl 7 15) (fun K hK=>?_);refine gt Tryz.func35 (rpick 3 (dq HD)) ?_
      rintro r40 w_ ⟨-,hd⟩
      replace H1:=kv hd.k (bk H1) Cg1;replace H2:=kv hd.k (bk H2) Cg2;replace H3:=kv hd.k (bk H3) Cg3;replace HO:=dR (dq HD) (rq HO) hd;replace HD:=dt (dq HD) hd;clear hd;refine hK.out _ _ ((blk_cell H3.out 1).trans rfl) (fun hHeld=>?_);clear hK K;refine nm 40 ?_;refine pu 4 41 (bl 7 31) ?_;refine pu 5 42 (bl 7 63) ?_;refine pu 6 9 (bl 7 127) ?_;refine done_ (by kernel_rfl) ?_
      go_upto_region 11 with (fail)
      go_cut [48] (fun v48 wc=>∃ x:Bool,v48 = .bool x∧TS w0 W g b nn g1 g2 g3 (R2+7) wc y (.slice Av xs2.length cv) xs2)
      case first =>
        obtain ⟨t1,e1⟩:=l1ex (wrap64 (wrap64 (y.f0+r34) - 1)) 0 15;obtain ⟨t2,e2⟩:=l1ex (wrap64 (wrap64 (y.f1+r40) - 1)) 0 15;cases t1
        all_goals
          go_wp2_with (first | ((with_reducible refine gc 80 rfl ?_);refine gy (some 44) Tryz.func80 (spec_l1In.calls _ _ _ _ _ e1) ?_;rintro w' ⟨nd,rfl⟩) | (go_at_call 80;refine (spec_l1In.calls _ _ _ _ _ e2).mono ?_;rintro e w' ⟨rfl,⟨nd,rfl⟩⟩))
          go_meet
          case rel=>exact ⟨_,rs,HY,⟨bk H1⟩,⟨bk H2⟩,⟨bk H3⟩,⟨rq HO⟩,⟨(dq HD).less⟩,⟨by rw [HX2.out];exact fun q hq=>(List.mem_append.1 hq).elim (HX.out q) fun h=>by rw [List.mem_singleton.1 h];exact HY.out⟩⟩
      case rest =>
        clear H1 H2 H3 HO HD;obtain ⟨t,rfl,T⟩:=hcut;obtain ⟨-,H1,H2,H3,HO,HD,-⟩:=T
        go_upto_if 48 with (fail)
        go_cut [] (fun wc=>∃ y2,TS w0 W g b nn g1 g2 g3 (R2+7) wc y2 (.slice Av xs2.length cv) xs2)
        case first =>
          have:=Ng1g2.out;have:=Ng2g1.out;have:=Ng1g3.out;have:=Ng3g1.out;have:=Ng2g3.out;have:=Ng3g2.out;have:=Bg1.out;have:=Cg1.out;have:=Bg2.out;have:=Cg2.out;have:=Bg3.out;have:=Cg3.out;obtain ⟨_,_,_,_,_,_,_,_,_,_,_,_⟩:=zc6 H3
          cases t
          · go_wp2;go_meet
            case rel=>exact ⟨y,HY,⟨bk H1⟩,⟨bk H2⟩,⟨bk H3⟩,⟨rq HO⟩,⟨dq HD⟩,⟨by rw [HX2.out];exact fun q hq=>(List.mem_append.1 hq).elim (HX.out q) fun h=>by rw [List.mem_singleton.1 h];exact HY.out⟩⟩
          · go_wp2;go_meet
            case rel=>exact ⟨⟨wrap64 (wrap64 (y.f0+r34) - 1),wrap64 (wrap64 (y.f1+r40) - 1),y.f2,y.f3,y.f4,y.f5⟩,⟨wR _,wR _,HY.out.2.2⟩,⟨bk H1⟩,⟨bk H2⟩,⟨bp H3⟩,⟨(Kd.R_mono (rf (Kd.R_mono HO.out (fun k_ hk=>(⟨hk,hk⟩:_∧k_≠g3)))) (fun _ hk=>hk.1))⟩,⟨dq HD⟩,⟨by rw [HX2.out];exact fun q hq=>(List.mem_append.1 hq).elim (HX.out q) fun h=>by rw [List.mem_singleton.1 h];exact HY.out⟩⟩
        case rest =>
          clear H1 H2 H3 HO HD;obtain ⟨y2,T⟩:=hcut;obtain ⟨HY2,H1,H2,H3,HO,HD,-⟩:=T;have:=Ng1g2.out;have:=Ng2g1.out;have:=Ng1g3.out;have:=Ng3g1.out;have:=Ng2g3.out;have:=Ng3g2.out;have:=Bg1.out;have:=Cg1.out;have:=Bg2.out;have:=Cg2.out;have:=Bg3.out;have:=Cg3.out;obtain ⟨_,_,_,_,_,_,_,_,_,_,_,_⟩:=zc6 H3
          rcases dc (wrap64 (y2.f5+20)<10000) with c2 | c2
          · try go_wp2
            refine start_ (n:=8) (S:=fun w'=>w'.cell? ⟨g3,4,none⟩=some (.int .i64 y2.f4)) (ds:=[7]) (bl 8 0) (by kernel_rfl) rfl rfl ((blk_cell (bp (cs2:=#[.int .i64 y2.f0, .int .i64 y2.f1, .int .i64 y2.f2, .int .i64 y2.f3, .int .i64 y2.f4, .int .i64 y2.f5]) H3) 4).trans rfl) (fun hHeld=>?_);refine pu 0 57 (bl 8 1) ?_;refine pu 3 60 (bl 8 9) ?_;refine tk 1 58 (bl 8 11) ?_ hHeld;refine pu 2 59 (bl 8 15) ?_;refine oe 4 61 (bl 8 31) (fun K hK=>?_);refine gt Tryz.func35 (rpick 4 (dq HD)) ?_
            rintro r61 w_ ⟨-,hd⟩
            replace HO:=dR (dq HD) (Kd.R_mono (rf (Kd.R_mono HO.out (fun k_ hk=>(⟨hk,hk⟩:_∧k_≠g3)))) (fun _ hk=>hk.1)) hd;replace H1:=kv hd.k (bk H1) Cg1;replace H2:=kv hd.k (bk H2) Cg2;replace H3:=kp #[.int .i64 y2.f0, .int .i64 y2.f1, .int .i64 y2.f2, .int .i64 y2.f3, .int .i64 y2.f4, .int .i64 y2.f5] hd.k (bp H3) Cg3;replace HD:=dt (dq HD) hd;clear hd;refine hK.out _ _ ((blk_cell H3.out 4).trans rfl) (fun hHeld=>?_);clear hK K;refine nm 61 ?_;refine pu 5 62 (bl 8 63) ?_;refine pu 6 63 (bl 8 127) ?_;refine last_ (i:=7) (N:=none) (bl 8 255) rfl rfl (by kernel_rfl) (by decide) (fun K hK=>?_);obtain ⟨_,_,_,_,_,_,_,_,_,_,_,_⟩:=zc6 H3;refine skip_ (w1:=?_) (by rfl) rfl ?_ ?_;rotate_left
            · go_simp
              rfl
            refine hK.out _ _ ?_;clear hK K;refine done_ (by kernel_rfl) ?_
            try go_wp2
            refine start_ (n:=8) (S:=fun w'=>w'.cell? ⟨g3,5,none⟩=some (.int .i64 y2.f5)) (ds:=[7]) (bl 8 0) (by kernel_rfl) rfl rfl ((blk_cell (bp (cs2:=#[.int .i64 y2.f0, .int .i64 y2.f1, .int .i64 y2.f2, .int .i64 y2.f3, .int .i64 (wrap64 (wrap64 (y2.f4+1)+r61)), .int .i64 y2.f5]) H3) 5).trans rfl) (fun hHeld=>?_);refine pu 0 64 (bl 8 1) ?_;refine pu 3 67 (bl 8 9) ?_;refine tk 1 65 (bl 8 11) ?_ hHeld;refine pu 2 66 (bl 8 15) ?_;refine oe 4 68 (bl 8 31) (fun K hK=>?_);refine gt Tryz.func35 (rpick 6 (dq HD)) ?_
            rintro r68 w_ ⟨-,hd⟩
            replace HO:=dR (dq HD) (Kd.R_mono (rf (Kd.R_mono HO.out (fun k_ hk=>(⟨hk,hk⟩:_∧k_≠g3)))) (fun _ hk=>hk.1)) hd;replace H1:=kv hd.k (bk H1) Cg1;replace H2:=kv hd.k (bk H2) Cg2;replace H3:=kp #[.int .i64 y2.f0, .int .i64 y2.f1, .int .i64 y2.f2, .int .i64 y2.f3, .int .i64 (wrap64 (wrap64 (y2.f4+1)+r61)), .int .i64 y2.f5] hd.k (bp H3) Cg3;replace HD:=dt (dq HD) hd;clear hd;refine hK.out _ _ ((blk_cell H3.out 5).trans rfl) (fun hHeld=>?_);clear hK K;refine nm 68 ?_;refine pu 5 69 (bl 8 63) ?_;refine pu 6 70 (bl 8 127) ?_;refine last_ (i:=7) (N:=none) (bl 8 255) rfl rfl (by kernel_rfl) (by decide) (fun K hK=>?_);obtain ⟨_,_,_,_,_,_,_,_,_,_,_,_⟩:=zc6 H3;refine skip_ (w1:=?_) (by rfl) rfl ?_ ?_;rotate_left
            · go_simp
              rfl
            refine hK.out _ _ ?_;clear hK K;refine done_ (by kernel_rfl) ?_;have:=Ng1g2.out;have:=Ng2g1.out;have:=Ng1g3.out;have:=Ng3g1.out;have:=Ng2g3.out;have:=Ng3g2.out;have:=Bg1.out;have:=Cg1.out;have:=Bg2.out;have:=Cg2.out;have:=Bg3.out;have:=Cg3.out;obtain ⟨_,_,_,_,_,_,_,_,_,_,_,_⟩:=zc6 H3
            rcases dc (wrap64 (wrap64 (y2.f5+1)+r68)<wrap64 (wrap64 (y2.f4+1)+r61)) with c3 | c3
            · go_wp2
              go_roundg k1
              case measure=>have:=HN.out;omega
              case rel=>exact ⟨_,⟨y2.f0,y2.f1,y2.f2,y2.f3,wrap64 (wrap64 (y2.f4+1)+r61),wrap64 (wrap64 (y2.f4+1)+r61)⟩, .slice Av xs2.length cv,xs2,rfl,⟨by have:=HN.out;have:=of_decide_eq_true c;rw [HX2.out,List.length_append];unfold wrap64;simp;omega⟩,⟨HY2.out.1,HY2.out.2.1,HY2.out.2.2.1,HY2.out.2.2.2.1,wR _,wR _⟩,⟨bk H1⟩,⟨bk H2⟩,⟨bp H3⟩,⟨(Kd.R_mono (rf (Kd.R_mono HO.out (fun k_ hk=>(⟨hk,hk⟩:_∧k_≠g3)))) (fun _ hk=>hk.1))⟩,⟨(dq HD).less (by have:=HR2.out;omega)⟩,⟨by rw [HX2.out];exact fun q hq=>(List.mem_append.1 hq).elim (HX.out q) fun h=>by rw [List.mem_singleton.1 h];exact HY.out⟩⟩
            · go_wp2
              go_roundg k1
              case measure=>have:=HN.out;omega
              case rel=>exact ⟨_,⟨y2.f0,y2.f1,y2.f2,y2.f3,wrap64 (wrap64 (y2.f4+1)+r61),wrap64 (wrap64 (y2.f5+1)+r68)⟩, .slice Av xs2.length cv,xs2,rfl,⟨by have:=HN.out;have:=of_decide_eq_true c;rw [HX2.out,List.length_append];unfold wrap64;simp;omega⟩,⟨HY2.out.1,HY2.out.2.1,HY2.out.2.2.1,HY2.out.2.2.2.1,wR _,wR _⟩,⟨bk H1⟩,⟨bk H2⟩,⟨bp H3⟩,⟨(Kd.R_mono (rf (Kd.R_mono HO.out (fun k_ hk=>(⟨hk,hk⟩:_∧k_≠g3)))) (fun _ hk=>hk.1))⟩,⟨(dq HD).less (by have:=HR2.out;omega)⟩,⟨by rw [HX2.out];exact fun q hq=>(List.mem_append.1 hq).elim (HX.out q) fun h=>by rw [List.mem_singleton.1 h];exact HY.out⟩⟩
          · go_wp2
            go_roundg k1
            case measure=>have:=HN.out;omega
            case rel=>exact ⟨_,y2, .slice Av xs2.length cv,xs2,rfl,⟨by have:=HN.out;have:=of_decide_eq_true c;rw [HX2.out,List.length_append];unfold wrap64;simp;omega⟩,HY2,⟨bk H1⟩,⟨bk H2⟩,⟨bk H3⟩,⟨rq HO⟩,⟨(dq HD).less (by have:=HR2.out;omega)⟩,⟨by rw [HX2.out];exact fun q hq=>(List.mem_append.1 hq).elim (HX.out q) fun h=>by rw [List.mem_singleton.1 h];exact HY.out⟩⟩
    · replace HD : Aside0 (DD w0 W g b (R+520+1) _):=⟨HD.out.less (by have:=HR1.out;omega)⟩
      try go_wp2_with (first | ((with_reducible refine gd 80 rfl ?_);refine gz (some 80) Tryz.func35 (rpick 40 (dq HD)) ?_;rintro r80 w_ ⟨Rr80,hd⟩;replace H1:=kv hd.k (bk H1) Cg1;replace H2:=kv hd.k (bk H2) Cg2;replace H3:=kv hd.k (bk H3) Cg3;replace HO:=dR (dq HD) (rq HO) hd;replace HD:=dt (dq HD) hd;clear hd;have:=Ng1g2.out;have:=Ng2g1.out;have:=Ng1g3.out;have:=Ng3g1.out;have:=Ng2g3.out;have:=Ng3g2.out;have:=Bg1.out;have:=Cg1.out;have:=Bg2.out;have:=Cg2.out;have:=Bg3.out;have:=Cg3.out;obtain ⟨_,_,_,_⟩:=zc2 H2;obtain ⟨_,_,_,_⟩:=zc2 H1;obtain ⟨Ao,co,rfl⟩:=Kd.R_slice HO.out;rcases sw1 r80 with c1 | c1))
      · go_loopg [] 42 (fun kq w'=>∃ (u:Value) (xs:List S75),Aside0 (xs.length≤40∧41≤xs.length+kq)∧TS w0 W g b nn g1 g2 g3 (R+12 * kq) w' y u xs)
        case atStart=>exact ⟨_,_,⟨by have:=HN.out;omega,by omega⟩,HY,⟨bk H1⟩,⟨bk H2⟩,⟨bk H3⟩,⟨rq HO⟩,⟨(dq HD).less⟩,HX⟩
        case round =>
          clear HY H1 H2 H3 HO HD HX HN;obtain ⟨u,xs,HN,T⟩:=hrel;obtain ⟨HY,H1,H2,H3,HO,HD,HX⟩:=T
          cases gk with
          | zero=>exact absurd HN.out (by omega)
          | succ k2 =>
            obtain ⟨Ao,co,rfl⟩:=Kd.R_slice HO.out;replace HD:Aside0 (DD w0 W g b (R+12 * k2+12) _):=⟨HD.out.less (by omega)⟩
            try go_wp2
            refine start_ (n:=7) (S:=fun w'=>w'.cell? ⟨g2,1,none⟩=some (.slice Ao xs.length co)) (ds:=[]) (bl 7 0) (by kernel_rfl) rfl rfl ((blk_cell (bk H2) 1).trans rfl) (fun hHeld=>?_);refine pu 0 82 (bl 7 1) ?_;refine pu 3 85 (bl 7 9) ?_;refine tk 1 83 (bl 7 11) ?_ hHeld;refine pu 2 84 (bl 7 15) ?_;refine oe 4 86 (bl 7 31) (fun K hK=>?_);refine gt Tryz.func35 (rpick 2 (dq HD)) ?_
            rintro r86 w_ ⟨R86,hd⟩
            replace H1:=kv hd.k (bk H1) Cg1;replace H2:=kv hd.k (bk H2) Cg2;replace H3:=kv hd.k (bk H3) Cg3;replace HO:=dR (dq HD) (rq HO) hd;replace HD:=dt (dq HD) hd;clear hd;refine hK.out _ _ ((blk_cell H2.out 1).trans rfl) (fun hHeld=>?_);clear hK K
            rcases dc ((xs.length:Int)<wrap64 (40 - r86)) with c2 | c2
            all_goals
              refine nm 86 ?_;refine pu 5 87 (bl 7 63) ?_;refine pu 6 88 (bl 7 127) ?_;refine done_ (by kernel_rfl) ?_
            · try go_wp2
              refine start_ (n:=8) (S:=fun w'=>w'.cell? ⟨g2,1,none⟩=some (.slice Ao xs.length co)) (ds:=[7]) (bl 8 0) (by kernel_rfl) rfl rfl ((blk_cell (bk H2) 1).trans rfl) (fun hHeld=>?_);refine pu 0 89 (bl 8 1) ?_;refine pu 2 91 (bl 8 5) ?_;refine tk 1 90 (bl 8 7) ?_ hHeld;refine oe 3 92 (bl 8 15) (fun K hK=>?_);refine gt Tryz.func122 (rbox (dq HD)) ?_
              rintro y2 w_ ⟨HY2,hd⟩
              replace H1:=kv hd.k (bk H1) Cg1;replace H2:=kv hd.k (bk H2) Cg2;replace H3:=kv hd.k (bk H3) Cg3;replace HO:=dR (dq HD) (rq HO) hd;replace HD:=dt (dq HD) hd;clear hd;refine hK.out _ _ ((blk_cell H2.out 1).trans rfl) (fun hHeld=>?_);clear hK K;refine nm 92 ?_;refine oe 4 93 (bl 8 31) (fun K hK=>?_);refine value_ (w1:=?_) (v:=?_) (by rfl) rfl ?_ ?_
              rotate_left 2
              · go_simp
                constructor<;>rfl
              refine hK.out _ _ ((blk_cell (blk_alloc H2.out _) 1).trans rfl) (fun hHeld=>?_);clear hK K;refine nm 93 ?_;refine oe 5 94 (bl 8 63) (fun K hK=>?_)
              refine Kd.R_append_step k75 W.heap.size (by rfl) (.tmp 90) (.tmp 93) 30 75 (.agg #[.int .i64 0, .int .i64 0, .int .i64 0, .int .i64 0, .int .i64 0, .int .i64 0]) 48 rfl Tryz.underlying30 info75 rfl (by decide) (by omega) _ xs y2 [.int .i64 y2.f0, .int .i64 y2.f1, .int .i64 y2.f2, .int .i64 y2.f3, .int .i64 y2.f4, .int .i64 y2.f5] (fun k_=>k_≠g3) (fun _=>False) rfl rfl ?aP (fun _ hk=>hk.elim) ?aF ?aO (Below.refl _ _) ?aS ?aL ?_;(case aP=>exact k75_mkM _ _ _ y2);(case aF=>exact fun k_ hk=>Kd.freshB (bk H3) k_ hk);(case aO=>exact rq HO);(case aS=>exact keep_size (dq HD).k);(case aL=>have:=HN.out;omega);intro v1 w_ ho hb hg _;obtain ⟨xs2,hxs⟩:∃ l,l=xs++[y2]:=⟨_,rfl⟩;rw [← hxs] at ho;have HX2:=ra hxs;clear hxs;obtain ⟨Av,cv,rfl⟩:=Kd.R_slice ho;replace HD:=DD.app (dq HD) (rq HO) hg hb;replace H1:=bgr (bk H1) hg (Kd.R_ne HO.out H1.out (by decide));replace H2:=bgr (bk H2) hg (Kd.R_ne HO.out H2.out (by decide));replace H3:=bgr (bk H3) hg (Kd.R_away HO.out (fun _ hk=>hk));replace HO:=ra ho;clear ho hb hg
              refine hK.out _ _ ((blk_cell H2.out 1).trans rfl) (fun hHeld=>?_);clear hK K;refine nm 94 ?_;refine pu 6 95 (bl 8 127) ?_;refine last_ (i:=7) (N:=none) (bl 8 255) rfl rfl (by kernel_rfl) (by decide) (fun K hK=>?_);obtain ⟨_,_,_,_⟩:=zc2 H2;obtain ⟨_,_,_,_,_,_,_,_,_,_,_,_⟩:=zc6 H3;refine skip_ (w1:=?_) (by rfl) rfl ?_ ?_;rotate_left
              · go_simp
                rfl
              refine hK.out _ _ ?_;clear hK K;refine done_ (by kernel_rfl) ?_
              try go_wp2
              go_roundg k2
              case measure=>have:=HN.out;omega
              case rel=>exact ⟨.slice Av xs2.length cv,xs2,⟨by have h1:=of_decide_eq_true c2;have:=HN.out;have:=R86.out;rw [HX2.out,List.length_append,List.length_singleton];unfold wrap64 at h1;omega⟩,HY,⟨bk H1⟩,⟨bp H2⟩,⟨bk H3⟩,⟨(Kd.R_mono (rf (Kd.R_types HO.out H2.out (by decide))) (fun _ hk=>hk.1))⟩,⟨(dq HD).less⟩,⟨by rw [HX2.out];exact fun q hq=>(List.mem_append.1 hq).elim (HX.out q) fun h=>by rw [List.mem_singleton.1 h];exact HY2.out⟩⟩
            · have:=Ng1g2.out;have:=Ng2g1.out;have:=Ng1g3.out;have:=Ng3g1.out;have:=Ng2g3.out;have:=Ng3g2.out;have:=Bg1.out;have:=Cg1.out;have:=Bg2.out;have:=Cg2.out;have:=Bg3.out;have:=Cg3.out;obtain ⟨_,_,_,_⟩:=zc2 H2;obtain ⟨_,_,_,_⟩:=zc2 H1
              try go_wp2
              refine bodyPost_ret (results_cell_row rfl _ _ g1 32 #[.string nn, .slice Ao xs.length co] (0,0) _ rfl (bp H1) Tryz.underlying32 rfl (by kernel_rfl)) rfl ?_;exact ⟨⟨_,xs⟩,rfl,⟨HX.out,show xs.length≤100 by have:=HN.out;omega⟩,Kd.R_mono (rf (Kd.R_types HO.out H1.out (by decide))) (fun _ _=>trivial),(dq HD).less⟩
      · refine bodyPost_ret (results_cell_row rfl _ _ g1 32 #[.string nn, .slice Ao xs.length co] (0,0) _ rfl (bp H1) Tryz.underlying32 rfl (by kernel_rfl)) rfl ?_;exact ⟨⟨_,xs⟩,rfl,⟨HX.out,show xs.length≤100 by have:=HN.out;omega⟩,Kd.R_mono (rf (Kd.R_types HO.out H1.out (by decide))) (fun _ _=>trivial),(dq HD).less⟩
end Go.Proofs.YtgklmafdbgnohaaGreat.PA
end
section
namespace Go.Proofs.YtgklmafdbgnohaaGreat.PA
open Go.RowKit Go.Proofs.YtgklmafdbgnohaaGreatW.PrintWords Go.Proofs.YtgklmafdbgnohaaGreatW.PrintLast Go.Proofs.YtgklmafdbgnohaaGreatW.PrintMore Go.Proofs.YtgklmafdbgnohaaGreat.Z
attribute [local go_sem] max2_int min2_int max_two min_two max_three min_three max_four min_four
set_option maxHeartbeats 8000000
set_option maxRecDepth 100000
def spec_ProbeSkyOk.T6:Bool × List (List Nat × List Nat):=(true,[([],[]),([],[]),([0,1],[0,1]),([2],[2]),([3],[3]),([4],[4]),([5,4],[5]),([6],[6]),([7,6],[6,7]),([8,6,6],[6,8]),([9],[9]),([9],[9]),([11,9],[9,11]),([10,12,9],[9,10,12]),([13,9],[9,13]),([14,9],[9,14]),([9],[9]),([9],[9]),([16,17,9],[9,16,17]),([18,9],[9,18]),([19,9],[9,19]),([15,20,9],[9,15,20]),([9,21,6],[6,9,21]),([6,22],[6,22])])
def spec_ProbeSkyOk.B6:List Nat:=[0,0,3,7,15,31,63,127,255,511,1023,1023,3071,8191,16383,32767,1023,1023,197631,459775,984063,2097151,4194303,8388607]
theorem spec_ProbeSkyOk.tab6:rtab .any (opsOf Tryz.f45 6)=spec_ProbeSkyOk.T6:=by kernel_rfl
theorem spec_ProbeSkyOk.bits6:waitsOk spec_ProbeSkyOk.T6.2 spec_ProbeSkyOk.B6=true:=by kernel_rfl
theorem spec_ProbeSkyOk.calls (k:Nat) (A0:Option Addr) (c0:Nat) (l0:List (S32)) (r:Bool) (w:World) (hr0:Kd.C k32 w A0 l0.length l0) (hc0:l0.length≤c0) (h:spec_ProbeSkyOk.f k l0=some r) :
  Calls Tryz.prog 45 #[.slice A0 l0.length c0] w fun e w'=>e = .returned (.bool r)∧Below w.heap.size w w':=by
 have Z0:=Tryz.underlying32;have Z1:=ra hr0;have Z2:=ra hc0;clear hr0 hc0;have HB:=ra (Below.refl w.heap.size w);have H:=h;unfold spec_ProbeSkyOk.f at H;clear h
 rcases sd H with ⟨Z3,Z4,H⟩ | ⟨Z3,Z4,H⟩
 ·have Z5:decide (24<l0.length)=true:=decide_eq_true (by omega);clear Z3;obtain rfl:=Option.some.inj H
  go_enter Tryz.func45,Tryz.ntmps45
  go_wp2;go_ret
  exact ⟨re,bq⟩
 ·have Z5 : decide (24<l0.length)=false:=decide_eq_false (by omega);clear Z3;have H':=ra H;clear H
  go_enter Tryz.func45,Tryz.ntmps45
  go_wp2
  go_loopg [3] k (fun kq v3 w'=>∃ (x3_1:Int),v3 = .int .i64 x3_1∧Aside0 (spec_ProbeSkyOk.l0 kq l0 x3_1=some r)∧Aside0 (kq≤k)∧Aside0 (Below w.heap.size w w'))
  case atStart=>exact ⟨_,rs,H',⟨Nat.le_refl _⟩,⟨bq⟩⟩
  case round =>
   clear H'
   try clear Z3
   try clear Z4
   try clear Z5
   obtain ⟨Z6,rfl,HA,Z7,HB⟩:=hrel
   cases gk with
   | zero=>exact absurd HA.out (by simp [spec_ProbeSkyOk.l0])
   | succ Z8 =>
    have H:=HA.out;clear HA;simp only [spec_ProbeSkyOk.l0] at H
    rcases td H with ⟨Z9,H⟩ | ⟨Z9,H⟩
    ·obtain ⟨Z10,H⟩:=tn H;obtain ⟨Z11,Z12,H⟩:=bo H
     rcases ud H with ⟨rfl,Z13⟩ | ⟨rfl,Z13⟩<;>have H:=Z13
     ·rcases td H with ⟨Z14,H⟩ | ⟨Z14,H⟩
      ·obtain ⟨Z15,Z16⟩:∃ j_:Int,(wrap64 (Z6 - 1))=j_:=⟨_,rfl⟩;replace H:(if 0≤(Z15) then (if (Z15)<(l0.length:Int) then (if ((Op.bytesLess (((rd_T32 l0 (Z15)).f0).toList) (((rd_T32 l0 Z6).f0).toList))=true) then (spec_ProbeSkyOk.l0 Z8 l0 (wrap64 (Z6+1))) else (some false)) else (none)) else (none))=some r:=by first | (rw [Z16] at H;exact H) | (simp only [Z16] at H ⊢;exact H)
       (try rw [Z16] at Z12)
       have Z17:(IntKind.i64.wrap (Z6 - 1))=Z15:=(i64_w _).trans Z16;obtain ⟨Z18,H⟩:=tn H;obtain ⟨Z19,H⟩:=tn H;by_cases Z20:((Op.bytesLess (((rd_T32 l0 (Z15)).f0).toList) (((rd_T32 l0 Z6).f0).toList))=true)
       ·rw [if_pos Z20] at H;have Z21:(Op.bytesLess (((rd_T32 l0 (Z15)).f0).toList) (((rd_T32 l0 Z6).f0).toList))=true:=Z20;clear Z20;have H':=ra H;clear H
        try go_wp2
        have _:=ra (below_drew1 HB.out);clear HB
        rename_i HB
        have Z22:0≤(Z6:Int):=od;have Z23:Z6<(l0.length:Int):=od;obtain ⟨Z24,Z25,Z26,Z27,Z28,Z29,Z30,Z31⟩:=at_T32 Z1.out Z6 Z22 Z23;have Z32:=Z29;have Z33:=Z28;cases Z27
        replace Z28:=hc HB Z28;replace Z29:=hc HB Z29;have Z34:=ra Z31;have Z35:=ra Z30;clear Z31 Z30;replace Z22:=eq_true Z22;replace Z23:=eq_true Z23;have Z36:0≤((Z15):Int):=od;have Z37:(Z15)<(l0.length:Int):=od;obtain ⟨Z38,Z39,Z40,Z41,Z42,Z43,Z44,Z45⟩:=at_T32 Z1.out (Z15) Z36 Z37;have Z46:=Z43;have Z47:=Z42;obtain rfl:Z24=Z38:=(by injection Z41);replace Z42:=hc HB Z42;replace Z43:=hc HB Z43;have Z48:=ra Z45;have Z49:=ra Z44;clear Z45 Z44;replace Z36:=eq_true Z36;replace Z37:=eq_true Z37;have Z50:0≤(Z6:Int):=od;have Z51:Z6<(l0.length:Int):=od;obtain ⟨Z52,Z53,Z54,Z55,Z56,Z57,Z58,Z59⟩:=at_T32 Z1.out Z6 Z50 Z51;have Z60:=Z57;have Z61:=Z56;obtain rfl:Z24=Z52:=(by injection Z55);replace Z56:=hc HB Z56;replace Z57:=hc HB Z57;have Z62:=ra Z59;have Z63:=ra Z58;clear Z59 Z58;replace Z50:=eq_true Z50;replace Z51:=eq_true Z51
        refine start_ (n:=24) (S:=fun w'=>w'.cell? (Z24.add ((Z6).toNat * 2))=some (.string ((rd_T32 l0 Z6).f0))∧w'.cell? ⟨(Z24.add ((Z6).toNat * 2)).block,(Z24.add ((Z6).toNat * 2)).off+1,none⟩=some (.slice Z25 ((rd_T32 l0 Z6).f1).length Z26)∧w'.cell? (Z24.add (((Z15)).toNat * 2))=some (.string ((rd_T32 l0 (Z15)).f0))∧w'.cell? ⟨(Z24.add (((Z15)).toNat * 2)).block,(Z24.add (((Z15)).toNat * 2)).off+1,none⟩=some (.slice Z39 ((rd_T32 l0 (Z15)).f1).length Z40)∧w'.cell? (Z24.add ((Z6).toNat * 2))=some (.string ((rd_T32 l0 Z6).f0))∧w'.cell? ⟨(Z24.add ((Z6).toNat * 2)).block,(Z24.add ((Z6).toNat * 2)).off+1,none⟩=some (.slice Z53 ((rd_T32 l0 Z6).f1).length Z54)) (ds:=[]) (bl 24 0) (by kernel_rfl) rfl rfl ⟨(hc HB Z33),(hc HB Z32),(hc HB Z47),(hc HB Z46),(hc HB Z61),(hc HB Z60)⟩ (fun hHeld=>?_);refine with_tabW spec_ProbeSkyOk.tab6 spec_ProbeSkyOk.bits6 (fun HT_ HW_=>?_)
        generalize wr.drew=Z64 at HB Z34 Z48 Z62 Z28 Z29 Z42 Z43 Z56 Z57 hHeld ⊢
        refine pu 0 13 (bl 24 1) ?_;refine pu 1 14 (bl 24 3) ?_;refine pu 2 15 (bl 24 7) ?_;refine tk 3 16 (bl 24 15) ?_ hHeld;refine oe 4 17 (bl 24 31) (fun K hK=>?_);refine gs Tryz.func17 #[.agg #[.string ((rd_T32 l0 Z6).f0), .slice Z25 ((rd_T32 l0 Z6).f1).length Z26]] ?_
        with_reducible refine (spec_ProbeTubeOk.calls Z8 ((rd_T32 l0 Z6).f0) _ _ ((rd_T32 l0 Z6).f1) true _ ?side1 ?side2 Z12.out).mono ?_
        (case side1=>exact sc Z34)
        (case side2=>exact Z35.out)
        rintro e Z65 ⟨rfl,hb⟩
        refine ⟨_,rfl,?_⟩;have _:=bs hb;clear HB
        rename_i HB
        (try clear hb)
        refine hK.out _ _ ⟨(hc HB Z33),(hc HB Z32),(hc HB Z47),(hc HB Z46),(hc HB Z61),(hc HB Z60)⟩ (fun hHeld=>?_);clear hK K;refine nm 17 ?_;refine pu 5 18 (bl 24 63) ?_;refine pu 6 19 (bl 24 127) ?_;refine pu 7 20 (bl 24 255) ?_;refine pu 8 21 (bl 24 511) ?_;refine pu 9 22 (bl 24 1023) ?_;refine pu 10 23 (bl 24 2047) ?_;refine pu 11 24 (bl 24 4095) ?_;refine pu 12 25 (bl 24 8191) ?_;refine pu 13 26 (bl 24 16383) ?_;refine pu 14 27 (bl 24 32767) ?_;refine pu 16 29 (bl 24 98303) ?_;refine pu 17 30 (bl 24 229375) ?_;refine pu 18 31 (bl 24 491519) ?_;refine pu 19 32 (bl 24 1015807) ?_;refine tk 15 28 (bl 24 1048575) ?_ hHeld;refine tk 20 33 (bl 24 2097151) ?_ hHeld;refine pu 21 34 (bl 24 4194303) ?_;refine pu 22 35 (bl 24 8388607) ?_;refine pu 23 36 (bl 24 16777215) ?_;refine done_ (done_of HT_.out (by kernel_rfl)) ?_
        try go_wp2
        go_roundg Z8
        case measure=>have:=Z7.out;omega
        case rel=>exact ⟨_,rs,H',⟨by have:=Z7.out;omega⟩,⟨bq⟩⟩
       ·rw [if_neg Z20] at H;have Z21:(Op.bytesLess (((rd_T32 l0 (Z15)).f0).toList) (((rd_T32 l0 Z6).f0).toList))=false:=by simpa using Z20
        clear Z20;obtain rfl:=Option.some.inj H
        try go_wp2
        have _:=ra (below_drew1 HB.out);clear HB
        rename_i HB
        have Z22:0≤(Z6:Int):=od;have Z23:Z6<(l0.length:Int):=od;obtain ⟨Z24,Z25,Z26,Z27,Z28,Z29,Z30,Z31⟩:=at_T32 Z1.out Z6 Z22 Z23;have Z32:=Z29;have Z33:=Z28;cases Z27
        replace Z28:=hc HB Z28;replace Z29:=hc HB Z29;have Z34:=ra Z31;have Z35:=ra Z30;clear Z31 Z30;replace Z22:=eq_true Z22;replace Z23:=eq_true Z23;have Z36:0≤((Z15):Int):=od;have Z37:(Z15)<(l0.length:Int):=od;obtain ⟨Z38,Z39,Z40,Z41,Z42,Z43,Z44,Z45⟩:=at_T32 Z1.out (Z15) Z36 Z37;have Z46:=Z43;have Z47:=Z42;obtain rfl:Z24=Z38:=(by injection Z41);replace Z42:=hc HB Z42;replace Z43:=hc HB Z43;have Z48:=ra Z45;have Z49:=ra Z44;clear Z45 Z44;replace Z36:=eq_true Z36;replace Z37:=eq_true Z37;have Z50:0≤(Z6:Int):=od;have Z51:Z6<(l0.length:Int):=od;obtain ⟨Z52,Z53,Z54,Z55,Z56,Z57,Z58,Z59⟩:=at_T32 Z1.out Z6 Z50 Z51;have Z60:=Z57;have Z61:=Z56;obtain rfl:Z24=Z52:=(by injection Z55);replace Z56:=hc HB Z56;replace Z57:=hc HB Z57;have Z62:=ra Z59;have Z63:=ra Z58;clear Z59 Z58;replace Z50:=eq_true Z50;replace Z51:=eq_true Z51
        refine start_ (n:=24) (S:=fun w'=>w'.cell? (Z24.add ((Z6).toNat * 2))=some (.string ((rd_T32 l0 Z6).f0))∧w'.cell? ⟨(Z24.add ((Z6).toNat * 2)).block,(Z24.add ((Z6).toNat * 2)).off+1,none⟩=some (.slice Z25 ((rd_T32 l0 Z6).f1).length Z26)∧w'.cell? (Z24.add (((Z15)).toNat * 2))=some (.string ((rd_T32 l0 (Z15)).f0))∧w'.cell? ⟨(Z24.add (((Z15)).toNat * 2)).block,(Z24.add (((Z15)).toNat * 2)).off+1,none⟩=some (.slice Z39 ((rd_T32 l0 (Z15)).f1).length Z40)∧w'.cell? (Z24.add ((Z6).toNat * 2))=some (.string ((rd_T32 l0 Z6).f0))∧w'.cell? ⟨(Z24.add ((Z6).toNat * 2)).block,(Z24.add ((Z6).toNat * 2)).off+1,none⟩=some (.slice Z53 ((rd_T32 l0 Z6).f1).length Z54)) (ds:=[]) (bl 24 0) (by kernel_rfl) rfl rfl ⟨(hc HB Z33),(hc HB Z32),(hc HB Z47),(hc HB Z46),(hc HB Z61),(hc HB Z60)⟩ (fun hHeld=>?_);refine with_tabW spec_ProbeSkyOk.tab6 spec_ProbeSkyOk.bits6 (fun HT_ HW_=>?_)
        generalize wr.drew=Z64 at HB Z34 Z48 Z62 Z28 Z29 Z42 Z43 Z56 Z57 hHeld ⊢
        refine pu 0 13 (bl 24 1) ?_;refine pu 1 14 (bl 24 3) ?_;refine pu 2 15 (bl 24 7) ?_;refine tk 3 16 (bl 24 15) ?_ hHeld;refine oe 4 17 (bl 24 31) (fun K hK=>?_);refine gs Tryz.func17 #[.agg #[.string ((rd_T32 l0 Z6).f0), .slice Z25 ((rd_T32 l0 Z6).f1).length Z26]] ?_
        with_reducible refine (spec_ProbeTubeOk.calls Z8 ((rd_T32 l0 Z6).f0) _ _ ((rd_T32 l0 Z6).f1) true _ ?side1 ?side2 Z12.out).mono ?_
        (case side1=>exact sc Z34)
        (case side2=>exact Z35.out)
        rintro e Z65 ⟨rfl,hb⟩
        refine ⟨_,rfl,?_⟩;have _:=bs hb;clear HB
        rename_i HB
        (try clear hb)
        refine hK.out _ _ ⟨(hc HB Z33),(hc HB Z32),(hc HB Z47),(hc HB Z46),(hc HB Z61),(hc HB Z60)⟩ (fun hHeld=>?_);clear hK K;refine nm 17 ?_;refine pu 5 18 (bl 24 63) ?_;refine pu 6 19 (bl 24 127) ?_;refine pu 7 20 (bl 24 255) ?_;refine pu 8 21 (bl 24 511) ?_;refine pu 9 22 (bl 24 1023) ?_;refine pu 10 23 (bl 24 2047) ?_;refine pu 11 24 (bl 24 4095) ?_;refine pu 12 25 (bl 24 8191) ?_;refine pu 13 26 (bl 24 16383) ?_;refine pu 14 27 (bl 24 32767) ?_;refine pu 16 29 (bl 24 98303) ?_;refine pu 17 30 (bl 24 229375) ?_;refine pu 18 31 (bl 24 491519) ?_;refine pu 19 32 (bl 24 1015807) ?_;refine tk 15 28 (bl 24 1048575) ?_ hHeld;refine tk 20 33 (bl 24 2097151) ?_ hHeld;refine pu 21 34 (bl 24 4194303) ?_;refine pu 22 35 (bl 24 8388607) ?_;refine pu 23 36 (bl 24 16777215) ?_;refine done_ (done_of HT_.out (by kernel_rfl)) ?_
        try go_wp2
        go_ret
        exact ⟨by first | rfl | (simp [errW_none,errW_some]<;>rfl) | (simp only [← Z16];first | rfl | (simp [errW_none,errW_some]<;>rfl)) | (simp [*,errW_none,errW_some]<;>rfl),bq⟩
      ·have H':=ra H;clear H
       try go_wp2
       have _:=ra (below_drew1 HB.out);clear HB
       rename_i HB
       have Z15:0≤(Z6:Int):=od;have Z16:Z6<(l0.length:Int):=od;obtain ⟨Z17,Z18,Z19,Z20,Z21,Z22,Z23,Z24⟩:=at_T32 Z1.out Z6 Z15 Z16;have Z25:=Z22;have Z26:=Z21;cases Z20
       replace Z21:=hc HB Z21;replace Z22:=hc HB Z22;have Z27:=ra Z24;have Z28:=ra Z23;clear Z24 Z23;replace Z15:=eq_true Z15;replace Z16:=eq_true Z16;refine start_ (n:=24) (S:=fun w'=>w'.cell? (Z17.add ((Z6).toNat * 2))=some (.string ((rd_T32 l0 Z6).f0))∧w'.cell? ⟨(Z17.add ((Z6).toNat * 2)).block,(Z17.add ((Z6).toNat * 2)).off+1,none⟩=some (.slice Z18 ((rd_T32 l0 Z6).f1).length Z19)) (ds:=[]) (bl 24 0) (by kernel_rfl) rfl rfl ⟨(hc HB Z26),(hc HB Z25)⟩ (fun hHeld=>?_);refine with_tabW spec_ProbeSkyOk.tab6 spec_ProbeSkyOk.bits6 (fun HT_ HW_=>?_)
       generalize wr.drew=Z29 at HB Z27 Z21 Z22 hHeld ⊢
       refine pu 0 13 (bl 24 1) ?_;refine pu 1 14 (bl 24 3) ?_;refine pu 2 15 (bl 24 7) ?_;refine tk 3 16 (bl 24 15) ?_ hHeld;refine oe 4 17 (bl 24 31) (fun K hK=>?_);refine gs Tryz.func17 #[.agg #[.string ((rd_T32 l0 Z6).f0), .slice Z18 ((rd_T32 l0 Z6).f1).length Z19]] ?_
       with_reducible refine (spec_ProbeTubeOk.calls Z8 ((rd_T32 l0 Z6).f0) _ _ ((rd_T32 l0 Z6).f1) true _ ?side1 ?side2 Z12.out).mono ?_
       (case side1=>exact sc Z27)
       (case side2=>exact Z28.out)
       rintro e Z30 ⟨rfl,hb⟩
       refine ⟨_,rfl,?_⟩;have _:=bs hb;clear HB
       rename_i HB
       (try clear hb)
       refine hK.out _ _ ⟨(hc HB Z26),(hc HB Z25)⟩ (fun hHeld=>?_);clear hK K;refine nm 17 ?_;refine pu 5 18 (bl 24 63) ?_;refine pu 6 19 (bl 24 127) ?_;refine pu 7 20 (bl 24 255) ?_;refine pu 8 21 (bl 24 511) ?_;refine pu 9 22 (bl 24 1023) ?_;refine pv 10 23 (bl 24 2047) ?_;refine pv 11 24 (bl 24 4095) ?_;refine pv 12 25 (bl 24 8191) ?_;refine pv 13 26 (bl 24 16383) ?_;refine pv 14 27 (bl 24 32767) ?_;refine pv 15 28 (bl 24 65535) ?_;refine pv 16 29 (bl 24 131071) ?_;refine pv 17 30 (bl 24 262143) ?_;refine pv 18 31 (bl 24 524287) ?_;refine pv 19 32 (bl 24 1048575) ?_;refine pv 20 33 (bl 24 2097151) ?_;refine pv 21 34 (bl 24 4194303) ?_;refine pu 22 35 (bl 24 8388607) ?_;refine pu 23 36 (bl 24 16777215) ?_;refine done_ (done_of HT_.out (by kernel_rfl)) ?_
       try go_wp2
       go_roundg Z8
       case measure=>have:=Z7.out;omega
       case rel=>exact ⟨_,rs,H',⟨by have:=Z7.out;omega⟩,⟨bq⟩⟩
     ·obtain rfl:=Option.some.inj H
      try go_wp2
      have _:=ra (below_drew1 HB.out);clear HB
      rename_i HB
      have Z14:0≤(Z6:Int):=od;have Z15:Z6<(l0.length:Int):=od;obtain ⟨Z16,Z17,Z18,Z19,Z20,Z21,Z22,Z23⟩:=at_T32 Z1.out Z6 Z14 Z15;have Z24:=Z21;have Z25:=Z20;cases Z19
      replace Z20:=hc HB Z20;replace Z21:=hc HB Z21;have Z26:=ra Z23;have Z27:=ra Z22;clear Z23 Z22;replace Z14:=eq_true Z14;replace Z15:=eq_true Z15;refine start_ (n:=24) (S:=fun w'=>w'.cell? (Z16.add ((Z6).toNat * 2))=some (.string ((rd_T32 l0 Z6).f0))∧w'.cell? ⟨(Z16.add ((Z6).toNat * 2)).block,(Z16.add ((Z6).toNat * 2)).off+1,none⟩=some (.slice Z17 ((rd_T32 l0 Z6).f1).length Z18)) (ds:=[]) (bl 24 0) (by kernel_rfl) rfl rfl ⟨(hc HB Z25),(hc HB Z24)⟩ (fun hHeld=>?_);refine with_tabW spec_ProbeSkyOk.tab6 spec_ProbeSkyOk.bits6 (fun HT_ HW_=>?_)
      generalize wr.drew=Z28 at HB Z26 Z20 Z21 hHeld ⊢
      refine pu 0 13 (bl 24 1) ?_;refine pu 1 14 (bl 24 3) ?_;refine pu 2 15 (bl 24 7) ?_;refine tk 3 16 (bl 24 15) ?_ hHeld;refine oe 4 17 (bl 24 31) (fun K hK=>?_);refine gs Tryz.func17 #[.agg #[.string ((rd_T32 l0 Z6).f0), .slice Z17 ((rd_T32 l0 Z6).f1).length Z18]] ?_
      with_reducible refine (spec_ProbeTubeOk.calls Z8 ((rd_T32 l0 Z6).f0) _ _ ((rd_T32 l0 Z6).f1) false _ ?side1 ?side2 Z12.out).mono ?_
      (case side1=>exact sc Z26)
      (case side2=>exact Z27.out)
      rintro e Z29 ⟨rfl,hb⟩
      refine ⟨_,rfl,?_⟩;have _:=bs hb;clear HB
      rename_i HB
      (try clear hb)
      refine hK.out _ _ ⟨(hc HB Z25),(hc HB Z24)⟩ (fun hHeld=>?_);clear hK K;refine nm 17 ?_;refine pu 5 18 (bl 24 63) ?_;refine pu 6 19 (bl 24 127) ?_;refine pv 7 20 (bl 24 255) ?_;refine pv 8 21 (bl 24 511) ?_;refine pv 9 22 (bl 24 1023) ?_;refine pv 10 23 (bl 24 2047) ?_;refine pv 11 24 (bl 24 4095) ?_;refine pv 12 25 (bl 24 8191) ?_;refine pv 13 26 (bl 24 16383) ?_;refine pv 14 27 (bl 24 32767) ?_;refine pv 15 28 (bl 24 65535) ?_;refine pv 16 29 (bl 24 131071) ?_;refine pv 17 30 (bl 24 262143) ?_;refine pv 18 31 (bl 24 524287) ?_;refine pv 19 32 (bl 24 1048575) ?_;refine pv 20 33 (bl 24 2097151) ?_;refine pv 21 34 (bl 24 4194303) ?_;refine pv 22 35 (bl 24 8388607) ?_;refine pu 23 36 (bl 24 16777215) ?_;refine done_ (done_of HT_.out (by kernel_rfl)) ?_
      try go_wp2
      go_ret
      exact ⟨re,bq⟩
    ·obtain rfl:=Option.some.inj H;go_wp2;go_ret
     exact ⟨re,bq⟩
def spec_l2Copy.T1:Bool × List (List Nat × List Nat):=(true,[([],[]),([0],[0]),([],[]),([],[]),([3],[3]),([2,4],[2,4]),([1,5],[1,5]),([6,5,0,1,2,3,4,5,6],[6])])
def spec_l2Copy.B1:List Nat:=[0,1,0,0,8,28,63,127]
theorem spec_l2Copy.tab1:rtab .any (opsOf Tryz.f77 1)=spec_l2Copy.T1:=by kernel_rfl
theorem spec_l2Copy.bits1:waitsOk spec_l2Copy.T1.2 spec_l2Copy.B1=true:=by kernel_rfl
theorem spec_l2Copy.calls (a0_0:ByteArray) (A0_1:Option Addr) (c0_1:Nat) (l0_1:List (S75)) (r1:ByteArray) (r2:List (S75)) (w:World) (hr0_1:Kd.C k75 w A0_1 l0_1.length l0_1) (hc0_1:l0_1.length≤c0_1) (h:spec_l2Copy.f a0_0 l0_1=some (r1,r2)) :
  Calls Tryz.prog 77 #[.agg #[.string a0_0, .slice A0_1 l0_1.length c0_1]] w fun e w'=>∃ v1_:Value,e = .returned (.agg #[.string r1,v1_])∧Kd.R k75 75 w' w.heap.size (fun _=>True) v1_ r2∧Below w.heap.size w w':=by
 have Z0:=Tryz.underlying32;have Z1:=ra hr0_1;have Z2:=ra hc0_1;clear hr0_1 hc0_1;have HB:=ra (Below.refl w.heap.size w);have H:=h;unfold spec_l2Copy.f at H;clear h;obtain ⟨Z3,hy_⟩:∃ y_:List (S75),y_=(([]:List (S75))):=⟨_,rfl⟩;replace H:(if Z3.length+l0_1.length<2932031007402 then (some (a0_0,(Z3++l0_1))) else (none))=some (r1,r2):=yh;have Z4:=ra hy_;clear hy_;by_cases Z5:Z3.length+l0_1.length<2932031007402
 ·rw [if_pos Z5] at H;have Z6:=ra Z5;clear Z5;obtain ⟨Z7,hy_⟩:∃ y_:List (S75),y_=(Z3++l0_1):=⟨_,rfl⟩;replace H:(some (a0_0,Z7))=some (r1,r2):=yh;have Z8:=ra hy_;clear hy_;simp only [Option.some.injEq,Prod.mk.injEq] at H;obtain ⟨rfl,rfl⟩:=H
  go_enter Tryz.func77,Tryz.ntmps77
  try go_wp2_with (first | ((with_reducible refine gd 1 rfl ?_);refine bd 1 #[.string a0_0, .slice A0_1 l0_1.length c0_1] 32 ?_;intro Z9 Z10 HB Z11 Z12) | ((with_reducible refine gd 2 rfl ?_);refine bf 2 #[.string (⟨#[]⟩:ByteArray), .slice none 0 0] 32 ?_;intro Z13 Z14 hg hb HB Z15 Z16;have Z17:=bn hg (bk Z11);have Z18:=bm hg (bk Z11);replace Z11:=bb (bk Z11) hb;clear hg hb))
  have _:=ra (blk_drew Z11.out);have _:=ra (blk_drew Z15.out);have _:=ra (below_drew1 HB.out);clear Z11 Z15 HB
  rename_i Z11 Z15 HB
  refine start_ (n:=8) (S:=fun w'=>w'.cell? ⟨Z9,0,none⟩=some (.string a0_0)∧w'.cell? ⟨Z9,1,none⟩=some (.slice A0_1 l0_1.length c0_1)) (ds:=[]) (bl 8 0) (by kernel_rfl) rfl rfl ⟨(blk_cell Z11.out 0).trans rfl,(blk_cell Z11.out 1).trans rfl⟩ (fun hHeld=>?_);refine with_tabW spec_l2Copy.tab1 spec_l2Copy.bits1 (fun HT_ HW_=>?_)
  generalize Z14.drew=Z19 at Z11 Z15 HB hHeld ⊢
  refine pu 0 3 (bl 8 1) ?_;refine pu 3 6 (bl 8 9) ?_;refine tk 1 4 (bl 8 11) ?_ hHeld;refine tk 4 7 (bl 8 27) ?_ hHeld;refine oe 2 5 (bl 8 31) (fun K hK=>?_);refine Kd.R_lit_step k75 _ 75 ?hg (N:=5) ?hd (xs:=([]:List (S75))) (inner:=[]) (ok:=fun _=>True) (okp:=fun _=>True) ?hr ?hp (fun _ hk=>hk) trivial (Below.refl _ _) (Nat.le_refl _) (by simp) ?_;(case hd=>rfl);(case hg=>rfl);(case hr=>first | (go_simp;done) | (go_simp;rfl));(case hp=>exact (Reps.none _ _));intro Z20 Z21 Z22 hb hg_ hnew_;clear hg_ hnew_
  (first | rw [← Z4.out] at Z22 | (simp only [Int.reduceToNat] at Z22;rw [← Z4.out] at Z22))
  have _:=ra (Kd.R_lower Z22 (below_size bq));have _:=bb (bk Z11) hb;have _:=bb (bk Z15) hb;have _:=bs hb;clear Z11 Z15 HB
  rename_i Z23 Z11 Z15 HB
  clear hb Z22;refine hK.out _ _ ⟨(blk_cell Z11.out 0).trans rfl,(blk_cell Z11.out 1).trans rfl⟩ (fun hHeld=>?_);clear hK K;refine nm 5 ?_;refine oe 5 8 (bl 8 63) (fun K hK=>?_);refine Kd.R_append_rows_step k75 (w0:=w) w.heap.size (by rfl) (.tmp 5) (.tmp 7) 30 75 (.agg #[(.int .i64 0),(.int .i64 0),(.int .i64 0),(.int .i64 0),(.int .i64 0),(.int .i64 0)]) 48 rfl Tryz.underlying30 info75 rfl (by decide) (by omega) Z20 Z3 l0_1 _ _ _ (fun _=>True) (fun _=>False) rfl rfl ?aO ?aR (fun _ _ h=>h) (fun _ h=>h.elim) ?aF ?aB ?aS ?aL ?_
  (case aR=>exact sc Z1)
  (case aB=>exact bq)
  (case aF=>exact (fun _ _=>trivial))
  (case aO=>exact (rq Z23))
  (case aS=>exact (below_size bq))
  (case aL=>have:=Z6.out;omega)
  intro Z24 Z25 ho hb hg hat;rw [← Z8.out] at ho;have _:=ra (blk_grown (g:=Z9) (o := .cells #[.string a0_0, .slice A0_1 l0_1.length c0_1] 32 (0,0)) (bk Z11) hg (Kd.R_ne Z23.out Z11.out (by decide)));have _:=ra (blk_grown (g:=Z13) (o := .cells #[.string (⟨#[]⟩:ByteArray), .slice none 0 0] 32 (0,0)) (bk Z15) hg (Kd.R_ne Z23.out Z15.out (by decide)));have _:=ra (hb);have _:=ra (ho);clear Z11 Z15 HB Z23
  rename_i Z11 Z15 HB Z26
  clear ho hb hg hat;obtain ⟨Z27,Z28,Z29⟩:=Kd.R_slice Z26.out
  (first | subst Z29 | (injection Z29 with f1_ f2_ f3_;have Z30:=f1_.symm;have Z31:=f3_.symm;clear f1_ f2_ f3_;subst Z30;subst Z31))
  refine hK.out _ _ ⟨(blk_cell Z11.out 0).trans rfl,(blk_cell Z11.out 1).trans rfl⟩ (fun hHeld=>?_);clear hK K;refine nm 8 ?_;refine pu 6 9 (bl 8 127) ?_;refine one_ (i:=7) (N:=none) #[true,true,true,true,true,true,true,true] rfl rfl (one_of HT_.out (by kernel_rfl)) (by decide) (fun K hK=>?_);have Z32:Z25.cell? ⟨Z13,0,none⟩=some (.string (⟨#[]⟩:ByteArray)):=(blk_cell Z15.out 0).trans rfl;have Z33:=blk_frozen Z15.out 0;have Z34:=Z17.out;have Z35:=Z18.out;have Z36:Z25.cell? ⟨Z13,1,none⟩=some (.slice none 0 0):=(blk_cell Z15.out 1).trans rfl;have Z37:=blk_frozen Z15.out 1;have Z38:=Z17.out;have Z39:=Z18.out;refine skip_ (w1:=?_) (by rfl) rfl ?_ ?_;rotate_left
  ·go_simp
   rfl
  refine hK.out _ _ ⟨cf hHeld.1,cf hHeld.2⟩ (fun hHeld=>?_);clear hK K;refine done_ (done_of HT_.out (by kernel_rfl)) ?_
  try go_wp2
  refine bodyPost_ret (results_cell_row rfl _ _ Z13 32 #[.string a0_0, .slice Z27 Z7.length Z28] (0,0) _ rfl (bp Z15) Tryz.underlying32 rfl (by kernel_rfl)) rfl ?_;exact ⟨_,re,by (with_reducible repeat (first | apply Kd.R_alloc | apply Kd.R_drewN | apply Kd.R_drew));exact Kd.R_mono (rf (Kd.R_types Z26.out Z15.out (by decide))) (fun _ hk=>trivial),bq⟩
 ·rw [if_neg Z5] at H;exact absurd H (by simp)
theorem spec_l2List.calls (k:Nat) (A0:Option Addr) (c0:Nat) (l0 r:List (S32)) (w:World) (hr0:Kd.C k32 w A0 l0.length l0) (hc0:l0.length≤c0) (h:spec_l2List.f k l0=some r) :
  Calls Tryz.prog 46 #[.slice A0 l0.length c0] w fun e w'=>∃ v0_:Value,e = .returned (v0_)∧Kd.S k32 32 w' w.heap.size (fun _=>True) v0_ r∧Below w.heap.size w w':=by
 have Z0:=Tryz.underlying32;have Z1:=ra hr0;have Z2:=ra hc0;clear hr0 hc0;have HB:=ra (Below.refl w.heap.size w);have H:=h;unfold spec_l2List.f at H;clear h;obtain ⟨Z3,hy_⟩:∃ y_:List (S32),y_=(([]:List (S32))):=⟨_,rfl⟩;replace H:(spec_l2List.l0 k l0 Z3 0)=some r:=yh;have Z4:=ra hy_;clear hy_;have H':=ra H;clear H
 go_enter Tryz.func46,Tryz.ntmps46
 go_wp2_with (first | ((with_reducible refine gd 5 rfl ?_);refine Kd.S_lit k32 _ 32 ?hg (N:=5) ?hd (xs:=([]:List (S32))) (inner:=[]) (ok:=fun _=>True) (okp:=fun _=>True) ?hr ?hp (fun _ hk=>hk) trivial (Below.refl _ _) (Nat.le_refl _) (by simp) ?_;(case hd=>rfl);(case hg=>rfl);(case hr=>first | (go_simp;done) | (go_simp;rfl));(case hp=>exact (Reps.none _ _));intro Z5 Z6 Z7 hb hg_ hnew_;clear hg_ hnew_;(first | rw [← Z4.out] at Z7 | (simp only [Int.reduceToNat] at Z7;rw [← Z4.out] at Z7));have Z8:=ra (Kd.S_lower Z7 (below_size bq));replace HB:=bs hb;clear hb Z7))
 go_loopg [3,4] k (fun kq v3 v4 w'=>∃ (x3_1:List (S32)) (x4_1:Int),v4 = .int .i64 x4_1∧Aside0 (spec_l2List.l0 kq l0 x3_1 x4_1=some r)∧Aside0 (kq≤k)∧Aside0 (Kd.S k32 32 w' w.heap.size (fun _=>True) v3 x3_1)∧Aside0 (Below w.heap.size w w'))
 case atStart=>exact ⟨(Z3),(0),rs,H',⟨Nat.le_refl _⟩,⟨by (with_reducible repeat (first | apply Kd.S_alloc | apply Kd.S_drewN | apply Kd.S_drew));exact Z8.out⟩,⟨bq⟩⟩
 case round =>
  clear H';obtain ⟨Z9,Z10,rfl,HA,Z11,Z12,HB⟩:=hrel
  cases gk with
  | zero=>exact absurd HA.out (by simp [spec_l2List.l0])
  | succ Z13 =>
   have H:=HA.out;clear HA;simp only [spec_l2List.l0] at H
   rcases td H with ⟨Z14,H⟩ | ⟨Z14,H⟩
   ·obtain ⟨Z15,H⟩:=tn H;obtain ⟨⟨Z16,Z17⟩,Z18,H⟩:=bo H
    try dsimp only at H
    by_cases Z19:Z9.length<3518437208883
    ·rw [if_pos Z19] at H;have Z20:=ra Z19;clear Z19;obtain ⟨Z21,hy_⟩:∃ y_:List (S32),y_=(Z9++[(⟨Z16,Z17⟩:S32)]):=⟨_,rfl⟩;replace H:(spec_l2List.l0 Z13 l0 Z21 (wrap64 (Z10+1)))=some r:=yh;have Z22:=ra hy_;clear hy_;have H':=ra H;clear H;have Z23:0≤(Z10:Int):=od;have Z24:Z10<(l0.length:Int):=od;obtain ⟨Z25,Z26,Z27,Z28,Z29,Z30,Z31,Z32⟩:=at_T32 Z1.out Z10 Z23 Z24;cases Z28
     replace Z29:=hc HB Z29;replace Z30:=hc HB Z30;have Z33:=ra Z32;have Z34:=ra Z31;clear Z32 Z31;replace Z23:=eq_true Z23;replace Z24:=eq_true Z24
     go_wp2_with (first | ((with_reducible refine gc 77 rfl ?_);refine gx (some 17) Tryz.func77 (spec_l2Copy.calls _ _ _ _ _ _ _ (sc Z33) Z34.out Z18.out) ?_;rintro Z35 Z36 ⟨Z37,hb⟩;have Z38:=ra (Kd.R_lower Z37 (below_size bq));replace Z12:=ra (Kd.S_elder' (by (with_reducible repeat (first | apply Kd.S_alloc | apply Kd.S_drewN | apply Kd.S_drew));exact Z12.out) (Kd.R_base Z37) hb);replace HB:=bs hb;clear hb Z37;obtain ⟨Z39,Z40,Z41⟩:=Kd.R_slice Z38.out;subst Z41) | ((with_reducible refine gate_builtin (b := .append) (xs:=#[.tmp 12, .tmp 18]) rfl ?_);at_builtin;refine Kd.S_append k32 (w0:=w) w.heap.size rfl (.tmp 12) (.tmp 18) 25 32 (.agg #[(.string ⟨#[]⟩),(.slice none 0 0)]) 40 rfl Tryz.underlying25 info32 rfl (by decide) (by omega) u3 Z9 (⟨Z16,Z17⟩:S32) [.string Z16, .slice Z39 Z17.length Z40] (fun _=>True) (fun k_=>some k_=(.slice Z39 Z17.length Z40:Value).ownBlock) rfl rfl ?aP (fun k_ hk_=>((Kd.R_mono (ok':=fun k_=>((fun _=>True)) k_∧some k_≠(u3:Value).ownBlock) (Kd.R_apart' (Z38.out) (Kd.S_typed Z12.out) (by decide)) (fun k_ hk=>⟨trivial,hk.2⟩))).1 k_ hk_.symm) ?aF ?aO ?aB ?aS ?aL ?_;(case aP=>exact k32_mkM _ _ _ (⟨Z16,Z17⟩:S32) (Kd.R_mono (Kd.R_tight rfl (Kd.R_mono (ok':=fun k_=>((fun _=>True)) k_∧some k_≠(u3:Value).ownBlock) (Kd.R_apart' (Z38.out) (Kd.S_typed Z12.out) (by decide)) (fun k_ hk=>⟨trivial,hk.2⟩))) (fun _ h_=>h_)));(case aB=>exact bq);(case aF=>exact (fun _ _=>trivial));(case aO=>exact (by (with_reducible repeat (first | apply Kd.S_alloc | apply Kd.S_drewN | apply Kd.S_drew));exact Kd.S_mono Z12.out (fun k_ hk=>⟨trivial,fun e_=>hk.2 e_⟩)));(case aS=>exact (below_size bq));(case aL=>have:=Z20.out;omega);intro Z42 Z43 ho hb hg hat;rw [← Z22.out] at ho;have _:=ra (hb);have _:=ra (ho);clear HB Z12 Z38;rename_i HB Z44;clear ho hb hg hat))
     go_roundg Z13
     case measure=>have:=Z11.out;omega
     case rel=>exact ⟨_,_,rs,H',⟨by have:=Z11.out;omega⟩,⟨by (with_reducible repeat (first | apply Kd.S_alloc | apply Kd.S_drewN | apply Kd.S_drew));exact Z44.out⟩,⟨bq⟩⟩
    ·rw [if_neg Z19] at H;exact absurd H (by simp)
   ·obtain rfl:=Option.some.inj H;go_wp2;go_ret
    exact ⟨_,re,by (with_reducible repeat (first | apply Kd.S_alloc | apply Kd.S_drewN | apply Kd.S_drew));exact Z12.out,bq⟩
theorem spec_l6At.calls (k:Nat) (A0:Option Addr) (c0:Nat) (l0:List (S32)) (a1:ByteArray) (r:Int) (w:World) (hr0:Kd.C k32 w A0 l0.length l0) (hc0:l0.length≤c0) (h:spec_l6At.f k l0 a1=some r) :
  Calls Tryz.prog 47 #[.slice A0 l0.length c0, .string a1] w fun e w'=>e = .returned (.int .i64 r)∧Drawn0 w w':=by
 have Z0:=ra hr0;have Z1:=ra hc0;clear hr0 hc0;have H:=h;unfold spec_l6At.f at H;clear h;have H':=ra H;clear H
 go_enter Tryz.func47,Tryz.ntmps47
 go_wp2
 go_loopg [5] k (fun kq v5 w'=>∃ (x5_1:Int),v5 = .int .i64 x5_1∧Aside0 (spec_l6At.l0 kq l0 a1 x5_1=some r)∧Aside0 (kq≤k)∧Drawn0 w w')
 case atStart=>exact ⟨(0),rs,H',⟨Nat.le_refl _⟩,d0⟩
 case round =>
  clear H';obtain ⟨Z2,rfl,HA,Z3,⟨Z4,rfl⟩⟩:=hrel
  cases gk with
  | zero=>exact absurd HA.out (by simp [spec_l6At.l0])
  | succ Z5 =>
   have H:=HA.out;clear HA;simp only [spec_l6At.l0] at H
   rcases td H with ⟨Z6,H⟩ | ⟨Z6,H⟩
   ·obtain ⟨Z7,H⟩:=tn H
    rcases ed H with ⟨-,Z8,Z9,H⟩ | ⟨Z10,Z8,Z9,H⟩
    ·obtain rfl:=Option.some.inj H;have Z11:0≤(Z2:Int):=od;have Z12:Z2<(l0.length:Int):=od;obtain ⟨Z13,Z14,Z15,Z16,Z17,Z18,Z19,Z20⟩:=at_T32 Z0.out Z2 Z11 Z12;cases Z16
     have Z21:=ra Z20;have Z22:=ra Z19;clear Z20 Z19;replace Z11:=eq_true Z11;replace Z12:=eq_true Z12;go_wp2;go_ret
     exact ⟨rs,d0⟩
    ·have H':=ra H;clear H;have Z11:0≤(Z2:Int):=od;have Z12:Z2<(l0.length:Int):=od;obtain ⟨Z13,Z14,Z15,Z16,Z17,Z18,Z19,Z20⟩:=at_T32 Z0.out Z2 Z11 Z12;cases Z16
     have Z21:=ra Z20;have Z22:=ra Z19;clear Z20 Z19;replace Z11:=eq_true Z11;replace Z12:=eq_true Z12;go_wp2
     go_roundg Z5
     case measure=>have:=Z3.out;omega
     case rel=>exact ⟨_,rs,H',⟨by have:=Z3.out;omega⟩,d0⟩
   ·obtain rfl:=Option.some.inj H;go_wp2;go_ret
    exact ⟨rs,d0⟩
theorem spec_ProbeHappen.calls (k:Nat) (P0_:Nat→Prop) (A0:Option Addr) (c0:Nat) (l0:List (S32)) (a1_0:Bool) (a1_1:ByteArray) (P1_2_:Nat→Prop) (A1_2:Option Addr) (c1_2:Nat) (l1_2:List (S75)) (r1:List (S32)) (r2:Int) (w:World) (hs0:Kd.V k32 32 w w.heap.size (fun k_=>P0_ k_) (.slice A0 l0.length c0) l0) (hs1_2:Kd.V k75 75 w w.heap.size (fun k_=>P1_2_ k_) (.slice A1_2 l1_2.length c1_2) l1_2) (h:spec_ProbeHappen.f k l0 a1_0 a1_1 l1_2=some (r1,r2)) :
  Calls Tryz.prog 8 #[.slice A0 l0.length c0, .agg #[.bool a1_0, .string a1_1, .slice A1_2 l1_2.length c1_2]] w fun e w'=>∃ v0_:Value,e = .returned (.tuple #[v0_, .int .i64 r2])∧Kd.S k32 32 w' w.heap.size (fun _=>True) v0_ r1∧Below w.heap.size w w':=by
 have Z0:=Tryz.underlying34;have Z1:=Tryz.underlying32;have Z2:=ra (show Kd.V k32 32 w w.heap.size (fun k_=>((P0_ k_∨P1_2_ k_)∨w.heap.size≤k_)) (.slice A0 l0.length c0) l0 from Kd.V_mono hs0 (fun k_ hk => .inl (.inl hk)));have Z3:=ra (show Kd.V k75 75 w w.heap.size (fun k_=>((P0_ k_∨P1_2_ k_)∨w.heap.size≤k_)) (.slice A1_2 l1_2.length c1_2) l1_2 from Kd.V_mono hs1_2 (fun k_ hk => .inl (.inr hk)));have HB:=ra (Below.refl w.heap.size w);have H:=h;unfold spec_ProbeHappen.f at H;clear h;obtain ⟨Z4,Z5,H⟩:=bo H
 rcases ud H with ⟨rfl,Z6⟩ | ⟨rfl,Z6⟩<;>have H:=Z6
 ·have Z7 := ra H; clear H
  go_enter Tryz.func8,Tryz.ntmps8
  go_upto_region 3 with (first | ((with_reducible refine gd 3 rfl ?_);(try (refine gate_guard (by rfl) ?_;dsimp only));refine bf 3 #[.bool a1_0, .string a1_1, .slice A1_2 l1_2.length c1_2] 34 ?_;intro Z8 Z9 hg hb HB Z10 Z11;replace Z2:=ra (Kd.V_below (Kd.V_elderB (vq Z2) Z8 (Nat.le_of_eq hg.symm)) hb);replace Z3:=ra (Kd.V_below (Kd.V_elderB (vq Z3) Z8 (Nat.le_of_eq hg.symm)) hb);clear hg hb) | (go_at_call 45;(with_reducible refine (spec_ProbeSkyOk.calls _ _ _ _ _ _ ?side1 ?side2 Z5.out).mono ?_);(case side1=>exact sv Z2);(case side2=>exact (Kd.V_reads' Z2.out).2.1);rintro e Z12 ⟨rfl,hb⟩;replace Z2:=ra (Kd.V_below (vq Z2) hb);replace Z3:=ra (Kd.V_below (vq Z3) hb);replace Z10:=bb (bk Z10) hb;replace HB:=bs hb;clear hb))
  repeat (go_quiet (first | ((with_reducible refine gd 3 rfl ?_);(try (refine gate_guard (by rfl) ?_;dsimp only));refine bf 3 #[.bool a1_0, .string a1_1, .slice A1_2 l1_2.length c1_2] 34 ?_;intro Z8 Z9 hg hb HB Z10 Z11;replace Z2:=ra (Kd.V_below (Kd.V_elderB (vq Z2) Z8 (Nat.le_of_eq hg.symm)) hb);replace Z3:=ra (Kd.V_below (Kd.V_elderB (vq Z3) Z8 (Nat.le_of_eq hg.symm)) hb);clear hg hb) | (go_at_call 45;(with_reducible refine (spec_ProbeSkyOk.calls _ _ _ _ _ _ ?side1 ?side2 Z5.out).mono ?_);(case side1=>exact sv Z2);(case side2=>exact (Kd.V_reads' Z2.out).2.1);rintro e Z12 ⟨rfl,hb⟩;replace Z2:=ra (Kd.V_below (vq Z2) hb);replace Z3:=ra (Kd.V_below (vq Z3) hb);replace Z10:=bb (bk Z10) hb;replace HB:=bs hb;clear hb));go_upto_region 3 with (first | ((with_reducible refine gd 3 rfl ?_);(try (refine gate_guard (by rfl) ?_;dsimp only));refine bf 3 #[.bool a1_0, .string a1_1, .slice A1_2 l1_2.length c1_2] 34 ?_;intro Z8 Z9 hg hb HB Z10 Z11;replace Z2:=ra (Kd.V_below (Kd.V_elderB (vq Z2) Z8 (Nat.le_of_eq hg.symm)) hb);replace Z3:=ra (Kd.V_below (Kd.V_elderB (vq Z3) Z8 (Nat.le_of_eq hg.symm)) hb);clear hg hb) | (go_at_call 45;(with_reducible refine (spec_ProbeSkyOk.calls _ _ _ _ _ _ ?side1 ?side2 Z5.out).mono ?_);(case side1=>exact sv Z2);(case side2=>exact (Kd.V_reads' Z2.out).2.1);rintro e Z12 ⟨rfl,hb⟩;replace Z2:=ra (Kd.V_below (vq Z2) hb);replace Z3:=ra (Kd.V_below (vq Z3) hb);replace Z10:=bb (bk Z10) hb;replace HB:=bs hb;clear hb)))
  (try simp only [Act.put,List.setIfInBounds_toArray,List.set_cons_zero,List.set_cons_succ])
  go_cut [22] (fun v22 wc=>∃ (kq:Nat) (x22_4:Bool),v22 = .bool x22_4∧Aside0 (spec_ProbeHappen.j0 kq l0 x22_4 a1_0 a1_1 l1_2=some (r1,r2))∧Aside0 (kq≤k)∧Aside0 (Kd.V k32 32 wc w.heap.size (fun k_=>((P0_ k_∨P1_2_ k_)∨w.heap.size≤k_)∧k_≠Z8) (.slice A0 l0.length c0) l0)∧Aside0 (Kd.V k75 75 wc w.heap.size (fun k_=>((P0_ k_∨P1_2_ k_)∨w.heap.size≤k_)∧k_≠Z8) (.slice A1_2 l1_2.length c1_2) l1_2)∧Aside0 (wc.heap[Z8]? = some (.cells #[.bool a1_0, .string a1_1,(.slice A1_2 l1_2.length c1_2)] 34 (0,0)))∧Aside0 (Below w.heap.size w wc))
  case first =>
   have H:=Z7.out;clear Z7
   rcases ud H with ⟨rfl,Z13⟩ | ⟨rfl,Z13⟩<;>have H:=Z13
   ·have H':=ra H;clear H;have Z14:Z12.cell? ⟨Z8,0,none⟩=some (.bool true):=(blk_cell Z10.out 0).trans rfl;have Z15:Z12.cell? ⟨Z8,1,none⟩=some (.string a1_1):=(blk_cell Z10.out 1).trans rfl;have Z16:Z12.cell? ⟨Z8,2,none⟩=some (.slice A1_2 l1_2.length c1_2):=(blk_cell Z10.out 2).trans rfl;have Z17:=blk_frozen Z10.out 0;have Z18:=blk_frozen Z10.out 1;have Z19:=blk_frozen Z10.out 2;go_wp2
    repeat (go_quiet (fail);try go_wp2)
    go_meet
    case rel=>exact ⟨_,_,rs,H',⟨by first | omega | exact Nat.le_refl _⟩,⟨by (with_reducible repeat (first | apply Kd.V_alloc | apply Kd.V_drewN | apply Kd.V_drew));exact Z2.out⟩,⟨by (with_reducible repeat (first | apply Kd.V_alloc | apply Kd.V_drewN | apply Kd.V_drew));exact Z3.out⟩,⟨bk Z10⟩,⟨bq⟩⟩
   ·obtain ⟨Z14,Z15,H⟩:=bo H;have H':=ra H;clear H;have Z16:Z12.cell? ⟨Z8,0,none⟩=some (.bool false):=(blk_cell Z10.out 0).trans rfl;have Z17:Z12.cell? ⟨Z8,1,none⟩=some (.string a1_1):=(blk_cell Z10.out 1).trans rfl;have Z18:Z12.cell? ⟨Z8,2,none⟩=some (.slice A1_2 l1_2.length c1_2):=(blk_cell Z10.out 2).trans rfl;have Z19:=blk_frozen Z10.out 0;have Z20:=blk_frozen Z10.out 1;have Z21:=blk_frozen Z10.out 2
    go_wp2_with (first | (go_at_call 17;(with_reducible refine (spec_ProbeTubeOk.calls _ _ _ _ _ _ _ ?side1 ?side2 Z15.out).mono ?_);(case side1=>exact sv Z3);(case side2=>exact (Kd.V_reads' Z3.out).2.1);rintro e Z22 ⟨rfl,hb⟩;replace Z2:=ra (Kd.V_below (vq Z2) hb);replace Z3:=ra (Kd.V_below (vq Z3) hb);replace Z10:=bb (bk Z10) hb;replace HB:=bs hb;clear hb))
    repeat (go_quiet (first | (go_at_call 17;(with_reducible refine (spec_ProbeTubeOk.calls _ _ _ _ _ _ _ ?side1 ?side2 Z15.out).mono ?_);(case side1=>exact sv Z3);(case side2=>exact (Kd.V_reads' Z3.out).2.1);rintro e Z22 ⟨rfl,hb⟩;replace Z2:=ra (Kd.V_below (vq Z2) hb);replace Z3:=ra (Kd.V_below (vq Z3) hb);replace Z10:=bb (bk Z10) hb;replace HB:=bs hb;clear hb));try go_wp2_with (first | (go_at_call 17;(with_reducible refine (spec_ProbeTubeOk.calls _ _ _ _ _ _ _ ?side1 ?side2 Z15.out).mono ?_);(case side1=>exact sv Z3);(case side2=>exact (Kd.V_reads' Z3.out).2.1);rintro e Z22 ⟨rfl,hb⟩;replace Z2:=ra (Kd.V_below (vq Z2) hb);replace Z3:=ra (Kd.V_below (vq Z3) hb);replace Z10:=bb (bk Z10) hb;replace HB:=bs hb;clear hb)))
    go_meet
    case rel=>exact ⟨_,_,rs,H',⟨by first | omega | exact Nat.le_refl _⟩,⟨by (with_reducible repeat (first | apply Kd.V_alloc | apply Kd.V_drewN | apply Kd.V_drew));exact Z2.out⟩,⟨by (with_reducible repeat (first | apply Kd.V_alloc | apply Kd.V_drewN | apply Kd.V_drew));exact Z3.out⟩,⟨bk Z10⟩,⟨bq⟩⟩
  case rest =>
   clear Z7;obtain ⟨kq,Z13,rfl,HA,Z14,Z15,Z16,Z10,HB⟩:=hcut
   cases kq with
   | zero=>exact absurd HA.out (by simp [spec_ProbeHappen.j0])
   | succ Z17 =>
    have H:=HA.out;clear HA;simp only [spec_ProbeHappen.j0] at H
    rcases ud H with ⟨rfl,Z18⟩ | ⟨rfl,Z18⟩<;>have H:=Z18
    ·obtain ⟨Z19,Z20,H⟩:=bo H;simp only [Option.some.injEq,Prod.mk.injEq] at H;obtain ⟨rfl,rfl⟩:=H
     go_wp2_with (first | (go_at_call 46;(with_reducible refine (spec_l2List.calls _ _ _ _ _ _ ?side1 ?side2 Z20.out).mono ?_);(case side1=>exact sv Z15);(case side2=>exact (Kd.V_reads' Z15.out).2.1);rintro e Z21 ⟨Z22,rfl,Z23,hb⟩;have Z24:=ra (Kd.S_lower Z23 (below_size (by repeat (first | (with_reducible first | exact HB.out | apply below_alloc | apply pw_below_drewN | apply below_drew1 | refine below_set ?_ (Aside0.out (by assumption))) | exact HB.out))));have Z25:=ra (Kd.N_lower (Kd.N_mono (ok':=fun k_=>((P0_ k_∨P1_2_ k_)∨w.heap.size≤k_)∧k_≠Z8) (Kd.S_N (Kd.S_bound Z23)) (fun k_ hk_=>⟨(.inr (Nat.le_trans (below_size bq) hk_.2.1)),(Kd.freshB (g:=Z8) (o := .cells #[.bool a1_0, .string a1_1, .slice A1_2 l1_2.length c1_2] 34 (0,0)) (bk Z10) k_ hk_.2.1)⟩)) (below_size bq));replace Z15:=ra (Kd.V_elder' (vq Z15) (Kd.S_base Z23) hb);replace Z16:=ra (Kd.V_elder' (vq Z16) (Kd.S_base Z23) hb);replace Z10:=bb (bk Z10) hb;replace HB:=bs hb;clear hb Z23))
     repeat (go_quiet (first | (go_at_call 46;(with_reducible refine (spec_l2List.calls _ _ _ _ _ _ ?side1 ?side2 Z20.out).mono ?_);(case side1=>exact sv Z15);(case side2=>exact (Kd.V_reads' Z15.out).2.1);rintro e Z21 ⟨Z22,rfl,Z23,hb⟩;have Z24:=ra (Kd.S_lower Z23 (below_size (by repeat (first | (with_reducible first | exact HB.out | apply below_alloc | apply pw_below_drewN | apply below_drew1 | refine below_set ?_ (Aside0.out (by assumption))) | exact HB.out))));have Z25:=ra (Kd.N_lower (Kd.N_mono (ok':=fun k_=>((P0_ k_∨P1_2_ k_)∨w.heap.size≤k_)∧k_≠Z8) (Kd.S_N (Kd.S_bound Z23)) (fun k_ hk_=>⟨(.inr (Nat.le_trans (below_size bq) hk_.2.1)),(Kd.freshB (g:=Z8) (o := .cells #[.bool a1_0, .string a1_1, .slice A1_2 l1_2.length c1_2] 34 (0,0)) (bk Z10) k_ hk_.2.1)⟩)) (below_size bq));replace Z15:=ra (Kd.V_elder' (vq Z15) (Kd.S_base Z23) hb);replace Z16:=ra (Kd.V_elder' (vq Z16) (Kd.S_base Z23) hb);replace Z10:=bb (bk Z10) hb;replace HB:=bs hb;clear hb Z23));try go_wp2_with (first | (go_at_call 46;(with_reducible refine (spec_l2List.calls _ _ _ _ _ _ ?side1 ?side2 Z20.out).mono ?_);(case side1=>exact sv Z15);(case side2=>exact (Kd.V_reads' Z15.out).2.1);rintro e Z21 ⟨Z22,rfl,Z23,hb⟩;have Z24:=ra (Kd.S_lower Z23 (below_size (by repeat (first | (with_reducible first | exact HB.out | apply below_alloc | apply pw_below_drewN | apply below_drew1 | refine below_set ?_ (Aside0.out (by assumption))) | exact HB.out))));have Z25:=ra (Kd.N_lower (Kd.N_mono (ok':=fun k_=>((P0_ k_∨P1_2_ k_)∨w.heap.size≤k_)∧k_≠Z8) (Kd.S_N (Kd.S_bound Z23)) (fun k_ hk_=>⟨(.inr (Nat.le_trans (below_size bq) hk_.2.1)),(Kd.freshB (g:=Z8) (o := .cells #[.bool a1_0, .string a1_1, .slice A1_2 l1_2.length c1_2] 34 (0,0)) (bk Z10) k_ hk_.2.1)⟩)) (below_size bq));replace Z15:=ra (Kd.V_elder' (vq Z15) (Kd.S_base Z23) hb);replace Z16:=ra (Kd.V_elder' (vq Z16) (Kd.S_base Z23) hb);replace Z10:=bb (bk Z10) hb;replace HB:=bs hb;clear hb Z23)))
     go_ret2;exact ⟨_,re,by (with_reducible repeat (first | apply Kd.S_alloc | apply Kd.S_drewN | apply Kd.S_drew));exact Z24.out,bq⟩
    ·obtain ⟨Z19, Z20, H⟩:=bo H;have Z21:=ra H;clear H;have Z22:wc.cell? ⟨Z8,0,none⟩=some (.bool a1_0):=(blk_cell Z10.out 0).trans rfl;have Z23:wc.cell? ⟨Z8,1,none⟩=some (.string a1_1):=(blk_cell Z10.out 1).trans rfl;have Z24:wc.cell? ⟨Z8,2,none⟩=some (.slice A1_2 l1_2.length c1_2):=(blk_cell Z10.out 2).trans rfl;have Z25:=blk_frozen Z10.out 0;have Z26:=blk_frozen Z10.out 1;have Z27:=blk_frozen Z10.out 2
     go_upto_region 6 with (first | (go_at_call 47;(with_reducible refine (spec_l6At.calls _ _ _ _ _ _ _ ?side1 ?side2 Z20.out).mono ?_);(case side1=>exact sv Z15);(case side2=>exact (Kd.V_reads' Z15.out).2.1);rintro e w' ⟨rfl,⟨nd,rfl⟩⟩;(try first | exact ⟨rfl,_,World.drewN_drewN _ _ _⟩ | exact ⟨rfl,_,Eq.trans (World.drewN_drewN _ _ _) (congrArg (World.drewN _) (Nat.add_assoc _ _ _))⟩)))
     repeat (go_quiet (first | (go_at_call 47;(with_reducible refine (spec_l6At.calls _ _ _ _ _ _ _ ?side1 ?side2 Z20.out).mono ?_);(case side1=>exact sv Z15);(case side2=>exact (Kd.V_reads' Z15.out).2.1);rintro e w' ⟨rfl,⟨nd,rfl⟩⟩;(try first | exact ⟨rfl,_,World.drewN_drewN _ _ _⟩ | exact ⟨rfl,_,Eq.trans (World.drewN_drewN _ _ _) (congrArg (World.drewN _) (Nat.add_assoc _ _ _))⟩)));go_upto_region 6 with (first | (go_at_call 47;(with_reducible refine (spec_l6At.calls _ _ _ _ _ _ _ ?side1 ?side2 Z20.out).mono ?_);(case side1=>exact sv Z15);(case side2=>exact (Kd.V_reads' Z15.out).2.1);rintro e w' ⟨rfl,⟨nd,rfl⟩⟩;(try first | exact ⟨rfl,_,World.drewN_drewN _ _ _⟩ | exact ⟨rfl,_,Eq.trans (World.drewN_drewN _ _ _) (congrArg (World.drewN _) (Nat.add_assoc _ _ _))⟩))))
     (try simp only [Act.put,List.setIfInBounds_toArray,List.set_cons_zero,List.set_cons_succ])
     go_cut [35] (fun v35 wc=>∃ (kq:Nat) (x35_16:Bool),v35 = .bool x35_16∧Aside0 (spec_ProbeHappen.j1 kq l0 Z19 x35_16 a1_0 a1_1 l1_2=some (r1,r2))∧Aside0 (kq≤Z17)∧Aside0 (Kd.V k32 32 wc w.heap.size (fun k_=>((P0_ k_∨P1_2_ k_)∨w.heap.size≤k_)∧k_≠Z8) (.slice A0 l0.length c0) l0)∧Aside0 (Kd.V k75 75 wc w.heap.size (fun k_=>((P0_ k_∨P1_2_ k_)∨w.heap.size≤k_)∧k_≠Z8) (.slice A1_2 l1_2.length c1_2) l1_2)∧Aside0 (wc.heap[Z8]? = some (.cells #[.bool a1_0, .string a1_1,(.slice A1_2 l1_2.length c1_2)] 34 (0,0)))∧Aside0 (Below w.heap.size w wc))
     case first =>
      have H:=Z21.out;clear Z21
      rcases ud H with ⟨rfl,Z28⟩ | ⟨rfl,Z28⟩<;>have H:=Z28
      have H':=ra H;clear H;have Z29:wc.cell? ⟨Z8,0,none⟩=some (.bool true):=(blk_cell Z10.out 0).trans rfl;rotate_left;have H':=ra H;clear H;have Z29:wc.cell? ⟨Z8,0,none⟩=some (.bool false):=(blk_cell Z10.out 0).trans rfl;rotate_left
      all_goals
       have Z30:wc.cell? ⟨Z8,1,none⟩=some (.string a1_1):=(blk_cell Z10.out 1).trans rfl;have Z31:wc.cell? ⟨Z8,2,none⟩=some (.slice A1_2 l1_2.length c1_2):=(blk_cell Z10.out 2).trans rfl;have Z32:=blk_frozen Z10.out 0;have Z33:=blk_frozen Z10.out 1;have Z34:=blk_frozen Z10.out 2;go_wp2
       repeat (go_quiet (fail);try go_wp2)
       go_meet
       case rel=>exact ⟨_,_,rs,H',⟨by have:=Z14.out;first | omega | exact Nat.le_refl _⟩,⟨by (with_reducible repeat (first | apply Kd.V_alloc | apply Kd.V_drewN | apply Kd.V_drew));exact Z15.out⟩,⟨by (with_reducible repeat (first | apply Kd.V_alloc | apply Kd.V_drewN | apply Kd.V_drew));exact Z16.out⟩,⟨bk Z10⟩,⟨bq⟩⟩
     case rest =>
      clear Z21
      try clear Z22
      try clear Z23
      try clear Z24
      try clear Z25
      try clear Z26
      try clear Z27
      obtain ⟨kq,Z28,rfl,HA,Z29,Z15,Z16,Z10,HB⟩:=hcut
      cases kq with
      | zero=>exact absurd HA.out (by simp [spec_ProbeHappen.j1])
      | succ Z30 =>
       have H:=HA.out;clear HA;simp only [spec_ProbeHappen.j1] at H
       rcases ud H with ⟨rfl,Z31⟩ | ⟨rfl,Z31⟩<;>have H:=Z31
       ·obtain ⟨Z32,Z33,H⟩:=bo H;simp only [Option.some.injEq,Prod.mk.injEq] at H;obtain ⟨rfl,rfl⟩:=H
        go_wp2_with (first | (go_at_call 46;(with_reducible refine (spec_l2List.calls _ _ _ _ _ _ ?side1 ?side2 Z33.out).mono ?_);(case side1=>exact sv Z15);(case side2=>exact (Kd.V_reads' Z15.out).2.1);rintro e Z34 ⟨Z35,rfl,Z36,hb⟩;have Z37:=ra (Kd.S_lower Z36 (below_size (by repeat (first | (with_reducible first | exact HB.out | apply below_alloc | apply pw_below_drewN | apply below_drew1 | refine below_set ?_ (Aside0.out (by assumption))) | exact HB.out))));have Z38:=ra (Kd.N_lower (Kd.N_mono (ok':=fun k_=>((P0_ k_∨P1_2_ k_)∨w.heap.size≤k_)∧k_≠Z8) (Kd.S_N (Kd.S_bound Z36)) (fun k_ hk_=>⟨(.inr (Nat.le_trans (below_size bq) hk_.2.1)),(Kd.freshB (g:=Z8) (o := .cells #[.bool a1_0, .string a1_1, .slice A1_2 l1_2.length c1_2] 34 (0,0)) (bk Z10) k_ hk_.2.1)⟩)) (below_size bq));replace Z15:=ra (Kd.V_elder' (vq Z15) (Kd.S_base Z36) hb);replace Z16:=ra (Kd.V_elder' (vq Z16) (Kd.S_base Z36) hb);replace Z10:=bb (bk Z10) hb;replace HB:=bs hb;clear hb Z36))
        repeat (go_quiet (first | (go_at_call 46;(with_reducible refine (spec_l2List.calls _ _ _ _ _ _ ?side1 ?side2 Z33.out).mono ?_);(case side1=>exact sv Z15);(case side2=>exact (Kd.V_reads' Z15.out).2.1);rintro e Z34 ⟨Z35,rfl,Z36,hb⟩;have Z37:=ra (Kd.S_lower Z36 (below_size (by repeat (first | (with_reducible first | exact HB.out | apply below_alloc | apply pw_below_drewN | apply below_drew1 | refine below_set ?_ (Aside0.out (by assumption))) | exact HB.out))));have Z38:=ra (Kd.N_lower (Kd.N_mono (ok':=fun k_=>((P0_ k_∨P1_2_ k_)∨w.heap.size≤k_)∧k_≠Z8) (Kd.S_N (Kd.S_bound Z36)) (fun k_ hk_=>⟨(.inr (Nat.le_trans (below_size bq) hk_.2.1)),(Kd.freshB (g:=Z8) (o := .cells #[.bool a1_0, .string a1_1, .slice A1_2 l1_2.length c1_2] 34 (0,0)) (bk Z10) k_ hk_.2.1)⟩)) (below_size bq));replace Z15:=ra (Kd.V_elder' (vq Z15) (Kd.S_base Z36) hb);replace Z16:=ra (Kd.V_elder' (vq Z16) (Kd.S_base Z36) hb);replace Z10:=bb (bk Z10) hb;replace HB:=bs hb;clear hb Z36));try go_wp2_with (first | (go_at_call 46;(with_reducible refine (spec_l2List.calls _ _ _ _ _ _ ?side1 ?side2 Z33.out).mono ?_);(case side1=>exact sv Z15);(case side2=>exact (Kd.V_reads' Z15.out).2.1);rintro e Z34 ⟨Z35,rfl,Z36,hb⟩;have Z37:=ra (Kd.S_lower Z36 (below_size (by repeat (first | (with_reducible first | exact HB.out | apply below_alloc | apply pw_below_drewN | apply below_drew1 | refine below_set ?_ (Aside0.out (by assumption))) | exact HB.out))));have Z38:=ra (Kd.N_lower (Kd.N_mono (ok':=fun k_=>((P0_ k_∨P1_2_ k_)∨w.heap.size≤k_)∧k_≠Z8) (Kd.S_N (Kd.S_bound Z36)) (fun k_ hk_=>⟨(.inr (Nat.le_trans (below_size bq) hk_.2.1)),(Kd.freshB (g:=Z8) (o := .cells #[.bool a1_0, .string a1_1, .slice A1_2 l1_2.length c1_2] 34 (0,0)) (bk Z10) k_ hk_.2.1)⟩)) (below_size bq));replace Z15:=ra (Kd.V_elder' (vq Z15) (Kd.S_base Z36) hb);replace Z16:=ra (Kd.V_elder' (vq Z16) (Kd.S_base Z36) hb);replace Z10:=bb (bk Z10) hb;replace HB:=bs hb;clear hb Z36)))
        go_ret2;exact ⟨_,re,by (with_reducible repeat (first | apply Kd.S_alloc | apply Kd.S_drewN | apply Kd.S_drew));exact Z37.out,bq⟩
       ·have Z32 := ra H;clear H
        go_upto_region 8 with (fail)
        repeat (go_quiet (fail);go_upto_region 8 with (fail))
        go_cut [49] (fun v49 wc=>∃ (kq:Nat) (x49_24:Bool),v49 = .bool x49_24∧Aside0 (spec_ProbeHappen.j2 kq l0 Z19 x49_24 a1_0 a1_1 l1_2=some (r1,r2))∧Aside0 (kq≤Z30)∧Aside0 (Kd.V k32 32 wc w.heap.size (fun k_=>((P0_ k_∨P1_2_ k_)∨w.heap.size≤k_)∧k_≠Z8) (.slice A0 l0.length c0) l0)∧Aside0 (Kd.V k75 75 wc w.heap.size (fun k_=>((P0_ k_∨P1_2_ k_)∨w.heap.size≤k_)∧k_≠Z8) (.slice A1_2 l1_2.length c1_2) l1_2)∧Aside0 (wc.heap[Z8]? = some (.cells #[.bool a1_0, .string a1_1,(.slice A1_2 l1_2.length c1_2)] 34 (0,0)))∧Aside0 (Below w.heap.size w wc))
        case first =>
         have H:=Z32.out;clear Z32
         rcases ud H with ⟨rfl,Z33⟩ | ⟨rfl,Z33⟩<;>have H:=Z33
         have H':=ra H;clear H;have Z34:wc.cell? ⟨Z8,0,none⟩=some (.bool true):=(blk_cell Z10.out 0).trans rfl;rotate_left
         rcases td H with ⟨Z34,H⟩ | ⟨Z34,H⟩
         (first | rw [Z34] | (simp only [i64_w,i32_w];rw [Z34]) | skip)
         have H':=ra H;clear H;have Z35:wc.cell? ⟨Z8,0,none⟩=some (.bool false):=(blk_cell Z10.out 0).trans rfl;rotate_left
         (first | rw [Z34] | (simp only [i64_w,i32_w];rw [Z34]) | skip)
         have H':=ra H;clear H;have Z35:wc.cell? ⟨Z8,0,none⟩=some (.bool false):=(blk_cell Z10.out 0).trans rfl;rotate_left
         all_goals
          have Z35:wc.cell? ⟨Z8,1,none⟩=some (.string a1_1):=(blk_cell Z10.out 1).trans rfl;have Z36:wc.cell? ⟨Z8,2,none⟩=some (.slice A1_2 l1_2.length c1_2):=(blk_cell Z10.out 2).trans rfl;have Z37:=blk_frozen Z10.out 0;have Z38:=blk_frozen Z10.out 1;have Z39:=blk_frozen Z10.out 2;go_wp2
          repeat (go_quiet (fail);try go_wp2)
          go_meet
          case rel=>exact ⟨_,_,rs,H',⟨by have:=Z14.out;have:=Z29.out;first | omega | exact Nat.le_refl _⟩,⟨by (with_reducible repeat (first | apply Kd.V_alloc | apply Kd.V_drewN | apply Kd.V_drew));exact Z15.out⟩,⟨by (with_reducible repeat (first | apply Kd.V_alloc | apply Kd.V_drewN | apply Kd.V_drew));exact Z16.out⟩,⟨bk Z10⟩,⟨bq⟩⟩
        case rest =>
         clear Z32
         try clear Z22
         try clear Z23
         try clear Z24
         try clear Z25
         try clear Z26
         try clear Z27
         obtain ⟨kq,Z33,rfl,HA,Z34,Z15,Z16,Z10,HB⟩:=hcut
         cases kq with
         | zero=>exact absurd HA.out (by simp [spec_ProbeHappen.j2])
         | succ Z35 =>
          have H:=HA.out;clear HA;simp only [spec_ProbeHappen.j2] at H
          rcases ud H with ⟨rfl,Z36⟩ | ⟨rfl,Z36⟩<;>have H:=Z36
          ·obtain ⟨Z37,Z38,H⟩:=bo H;simp only [Option.some.injEq,Prod.mk.injEq] at H;obtain ⟨rfl,rfl⟩:=H
           go_wp2_with (first | (go_at_call 46;(with_reducible refine (spec_l2List.calls _ _ _ _ _ _ ?side1 ?side2 Z38.out).mono ?_);(case side1=>exact sv Z15);(case side2=>exact (Kd.V_reads' Z15.out).2.1);rintro e Z39 ⟨Z40,rfl,Z41,hb⟩;have Z42:=ra (Kd.S_lower Z41 (below_size (by repeat (first | (with_reducible first | exact HB.out | apply below_alloc | apply pw_below_drewN | apply below_drew1 | refine below_set ?_ (Aside0.out (by assumption))) | exact HB.out))));have Z43:=ra (Kd.N_lower (Kd.N_mono (ok':=fun k_=>((P0_ k_∨P1_2_ k_)∨w.heap.size≤k_)∧k_≠Z8) (Kd.S_N (Kd.S_bound Z41)) (fun k_ hk_=>⟨(.inr (Nat.le_trans (below_size bq) hk_.2.1)),(Kd.freshB (g:=Z8) (o := .cells #[.bool a1_0, .string a1_1, .slice A1_2 l1_2.length c1_2] 34 (0,0)) (bk Z10) k_ hk_.2.1)⟩)) (below_size bq));replace Z15:=ra (Kd.V_elder' (vq Z15) (Kd.S_base Z41) hb);replace Z16:=ra (Kd.V_elder' (vq Z16) (Kd.S_base Z41) hb);replace Z10:=bb (bk Z10) hb;replace HB:=bs hb;clear hb Z41))
           repeat (go_quiet (first | (go_at_call 46;(with_reducible refine (spec_l2List.calls _ _ _ _ _ _ ?side1 ?side2 Z38.out).mono ?_);(case side1=>exact sv Z15);(case side2=>exact (Kd.V_reads' Z15.out).2.1);rintro e Z39 ⟨Z40,rfl,Z41,hb⟩;have Z42:=ra (Kd.S_lower Z41 (below_size (by repeat (first | (with_reducible first | exact HB.out | apply below_alloc | apply pw_below_drewN | apply below_drew1 | refine below_set ?_ (Aside0.out (by assumption))) | exact HB.out))));have Z43:=ra (Kd.N_lower (Kd.N_mono (ok':=fun k_=>((P0_ k_∨P1_2_ k_)∨w.heap.size≤k_)∧k_≠Z8) (Kd.S_N (Kd.S_bound Z41)) (fun k_ hk_=>⟨(.inr (Nat.le_trans (below_size bq) hk_.2.1)),(Kd.freshB (g:=Z8) (o := .cells #[.bool a1_0, .string a1_1, .slice A1_2 l1_2.length c1_2] 34 (0,0)) (bk Z10) k_ hk_.2.1)⟩)) (below_size bq));replace Z15:=ra (Kd.V_elder' (vq Z15) (Kd.S_base Z41) hb);replace Z16:=ra (Kd.V_elder' (vq Z16) (Kd.S_base Z41) hb);replace Z10:=bb (bk Z10) hb;replace HB:=bs hb;clear hb Z41));try go_wp2_with (first | (go_at_call 46;(with_reducible refine (spec_l2List.calls _ _ _ _ _ _ ?side1 ?side2 Z38.out).mono ?_);(case side1=>exact sv Z15);(case side2=>exact (Kd.V_reads' Z15.out).2.1);rintro e Z39 ⟨Z40,rfl,Z41,hb⟩;have Z42:=ra (Kd.S_lower Z41 (below_size (by repeat (first | (with_reducible first | exact HB.out | apply below_alloc | apply pw_below_drewN | apply below_drew1 | refine below_set ?_ (Aside0.out (by assumption))) | exact HB.out))));have Z43:=ra (Kd.N_lower (Kd.N_mono (ok':=fun k_=>((P0_ k_∨P1_2_ k_)∨w.heap.size≤k_)∧k_≠Z8) (Kd.S_N (Kd.S_bound Z41)) (fun k_ hk_=>⟨(.inr (Nat.le_trans (below_size bq) hk_.2.1)),(Kd.freshB (g:=Z8) (o := .cells #[.bool a1_0, .string a1_1, .slice A1_2 l1_2.length c1_2] 34 (0,0)) (bk Z10) k_ hk_.2.1)⟩)) (below_size bq));replace Z15:=ra (Kd.V_elder' (vq Z15) (Kd.S_base Z41) hb);replace Z16:=ra (Kd.V_elder' (vq Z16) (Kd.S_base Z41) hb);replace Z10:=bb (bk Z10) hb;replace HB:=bs hb;clear hb Z41)))
           go_ret2;exact ⟨_,re,by (with_reducible repeat (first | apply Kd.S_alloc | apply Kd.S_drewN | apply Kd.S_drew));exact Z42.out,bq⟩
          ·obtain ⟨Z37,hy_⟩:∃ y_:List (S32),y_=(([]:List (S32))):=⟨_,rfl⟩;replace H:(spec_ProbeHappen.l0 Z35 l0 Z19 Z37 a1_0 0 a1_0 a1_1 l1_2)=some (r1,r2):=yh;have Z38:=ra hy_;clear hy_;have H':=ra H;clear H
           go_wp2_with (first | ((with_reducible refine gd 52 rfl ?_);(try (refine gate_guard (by rfl) ?_;dsimp only));refine Kd.N_lit k32 _ 32 ?hg (N':=52) ?hd (xs:=([]:List (S32))) (inner:=[]) (ok:=(fun k_=>((P0_ k_∨P1_2_ k_)∨w.heap.size≤k_)∧k_≠Z8)) (okp:=(fun k_=>((P0_ k_∨P1_2_ k_)∨w.heap.size≤k_)∧k_≠Z8)) ?hr ?hp (fun _ hk=>hk) ((show ∀ k_,wc.heap.size≤k_→(fun k_=>((P0_ k_∨P1_2_ k_)∨w.heap.size≤k_)∧k_≠Z8) k_ from fun k_ hk=>⟨(.inr (Nat.le_trans (below_size bq) hk)),Kd.freshB (g:=Z8) (o := .cells #[.bool a1_0, .string a1_1, .slice A1_2 l1_2.length c1_2] 34 (0,0)) (bk Z10) k_ hk⟩) _ (Nat.le_refl _)) (Below.refl _ _) (Nat.le_refl _) (by simp) ?_;(case hd=>rfl);(case hg=>rfl);(case hr=>first | (go_simp;done) | (go_simp;rfl));(case hp=>exact (Reps.none _ _));intro Z39 Z40 Z41 hb hg_ hnew_;clear hg_ hnew_;(first | rw [← Z38.out] at Z41 | (simp only [Int.reduceToNat] at Z41;rw [← Z38.out] at Z41));have Z42:=ra (Kd.N_lower Z41 (below_size bq));replace Z15:=ra (Kd.V_elder' (vq Z15) (Kd.N_base Z41) hb);replace Z16:=ra (Kd.V_elder' (vq Z16) (Kd.N_base Z41) hb);replace Z10:=bb (bk Z10) hb;replace HB:=bs hb;clear hb Z41;have Z43:Z40.cell? ⟨Z8,0,none⟩=some (.bool a1_0):=(blk_cell Z10.out 0).trans rfl;have Z44:Z40.cell? ⟨Z8,1,none⟩=some (.string a1_1):=(blk_cell Z10.out 1).trans rfl;have Z45:Z40.cell? ⟨Z8,2,none⟩=some (.slice A1_2 l1_2.length c1_2):=(blk_cell Z10.out 2).trans rfl;have Z46:=blk_frozen Z10.out 0;have Z47:=blk_frozen Z10.out 1;have Z48:=blk_frozen Z10.out 2))
           repeat (go_quiet (first | ((with_reducible refine gd 52 rfl ?_);(try (refine gate_guard (by rfl) ?_;dsimp only));refine Kd.N_lit k32 _ 32 ?hg (N':=52) ?hd (xs:=([]:List (S32))) (inner:=[]) (ok:=(fun k_=>((P0_ k_∨P1_2_ k_)∨w.heap.size≤k_)∧k_≠Z8)) (okp:=(fun k_=>((P0_ k_∨P1_2_ k_)∨w.heap.size≤k_)∧k_≠Z8)) ?hr ?hp (fun _ hk=>hk) ((show ∀ k_,wc.heap.size≤k_→(fun k_=>((P0_ k_∨P1_2_ k_)∨w.heap.size≤k_)∧k_≠Z8) k_ from fun k_ hk=>⟨(.inr (Nat.le_trans (below_size bq) hk)),Kd.freshB (g:=Z8) (o := .cells #[.bool a1_0, .string a1_1, .slice A1_2 l1_2.length c1_2] 34 (0,0)) (bk Z10) k_ hk⟩) _ (Nat.le_refl _)) (Below.refl _ _) (Nat.le_refl _) (by simp) ?_;(case hd=>rfl);(case hg=>rfl);(case hr=>first | (go_simp;done) | (go_simp;rfl));(case hp=>exact (Reps.none _ _));intro Z39 Z40 Z41 hb hg_ hnew_;clear hg_ hnew_;(first | rw [← Z38.out] at Z41 | (simp only [Int.reduceToNat] at Z41;rw [← Z38.out] at Z41));have Z42:=ra (Kd.N_lower Z41 (below_size bq));replace Z15:=ra (Kd.V_elder' (vq Z15) (Kd.N_base Z41) hb);replace Z16:=ra (Kd.V_elder' (vq Z16) (Kd.N_base Z41) hb);replace Z10:=bb (bk Z10) hb;replace HB:=bs hb;clear hb Z41;have Z43:Z40.cell? ⟨Z8,0,none⟩=some (.bool a1_0):=(blk_cell Z10.out 0).trans rfl;have Z44:Z40.cell? ⟨Z8,1,none⟩=some (.string a1_1):=(blk_cell Z10.out 1).trans rfl;have Z45:Z40.cell? ⟨Z8,2,none⟩=some (.slice A1_2 l1_2.length c1_2):=(blk_cell Z10.out 2).trans rfl;have Z46:=blk_frozen Z10.out 0;have Z47:=blk_frozen Z10.out 1;have Z48:=blk_frozen Z10.out 2));try go_wp2_with (first | ((with_reducible refine gd 52 rfl ?_);(try (refine gate_guard (by rfl) ?_;dsimp only));refine Kd.N_lit k32 _ 32 ?hg (N':=52) ?hd (xs:=([]:List (S32))) (inner:=[]) (ok:=(fun k_=>((P0_ k_∨P1_2_ k_)∨w.heap.size≤k_)∧k_≠Z8)) (okp:=(fun k_=>((P0_ k_∨P1_2_ k_)∨w.heap.size≤k_)∧k_≠Z8)) ?hr ?hp (fun _ hk=>hk) ((show ∀ k_,wc.heap.size≤k_→(fun k_=>((P0_ k_∨P1_2_ k_)∨w.heap.size≤k_)∧k_≠Z8) k_ from fun k_ hk=>⟨(.inr (Nat.le_trans (below_size bq) hk)),Kd.freshB (g:=Z8) (o := .cells #[.bool a1_0, .string a1_1, .slice A1_2 l1_2.length c1_2] 34 (0,0)) (bk Z10) k_ hk⟩) _ (Nat.le_refl _)) (Below.refl _ _) (Nat.le_refl _) (by simp) ?_;(case hd=>rfl);(case hg=>rfl);(case hr=>first | (go_simp;done) | (go_simp;rfl));(case hp=>exact (Reps.none _ _));intro Z39 Z40 Z41 hb hg_ hnew_;clear hg_ hnew_;(first | rw [← Z38.out] at Z41 | (simp only [Int.reduceToNat] at Z41;rw [← Z38.out] at Z41));have Z42:=ra (Kd.N_lower Z41 (below_size bq));replace Z15:=ra (Kd.V_elder' (vq Z15) (Kd.N_base Z41) hb);replace Z16:=ra (Kd.V_elder' (vq Z16) (Kd.N_base Z41) hb);replace Z10:=bb (bk Z10) hb;replace HB:=bs hb;clear hb Z41;have Z43:Z40.cell? ⟨Z8,0,none⟩=some (.bool a1_0):=(blk_cell Z10.out 0).trans rfl;have Z44:Z40.cell? ⟨Z8,1,none⟩=some (.string a1_1):=(blk_cell Z10.out 1).trans rfl;have Z45:Z40.cell? ⟨Z8,2,none⟩=some (.slice A1_2 l1_2.length c1_2):=(blk_cell Z10.out 2).trans rfl;have Z46:=blk_frozen Z10.out 0;have Z47:=blk_frozen Z10.out 1;have Z48:=blk_frozen Z10.out 2)))
           go_loopg [7,8,9] Z35 (fun kq v7 v8 v9 w'=>∃ (x7_4:List (S32)) (x8_4:Bool) (x9_4:Int),v8 = .bool x8_4∧v9 = .int .i64 x9_4∧Aside0 (spec_ProbeHappen.l0 kq l0 Z19 x7_4 x8_4 x9_4 a1_0 a1_1 l1_2=some (r1,r2))∧Aside0 (kq≤Z35)∧Aside0 (Kd.V k32 32 w' w.heap.size (fun k_=>((P0_ k_∨P1_2_ k_)∨w.heap.size≤k_)∧some k_≠(v7:Value).ownBlock∧k_≠Z8) (.slice A0 l0.length c0) l0)∧Aside0 (Kd.N k32 32 w' w.heap.size (fun k_=>((P0_ k_∨P1_2_ k_)∨w.heap.size≤k_)∧k_≠Z8) v7 x7_4)∧Aside0 (Kd.V k75 75 w' w.heap.size (fun k_=>((P0_ k_∨P1_2_ k_)∨w.heap.size≤k_)∧some k_≠(v7:Value).ownBlock∧k_≠Z8) (.slice A1_2 l1_2.length c1_2) l1_2)∧Aside0 (w'.heap[Z8]? = some (.cells #[.bool a1_0, .string a1_1,(.slice A1_2 l1_2.length c1_2)] 34 (0,0)))∧Aside0 (Below w.heap.size w w'))
           case atStart=>exact ⟨(Z37),(a1_0),(0),rs,rs,H',⟨Nat.le_refl _⟩,⟨by (with_reducible repeat (first | apply Kd.V_alloc | apply Kd.V_drewN | apply Kd.V_drew));exact Kd.V_mono Z15.out (fun _ hk=>⟨hk.1.1,⟨hk.2,hk.1.2⟩⟩)⟩,⟨by (with_reducible repeat (first | apply Kd.N_alloc | apply Kd.N_drewN | apply Kd.N_drew));exact Z42.out⟩,⟨by (with_reducible repeat (first | apply Kd.V_alloc | apply Kd.V_drewN | apply Kd.V_drew));exact Kd.V_mono Z16.out (fun _ hk=>⟨hk.1.1,⟨hk.2,hk.1.2⟩⟩)⟩,⟨bk Z10⟩,⟨bq⟩⟩
           case round =>
            clear H'
            try clear Z22
            try clear Z23
            try clear Z24
            try clear Z43
            try clear Z44
            try clear Z45
            try clear Z25
            try clear Z26
            try clear Z27
            try clear Z46
            try clear Z47
            try clear Z48
            obtain ⟨Z49,Z50,Z51,rfl,rfl,HA,Z52,Z15,Z53,Z16,Z10,HB⟩:=hrel
            cases gk with
            | zero=>exact absurd HA.out (by simp [spec_ProbeHappen.l0])
            | succ Z54 =>
             have H:=HA.out;clear HA;simp only [spec_ProbeHappen.l0] at H
             rcases td H with ⟨Z55,H⟩ | ⟨Z55,H⟩
             ·have Z56:=ra H;clear H
              go_upto_region 15 with (fail)
              repeat (go_quiet (fail);go_upto_region 15 with (fail))
              go_cut [73] (fun v73 wc=>∃ (kq:Nat) (x73_37:Bool),v73 = .bool x73_37∧Aside0 (spec_ProbeHappen.j4 kq l0 Z19 Z49 Z50 Z51 x73_37 a1_0 a1_1 l1_2=some (r1,r2))∧Aside0 (kq≤Z54)∧Aside0 (Kd.V k32 32 wc w.heap.size (fun k_=>((P0_ k_∨P1_2_ k_)∨w.heap.size≤k_)∧some k_≠(u7:Value).ownBlock∧k_≠Z8) (.slice A0 l0.length c0) l0)∧Aside0 (Kd.N k32 32 wc w.heap.size (fun k_=>((P0_ k_∨P1_2_ k_)∨w.heap.size≤k_)∧k_≠Z8) u7 Z49)∧Aside0 (Kd.V k75 75 wc w.heap.size (fun k_=>((P0_ k_∨P1_2_ k_)∨w.heap.size≤k_)∧some k_≠(u7:Value).ownBlock∧k_≠Z8) (.slice A1_2 l1_2.length c1_2) l1_2)∧Aside0 (wc.heap[Z8]? = some (.cells #[.bool a1_0, .string a1_1,(.slice A1_2 l1_2.length c1_2)] 34 (0,0)))∧Aside0 (Below w.heap.size w wc))
              case first =>
               have H:=Z56.out;clear Z56
               rcases ud H with ⟨rfl,Z57⟩ | ⟨rfl,Z57⟩<;>have H:=Z57
               ·have H':=ra H;clear H;go_wp2
                repeat (go_quiet (fail);try go_wp2)
                go_meet
                case rel=>exact ⟨_,_,rs,H',⟨by have:=Z14.out;have:=Z29.out;have:=Z34.out;have:=Z52.out;first | omega | exact Nat.le_refl _⟩,⟨by (with_reducible repeat (first | apply Kd.V_alloc | apply Kd.V_drewN | apply Kd.V_drew));exact Z15.out⟩,⟨by (with_reducible repeat (first | apply Kd.N_alloc | apply Kd.N_drewN | apply Kd.N_drew));exact Z53.out⟩,⟨by (with_reducible repeat (first | apply Kd.V_alloc | apply Kd.V_drewN | apply Kd.V_drew));exact Z16.out⟩,⟨bk Z10⟩,⟨bq⟩⟩
               ·obtain ⟨Z58,H⟩:=tn H
                (first | rw [Z58] | (simp only [i64_w,i32_w];rw [Z58]) | skip)
                have H':=ra H;clear H;have Z59:0≤(Z51:Int):=od;have Z60:Z51<(l0.length:Int):=od;obtain ⟨Z61,Z62,Z63,Z64,Z65,Z66,Z67,Z68⟩:=at_T32 (Kd.V_reads' Z15.out).2.2 Z51 Z59 Z60;cases Z64
                obtain ⟨Z69,Z70,Z71,Z72⟩:=Kd.V_get Z15.out z32 Z51 Z59 (by first | exact Z60 | exact od | (have e_:=(Kd.V_reads' Z15.out).1;omega));obtain ⟨Z73,Z74,rfl,Z75,Z76⟩:=k32_openF Z71;have Z77:=Z72 1 _ rfl;rw [add_field _ _ 1 (by omega)] at Z77;replace Z77:=Option.some.inj (Z77.symm.trans Z66)
                injection Z77 with hva_ hvn_ hvc_
                rw [hva_] at Z76;rw [hvc_] at Z75;have Z78:=ra (show Kd.V k75 75 _ w.heap.size _ _ ((rd_T32 l0 Z51).f1) from Kd.V_mk Z75 Z76);clear hva_ hvn_ hvc_ Z76 Z75;clear Z72 Z70;have Z79:=ra Z68;have Z80:=ra Z67;clear Z68 Z67;replace Z59:=eq_true Z59;replace Z60:=eq_true Z60;have Z81:wr.cell? ⟨Z8,0,none⟩=some (.bool a1_0):=(blk_cell Z10.out 0).trans rfl;have Z82:wr.cell? ⟨Z8,1,none⟩=some (.string a1_1):=(blk_cell Z10.out 1).trans rfl;have Z83:wr.cell? ⟨Z8,2,none⟩=some (.slice A1_2 l1_2.length c1_2):=(blk_cell Z10.out 2).trans rfl;have Z84:=blk_frozen Z10.out 0;have Z85:=blk_frozen Z10.out 1;have Z86:=blk_frozen Z10.out 2;go_wp2
                repeat (go_quiet (fail);try go_wp2)
                go_meet
                case rel=>exact ⟨_,_,rs,H',⟨by have:=Z14.out;have:=Z29.out;have:=Z34.out;have:=Z52.out;first | omega | exact Nat.le_refl _⟩,⟨by (with_reducible repeat (first | apply Kd.V_alloc | apply Kd.V_drewN | apply Kd.V_drew));exact Z15.out⟩,⟨by (with_reducible repeat (first | apply Kd.N_alloc | apply Kd.N_drewN | apply Kd.N_drew));exact Z53.out⟩,⟨by (with_reducible repeat (first | apply Kd.V_alloc | apply Kd.V_drewN | apply Kd.V_drew));exact Z16.out⟩,⟨bk Z10⟩,⟨bq⟩⟩
              case rest =>
               clear Z56
               try clear Z55
               try clear Z22
               try clear Z23
               try clear Z24
               try clear Z43
               try clear Z44
               try clear Z45
               try clear Z25
               try clear Z26
               try clear Z27
               try clear Z46
               try clear Z47
               try clear Z48
               obtain ⟨kq,Z57,rfl,HA,Z58,Z15,Z53,Z16,Z10,HB⟩:=hcut
               cases kq with
               | zero=>exact absurd HA.out (by simp [spec_ProbeHappen.j4])
               | succ Z59 =>
                have H:=HA.out;clear HA;simp only [spec_ProbeHappen.j4] at H
                rcases ud H with ⟨rfl,Z60⟩ | ⟨rfl,Z60⟩<;>have H:=Z60
                ·by_cases Z61:Z49.length<3518437208883
                 ·rw [if_pos Z61] at H;have Z62:=ra Z61;clear Z61;obtain ⟨Z63,hy_⟩:∃ y_:List (S32),y_=(Z49++[(⟨a1_1,l1_2⟩:S32)]):=⟨_,rfl⟩;replace H:(if Z51=Z19 then (spec_ProbeHappen.l0 Z59 l0 Z19 Z63 true (wrap64 (Z51+1)) a1_0 a1_1 l1_2) else (if 0≤Z51 then (if Z51<(l0.length:Int) then (if Z63.length<3518437208883 then (spec_ProbeHappen.l0 Z59 l0 Z19 (Z63++[(⟨(rd_T32 l0 Z51).f0,(rd_T32 l0 Z51).f1⟩:S32)]) true (wrap64 (Z51+1)) a1_0 a1_1 l1_2) else (none)) else (none)) else (none)))=some (r1,r2):=yh;have Z64:=ra hy_;clear hy_
                  rcases ed H with ⟨-,Z65,Z66,H⟩ | ⟨Z67,Z65,Z66,H⟩
                  ·have H':=ra H;clear H;have Z68:wc.cell? ⟨Z8,0,none⟩=some (.bool a1_0):=(blk_cell Z10.out 0).trans rfl;have Z69:wc.cell? ⟨Z8,1,none⟩=some (.string a1_1):=(blk_cell Z10.out 1).trans rfl;have Z70:wc.cell? ⟨Z8,2,none⟩=some (.slice A1_2 l1_2.length c1_2):=(blk_cell Z10.out 2).trans rfl;have Z71:=blk_frozen Z10.out 0;have Z72:=blk_frozen Z10.out 1;have Z73:=blk_frozen Z10.out 2
                   go_wp2_with (first | ((with_reducible refine gate_builtin (b := .append) (xs:=#[.tmp 74, .tmp 77]) rfl ?_);(try (refine gate_guard (by rfl) ?_;dsimp only));at_builtin;refine Kd.N_append k32 (w0:=w) w.heap.size rfl (.tmp 74) (.tmp 77) 25 32 (.agg #[(.string ⟨#[]⟩),(.slice none 0 0)]) 40 rfl Tryz.underlying25 info32 rfl (by decide) (by omega) u7 Z49 (⟨a1_1,l1_2⟩:S32) [.string a1_1, .slice A1_2 l1_2.length c1_2] (fun k_=>((P0_ k_∨P1_2_ k_)∨w.heap.size≤k_)∧k_≠Z8) (fun k_=>((fun k_=>((P0_ k_∨P1_2_ k_)∨w.heap.size≤k_)∧k_≠Z8)) k_∧some k_≠(u7:Value).ownBlock) rfl rfl ?aP (fun _ hk=>hk) ?aF ?aO ?aB ?aS ?aL ?_;(case aP=>exact (k32_mkF _ _ (⟨a1_1,l1_2⟩:S32) (Kd.V_reads' (Kd.V_mono (ok':=(fun k_=>((fun k_=>((P0_ k_∨P1_2_ k_)∨w.heap.size≤k_)∧k_≠Z8)) k_∧some k_≠(u7:Value).ownBlock)) (Z16.out) (fun k_ hk=>⟨⟨hk.1,hk.2.2⟩,hk.2.1⟩))).2.1 (Kd.V_F (Kd.V_mono (ok':=(fun k_=>((fun k_=>((P0_ k_∨P1_2_ k_)∨w.heap.size≤k_)∧k_≠Z8)) k_∧some k_≠(u7:Value).ownBlock)) (Z16.out) (fun k_ hk=>⟨⟨hk.1,hk.2.2⟩,hk.2.1⟩)))));(case aB=>exact bq);(case aF=>exact (fun k_ hk=>⟨(.inr (Nat.le_trans (below_size bq) hk)),Kd.freshB (g:=Z8) (o := .cells #[.bool a1_0, .string a1_1, .slice A1_2 l1_2.length c1_2] 34 (0,0)) (bk Z10) k_ hk⟩));(case aO=>exact (by (with_reducible repeat (first | apply Kd.N_alloc | apply Kd.N_drewN | apply Kd.N_drew));exact Z53.out));(case aS=>exact (below_size bq));(case aL=>have:=Z62.out;omega);intro Z74 Z75 ho hb hg hat;rw [← Z64.out] at ho;have _:=ra (Kd.V_afterv (ok:=(fun k_=>((P0_ k_∨P1_2_ k_)∨w.heap.size≤k_)∧k_≠Z8)) (vr (Kd.V_mono Z15.out (fun _ hk=>⟨⟨hk.1,hk.2.2⟩,hk.2.1⟩))) hg hat);have _:=ra (Kd.V_afterv (ok:=(fun k_=>((P0_ k_∨P1_2_ k_)∨w.heap.size≤k_)∧k_≠Z8)) (vr (Kd.V_mono Z16.out (fun _ hk=>⟨⟨hk.1,hk.2.2⟩,hk.2.1⟩))) hg hat);have _:=ra (blk_grown (g:=Z8) (o := .cells #[.bool a1_0, .string a1_1, .slice A1_2 l1_2.length c1_2] 34 (0,0)) (bk Z10) hg (Kd.N_ne Z53.out Z10.out (by decide)));have _:=ra (hb);have _:=ra (ho);clear Z15 Z16 Z10 HB Z53;rename_i Z15 Z16 Z10 HB Z76;clear ho hb hg hat))
                   repeat (go_quiet (first | ((with_reducible refine gate_builtin (b := .append) (xs:=#[.tmp 74, .tmp 77]) rfl ?_);(try (refine gate_guard (by rfl) ?_;dsimp only));at_builtin;refine Kd.N_append k32 (w0:=w) w.heap.size rfl (.tmp 74) (.tmp 77) 25 32 (.agg #[(.string ⟨#[]⟩),(.slice none 0 0)]) 40 rfl Tryz.underlying25 info32 rfl (by decide) (by omega) u7 Z49 (⟨a1_1,l1_2⟩:S32) [.string a1_1, .slice A1_2 l1_2.length c1_2] (fun k_=>((P0_ k_∨P1_2_ k_)∨w.heap.size≤k_)∧k_≠Z8) (fun k_=>((fun k_=>((P0_ k_∨P1_2_ k_)∨w.heap.size≤k_)∧k_≠Z8)) k_∧some k_≠(u7:Value).ownBlock) rfl rfl ?aP (fun _ hk=>hk) ?aF ?aO ?aB ?aS ?aL ?_;(case aP=>exact (k32_mkF _ _ (⟨a1_1,l1_2⟩:S32) (Kd.V_reads' (Kd.V_mono (ok':=(fun k_=>((fun k_=>((P0_ k_∨P1_2_ k_)∨w.heap.size≤k_)∧k_≠Z8)) k_∧some k_≠(u7:Value).ownBlock)) (Z16.out) (fun k_ hk=>⟨⟨hk.1,hk.2.2⟩,hk.2.1⟩))).2.1 (Kd.V_F (Kd.V_mono (ok':=(fun k_=>((fun k_=>((P0_ k_∨P1_2_ k_)∨w.heap.size≤k_)∧k_≠Z8)) k_∧some k_≠(u7:Value).ownBlock)) (Z16.out) (fun k_ hk=>⟨⟨hk.1,hk.2.2⟩,hk.2.1⟩)))));(case aB=>exact bq);(case aF=>exact (fun k_ hk=>⟨(.inr (Nat.le_trans (below_size bq) hk)),Kd.freshB (g:=Z8) (o := .cells #[.bool a1_0, .string a1_1, .slice A1_2 l1_2.length c1_2] 34 (0,0)) (bk Z10) k_ hk⟩));(case aO=>exact (by (with_reducible repeat (first | apply Kd.N_alloc | apply Kd.N_drewN | apply Kd.N_drew));exact Z53.out));(case aS=>exact (below_size bq));(case aL=>have:=Z62.out;omega);intro Z74 Z75 ho hb hg hat;rw [← Z64.out] at ho;have _:=ra (Kd.V_afterv (ok:=(fun k_=>((P0_ k_∨P1_2_ k_)∨w.heap.size≤k_)∧k_≠Z8)) (vr (Kd.V_mono Z15.out (fun _ hk=>⟨⟨hk.1,hk.2.2⟩,hk.2.1⟩))) hg hat);have _:=ra (Kd.V_afterv (ok:=(fun k_=>((P0_ k_∨P1_2_ k_)∨w.heap.size≤k_)∧k_≠Z8)) (vr (Kd.V_mono Z16.out (fun _ hk=>⟨⟨hk.1,hk.2.2⟩,hk.2.1⟩))) hg hat);have _:=ra (blk_grown (g:=Z8) (o := .cells #[.bool a1_0, .string a1_1, .slice A1_2 l1_2.length c1_2] 34 (0,0)) (bk Z10) hg (Kd.N_ne Z53.out Z10.out (by decide)));have _:=ra (hb);have _:=ra (ho);clear Z15 Z16 Z10 HB Z53;rename_i Z15 Z16 Z10 HB Z76;clear ho hb hg hat));try go_wp2_with (first | ((with_reducible refine gate_builtin (b := .append) (xs:=#[.tmp 74, .tmp 77]) rfl ?_);(try (refine gate_guard (by rfl) ?_;dsimp only));at_builtin;refine Kd.N_append k32 (w0:=w) w.heap.size rfl (.tmp 74) (.tmp 77) 25 32 (.agg #[(.string ⟨#[]⟩),(.slice none 0 0)]) 40 rfl Tryz.underlying25 info32 rfl (by decide) (by omega) u7 Z49 (⟨a1_1,l1_2⟩:S32) [.string a1_1, .slice A1_2 l1_2.length c1_2] (fun k_=>((P0_ k_∨P1_2_ k_)∨w.heap.size≤k_)∧k_≠Z8) (fun k_=>((fun k_=>((P0_ k_∨P1_2_ k_)∨w.heap.size≤k_)∧k_≠Z8)) k_∧some k_≠(u7:Value).ownBlock) rfl rfl ?aP (fun _ hk=>hk) ?aF ?aO ?aB ?aS ?aL ?_;(case aP=>exact (k32_mkF _ _ (⟨a1_1,l1_2⟩:S32) (Kd.V_reads' (Kd.V_mono (ok':=(fun k_=>((fun k_=>((P0_ k_∨P1_2_ k_)∨w.heap.size≤k_)∧k_≠Z8)) k_∧some k_≠(u7:Value).ownBlock)) (Z16.out) (fun k_ hk=>⟨⟨hk.1,hk.2.2⟩,hk.2.1⟩))).2.1 (Kd.V_F (Kd.V_mono (ok':=(fun k_=>((fun k_=>((P0_ k_∨P1_2_ k_)∨w.heap.size≤k_)∧k_≠Z8)) k_∧some k_≠(u7:Value).ownBlock)) (Z16.out) (fun k_ hk=>⟨⟨hk.1,hk.2.2⟩,hk.2.1⟩)))));(case aB=>exact bq);(case aF=>exact (fun k_ hk=>⟨(.inr (Nat.le_trans (below_size bq) hk)),Kd.freshB (g:=Z8) (o := .cells #[.bool a1_0, .string a1_1, .slice A1_2 l1_2.length c1_2] 34 (0,0)) (bk Z10) k_ hk⟩));(case aO=>exact (by (with_reducible repeat (first | apply Kd.N_alloc | apply Kd.N_drewN | apply Kd.N_drew));exact Z53.out));(case aS=>exact (below_size bq));(case aL=>have:=Z62.out;omega);intro Z74 Z75 ho hb hg hat;rw [← Z64.out] at ho;have _:=ra (Kd.V_afterv (ok:=(fun k_=>((P0_ k_∨P1_2_ k_)∨w.heap.size≤k_)∧k_≠Z8)) (vr (Kd.V_mono Z15.out (fun _ hk=>⟨⟨hk.1,hk.2.2⟩,hk.2.1⟩))) hg hat);have _:=ra (Kd.V_afterv (ok:=(fun k_=>((P0_ k_∨P1_2_ k_)∨w.heap.size≤k_)∧k_≠Z8)) (vr (Kd.V_mono Z16.out (fun _ hk=>⟨⟨hk.1,hk.2.2⟩,hk.2.1⟩))) hg hat);have _:=ra (blk_grown (g:=Z8) (o := .cells #[.bool a1_0, .string a1_1, .slice A1_2 l1_2.length c1_2] 34 (0,0)) (bk Z10) hg (Kd.N_ne Z53.out Z10.out (by decide)));have _:=ra (hb);have _:=ra (ho);clear Z15 Z16 Z10 HB Z53;rename_i Z15 Z16 Z10 HB Z76;clear ho hb hg hat)))
                   go_roundg Z59
                   case measure=>have:=Z14.out;have:=Z29.out;have:=Z34.out;have:=Z52.out;have:=Z58.out;omega
                   case rel=>exact ⟨(Z63),(true),(wrap64 (Z51+1)),rs,rs,H',⟨by have:=Z14.out;have:=Z29.out;have:=Z34.out;have:=Z52.out;have:=Z58.out;omega⟩,⟨by (with_reducible repeat (first | apply Kd.V_alloc | apply Kd.V_drewN | apply Kd.V_drew));exact Kd.V_mono Z15.out (fun _ hk=>⟨hk.1.1,⟨hk.2,hk.1.2⟩⟩)⟩,⟨by (with_reducible repeat (first | apply Kd.N_alloc | apply Kd.N_drewN | apply Kd.N_drew));exact Z76.out⟩,⟨by (with_reducible repeat (first | apply Kd.V_alloc | apply Kd.V_drewN | apply Kd.V_drew));exact Kd.V_mono Z16.out (fun _ hk=>⟨hk.1.1,⟨hk.2,hk.1.2⟩⟩)⟩,⟨bk Z10⟩,⟨bq⟩⟩
                  ·obtain ⟨Z68,H⟩:=tn H;obtain ⟨Z69,H⟩:=tn H;by_cases Z70:Z63.length<3518437208883
                   ·rw [if_pos Z70] at H;have Z71:=ra Z70;clear Z70;obtain ⟨Z72,hy_⟩:∃ y_:List (S32),y_=(Z63++[(⟨(rd_T32 l0 Z51).f0,(rd_T32 l0 Z51).f1⟩:S32)]):=⟨_,rfl⟩;replace H:(spec_ProbeHappen.l0 Z59 l0 Z19 Z72 true (wrap64 (Z51+1)) a1_0 a1_1 l1_2)=some (r1,r2):=yh;have Z73:=ra hy_;clear hy_;have H':=ra H;clear H;have Z74:wc.cell? ⟨Z8,0,none⟩=some (.bool a1_0):=(blk_cell Z10.out 0).trans rfl;have Z75:wc.cell? ⟨Z8,1,none⟩=some (.string a1_1):=(blk_cell Z10.out 1).trans rfl;have Z76:wc.cell? ⟨Z8,2,none⟩=some (.slice A1_2 l1_2.length c1_2):=(blk_cell Z10.out 2).trans rfl;have Z77:=blk_frozen Z10.out 0;have Z78:=blk_frozen Z10.out 1;have Z79:=blk_frozen Z10.out 2
                    go_wp2_with (first | ((with_reducible refine gate_builtin (b := .append) (xs:=#[.tmp 74, .tmp 77]) rfl ?_);(try (refine gate_guard (by rfl) ?_;dsimp only));at_builtin;refine Kd.N_append k32 (w0:=w) w.heap.size rfl (.tmp 74) (.tmp 77) 25 32 (.agg #[(.string ⟨#[]⟩),(.slice none 0 0)]) 40 rfl Tryz.underlying25 info32 rfl (by decide) (by omega) u7 Z49 (⟨a1_1,l1_2⟩:S32) [.string a1_1, .slice A1_2 l1_2.length c1_2] (fun k_=>((P0_ k_∨P1_2_ k_)∨w.heap.size≤k_)∧k_≠Z8) (fun k_=>((fun k_=>((P0_ k_∨P1_2_ k_)∨w.heap.size≤k_)∧k_≠Z8)) k_∧some k_≠(u7:Value).ownBlock) rfl rfl ?aP (fun _ hk=>hk) ?aF ?aO ?aB ?aS ?aL ?_;(case aP=>exact (k32_mkF _ _ (⟨a1_1,l1_2⟩:S32) (Kd.V_reads' (Kd.V_mono (ok':=(fun k_=>((fun k_=>((P0_ k_∨P1_2_ k_)∨w.heap.size≤k_)∧k_≠Z8)) k_∧some k_≠(u7:Value).ownBlock)) (Z16.out) (fun k_ hk=>⟨⟨hk.1,hk.2.2⟩,hk.2.1⟩))).2.1 (Kd.V_F (Kd.V_mono (ok':=(fun k_=>((fun k_=>((P0_ k_∨P1_2_ k_)∨w.heap.size≤k_)∧k_≠Z8)) k_∧some k_≠(u7:Value).ownBlock)) (Z16.out) (fun k_ hk=>⟨⟨hk.1,hk.2.2⟩,hk.2.1⟩)))));(case aB=>exact bq);(case aF=>exact (fun k_ hk=>⟨(.inr (Nat.le_trans (below_size bq) hk)),Kd.freshB (g:=Z8) (o := .cells #[.bool a1_0, .string a1_1, .slice A1_2 l1_2.length c1_2] 34 (0,0)) (bk Z10) k_ hk⟩));(case aO=>exact (by (with_reducible repeat (first | apply Kd.N_alloc | apply Kd.N_drewN | apply Kd.N_drew));exact Z53.out));(case aS=>exact (below_size bq));(case aL=>have:=Z62.out;omega);intro Z80 Z81 ho hb hg hat;rw [← Z64.out] at ho;have _:=ra (Kd.V_afterv (ok:=(fun k_=>((P0_ k_∨P1_2_ k_)∨w.heap.size≤k_)∧k_≠Z8)) (vr (Kd.V_mono Z15.out (fun _ hk=>⟨⟨hk.1,hk.2.2⟩,hk.2.1⟩))) hg hat);have _:=ra (Kd.V_afterv (ok:=(fun k_=>((P0_ k_∨P1_2_ k_)∨w.heap.size≤k_)∧k_≠Z8)) (vr (Kd.V_mono Z16.out (fun _ hk=>⟨⟨hk.1,hk.2.2⟩,hk.2.1⟩))) hg hat);have _:=ra (blk_grown (g:=Z8) (o := .cells #[.bool a1_0, .string a1_1, .slice A1_2 l1_2.length c1_2] 34 (0,0)) (bk Z10) hg (Kd.N_ne Z53.out Z10.out (by decide)));have _:=ra (hb);have _:=ra (ho);clear Z15 Z16 Z10 HB Z53;rename_i Z15 Z16 Z10 HB Z82;clear ho hb hg hat;have Z83:0≤(Z51:Int):=od;have Z84:Z51<(l0.length:Int):=od;obtain ⟨Z85,Z86,Z87,Z88,Z89,Z90,Z91,Z92⟩:=at_T32 (Kd.V_reads' Z15.out).2.2 Z51 Z83 Z84;cases Z88;obtain ⟨Z93,Z94,Z95,Z96⟩:=Kd.V_get Z15.out z32 Z51 Z83 (by first | exact Z84 | exact od | (have e_:=(Kd.V_reads' Z15.out).1;omega));obtain ⟨Z97,Z98,rfl,Z99,Z100⟩:=k32_openF Z95;have Z101:=Z96 1 _ rfl;rw [add_field _ _ 1 (by omega)] at Z101;replace Z101:=Option.some.inj (Z101.symm.trans Z90);injection Z101 with hva_ hvn_ hvc_;rw [hva_] at Z100;rw [hvc_] at Z99;have Z102:=ra (show Kd.V k75 75 _ w.heap.size _ _ ((rd_T32 l0 Z51).f1) from Kd.V_mk Z99 Z100);clear hva_ hvn_ hvc_ Z100 Z99;clear Z96 Z94;have Z103:=Aside0.mk Z92;have Z104:=Aside0.mk Z91;clear Z92 Z91;replace Z83:=eq_true Z83;replace Z84:=eq_true Z84) | ((with_reducible refine gate_builtin (b := .append) (xs:=#[.tmp 82, .tmp 87]) rfl ?_);(try (refine gate_guard (by rfl) ?_;dsimp only));at_builtin;refine Kd.N_append k32 (w0:=w) w.heap.size rfl (.tmp 82) (.tmp 87) 25 32 (.agg #[(.string ⟨#[]⟩),(.slice none 0 0)]) 40 rfl Tryz.underlying25 info32 rfl (by decide) (by omega) Z80 Z63 (⟨(rd_T32 l0 Z51).f0,(rd_T32 l0 Z51).f1⟩:S32) [.string ((rd_T32 l0 Z51).f0), .slice Z86 ((rd_T32 l0 Z51).f1).length Z87] (fun k_=>((P0_ k_∨P1_2_ k_)∨w.heap.size≤k_)∧k_≠Z8) (fun k_=>((fun k_=>((P0_ k_∨P1_2_ k_)∨w.heap.size≤k_)∧k_≠Z8)) k_∧some k_≠(Z80:Value).ownBlock) rfl rfl ?aP (fun _ hk=>hk) ?aF ?aO ?aB ?aS ?aL ?_;(case aP=>exact (k32_mkF _ _ (⟨(rd_T32 l0 Z51).f0,(rd_T32 l0 Z51).f1⟩:S32) (Kd.V_reads' (Kd.V_mono (ok':=(fun k_=>((fun k_=>((P0_ k_∨P1_2_ k_)∨w.heap.size≤k_)∧k_≠Z8)) k_∧some k_≠(Z80:Value).ownBlock)) (Z102.out) (fun k_ hk=>⟨⟨hk.1.1,hk.1.2⟩,hk.2⟩))).2.1 (Kd.V_F (Kd.V_mono (ok':=(fun k_=>((fun k_=>((P0_ k_∨P1_2_ k_)∨w.heap.size≤k_)∧k_≠Z8)) k_∧some k_≠(Z80:Value).ownBlock)) (Z102.out) (fun k_ hk=>⟨⟨hk.1.1,hk.1.2⟩,hk.2⟩)))));(case aB=>exact bq);(case aF=>exact (fun k_ hk=>⟨(.inr (Nat.le_trans (below_size bq) hk)),Kd.freshB (g:=Z8) (o := .cells #[.bool a1_0, .string a1_1, .slice A1_2 l1_2.length c1_2] 34 (0,0)) (bk Z10) k_ hk⟩));(case aO=>exact (by (with_reducible repeat (first | apply Kd.N_alloc | apply Kd.N_drewN | apply Kd.N_drew));exact Z82.out));(case aS=>exact (below_size bq));(case aL=>have:=Z71.out;omega);intro Z105 Z106 ho hb hg hat;rw [← Z73.out] at ho;have _:=ra (Kd.V_afterv (ok:=(fun k_=>((P0_ k_∨P1_2_ k_)∨w.heap.size≤k_)∧k_≠Z8)) (vq Z15) hg hat);have _:=ra (Kd.V_afterv (ok:=(fun k_=>((P0_ k_∨P1_2_ k_)∨w.heap.size≤k_)∧k_≠Z8)) (vq Z16) hg hat);have _:=ra (blk_grown (g:=Z8) (o := .cells #[.bool a1_0, .string a1_1, .slice A1_2 l1_2.length c1_2] 34 (0,0)) (bk Z10) hg (Kd.N_ne Z82.out Z10.out (by decide)));have _:=ra (Kd.V_afterv (ok:=(fun k_=>((P0_ k_∨P1_2_ k_)∨w.heap.size≤k_)∧k_≠Z8)) (vq Z102) hg hat);have _:=ra (hb);have _:=ra (ho);clear Z15 Z16 Z10 Z102 HB Z82;rename_i Z15 Z16 Z10 Z102 HB Z107;clear ho hb hg hat))
                    repeat (go_quiet (first | ((with_reducible refine gate_builtin (b := .append) (xs:=#[.tmp 74, .tmp 77]) rfl ?_);(try (refine gate_guard (by rfl) ?_;dsimp only));at_builtin;refine Kd.N_append k32 (w0:=w) w.heap.size rfl (.tmp 74) (.tmp 77) 25 32 (.agg #[(.string ⟨#[]⟩),(.slice none 0 0)]) 40 rfl Tryz.underlying25 info32 rfl (by decide) (by omega) u7 Z49 (⟨a1_1,l1_2⟩:S32) [.string a1_1, .slice A1_2 l1_2.length c1_2] (fun k_=>((P0_ k_∨P1_2_ k_)∨w.heap.size≤k_)∧k_≠Z8) (fun k_=>((fun k_=>((P0_ k_∨P1_2_ k_)∨w.heap.size≤k_)∧k_≠Z8)) k_∧some k_≠(u7:Value).ownBlock) rfl rfl ?aP (fun _ hk=>hk) ?aF ?aO ?aB ?aS ?aL ?_;(case aP=>exact (k32_mkF _ _ (⟨a1_1,l1_2⟩:S32) (Kd.V_reads' (Kd.V_mono (ok':=(fun k_=>((fun k_=>((P0_ k_∨P1_2_ k_)∨w.heap.size≤k_)∧k_≠Z8)) k_∧some k_≠(u7:Value).ownBlock)) (Z16.out) (fun k_ hk=>⟨⟨hk.1,hk.2.2⟩,hk.2.1⟩))).2.1 (Kd.V_F (Kd.V_mono (ok':=(fun k_=>((fun k_=>((P0_ k_∨P1_2_ k_)∨w.heap.size≤k_)∧k_≠Z8)) k_∧some k_≠(u7:Value).ownBlock)) (Z16.out) (fun k_ hk=>⟨⟨hk.1,hk.2.2⟩,hk.2.1⟩)))));(case aB=>exact bq);(case aF=>exact (fun k_ hk=>⟨(.inr (Nat.le_trans (below_size bq) hk)),Kd.freshB (g:=Z8) (o := .cells #[.bool a1_0, .string a1_1, .slice A1_2 l1_2.length c1_2] 34 (0,0)) (bk Z10) k_ hk⟩));(case aO=>exact (by (with_reducible repeat (first | apply Kd.N_alloc | apply Kd.N_drewN | apply Kd.N_drew));exact Z53.out));(case aS=>exact (below_size bq));(case aL=>have:=Z62.out;omega);intro Z80 Z81 ho hb hg hat;rw [← Z64.out] at ho;have _:=ra (Kd.V_afterv (ok:=(fun k_=>((P0_ k_∨P1_2_ k_)∨w.heap.size≤k_)∧k_≠Z8)) (vr (Kd.V_mono Z15.out (fun _ hk=>⟨⟨hk.1,hk.2.2⟩,hk.2.1⟩))) hg hat);have _:=ra (Kd.V_afterv (ok:=(fun k_=>((P0_ k_∨P1_2_ k_)∨w.heap.size≤k_)∧k_≠Z8)) (vr (Kd.V_mono Z16.out (fun _ hk=>⟨⟨hk.1,hk.2.2⟩,hk.2.1⟩))) hg hat);have _:=ra (blk_grown (g:=Z8) (o := .cells #[.bool a1_0, .string a1_1, .slice A1_2 l1_2.length c1_2] 34 (0,0)) (bk Z10) hg (Kd.N_ne Z53.out Z10.out (by decide)));have _:=ra (hb);have _:=ra (ho);clear Z15 Z16 Z10 HB Z53;rename_i Z15 Z16 Z10 HB Z82;clear ho hb hg hat;have Z83:0≤(Z51:Int):=od;have Z84:Z51<(l0.length:Int):=od;obtain ⟨Z85,Z86,Z87,Z88,Z89,Z90,Z91,Z92⟩:=at_T32 (Kd.V_reads' Z15.out).2.2 Z51 Z83 Z84;cases Z88;obtain ⟨Z93,Z94,Z95,Z96⟩:=Kd.V_get Z15.out z32 Z51 Z83 (by first | exact Z84 | exact od | (have e_:=(Kd.V_reads' Z15.out).1;omega));obtain ⟨Z97,Z98,rfl,Z99,Z100⟩:=k32_openF Z95;have Z101:=Z96 1 _ rfl;rw [add_field _ _ 1 (by omega)] at Z101;replace Z101:=Option.some.inj (Z101.symm.trans Z90);injection Z101 with hva_ hvn_ hvc_;rw [hva_] at Z100;rw [hvc_] at Z99;have Z102:=ra (show Kd.V k75 75 _ w.heap.size _ _ ((rd_T32 l0 Z51).f1) from Kd.V_mk Z99 Z100);clear hva_ hvn_ hvc_ Z100 Z99;clear Z96 Z94;have Z103:=Aside0.mk Z92;have Z104:=Aside0.mk Z91;clear Z92 Z91;replace Z83:=eq_true Z83;replace Z84:=eq_true Z84) | ((with_reducible refine gate_builtin (b := .append) (xs:=#[.tmp 82, .tmp 87]) rfl ?_);(try (refine gate_guard (by rfl) ?_;dsimp only));at_builtin;refine Kd.N_append k32 (w0:=w) w.heap.size rfl (.tmp 82) (.tmp 87) 25 32 (.agg #[(.string ⟨#[]⟩),(.slice none 0 0)]) 40 rfl Tryz.underlying25 info32 rfl (by decide) (by omega) Z80 Z63 (⟨(rd_T32 l0 Z51).f0,(rd_T32 l0 Z51).f1⟩:S32) [.string ((rd_T32 l0 Z51).f0), .slice Z86 ((rd_T32 l0 Z51).f1).length Z87] (fun k_=>((P0_ k_∨P1_2_ k_)∨w.heap.size≤k_)∧k_≠Z8) (fun k_=>((fun k_=>((P0_ k_∨P1_2_ k_)∨w.heap.size≤k_)∧k_≠Z8)) k_∧some k_≠(Z80:Value).ownBlock) rfl rfl ?aP (fun _ hk=>hk) ?aF ?aO ?aB ?aS ?aL ?_;(case aP=>exact (k32_mkF _ _ (⟨(rd_T32 l0 Z51).f0,(rd_T32 l0 Z51).f1⟩:S32) (Kd.V_reads' (Kd.V_mono (ok':=(fun k_=>((fun k_=>((P0_ k_∨P1_2_ k_)∨w.heap.size≤k_)∧k_≠Z8)) k_∧some k_≠(Z80:Value).ownBlock)) (Z102.out) (fun k_ hk=>⟨⟨hk.1.1,hk.1.2⟩,hk.2⟩))).2.1 (Kd.V_F (Kd.V_mono (ok':=(fun k_=>((fun k_=>((P0_ k_∨P1_2_ k_)∨w.heap.size≤k_)∧k_≠Z8)) k_∧some k_≠(Z80:Value).ownBlock)) (Z102.out) (fun k_ hk=>⟨⟨hk.1.1,hk.1.2⟩,hk.2⟩)))));(case aB=>exact bq);(case aF=>exact (fun k_ hk=>⟨(.inr (Nat.le_trans (below_size bq) hk)),Kd.freshB (g:=Z8) (o := .cells #[.bool a1_0, .string a1_1, .slice A1_2 l1_2.length c1_2] 34 (0,0)) (bk Z10) k_ hk⟩));(case aO=>exact (by (with_reducible repeat (first | apply Kd.N_alloc | apply Kd.N_drewN | apply Kd.N_drew));exact Z82.out));(case aS=>exact (below_size bq));(case aL=>have:=Z71.out;omega);intro Z105 Z106 ho hb hg hat;rw [← Z73.out] at ho;have _:=ra (Kd.V_afterv (ok:=(fun k_=>((P0_ k_∨P1_2_ k_)∨w.heap.size≤k_)∧k_≠Z8)) (vq Z15) hg hat);have _:=ra (Kd.V_afterv (ok:=(fun k_=>((P0_ k_∨P1_2_ k_)∨w.heap.size≤k_)∧k_≠Z8)) (vq Z16) hg hat);have _:=ra (blk_grown (g:=Z8) (o := .cells #[.bool a1_0, .string a1_1, .slice A1_2 l1_2.length c1_2] 34 (0,0)) (bk Z10) hg (Kd.N_ne Z82.out Z10.out (by decide)));have _:=ra (Kd.V_afterv (ok:=(fun k_=>((P0_ k_∨P1_2_ k_)∨w.heap.size≤k_)∧k_≠Z8)) (vq Z102) hg hat);have _:=ra (hb);have _:=ra (ho);clear Z15 Z16 Z10 Z102 HB Z82;rename_i Z15 Z16 Z10 Z102 HB Z107;clear ho hb hg hat));try go_wp2_with (first | ((with_reducible refine gate_builtin (b := .append) (xs:=#[.tmp 74, .tmp 77]) rfl ?_);(try (refine gate_guard (by rfl) ?_;dsimp only));at_builtin;refine Kd.N_append k32 (w0:=w) w.heap.size rfl (.tmp 74) (.tmp 77) 25 32 (.agg #[(.string ⟨#[]⟩),(.slice none 0 0)]) 40 rfl Tryz.underlying25 info32 rfl (by decide) (by omega) u7 Z49 (⟨a1_1,l1_2⟩:S32) [.string a1_1, .slice A1_2 l1_2.length c1_2] (fun k_=>((P0_ k_∨P1_2_ k_)∨w.heap.size≤k_)∧k_≠Z8) (fun k_=>((fun k_=>((P0_ k_∨P1_2_ k_)∨w.heap.size≤k_)∧k_≠Z8)) k_∧some k_≠(u7:Value).ownBlock) rfl rfl ?aP (fun _ hk=>hk) ?aF ?aO ?aB ?aS ?aL ?_;(case aP=>exact (k32_mkF _ _ (⟨a1_1,l1_2⟩:S32) (Kd.V_reads' (Kd.V_mono (ok':=(fun k_=>((fun k_=>((P0_ k_∨P1_2_ k_)∨w.heap.size≤k_)∧k_≠Z8)) k_∧some k_≠(u7:Value).ownBlock)) (Z16.out) (fun k_ hk=>⟨⟨hk.1,hk.2.2⟩,hk.2.1⟩))).2.1 (Kd.V_F (Kd.V_mono (ok':=(fun k_=>((fun k_=>((P0_ k_∨P1_2_ k_)∨w.heap.size≤k_)∧k_≠Z8)) k_∧some k_≠(u7:Value).ownBlock)) (Z16.out) (fun k_ hk=>⟨⟨hk.1,hk.2.2⟩,hk.2.1⟩)))));(case aB=>exact bq);(case aF=>exact (fun k_ hk=>⟨(.inr (Nat.le_trans (below_size bq) hk)),Kd.freshB (g:=Z8) (o := .cells #[.bool a1_0, .string a1_1, .slice A1_2 l1_2.length c1_2] 34 (0,0)) (bk Z10) k_ hk⟩));(case aO=>exact (by (with_reducible repeat (first | apply Kd.N_alloc | apply Kd.N_drewN | apply Kd.N_drew));exact Z53.out));(case aS=>exact (below_size bq));(case aL=>have:=Z62.out;omega);intro Z80 Z81 ho hb hg hat;rw [← Z64.out] at ho;have _:=ra (Kd.V_afterv (ok:=(fun k_=>((P0_ k_∨P1_2_ k_)∨w.heap.size≤k_)∧k_≠Z8)) (vr (Kd.V_mono Z15.out (fun _ hk=>⟨⟨hk.1,hk.2.2⟩,hk.2.1⟩))) hg hat);have _:=ra (Kd.V_afterv (ok:=(fun k_=>((P0_ k_∨P1_2_ k_)∨w.heap.size≤k_)∧k_≠Z8)) (vr (Kd.V_mono Z16.out (fun _ hk=>⟨⟨hk.1,hk.2.2⟩,hk.2.1⟩))) hg hat);have _:=ra (blk_grown (g:=Z8) (o := .cells #[.bool a1_0, .string a1_1, .slice A1_2 l1_2.length c1_2] 34 (0,0)) (bk Z10) hg (Kd.N_ne Z53.out Z10.out (by decide)));have _:=ra (hb);have _:=ra (ho);clear Z15 Z16 Z10 HB Z53;rename_i Z15 Z16 Z10 HB Z82;clear ho hb hg hat;have Z83:0≤(Z51:Int):=od;have Z84:Z51<(l0.length:Int):=od;obtain ⟨Z85,Z86,Z87,Z88,Z89,Z90,Z91,Z92⟩:=at_T32 (Kd.V_reads' Z15.out).2.2 Z51 Z83 Z84;cases Z88;obtain ⟨Z93,Z94,Z95,Z96⟩:=Kd.V_get Z15.out z32 Z51 Z83 (by first | exact Z84 | exact od | (have e_:=(Kd.V_reads' Z15.out).1;omega));obtain ⟨Z97,Z98,rfl,Z99,Z100⟩:=k32_openF Z95;have Z101:=Z96 1 _ rfl;rw [add_field _ _ 1 (by omega)] at Z101;replace Z101:=Option.some.inj (Z101.symm.trans Z90);injection Z101 with hva_ hvn_ hvc_;rw [hva_] at Z100;rw [hvc_] at Z99;have Z102:=ra (show Kd.V k75 75 _ w.heap.size _ _ ((rd_T32 l0 Z51).f1) from Kd.V_mk Z99 Z100);clear hva_ hvn_ hvc_ Z100 Z99;clear Z96 Z94;have Z103:=Aside0.mk Z92;have Z104:=Aside0.mk Z91;clear Z92 Z91;replace Z83:=eq_true Z83;replace Z84:=eq_true Z84) | ((with_reducible refine gate_builtin (b := .append) (xs:=#[.tmp 82, .tmp 87]) rfl ?_);(try (refine gate_guard (by rfl) ?_;dsimp only));at_builtin;refine Kd.N_append k32 (w0:=w) w.heap.size rfl (.tmp 82) (.tmp 87) 25 32 (.agg #[(.string ⟨#[]⟩),(.slice none 0 0)]) 40 rfl Tryz.underlying25 info32 rfl (by decide) (by omega) Z80 Z63 (⟨(rd_T32 l0 Z51).f0,(rd_T32 l0 Z51).f1⟩:S32) [.string ((rd_T32 l0 Z51).f0), .slice Z86 ((rd_T32 l0 Z51).f1).length Z87] (fun k_=>((P0_ k_∨P1_2_ k_)∨w.heap.size≤k_)∧k_≠Z8) (fun k_=>((fun k_=>((P0_ k_∨P1_2_ k_)∨w.heap.size≤k_)∧k_≠Z8)) k_∧some k_≠(Z80:Value).ownBlock) rfl rfl ?aP (fun _ hk=>hk) ?aF ?aO ?aB ?aS ?aL ?_;(case aP=>exact (k32_mkF _ _ (⟨(rd_T32 l0 Z51).f0,(rd_T32 l0 Z51).f1⟩:S32) (Kd.V_reads' (Kd.V_mono (ok':=(fun k_=>((fun k_=>((P0_ k_∨P1_2_ k_)∨w.heap.size≤k_)∧k_≠Z8)) k_∧some k_≠(Z80:Value).ownBlock)) (Z102.out) (fun k_ hk=>⟨⟨hk.1.1,hk.1.2⟩,hk.2⟩))).2.1 (Kd.V_F (Kd.V_mono (ok':=(fun k_=>((fun k_=>((P0_ k_∨P1_2_ k_)∨w.heap.size≤k_)∧k_≠Z8)) k_∧some k_≠(Z80:Value).ownBlock)) (Z102.out) (fun k_ hk=>⟨⟨hk.1.1,hk.1.2⟩,hk.2⟩)))));(case aB=>exact bq);(case aF=>exact (fun k_ hk=>⟨(.inr (Nat.le_trans (below_size bq) hk)),Kd.freshB (g:=Z8) (o := .cells #[.bool a1_0, .string a1_1, .slice A1_2 l1_2.length c1_2] 34 (0,0)) (bk Z10) k_ hk⟩));(case aO=>exact (by (with_reducible repeat (first | apply Kd.N_alloc | apply Kd.N_drewN | apply Kd.N_drew));exact Z82.out));(case aS=>exact (below_size bq));(case aL=>have:=Z71.out;omega);intro Z105 Z106 ho hb hg hat;rw [← Z73.out] at ho;have _:=ra (Kd.V_afterv (ok:=(fun k_=>((P0_ k_∨P1_2_ k_)∨w.heap.size≤k_)∧k_≠Z8)) (vq Z15) hg hat);have _:=ra (Kd.V_afterv (ok:=(fun k_=>((P0_ k_∨P1_2_ k_)∨w.heap.size≤k_)∧k_≠Z8)) (vq Z16) hg hat);have _:=ra (blk_grown (g:=Z8) (o := .cells #[.bool a1_0, .string a1_1, .slice A1_2 l1_2.length c1_2] 34 (0,0)) (bk Z10) hg (Kd.N_ne Z82.out Z10.out (by decide)));have _:=ra (Kd.V_afterv (ok:=(fun k_=>((P0_ k_∨P1_2_ k_)∨w.heap.size≤k_)∧k_≠Z8)) (vq Z102) hg hat);have _:=ra (hb);have _:=ra (ho);clear Z15 Z16 Z10 Z102 HB Z82;rename_i Z15 Z16 Z10 Z102 HB Z107;clear ho hb hg hat)))
                    go_roundg Z59
                    case measure=>have:=Z14.out;have:=Z29.out;have:=Z34.out;have:=Z52.out;have:=Z58.out;omega
                    case rel=>exact ⟨(Z72),(true),(wrap64 (Z51+1)),rs,rs,H',⟨by have:=Z14.out;have:=Z29.out;have:=Z34.out;have:=Z52.out;have:=Z58.out;omega⟩,⟨by (with_reducible repeat (first | apply Kd.V_alloc | apply Kd.V_drewN | apply Kd.V_drew));exact Kd.V_mono Z15.out (fun _ hk=>⟨hk.1.1,⟨hk.2,hk.1.2⟩⟩)⟩,⟨by (with_reducible repeat (first | apply Kd.N_alloc | apply Kd.N_drewN | apply Kd.N_drew));exact Z107.out⟩,⟨by (with_reducible repeat (first | apply Kd.V_alloc | apply Kd.V_drewN | apply Kd.V_drew));exact Kd.V_mono Z16.out (fun _ hk=>⟨hk.1.1,⟨hk.2,hk.1.2⟩⟩)⟩,⟨bk Z10⟩,⟨bq⟩⟩
                   ·rw [if_neg Z70] at H;exact absurd H (by simp)
                 ·rw [if_neg Z61] at H;exact absurd H (by simp)
                ·rcases ed H with ⟨-,Z61,Z62,H⟩ | ⟨Z63,Z61,Z62,H⟩
                 ·have H':=ra H;clear H;go_wp2
                  repeat (go_quiet (fail);try go_wp2)
                  go_roundg Z59
                  case measure=>have:=Z14.out;have:=Z29.out;have:=Z34.out;have:=Z52.out;have:=Z58.out;omega
                  case rel=>exact ⟨(Z49),(Z50),(wrap64 (Z51+1)),rs,rs,H',⟨by have:=Z14.out;have:=Z29.out;have:=Z34.out;have:=Z52.out;have:=Z58.out;omega⟩,⟨by (with_reducible repeat (first | apply Kd.V_alloc | apply Kd.V_drewN | apply Kd.V_drew));exact Z15.out⟩,⟨by (with_reducible repeat (first | apply Kd.N_alloc | apply Kd.N_drewN | apply Kd.N_drew));exact Z53.out⟩,⟨by (with_reducible repeat (first | apply Kd.V_alloc | apply Kd.V_drewN | apply Kd.V_drew));exact Z16.out⟩,⟨bk Z10⟩,⟨bq⟩⟩
                 ·obtain ⟨Z64,H⟩:=tn H;obtain ⟨Z65,H⟩:=tn H;by_cases Z66:Z49.length<3518437208883
                  ·rw [if_pos Z66] at H;have Z67:=ra Z66;clear Z66;obtain ⟨Z68,hy_⟩:∃ y_:List (S32),y_=(Z49++[(⟨(rd_T32 l0 Z51).f0,(rd_T32 l0 Z51).f1⟩:S32)]):=⟨_,rfl⟩;replace H:(spec_ProbeHappen.l0 Z59 l0 Z19 Z68 Z50 (wrap64 (Z51+1)) a1_0 a1_1 l1_2)=some (r1,r2):=yh;have Z69:=ra hy_;clear hy_;have H':=ra H;clear H;have Z70:0≤(Z51:Int):=od;have Z71:Z51<(l0.length:Int):=od;obtain ⟨Z72,Z73,Z74,Z75,Z76,Z77,Z78,Z79⟩:=at_T32 (Kd.V_reads' Z15.out).2.2 Z51 Z70 Z71;cases Z75
                   obtain ⟨Z80,Z81,Z82,Z83⟩:=Kd.V_get Z15.out z32 Z51 Z70 (by first | exact Z71 | exact od | (have e_:=(Kd.V_reads' Z15.out).1;omega));obtain ⟨Z84,Z85,rfl,Z86,Z87⟩:=k32_openF Z82;have Z88:=Z83 1 _ rfl;rw [add_field _ _ 1 (by omega)] at Z88;replace Z88:=Option.some.inj (Z88.symm.trans Z77)
                   injection Z88 with hva_ hvn_ hvc_
                   rw [hva_] at Z87;rw [hvc_] at Z86;have Z89:=ra (show Kd.V k75 75 _ w.heap.size _ _ ((rd_T32 l0 Z51).f1) from Kd.V_mk Z86 Z87);clear hva_ hvn_ hvc_ Z87 Z86;clear Z83 Z81;have Z90:=ra Z79;have Z91:=ra Z78;clear Z79 Z78;replace Z70:=eq_true Z70;replace Z71:=eq_true Z71
                   go_wp2_with (first | ((with_reducible refine gate_builtin (b := .append) (xs:=#[.tmp 82, .tmp 87]) rfl ?_);(try (refine gate_guard (by rfl) ?_;dsimp only));at_builtin;refine Kd.N_append k32 (w0:=w) w.heap.size rfl (.tmp 82) (.tmp 87) 25 32 (.agg #[(.string ⟨#[]⟩),(.slice none 0 0)]) 40 rfl Tryz.underlying25 info32 rfl (by decide) (by omega) u7 Z49 (⟨(rd_T32 l0 Z51).f0,(rd_T32 l0 Z51).f1⟩:S32) [.string ((rd_T32 l0 Z51).f0), .slice Z73 ((rd_T32 l0 Z51).f1).length Z74] (fun k_=>((P0_ k_∨P1_2_ k_)∨w.heap.size≤k_)∧k_≠Z8) (fun k_=>((fun k_=>((P0_ k_∨P1_2_ k_)∨w.heap.size≤k_)∧k_≠Z8)) k_∧some k_≠(u7:Value).ownBlock) rfl rfl ?aP (fun _ hk=>hk) ?aF ?aO ?aB ?aS ?aL ?_;(case aP=>exact (k32_mkF _ _ (⟨(rd_T32 l0 Z51).f0,(rd_T32 l0 Z51).f1⟩:S32) (Kd.V_reads' (Kd.V_mono (ok':=(fun k_=>((fun k_=>((P0_ k_∨P1_2_ k_)∨w.heap.size≤k_)∧k_≠Z8)) k_∧some k_≠(u7:Value).ownBlock)) (Z89.out) (fun k_ hk=>⟨⟨hk.1,hk.2.2⟩,hk.2.1⟩))).2.1 (Kd.V_F (Kd.V_mono (ok':=(fun k_=>((fun k_=>((P0_ k_∨P1_2_ k_)∨w.heap.size≤k_)∧k_≠Z8)) k_∧some k_≠(u7:Value).ownBlock)) (Z89.out) (fun k_ hk=>⟨⟨hk.1,hk.2.2⟩,hk.2.1⟩)))));(case aB=>exact bq);(case aF=>exact (fun k_ hk=>⟨(.inr (Nat.le_trans (below_size bq) hk)),Kd.freshB (g:=Z8) (o := .cells #[.bool a1_0, .string a1_1, .slice A1_2 l1_2.length c1_2] 34 (0,0)) (bk Z10) k_ hk⟩));(case aO=>exact (by (with_reducible repeat (first | apply Kd.N_alloc | apply Kd.N_drewN | apply Kd.N_drew));exact Z53.out));(case aS=>exact (below_size bq));(case aL=>have:=Z67.out;omega);intro Z92 Z93 ho hb hg hat;rw [← Z69.out] at ho;have _:=ra (Kd.V_afterv (ok:=(fun k_=>((P0_ k_∨P1_2_ k_)∨w.heap.size≤k_)∧k_≠Z8)) (vr (Kd.V_mono Z15.out (fun _ hk=>⟨⟨hk.1,hk.2.2⟩,hk.2.1⟩))) hg hat);have _:=ra (Kd.V_afterv (ok:=(fun k_=>((P0_ k_∨P1_2_ k_)∨w.heap.size≤k_)∧k_≠Z8)) (vr (Kd.V_mono Z16.out (fun _ hk=>⟨⟨hk.1,hk.2.2⟩,hk.2.1⟩))) hg hat);have _:=ra (blk_grown (g:=Z8) (o := .cells #[.bool a1_0, .string a1_1, .slice A1_2 l1_2.length c1_2] 34 (0,0)) (bk Z10) hg (Kd.N_ne Z53.out Z10.out (by decide)));have _:=ra (Kd.V_afterv (ok:=(fun k_=>((P0_ k_∨P1_2_ k_)∨w.heap.size≤k_)∧k_≠Z8)) (vr (Kd.V_mono Z89.out (fun _ hk=>⟨⟨hk.1,hk.2.2⟩,hk.2.1⟩))) hg hat);have _:=ra (hb);have _:=ra (ho);clear Z15 Z16 Z10 Z89 HB Z53;rename_i Z15 Z16 Z10 Z89 HB Z94;clear ho hb hg hat))
                   repeat (go_quiet (first | ((with_reducible refine gate_builtin (b := .append) (xs:=#[.tmp 82, .tmp 87]) rfl ?_);(try (refine gate_guard (by rfl) ?_;dsimp only));at_builtin;refine Kd.N_append k32 (w0:=w) w.heap.size rfl (.tmp 82) (.tmp 87) 25 32 (.agg #[(.string ⟨#[]⟩),(.slice none 0 0)]) 40 rfl Tryz.underlying25 info32 rfl (by decide) (by omega) u7 Z49 (⟨(rd_T32 l0 Z51).f0,(rd_T32 l0 Z51).f1⟩:S32) [.string ((rd_T32 l0 Z51).f0), .slice Z73 ((rd_T32 l0 Z51).f1).length Z74] (fun k_=>((P0_ k_∨P1_2_ k_)∨w.heap.size≤k_)∧k_≠Z8) (fun k_=>((fun k_=>((P0_ k_∨P1_2_ k_)∨w.heap.size≤k_)∧k_≠Z8)) k_∧some k_≠(u7:Value).ownBlock) rfl rfl ?aP (fun _ hk=>hk) ?aF ?aO ?aB ?aS ?aL ?_;(case aP=>exact (k32_mkF _ _ (⟨(rd_T32 l0 Z51).f0,(rd_T32 l0 Z51).f1⟩:S32) (Kd.V_reads' (Kd.V_mono (ok':=(fun k_=>((fun k_=>((P0_ k_∨P1_2_ k_)∨w.heap.size≤k_)∧k_≠Z8)) k_∧some k_≠(u7:Value).ownBlock)) (Z89.out) (fun k_ hk=>⟨⟨hk.1,hk.2.2⟩,hk.2.1⟩))).2.1 (Kd.V_F (Kd.V_mono (ok':=(fun k_=>((fun k_=>((P0_ k_∨P1_2_ k_)∨w.heap.size≤k_)∧k_≠Z8)) k_∧some k_≠(u7:Value).ownBlock)) (Z89.out) (fun k_ hk=>⟨⟨hk.1,hk.2.2⟩,hk.2.1⟩)))));(case aB=>exact bq);(case aF=>exact (fun k_ hk=>⟨(.inr (Nat.le_trans (below_size bq) hk)),Kd.freshB (g:=Z8) (o := .cells #[.bool a1_0, .string a1_1, .slice A1_2 l1_2.length c1_2] 34 (0,0)) (bk Z10) k_ hk⟩));(case aO=>exact (by (with_reducible repeat (first | apply Kd.N_alloc | apply Kd.N_drewN | apply Kd.N_drew));exact Z53.out));(case aS=>exact (below_size bq));(case aL=>have:=Z67.out;omega);intro Z92 Z93 ho hb hg hat;rw [← Z69.out] at ho;have _:=ra (Kd.V_afterv (ok:=(fun k_=>((P0_ k_∨P1_2_ k_)∨w.heap.size≤k_)∧k_≠Z8)) (vr (Kd.V_mono Z15.out (fun _ hk=>⟨⟨hk.1,hk.2.2⟩,hk.2.1⟩))) hg hat);have _:=ra (Kd.V_afterv (ok:=(fun k_=>((P0_ k_∨P1_2_ k_)∨w.heap.size≤k_)∧k_≠Z8)) (vr (Kd.V_mono Z16.out (fun _ hk=>⟨⟨hk.1,hk.2.2⟩,hk.2.1⟩))) hg hat);have _:=ra (blk_grown (g:=Z8) (o := .cells #[.bool a1_0, .string a1_1, .slice A1_2 l1_2.length c1_2] 34 (0,0)) (bk Z10) hg (Kd.N_ne Z53.out Z10.out (by decide)));have _:=ra (Kd.V_afterv (ok:=(fun k_=>((P0_ k_∨P1_2_ k_)∨w.heap.size≤k_)∧k_≠Z8)) (vr (Kd.V_mono Z89.out (fun _ hk=>⟨⟨hk.1,hk.2.2⟩,hk.2.1⟩))) hg hat);have _:=ra (hb);have _:=ra (ho);clear Z15 Z16 Z10 Z89 HB Z53;rename_i Z15 Z16 Z10 Z89 HB Z94;clear ho hb hg hat));try go_wp2_with (first | ((with_reducible refine gate_builtin (b := .append) (xs:=#[.tmp 82, .tmp 87]) rfl ?_);(try (refine gate_guard (by rfl) ?_;dsimp only));at_builtin;refine Kd.N_append k32 (w0:=w) w.heap.size rfl (.tmp 82) (.tmp 87) 25 32 (.agg #[(.string ⟨#[]⟩),(.slice none 0 0)]) 40 rfl Tryz.underlying25 info32 rfl (by decide) (by omega) u7 Z49 (⟨(rd_T32 l0 Z51).f0,(rd_T32 l0 Z51).f1⟩:S32) [.string ((rd_T32 l0 Z51).f0), .slice Z73 ((rd_T32 l0 Z51).f1).length Z74] (fun k_=>((P0_ k_∨P1_2_ k_)∨w.heap.size≤k_)∧k_≠Z8) (fun k_=>((fun k_=>((P0_ k_∨P1_2_ k_)∨w.heap.size≤k_)∧k_≠Z8)) k_∧some k_≠(u7:Value).ownBlock) rfl rfl ?aP (fun _ hk=>hk) ?aF ?aO ?aB ?aS ?aL ?_;(case aP=>exact (k32_mkF _ _ (⟨(rd_T32 l0 Z51).f0,(rd_T32 l0 Z51).f1⟩:S32) (Kd.V_reads' (Kd.V_mono (ok':=(fun k_=>((fun k_=>((P0_ k_∨P1_2_ k_)∨w.heap.size≤k_)∧k_≠Z8)) k_∧some k_≠(u7:Value).ownBlock)) (Z89.out) (fun k_ hk=>⟨⟨hk.1,hk.2.2⟩,hk.2.1⟩))).2.1 (Kd.V_F (Kd.V_mono (ok':=(fun k_=>((fun k_=>((P0_ k_∨P1_2_ k_)∨w.heap.size≤k_)∧k_≠Z8)) k_∧some k_≠(u7:Value).ownBlock)) (Z89.out) (fun k_ hk=>⟨⟨hk.1,hk.2.2⟩,hk.2.1⟩)))));(case aB=>exact bq);(case aF=>exact (fun k_ hk=>⟨(.inr (Nat.le_trans (below_size bq) hk)),Kd.freshB (g:=Z8) (o := .cells #[.bool a1_0, .string a1_1, .slice A1_2 l1_2.length c1_2] 34 (0,0)) (bk Z10) k_ hk⟩));(case aO=>exact (by (with_reducible repeat (first | apply Kd.N_alloc | apply Kd.N_drewN | apply Kd.N_drew));exact Z53.out));(case aS=>exact (below_size bq));(case aL=>have:=Z67.out;omega);intro Z92 Z93 ho hb hg hat;rw [← Z69.out] at ho;have _:=ra (Kd.V_afterv (ok:=(fun k_=>((P0_ k_∨P1_2_ k_)∨w.heap.size≤k_)∧k_≠Z8)) (vr (Kd.V_mono Z15.out (fun _ hk=>⟨⟨hk.1,hk.2.2⟩,hk.2.1⟩))) hg hat);have _:=ra (Kd.V_afterv (ok:=(fun k_=>((P0_ k_∨P1_2_ k_)∨w.heap.size≤k_)∧k_≠Z8)) (vr (Kd.V_mono Z16.out (fun _ hk=>⟨⟨hk.1,hk.2.2⟩,hk.2.1⟩))) hg hat);have _:=ra (blk_grown (g:=Z8) (o := .cells #[.bool a1_0, .string a1_1, .slice A1_2 l1_2.length c1_2] 34 (0,0)) (bk Z10) hg (Kd.N_ne Z53.out Z10.out (by decide)));have _:=ra (Kd.V_afterv (ok:=(fun k_=>((P0_ k_∨P1_2_ k_)∨w.heap.size≤k_)∧k_≠Z8)) (vr (Kd.V_mono Z89.out (fun _ hk=>⟨⟨hk.1,hk.2.2⟩,hk.2.1⟩))) hg hat);have _:=ra (hb);have _:=ra (ho);clear Z15 Z16 Z10 Z89 HB Z53;rename_i Z15 Z16 Z10 Z89 HB Z94;clear ho hb hg hat)))
                   go_roundg Z59
                   case measure=>have:=Z14.out;have:=Z29.out;have:=Z34.out;have:=Z52.out;have:=Z58.out;omega
                   case rel=>exact ⟨(Z68),(Z50),(wrap64 (Z51+1)),rs,rs,H',⟨by have:=Z14.out;have:=Z29.out;have:=Z34.out;have:=Z52.out;have:=Z58.out;omega⟩,⟨by (with_reducible repeat (first | apply Kd.V_alloc | apply Kd.V_drewN | apply Kd.V_drew));exact Kd.V_mono Z15.out (fun _ hk=>⟨hk.1.1,⟨hk.2,hk.1.2⟩⟩)⟩,⟨by (with_reducible repeat (first | apply Kd.N_alloc | apply Kd.N_drewN | apply Kd.N_drew));exact Z94.out⟩,⟨by (with_reducible repeat (first | apply Kd.V_alloc | apply Kd.V_drewN | apply Kd.V_drew));exact Kd.V_mono Z16.out (fun _ hk=>⟨hk.1.1,⟨hk.2,hk.1.2⟩⟩)⟩,⟨bk Z10⟩,⟨bq⟩⟩
                  ·rw [if_neg Z66] at H;exact absurd H (by simp)
             ·rcases ud H with ⟨rfl,Z56⟩ | ⟨rfl,Z56⟩<;>have H:=Z56
              ·obtain ⟨Z57,Z58,H⟩:=bo H;simp only [Option.some.injEq,Prod.mk.injEq] at H;obtain ⟨rfl,rfl⟩:=H;obtain ⟨Z59,Z60,Z61⟩:=Kd.N_slice Z53.out;subst Z61
               go_wp2_with (first | (go_at_call 46;(with_reducible refine (spec_l2List.calls _ _ _ _ _ _ ?side1 ?side2 Z58.out).mono ?_);(case side1=>repeat (first | exact (Kd.N_reads' Z53.out).2.2 | (with_reducible refine Kd.C_alloc ?_ _) | (with_reducible refine Kd.C_drewN ?_ _) | (with_reducible refine Kd.C_drew ?_)));(case side2=>exact (Kd.N_reads' Z53.out).2.1);rintro e Z62 ⟨Z63,rfl,Z64,hb⟩;have Z65:=ra (Kd.S_lower Z64 (below_size (by repeat (first | (with_reducible first | exact HB.out | apply below_alloc | apply pw_below_drewN | apply below_drew1 | refine below_set ?_ (Aside0.out (by assumption))) | exact HB.out))));have Z66:=ra (Kd.N_lower (Kd.N_mono (ok':=fun k_=>((P0_ k_∨P1_2_ k_)∨w.heap.size≤k_)∧some k_≠(.slice Z59 Z49.length Z60:Value).ownBlock∧k_≠Z8) (Kd.S_N (Kd.S_bound Z64)) (fun k_ hk_=>⟨(.inr (Nat.le_trans (below_size bq) hk_.2.1)),(Kd.fresh' (Kd.N_lt (by (with_reducible repeat (first | apply Kd.N_alloc | apply Kd.N_drewN | apply Kd.N_drew));exact Z53.out)) k_ hk_.2.1),(Kd.freshB (g:=Z8) (o := .cells #[.bool a1_0, .string a1_1, .slice A1_2 l1_2.length c1_2] 34 (0,0)) (bk Z10) k_ hk_.2.1)⟩)) (below_size bq));replace Z15:=ra (Kd.V_elder' (vq Z15) (Kd.S_base Z64) hb);replace Z53:=ra (Kd.N_elder' (by (with_reducible repeat (first | apply Kd.N_alloc | apply Kd.N_drewN | apply Kd.N_drew));exact Z53.out) (Kd.S_base Z64) hb);replace Z16:=ra (Kd.V_elder' (vq Z16) (Kd.S_base Z64) hb);replace Z10:=bb (bk Z10) hb;replace HB:=bs hb;clear hb Z64))
               repeat (go_quiet (first | (go_at_call 46;(with_reducible refine (spec_l2List.calls _ _ _ _ _ _ ?side1 ?side2 Z58.out).mono ?_);(case side1=>repeat (first | exact (Kd.N_reads' Z53.out).2.2 | (with_reducible refine Kd.C_alloc ?_ _) | (with_reducible refine Kd.C_drewN ?_ _) | (with_reducible refine Kd.C_drew ?_)));(case side2=>exact (Kd.N_reads' Z53.out).2.1);rintro e Z62 ⟨Z63,rfl,Z64,hb⟩;have Z65:=ra (Kd.S_lower Z64 (below_size (by repeat (first | (with_reducible first | exact HB.out | apply below_alloc | apply pw_below_drewN | apply below_drew1 | refine below_set ?_ (Aside0.out (by assumption))) | exact HB.out))));have Z66:=ra (Kd.N_lower (Kd.N_mono (ok':=fun k_=>((P0_ k_∨P1_2_ k_)∨w.heap.size≤k_)∧some k_≠(.slice Z59 Z49.length Z60:Value).ownBlock∧k_≠Z8) (Kd.S_N (Kd.S_bound Z64)) (fun k_ hk_=>⟨(.inr (Nat.le_trans (below_size bq) hk_.2.1)),(Kd.fresh' (Kd.N_lt (by (with_reducible repeat (first | apply Kd.N_alloc | apply Kd.N_drewN | apply Kd.N_drew));exact Z53.out)) k_ hk_.2.1),(Kd.freshB (g:=Z8) (o := .cells #[.bool a1_0, .string a1_1, .slice A1_2 l1_2.length c1_2] 34 (0,0)) (bk Z10) k_ hk_.2.1)⟩)) (below_size bq));replace Z15:=ra (Kd.V_elder' (vq Z15) (Kd.S_base Z64) hb);replace Z53:=ra (Kd.N_elder' (by (with_reducible repeat (first | apply Kd.N_alloc | apply Kd.N_drewN | apply Kd.N_drew));exact Z53.out) (Kd.S_base Z64) hb);replace Z16:=ra (Kd.V_elder' (vq Z16) (Kd.S_base Z64) hb);replace Z10:=bb (bk Z10) hb;replace HB:=bs hb;clear hb Z64));try go_wp2_with (first | (go_at_call 46;(with_reducible refine (spec_l2List.calls _ _ _ _ _ _ ?side1 ?side2 Z58.out).mono ?_);(case side1=>repeat (first | exact (Kd.N_reads' Z53.out).2.2 | (with_reducible refine Kd.C_alloc ?_ _) | (with_reducible refine Kd.C_drewN ?_ _) | (with_reducible refine Kd.C_drew ?_)));(case side2=>exact (Kd.N_reads' Z53.out).2.1);rintro e Z62 ⟨Z63,rfl,Z64,hb⟩;have Z65:=ra (Kd.S_lower Z64 (below_size (by repeat (first | (with_reducible first | exact HB.out | apply below_alloc | apply pw_below_drewN | apply below_drew1 | refine below_set ?_ (Aside0.out (by assumption))) | exact HB.out))));have Z66:=ra (Kd.N_lower (Kd.N_mono (ok':=fun k_=>((P0_ k_∨P1_2_ k_)∨w.heap.size≤k_)∧some k_≠(.slice Z59 Z49.length Z60:Value).ownBlock∧k_≠Z8) (Kd.S_N (Kd.S_bound Z64)) (fun k_ hk_=>⟨(.inr (Nat.le_trans (below_size bq) hk_.2.1)),(Kd.fresh' (Kd.N_lt (by (with_reducible repeat (first | apply Kd.N_alloc | apply Kd.N_drewN | apply Kd.N_drew));exact Z53.out)) k_ hk_.2.1),(Kd.freshB (g:=Z8) (o := .cells #[.bool a1_0, .string a1_1, .slice A1_2 l1_2.length c1_2] 34 (0,0)) (bk Z10) k_ hk_.2.1)⟩)) (below_size bq));replace Z15:=ra (Kd.V_elder' (vq Z15) (Kd.S_base Z64) hb);replace Z53:=ra (Kd.N_elder' (by (with_reducible repeat (first | apply Kd.N_alloc | apply Kd.N_drewN | apply Kd.N_drew));exact Z53.out) (Kd.S_base Z64) hb);replace Z16:=ra (Kd.V_elder' (vq Z16) (Kd.S_base Z64) hb);replace Z10:=bb (bk Z10) hb;replace HB:=bs hb;clear hb Z64)))
               go_ret2;exact ⟨_,re,by (with_reducible repeat (first | apply Kd.S_alloc | apply Kd.S_drewN | apply Kd.S_drew));exact Z65.out,bq⟩
              ·by_cases Z57:Z49.length<3518437208883
               ·rw [if_pos Z57] at H;have Z58:=ra Z57;clear Z57;obtain ⟨Z59,hy_⟩:∃ y_:List (S32),y_=(Z49++[(⟨a1_1,l1_2⟩:S32)]):=⟨_,rfl⟩;replace H:((spec_l2List.f Z54 Z59).bind fun t432=>(some (t432,0)))=some (r1,r2):=yh;have Z60:=ra hy_;clear hy_;obtain ⟨Z61,Z62,H⟩:=bo H;simp only [Option.some.injEq,Prod.mk.injEq] at H;obtain ⟨rfl,rfl⟩:=H;have Z63:wr.cell? ⟨Z8,0,none⟩=some (.bool a1_0):=(blk_cell Z10.out 0).trans rfl;have Z64:wr.cell? ⟨Z8,1,none⟩=some (.string a1_1):=(blk_cell Z10.out 1).trans rfl;have Z65:wr.cell? ⟨Z8,2,none⟩=some (.slice A1_2 l1_2.length c1_2):=(blk_cell Z10.out 2).trans rfl;have Z66:=blk_frozen Z10.out 0;have Z67:=blk_frozen Z10.out 1;have Z68:=blk_frozen Z10.out 2
                go_wp2_with (first | ((with_reducible refine gate_builtin (b := .append) (xs:=#[.tmp 91, .tmp 94]) rfl ?_);(try (refine gate_guard (by rfl) ?_;dsimp only));at_builtin;refine Kd.N_append k32 (w0:=w) w.heap.size rfl (.tmp 91) (.tmp 94) 25 32 (.agg #[(.string ⟨#[]⟩),(.slice none 0 0)]) 40 rfl Tryz.underlying25 info32 rfl (by decide) (by omega) u7 Z49 (⟨a1_1,l1_2⟩:S32) [.string a1_1, .slice A1_2 l1_2.length c1_2] (fun k_=>((P0_ k_∨P1_2_ k_)∨w.heap.size≤k_)∧k_≠Z8) (fun k_=>((fun k_=>((P0_ k_∨P1_2_ k_)∨w.heap.size≤k_)∧k_≠Z8)) k_∧some k_≠(u7:Value).ownBlock) rfl rfl ?aP (fun _ hk=>hk) ?aF ?aO ?aB ?aS ?aL ?_;(case aP=>exact (k32_mkF _ _ (⟨a1_1,l1_2⟩:S32) (Kd.V_reads' (Kd.V_mono (ok':=(fun k_=>((fun k_=>((P0_ k_∨P1_2_ k_)∨w.heap.size≤k_)∧k_≠Z8)) k_∧some k_≠(u7:Value).ownBlock)) (Z16.out) (fun k_ hk=>⟨⟨hk.1,hk.2.2⟩,hk.2.1⟩))).2.1 (Kd.V_F (Kd.V_mono (ok':=(fun k_=>((fun k_=>((P0_ k_∨P1_2_ k_)∨w.heap.size≤k_)∧k_≠Z8)) k_∧some k_≠(u7:Value).ownBlock)) (Z16.out) (fun k_ hk=>⟨⟨hk.1,hk.2.2⟩,hk.2.1⟩)))));(case aB=>exact bq);(case aF=>exact (fun k_ hk=>⟨(.inr (Nat.le_trans (below_size bq) hk)),Kd.freshB (g:=Z8) (o := .cells #[.bool a1_0, .string a1_1, .slice A1_2 l1_2.length c1_2] 34 (0,0)) (bk Z10) k_ hk⟩));(case aO=>exact (by (with_reducible repeat (first | apply Kd.N_alloc | apply Kd.N_drewN | apply Kd.N_drew));exact Z53.out));(case aS=>exact (below_size bq));(case aL=>have:=Z58.out;omega);intro Z69 Z70 ho hb hg hat;rw [← Z60.out] at ho;have _:=ra (Kd.V_afterv (ok:=(fun k_=>((P0_ k_∨P1_2_ k_)∨w.heap.size≤k_)∧k_≠Z8)) (vr (Kd.V_mono Z15.out (fun _ hk=>⟨⟨hk.1,hk.2.2⟩,hk.2.1⟩))) hg hat);have _:=ra (Kd.V_afterv (ok:=(fun k_=>((P0_ k_∨P1_2_ k_)∨w.heap.size≤k_)∧k_≠Z8)) (vr (Kd.V_mono Z16.out (fun _ hk=>⟨⟨hk.1,hk.2.2⟩,hk.2.1⟩))) hg hat);have _:=ra (blk_grown (g:=Z8) (o := .cells #[.bool a1_0, .string a1_1, .slice A1_2 l1_2.length c1_2] 34 (0,0)) (bk Z10) hg (Kd.N_ne Z53.out Z10.out (by decide)));have _:=ra (hb);have _:=ra (ho);clear Z15 Z16 Z10 HB Z53;rename_i Z15 Z16 Z10 HB Z71;clear ho hb hg hat;obtain ⟨Z72,Z73,Z74⟩:=Kd.N_slice Z71.out;subst Z74) | (go_at_call 46;(with_reducible refine (spec_l2List.calls _ _ _ _ _ _ ?side1 ?side2 Z62.out).mono ?_);(case side1=>repeat (first | exact (Kd.N_reads' Z71.out).2.2 | (with_reducible refine Kd.C_alloc ?_ _) | (with_reducible refine Kd.C_drewN ?_ _) | (with_reducible refine Kd.C_drew ?_)));(case side2=>exact (Kd.N_reads' Z71.out).2.1);rintro e Z75 ⟨Z76,rfl,Z77,hb⟩;have Z78:=ra (Kd.S_lower Z77 (below_size (by repeat (first | (with_reducible first | exact HB.out | apply below_alloc | apply pw_below_drewN | apply below_drew1 | refine below_set ?_ (Aside0.out (by assumption))) | exact HB.out))));have Z79:=ra (Kd.N_lower (Kd.N_mono (ok':=fun k_=>((P0_ k_∨P1_2_ k_)∨w.heap.size≤k_)∧some k_≠(.slice Z72 Z59.length Z73:Value).ownBlock∧k_≠Z8) (Kd.S_N (Kd.S_bound Z77)) (fun k_ hk_=>⟨(.inr (Nat.le_trans (below_size bq) hk_.2.1)),(Kd.fresh' (Kd.N_lt (by (with_reducible repeat (first | apply Kd.N_alloc | apply Kd.N_drewN | apply Kd.N_drew));exact Z71.out)) k_ hk_.2.1),(Kd.freshB (g:=Z8) (o := .cells #[.bool a1_0, .string a1_1, .slice A1_2 l1_2.length c1_2] 34 (0,0)) (bk Z10) k_ hk_.2.1)⟩)) (below_size bq));replace Z15:=ra (Kd.V_elder' (vq Z15) (Kd.S_base Z77) hb);replace Z16:=ra (Kd.V_elder' (vq Z16) (Kd.S_base Z77) hb);replace Z71:=ra (Kd.N_elder' (by (with_reducible repeat (first | apply Kd.N_alloc | apply Kd.N_drewN | apply Kd.N_drew));exact Z71.out) (Kd.S_base Z77) hb);replace Z10:=bb (bk Z10) hb;replace HB:=bs hb;clear hb Z77))
                repeat (go_quiet (first | ((with_reducible refine gate_builtin (b := .append) (xs:=#[.tmp 91, .tmp 94]) rfl ?_);(try (refine gate_guard (by rfl) ?_;dsimp only));at_builtin;refine Kd.N_append k32 (w0:=w) w.heap.size rfl (.tmp 91) (.tmp 94) 25 32 (.agg #[(.string ⟨#[]⟩),(.slice none 0 0)]) 40 rfl Tryz.underlying25 info32 rfl (by decide) (by omega) u7 Z49 (⟨a1_1,l1_2⟩:S32) [.string a1_1, .slice A1_2 l1_2.length c1_2] (fun k_=>((P0_ k_∨P1_2_ k_)∨w.heap.size≤k_)∧k_≠Z8) (fun k_=>((fun k_=>((P0_ k_∨P1_2_ k_)∨w.heap.size≤k_)∧k_≠Z8)) k_∧some k_≠(u7:Value).ownBlock) rfl rfl ?aP (fun _ hk=>hk) ?aF ?aO ?aB ?aS ?aL ?_;(case aP=>exact (k32_mkF _ _ (⟨a1_1,l1_2⟩:S32) (Kd.V_reads' (Kd.V_mono (ok':=(fun k_=>((fun k_=>((P0_ k_∨P1_2_ k_)∨w.heap.size≤k_)∧k_≠Z8)) k_∧some k_≠(u7:Value).ownBlock)) (Z16.out) (fun k_ hk=>⟨⟨hk.1,hk.2.2⟩,hk.2.1⟩))).2.1 (Kd.V_F (Kd.V_mono (ok':=(fun k_=>((fun k_=>((P0_ k_∨P1_2_ k_)∨w.heap.size≤k_)∧k_≠Z8)) k_∧some k_≠(u7:Value).ownBlock)) (Z16.out) (fun k_ hk=>⟨⟨hk.1,hk.2.2⟩,hk.2.1⟩)))));(case aB=>exact bq);(case aF=>exact (fun k_ hk=>⟨(.inr (Nat.le_trans (below_size bq) hk)),Kd.freshB (g:=Z8) (o := .cells #[.bool a1_0, .string a1_1, .slice A1_2 l1_2.length c1_2] 34 (0,0)) (bk Z10) k_ hk⟩));(case aO=>exact (by (with_reducible repeat (first | apply Kd.N_alloc | apply Kd.N_drewN | apply Kd.N_drew));exact Z53.out));(case aS=>exact (below_size bq));(case aL=>have:=Z58.out;omega);intro Z69 Z70 ho hb hg hat;rw [← Z60.out] at ho;have _:=ra (Kd.V_afterv (ok:=(fun k_=>((P0_ k_∨P1_2_ k_)∨w.heap.size≤k_)∧k_≠Z8)) (vr (Kd.V_mono Z15.out (fun _ hk=>⟨⟨hk.1,hk.2.2⟩,hk.2.1⟩))) hg hat);have _:=ra (Kd.V_afterv (ok:=(fun k_=>((P0_ k_∨P1_2_ k_)∨w.heap.size≤k_)∧k_≠Z8)) (vr (Kd.V_mono Z16.out (fun _ hk=>⟨⟨hk.1,hk.2.2⟩,hk.2.1⟩))) hg hat);have _:=ra (blk_grown (g:=Z8) (o := .cells #[.bool a1_0, .string a1_1, .slice A1_2 l1_2.length c1_2] 34 (0,0)) (bk Z10) hg (Kd.N_ne Z53.out Z10.out (by decide)));have _:=ra (hb);have _:=ra (ho);clear Z15 Z16 Z10 HB Z53;rename_i Z15 Z16 Z10 HB Z71;clear ho hb hg hat;obtain ⟨Z72,Z73,Z74⟩:=Kd.N_slice Z71.out;subst Z74) | (go_at_call 46;(with_reducible refine (spec_l2List.calls _ _ _ _ _ _ ?side1 ?side2 Z62.out).mono ?_);(case side1=>repeat (first | exact (Kd.N_reads' Z71.out).2.2 | (with_reducible refine Kd.C_alloc ?_ _) | (with_reducible refine Kd.C_drewN ?_ _) | (with_reducible refine Kd.C_drew ?_)));(case side2=>exact (Kd.N_reads' Z71.out).2.1);rintro e Z75 ⟨Z76,rfl,Z77,hb⟩;have Z78:=ra (Kd.S_lower Z77 (below_size (by repeat (first | (with_reducible first | exact HB.out | apply below_alloc | apply pw_below_drewN | apply below_drew1 | refine below_set ?_ (Aside0.out (by assumption))) | exact HB.out))));have Z79:=ra (Kd.N_lower (Kd.N_mono (ok':=fun k_=>((P0_ k_∨P1_2_ k_)∨w.heap.size≤k_)∧some k_≠(.slice Z72 Z59.length Z73:Value).ownBlock∧k_≠Z8) (Kd.S_N (Kd.S_bound Z77)) (fun k_ hk_=>⟨(.inr (Nat.le_trans (below_size bq) hk_.2.1)),(Kd.fresh' (Kd.N_lt (by (with_reducible repeat (first | apply Kd.N_alloc | apply Kd.N_drewN | apply Kd.N_drew));exact Z71.out)) k_ hk_.2.1),(Kd.freshB (g:=Z8) (o := .cells #[.bool a1_0, .string a1_1, .slice A1_2 l1_2.length c1_2] 34 (0,0)) (bk Z10) k_ hk_.2.1)⟩)) (below_size bq));replace Z15:=ra (Kd.V_elder' (vq Z15) (Kd.S_base Z77) hb);replace Z16:=ra (Kd.V_elder' (vq Z16) (Kd.S_base Z77) hb);replace Z71:=ra (Kd.N_elder' (by (with_reducible repeat (first | apply Kd.N_alloc | apply Kd.N_drewN | apply Kd.N_drew));exact Z71.out) (Kd.S_base Z77) hb);replace Z10:=bb (bk Z10) hb;replace HB:=bs hb;clear hb Z77));try go_wp2_with (first | ((with_reducible refine gate_builtin (b := .append) (xs:=#[.tmp 91, .tmp 94]) rfl ?_);(try (refine gate_guard (by rfl) ?_;dsimp only));at_builtin;refine Kd.N_append k32 (w0:=w) w.heap.size rfl (.tmp 91) (.tmp 94) 25 32 (.agg #[(.string ⟨#[]⟩),(.slice none 0 0)]) 40 rfl Tryz.underlying25 info32 rfl (by decide) (by omega) u7 Z49 (⟨a1_1,l1_2⟩:S32) [.string a1_1, .slice A1_2 l1_2.length c1_2] (fun k_=>((P0_ k_∨P1_2_ k_)∨w.heap.size≤k_)∧k_≠Z8) (fun k_=>((fun k_=>((P0_ k_∨P1_2_ k_)∨w.heap.size≤k_)∧k_≠Z8)) k_∧some k_≠(u7:Value).ownBlock) rfl rfl ?aP (fun _ hk=>hk) ?aF ?aO ?aB ?aS ?aL ?_;(case aP=>exact (k32_mkF _ _ (⟨a1_1,l1_2⟩:S32) (Kd.V_reads' (Kd.V_mono (ok':=(fun k_=>((fun k_=>((P0_ k_∨P1_2_ k_)∨w.heap.size≤k_)∧k_≠Z8)) k_∧some k_≠(u7:Value).ownBlock)) (Z16.out) (fun k_ hk=>⟨⟨hk.1,hk.2.2⟩,hk.2.1⟩))).2.1 (Kd.V_F (Kd.V_mono (ok':=(fun k_=>((fun k_=>((P0_ k_∨P1_2_ k_)∨w.heap.size≤k_)∧k_≠Z8)) k_∧some k_≠(u7:Value).ownBlock)) (Z16.out) (fun k_ hk=>⟨⟨hk.1,hk.2.2⟩,hk.2.1⟩)))));(case aB=>exact bq);(case aF=>exact (fun k_ hk=>⟨(.inr (Nat.le_trans (below_size bq) hk)),Kd.freshB (g:=Z8) (o := .cells #[.bool a1_0, .string a1_1, .slice A1_2 l1_2.length c1_2] 34 (0,0)) (bk Z10) k_ hk⟩));(case aO=>exact (by (with_reducible repeat (first | apply Kd.N_alloc | apply Kd.N_drewN | apply Kd.N_drew));exact Z53.out));(case aS=>exact (below_size bq));(case aL=>have:=Z58.out;omega);intro Z69 Z70 ho hb hg hat;rw [← Z60.out] at ho;have _:=ra (Kd.V_afterv (ok:=(fun k_=>((P0_ k_∨P1_2_ k_)∨w.heap.size≤k_)∧k_≠Z8)) (vr (Kd.V_mono Z15.out (fun _ hk=>⟨⟨hk.1,hk.2.2⟩,hk.2.1⟩))) hg hat);have _:=ra (Kd.V_afterv (ok:=(fun k_=>((P0_ k_∨P1_2_ k_)∨w.heap.size≤k_)∧k_≠Z8)) (vr (Kd.V_mono Z16.out (fun _ hk=>⟨⟨hk.1,hk.2.2⟩,hk.2.1⟩))) hg hat);have _:=ra (blk_grown (g:=Z8) (o := .cells #[.bool a1_0, .string a1_1, .slice A1_2 l1_2.length c1_2] 34 (0,0)) (bk Z10) hg (Kd.N_ne Z53.out Z10.out (by decide)));have _:=ra (hb);have _:=ra (ho);clear Z15 Z16 Z10 HB Z53;rename_i Z15 Z16 Z10 HB Z71;clear ho hb hg hat;obtain ⟨Z72,Z73,Z74⟩:=Kd.N_slice Z71.out;subst Z74) | (go_at_call 46;(with_reducible refine (spec_l2List.calls _ _ _ _ _ _ ?side1 ?side2 Z62.out).mono ?_);(case side1=>repeat (first | exact (Kd.N_reads' Z71.out).2.2 | (with_reducible refine Kd.C_alloc ?_ _) | (with_reducible refine Kd.C_drewN ?_ _) | (with_reducible refine Kd.C_drew ?_)));(case side2=>exact (Kd.N_reads' Z71.out).2.1);rintro e Z75 ⟨Z76,rfl,Z77,hb⟩;have Z78:=ra (Kd.S_lower Z77 (below_size (by repeat (first | (with_reducible first | exact HB.out | apply below_alloc | apply pw_below_drewN | apply below_drew1 | refine below_set ?_ (Aside0.out (by assumption))) | exact HB.out))));have Z79:=ra (Kd.N_lower (Kd.N_mono (ok':=fun k_=>((P0_ k_∨P1_2_ k_)∨w.heap.size≤k_)∧some k_≠(.slice Z72 Z59.length Z73:Value).ownBlock∧k_≠Z8) (Kd.S_N (Kd.S_bound Z77)) (fun k_ hk_=>⟨(.inr (Nat.le_trans (below_size bq) hk_.2.1)),(Kd.fresh' (Kd.N_lt (by (with_reducible repeat (first | apply Kd.N_alloc | apply Kd.N_drewN | apply Kd.N_drew));exact Z71.out)) k_ hk_.2.1),(Kd.freshB (g:=Z8) (o := .cells #[.bool a1_0, .string a1_1, .slice A1_2 l1_2.length c1_2] 34 (0,0)) (bk Z10) k_ hk_.2.1)⟩)) (below_size bq));replace Z15:=ra (Kd.V_elder' (vq Z15) (Kd.S_base Z77) hb);replace Z16:=ra (Kd.V_elder' (vq Z16) (Kd.S_base Z77) hb);replace Z71:=ra (Kd.N_elder' (by (with_reducible repeat (first | apply Kd.N_alloc | apply Kd.N_drewN | apply Kd.N_drew));exact Z71.out) (Kd.S_base Z77) hb);replace Z10:=bb (bk Z10) hb;replace HB:=bs hb;clear hb Z77)))
                go_ret2;exact ⟨_,re,by (with_reducible repeat (first | apply Kd.S_alloc | apply Kd.S_drewN | apply Kd.S_drew));exact Z78.out,bq⟩
               ·rw [if_neg Z57] at H;exact absurd H (by simp)
 ·obtain ⟨Z7,hy_⟩:∃ y_:List (S32),y_=(([]:List (S32))):=⟨_,rfl⟩;replace H:(some (Z7,1))=some (r1,r2):=yh;have Z8:=ra hy_;clear hy_;simp only [Option.some.injEq,Prod.mk.injEq] at H;obtain ⟨rfl,rfl⟩:=H
  go_enter Tryz.func8,Tryz.ntmps8
  go_wp2_with (first | ((with_reducible refine gd 3 rfl ?_);(try (refine gate_guard (by rfl) ?_;dsimp only));refine bf 3 #[.bool a1_0, .string a1_1, .slice A1_2 l1_2.length c1_2] 34 ?_;intro Z9 Z10 hg hb HB Z11 Z12;replace Z2:=ra (Kd.V_below (Kd.V_elderB (vq Z2) Z9 (Nat.le_of_eq hg.symm)) hb);replace Z3:=ra (Kd.V_below (Kd.V_elderB (vq Z3) Z9 (Nat.le_of_eq hg.symm)) hb);clear hg hb) | (go_at_call 45;(with_reducible refine (spec_ProbeSkyOk.calls _ _ _ _ _ _ ?side1 ?side2 Z5.out).mono ?_);(case side1=>exact sv Z2);(case side2=>exact (Kd.V_reads' Z2.out).2.1);rintro e Z13 ⟨rfl,hb⟩;replace Z2:=ra (Kd.V_below (vq Z2) hb);replace Z3:=ra (Kd.V_below (vq Z3) hb);replace Z11:=bb (bk Z11) hb;replace HB:=bs hb;clear hb) | ((with_reducible refine gd 13 rfl ?_);(try (refine gate_guard (by rfl) ?_;dsimp only));refine Kd.N_lit k32 _ 32 ?hg (N':=13) ?hd (xs:=([]:List (S32))) (inner:=[]) (ok:=(fun k_=>((P0_ k_∨P1_2_ k_)∨w.heap.size≤k_)∧k_≠Z9)) (okp:=(fun k_=>((P0_ k_∨P1_2_ k_)∨w.heap.size≤k_)∧k_≠Z9)) ?hr ?hp (fun _ hk=>hk) ((show ∀ k_,Z13.heap.size≤k_→(fun k_=>((P0_ k_∨P1_2_ k_)∨w.heap.size≤k_)∧k_≠Z9) k_ from fun k_ hk=>⟨(.inr (Nat.le_trans (below_size bq) hk)),Kd.freshB (g:=Z9) (o := .cells #[.bool a1_0, .string a1_1, .slice A1_2 l1_2.length c1_2] 34 (0,0)) (bk Z11) k_ hk⟩) _ (Nat.le_refl _)) (Below.refl _ _) (Nat.le_refl _) (by simp) ?_;(case hd=>rfl);(case hg=>rfl);(case hr=>first | (go_simp;done) | (go_simp;rfl));(case hp=>exact (Reps.none _ _));intro Z14 Z15 Z16 hb hg_ hnew_;clear hg_ hnew_;(first | rw [← Z8.out] at Z16 | (simp only [Int.reduceToNat] at Z16;rw [← Z8.out] at Z16));have Z17:=ra (Kd.N_lower Z16 (below_size bq));replace Z2:=ra (Kd.V_elder' (vq Z2) (Kd.N_base Z16) hb);replace Z3:=ra (Kd.V_elder' (vq Z3) (Kd.N_base Z16) hb);replace Z11:=bb (bk Z11) hb;replace HB:=bs hb;clear hb Z16))
  repeat (go_quiet (first | ((with_reducible refine gd 3 rfl ?_);(try (refine gate_guard (by rfl) ?_;dsimp only));refine bf 3 #[.bool a1_0, .string a1_1, .slice A1_2 l1_2.length c1_2] 34 ?_;intro Z9 Z10 hg hb HB Z11 Z12;replace Z2:=ra (Kd.V_below (Kd.V_elderB (vq Z2) Z9 (Nat.le_of_eq hg.symm)) hb);replace Z3:=ra (Kd.V_below (Kd.V_elderB (vq Z3) Z9 (Nat.le_of_eq hg.symm)) hb);clear hg hb) | (go_at_call 45;(with_reducible refine (spec_ProbeSkyOk.calls _ _ _ _ _ _ ?side1 ?side2 Z5.out).mono ?_);(case side1=>exact sv Z2);(case side2=>exact (Kd.V_reads' Z2.out).2.1);rintro e Z13 ⟨rfl,hb⟩;replace Z2:=ra (Kd.V_below (vq Z2) hb);replace Z3:=ra (Kd.V_below (vq Z3) hb);replace Z11:=bb (bk Z11) hb;replace HB:=bs hb;clear hb) | ((with_reducible refine gd 13 rfl ?_);(try (refine gate_guard (by rfl) ?_;dsimp only));refine Kd.N_lit k32 _ 32 ?hg (N':=13) ?hd (xs:=([]:List (S32))) (inner:=[]) (ok:=(fun k_=>((P0_ k_∨P1_2_ k_)∨w.heap.size≤k_)∧k_≠Z9)) (okp:=(fun k_=>((P0_ k_∨P1_2_ k_)∨w.heap.size≤k_)∧k_≠Z9)) ?hr ?hp (fun _ hk=>hk) ((show ∀ k_,Z13.heap.size≤k_→(fun k_=>((P0_ k_∨P1_2_ k_)∨w.heap.size≤k_)∧k_≠Z9) k_ from fun k_ hk=>⟨(.inr (Nat.le_trans (below_size bq) hk)),Kd.freshB (g:=Z9) (o := .cells #[.bool a1_0, .string a1_1, .slice A1_2 l1_2.length c1_2] 34 (0,0)) (bk Z11) k_ hk⟩) _ (Nat.le_refl _)) (Below.refl _ _) (Nat.le_refl _) (by simp) ?_;(case hd=>rfl);(case hg=>rfl);(case hr=>first | (go_simp;done) | (go_simp;rfl));(case hp=>exact (Reps.none _ _));intro Z14 Z15 Z16 hb hg_ hnew_;clear hg_ hnew_;(first | rw [← Z8.out] at Z16 | (simp only [Int.reduceToNat] at Z16;rw [← Z8.out] at Z16));have Z17:=ra (Kd.N_lower Z16 (below_size bq));replace Z2:=ra (Kd.V_elder' (vq Z2) (Kd.N_base Z16) hb);replace Z3:=ra (Kd.V_elder' (vq Z3) (Kd.N_base Z16) hb);replace Z11:=bb (bk Z11) hb;replace HB:=bs hb;clear hb Z16));try go_wp2_with (first | ((with_reducible refine gd 3 rfl ?_);(try (refine gate_guard (by rfl) ?_;dsimp only));refine bf 3 #[.bool a1_0, .string a1_1, .slice A1_2 l1_2.length c1_2] 34 ?_;intro Z9 Z10 hg hb HB Z11 Z12;replace Z2:=ra (Kd.V_below (Kd.V_elderB (vq Z2) Z9 (Nat.le_of_eq hg.symm)) hb);replace Z3:=ra (Kd.V_below (Kd.V_elderB (vq Z3) Z9 (Nat.le_of_eq hg.symm)) hb);clear hg hb) | (go_at_call 45;(with_reducible refine (spec_ProbeSkyOk.calls _ _ _ _ _ _ ?side1 ?side2 Z5.out).mono ?_);(case side1=>exact sv Z2);(case side2=>exact (Kd.V_reads' Z2.out).2.1);rintro e Z13 ⟨rfl,hb⟩;replace Z2:=ra (Kd.V_below (vq Z2) hb);replace Z3:=ra (Kd.V_below (vq Z3) hb);replace Z11:=bb (bk Z11) hb;replace HB:=bs hb;clear hb) | ((with_reducible refine gd 13 rfl ?_);(try (refine gate_guard (by rfl) ?_;dsimp only));refine Kd.N_lit k32 _ 32 ?hg (N':=13) ?hd (xs:=([]:List (S32))) (inner:=[]) (ok:=(fun k_=>((P0_ k_∨P1_2_ k_)∨w.heap.size≤k_)∧k_≠Z9)) (okp:=(fun k_=>((P0_ k_∨P1_2_ k_)∨w.heap.size≤k_)∧k_≠Z9)) ?hr ?hp (fun _ hk=>hk) ((show ∀ k_,Z13.heap.size≤k_→(fun k_=>((P0_ k_∨P1_2_ k_)∨w.heap.size≤k_)∧k_≠Z9) k_ from fun k_ hk=>⟨(.inr (Nat.le_trans (below_size bq) hk)),Kd.freshB (g:=Z9) (o := .cells #[.bool a1_0, .string a1_1, .slice A1_2 l1_2.length c1_2] 34 (0,0)) (bk Z11) k_ hk⟩) _ (Nat.le_refl _)) (Below.refl _ _) (Nat.le_refl _) (by simp) ?_;(case hd=>rfl);(case hg=>rfl);(case hr=>first | (go_simp;done) | (go_simp;rfl));(case hp=>exact (Reps.none _ _));intro Z14 Z15 Z16 hb hg_ hnew_;clear hg_ hnew_;(first | rw [← Z8.out] at Z16 | (simp only [Int.reduceToNat] at Z16;rw [← Z8.out] at Z16));have Z17:=ra (Kd.N_lower Z16 (below_size bq));replace Z2:=ra (Kd.V_elder' (vq Z2) (Kd.N_base Z16) hb);replace Z3:=ra (Kd.V_elder' (vq Z3) (Kd.N_base Z16) hb);replace Z11:=bb (bk Z11) hb;replace HB:=bs hb;clear hb Z16)))
  go_ret2;exact ⟨_,re,by (with_reducible repeat (first | apply Kd.S_alloc | apply Kd.S_drewN | apply Kd.S_drew));have h_:=Z17.out;rw [Z8.out] at h_ ⊢;exact Z.N_nil_S h_,bq⟩
end Go.Proofs.YtgklmafdbgnohaaGreat.PA
end
section
namespace Go.Proofs.YtgklmafdbgnohaaGreat.PA
open Go.RowKit Go.Proofs.YtgklmafdbgnohaaGreat.Q Go.Proofs.YtgklmafdbgnohaaGreatW.PrintWords Go.Proofs.YtgklmafdbgnohaaGreatW.PrintLast Go.Proofs.YtgklmafdbgnohaaGreatW.PrintMore Go.Proofs.YtgklmafdbgnohaaGreat.Z
attribute [local go_sem] max2_int min2_int max_two min_two max_three min_three max_four min_four
set_option maxHeartbeats 8000000
set_option maxRecDepth 100000
section
variable {P:Program} {ops:Array Oper} {Q:Exit→Act→World→Prop} {a:Act} {W:World} {o:Oper} {T:Nat} {n:Nat}
theorem slit {rest:List Oper} (N:Tmp) {xs:List ByteArray} (h:∀ (y:List ByteArray) (v:Value) w1,Aside0 (y=xs)→Aside0 (Kd.R Kd.string T w1 W.heap.size (fun _=>True) v y)→Below W.heap.size W w1→wpList P ops Q rest (a.put o.dst v) w1) (hgd:o.guard=none:=by rfl) (hd:o.dst=some N:=by rfl)
    (hrun:(execOp a.eval o).run P W = .ok (.value (.slice (some ⟨W.heap.size,0,none⟩) xs.length xs.length)) (W.alloc (.cells (encs Value.string xs).toArray T)):=by first | (go_simp;done) | (go_simp;rfl)) (hl:xs.length≤1000:=by simp):wpList P ops Q (o::rest) a W :=
  Kd.R_lit Kd.string W.heap.size T hgd hd (ok:=fun _=>True) (okp:=fun _=>True) hrun (Kd.reps_scalar xs) (fun _ hk=>hk) trivial (Below.refl _ _) (Nat.le_refl _) (by omega) fun v w1 hr hb _ _=>h xs v w1 ⟨rfl⟩ ⟨hr⟩ hb
end
section
variable {w0 w W W1:World} {g gb:Nat} {b:List Int} {R:Nat} {α:Type} {d:Kd α} {e base n c:Nat} {ok:Nat→Prop} {v:Value} {A:Option Addr} {xs:List α}
theorem dO (hD:DD w0 w g b R W) (h:d.R e W base ok (.slice A n c) xs) (he:e≠113:=by decide):∀ ad,A=some ad→0<n→ad.block≠g:=by
  rintro ad rfl _
  obtain ⟨p,_,_,hi⟩:=hD.i;exact Kd.own_blk (hi.own_ne h he)
theorem rmany (x:ByteArray) (c:Int) (m B:Nat) (W:World) (hc:0≤c∧c≤(m:Int)) (hm:x.size * m≤B∧m≤100000∧B≤1000000:=by decide) :
    Calls Tryz.prog 123 #[.string x, .int .i64 c] W fun e w'=>∃ s:ByteArray,e = .returned (.string s)∧Aside0 (s.size≤B)∧Drawn0 W w':=by
  have hcm:x.size * c.toNat≤x.size * m:=Nat.mul_le_mul_left _ (by omega);obtain ⟨s,⟨k,e⟩,hs⟩:=many_f c.toNat c x (by omega) (by omega) (by omega);exact (spec_l1Many.calls k x c s W (e k (Nat.le_refl _))).mono fun e w' h=>⟨s,h.1,⟨by omega⟩,h.2⟩
theorem l2c (nn:ByteArray) (l:List S75) (h:l.length≤100):spec_l2Copy.f nn l=some (nn,l):=by
  unfold spec_l2Copy.f
  simp
  omega
theorem swt (r:Int) (p:Prop) [Decidable p]:(r==0)=true∨((r==0)=false∧(r==1)=true)∨((r==0)=false∧(r==1)=false∧p=True)∨((r==0)=false∧(r==1)=false∧p=False):=by
  cases h0:(r==0)<;>cases h1:(r==1)<;>by_cases h2:p<;>simp [h2]
end
theorem wfrd {l:List S75} (h:∀ q∈l,Wf q) {i:Int} (h0:0≤i) (h1:i<(l.length:Int)):Wf (rd_T75 l i):=by
  have hl:i.toNat<l.length:=by omega
  unfold rd_T75
  rw [List.getD_eq_getElem?_getD,List.getElem?_eq_getElem hl];exact h _ (List.getElem_mem hl)
section
variable {w0 w W:World} {g gg n c base:Nat} {b:List Int} {R:Nat} {ok:Nat→Prop} {l:List S75} {i:Int}
theorem el6 (h:Kd.R k75 75 W base ok (.slice (some ⟨gg,0,none⟩) n c) l) (h0:0≤i) (h1:i<(n:Int)):(W.cell? ⟨gg,i.toNat * 6,none⟩=some (.int .i64 (rd_T75 l i).f0)∧W.cell? ⟨gg,i.toNat * 6+1,none⟩=some (.int .i64 (rd_T75 l i).f1)∧W.cell? ⟨gg,i.toNat * 6+2,none⟩=some (.int .i64 (rd_T75 l i).f2)∧W.cell? ⟨gg,i.toNat * 6+3,none⟩=some (.int .i64 (rd_T75 l i).f3)∧W.cell? ⟨gg,i.toNat * 6+4,none⟩=some (.int .i64 (rd_T75 l i).f4)∧W.cell? ⟨gg,i.toNat * 6+5,none⟩=some (.int .i64 (rd_T75 l i).f5))∧∀ j,W.frozen? ⟨gg,i.toNat * 6+j,none⟩=false:=by
  obtain ⟨ce,hl,hM,hc,hf⟩:=Kd.R_elem h z75 i h0 h1;obtain rfl:=k75_openM hM;exact ⟨⟨hc 0 _ rfl,hc 1 _ rfl,hc 2 _ rfl,hc 3 _ rfl,hc 4 _ rfl,hc 5 _ rfl⟩,hf⟩
theorem seg6 (h:Kd.R k75 75 W w.heap.size (fun _=>True) (.slice (some ⟨gg,0,none⟩) n c) l) (hD:DD w0 w g b R W) (hg:w.heap.size≤gg) (h0:0≤i) (h1:i<(n:Int)) (y:S75) (W6:World) (hW:W.setCells gg (i.toNat * 6) [.int .i64 y.f0, .int .i64 y.f1, .int .i64 y.f2, .int .i64 y.f3, .int .i64 y.f4, .int .i64 y.f5]=W6) :
    Aside0 (Kd.R k75 75 W6 w.heap.size (fun _=>True) (.slice (some ⟨gg,0,none⟩) n c) (l.set i.toNat y))∧Aside0 (DD w0 w g b R W6)∧∀ (g':Nat) (t:TypeId) (cs:Array Value),t≠75→W.heap[g']? = some (.cells cs t (0,0))→Aside0 (W6.heap[g']? = some (.cells cs t (0,0))):=by
  subst hW;obtain ⟨ce,hl,hM,hc,hf⟩:=Kd.R_elem h z75 i h0 h1;obtain rfl:=k75_openM hM;have hs:Kd.R k75 75 (W.setCells gg (i.toNat * 6) [.int .i64 y.f0, .int .i64 y.f1, .int .i64 y.f2, .int .i64 y.f3, .int .i64 y.f4, .int .i64 y.f5]) w.heap.size (fun _=>True) (.slice (some ⟨gg,0,none⟩) n c) (l.set i.toNat y)∧W.grownBy (W.setCells gg (i.toNat * 6) [.int .i64 y.f0, .int .i64 y.f1, .int .i64 y.f2, .int .i64 y.f3, .int .i64 y.f4, .int .i64 y.f5]) (some gg):=Kd.R_seg h i h0 h1 (seg:=[.int .i64 y.f0, .int .i64 y.f1, .int .i64 y.f2, .int .i64 y.f3, .int .i64 y.f4, .int .i64 y.f5]) (j:=0) hl hc (show 6≤6 from by decide) (x':=y) (k75_mkM _ _ _ y) (fun _ hk=>hk)
  generalize W.setCells gg (i.toNat * 6) [.int .i64 y.f0, .int .i64 y.f1, .int .i64 y.f2, .int .i64 y.f3, .int .i64 y.f4, .int .i64 y.f5]=W6 at hs
  have hb:Below w.heap.size W W6:=(Below.refl w.heap.size W).grown hs.2 (keep_size hD.k) (fun k e=>by injection e with e;subst e;exact hg);exact ⟨⟨hs.1⟩,DD.app hD h hs.2 hb,fun g' t cs ht hb2=>bgr (v := .slice (some ⟨gg,0,none⟩) n c) hb2 hs.2 (Kd.R_ne h hb2 (Ne.symm ht))⟩
end
structure TU (w0 w:World) (g:Nat) (b:List Int) (nn:ByteArray) (g2 g3:Nat) (R:Nat) (W:World) (u:Value) (xs:List S75):Prop where
  q1:Aside0 (W.heap[g2]? = some (.cells #[.string (⟨#[]⟩:ByteArray), .slice none 0 0] 32 (0,0)))
  q2:Aside0 (W.heap[g3]? = some (.cells #[.string nn,u] 32 (0,0)))
  q4:Aside0 (Kd.R k75 75 W w.heap.size (fun _=>True) u xs)
  q5:Aside0 (DD w0 w g b R W)
  q6:Aside0 (∀ q∈xs,Wf q)
def rspt.T5:Bool × List (List Nat × List Nat):=(true,[([],[]),([0],[0]),([],[]),([],[]),([],[]),([4],[4]),([],[]),([5,6],[5,6]),([7],[7]),([3,8],[3,8]),([1,2,0,1,2,3,4,5,6,7,8,9],[1,2]),([10,9,9,0,1,2,3,4,5,6,7,8,9],[9,10])])
def rspt.B5:List Nat:=[0,1,0,0,0,16,0,112,240,504,1023,2047]
theorem rspt.t5:rtab .any (opsOf Tryz.f93 5)=rspt.T5:=by kernel_rfl
theorem rspt.b5:waitsOk rspt.T5.2 rspt.B5=true:=by kernel_rfl
theorem rspt {w0 w W:World} {g:Nat} {b:List Int} {R B0:Nat} {ok:Nat→Prop} (nn:ByteArray) {A:Option Addr} {c:Nat} {l:List S75} (hl:l.length≤100) (hx:∀ q∈l,Wf q) (hR:Kd.R k75 75 W B0 ok (.slice A l.length c) l) (hD:DD w0 w g b (R+900) W) :
    Calls Tryz.prog 93 #[.pointer (some ⟨g,0,none⟩), .agg #[.string nn, .slice A l.length c]] W fun e w'=>∃ x:ByteArray × Value × List S75,e = .returned (.agg #[.string x.1,x.2.1])∧Aside0 ((∀ q∈x.2.2,Wf q)∧x.2.2.length≤100∧x.1.size≤20+nn.size)∧Kd.R k75 75 w' W.heap.size (fun _=>True) x.2.1 x.2.2∧DD w0 W g b R w':=by
  have HD:=hD.start;have HR:=ra hR;have HX:=ra hx;have HL:=ra hl;clear hD hR hx hl;have hu1:=Tryz.underlying32;have hu2:=Tryz.underlying75
  go_enter Tryz.func93,Tryz.ntmps93
  try go_wp2_with (first | ((with_reducible refine gd 3 rfl ?_);refine be 3 #[.string nn, .slice A l.length c] 32 ?_;intro g1 hg w_ hbox hb_;have H1:=ra hbox;obtain ⟨Ag1,Bg1,Cg1⟩:=dn hg (dq HD);replace HR:=ra (Kd.R_below (rq HR) hb_);replace HD:=ra ((dq HD).below hb_);clear hb_ hbox hg;obtain ⟨_,_,_,_⟩:=zc2 H1) | ((with_reducible refine gd 4 rfl ?_);refine be 4 #[.string (⟨#[]⟩:ByteArray), .slice none 0 0] 32 ?_;intro g2 hg w_ hbox hb_;have H2:=ra hbox;obtain ⟨Ag2,Bg2,Cg2⟩:=dn hg (dq HD);have Ng1g2:=bn hg (bk H1);have Ng2g1:=bm hg (bk H1);replace H1:=bb (bk H1) hb_;replace HR:=ra (Kd.R_below (rq HR) hb_);replace HD:=ra ((dq HD).below hb_);clear hb_ hbox hg;have:=Ng1g2.out;have:=Ng2g1.out;obtain ⟨_,_,_,_⟩:=zc2 H1) | ((with_reducible refine gd 9 rfl ?_);refine gm (some 9) Tryz.func77 (spec_l2Copy.calls _ _ _ _ _ _ _ (Kd.R_reads' HR.out).2.2 (Kd.R_reads' HR.out).2.1 (l2c _ _ HL.out)) ?_;rintro e w_ ⟨u,rfl,ho,hb⟩;obtain ⟨Au,cu,rfl⟩:=Kd.R_slice ho;refine ⟨_,rfl,?_⟩;have HO:=ra (Kd.R_lower ho (keep_size (dq HD).k));replace H2:=bb (bk H2) hb;replace HD:=ra ((dq HD).below hb);clear ho hb H1 HR) | ((with_reducible refine gd 5 rfl ?_);refine be 5 #[.string (⟨#[]⟩:ByteArray), .slice none 0 0] 32 ?_;intro g3 hg w_ hbox hb_;have H3:=ra hbox;obtain ⟨Ag3,Bg3,Cg3⟩:=dn hg (dq HD);have Ng2g3:=bn hg (bk H2);have Ng3g2:=bm hg (bk H2);replace H2:=bb (bk H2) hb_;replace HO:=ra (Kd.R_below (rq HO) hb_);replace HD:=ra ((dq HD).below hb_);clear hb_ hbox hg;have:=Ng2g3.out;have:=Ng3g2.out;have:=Bg2.out;have:=Cg2.out;have:=Bg3.out;have:=Cg3.out;obtain ⟨_,_,_,_⟩:=zc2 H3) | ((with_reducible refine gd 11 rfl ?_);refine gz (some 11) Tryz.func35 (rpick 4 (dq HD)) ?_;rintro r11 w_ ⟨-,hd⟩;replace HO:=dR (dq HD) (Kd.R_mono (rf (Kd.R_types HO.out H3.out (by decide))) (fun _ hk=>hk.1)) hd;replace H2:=kv hd.k (bk H2) Cg2;replace H3:=kp #[.string nn, .slice Au l.length cu] hd.k (bp H3) Cg3;replace HD:=dt (dq HD) hd;clear hd;obtain ⟨_,_,_,_⟩:=zc2 H2;obtain ⟨_,_,_,_⟩:=zc2 H3;rcases swt r11 (0<l.length) with c1 | ⟨c1,c2⟩ | ⟨c1,c2,c3⟩ | ⟨c1,c2,c3⟩) | ((with_reducible refine gd 36 rfl ?_);refine gz (some 36) Tryz.func35 (rpick 2 (dq HD)) ?_;rintro r36 w_ ⟨Rr36,hd⟩;replace H2:=kv hd.k (bk H2) Cg2;replace H3:=kv hd.k (bk H3) Cg3;replace HO:=dR (dq HD) (rq HO) hd;replace HD:=dt (dq HD) hd;clear hd) | ((with_reducible refine gd 38 rfl ?_);refine gz (some 38) Tryz.func123 (rmany ⟨#[110]⟩ (wrap64 (8+r36)) 9 9 _ (by have:=Rr36.out;unfold wrap64;omega)) ?_;rintro s w_ ⟨hs,nd,rfl⟩) | ((with_reducible refine gd 39 rfl ?_);refine slit 39 (T:=9) (xs:=[⟨#[]⟩,⟨#[65]⟩,s]) ?_;intro y v w_ hy HS hb_;obtain ⟨As,cs,rfl⟩:=Kd.R_slice HS.out;replace HO:=ra (Kd.R_below (rq HO) hb_);replace H2:=bb (bk H2) hb_;replace H3:=bb (bk H3) hb_;replace HD:=ra ((dq HD).below hb_);clear hb_) | ((with_reducible refine gd 40 rfl ?_);refine gz (some 40) Tryz.func92 (rof (dq HD) (Kd.R_reads' HS.out).2.2 (Kd.R_reads' HS.out).2.1 (dO HD.out HS.out) (by rw [hy.out];simp)) ?_;rintro t w_ ⟨ht,hd⟩;replace H2:=kv hd.k (bk H2) Cg2;replace H3:=kv hd.k (bk H3) Cg3;replace HO:=dR (dq HD) (rq HO) hd;replace HD:=dt (dq HD) hd;clear hd;obtain ⟨_,_,_,_⟩:=zc2 H2;obtain ⟨_,_,_,_⟩:=zc2 H3) | ((with_reducible refine gd 45 rfl ?_);refine gz (some 45) Tryz.func35 (rpick 2 (dq HD)) ?_;rintro r45 w_ ⟨Rr45,hd⟩;replace H2:=kv hd.k (bk H2) Cg2;replace H3:=kv hd.k (bk H3) Cg3;replace HO:=dR (dq HD) (rq HO) hd;replace HD:=dt (dq HD) hd;clear hd) | ((with_reducible refine gd 20 rfl ?_);refine gz (some 20) Tryz.func35 (rpick (l.length:Int) (dq HD) (by have:=of_eq_true c3;omega)) ?_;rintro r20 w_ ⟨R20,hd⟩;replace H2:=kv hd.k (bk H2) Cg2;replace H3:=kv hd.k (bk H3) Cg3;replace HO:=dR (dq HD) (rq HO) hd;replace HD:=dt (dq HD) hd;clear hd))
  · refine bodyPost_ret (results_cell_row rfl _ _ g2 32 #[.string t, .slice Au l.length cu] (0,0) _ rfl (bp H2) Tryz.underlying32 rfl (by kernel_rfl)) rfl ?_
    exact ⟨⟨_,_,l⟩,rfl,⟨HX.out,HL.out,by
      have h:=ht.out;have h2:=hs.out
      rw [hy.out] at h;simp only [List.mem_cons,List.not_mem_nil,or_false] at h
      show t.size≤_
      rcases h with rfl | rfl | rfl<;>first | omega | exact Nat.le_trans (by decide) (Nat.le_add_right _ _)⟩,Kd.R_mono (rf (Kd.R_types (Kd.R_types HO.out H3.out (by decide)) H2.out (by decide))) (fun _ _=>trivial),(dq HD).less⟩
  · go_loopg [] 43 (fun kq w'=>∃ (u:Value) (xs:List S75),Aside0 (xs.length≤100∧1≤kq∧41<xs.length+kq)∧TU w0 W g b nn g2 g3 (R+12 * kq) w' u xs)
    case atStart=>exact ⟨_,_,⟨HL.out,by omega,by omega⟩,⟨bk H2⟩,⟨bk H3⟩,⟨rq HO⟩,⟨(dq HD).less⟩,HX⟩
    case round =>
      clear H2 H3 HO HD HX HL;obtain ⟨u,xs,HN,H2,H3,HO,HD,HX⟩:=hrel
      cases gk with
      | zero=>exact absurd HN.out (by omega)
      | succ k2 =>
        obtain ⟨Ao,co,rfl⟩:=Kd.R_slice HO.out;replace HD:Aside0 (DD w0 W g b (R+12 * k2+12) _):=⟨HD.out.less (by omega)⟩;have:=Ng2g3.out;have:=Ng3g2.out;have:=Bg2.out;have:=Cg2.out;have:=Bg3.out;have:=Cg3.out;obtain ⟨_,_,_,_⟩:=zc2 H2;obtain ⟨_,_,_,_⟩:=zc2 H3
        rcases dc ((xs.length:Int)<wrap64 (40+r45)) with c3 | c3
        · try go_wp2
          refine start_ (n:=8) (S:=fun w'=>w'.cell? ⟨g3,1,none⟩=some (.slice Ao xs.length co)) (ds:=[7]) (bl 8 0) (by kernel_rfl) rfl rfl ((blk_cell (bk H3) 1).trans rfl) (fun hHeld=>?_);refine pu 0 52 (bl 8 1) ?_;refine pu 2 54 (bl 8 5) ?_;refine tk 1 53 (bl 8 7) ?_ hHeld;refine oe 3 55 (bl 8 15) (fun K hK=>?_);refine gt Tryz.func122 (rbox (dq HD)) ?_
          rintro y2 w_ ⟨HY2,hd⟩
          replace H2:=kv hd.k (bk H2) Cg2;replace H3:=kv hd.k (bk H3) Cg3;replace HO:=dR (dq HD) (rq HO) hd;replace HD:=dt (dq HD) hd;clear hd;refine hK.out _ _ ((blk_cell H3.out 1).trans rfl) (fun hHeld=>?_);clear hK K;refine nm 55 ?_;refine oe 4 56 (bl 8 31) (fun K hK=>?_);refine value_ (w1:=?_) (v:=?_) (by rfl) rfl ?_ ?_
          rotate_left 2
          · go_simp
            constructor<;>rfl
          refine hK.out _ _ ((blk_cell (blk_alloc H3.out _) 1).trans rfl) (fun hHeld=>?_);clear hK K;refine nm 56 ?_;refine oe 5 57 (bl 8 63) (fun K hK=>?_)
          refine Kd.R_append_step k75 W.heap.size (by rfl) (.tmp 53) (.tmp 56) 30 75 (.agg #[.int .i64 0, .int .i64 0, .int .i64 0, .int .i64 0, .int .i64 0, .int .i64 0]) 48 rfl Tryz.underlying30 info75 rfl (by decide) (by omega) _ xs y2 [.int .i64 y2.f0, .int .i64 y2.f1, .int .i64 y2.f2, .int .i64 y2.f3, .int .i64 y2.f4, .int .i64 y2.f5] (fun _=>True) (fun _=>False) rfl rfl ?aP (fun _ hk=>hk.elim) ?aF ?aO (Below.refl _ _) ?aS ?aL ?_;(case aP=>exact k75_mkM _ _ _ y2);(case aF=>exact fun _ _=>trivial);(case aO=>exact rq HO);(case aS=>exact keep_size (dq HD).k);(case aL=>have:=HN.out;omega);intro v1 w_ ho hb hg _;obtain ⟨xs2,hxs⟩:∃ l,l=xs++[y2]:=⟨_,rfl⟩;rw [← hxs] at ho;have HX2:=ra hxs;clear hxs;obtain ⟨Av,cv,rfl⟩:=Kd.R_slice ho;replace HD:=DD.app (dq HD) (rq HO) hg hb;replace H2:=bgr (bk H2) hg (Kd.R_ne HO.out H2.out (by decide));replace H3:=bgr (bk H3) hg (Kd.R_ne HO.out H3.out (by decide));replace HO:=ra ho;clear ho hb hg
          refine hK.out _ _ ((blk_cell H3.out 1).trans rfl) (fun hHeld=>?_);clear hK K;refine nm 57 ?_;refine pu 6 58 (bl 8 127) ?_;refine last_ (i:=7) (N:=none) (bl 8 255) rfl rfl (by kernel_rfl) (by decide) (fun K hK=>?_);have:=Ng2g3.out;have:=Ng3g2.out;have:=Bg2.out;have:=Cg2.out;have:=Bg3.out;have:=Cg3.out;obtain ⟨_,_,_,_⟩:=zc2 H2;obtain ⟨_,_,_,_⟩:=zc2 H3
          refine skip_ (w1:=?_) (by rfl) rfl ?_ ?_;rotate_left
          · go_simp
            rfl
          refine hK.out _ _ ?_;clear hK K;refine done_ (by kernel_rfl) ?_
          try go_wp2
          go_roundg k2
          case measure=>have:=HN.out;omega
          case rel=>exact ⟨.slice Av xs2.length cv,xs2,⟨by have h1:=of_decide_eq_true c3;have:=HN.out;have:=Rr45.out;rw [HX2.out,List.length_append,List.length_singleton];unfold wrap64 at h1;omega⟩,⟨bk H2⟩,⟨bp H3⟩,⟨(Kd.R_mono (rf (Kd.R_types HO.out H3.out (by decide))) (fun _ hk=>hk.1))⟩,⟨(dq HD).less⟩,⟨by rw [HX2.out];exact fun q hq=>(List.mem_append.1 hq).elim (HX.out q) fun h=>by rw [List.mem_singleton.1 h];exact HY2.out⟩⟩
        · try go_wp2
          refine bodyPost_ret (results_cell_row rfl _ _ g2 32 #[.string nn, .slice Ao xs.length co] (0,0) _ rfl (bp H2) Tryz.underlying32 rfl (by kernel_rfl)) rfl ?_;exact ⟨⟨_,_,xs⟩,rfl,⟨HX.out,HN.out.1,Nat.le_add_left _ _⟩,Kd.R_mono (rf (Kd.R_types (Kd.R_types HO.out H3.out (by decide)) H2.out (by decide))) (fun _ _=>trivial),(dq HD).less⟩
  · obtain ⟨gg,cg,eg,gb_,_⟩:=Kd.R_form HO.out (of_eq_true c3);cases eg
    have HG:=ra gb_;clear gb_;have e0:=R20.out.1;have e1:=R20.out.2
    refine start_ (n:=12) (S:=fun w'=>w'.cell? ⟨g3,1,none⟩=some (.slice (some ⟨gg,0,none⟩) l.length cu)∧w'.cell? ⟨gg,r20.toNat * 6,none⟩=some (.int .i64 (rd_T75 l r20).f0)∧w'.cell? ⟨gg,r20.toNat * 6+1,none⟩=some (.int .i64 (rd_T75 l r20).f1)∧w'.cell? ⟨gg,r20.toNat * 6+2,none⟩=some (.int .i64 (rd_T75 l r20).f2)∧w'.cell? ⟨gg,r20.toNat * 6+3,none⟩=some (.int .i64 (rd_T75 l r20).f3)∧w'.cell? ⟨gg,r20.toNat * 6+4,none⟩=some (.int .i64 (rd_T75 l r20).f4)∧w'.cell? ⟨gg,r20.toNat * 6+5,none⟩=some (.int .i64 (rd_T75 l r20).f5)) (ds:=[11]) (bl 12 0) (by kernel_rfl) rfl rfl ⟨(blk_cell (bk H3) 1).trans rfl,(el6 (rq HO) e0 e1).1⟩ (fun hHeld=>?_);refine with_tabW rspt.t5 rspt.b5 (fun HT_ HW_=>?_);have p0:=eq_true e0;have p1:=eq_true e1
    refine pu 0 21 (bl 12 1) ?_;refine pu 2 23 (bl 12 5) ?_;refine pu 3 24 (bl 12 13) ?_;refine pu 4 25 (bl 12 29) ?_;refine pu 6 27 (bl 12 93) ?_;refine tk 1 22 (bl 12 95) ?_ hHeld;refine tk 5 26 (bl 12 127) ?_ hHeld;refine pu 7 28 (bl 12 255) ?_;refine tk 8 29 (bl 12 511) ?_ hHeld;refine oe 9 30 (bl 12 1023) (fun K hK=>?_);refine gt Tryz.func124 (rspoil _ (wfrd HX.out e0 e1) (dq HD)) ?_
    rintro y w_ ⟨HY,hd⟩
    replace H2:=kv hd.k (bk H2) Cg2;replace H3:=kv hd.k (bk H3) Cg3;replace HO:=dR (dq HD) (rq HO) hd;replace HD:=dt (dq HD) hd;clear hd;have e6:=el6 HO.out e0 e1;refine hK.out _ _ ⟨(blk_cell H3.out 1).trans rfl,e6.1⟩ (fun hHeld=>?_);clear hK K;refine nm 30 ?_;refine pu 10 31 (bl 12 2047) ?_;refine last_ (i:=11) (N:=none) (bl 12 4095) rfl rfl (one_of HT_.out (by kernel_rfl)) (by decide) (fun K hK=>?_);obtain ⟨⟨_,_,_,_,_,_⟩,e7⟩:=e6;have:w_.frozen? ⟨gg,r20.toNat * 6,none⟩=false:=e7 0;have:=e7 1;have:=e7 2;have:=e7 3;have:=e7 4;have:=e7 5;clear e7
    refine skip_ (w1:=w_.setCells gg (r20.toNat * 6) [.int .i64 y.f0, .int .i64 y.f1, .int .i64 y.f2, .int .i64 y.f3, .int .i64 y.f4, .int .i64 y.f5]) (by rfl) rfl ?_ ?_
    · go_simp
      rfl
    refine hK.out _ _ ?_;clear hK K;refine done_ (done_of HT_.out (by kernel_rfl)) ?_
    generalize hW:w_.setCells gg (r20.toNat * 6) [.int .i64 y.f0, .int .i64 y.f1, .int .i64 y.f2, .int .i64 y.f3, .int .i64 y.f4, .int .i64 y.f5]=W6
    obtain ⟨HO2,HD2,hm⟩:=seg6 HO.out (dq HD) HG.out e0 e1 y W6 hW;replace H2:=hm _ _ _ (by decide) H2.out;replace H3:=hm _ _ _ (by decide) H3.out;clear hm hW HO HD;have:=Ng2g3.out;have:=Ng3g2.out;have:=Bg2.out;have:=Cg2.out;have:=Bg3.out;have:=Cg3.out;obtain ⟨_,_,_,_⟩:=zc2 H2;obtain ⟨_,_,_,_⟩:=zc2 H3
    try go_wp2
    refine bodyPost_ret (results_cell_row rfl _ _ g2 32 #[.string nn, .slice (some ⟨gg,0,none⟩) l.length cu] (0,0) _ rfl (bp H2) Tryz.underlying32 rfl (by kernel_rfl)) rfl ?_;exact ⟨⟨_,_,l.set r20.toNat y⟩,rfl,⟨fun q hq=>(List.mem_or_eq_of_mem_set hq).elim (HX.out q) (fun h=>by rw [h];exact HY.out),by show (l.set r20.toNat y).length≤100;rw [List.length_set];exact HL.out,Nat.le_add_left _ _⟩,Kd.R_mono (rf (Kd.R_types (Kd.R_types HO2.out H3.out (by decide)) H2.out (by decide))) (fun _ _=>trivial),(dq HD2).less⟩
  · refine bodyPost_ret (results_cell_row rfl _ _ g2 32 #[.string nn, .slice Au l.length cu] (0,0) _ rfl (bp H2) Tryz.underlying32 rfl (by kernel_rfl)) rfl ?_;exact ⟨⟨_,_,l⟩,rfl,⟨HX.out,HL.out,Nat.le_add_left _ _⟩,Kd.R_mono (rf (Kd.R_types (Kd.R_types HO.out H3.out (by decide)) H2.out (by decide))) (fun _ _=>trivial),(dq HD).less⟩
theorem rany {w0 w W:World} {g:Nat} {b:List Int} {R:Nat} (hD:DD w0 w g b (R+2000) W) :
    Calls Tryz.prog 69 #[.pointer (some ⟨g,0,none⟩)] W fun e w'=>∃ x:ByteArray × Value × List S75,e = .returned (.agg #[.string x.1,x.2.1])∧Aside0 ((∀ q∈x.2.2,Wf q)∧x.2.2.length≤100∧x.1.size≤30)∧Kd.R k75 75 w' W.heap.size (fun _=>True) x.2.1 x.2.2∧DD w0 W g b R w':=by
  have HD:=hD.start;clear hD;have hu1:=Tryz.underlying32;have hu2:=Tryz.underlying75
  go_enter Tryz.func69,Tryz.ntmps69
  try go_wp2_with (first | ((with_reducible refine gd 2 rfl ?_);refine be 2 #[.string (⟨#[]⟩:ByteArray), .slice none 0 0] 32 ?_;intro g1 hg w_ hbox hb_;have H1:=ra hbox;obtain ⟨Ag1,Bg1,Cg1⟩:=dn hg (dq HD);replace HD:=ra ((dq HD).below hb_);clear hb_ hbox hg) | ((with_reducible refine gd 6 rfl ?_);refine slit 6 (T:=9) (xs:=[⟨#[97,49]⟩,⟨#[98]⟩,⟨#[99,45,99]⟩,⟨#[113]⟩]) ?_;intro y v w_ hy HS hb_;obtain ⟨As,cs,rfl⟩:=Kd.R_slice HS.out;replace H1:=bb (bk H1) hb_;replace HD:=ra ((dq HD).below hb_);clear hb_) | ((with_reducible refine gd 7 rfl ?_);refine gz (some 7) Tryz.func92 (rof (dq HD) (Kd.R_reads' HS.out).2.2 (Kd.R_reads' HS.out).2.1 (dO HD.out HS.out) (by rw [hy.out];simp)) ?_;rintro s w_ ⟨ht,hd⟩;replace H1:=kv hd.k (bk H1) Cg1;replace HD:=dt (dq HD) hd;clear hd;have hn:Aside0 (s.size≤3):=(by have h:=ht.out;rw [hy.out] at h;simp only [List.mem_cons,List.not_mem_nil,or_false] at h;refine ⟨?_⟩;rcases h with rfl | rfl | rfl | rfl<;>decide);clear ht HS hy) | ((with_reducible refine gd 8 rfl ?_);refine gz (some 8) Tryz.func91 (rtube s (dq HD)) ?_;rintro ⟨u,l⟩ w_ ⟨hl,ho,hd⟩;dsimp only at hl ho ⊢;obtain ⟨Au,cu,rfl⟩:=Kd.R_slice ho;have HO:=ra (Kd.R_lower ho (keep_size (dq HD).k));replace H1:=kv hd.k (bk H1) Cg1;replace HD:=dt (dq HD) hd;clear hd;clear ho) | ((with_reducible refine gd 3 rfl ?_);refine be 3 #[.string (⟨#[]⟩:ByteArray), .slice none 0 0] 32 ?_;intro g2 hg w_ hbox hb_;have H2:=ra hbox;obtain ⟨Ag2,Bg2,Cg2⟩:=dn hg (dq HD);have Ng1g2:=bn hg (bk H1);have Ng2g1:=bm hg (bk H1);replace H1:=bb (bk H1) hb_;replace HO:=ra (Kd.R_below (rq HO) hb_);replace HD:=ra ((dq HD).below hb_);clear hb_ hbox hg;have:=Ng1g2.out;have:=Ng2g1.out;have:=Bg2.out;have:=Cg2.out;have:=Bg1.out;have:=Cg1.out;obtain ⟨_,_,_,_⟩:=zc2 H2) | ((with_reducible refine gd 10 rfl ?_);refine gz (some 10) Tryz.func35 (rpick 14 (dq HD)) ?_;rintro r10 w_ ⟨-,hd⟩;replace HO:=dR (dq HD) (Kd.R_mono (rf (Kd.R_types HO.out H2.out (by decide))) (fun _ hk=>hk.1)) hd;replace H1:=kv hd.k (bk H1) Cg1;replace H2:=kp #[.string s, .slice Au l.length cu] hd.k (bp H2) Cg2;replace HD:=dt (dq HD) hd;clear hd;obtain ⟨_,_,_,_⟩:=zc2 H1;obtain ⟨_,_,_,_⟩:=zc2 H2;rcases sw1 r10 with c1 | c1) | ((with_reducible refine gd 14 rfl ?_);refine gz (some 14) Tryz.func93 (rspt s hl.out.2 hl.out.1 (rq HO) (dq HD)) ?_;rintro ⟨t,v,z⟩ w_ ⟨hz,ho,hd⟩;dsimp only at hz ho ⊢;obtain ⟨Av,cv,rfl⟩:=Kd.R_slice ho;replace HO:=ra (Kd.R_lower ho (keep_size (dq HD).k));replace H1:=kv hd.k (bk H1) Cg1;replace HD:=dt (dq HD) hd;clear hd;clear ho;obtain ⟨_,_,_,_⟩:=zc2 H1))
  · refine bodyPost_ret (results_cell_row rfl _ _ g1 32 #[.string t, .slice Av z.length cv] (0,0) _ rfl (bp H1) Tryz.underlying32 rfl (by kernel_rfl)) rfl ?_;exact ⟨⟨_,_,z⟩,rfl,⟨hz.out.1,hz.out.2.1,Nat.le_trans hz.out.2.2 (by have:=hn.out;omega)⟩,Kd.R_mono (rf (Kd.R_types (Kd.R_types HO.out H1.out (by decide)) H1.out (by decide))) (fun _ _=>trivial),(dq HD).less⟩
  · refine bodyPost_ret (results_cell_row rfl _ _ g1 32 #[.string s, .slice Au l.length cu] (0,0) _ rfl (bp H1) Tryz.underlying32 rfl (by kernel_rfl)) rfl ?_;exact ⟨⟨_,_,l⟩,rfl,⟨hl.out.1,hl.out.2,by have:=hn.out;show s.size≤30;omega⟩,Kd.R_mono (rf (Kd.R_types (Kd.R_types HO.out H2.out (by decide)) H1.out (by decide))) (fun _ _=>trivial),(dq HD).less⟩
theorem ze3 {w:World} {g:Nat} {t:TypeId} {a b c:Value} (h:Aside0 (w.heap[g]? = some (.cells #[a,b,c] t (0,0)))):w.cell? ⟨g,0,none⟩=some a∧w.cell? ⟨g,1,none⟩=some b∧w.cell? ⟨g,2,none⟩=some c∧w.frozen? ⟨g,0,none⟩=false∧w.frozen? ⟨g,1,none⟩=false∧w.frozen? ⟨g,2,none⟩=false:=⟨blk_cell h.out 0,blk_cell h.out 1,blk_cell h.out 2,blk_frozen h.out 0,blk_frozen h.out 1,blk_frozen h.out 2⟩
theorem dS {w0 w W W1:World} {g:Nat} {b:List Int} {R R':Nat} {α:Type} {d:Kd α} {e base:Nat} {ok:Nat→Prop} {v:Value} {xs:List α} (h0:DD w0 w g b R W) (h:Kd.S d e W base ok v xs) (hd:DD w0 W g b R' W1) (ht:∀ q,q∈e::d.E→q≠113:=by decide):Aside0 (Kd.S d e W1 base ok v xs):=by
  obtain ⟨p,_,_,hi⟩:=h0.i;exact ⟨Kd.S_mono (Kd.S_keep (hi.apartS h ht) hd.k (fun _ h=>h.2)) (fun _ h=>h.1)⟩
theorem dSo {w0 w W W1:World} {g:Nat} {b:List Int} {R R':Nat} {α:Type} {d:Kd α} {e base:Nat} {ok:Nat→Prop} {v u:Value} {xs:List α} (h0:DD w0 w g b R W) (h:Kd.S d e W base ok v xs) (hd:DD w0 W g b R' W1) (hu:∀ k,u.ownBlock=some k→W.heap.size≤k) (ht:∀ q,q∈e::d.E→q≠113:=by decide):Aside0 (Kd.S d e W1 base (fun k=>ok k∧some k≠u.ownBlock) v xs):=by
  obtain ⟨p,_,_,hi⟩:=h0.i;exact ⟨Kd.S_mono (Kd.S_told (Kd.S_oldK (hi.apartS h ht) hd.k) hu) (fun k hk=>hk.1)⟩
theorem rev {w0 w W:World} {g:Nat} {b:List Int} {R:Nat} (hD:DD w0 w g b (R+2002) W) :
    Calls Tryz.prog 36 #[.pointer (some ⟨g,0,none⟩)] W fun e w'=>∃ x:Bool × ByteArray × Value × List S75,e = .returned (.agg #[.bool x.1, .string x.2.1,x.2.2.1])∧Aside0 (x.2.2.2.length≤100∧x.2.1.size≤30)∧Kd.R k75 75 w' W.heap.size (fun _=>True) x.2.2.1 x.2.2.2∧DD w0 W g b R w':=by
  have HD:=hD.start;clear hD;have hu1:=Tryz.underlying34;have hu2:=Tryz.underlying32
  go_enter Tryz.func36,Tryz.ntmps36
  try go_wp2_with (first | ((with_reducible refine gd 2 rfl ?_);refine be 2 #[.bool false, .string (⟨#[]⟩:ByteArray), .slice none 0 0] 34 ?_;intro g1 hg w_ hbox hb_;have H1:=ra hbox;obtain ⟨Ag1,Bg1,Cg1⟩:=dn hg (dq HD);replace HD:=ra ((dq HD).below hb_);clear hb_ hbox hg) | ((with_reducible refine gd 5 rfl ?_);refine gz (some 5) Tryz.func35 (rpick 3 (dq HD)) ?_;rintro r5 w_ ⟨Rr5,hd⟩;replace H1:=kv hd.k (bk H1) Cg1;replace HD:=dt (dq HD) hd;clear hd) | ((with_reducible refine gd 8 rfl ?_);refine gz (some 8) Tryz.func69 (rany (dq HD)) ?_;rintro ⟨s,u,l⟩ w_ ⟨hl,ho,hd⟩;dsimp only at hl ho ⊢;obtain ⟨Au,cu,rfl⟩:=Kd.R_slice ho;have HO:=ra (Kd.R_lower ho (keep_size (dq HD).k));replace H1:=kv hd.k (bk H1) Cg1;replace HD:=dt (dq HD) hd;clear hd;clear ho) | ((with_reducible refine gd 3 rfl ?_);refine be 3 #[.bool false, .string (⟨#[]⟩:ByteArray), .slice none 0 0] 34 ?_;intro g2 hg w_ hbox hb_;have H2:=ra hbox;obtain ⟨Ag2,Bg2,Cg2⟩:=dn hg (dq HD);have Ng1g2:=bn hg (bk H1);have Ng2g1:=bm hg (bk H1);replace H1:=bb (bk H1) hb_;replace HO:=ra (Kd.R_below (rq HO) hb_);replace HD:=ra ((dq HD).below hb_);clear hb_ hbox hg;have:=Ng1g2.out;have:=Ng2g1.out;have:=Bg2.out;have:=Cg2.out;have:=Bg1.out;have:=Cg1.out;obtain ⟨_,_,_,_,_,_⟩:=ze3 H2) | ((with_reducible refine gd 11 rfl ?_);refine gz (some 11) Tryz.func35 (rpick 12 (dq HD)) ?_;rintro r11 w_ ⟨-,hd⟩;replace HO:=dR (dq HD) (Kd.R_mono (rf (Kd.R_types HO.out H2.out (by decide))) (fun _ hk=>hk.1)) hd;replace H1:=kv hd.k (bk H1) Cg1;replace H2:=kp #[.bool (r5==0), .string s, .slice Au l.length cu] hd.k (bp H2) Cg2;replace HD:=dt (dq HD) hd;clear hd;obtain ⟨_,_,_,_,_,_⟩:=ze3 H1;obtain ⟨_,_,_,_,_,_⟩:=ze3 H2;rcases sw1 r11 with c1 | c1))
  · refine bodyPost_ret (results_cell_row rfl _ _ g1 34 #[.bool (r5==0), .string (⟨#[122,122]⟩:ByteArray), .slice Au l.length cu] (0,0) _ rfl (bp H1) Tryz.underlying34 rfl (by kernel_rfl)) rfl ?_;exact ⟨⟨_,_,_,l⟩,rfl,⟨hl.out.2.1,by show ByteArray.size ⟨#[122,122]⟩≤30;decide⟩,Kd.R_mono (rf (Kd.R_types (Kd.R_types HO.out H2.out (by decide)) H1.out (by decide))) (fun _ _=>trivial),(dq HD).less⟩
  · refine bodyPost_ret (results_cell_row rfl _ _ g1 34 #[.bool (r5==0), .string s, .slice Au l.length cu] (0,0) _ rfl (bp H1) Tryz.underlying34 rfl (by kernel_rfl)) rfl ?_;exact ⟨⟨_,_,_,l⟩,rfl,⟨hl.out.2.1,hl.out.2.2⟩,Kd.R_mono (rf (Kd.R_types (Kd.R_types HO.out H2.out (by decide)) H1.out (by decide))) (fun _ _=>trivial),(dq HD).less⟩
theorem revs {A:Option Addr} {c:Nat} {code:List Int} {w:World} (hr:Kd.C (Kd.int .u8) w A code.length code) (hc:code.length≤c) (hb:∀ x∈code,0≤x∧x≤255) :
    Calls Tryz.prog 5 #[.slice A code.length c] w fun e w'=>∃ x:Value × List S34,e = .returned x.1∧Aside0 (x.2.length≤100∧∀ q∈x.2,q.f1.f1.length≤100∧q.f1.f0.size≤30)∧Kd.S k34 34 w' w.heap.size (fun _=>True) x.1 x.2∧Below w.heap.size w w':=by
  have HR:=ra hr;have HC:=ra hc
  obtain ⟨b,ho,hq⟩:=open_ev code hb;have HO:=ra ho;have HQ:=ra hq
  clear hr hc ho hq hb;have hu1:=Tryz.underlying34
  go_enter Tryz.func5,Tryz.ntmps5
  go_wp2_with (first | ((with_reducible refine gd 7 rfl ?_);refine gx (some 7) Tryz.func34 (spec_l1Open.calls _ _ _ _ _ _ _ (Below.refl _ _) HR.out HC.out HO.out) ?_;rintro g w1 ⟨hi,hb,-⟩;have HD:Aside0 (DD w w g b 60000 w1):=⟨⟨⟨0,by decide,by decide,hi⟩,hb,KeepBut.of_below hb g none,Nat.le_refl _,HQ.out⟩⟩;clear hi hb) | ((with_reducible refine gd 8 rfl ?_);refine Kd.S_lit k34 _ 34 ?hg (N:=8) ?hd (xs:=([]:List (S34))) (inner:=[]) (ok:=fun _=>True) (okp:=fun _=>True) ?hr ?hp (fun _ hk=>hk) trivial (Below.refl _ _) (Nat.le_refl _) (by simp) ?_;(case hd=>rfl);(case hg=>rfl);(case hr=>first | (go_simp;done) | (go_simp;rfl));(case hp=>exact (Reps.none _ _));intro v0 w_ ho hb_ hg_ hn_;clear hg_ hn_;obtain ⟨X0,hX0⟩:∃ X0:List S34,X0=[]:=⟨_,rfl⟩;rw [← hX0] at ho;have HX0:=ra hX0;have XS:=ra (Kd.S_lower ho (below_size (dq HD).e));replace HD:=ra ((dq HD).below hb_);clear hb_ ho hX0) | ((with_reducible refine gd 10 rfl ?_);refine gz (some 10) Tryz.func35 (rpick 24 (dq HD)) ?_;rintro r10 w_ ⟨hr_,hd⟩;obtain ⟨n0,rfl⟩:=Int.eq_ofNat_of_zero_le hr_.out.1;have HN:Aside0 (n0<24):=⟨by have:=hr_.out.2;omega⟩;replace XS:=dS (dq HD) XS.out hd;replace HD:=dt (dq HD) hd;clear hd hr_))
  go_loopg [4,5] 24 (fun kx s4 s5 wr=>∃ (n:Nat) (v:Value) (X:List S34),s4=v∧s5 = .int .i64 (n:Int)∧Aside0 (n≤kx∧n+X.length≤24∧∀ q∈X,q.f1.f1.length≤100∧q.f1.f0.size≤30)∧Aside0 (Kd.S k34 34 wr w.heap.size (fun _=>True) v X)∧Aside0 (DD w w g b (2010 * n+10) wr))
  case atStart=>exact ⟨n0,v0,X0,rfl,rfl,⟨by have:=HN.out;omega,by rw [HX0.out];have:=HN.out;simp;omega,by rw [HX0.out];simp⟩,XS,⟨(dq HD).less (by have:=HN.out;omega)⟩⟩
  case round =>
    clear HD XS HX0 HN;obtain ⟨n,v,X,rfl,rfl,HN,XS,HD⟩:=hrel
    cases n with
    | zero =>
      have hz:decide ((0:Int)<((0:Nat):Int))=false:=by decide
      go_wp2;go_ret
      exact ⟨⟨_,X⟩,re,⟨by have:=HN.out;show X.length≤100;omega,HN.out.2.2⟩,XS.out,(dq HD).e⟩
    | succ m =>
      have hz:decide ((0:Int)<((m+1:Nat):Int))=true:=decide_eq_true (by omega);have hz2:((0:Int)<((m+1:Nat):Int))=True:=eq_true (by omega)
      go_wp2_with (first | ((with_reducible refine gd 17 rfl ?_);refine gz (some 17) Tryz.func36 (rev ((dq HD).less (R':=(2010 * m+10)+2002))) ?_;rintro ⟨d,s,u,l⟩ w_ ⟨hl,ho,hd⟩;dsimp only at hl ho ⊢;obtain ⟨Au,cu,rfl⟩:=Kd.R_slice ho;replace XS:=dSo (u := .slice Au l.length cu) ((dq HD).less (R':=0) (by omega)) XS.out hd (Kd.R_base ho);have HO:=ra (Kd.R_lower ho (below_size (dq HD).e));replace HD:=dt ((dq HD).less (R':=0) (by omega)) hd;clear hd ho) | ((with_reducible refine gate_builtin (b := .append) (xs:=#[.tmp 15, .tmp 18]) rfl ?_);at_builtin;refine Kd.S_append k34 (w0:=w_) w.heap.size rfl (.tmp 15) (.tmp 18) 23 34 (.agg #[(.bool false),(.string ⟨#[]⟩),(.slice none 0 0)]) 48 rfl Tryz.underlying23 info34 rfl (by decide) (by omega) u4 X (⟨d,(⟨s,l⟩:S32)⟩:S34) [.bool d, .string s, .slice Au l.length cu] (fun _=>True) (fun k_=>some k_=(.slice Au l.length cu:Value).ownBlock) rfl rfl ?aP (fun k_ hk_=>(Kd.R_mono (ok':=fun k_=>((fun _=>True)) k_∧some k_≠(u4:Value).ownBlock) (Kd.R_apart' (HO.out) (Kd.S_typed XS.out) (by decide)) (fun k_ hk=>⟨trivial,hk.2⟩)).1 k_ hk_.symm) ?aF ?aO ?aB ?aS ?aL ?_;(case aP=>exact k34_mkM _ _ _ (⟨d,(⟨s,l⟩:S32)⟩:S34) (Kd.R_mono (Kd.R_tight rfl (Kd.R_mono (ok':=fun k_=>((fun _=>True)) k_∧some k_≠(u4:Value).ownBlock) (Kd.R_apart' (HO.out) (Kd.S_typed XS.out) (by decide)) (fun k_ hk=>⟨trivial,hk.2⟩))) (fun _ h_=>h_)));(case aB=>exact Below.refl _ _);(case aF=>exact (fun _ _=>trivial));(case aO=>exact Kd.S_mono XS.out (fun k_ hk=>⟨trivial,fun e_=>hk.2 e_⟩));(case aS=>exact (below_size (dq HD).e));(case aL=>have:=HN.out;omega);intro v2 w2_ ho2 hb2 hg2 hat2;replace HD:=(dq HD).app (Kd.S_R XS.out) hg2 hb2;replace XS:=ra ho2;clear ho2 hb2 hg2 hat2 HO))
      go_roundg m
      case measure=>have:=HN.out;omega
      case rel =>
        refine ⟨m,_,_,rfl,by congr 1;unfold wrap64;have:=HN.out;omega,⟨Nat.le_refl _,?_,?_⟩,XS,⟨(dq HD).less⟩⟩
        · have:=HN.out.2.1;rw [List.length_append,List.length_singleton];omega
        · intro q hq
          rcases List.mem_append.1 hq with hq | hq
          · exact HN.out.2.2 q hq
          · rw [List.mem_singleton.1 hq];exact ⟨hl.out.1,hl.out.2⟩
end Go.Proofs.YtgklmafdbgnohaaGreat.PA
end
