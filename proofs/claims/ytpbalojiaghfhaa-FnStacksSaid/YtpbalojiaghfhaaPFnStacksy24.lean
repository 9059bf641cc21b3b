import Derived.Test.YtpbalojiaghfhaaPFnStacksy0
import Derived.Test.YtpbalojiaghfhaaPFnStacksy2
import Derived.Test.YtpbalojiaghfhaaPFnStacksy3
import Derived.Test.YtpbalojiaghfhaaPFnStacksy4
import Derived.Test.YtpbalojiaghfhaaPFnStacksy5
import Derived.Test.YtpbalojiaghfhaaPFnStacksy21
import Derived.Test.YtpbalojiaghfhaaPFnStacksy23
namespace Go.Proofs.Ytpbalojiaghfhaa.PFnStacks
open Go.RowKit Go.Proofs.YtpbalojiaghfhaaW.PrintWords Go.Proofs.YtpbalojiaghfhaaW.PrintLast Go.Proofs.YtpbalojiaghfhaaW.PrintMore Go.Proofs.YtpbalojiaghfhaaW.Z
open Kd
attribute [local go_sem] isS max2_int min2_int max_two min_two max_three min_three max_four min_four
set_option linter.unusedVariables false
set_option linter.unusedSimpArgs false
def impl_PushStack.f (k:Nat) (a:List (List (S34))) (c:List (S34)):Option ((List (List (S34)))×Bool):=(impl_copyStack.f k a).bind fun am=>((some (([] :List (S34)):List (S34))).bind fun ad=>(if ad.length+c.length<4398046511104 then(if am.length<5864062014805 then((some (am ++ [(ad ++ c)] :List (List (S34)))).bind fun a5=>((impl_StackOk.f k a5).bind fun a6=>(if a6=true then(some (a5,true))else((impl_copyStack.f k a).bind fun bC=>(some (bC,false))))))else(none))else(none)))
set_option maxHeartbeats 8000000 in
set_option maxRecDepth 100000 in
theorem impl_PushStack.calls {k:Nat}{q:Option Addr}{s:Nat}{a:List (List (S34))}{an:Option Addr}{ao:Nat}{c:List (S34)}{r1:List (List (S34))}{r2:Bool}{w:World}(h:impl_PushStack.f k a c=some (r1,r2))(t:Kd.C (Kd.slice 34 k34) w q a.length a)(u:a.length≤s)(ap:Kd.C k34 w an c.length c)(aq:c.length≤ao) :
 Calls Try.prog 27 #[.slice q a.length s,.slice an c.length ao] w fun e w'=> ∃ v0_:Value,e= .returned (.tuple #[v0_,.bool r2])∧Kd.S (Kd.slice 34 k34) 24 w' w.heap.size (fun _=>True) v0_ r1∧Below w.heap.size w w':=by
 have HR0:=aM t;have HC0:=aM u;clear t u;have HR1:=aM ap;have HC1:=aM aq;clear ap aq;have HB:=rW w
 unfold impl_PushStack.f at h;have H:=h
 clear h;replace H:=bE H;obtain⟨am,W,H⟩:=H;replace H:=nE H;obtain⟨ad,aU,H⟩:=H;replace H:=gC H;obtain⟨z,H⟩:=H;have ar:=aM z;clear z;obtain⟨ae,a7⟩ : ∃ y_:List (S34),Aside0 (y_=(ad ++ c)):=⟨_,⟨rfl⟩⟩;rw[← a7.out]at H;replace H:=gC H;obtain⟨g,H⟩:=H;have au:=aM g;clear g;replace H:=nE H;obtain⟨a5,bD,H⟩:=H;replace H:=bE H;obtain⟨a6,av,H⟩:=H;by_cases A:a6=true
 ·subst A;replace H:=iT H;simp only[Option.some.injEq,Prod.mk.injEq]at H;obtain⟨rfl,rfl⟩:=H;go_enter Try.func27,Try.ntmps27
  go_wp2_with (first|((with_reducible refine gF 65 ?_);refine gY (some 8) Try.func65 (impl_copyStack.calls W.out (cC HR0.out) HC0.out) ?_;rintro Y a8 ⟨d,hb⟩;have i:=aM (S_lower d (below_size cB));replace HB:=sB hb;(try clear hb);(try clear d))|((with_reducible refine gN 9 ?_);refine R_lit k34 _ 34 ?hg (N:=9) ?hd (xs:=([] :List (S34))) (inner:=[]) (ok:=fun _=>True) (okp:=fun _=>True) ?hr ?hp (fun _ hk=>hk) trivial (Below.refl _ _) (Nat.le_refl _) (by simp) ?_;(case hd=>rfl);(case hg=>rfl);(case hr=>exact rG);(case hp=>exact(Reps.none _ _));intro a9 b8 v hb hg_ hnew_;clear hg_ hnew_;(first|rw[← aU.out]at v|(simp only[Int.reduceToNat]at v;rw[← aU.out]at v));replace i:=aM (S_elder' (by(with_reducible repeat(first|apply S_alloc|apply S_drewN|apply S_drew));exact i.out) (R_base v) hb);have aw:=rL v;replace HB:=sB hb;clear hb v)|((with_reducible refine gA 9 10 ?_);at_builtin;refine R_append_rows k34 (w0:=w) w.heap.size rfl (.tmp 9) (.tmp 10) 24 34 (.agg #[(.int .i64 0),(.int .i64 0),(.int .i64 0),(.int .i64 0)]) 32 rfl Try.underlying24 info34 rfl (by decide) (by omega) a9 ad c _ _ _ (fun _=>True) (fun _=>False) rfl rfl ?aO ?aR (fun _ _ h=>h) (fun _ h=>h.elim) ?aF ?aB ?aS ?aL ?_;(case aR=>exact cH HR1);(case aB=>exact cB);(case aF=>exact(fun _ _=>trivial));(case aO=>exact(mR aw));(case aS=>exact(below_size cB));(case aL=>have:=ar.out;omega);intro b9 ba ho hb hg hat;rw[← a7.out]at ho;replace i:=aM (S_after (ok:=(fun _=>True)) (by(with_reducible repeat(first|apply S_alloc|apply S_drewN|apply S_drew));exact i.out) hg hat);replace HB:=aM hb;have L:=aM ho;clear aw ho hb hg hat;obtain⟨ax,ay,bb⟩:=R_slice L.out;subst bb)|((with_reducible refine gA 8 12 ?_);at_builtin;refine S_append (Kd.slice 34 k34) (w0:=w) w.heap.size rfl (.tmp 8) (.tmp 12) 50 24 (.slice none 0 0) 24 rfl Try.underlying50 info24 rfl (by decide) (by omega) Y am ae [.slice ax ae.length ay] (fun _=>True) (fun k_=>some k_=(.slice ax ae.length ay:Value).ownBlock) rfl rfl ?aP (fun k_ hk_=>((R_mono (ok':=fun k_=>((fun _=>True)) k_∧some k_≠(Y:Value).ownBlock) (R_apart' (L.out) (S_typed i.out) (by decide)) (fun k_ hk=>⟨trivial,hk.2⟩))).1 k_ hk_.symm) ?aF ?aO ?aB ?aS ?aL ?_;(case aP=>exact M_row (R_mono (R_tight rfl (R_mono (ok':=fun k_=>((fun _=>True)) k_∧some k_≠(Y:Value).ownBlock) (R_apart' (L.out) (S_typed i.out) (by decide)) (fun k_ hk=>⟨trivial,hk.2⟩))) (fun _ h_=>h_)));(case aB=>exact cB);(case aF=>exact(fun _ _=>trivial));(case aO=>exact(by exact sM i (fun k_ hk=>⟨trivial,fun e_=>hk.2 e_⟩)));(case aS=>exact(below_size cB));(case aL=>have:=au.out;omega);intro ca cb ho hb hg hat;rw[← bD.out]at ho;replace HB:=aM hb;have m:=aM ho;clear i L ho hb hg hat;obtain⟨cc,cd,bd⟩:=S_slice m.out;subst bd)|((with_reducible refine gF 30 ?_);refine gX (some 15) Try.func30 (impl_StackOk.calls av.out (cC ((S_reads' m.out).2.2)) ((S_reads' m.out).2.1)) ?_;intro ce hb;replace m:=aM (S_below (by(with_reducible repeat(first|apply S_alloc|apply S_drewN|apply S_drew));exact m.out) hb);replace HB:=sB hb;(try clear hb)))
  go_ret2
  exact⟨_,rE,by(with_reducible repeat(first|apply S_alloc|apply S_drewN|apply S_drew));exact m.out,cB⟩
 ·replace A:=Bool.eq_false_iff.mpr A;subst A;replace H:=iF H;replace H:=bE H;obtain⟨bC,az,H⟩:=H;simp only[Option.some.injEq,Prod.mk.injEq]at H;obtain⟨rfl,rfl⟩:=H;go_enter Try.func27,Try.ntmps27
  go_wp2_with (first|((with_reducible refine gF 65 ?_);refine gY (some 8) Try.func65 (impl_copyStack.calls W.out (cC HR0.out) HC0.out) ?_;rintro Y cf ⟨d,hb⟩;have i:=aM (S_lower d (below_size cB));replace HB:=sB hb;(try clear hb);(try clear d))|((with_reducible refine gN 9 ?_);refine R_lit k34 _ 34 ?hg (N:=9) ?hd (xs:=([] :List (S34))) (inner:=[]) (ok:=fun _=>True) (okp:=fun _=>True) ?hr ?hp (fun _ hk=>hk) trivial (Below.refl _ _) (Nat.le_refl _) (by simp) ?_;(case hd=>rfl);(case hg=>rfl);(case hr=>exact rG);(case hp=>exact(Reps.none _ _));intro a9 bF x hb hg_ hnew_;clear hg_ hnew_;(first|rw[← aU.out]at x|(simp only[Int.reduceToNat]at x;rw[← aU.out]at x));replace i:=aM (S_elder' (by(with_reducible repeat(first|apply S_alloc|apply S_drewN|apply S_drew));exact i.out) (R_base x) hb);have aw:=rL x;replace HB:=sB hb;clear hb x)|((with_reducible refine gA 9 10 ?_);at_builtin;refine R_append_rows k34 (w0:=w) w.heap.size rfl (.tmp 9) (.tmp 10) 24 34 (.agg #[(.int .i64 0),(.int .i64 0),(.int .i64 0),(.int .i64 0)]) 32 rfl Try.underlying24 info34 rfl (by decide) (by omega) a9 ad c _ _ _ (fun _=>True) (fun _=>False) rfl rfl ?aO ?aR (fun _ _ h=>h) (fun _ h=>h.elim) ?aF ?aB ?aS ?aL ?_;(case aR=>exact cH HR1);(case aB=>exact cB);(case aF=>exact(fun _ _=>trivial));(case aO=>exact(mR aw));(case aS=>exact(below_size cB));(case aL=>have:=ar.out;omega);intro b9 cg ho hb hg hat;rw[← a7.out]at ho;replace i:=aM (S_after (ok:=(fun _=>True)) (by(with_reducible repeat(first|apply S_alloc|apply S_drewN|apply S_drew));exact i.out) hg hat);replace HB:=aM hb;have L:=aM ho;clear aw ho hb hg hat;obtain⟨aA,aC,be⟩:=R_slice L.out;subst be)|((with_reducible refine gA 8 12 ?_);at_builtin;refine S_append (Kd.slice 34 k34) (w0:=w) w.heap.size rfl (.tmp 8) (.tmp 12) 50 24 (.slice none 0 0) 24 rfl Try.underlying50 info24 rfl (by decide) (by omega) Y am ae [.slice aA ae.length aC] (fun _=>True) (fun k_=>some k_=(.slice aA ae.length aC:Value).ownBlock) rfl rfl ?aP (fun k_ hk_=>((R_mono (ok':=fun k_=>((fun _=>True)) k_∧some k_≠(Y:Value).ownBlock) (R_apart' (L.out) (S_typed i.out) (by decide)) (fun k_ hk=>⟨trivial,hk.2⟩))).1 k_ hk_.symm) ?aF ?aO ?aB ?aS ?aL ?_;(case aP=>exact M_row (R_mono (R_tight rfl (R_mono (ok':=fun k_=>((fun _=>True)) k_∧some k_≠(Y:Value).ownBlock) (R_apart' (L.out) (S_typed i.out) (by decide)) (fun k_ hk=>⟨trivial,hk.2⟩))) (fun _ h_=>h_)));(case aB=>exact cB);(case aF=>exact(fun _ _=>trivial));(case aO=>exact(by exact sM i (fun k_ hk=>⟨trivial,fun e_=>hk.2 e_⟩)));(case aS=>exact(below_size cB));(case aL=>have:=au.out;omega);intro ca ch ho hb hg hat;rw[← bD.out]at ho;replace HB:=aM hb;have m:=aM ho;clear i L ho hb hg hat;obtain⟨ci,cj,bf⟩:=S_slice m.out;subst bf)|((with_reducible refine gF 30 ?_);refine gX (some 15) Try.func30 (impl_StackOk.calls av.out (cC ((S_reads' m.out).2.2)) ((S_reads' m.out).2.1)) ?_;intro ck hb;replace m:=aM (S_below (by(with_reducible repeat(first|apply S_alloc|apply S_drewN|apply S_drew));exact m.out) hb);replace HB:=sB hb;(try clear hb))|((with_reducible refine gF 65 ?_);refine gY (some 18) Try.func65 (impl_copyStack.calls az.out (cH HR0) HC0.out) ?_;rintro cX cl ⟨d,hb⟩;have cm:=aM (S_lower (S_new' d (S_lt (by(with_reducible repeat(first|apply S_alloc|apply S_drewN|apply S_drew));exact m.out))) (below_size cB));replace m:=aM (S_elder' (by(with_reducible repeat(first|apply S_alloc|apply S_drewN|apply S_drew));exact m.out) (S_base d) hb);replace HB:=sB hb;(try clear hb);(try clear d)))
  go_ret2
  exact⟨_,rE,by(with_reducible repeat(first|apply S_alloc|apply S_drewN|apply S_drew));exact S_mono cm.out (fun _ hk=>trivial),cB⟩
def spec_StackOk.l0:Nat→List (List (S34))→Int→Option (Bool)
  | 0,_,_=>none
  | k+1,n,X=>if X<(n.length:Int)then(if 0≤X then((spec_CheckProgram.f k (rd_L10 n X)).bind fun bg=>(if bg=true then(spec_StackOk.l0 k n (wrap64 (X+1)))else(some false)))else(none))else(some (decide ((n.length:Int)≤3)))
def spec_StackOk.f (k:Nat) (a:List (List (S34))):Option (Bool):=spec_StackOk.l0 k a 0
set_option maxHeartbeats 8000000 in
set_option maxRecDepth 100000 in
theorem spec_StackOk.calls {k:Nat}{q:Option Addr}{s:Nat}{a:List (List (S34))}{r:Bool}{w:World}(h:spec_StackOk.f k a=some r)(t:Kd.C (Kd.slice 34 k34) w q a.length a)(u:a.length≤s) :
 Calls Try.prog 31 #[.slice q a.length s] w fun e w'=>e= .returned (.bool r)∧Below w.heap.size w w':=by
 have HR0:=aM t;have HC0:=aM u;clear t u;have HB:=rW w;have H:(spec_StackOk.l0 k a 0)=some r:=h;clear h;have H':=aM H;clear H;go_enter Try.func31,Try.ntmps31;go_wp2
 go_loopg [3] k (fun kq bh w'=> ∃ (j:Int),bh= .int .i64 j∧Aside0 (spec_StackOk.l0 kq a j=some r)∧Aside0 (kq≤k)∧Aside0 (Below w.heap.size w w'))
 case atStart=>exact⟨(0),rS,H',⟨Nat.le_refl _⟩,⟨cB⟩⟩
 case round=>
  clear H';obtain⟨j,rfl,HA,HK1,HB⟩:=hrel
  cases gk with
  | zero=>exact absurd HA.out (by simp[spec_StackOk.l0])
  | succ k1=>
   have H:=HA.out;clear HA;simp only[spec_StackOk.l0]at H;by_cases af:j<(a.length:Int)
   ·rw[if_pos af]at H;have cn:=decide_eq_true af;clear af;replace H:=gD H;obtain⟨cY,H⟩:=H;replace H:=bE H;obtain⟨bg,aD,H⟩:=H;by_cases g:bg=true
    ·subst g;replace H:=iT H;have H':=aM H;clear H;have aa:0≤(j:Int):=dA;have ab:j<(a.length:Int):=dA;obtain⟨co,cp,cq,bi,aE,hl1114_0,hi1114_0⟩:=at_L10 HR0.out j aa ab;cases bi;replace aE:=(bc HB aE :);have HR1114_0:=aM hi1114_0;have HC1114_0:=aM hl1114_0;clear hi1114_0 hl1114_0;replace aa:=eq_true aa;replace ab:=eq_true ab
     go_wp2_with (first|((with_reducible refine gF 12 ?_);refine gX (some 14) Try.func12 (spec_CheckProgram.calls aD.out (cH HR1114_0) HC1114_0.out) ?_;intro cZ hb;replace HB:=sB hb;(try clear hb)))
     go_roundg k1
     case measure=>exact oK
     case rel=>exact⟨(wrap64 (j+1)),rS,H',⟨oK⟩,⟨cB⟩⟩
    ·replace g:=Bool.eq_false_iff.mpr g;subst g;replace H:=iF H;obtain rfl:=Option.some.inj H;have aa:0≤(j:Int):=dA;have ab:j<(a.length:Int):=dA;obtain⟨co,cp,cq,bi,aE,hl1114_0,hi1114_0⟩:=at_L10 HR0.out j aa ab;cases bi;replace aE:=(bc HB aE :);have HR1114_0:=aM hi1114_0;have HC1114_0:=aM hl1114_0;clear hi1114_0 hl1114_0;replace aa:=eq_true aa;replace ab:=eq_true ab
     go_wp2_with (first|((with_reducible refine gF 12 ?_);refine gX (some 14) Try.func12 (spec_CheckProgram.calls aD.out (cH HR1114_0) HC1114_0.out) ?_;intro c0 hb;replace HB:=sB hb;(try clear hb)))
     go_ret;exact⟨rE,cB⟩
   ·rw[if_neg af]at H;have cn:=decide_eq_false af;clear af;obtain rfl:=Option.some.inj H;go_wp2;go_ret;exact⟨rE,cB⟩
def spec_l15Copy.l0:Nat→List (List (S34))→List (List (S34))→Int→Option ((List (List (S34))))
  | 0,_,_,_=>none
  | k+1,n,X,aG=>if aG<(n.length:Int)then((some (([] :List (S34)):List (S34))).bind fun aH=>(if 0≤aG then(if aH.length+(rd_L10 n aG).length<4398046511104 then(if X.length<5864062014805 then(spec_l15Copy.l0 k n (X ++ [(aH ++ (rd_L10 n aG))]) (wrap64 (aG+1)))else(none))else(none))else(none)))else(some X)
def spec_l15Copy.f (k:Nat) (a:List (List (S34))):Option ((List (List (S34)))):=spec_l15Copy.l0 k a (([] :List (List (S34)))) 0
set_option maxHeartbeats 8000000 in
set_option maxRecDepth 100000 in
theorem spec_l15Copy.calls {k:Nat}{q:Option Addr}{s:Nat}{a:List (List (S34))}{r:List (List (S34))}{w:World}(h:spec_l15Copy.f k a=some r)(t:Kd.C (Kd.slice 34 k34) w q a.length a)(u:a.length≤s) :
 Calls Try.prog 66 #[.slice q a.length s] w fun e w'=> ∃ v0_:Value,e= .returned (v0_)∧Kd.S (Kd.slice 34 k34) 24 w' w.heap.size (fun _=>True) v0_ r∧Below w.heap.size w w':=by
 have HR0:=aM t;have HC0:=aM u;clear t u;have HB:=rW w;have H:(spec_l15Copy.l0 k a (([] :List (List (S34)))) 0)=some r:=h;clear h;obtain⟨cr,bj⟩ : ∃ y_:List (List (S34)),Aside0 (y_=(([] :List (List (S34))))):=⟨_,⟨rfl⟩⟩;rw[← bj.out]at H;have H':=aM H;clear H;go_enter Try.func66,Try.ntmps66
 go_wp2_with (first|((with_reducible refine gN 5 ?_);refine S_lit (Kd.slice 34 k34) _ 24 ?hg (N:=5) ?hd (xs:=([] :List (List (S34)))) (inner:=[]) (ok:=fun _=>True) (okp:=fun _=>True) ?hr ?hp (fun _ hk=>hk) trivial (Below.refl _ _) (Nat.le_refl _) (by simp) ?_;(case hd=>rfl);(case hg=>rfl);(case hr=>exact rG);(case hp=>exact(Reps.none _ _));intro c1 c2 aI hb hg_ hnew_;clear hg_ hnew_;(first|rw[← bj.out]at aI|(simp only[Int.reduceToNat]at aI;rw[← bj.out]at aI));have cs:=aM (S_lower aI (below_size cB));replace HB:=sB hb;clear hb aI))
 go_loopg [3,4] k (fun kq bh ct w'=> ∃ (j:List (List (S34))) (I:Int),ct= .int .i64 I∧Aside0 (spec_l15Copy.l0 kq a j I=some r)∧Aside0 (kq≤k)∧Aside0 (Kd.S (Kd.slice 34 k34) 24 w' w.heap.size (fun _=>True) bh j)∧Aside0 (Below w.heap.size w w'))
 case atStart=>exact⟨(cr),(0),rS,H',⟨Nat.le_refl _⟩,⟨by(with_reducible repeat(first|apply S_alloc|apply S_drewN|apply S_drew));exact cs.out⟩,⟨cB⟩⟩
 case round=>
  clear H';obtain⟨j,I,rfl,HA,HK1,M,HB⟩:=hrel
  cases gk with
  | zero=>exact absurd HA.out (by simp[spec_l15Copy.l0])
  | succ k1=>
   have H:=HA.out;clear HA;simp only[spec_l15Copy.l0]at H;by_cases z:I<(a.length:Int)
   ·rw[if_pos z]at H;have cu:=decide_eq_true z;clear z;replace H:=nE H;obtain⟨aH,bG,H⟩:=H;replace H:=gD H;obtain⟨bH,H⟩:=H;replace H:=gC H;obtain⟨O,H⟩:=H;have cv:=aM O;clear O;obtain⟨aV,bI⟩ : ∃ y_:List (S34),Aside0 (y_=(aH ++ (rd_L10 a I))):=⟨_,⟨rfl⟩⟩;rw[← bI.out]at H;replace H:=gC H;obtain⟨A,H⟩:=H;have cw:=aM A;clear A;obtain⟨cx,bJ⟩ : ∃ y_:List (List (S34)),Aside0 (y_=(j ++ [aV])):=⟨_,⟨rfl⟩⟩;rw[← bJ.out]at H;have H':=aM H;clear H
    go_wp2_with (first|((with_reducible refine gN 13 ?_);refine R_lit k34 _ 34 ?hg (N:=13) ?hd (xs:=([] :List (S34))) (inner:=[]) (ok:=fun _=>True) (okp:=fun _=>True) ?hr ?hp (fun _ hk=>hk) trivial (Below.refl _ _) (Nat.le_refl _) (by simp) ?_;(case hd=>rfl);(case hg=>rfl);(case hr=>exact rG);(case hp=>exact(Reps.none _ _));intro cy a8 ag hb hg_ hnew_;clear hg_ hnew_;(first|rw[← bG.out]at ag|(simp only[Int.reduceToNat]at ag;rw[← bG.out]at ag));replace M:=aM (S_elder' (by(with_reducible repeat(first|apply S_alloc|apply S_drewN|apply S_drew));exact M.out) (R_base ag) hb);have bL:=rL ag;replace HB:=sB hb;clear hb ag;have bk:0≤(I:Int):=dA;have bl:I<(a.length:Int):=dA;obtain⟨c3,c4,c5,cz,bM,hl1122_0,hi1122_0⟩:=at_L10 HR0.out I bk bl;cases cz;replace bM:=(bc HB bM :);have HR1122_0:=aM hi1122_0;have HC1122_0:=aM hl1122_0;clear hi1122_0 hl1122_0;replace bk:=eq_true bk;replace bl:=eq_true bl)|((with_reducible refine gA 13 17 ?_);at_builtin;refine R_append_rows k34 (w0:=w) w.heap.size rfl (.tmp 13) (.tmp 17) 24 34 (.agg #[(.int .i64 0),(.int .i64 0),(.int .i64 0),(.int .i64 0)]) 32 rfl Try.underlying24 info34 rfl (by decide) (by omega) cy aH (rd_L10 a I) _ _ _ (fun _=>True) (fun _=>False) rfl rfl ?aO ?aR (fun _ _ h=>h) (fun _ h=>h.elim) ?aF ?aB ?aS ?aL ?_;(case aR=>exact cH HR1122_0);(case aB=>exact cB);(case aF=>exact(fun _ _=>trivial));(case aO=>exact(mR bL));(case aS=>exact(below_size cB));(case aL=>have:=cv.out;omega);intro c6 cA ho hb hg hat;rw[← bI.out]at ho;replace M:=aM (S_after (ok:=(fun _=>True)) (by(with_reducible repeat(first|apply S_alloc|apply S_drewN|apply S_drew));exact M.out) hg hat);replace HB:=aM hb;have aW:=aM ho;clear bL ho hb hg hat;obtain⟨bN,bO,cD⟩:=R_slice aW.out;subst cD)|((with_reducible refine gA 12 19 ?_);at_builtin;refine S_append (Kd.slice 34 k34) (w0:=w) w.heap.size rfl (.tmp 12) (.tmp 19) 50 24 (.slice none 0 0) 24 rfl Try.underlying50 info24 rfl (by decide) (by omega) u3 j aV [.slice bN aV.length bO] (fun _=>True) (fun k_=>some k_=(.slice bN aV.length bO:Value).ownBlock) rfl rfl ?aP (fun k_ hk_=>((R_mono (ok':=fun k_=>((fun _=>True)) k_∧some k_≠(u3:Value).ownBlock) (R_apart' (aW.out) (S_typed M.out) (by decide)) (fun k_ hk=>⟨trivial,hk.2⟩))).1 k_ hk_.symm) ?aF ?aO ?aB ?aS ?aL ?_;(case aP=>exact M_row (R_mono (R_tight rfl (R_mono (ok':=fun k_=>((fun _=>True)) k_∧some k_≠(u3:Value).ownBlock) (R_apart' (aW.out) (S_typed M.out) (by decide)) (fun k_ hk=>⟨trivial,hk.2⟩))) (fun _ h_=>h_)));(case aB=>exact cB);(case aF=>exact(fun _ _=>trivial));(case aO=>exact(by exact sM M (fun k_ hk=>⟨trivial,fun e_=>hk.2 e_⟩)));(case aS=>exact(below_size cB));(case aL=>have:=cw.out;omega);intro c7 ba ho hb hg hat;rw[← bJ.out]at ho;replace HB:=aM hb;have cE:=aM ho;clear M aW ho hb hg hat))
    go_roundg k1
    case measure=>exact oK
    case rel=>exact⟨(cx),(wrap64 (I+1)),rS,H',⟨oK⟩,⟨by(with_reducible repeat(first|apply S_alloc|apply S_drewN|apply S_drew));exact cE.out⟩,⟨cB⟩⟩
   ·rw[if_neg z]at H;have cu:=decide_eq_false z;clear z;obtain rfl:=Option.some.inj H;go_wp2;go_ret
    exact⟨_,rE,by(with_reducible repeat(first|apply S_alloc|apply S_drewN|apply S_drew));exact M.out,cB⟩
def spec_PushStack.f (k:Nat) (a:List (List (S34))) (c:List (S34)):Option ((List (List (S34)))×Bool):=(spec_l15Copy.f k a).bind fun aJ=>((some (([] :List (S34)):List (S34))).bind fun ah=>(if ah.length+c.length<4398046511104 then(if aJ.length<5864062014805 then((some (aJ ++ [(ah ++ c)] :List (List (S34)))).bind fun bm=>((spec_StackOk.f k bm).bind fun bn=>(if bn=true then(some (bm,true))else((spec_l15Copy.f k a).bind fun bP=>(some (bP,false))))))else(none))else(none)))
set_option maxHeartbeats 8000000 in
set_option maxRecDepth 100000 in
theorem spec_PushStack.calls {k:Nat}{q:Option Addr}{s:Nat}{a:List (List (S34))}{an:Option Addr}{ao:Nat}{c:List (S34)}{r1:List (List (S34))}{r2:Bool}{w:World}(h:spec_PushStack.f k a c=some (r1,r2))(t:Kd.C (Kd.slice 34 k34) w q a.length a)(u:a.length≤s)(ap:Kd.C k34 w an c.length c)(aq:c.length≤ao) :
 Calls Try.prog 28 #[.slice q a.length s,.slice an c.length ao] w fun e w'=> ∃ v0_:Value,e= .returned (.tuple #[v0_,.bool r2])∧Kd.S (Kd.slice 34 k34) 24 w' w.heap.size (fun _=>True) v0_ r1∧Below w.heap.size w w':=by
 have HR0:=aM t;have HC0:=aM u;clear t u;have HR1:=aM ap;have HC1:=aM aq;clear ap aq;have HB:=rW w
 unfold spec_PushStack.f at h;have H:=h
 clear h;replace H:=bE H;obtain⟨aJ,W,H⟩:=H;replace H:=nE H;obtain⟨ah,aX,H⟩:=H;replace H:=gC H;obtain⟨z,H⟩:=H;have ar:=aM z;clear z;obtain⟨ai,bo⟩ : ∃ y_:List (S34),Aside0 (y_=(ah ++ c)):=⟨_,⟨rfl⟩⟩;rw[← bo.out]at H;replace H:=gC H;obtain⟨g,H⟩:=H;have au:=aM g;clear g;replace H:=nE H;obtain⟨bm,bQ,H⟩:=H;replace H:=bE H;obtain⟨bn,av,H⟩:=H;by_cases A:bn=true
 ·subst A;replace H:=iT H;simp only[Option.some.injEq,Prod.mk.injEq]at H;obtain⟨rfl,rfl⟩:=H;go_enter Try.func28,Try.ntmps28
  go_wp2_with (first|((with_reducible refine gF 66 ?_);refine gY (some 8) Try.func66 (spec_l15Copy.calls W.out (cC HR0.out) HC0.out) ?_;rintro ac a8 ⟨d,hb⟩;have l:=aM (S_lower d (below_size cB));replace HB:=sB hb;(try clear hb);(try clear d))|((with_reducible refine gN 9 ?_);refine R_lit k34 _ 34 ?hg (N:=9) ?hd (xs:=([] :List (S34))) (inner:=[]) (ok:=fun _=>True) (okp:=fun _=>True) ?hr ?hp (fun _ hk=>hk) trivial (Below.refl _ _) (Nat.le_refl _) (by simp) ?_;(case hd=>rfl);(case hg=>rfl);(case hr=>exact rG);(case hp=>exact(Reps.none _ _));intro bp b8 v hb hg_ hnew_;clear hg_ hnew_;(first|rw[← aX.out]at v|(simp only[Int.reduceToNat]at v;rw[← aX.out]at v));replace l:=aM (S_elder' (by(with_reducible repeat(first|apply S_alloc|apply S_drewN|apply S_drew));exact l.out) (R_base v) hb);have aK:=rL v;replace HB:=sB hb;clear hb v)|((with_reducible refine gA 9 10 ?_);at_builtin;refine R_append_rows k34 (w0:=w) w.heap.size rfl (.tmp 9) (.tmp 10) 24 34 (.agg #[(.int .i64 0),(.int .i64 0),(.int .i64 0),(.int .i64 0)]) 32 rfl Try.underlying24 info34 rfl (by decide) (by omega) bp ah c _ _ _ (fun _=>True) (fun _=>False) rfl rfl ?aO ?aR (fun _ _ h=>h) (fun _ h=>h.elim) ?aF ?aB ?aS ?aL ?_;(case aR=>exact cH HR1);(case aB=>exact cB);(case aF=>exact(fun _ _=>trivial));(case aO=>exact(mR aK));(case aS=>exact(below_size cB));(case aL=>have:=ar.out;omega);intro cF ba ho hb hg hat;rw[← bo.out]at ho;replace l:=aM (S_after (ok:=(fun _=>True)) (by(with_reducible repeat(first|apply S_alloc|apply S_drewN|apply S_drew));exact l.out) hg hat);replace HB:=aM hb;have U:=aM ho;clear aK ho hb hg hat;obtain⟨ax,ay,bb⟩:=R_slice U.out;subst bb)|((with_reducible refine gA 8 12 ?_);at_builtin;refine S_append (Kd.slice 34 k34) (w0:=w) w.heap.size rfl (.tmp 8) (.tmp 12) 50 24 (.slice none 0 0) 24 rfl Try.underlying50 info24 rfl (by decide) (by omega) ac aJ ai [.slice ax ai.length ay] (fun _=>True) (fun k_=>some k_=(.slice ax ai.length ay:Value).ownBlock) rfl rfl ?aP (fun k_ hk_=>((R_mono (ok':=fun k_=>((fun _=>True)) k_∧some k_≠(ac:Value).ownBlock) (R_apart' (U.out) (S_typed l.out) (by decide)) (fun k_ hk=>⟨trivial,hk.2⟩))).1 k_ hk_.symm) ?aF ?aO ?aB ?aS ?aL ?_;(case aP=>exact M_row (R_mono (R_tight rfl (R_mono (ok':=fun k_=>((fun _=>True)) k_∧some k_≠(ac:Value).ownBlock) (R_apart' (U.out) (S_typed l.out) (by decide)) (fun k_ hk=>⟨trivial,hk.2⟩))) (fun _ h_=>h_)));(case aB=>exact cB);(case aF=>exact(fun _ _=>trivial));(case aO=>exact(by exact sM l (fun k_ hk=>⟨trivial,fun e_=>hk.2 e_⟩)));(case aS=>exact(below_size cB));(case aL=>have:=au.out;omega);intro cG cb ho hb hg hat;rw[← bQ.out]at ho;replace HB:=aM hb;have o:=aM ho;clear l U ho hb hg hat;obtain⟨cc,cd,bd⟩:=S_slice o.out;subst bd)|((with_reducible refine gF 31 ?_);refine gX (some 15) Try.func31 (spec_StackOk.calls av.out (cC ((S_reads' o.out).2.2)) ((S_reads' o.out).2.1)) ?_;intro ce hb;replace o:=aM (S_below (by(with_reducible repeat(first|apply S_alloc|apply S_drewN|apply S_drew));exact o.out) hb);replace HB:=sB hb;(try clear hb)))
  go_ret2
  exact⟨_,rE,by(with_reducible repeat(first|apply S_alloc|apply S_drewN|apply S_drew));exact o.out,cB⟩
 ·replace A:=Bool.eq_false_iff.mpr A;subst A;replace H:=iF H;replace H:=bE H;obtain⟨bP,az,H⟩:=H;simp only[Option.some.injEq,Prod.mk.injEq]at H;obtain⟨rfl,rfl⟩:=H;go_enter Try.func28,Try.ntmps28
  go_wp2_with (first|((with_reducible refine gF 66 ?_);refine gY (some 8) Try.func66 (spec_l15Copy.calls W.out (cC HR0.out) HC0.out) ?_;rintro ac cf ⟨d,hb⟩;have l:=aM (S_lower d (below_size cB));replace HB:=sB hb;(try clear hb);(try clear d))|((with_reducible refine gN 9 ?_);refine R_lit k34 _ 34 ?hg (N:=9) ?hd (xs:=([] :List (S34))) (inner:=[]) (ok:=fun _=>True) (okp:=fun _=>True) ?hr ?hp (fun _ hk=>hk) trivial (Below.refl _ _) (Nat.le_refl _) (by simp) ?_;(case hd=>rfl);(case hg=>rfl);(case hr=>exact rG);(case hp=>exact(Reps.none _ _));intro bp bF x hb hg_ hnew_;clear hg_ hnew_;(first|rw[← aX.out]at x|(simp only[Int.reduceToNat]at x;rw[← aX.out]at x));replace l:=aM (S_elder' (by(with_reducible repeat(first|apply S_alloc|apply S_drewN|apply S_drew));exact l.out) (R_base x) hb);have aK:=rL x;replace HB:=sB hb;clear hb x)|((with_reducible refine gA 9 10 ?_);at_builtin;refine R_append_rows k34 (w0:=w) w.heap.size rfl (.tmp 9) (.tmp 10) 24 34 (.agg #[(.int .i64 0),(.int .i64 0),(.int .i64 0),(.int .i64 0)]) 32 rfl Try.underlying24 info34 rfl (by decide) (by omega) bp ah c _ _ _ (fun _=>True) (fun _=>False) rfl rfl ?aO ?aR (fun _ _ h=>h) (fun _ h=>h.elim) ?aF ?aB ?aS ?aL ?_;(case aR=>exact cH HR1);(case aB=>exact cB);(case aF=>exact(fun _ _=>trivial));(case aO=>exact(mR aK));(case aS=>exact(below_size cB));(case aL=>have:=ar.out;omega);intro cF cg ho hb hg hat;rw[← bo.out]at ho;replace l:=aM (S_after (ok:=(fun _=>True)) (by(with_reducible repeat(first|apply S_alloc|apply S_drewN|apply S_drew));exact l.out) hg hat);replace HB:=aM hb;have U:=aM ho;clear aK ho hb hg hat;obtain⟨aA,aC,be⟩:=R_slice U.out;subst be)|((with_reducible refine gA 8 12 ?_);at_builtin;refine S_append (Kd.slice 34 k34) (w0:=w) w.heap.size rfl (.tmp 8) (.tmp 12) 50 24 (.slice none 0 0) 24 rfl Try.underlying50 info24 rfl (by decide) (by omega) ac aJ ai [.slice aA ai.length aC] (fun _=>True) (fun k_=>some k_=(.slice aA ai.length aC:Value).ownBlock) rfl rfl ?aP (fun k_ hk_=>((R_mono (ok':=fun k_=>((fun _=>True)) k_∧some k_≠(ac:Value).ownBlock) (R_apart' (U.out) (S_typed l.out) (by decide)) (fun k_ hk=>⟨trivial,hk.2⟩))).1 k_ hk_.symm) ?aF ?aO ?aB ?aS ?aL ?_;(case aP=>exact M_row (R_mono (R_tight rfl (R_mono (ok':=fun k_=>((fun _=>True)) k_∧some k_≠(ac:Value).ownBlock) (R_apart' (U.out) (S_typed l.out) (by decide)) (fun k_ hk=>⟨trivial,hk.2⟩))) (fun _ h_=>h_)));(case aB=>exact cB);(case aF=>exact(fun _ _=>trivial));(case aO=>exact(by exact sM l (fun k_ hk=>⟨trivial,fun e_=>hk.2 e_⟩)));(case aS=>exact(below_size cB));(case aL=>have:=au.out;omega);intro cG ch ho hb hg hat;rw[← bQ.out]at ho;replace HB:=aM hb;have o:=aM ho;clear l U ho hb hg hat;obtain⟨ci,cj,bf⟩:=S_slice o.out;subst bf)|((with_reducible refine gF 31 ?_);refine gX (some 15) Try.func31 (spec_StackOk.calls av.out (cC ((S_reads' o.out).2.2)) ((S_reads' o.out).2.1)) ?_;intro ck hb;replace o:=aM (S_below (by(with_reducible repeat(first|apply S_alloc|apply S_drewN|apply S_drew));exact o.out) hb);replace HB:=sB hb;(try clear hb))|((with_reducible refine gF 66 ?_);refine gY (some 18) Try.func66 (spec_l15Copy.calls az.out (cH HR0) HC0.out) ?_;rintro da cl ⟨d,hb⟩;have cI:=aM (S_lower (S_new' d (S_lt (by(with_reducible repeat(first|apply S_alloc|apply S_drewN|apply S_drew));exact o.out))) (below_size cB));replace o:=aM (S_elder' (by(with_reducible repeat(first|apply S_alloc|apply S_drewN|apply S_drew));exact o.out) (S_base d) hb);replace HB:=sB hb;(try clear hb);(try clear d)))
  go_ret2
  exact⟨_,rE,by(with_reducible repeat(first|apply S_alloc|apply S_drewN|apply S_drew));exact S_mono cI.out (fun _ hk=>trivial),cB⟩
def spec_ActionIn.f (G:Int):Option (Int):=(spec_l01In.f G 0 393215).bind fun bq=>(if bq=true then(some (wrap64 (Int.tdiv G 65536)))else(some 0))
set_option maxHeartbeats 8000000 in
set_option maxRecDepth 100000 in
theorem spec_ActionIn.calls {G:Int}{r:Int}{w:World}(h:spec_ActionIn.f G=some r) :
 Calls Try.prog 33 #[.int .i64 G] w fun e w'=>e= .returned (.int .i64 r)∧Drawn0 w w':=by
 unfold spec_ActionIn.f at h;have H:=h
 clear h;replace H:=bE H;obtain⟨bq,bR,H⟩:=H;by_cases aY:bq=true
 ·subst aY;replace H:=iT H;obtain rfl:=Option.some.inj H;go_enter Try.func33,Try.ntmps33
  go_wp2_with (first|((with_reducible refine gF 41 ?_);refine gX (some 4) Try.func41 (spec_l01In.calls bR.out) ?_;rintro w' ⟨nd,rfl⟩))
  go_ret
  exact⟨by first|rfl|(simp;done)|(simp[*];done),by repeat(first|exact Drawn0.refl _|apply Drawn0.step)⟩
 ·replace aY:=Bool.eq_false_iff.mpr aY;subst aY;replace H:=iF H;obtain rfl:=Option.some.inj H;go_enter Try.func33,Try.ntmps33
  go_wp2_with (first|((with_reducible refine gF 41 ?_);refine gX (some 4) Try.func41 (spec_l01In.calls bR.out) ?_;rintro w' ⟨nd,rfl⟩))
  go_ret
  exact⟨by first|rfl|(simp;done)|(simp[*];done),by repeat(first|exact Drawn0.refl _|apply Drawn0.step)⟩
def spec_Stricter.f (G:Int) (aN:Int):Option (Int):=(spec_ActionIn.f aN).bind fun br=>((spec_ActionIn.f G).bind fun bs=>(if br<bs then(some aN)else(some G)))
set_option maxHeartbeats 8000000 in
set_option maxRecDepth 100000 in
theorem spec_Stricter.calls {G:Int}{aN:Int}{r:Int}{w:World}(h:spec_Stricter.f G aN=some r) :
 Calls Try.prog 67 #[.int .i64 G,.int .i64 aN] w fun e w'=>e= .returned (.int .i64 r)∧Drawn0 w w':=by
 unfold spec_Stricter.f at h;have H:=h
 clear h;replace H:=bE H;obtain⟨br,W,H⟩:=H;replace H:=bE H;obtain⟨bs,aD,H⟩:=H;by_cases g:br<bs
 ·rw[if_pos g]at H;have bH:=decide_eq_true g;clear g;obtain rfl:=Option.some.inj H;go_enter Try.func67,Try.ntmps67
  go_wp2_with (first|((with_reducible refine gF 33 ?_);refine gX (some 6) Try.func33 (spec_ActionIn.calls W.out) ?_;rintro w' ⟨nd,rfl⟩)|((with_reducible refine gF 33 ?_);refine gX (some 8) Try.func33 (spec_ActionIn.calls aD.out) ?_;rintro w' ⟨nd,rfl⟩))
  go_ret
  exact⟨by first|rfl|(simp;done)|(simp[*];done),by repeat(first|exact Drawn0.refl _|apply Drawn0.step)⟩
 ·rw[if_neg g]at H;have bH:=decide_eq_false g;clear g;obtain rfl:=Option.some.inj H;go_enter Try.func67,Try.ntmps67
  go_wp2_with (first|((with_reducible refine gF 33 ?_);refine gX (some 6) Try.func33 (spec_ActionIn.calls W.out) ?_;rintro w' ⟨nd,rfl⟩)|((with_reducible refine gF 33 ?_);refine gX (some 8) Try.func33 (spec_ActionIn.calls aD.out) ?_;rintro w' ⟨nd,rfl⟩))
  go_ret
  exact⟨by first|rfl|(simp;done)|(simp[*];done),by repeat(first|exact Drawn0.refl _|apply Drawn0.step)⟩
mutual
def spec_RunStack.j0:Nat→List (List (S34))→Bool→Int→Int→List (S93)→Option (Int)
  | 0,_,_,_,_,_=>none
  | k+1,n,cJ,aZ,a0,a1=>if cJ=true then(some 0)else((spec_ResultOf.f 5 0).bind fun bu=>(spec_RunStack.l0 k n bu 0 aZ a0 a1))
def spec_RunStack.l0:Nat→List (List (S34))→Int→Int→Int→Int→List (S93)→Option (Int)
  | 0,_,_,_,_,_,_=>none
  | k+1,n,bS,a2,aZ,a0,a1=>if a2<(n.length:Int)then(if 0≤a2 then((spec_Run.f k (rd_L10 n a2) aZ a0 a1).bind fun cL=>((spec_Stricter.f cL.1 bS).bind fun bv=>(spec_RunStack.l0 k n bv (wrap64 (a2+1)) aZ a0 a1)))else(none))else(some bS)
end
def spec_RunStack.f (k:Nat) (a:List (List (S34))) (D:Int) (E:Int) (p:List (S93)):Option (Int):=(spec_StackOk.f k a).bind fun bw=>(if bw=true then((spec_CallOk.f k D E p).bind fun bx=>(spec_RunStack.j0 k a (!bx) D E p))else(spec_RunStack.j0 k a true D E p))
def spec_RunStack.T7:Bool×List (List Nat×List Nat):=(true,[([],[]),([],[]),([0,1],[0,1]),([2],[2]),([],[]),([3,4],[3,4]),([5],[5]),([6],[6]),([6],[6]),([7,5,0,1,2,3,4,5,6,7],[7]),([8,9,0,1,2,3,4,5,6,7,8,9],[8])])
def spec_RunStack.B7:List Nat:=[0,0,3,7,0,31,63,127,127,255,1023]
theorem spec_RunStack.tab7:rtab .any (opsOf Try.f29 7)=spec_RunStack.T7:=by kernel_rfl
theorem spec_RunStack.bits7:waitsOk spec_RunStack.T7.2 spec_RunStack.B7=true:=by kernel_rfl
theorem q24x0 {P:Prop} (h:P:=by
 rintro w' ⟨s0,s1,s2,s3⟩
 go_simp
 with_reducible rfl):P:=h
set_option maxHeartbeats 8000000 in
set_option maxRecDepth 100000 in
theorem spec_RunStack.calls {k:Nat}{q:Option Addr}{s:Nat}{a:List (List (S34))}{D:Int}{E:Int}{aj:Option Addr}{ak:Nat}{p:List (S93)}{r:Int}{w:World}(h:spec_RunStack.f k a D E p=some r)(t:Kd.C (Kd.slice 34 k34) w q a.length a)(u:a.length≤s)(bT:Kd.C k93 w aj p.length p)(bU:p.length≤ak) :
 Calls Try.prog 29 #[.slice q a.length s,.agg #[.int .i64 D,.int .i64 E,.slice aj p.length ak]] w fun e w'=>e= .returned (.int .i64 r)∧Below w.heap.size w w':=by
 have hu28:=Try.underlying28;have HR0:=aM t;have HC0:=aM u;clear t u;have HR1_2:=aM bT;have HC1_2:=aM bU;clear bT bU;have HB:=rW w
 unfold spec_RunStack.f at h;have H:=h
 clear h;have HC3:=aM H;clear H;go_enter Try.func29,Try.ntmps29
 go_upto_region 1 with(first|((with_reducible refine gN 3 ?_);refine boxZ 3 #[.int .i64 D,.int .i64 E,.slice aj p.length ak] 28 ?_;intro aQ hg db hbox hb;have b:=aM hbox;have GW1148:=gS hg;have GE1148:=gS hg;replace HB:=sB hb;clear hb hbox hg))
 (try simp only[Act.put,List.setIfInBounds_toArray,List.set_cons_zero,List.set_cons_succ])
 go_cut [16] (fun cM wc=> ∃ (kq:Nat) (a3:Bool),cM= .bool a3∧Aside0 (spec_RunStack.j0 kq a a3 D E p=some r)∧Aside0 (kq≤k)∧Aside0 (wc.heap[aQ]?=some (.cells #[.int .i64 D,.int .i64 E,(.slice aj p.length ak)] 28 (0,0)))∧Aside0 (Below w.heap.size w wc))
 case first=>
  have H:=HC3.out;clear HC3;replace H:=bE H;obtain⟨bw,bV,H⟩:=H;by_cases O:bw=true
  ·subst O;replace H:=iT H;replace H:=bE H;obtain⟨bx,cN,H⟩:=H;have H':=aM H;clear H
   go_wp2_with (first|((with_reducible refine gF 31 ?_);refine gX (some 10) Try.func31 (spec_StackOk.calls bV.out (cH HR0) HC0.out) ?_;intro a8 hb;replace b:=kB b hb;replace HB:=sB hb;(try clear hb);obtain⟨bW,bX,bY,bZ,b0,b1⟩:=cz3 b)|(go_at_call 44;(with_reducible refine(spec_CallOk.calls cN.out ?side1 ?side2).mono ?_);(case side1=>exact cH HR1_2);(case side2=>exact HC1_2.out);rintro e cA ⟨rfl,hb⟩;replace b:=kB b hb;replace HB:=sB hb;(try clear hb)))
   go_meet
   case rel=>exact⟨_,(!bx),rS,H',⟨oL⟩,⟨mK b⟩,⟨cB⟩⟩
  ·replace O:=Bool.eq_false_iff.mpr O;subst O;replace H:=iF H;have H':=aM H;clear H
   go_wp2_with (first|((with_reducible refine gF 31 ?_);refine gX (some 10) Try.func31 (spec_StackOk.calls bV.out (cH HR0) HC0.out) ?_;intro ba hb;replace b:=kB b hb;replace HB:=sB hb;(try clear hb)))
   go_meet
   case rel=>exact⟨_,(true),rS,H',⟨oL⟩,⟨mK b⟩,⟨cB⟩⟩
 case rest=>
  clear HC3;(try clear O);(try clear bW bX bY);(try clear bZ b0 b1);obtain⟨kq,a3,rfl,HA,HJ2,b,HB⟩:=hcut
  cases kq with
  | zero=>exact absurd HA.out (by simp[spec_RunStack.j0])
  | succ kj2=>
   have H:=HA.out;clear HA;simp only[spec_RunStack.j0]at H;by_cases aT:a3=true
   ·subst aT;replace H:=iT H;obtain rfl:=Option.some.inj H;go_wp2;go_ret;exact⟨rE,cB⟩
   ·replace aT:=Bool.eq_false_iff.mpr aT;subst aT;replace H:=iF H;replace H:=bE H;obtain⟨bu,cO,H⟩:=H;have H':=aM H;clear H
    go_wp2_with (first|((with_reducible refine gF 34 ?_);refine gX (some 17) Try.func34 (spec_ResultOf.calls cO.out) ?_;rintro w' ⟨nd,rfl⟩))
    go_loopg [5,6] kj2 (fun kq cP cQ w'=> ∃ (bz:Int) (J:Int),cP= .int .i64 bz∧cQ= .int .i64 J∧Aside0 (spec_RunStack.l0 kq a bz J D E p=some r)∧Aside0 (kq≤kj2)∧Aside0 (w'.heap[aQ]?=some (.cells #[.int .i64 D,.int .i64 E,(.slice aj p.length ak)] 28 (0,0)))∧Aside0 (Below w.heap.size w w'))
    case atStart=>exact⟨(bu),(0),rS,rS,H',⟨Nat.le_refl _⟩,⟨mK b⟩,⟨cB⟩⟩
    case round=>
     clear H';(try clear O);(try clear aT);(try clear bW bX bY);(try clear bZ b0 b1);obtain⟨bz,J,rfl,rfl,HA,HK2,b,HB⟩:=hrel
     cases gk with
     | zero=>exact absurd HA.out (by simp[spec_RunStack.l0])
     | succ k2=>
      have H:=HA.out;clear HA;simp only[spec_RunStack.l0]at H;by_cases al:J<(a.length:Int)
      ·rw[if_pos al]at H;have cR:=decide_eq_true al;clear al;replace H:=gD H;obtain⟨dc,H⟩:=H;replace H:=bE H;obtain⟨⟨dd,de⟩,az,H⟩:=H;(try dsimp only at H);replace H:=bE H;obtain⟨bv,cS,H⟩:=H;have H':=aM H;clear H
       try go_wp2
       replace b:=dB b;replace HB:=dW HB;have bA:0≤(J:Int):=dA;have bB:J<(a.length:Int):=dA;obtain⟨cT,cU,cV,cW,a4,hl1152_0,hi1152_0⟩:=at_L10 HR0.out J bA bB;have b5:=a4;cases cW;replace a4:=(bc HB a4 :);have HR1152_0:=aM hi1152_0;have HC1152_0:=aM hl1152_0;clear hi1152_0 hl1152_0;replace bA:=eq_true bA;replace bB:=eq_true bB
       refine sZ 11 (fun w'=>w'.cell? ⟨aQ,0,none⟩=some (.int .i64 D)∧w'.cell? ⟨aQ,1,none⟩=some (.int .i64 E)∧w'.cell? ⟨aQ,2,none⟩=some (.slice aj p.length ak)∧w'.cell? (cT.add (J).toNat)=some (.slice cU (rd_L10 a J).length cV)) spec_RunStack.tab7 spec_RunStack.bits7 ⟨(blk_cell b.out 0).trans rfl,(blk_cell b.out 1).trans rfl,(blk_cell b.out 2).trans rfl,((bc HB b5 :))⟩ fun HT_ HW_ hHeld=>?_
       generalize wr.drew=bF at b HB HR1152_0 a4 hHeld ⊢;refine pZ 0 25 1 ?_;refine pZ 1 26 3 ?_;refine pZ 2 27 7 ?_;refine tZ 3 28 15 (y:=q24x0) (h:=?_);refine tZ 4 29 31 (y:=q24x0) (h:=?_)
       refine oZ 5 30 63 fun K hK=>?_
       refine eX Try.func14 (spec_Run.calls az.out (cH HR1152_0) HC1152_0.out (cH HR1_2) HC1_2.out) ?_
       intro df hb;replace b:=kB b hb;replace HB:=sB hb;(try clear hb)
       refine hK.out _ _ ⟨(blk_cell b.out 0).trans rfl,(blk_cell b.out 1).trans rfl,(blk_cell b.out 2).trans rfl,((bc HB b5 :))⟩ (fun hHeld=>?_)
       clear hK K;refine normZ (some 30) ?_
       refine pZ 6 24 127 ?_;refine pZ 7 31 255 ?_;refine pZ 8 32 511 ?_;refine pZ 9 7 1023 ?_;refine pZ 10 8 2047 ?_
       refine done_ (done_of HT_.out (by kernel_rfl)) ?_
       try go_wp2_with (first|((with_reducible refine gF 67 ?_);refine gX (some 35) Try.func67 (spec_Stricter.calls cS.out) ?_;rintro w' ⟨nd,rfl⟩))
       go_roundg k2
       case measure=>have:=HJ2.out;have:=HK2.out;omega
       case rel=>exact⟨(bv),(wrap64 (J+1)),rS,rS,H',⟨by have:=HJ2.out;have:=HK2.out;omega⟩,⟨mK b⟩,⟨cB⟩⟩
      ·rw[if_neg al]at H;have cR:=decide_eq_false al;clear al;obtain rfl:=Option.some.inj H;go_wp2;go_ret;exact⟨rE,cB⟩
end Go.Proofs.Ytpbalojiaghfhaa.PFnStacks
