import Derived.Test.YtpbalojiaghfhaaGreatPFnExactCompiley0
import Derived.Test.YtpbalojiaghfhaaGreatPFnExactCompiley26
namespace Go.Proofs.YtpbalojiaghfhaaGreat.PFnExactCompile
open Go.RowKit Go.Proofs.YtpbalojiaghfhaaGreatW.PrintWords Go.Proofs.YtpbalojiaghfhaaGreatW.PrintLast Go.Proofs.YtpbalojiaghfhaaGreatW.PrintMore Go.Proofs.YtpbalojiaghfhaaGreatW.Z
open Kd
attribute [local go_sem] isS max2_int min2_int max_two min_two max_three min_three max_four min_four
set_option linter.unusedVariables false
set_option linter.unusedSimpArgs false
def laws_toRuleS.l0:Nat→List (S130)→List (S78)→Int→Option ((List (S78)))
  | 0,_,_,_=>none
  | k+1,y,bj,ab=>if ab<(y.length:Int)then(if 0≤ab then((laws_toRule.f k ((rd_T130 y ab).f0) ((rd_T130 y ab).f1) ((rd_T130 y ab).f2) ((rd_T130 y ab).f3)).bind fun a4=>(if ab<(bj.length:Int)then(laws_toRuleS.l0 k y (bj.set (ab:Int).toNat (⟨a4.1,a4.2.1,a4.2.2.1,a4.2.2.2⟩ :S78)) (wrap64 (ab+1)))else(none)))else(none))else(some bj)
def laws_toRuleS.f (k:Nat) (b:List (S130)):Option ((List (S78))):=if 0≤(b.length:Int)then(if((b.length:Int):Int).toNat≤4398046511104 then(laws_toRuleS.l0 k b (List.replicate ((b.length:Int):Int).toNat z78) 0)else(none))else(none)
set_option maxHeartbeats 8000000 in
set_option maxRecDepth 100000 in
theorem laws_toRuleS.calls (k:Nat) (ao:Option Addr) (ap:Nat) (b:List (S130)) (r:List (S78)) (w:World) (aq:Kd.C k130 w ao b.length b) (ar:b.length≤ap) (h:laws_toRuleS.f k b=some r) :
 Calls Tryz.prog 67 #[.slice ao b.length ap] w fun e w'=> ∃ v0_:Value,e= .returned (v0_)∧Kd.S k78 78 w' w.heap.size (fun _=>True) v0_ r∧Below w.heap.size w w':=by
 have hu130:=Tryz.underlying130;have hu78:=Tryz.underlying78;have HR0:=aM aq;have HC0:=aM ar;clear aq ar;have HB:=aM (Below.refl w.heap.size w);have H:(if 0≤(b.length:Int)then(if((b.length:Int):Int).toNat≤4398046511104 then(laws_toRuleS.l0 k b (List.replicate ((b.length:Int):Int).toNat z78) 0)else(none))else(none))=some r:=h;clear h;replace H:=gC H;obtain⟨a5,H⟩:=H;have bU:=eq_true a5;have bV:decide (0≤(b.length:Int))=true:=decide_eq_true a5;clear a5;replace H:=gC H;obtain⟨d,H⟩:=H;have L:=eq_true d;have M:decide (((b.length:Int):Int).toNat≤4398046511104)=true:=decide_eq_true d;clear d;obtain⟨bW,bk⟩ : ∃ y_:List (S78),Aside0 (y_=(List.replicate ((b.length:Int):Int).toNat z78)):=⟨_,⟨rfl⟩⟩;rw[← bk.out]at H;have H':=aM H;clear H;go_enter Tryz.func67,Tryz.ntmps67
 go_wp2_with (first|((with_reducible refine gN 7 ?_);refine S_make k78 _ 78 rfl (N:=7) rfl 24 _ _ rfl (b.length:Int) rfl rfl Tryz.underlying24 (.agg #[(.slice none 0 0),(.slice none 0 0),(.int .i64 0),(.int .i64 0)]) 64 info78 rfl (by decide) (by omega) z78 (ok:=fun _=>True) (okp:=fun _=>True) (k78_mkM _ _ _ z78 (R_nil _ _ _ _ _) (R_nil _ _ _ _ _)) (fun _ hk=>hk) trivial (dA) (Nat.le_trans (Nat.mul_le_mul_right _ (dA:(b.length:Int).toNat≤4398046511104)) (by omega)) (Below.refl _ _) (Nat.le_refl _) ?_;intro bX bY aI hb hg_ hnew_;clear hg_ hnew_;(first|rw[← bk.out]at aI|(simp only[Int.reduceToNat]at aI;rw[← bk.out]at aI));have bZ:=aM (S_lower aI (below_size cB));replace HB:=sB hb;clear hb aI))
 go_loopg [4] k (fun kq b0 w'=> ∃ (I:List (S78)) (g:Int),b0= .int .i64 g∧Aside0 (laws_toRuleS.l0 kq b I g=some r)∧Aside0 (kq≤k)∧Aside0 (Kd.S k78 78 w' w.heap.size (fun _=>True) bX I)∧Aside0 (Below w.heap.size w w'))
 case atStart=>exact⟨(bW),(0),rS,H',⟨Nat.le_refl _⟩,⟨by(with_reducible repeat(first|apply S_alloc|apply S_drewN|apply S_drew));exact bZ.out⟩,⟨cB⟩⟩
 case round=>
  clear H';(try clear a5);(try clear bU);(try clear bV);(try clear d);(try clear L);(try clear M);obtain⟨I,g,rfl,HA,HK1,z,HB⟩:=hrel
  cases gk with
  | zero=>exact absurd HA.out (by simp[laws_toRuleS.l0])
  | succ k1=>
   have H:=HA.out;clear HA;simp only[laws_toRuleS.l0]at H;by_cases J:g<(b.length:Int)
   ·rw[if_pos J]at H;have aJ:=decide_eq_true J;clear J;replace H:=gD H;obtain⟨bC,H⟩:=H;replace H:=bE H;obtain⟨⟨a6,a7,aE,aF⟩,b1,H⟩:=H;(try dsimp only at H);replace H:=gD H;obtain⟨cW,H⟩:=H;obtain⟨bD,bF⟩ : ∃ y_:List (S78),Aside0 (y_=(I.set (g:Int).toNat (⟨a6,a7,aE,aF⟩ :S78))):=⟨_,⟨rfl⟩⟩;rw[← bF.out]at H;have H':=aM H;clear H;have bl:0≤(g:Int):=dA;have bm:g<(b.length:Int):=dA;obtain⟨cX,b5,b8,b9,ca,cb,bG,bH,bI,bJ,hl1219_0,hi1219_0,hl1219_1,hi1219_1⟩:=at_T130 HR0.out g bl bm;cases cb;replace bG:=(bc HB bG :);replace bH:=(bc HB bH :);replace bI:=(bc HB bI :);replace bJ:=(bc HB bJ :);have HR1219_0:=aM hi1219_0;have HC1219_0:=aM hl1219_0;clear hi1219_0 hl1219_0;have HR1219_1:=aM hi1219_1;have HC1219_1:=aM hl1219_1;clear hi1219_1 hl1219_1;replace bl:=eq_true bl;replace bm:=eq_true bm
    go_wp2_with (first|((with_reducible refine gF 101 ?_);refine goZ (some 20) Tryz.func101 #[.agg #[.slice b5 ((rd_T130 b g).f0).length b8,.slice b9 ((rd_T130 b g).f1).length ca,.int .i64 ((rd_T130 b g).f2),.int .i64 ((rd_T130 b g).f3)]] ?_;(with_reducible refine(laws_toRule.calls k1 _ _ ((rd_T130 b g).f0) _ _ ((rd_T130 b g).f1) ((rd_T130 b g).f2) ((rd_T130 b g).f3) a6 a7 aE aF _ ?side1 ?side2 ?side3 ?side4 b1.out).mono ?_);(case side1=>exact cC (C_below HR1219_0.out HB.out));(case side2=>exact HC1219_0.out);(case side3=>exact cC (C_below HR1219_1.out HB.out));(case side4=>exact HC1219_1.out);rintro e G ⟨a8,a9,rfl,aG,bn,hb⟩;refine⟨_,rfl,?_⟩;replace z:=aM (S_mono (S_told (S_told (S_old (by(with_reducible repeat(first|apply S_alloc|apply S_drewN|apply S_drew));exact z.out) hb) (R_base aG)) (R_base bn)) (fun _ h_=>h_.1));have ba:=aM (R_lower aG (below_size cB));have bb:=aM (R_lower bn (below_size cB));replace HB:=sB hb;(try clear hb);(try clear aG);(try clear bn);have bo:0≤(g:Int):=dA;have bp:(g:Int)<((I.length:Int):Int):=dA;obtain⟨go10,bL,bM,bN,gl10,cl10,HG10⟩:=S_form z.out (by omega);(first|cases bM|(injection bM with ea_ en_ ec_;(first|subst ea_|(injection ea_ with ea_;subst ea_));subst ec_;clear en_));have GB10:=aM bN;have GG10:=aM HG10;clear bN gl10 HG10;obtain⟨_,ce10,hcl10,hM10,hcc10,hfr10,_,_⟩:=S_elem z.out z78 (g:Int) bo bp;obtain⟨ve10_0,ve10_1,rfl,ge10_0,ge10_1⟩:=k78_openM hM10;have cY:G.cell? ⟨go10,(g:Int).toNat*4,none⟩=some (ve10_0):=hcc10 0 _ rfl;have cZ:G.cell? ⟨go10,(g:Int).toNat*4+1,none⟩=some (ve10_1):=hcc10 1 _ rfl;have c0:G.cell? ⟨go10,(g:Int).toNat*4+2,none⟩=some (.int .i64 ((rd_T78 I g).f2)):=hcc10 2 _ rfl;have c1:G.cell? ⟨go10,(g:Int).toNat*4+3,none⟩=some (.int .i64 ((rd_T78 I g).f3)):=hcc10 3 _ rfl;have hf10_0:G.frozen? ⟨go10,(g:Int).toNat*4,none⟩=false:=hfr10 0;have hf10_1:G.frozen? ⟨go10,(g:Int).toNat*4+1,none⟩=false:=hfr10 1;have hf10_2:G.frozen? ⟨go10,(g:Int).toNat*4+2,none⟩=false:=hfr10 2;have hf10_3:G.frozen? ⟨go10,(g:Int).toNat*4+3,none⟩=false:=hfr10 3;clear hcl10 hcc10 hfr10;(try clear hM10);replace bo:=eq_true bo;replace bp:=eq_true bp;have n_:=aM (S_mono (ok':=(fun k_=>some k_≠(a8:Value).ownBlock∧some k_≠(a9:Value).ownBlock)) z.out (fun k_ hk=>⟨hk.1.2,hk.2⟩));clear z;have z:=n_;clear n_;have HX12:=aM (show Kd.S k78 78 G w.heap.size (fun k_=>((fun _=>True)) k_∧ ¬ ((fun k_=>some k_=(a8:Value).ownBlock∨some k_=(a9:Value).ownBlock)) k_) (.slice (some ⟨go10,0,none⟩) I.length bL) I from (by(with_reducible repeat(first|apply S_alloc|apply S_drewN|apply S_drew));exact S_mono z.out (fun k_ hk=>⟨trivial,fun e_=>e_.elim (fun h_=>hk.1 h_) (fun h_=>hk.2 h_)⟩)));obtain⟨oki12,ce12,hcl12,hM12,hcc12,hfr12,hoki12,hH12⟩:=S_elem HX12.out z78 (g:Int) (dA) (by have h_:(g:Int)<((I.length:Int):Int):=dA;first|exact h_|(have e_:=(S_reads' z.out).1;omega)|simpa using h_);obtain⟨ve12_0,ve12_1,rfl,ge12_0,ge12_1⟩:=k78_openM hM12;have HP12:=S_seg hH12 (dA) (by have h_:(g:Int)<((I.length:Int):Int):=dA;first|exact h_|(have e_:=(S_reads' z.out).1;omega)|simpa using h_) (seg:=[a8,a9,.int .i64 aE,.int .i64 aF]) (j:=0) (show 4≤4 from by decide) (x':=(⟨a6,a7,aE,aF⟩ :S78)) (k78_mkM _ _ _ (⟨a6,a7,aE,aF⟩ :S78) (R_mono (R_tight rfl (R_mono (ok':=fun k_=>((fun _=>True)) k_∧k_≠go10) (R_apart' (ba.out) (S_typed z.out) (by decide)) (fun k_ hk=>⟨trivial,fun e_=>(hk.2) (by rw[e_];rfl)⟩))) (fun _ h_=>Or.inr (Or.inl h_))) (R_mono (R_tight rfl (R_mono (ok':=fun k_=>((fun _=>True)) k_∧k_≠go10) (R_apart' (bb.out) (S_typed z.out) (by decide)) (fun k_ hk=>⟨trivial,fun e_=>(hk.2) (by rw[e_];rfl)⟩))) (fun _ h_=>Or.inr (Or.inr (h_))))) (fun _ hk=>hk) (fun k_ hk_=>hk_.elim (fun h_=>((R_mono (ok':=fun k_=>((fun _=>True)) k_∧k_≠go10) (R_apart' (ba.out) (S_typed z.out) (by decide)) (fun k_ hk=>⟨trivial,fun e_=>(hk.2) (by rw[e_];rfl)⟩))).1 k_ h_.symm) (fun h_=>((R_mono (ok':=fun k_=>((fun _=>True)) k_∧k_≠go10) (R_apart' (bb.out) (S_typed z.out) (by decide)) (fun k_ hk=>⟨trivial,fun e_=>(hk.2) (by rw[e_];rfl)⟩))).1 k_ h_.symm));have cc:=hcc12 0 _ rfl;(try simp only[show(k78).sz=4 from rfl,Nat.mul_one,Nat.add_zero]at cc);have hf12_0:=hfr12 0;(try simp only[show(k78).sz=4 from rfl,Nat.mul_one,Nat.add_zero]at hf12_0);have cd:=hcc12 1 _ rfl;(try simp only[show(k78).sz=4 from rfl,Nat.mul_one,Nat.add_zero]at cd);have hf12_1:=hfr12 1;(try simp only[show(k78).sz=4 from rfl,Nat.mul_one,Nat.add_zero]at hf12_1);have ce:=hcc12 2 _ rfl;(try simp only[show(k78).sz=4 from rfl,Nat.mul_one,Nat.add_zero]at ce);have hf12_2:=hfr12 2;(try simp only[show(k78).sz=4 from rfl,Nat.mul_one,Nat.add_zero]at hf12_2);have cf:=hcc12 3 _ rfl;(try simp only[show(k78).sz=4 from rfl,Nat.mul_one,Nat.add_zero]at cf);have hf12_3:=hfr12 3;(try simp only[show(k78).sz=4 from rfl,Nat.mul_one,Nat.add_zero]at hf12_3);clear hcl12 hcc12 hfr12 hoki12 hH12;(try clear hM12))|((with_reducible refine gate_store (t:=78) (p:=21) rfl ?_);refine store_event (t:=78) (p:=21) (v:=?vo_w13) (w1:=((((G.setCell ⟨go10,(g:Int).toNat*4,none⟩ (a8)).setCell ⟨go10,(g:Int).toNat*4+1,none⟩ (a9)).setCell ⟨go10,(g:Int).toNat*4+2,none⟩ (.int .i64 aE)).setCell ⟨go10,(g:Int).toNat*4+3,none⟩ (.int .i64 aF))) ?hg ?ho ?hn ?hr ?_;(case ho=>rfl);(case hg=>rfl);(case hn=>rfl);(case hr=>first|exact rG|((try(obtain⟨_,_,e_,_,_⟩:=R_reads ba.out;subst e_));(try(obtain⟨_,_,e_,_,_⟩:=R_reads bb.out;subst e_));exact rG));intro bd hw;have hg:G.grownBy bd (some go10):=(by rw[hw];exact HP12.2);have hp_:Kd.S k78 78 bd w.heap.size (fun _=>True) (.slice (some ⟨go10,0,none⟩) I.length bL) bD:=(by rw[hw,bF.out];exact HP12.1);clear HP12;replace z:=aM (hp_);replace HB:=aM ((by rw[hw];exact below_set (below_set (below_set (below_set (HB.out) GB10.out) GB10.out) GB10.out) GB10.out:Below w.heap.size w bd));clear ba bb hg hw hp_))
    go_roundg k1
    case measure=>have:=HK1.out;omega
    case rel=>exact⟨(bD),(wrap64 (g+1)),rS,H',⟨by have:=HK1.out;omega⟩,⟨by(with_reducible repeat(first|apply S_alloc|apply S_drewN|apply S_drew));exact z.out⟩,⟨cB⟩⟩
   ·rw[if_neg J]at H;have aJ:=decide_eq_false J;clear J;obtain rfl:=Option.some.inj H;go_wp2;go_ret
    exact⟨_,rE,by(with_reducible repeat(first|apply S_alloc|apply S_drewN|apply S_drew));exact z.out,cB⟩
def laws_toPolicy.f (k:Nat) (i:Int) (l:Int) (u:Int) (Y:List (S130)):Option (Int×Int×Int×(List (S78))):=(laws_toRuleS.f k Y).bind fun aH=>(some (i,l,u,aH))
set_option maxHeartbeats 8000000 in
set_option maxRecDepth 100000 in
theorem laws_toPolicy.calls (k:Nat) (i:Int) (l:Int) (u:Int) (be:Option Addr) (bf:Nat) (Y:List (S130)) (r1:Int) (r2:Int) (r3:Int) (r4:List (S78)) (w:World) (bO:Kd.C k130 w be Y.length Y) (bP:Y.length≤bf) (h:laws_toPolicy.f k i l u Y=some (r1,r2,r3,r4)) :
 Calls Tryz.prog 29 #[.agg #[.int .i64 i,.int .i64 l,.int .i64 u,.slice be Y.length bf]] w fun e w'=> ∃ v3_:Value,e= .returned (.agg #[.int .i64 r1,.int .i64 r2,.int .i64 r3,v3_])∧Kd.S k78 78 w' w.heap.size (fun _=>True) v3_ r4∧Below w.heap.size w w':=by
 have hu55:=Tryz.underlying55;have hu26:=Tryz.underlying26;have HR0_3:=aM bO;have HC0_3:=aM bP;clear bO bP;have HB:=aM (Below.refl w.heap.size w)
 unfold laws_toPolicy.f at h;have H:=h
 clear h;replace H:=bE H;obtain⟨aH,cg,H⟩:=H;simp only[Option.some.injEq,Prod.mk.injEq]at H;obtain⟨rfl,rfl,rfl,rfl⟩:=H;go_enter Tryz.func29,Tryz.ntmps29
 go_wp2_with (first|((with_reducible refine gN 1 ?_);refine boxZ 1 #[.int .i64 i,.int .i64 l,.int .i64 u,.slice be Y.length bf] 55 ?_;intro c2 hg c3 hbox hb;have O:=aM (hbox);have GW1229:=gS hg;have GE1229:=gS hg;replace HB:=sB hb;clear hb hbox hg)|((with_reducible refine gN 2 ?_);refine boxZ 2 #[.int .i64 0,.int .i64 0,.int .i64 0,.slice none 0 0] 26 ?_;intro aK hg bY hbox hb;have ac:=aM (hbox);have GW1230:=gS hg;have GE1230:=gS hg;replace HB:=sB hb;have ch:=nL hg O;have ci:=nG hg O;replace O:=kB O hb;clear hb hbox hg)|((with_reducible refine gN 3 ?_);refine boxZ 3 #[.int .i64 0,.int .i64 0,.int .i64 0,.slice none 0 0] 26 ?_;intro cj hg ck hbox hb;have aL:=aM (hbox);have GW1231:=gS hg;have GE1231:=gS hg;replace HB:=sB hb;have cl:=nL hg O;have cm:=nG hg O;replace O:=kB O hb;have cn:=nL hg ac;have co:=nG hg ac;replace ac:=kB ac hb;clear hb hbox hg;have hnb6:=ch.out;have hnc6:=ci.out;have hnb7:=cl.out;have hnc7:=cm.out;obtain⟨cp,cq,c4,c5,cr,cs,c6,c7⟩:=cz4 O;have hnb9:=co.out;have hnc9:=cn.out;obtain⟨ct,cu,cv,cw,cx,cy,cz,cA⟩:=cz4 aL)|((with_reducible refine gF 67 ?_);refine goZ (some 15) Tryz.func67 #[.slice be Y.length bf] ?_;(with_reducible refine(laws_toRuleS.calls k _ _ Y aH _ ?side1 ?side2 cg.out).mono ?_);(case side1=>exact C_below HR0_3.out cB);(case side2=>exact HC0_3.out);rintro e G ⟨c8,rfl,aG,hb⟩;refine⟨_,rfl,?_⟩;have bQ:=aM (S_lower aG (below_size cB));replace O:=kB O hb;replace ac:=kB ac hb;replace aL:=kP aL hb (.cells #[.int .i64 i,.int .i64 l,.int .i64 u,.slice none 0 0] 26 (0,0));replace HB:=sB hb;(try clear hb);(try clear aG);obtain⟨bq,br,cD⟩:=S_slice bQ.out;subst cD;obtain⟨cE,cF,da,db,cG,cH,dc,dd⟩:=cz4 aL;obtain⟨cI,cJ,de,df,cL,cM,dg,dh⟩:=cz4 ac))
 refine bodyPost_ret (results_cell_row rfl _ _ aK 26 #[.int .i64 i,.int .i64 l,.int .i64 u,.slice bq aH.length br] (0,0) _ rfl (kS ac _) Tryz.underlying26 rfl (by kernel_rfl)) rfl ?_
 exact⟨_,rE,by(with_reducible repeat(first|apply S_alloc|apply S_drewN|apply S_drew));exact S_mono (S_far (p:=⟨aK,3,none⟩) (S_far (p:=⟨aK,2,none⟩) (S_far (p:=⟨aK,1,none⟩) (S_far (p:=⟨aK,0,none⟩) (S_far (p:=⟨cj,3,none⟩) (S_types (S_types bQ.out aL.out (by decide)) ac.out (by decide)) (fun _ hk=>hk.1.2) (.slice bq aH.length br)) (fun _ hk=>hk.2) (.int .i64 i)) (fun _ hk=>hk.2) (.int .i64 l)) (fun _ hk=>hk.2) (.int .i64 u)) (fun _ hk=>hk.2) (.slice bq aH.length br)) (fun _ hk=>trivial),cB⟩
def laws_eqIns.f (i:Int) (l:Int) (u:Int) (U:Int) (q:Int) (s:Int) (W:Int) (X:Int):Option (Bool):=if i=q then(if l=s then(if u=W then(if U=X then(some true)else(some false))else(some false))else(some false))else(some false)
set_option maxHeartbeats 8000000 in
set_option maxRecDepth 100000 in
theorem laws_eqIns.calls (i:Int) (l:Int) (u:Int) (U:Int) (q:Int) (s:Int) (W:Int) (X:Int) (r:Bool) (w:World) (h:laws_eqIns.f i l u U q s W X=some r) :
 Calls Tryz.prog 68 #[.agg #[.int .i64 i,.int .i64 l,.int .i64 u,.int .i64 U],.agg #[.int .i64 q,.int .i64 s,.int .i64 W,.int .i64 X]] w fun e w'=>e= .returned (.bool r)∧Below w.heap.size w w':=by
 have hu71:=Tryz.underlying71;have HB:=aM (Below.refl w.heap.size w);have H:(if i=q then(if l=s then(if u=W then(if U=X then(some true)else(some false))else(some false))else(some false))else(some false))=some r:=h;clear h;by_cases d:i=q
 ·rw[if_pos d]at H;obtain⟨L,M⟩:=eT d;clear d;by_cases o:l=s
  ·rw[if_pos o]at H;obtain⟨au,bs⟩:=eT o;clear o;by_cases aN:u=W
   ·rw[if_pos aN]at H;obtain⟨bu,cN⟩:=eT aN;clear aN;by_cases J:U=X
    ·rw[if_pos J]at H;obtain⟨aJ,cO⟩:=eT J;clear J;obtain rfl:=Option.some.inj H;go_enter Tryz.func68,Tryz.ntmps68
     go_wp2_with (first|((with_reducible refine gN 2 ?_);refine boxZ 2 #[.int .i64 i,.int .i64 l,.int .i64 u,.int .i64 U] 71 ?_;intro bg hg di hbox hb;have m:=aM (hbox);have GW1235:=gS hg;have GE1235:=gS hg;replace HB:=sB hb;clear hb hbox hg)|((with_reducible refine gN 3 ?_);refine boxZ 3 #[.int .i64 q,.int .i64 s,.int .i64 W,.int .i64 X] 71 ?_;intro bh hg dj hbox hb;have ad:=aM (hbox);have GW1236:=gS hg;have GE1236:=gS hg;replace HB:=sB hb;have ae:=nL hg m;have af:=nG hg m;replace m:=kB m hb;clear hb hbox hg;have hnb9:=ae.out;have hnc9:=af.out;obtain⟨ct,cu,cv,cw,cx,cy,cz,cA⟩:=cz4 m;obtain⟨dk,dl,dm,dn,dp,dq,dr,dt⟩:=cz4 ad))
     go_ret;exact⟨rE,cB⟩
    ·rw[if_neg J]at H;obtain⟨aJ,cO⟩:=eF J;obtain rfl:=Option.some.inj H;go_enter Tryz.func68,Tryz.ntmps68
     go_wp2_with (first|((with_reducible refine gN 2 ?_);refine boxZ 2 #[.int .i64 i,.int .i64 l,.int .i64 u,.int .i64 U] 71 ?_;intro bg hg cP hbox hb;have m:=aM (hbox);have GW1235:=gS hg;have GE1235:=gS hg;replace HB:=sB hb;clear hb hbox hg)|((with_reducible refine gN 3 ?_);refine boxZ 3 #[.int .i64 q,.int .i64 s,.int .i64 W,.int .i64 X] 71 ?_;intro bh hg bd hbox hb;have ad:=aM (hbox);have GW1236:=gS hg;have GE1236:=gS hg;replace HB:=sB hb;have ae:=nL hg m;have af:=nG hg m;replace m:=kB m hb;clear hb hbox hg;have hnb14:=ae.out;have hnc14:=af.out;obtain⟨du,dv,dw,dx,dy,dz,dB,dC⟩:=cz4 m;obtain⟨dD,dE,dF,dG,dH,dI,dJ,dK⟩:=cz4 ad))
     go_ret;exact⟨rE,cB⟩
   ·rw[if_neg aN]at H;obtain⟨bu,cN⟩:=eF aN;obtain rfl:=Option.some.inj H;go_enter Tryz.func68,Tryz.ntmps68
    go_wp2_with (first|((with_reducible refine gN 2 ?_);refine boxZ 2 #[.int .i64 i,.int .i64 l,.int .i64 u,.int .i64 U] 71 ?_;intro bg hg dL hbox hb;have m:=aM (hbox);have GW1235:=gS hg;have GE1235:=gS hg;replace HB:=sB hb;clear hb hbox hg)|((with_reducible refine gN 3 ?_);refine boxZ 3 #[.int .i64 q,.int .i64 s,.int .i64 W,.int .i64 X] 71 ?_;intro bh hg dM hbox hb;have ad:=aM (hbox);have GW1236:=gS hg;have GE1236:=gS hg;replace HB:=sB hb;have ae:=nL hg m;have af:=nG hg m;replace m:=kB m hb;clear hb hbox hg;have hnb19:=ae.out;have hnc19:=af.out;obtain⟨dN,dO,dP,dQ,dR,dS,dT,dU⟩:=cz4 m;obtain⟨dV,dW,dX,dY,dZ,d0,d1,d2⟩:=cz4 ad))
    go_ret;exact⟨rE,cB⟩
  ·rw[if_neg o]at H;obtain⟨au,bs⟩:=eF o;obtain rfl:=Option.some.inj H;go_enter Tryz.func68,Tryz.ntmps68
   go_wp2_with (first|((with_reducible refine gN 2 ?_);refine boxZ 2 #[.int .i64 i,.int .i64 l,.int .i64 u,.int .i64 U] 71 ?_;intro bg hg d3 hbox hb;have m:=aM (hbox);have GW1235:=gS hg;have GE1235:=gS hg;replace HB:=sB hb;clear hb hbox hg)|((with_reducible refine gN 3 ?_);refine boxZ 3 #[.int .i64 q,.int .i64 s,.int .i64 W,.int .i64 X] 71 ?_;intro bh hg d4 hbox hb;have ad:=aM (hbox);have GW1236:=gS hg;have GE1236:=gS hg;replace HB:=sB hb;have ae:=nL hg m;have af:=nG hg m;replace m:=kB m hb;clear hb hbox hg;have hnb24:=ae.out;have hnc24:=af.out;obtain⟨d5,d6,d7,d8,d9,ea,eb,ec⟩:=cz4 m;obtain⟨ed,ee,ef,eg,eh,ei,ej,ek⟩:=cz4 ad))
   go_ret;exact⟨rE,cB⟩
 ·rw[if_neg d]at H;obtain⟨L,M⟩:=eF d;obtain rfl:=Option.some.inj H;go_enter Tryz.func68,Tryz.ntmps68
  go_wp2_with (first|((with_reducible refine gN 2 ?_);refine boxZ 2 #[.int .i64 i,.int .i64 l,.int .i64 u,.int .i64 U] 71 ?_;intro bg hg el hbox hb;have m:=aM (hbox);have GW1235:=gS hg;have GE1235:=gS hg;replace HB:=sB hb;clear hb hbox hg)|((with_reducible refine gN 3 ?_);refine boxZ 3 #[.int .i64 q,.int .i64 s,.int .i64 W,.int .i64 X] 71 ?_;intro bh hg em hbox hb;have ad:=aM (hbox);have GW1236:=gS hg;have GE1236:=gS hg;replace HB:=sB hb;have ae:=nL hg m;have af:=nG hg m;replace m:=kB m hb;clear hb hbox hg;have hnb29:=ae.out;have hnc29:=af.out;obtain⟨en,eo,ep,eq,er,es,et,eu⟩:=cz4 m;obtain⟨ev,ew,ex,ey,ez,eA,eC,eD⟩:=cz4 ad))
  go_ret;exact⟨rE,cB⟩
def laws_eqInsS.l0:Nat→List (S71)→List (S71)→Int→Option (Bool)
  | 0,_,_,_=>none
  | k+1,y,aa,x=>if x<(y.length:Int)then(if 0≤x then(if x<(aa.length:Int)then((laws_eqIns.f ((rd_T71 y x).f0) ((rd_T71 y x).f1) ((rd_T71 y x).f2) ((rd_T71 y x).f3) ((rd_T71 aa x).f0) ((rd_T71 aa x).f1) ((rd_T71 aa x).f2) ((rd_T71 aa x).f3)).bind fun bv=>(if bv=true then(laws_eqInsS.l0 k y aa (wrap64 (x+1)))else(some false)))else(none))else(none))else(some true)
def laws_eqInsS.f (k:Nat) (b:List (S71)) (c:List (S71)):Option (Bool):=if(b.length:Int)=(c.length:Int)then(laws_eqInsS.l0 k b c 0)else(some false)
def laws_eqInsS.T6:Bool×List (List Nat×List Nat):=(true,[([],[]),([],[]),([0,1],[0,1]),([2],[2]),([],[]),([],[]),([4,5],[4,5]),([6],[6]),([3,7],[3,7]),([8],[8])])
def laws_eqInsS.B6:List Nat:=[0,0,3,7,0,0,48,112,255,511]
theorem laws_eqInsS.tab6:rtab .any (opsOf Tryz.f30 6)=laws_eqInsS.T6:=by kernel_rfl
theorem laws_eqInsS.bits6:waitsOk laws_eqInsS.T6.2 laws_eqInsS.B6=true:=by kernel_rfl
theorem q27x0 {P:Prop} (h:P:=by
 rintro w' ⟨s0,s1,s2,s3,s4,s5,s6,s7⟩
 go_simp
 with_reducible rfl):P:=h
set_option maxHeartbeats 8000000 in
set_option maxRecDepth 100000 in
theorem laws_eqInsS.calls (k:Nat) (ao:Option Addr) (ap:Nat) (b:List (S71)) (aO:Option Addr) (av:Nat) (c:List (S71)) (r:Bool) (w:World) (aq:Kd.C k71 w ao b.length b) (ar:b.length≤ap) (aP:Kd.C k71 w aO c.length c) (aQ:c.length≤av) (h:laws_eqInsS.f k b c=some r) :
 Calls Tryz.prog 30 #[.slice ao b.length ap,.slice aO c.length av] w fun e w'=>e= .returned (.bool r)∧Below w.heap.size w w':=by
 have hu71:=Tryz.underlying71;have HR0:=aM aq;have HC0:=aM ar;clear aq ar;have HR1:=aM aP;have HC1:=aM aQ;clear aP aQ;have HB:=aM (Below.refl w.heap.size w);have H:(if(b.length:Int)=(c.length:Int)then(laws_eqInsS.l0 k b c 0)else(some false))=some r:=h;clear h;by_cases d:(b.length:Int)=(c.length:Int)
 ·rw[if_pos d]at H;obtain⟨L,M⟩:=eT d
  have aR:(b.length == c.length)=true:=by first|simpa using d|(simp at d ⊢;omega)
  clear d;have H':=aM H;clear H;go_enter Tryz.func30,Tryz.ntmps30;go_wp2
  go_loopg [5] k (fun kq bw w'=> ∃ (a:Int),bw= .int .i64 a∧Aside0 (laws_eqInsS.l0 kq b c a=some r)∧Aside0 (kq≤k)∧Aside0 (Below w.heap.size w w'))
  case atStart=>exact⟨(0),rS,H',⟨Nat.le_refl _⟩,⟨cB⟩⟩
  case round=>
   clear H';(try clear av);(try clear d);(try clear L);(try clear M);(try clear aR);obtain⟨a,rfl,HA,HK1,HB⟩:=hrel
   cases gk with
   | zero=>exact absurd HA.out (by simp[laws_eqInsS.l0])
   | succ k1=>
    have H:=HA.out;clear HA;simp only[laws_eqInsS.l0]at H;by_cases o:a<(b.length:Int)
    ·rw[if_pos o]at H;have au:=decide_eq_true o;clear o;replace H:=gD H;obtain⟨bu,H⟩:=H;replace H:=gD H;obtain⟨aJ,H⟩:=H;replace H:=bE H;obtain⟨bv,bR,H⟩:=H;by_cases bi:bv=true
     ·subst bi;replace H:=iT H;have H':=aM H;clear H
      try go_wp2
      replace HB:=aM (below_drew1 HB.out);have aw:0≤(a:Int):=dA;have ax:a<(b.length:Int):=dA;obtain⟨D,bx,ag,ah,ai,aj⟩:=at_T71 HR0.out a aw ax;have aS:=aj;have aT:=ai;have aU:=ah;have aV:=ag;cases bx;replace ag:=(bc HB ag :);replace ah:=(bc HB ah :);replace ai:=(bc HB ai :);replace aj:=(bc HB aj :);replace aw:=eq_true aw;replace ax:=eq_true ax;have ay:0≤(a:Int):=dA;have az:a<(c.length:Int):=dA;obtain⟨E,bz,ak,al,am,an⟩:=at_T71 HR1.out a ay az;have aW:=an;have aX:=am;have aY:=al;have aZ:=ak;cases bz;replace ak:=(bc HB ak :);replace al:=(bc HB al :);replace am:=(bc HB am :);replace an:=(bc HB an :);replace ay:=eq_true ay;replace az:=eq_true az
      refine start_ (n:=10) (S:=fun w'=>w'.cell? (D.add ((a).toNat*4))=some (.int .i64 ((rd_T71 b a).f0))∧w'.cell? ⟨(D.add ((a).toNat*4)).block,(D.add ((a).toNat*4)).off+1,none⟩=some (.int .i64 ((rd_T71 b a).f1))∧w'.cell? ⟨(D.add ((a).toNat*4)).block,(D.add ((a).toNat*4)).off+2,none⟩=some (.int .i64 ((rd_T71 b a).f2))∧w'.cell? ⟨(D.add ((a).toNat*4)).block,(D.add ((a).toNat*4)).off+3,none⟩=some (.int .i64 ((rd_T71 b a).f3))∧w'.cell? (E.add ((a).toNat*4))=some (.int .i64 ((rd_T71 c a).f0))∧w'.cell? ⟨(E.add ((a).toNat*4)).block,(E.add ((a).toNat*4)).off+1,none⟩=some (.int .i64 ((rd_T71 c a).f1))∧w'.cell? ⟨(E.add ((a).toNat*4)).block,(E.add ((a).toNat*4)).off+2,none⟩=some (.int .i64 ((rd_T71 c a).f2))∧w'.cell? ⟨(E.add ((a).toNat*4)).block,(E.add ((a).toNat*4)).off+3,none⟩=some (.int .i64 ((rd_T71 c a).f3))) (ds:=[]) #[false,false,false,false,false,false,false,false,false,false] (by kernel_rfl) rfl rfl ⟨((bc HB aV :)),((bc HB aU :)),((bc HB aT :)),((bc HB aS :)),((bc HB aZ :)),((bc HB aY :)),((bc HB aX :)),((bc HB aW :))⟩ (fun hHeld=>?_);refine with_tabW laws_eqInsS.tab6 laws_eqInsS.bits6 (fun HT_ HW_=>?_)
      generalize wr.drew=eE at HB ag ah ai aj ak al am an hHeld ⊢;refine pureZ 0 (some 17) (msk 10 1) HT_.out ?_;refine pureZ 1 (some 18) (msk 10 3) HT_.out ?_;refine pureZ 2 (some 19) (msk 10 7) HT_.out ?_;refine pureZ 4 (some 21) (msk 10 23) HT_.out ?_;refine pureZ 5 (some 22) (msk 10 55) HT_.out ?_;refine pureZ 6 (some 23) (msk 10 119) HT_.out ?_;refine takeZ 3 (some 20) (msk 10 127) HT_.out HW_.out hHeld (hy:=q27x0) (h:=?_);refine takeZ 7 (some 24) (msk 10 255) HT_.out HW_.out hHeld (hy:=q27x0) (h:=?_)
      refine one_Z 8 (some 25) (msk 10 511) HT_.out fun K hK=>?_
      refine goE Tryz.func68 #[.agg #[.int .i64 ((rd_T71 b a).f0),.int .i64 ((rd_T71 b a).f1),.int .i64 ((rd_T71 b a).f2),.int .i64 ((rd_T71 b a).f3)],.agg #[.int .i64 ((rd_T71 c a).f0),.int .i64 ((rd_T71 c a).f1),.int .i64 ((rd_T71 c a).f2),.int .i64 ((rd_T71 c a).f3)]] ?_
      with_reducible refine(laws_eqIns.calls ((rd_T71 b a).f0) ((rd_T71 b a).f1) ((rd_T71 b a).f2) ((rd_T71 b a).f3) ((rd_T71 c a).f0) ((rd_T71 c a).f1) ((rd_T71 c a).f2) ((rd_T71 c a).f3) true _ bR.out).mono ?_;rintro e cQ ⟨rfl,hb⟩;refine⟨_,rfl,?_⟩;replace HB:=sB hb;(try clear hb)
      refine hK.out _ _ ⟨((bc HB aV :)),((bc HB aU :)),((bc HB aT :)),((bc HB aS :)),((bc HB aZ :)),((bc HB aY :)),((bc HB aX :)),((bc HB aW :))⟩ (fun hHeld=>?_)
      clear hK K;refine normZ (some 25) ?_
      refine pureZ 9 (some 26) (msk 10 1023) HT_.out ?_
      refine done_ (done_of HT_.out (by kernel_rfl)) ?_
      try go_wp2
      go_roundg k1
      case measure=>have:=HK1.out;omega
      case rel=>exact⟨(wrap64 (a+1)),rS,H',⟨by have:=HK1.out;omega⟩,⟨cB⟩⟩
     ·replace bi:=Bool.eq_false_iff.mpr bi;subst bi;replace H:=iF H;obtain rfl:=Option.some.inj H
      try go_wp2
      replace HB:=aM (below_drew1 HB.out);have aw:0≤(a:Int):=dA;have ax:a<(b.length:Int):=dA;obtain⟨D,bx,ag,ah,ai,aj⟩:=at_T71 HR0.out a aw ax;have aS:=aj;have aT:=ai;have aU:=ah;have aV:=ag;cases bx;replace ag:=(bc HB ag :);replace ah:=(bc HB ah :);replace ai:=(bc HB ai :);replace aj:=(bc HB aj :);replace aw:=eq_true aw;replace ax:=eq_true ax;have ay:0≤(a:Int):=dA;have az:a<(c.length:Int):=dA;obtain⟨E,bz,ak,al,am,an⟩:=at_T71 HR1.out a ay az;have aW:=an;have aX:=am;have aY:=al;have aZ:=ak;cases bz;replace ak:=(bc HB ak :);replace al:=(bc HB al :);replace am:=(bc HB am :);replace an:=(bc HB an :);replace ay:=eq_true ay;replace az:=eq_true az
      refine start_ (n:=10) (S:=fun w'=>w'.cell? (D.add ((a).toNat*4))=some (.int .i64 ((rd_T71 b a).f0))∧w'.cell? ⟨(D.add ((a).toNat*4)).block,(D.add ((a).toNat*4)).off+1,none⟩=some (.int .i64 ((rd_T71 b a).f1))∧w'.cell? ⟨(D.add ((a).toNat*4)).block,(D.add ((a).toNat*4)).off+2,none⟩=some (.int .i64 ((rd_T71 b a).f2))∧w'.cell? ⟨(D.add ((a).toNat*4)).block,(D.add ((a).toNat*4)).off+3,none⟩=some (.int .i64 ((rd_T71 b a).f3))∧w'.cell? (E.add ((a).toNat*4))=some (.int .i64 ((rd_T71 c a).f0))∧w'.cell? ⟨(E.add ((a).toNat*4)).block,(E.add ((a).toNat*4)).off+1,none⟩=some (.int .i64 ((rd_T71 c a).f1))∧w'.cell? ⟨(E.add ((a).toNat*4)).block,(E.add ((a).toNat*4)).off+2,none⟩=some (.int .i64 ((rd_T71 c a).f2))∧w'.cell? ⟨(E.add ((a).toNat*4)).block,(E.add ((a).toNat*4)).off+3,none⟩=some (.int .i64 ((rd_T71 c a).f3))) (ds:=[]) #[false,false,false,false,false,false,false,false,false,false] (by kernel_rfl) rfl rfl ⟨((bc HB aV :)),((bc HB aU :)),((bc HB aT :)),((bc HB aS :)),((bc HB aZ :)),((bc HB aY :)),((bc HB aX :)),((bc HB aW :))⟩ (fun hHeld=>?_);refine with_tabW laws_eqInsS.tab6 laws_eqInsS.bits6 (fun HT_ HW_=>?_)
      generalize wr.drew=G at HB ag ah ai aj ak al am an hHeld ⊢;refine pureZ 0 (some 17) (msk 10 1) HT_.out ?_;refine pureZ 1 (some 18) (msk 10 3) HT_.out ?_;refine pureZ 2 (some 19) (msk 10 7) HT_.out ?_;refine pureZ 4 (some 21) (msk 10 23) HT_.out ?_;refine pureZ 5 (some 22) (msk 10 55) HT_.out ?_;refine pureZ 6 (some 23) (msk 10 119) HT_.out ?_;refine takeZ 3 (some 20) (msk 10 127) HT_.out HW_.out hHeld (hy:=q27x0) (h:=?_);refine takeZ 7 (some 24) (msk 10 255) HT_.out HW_.out hHeld (hy:=q27x0) (h:=?_)
      refine one_Z 8 (some 25) (msk 10 511) HT_.out fun K hK=>?_
      refine goE Tryz.func68 #[.agg #[.int .i64 ((rd_T71 b a).f0),.int .i64 ((rd_T71 b a).f1),.int .i64 ((rd_T71 b a).f2),.int .i64 ((rd_T71 b a).f3)],.agg #[.int .i64 ((rd_T71 c a).f0),.int .i64 ((rd_T71 c a).f1),.int .i64 ((rd_T71 c a).f2),.int .i64 ((rd_T71 c a).f3)]] ?_
      with_reducible refine(laws_eqIns.calls ((rd_T71 b a).f0) ((rd_T71 b a).f1) ((rd_T71 b a).f2) ((rd_T71 b a).f3) ((rd_T71 c a).f0) ((rd_T71 c a).f1) ((rd_T71 c a).f2) ((rd_T71 c a).f3) false _ bR.out).mono ?_;rintro e cP ⟨rfl,hb⟩;refine⟨_,rfl,?_⟩;replace HB:=sB hb;(try clear hb)
      refine hK.out _ _ ⟨((bc HB aV :)),((bc HB aU :)),((bc HB aT :)),((bc HB aS :)),((bc HB aZ :)),((bc HB aY :)),((bc HB aX :)),((bc HB aW :))⟩ (fun hHeld=>?_)
      clear hK K;refine normZ (some 25) ?_
      refine pureZ 9 (some 26) (msk 10 1023) HT_.out ?_
      refine done_ (done_of HT_.out (by kernel_rfl)) ?_
      try go_wp2
      go_ret;exact⟨rE,cB⟩
    ·rw[if_neg o]at H;have au:=decide_eq_false o;clear o;obtain rfl:=Option.some.inj H;go_wp2;go_ret;exact⟨rE,cB⟩
 ·rw[if_neg d]at H;obtain⟨L,M⟩:=eF d
  have aR:(b.length == c.length)=false:=by first|simpa using d|(simp at d ⊢;omega)
  obtain rfl:=Option.some.inj H;go_enter Tryz.func30,Tryz.ntmps30;go_wp2;go_ret;exact⟨rE,cB⟩
def laws_eqIntS.l0:Nat→List Int→List Int→Int→Option (Bool)
  | 0,_,_,_=>none
  | k+1,y,aa,x=>if x<(y.length:Int)then(if 0≤x then(if x<(aa.length:Int)then(if(rd y x)=(rd aa x)then(laws_eqIntS.l0 k y aa (wrap64 (x+1)))else(some false))else(none))else(none))else(some true)
def laws_eqIntS.f (k:Nat) (b:List Int) (c:List Int):Option (Bool):=if(b.length:Int)=(c.length:Int)then(laws_eqIntS.l0 k b c 0)else(some false)
set_option maxHeartbeats 8000000 in
set_option maxRecDepth 100000 in
theorem laws_eqIntS.calls (k:Nat) (ao:Option Addr) (ap:Nat) (b:List Int) (aO:Option Addr) (av:Nat) (c:List Int) (r:Bool) (w:World) (aq:Kd.C (Kd.int .i64) w ao b.length b) (ar:b.length≤ap) (aP:Kd.C (Kd.int .i64) w aO c.length c) (aQ:c.length≤av) (h:laws_eqIntS.f k b c=some r) :
 Calls Tryz.prog 134 #[.slice ao b.length ap,.slice aO c.length av] w fun e w'=>e= .returned (.bool r)∧Drawn0 w w':=by
 have HR0:=aM aq;have HC0:=aM ar;clear aq ar;have HR1:=aM aP;have HC1:=aM aQ;clear aP aQ;have H:(if(b.length:Int)=(c.length:Int)then(laws_eqIntS.l0 k b c 0)else(some false))=some r:=h;clear h;by_cases d:(b.length:Int)=(c.length:Int)
 ·rw[if_pos d]at H;obtain⟨L,M⟩:=eT d
  have aR:(b.length == c.length)=true:=by first|simpa using d|(simp at d ⊢;omega)
  clear d;have H':=aM H;clear H;go_enter Tryz.func134,Tryz.ntmps134;go_wp2
  repeat(go_quiet (fail);try go_wp2)
  go_loopg [5] k (fun kq bw w'=> ∃ (a:Int),bw= .int .i64 a∧Aside0 (laws_eqIntS.l0 kq b c a=some r)∧Aside0 (kq≤k)∧Drawn0 w w')
  case atStart=>exact⟨(0),rS,H',⟨Nat.le_refl _⟩,by repeat(first|exact Drawn0.refl _|apply Drawn0.step)⟩
  case round=>
   clear H';(try clear av);(try clear d);(try clear L);(try clear M);(try clear aR);obtain⟨a,rfl,HA,HK1,⟨m1,rfl⟩⟩:=hrel
   cases gk with
   | zero=>exact absurd HA.out (by simp[laws_eqIntS.l0])
   | succ k1=>
    have H:=HA.out;clear HA;simp only[laws_eqIntS.l0]at H;by_cases o:a<(b.length:Int)
    ·rw[if_pos o]at H;have au:=decide_eq_true o;clear o;replace H:=gD H;obtain⟨bu,H⟩:=H;replace H:=gD H;obtain⟨aJ,H⟩:=H;by_cases a0:(rd b a)=(rd c a)
     ·rw[if_pos a0]at H;obtain⟨bC,cR⟩:=eT a0;clear a0;have H':=aM H;clear H;have aA:0≤(a:Int):=dA;have aB:a<(b.length:Int):=dA;obtain⟨cS,bA,cT⟩:=at_int HR0.out a aA aB;cases bA;replace aA:=eq_true aA;replace aB:=eq_true aB;have aC:0≤(a:Int):=dA;have aD:a<(c.length:Int):=dA;obtain⟨cU,bB,cV⟩:=at_int HR1.out a aC aD;cases bB;replace aC:=eq_true aC;replace aD:=eq_true aD;go_wp2
      repeat(go_quiet (fail);try go_wp2)
      go_roundg k1
      case measure=>have:=HK1.out;omega
      case rel=>exact⟨(wrap64 (a+1)),rS,H',⟨by have:=HK1.out;omega⟩,by repeat(first|exact Drawn0.refl _|apply Drawn0.step)⟩
     ·rw[if_neg a0]at H;obtain⟨bC,cR⟩:=eF a0;obtain rfl:=Option.some.inj H;have aA:0≤(a:Int):=dA;have aB:a<(b.length:Int):=dA;obtain⟨cS,bA,cT⟩:=at_int HR0.out a aA aB;cases bA;replace aA:=eq_true aA;replace aB:=eq_true aB;have aC:0≤(a:Int):=dA;have aD:a<(c.length:Int):=dA;obtain⟨cU,bB,cV⟩:=at_int HR1.out a aC aD;cases bB;replace aC:=eq_true aC;replace aD:=eq_true aD;go_wp2
      repeat(go_quiet (fail);try go_wp2)
      go_ret
      exact⟨by first|rfl|(simp;done)|(simp[*];done),by repeat(first|exact Drawn0.refl _|apply Drawn0.step)⟩
    ·rw[if_neg o]at H;have au:=decide_eq_false o;clear o;obtain rfl:=Option.some.inj H;go_wp2
     repeat(go_quiet (fail);try go_wp2)
     go_ret
     exact⟨by first|rfl|(simp;done)|(simp[*];done),by repeat(first|exact Drawn0.refl _|apply Drawn0.step)⟩
 ·rw[if_neg d]at H;obtain⟨L,M⟩:=eF d
  have aR:(b.length == c.length)=false:=by first|simpa using d|(simp at d ⊢;omega)
  obtain rfl:=Option.some.inj H;go_enter Tryz.func134,Tryz.ntmps134;go_wp2
  repeat(go_quiet (fail);try go_wp2)
  go_ret
  exact⟨by first|rfl|(simp;done)|(simp[*];done),by repeat(first|exact Drawn0.refl _|apply Drawn0.step)⟩
def laws_eqWide.f (i:Int) (l:Int) (q:Int) (s:Int):Option (Bool):=if i=q then(if l=s then(some true)else(some false))else(some false)
set_option maxHeartbeats 8000000 in
set_option maxRecDepth 100000 in
theorem laws_eqWide.calls (i:Int) (l:Int) (q:Int) (s:Int) (r:Bool) (w:World) (h:laws_eqWide.f i l q s=some r) :
 Calls Tryz.prog 152 #[.agg #[.int .i64 i,.int .i64 l],.agg #[.int .i64 q,.int .i64 s]] w fun e w'=>e= .returned (.bool r)∧Below w.heap.size w w':=by
 have hu105:=Tryz.underlying105;have HB:=aM (Below.refl w.heap.size w);have H:(if i=q then(if l=s then(some true)else(some false))else(some false))=some r:=h;clear h;by_cases d:i=q
 ·rw[if_pos d]at H;obtain⟨L,M⟩:=eT d;clear d;by_cases o:l=s
  ·rw[if_pos o]at H;obtain⟨au,bs⟩:=eT o;clear o;obtain rfl:=Option.some.inj H;go_enter Tryz.func152,Tryz.ntmps152
   go_wp2_with (first|((with_reducible refine gN 2 ?_);refine boxZ 2 #[.int .i64 i,.int .i64 l] 105 ?_;intro bS hg ck hbox hb;have A:=aM (hbox);have GW1242:=gS hg;have GE1242:=gS hg;replace HB:=sB hb;clear hb hbox hg)|((with_reducible refine gN 3 ?_);refine boxZ 3 #[.int .i64 q,.int .i64 s] 105 ?_;intro bT hg eG hbox hb;have a1:=aM (hbox);have GW1243:=gS hg;have GE1243:=gS hg;replace HB:=sB hb;have a2:=nL hg A;have a3:=nG hg A;replace A:=kB A hb;clear hb hbox hg;have hnb7:=a2.out;have hnc7:=a3.out;obtain⟨cp,cq,cr,cs⟩:=cz2 A;obtain⟨eH,eI,eJ,eK⟩:=cz2 a1))
   go_ret;exact⟨rE,cB⟩
  ·rw[if_neg o]at H;obtain⟨au,bs⟩:=eF o;obtain rfl:=Option.some.inj H;go_enter Tryz.func152,Tryz.ntmps152
   go_wp2_with (first|((with_reducible refine gN 2 ?_);refine boxZ 2 #[.int .i64 i,.int .i64 l] 105 ?_;intro bS hg cQ hbox hb;have A:=aM (hbox);have GW1242:=gS hg;have GE1242:=gS hg;replace HB:=sB hb;clear hb hbox hg)|((with_reducible refine gN 3 ?_);refine boxZ 3 #[.int .i64 q,.int .i64 s] 105 ?_;intro bT hg G hbox hb;have a1:=aM (hbox);have GW1243:=gS hg;have GE1243:=gS hg;replace HB:=sB hb;have a2:=nL hg A;have a3:=nG hg A;replace A:=kB A hb;clear hb hbox hg;have hnb12:=a2.out;have hnc12:=a3.out;obtain⟨cE,cF,cG,cH⟩:=cz2 A;obtain⟨cI,cJ,cL,cM⟩:=cz2 a1))
   go_ret;exact⟨rE,cB⟩
 ·rw[if_neg d]at H;obtain⟨L,M⟩:=eF d;obtain rfl:=Option.some.inj H;go_enter Tryz.func152,Tryz.ntmps152
  go_wp2_with (first|((with_reducible refine gN 2 ?_);refine boxZ 2 #[.int .i64 i,.int .i64 l] 105 ?_;intro bS hg eL hbox hb;have A:=aM (hbox);have GW1242:=gS hg;have GE1242:=gS hg;replace HB:=sB hb;clear hb hbox hg)|((with_reducible refine gN 3 ?_);refine boxZ 3 #[.int .i64 q,.int .i64 s] 105 ?_;intro bT hg eM hbox hb;have a1:=aM (hbox);have GW1243:=gS hg;have GE1243:=gS hg;replace HB:=sB hb;have a2:=nL hg A;have a3:=nG hg A;replace A:=kB A hb;clear hb hbox hg;have hnb17:=a2.out;have hnc17:=a3.out;obtain⟨eN,eO,eP,eQ⟩:=cz2 A;obtain⟨eR,eS,eU,eV⟩:=cz2 a1))
  go_ret;exact⟨rE,cB⟩
end Go.Proofs.YtpbalojiaghfhaaGreat.PFnExactCompile
