import Derived.Test.YtpbalojiaghfhaaGreatPFnCompilesy0
namespace Go.Proofs.YtpbalojiaghfhaaGreat.PFnCompiles
open Go.RowKit Go.Proofs.YtpbalojiaghfhaaGreatW.PrintWords Go.Proofs.YtpbalojiaghfhaaGreatW.PrintLast Go.Proofs.YtpbalojiaghfhaaGreatW.PrintMore Go.Proofs.YtpbalojiaghfhaaGreatW.Z
open Kd
attribute [local go_sem] isS max2_int min2_int max_two min_two max_three min_three max_four min_four
set_option linter.unusedVariables false
set_option linter.unusedSimpArgs false
def laws_big.f (l:List Int):Option (Bool):=some (decide ((l.length:Int)>1048576))
set_option maxHeartbeats 8000000 in
set_option maxRecDepth 100000 in
theorem laws_big.calls {c:Option Addr}{i:Nat}{l:List Int}{r:Bool}{w:World}(h:laws_big.f l=some r)(n:Kd.C (Kd.int .u8) w c l.length l)(aA:l.length≤i) :
 Calls Tryz.prog 6 #[.slice c l.length i] w fun e w'=>e= .returned (.bool r)∧Drawn0 w w':=by
 have HR0:=aM n;have HC0:=aM aA;clear n aA;have H:(some (decide ((l.length:Int)>1048576)))=some r:=h;clear h;obtain rfl:=Option.some.inj H;go_enter Tryz.func6,Tryz.ntmps6;go_wp2;go_ret
 exact⟨by first|rfl|(simp;done)|(simp[*];done),by repeat(first|exact Drawn0.refl _|apply Drawn0.step)⟩
/-- A state of type 101 at block g of W; what its slices lead to came in by b. -/
def IsS101 (b W:World) (g:Nat) (f0:List Int) (f1:Int) (f2:Int):Prop:= ∃ c i,W.heap[g]?=some (.cells #[.slice c f0.length i,.int .i64 f1,.int .i64 f2] 101 (0,0))∧b.heap.size≤g∧Kd.C (Kd.int .u8) b c f0.length f0
theorem IsS101.grown {b W:World} {g:Nat} {f0:List Int} {f1:Int} {f2:Int} {W1:World} {row:Option Nat} (h:IsS101 b W g f0 f1 f2) (hw:W.grownBy W1 row) (hne:some g≠row):IsS101 b W1 g f0 f1 f2:=by
  obtain⟨c,i,hb,hg,n⟩:=h
  exact⟨c,i,blk_grown hb hw hne,hg,n⟩
theorem IsS101.own_neN {b W:World} {g:Nat} {f0:List Int} {f1:Int} {f2:Int} {α:Type} {d:Kd α} {e:Nat} {base:Nat} {ok:Nat→Prop} {v:Value} {xs:List α} (h:IsS101 b W g f0 f1 f2) (ho:Kd.N d e W base ok v xs) (ht:e≠101):some g≠v.ownBlock:=by
  obtain⟨c,i,hb,hg,n⟩:=h
  exact N_ne ho hb ht
theorem IsS101.fresh {b W:World} {g:Nat} {f0:List Int} {f1:Int} {f2:Int} (h:IsS101 b W g f0 f1 f2): ∀ k,W.heap.size≤k→k≠g:=by
  obtain⟨c,i,hb,hg,n⟩:=h
  exact Kd.freshB hb
theorem IsS101.kept {b W:World} {g:Nat} {f0:List Int} {f1:Int} {f2:Int} {W1:World} {S:Nat→Prop} (h:IsS101 b W g f0 f1 f2) (hk:Kept W W1 S) (hne: ¬ S g):IsS101 b W1 g f0 f1 f2:=by
  obtain⟨c,i,hb,hg,n⟩:=h
  exact⟨c,i,blk_kept hb hk hne,hg,n⟩
theorem IsS101.below {b W:World} {g:Nat} {f0:List Int} {f1:Int} {f2:Int} {W1:World} (h:IsS101 b W g f0 f1 f2) (hw:Below W.heap.size W W1):IsS101 b W1 g f0 f1 f2:=h.grown (grown_of_below hw none) (by simp)
theorem IsS101.alloc {b W:World} {g:Nat} {f0:List Int} {f1:Int} {f2:Int} (h:IsS101 b W g f0 f1 f2) (o:Obj):IsS101 b (W.alloc o) g f0 f1 f2:=h.below (below_alloc (Below.refl _ _) o)
theorem IsS101.drewN {b W:World} {g:Nat} {f0:List Int} {f1:Int} {f2:Int} (h:IsS101 b W g f0 f1 f2) (m:Nat):IsS101 b (W.drewN m) g f0 f1 f2:=h
theorem IsS101.drew {b W:World} {g:Nat} {f0:List Int} {f1:Int} {f2:Int} (h:IsS101 b W g f0 f1 f2):IsS101 b W.drew g f0 f1 f2:=h
theorem IsS101.at_ {b W:World} {g:Nat} {f0:List Int} {f1:Int} {f2:Int} {w':World} {m:Nat} (hq:W.drewN m=w') (h:IsS101 b W g f0 f1 f2):IsS101 b w' g f0 f1 f2:=by subst hq;exact IsS101.drewN h m
theorem IsS101.apart {b W:World} {g:Nat} {f0:List Int} {f1:Int} {f2:Int} {α:Type} {d:Kd α} {e:Nat} {base:Nat} {ok:Nat→Prop} {v:Value} {xs:List α} (h:IsS101 b W g f0 f1 f2) (ho:d.R e W base ok v xs) (ht: ∀ q,q ∈ e :: d.E→q≠101):d.R e W base (fun k=>ok k∧k≠g) v xs:=by
  obtain⟨c,i,hb,hg,n⟩:=h
  exact R_types ho hb ht
theorem IsS101.own_ne {b W:World} {g:Nat} {f0:List Int} {f1:Int} {f2:Int} {α:Type} {d:Kd α} {e:Nat} {base:Nat} {ok:Nat→Prop} {v:Value} {xs:List α} (h:IsS101 b W g f0 f1 f2) (ho:d.R e W base ok v xs) (ht:e≠101):some g≠v.ownBlock:=by
  obtain⟨c,i,hb,hg,n⟩:=h
  exact R_ne ho hb ht
theorem IsS101.apartQ {b W:World} {g:Nat} {f0:List Int} {f1:Int} {f2:Int} {α:Type} {d:Kd α} {e:Nat} {base:Nat} {ok:Nat→Prop} {v:Value} {xs:List α} (h:IsS101 b W g f0 f1 f2) (ho:d.Q e W base ok v xs) (ht: ∀ q,q ∈ e :: d.E→q≠101):d.Q e W base (fun k=>ok k∧k≠g) v xs:=by
  obtain⟨c,i,hb,hg,n⟩:=h
  exact Q_types ho hb ht
theorem IsS101.own_neQ {b W:World} {g:Nat} {f0:List Int} {f1:Int} {f2:Int} {α:Type} {d:Kd α} {e:Nat} {base:Nat} {ok:Nat→Prop} {v:Value} {xs:List α} (h:IsS101 b W g f0 f1 f2) (ho:d.Q e W base ok v xs) (ht:e≠101):some g≠v.ownBlock:=by
  obtain⟨c,i,hb,hg,n⟩:=h
  exact Q_ne ho hb ht
theorem IsS101.apartS {b W:World} {g:Nat} {f0:List Int} {f1:Int} {f2:Int} {α:Type} {d:Kd α} {e:Nat} {base:Nat} {ok:Nat→Prop} {v:Value} {xs:List α} (h:IsS101 b W g f0 f1 f2) (ho:d.S e W base ok v xs) (ht: ∀ q,q ∈ e :: d.E→q≠101):d.S e W base (fun k=>ok k∧k≠g) v xs:=by
  obtain⟨c,i,hb,hg,n⟩:=h
  exact S_types ho hb ht
theorem IsS101.own_neS {b W:World} {g:Nat} {f0:List Int} {f1:Int} {f2:Int} {α:Type} {d:Kd α} {e:Nat} {base:Nat} {ok:Nat→Prop} {v:Value} {xs:List α} (h:IsS101 b W g f0 f1 f2) (ho:d.S e W base ok v xs) (ht:e≠101):some g≠v.ownBlock:=by
  obtain⟨c,i,hb,hg,n⟩:=h
  exact S_ne ho hb ht
theorem IsS101.lt {b W:World} {g:Nat} {f0:List Int} {f1:Int} {f2:Int} (h:IsS101 b W g f0 f1 f2):g<W.heap.size:=by
  obtain⟨c,i,hb,hg,n⟩:=h
  exact blk_lt hb
theorem IsS101.ge {b W:World} {g:Nat} {f0:List Int} {f1:Int} {f2:Int} (h:IsS101 b W g f0 f1 f2):b.heap.size≤g:=by
  obtain⟨c,i,hb,hg,n⟩:=h
  exact hg
theorem IsS101.ne_blk {b W:World} {g:Nat} {f0:List Int} {f1:Int} {f2:Int} {a:Nat} {cs:Array Value} {t:TypeId} {fr:Nat×Nat} (h:IsS101 b W g f0 f1 f2) (hb2:W.heap[a]?=some (.cells cs t fr)) (ht:t≠101):g≠a:=by
  obtain⟨c,i,hb,hg,n⟩:=h
  rintro rfl
  rw[hb]at hb2
  injection hb2 with hb2
  injection hb2 with _ ht2
  exact ht ht2.symm
theorem IsS101.far {b W:World} {g:Nat} {f0:List Int} {f1:Int} {f2:Int} {p:Addr} (h:IsS101 b W g f0 f1 f2) (hne:g≠p.block) (u:Value):IsS101 b (W.setCell p u) g f0 f1 f2:=by
  obtain⟨c,i,hb,hg,n⟩:=h
  exact⟨c,i,blk_far hb hne u,hg,n⟩
theorem cellS101_0 {W:World} {g:Nat} {c:Option Addr} {i:Nat} {f0:List Int} {f1:Int} {f2:Int} (h:W.heap[g]?=some (.cells #[.slice c f0.length i,.int .i64 f1,.int .i64 f2] 101 (0,0))):W.cell? ⟨g,0,none⟩=some (.slice c f0.length i):=(blk_cell h 0).trans rfl
theorem cellS101_1 {W:World} {g:Nat} {c:Option Addr} {i:Nat} {f0:List Int} {f1:Int} {f2:Int} (h:W.heap[g]?=some (.cells #[.slice c f0.length i,.int .i64 f1,.int .i64 f2] 101 (0,0))):W.cell? ⟨g,1,none⟩=some (.int .i64 f1):=(blk_cell h 1).trans rfl
theorem IsS101.set_1 {b W:World} {g:Nat} {f0:List Int} {f1:Int} {f2:Int} (h:IsS101 b W g f0 f1 f2) (x:Int):IsS101 b (W.setCell ⟨g,1,none⟩ (.int .i64 x)) g f0 x f2:=by
  obtain⟨c,i,hb,hg,n⟩:=h
  exact⟨c,i,by simpa using blk_set hb 1 (.int .i64 x),hg,n⟩
theorem cellS101_2 {W:World} {g:Nat} {c:Option Addr} {i:Nat} {f0:List Int} {f1:Int} {f2:Int} (h:W.heap[g]?=some (.cells #[.slice c f0.length i,.int .i64 f1,.int .i64 f2] 101 (0,0))):W.cell? ⟨g,2,none⟩=some (.int .i64 f2):=(blk_cell h 2).trans rfl
theorem IsS101.set_2 {b W:World} {g:Nat} {f0:List Int} {f1:Int} {f2:Int} (h:IsS101 b W g f0 f1 f2) (x:Int):IsS101 b (W.setCell ⟨g,2,none⟩ (.int .i64 x)) g f0 f1 x:=by
  obtain⟨c,i,hb,hg,n⟩:=h
  exact⟨c,i,by simpa using blk_set hb 2 (.int .i64 x),hg,n⟩
theorem IsS101.new (b W:World) (c:Option Addr) (i:Nat) (f0:List Int) (f1:Int) (f2:Int) (hB:Below b.heap.size b W) (n:Kd.C (Kd.int .u8) b c f0.length f0):IsS101 b (W.alloc (.cells #[.slice c f0.length i,.int .i64 f1,.int .i64 f2] 101)) W.heap.size f0 f1 f2:=⟨c,i,by simpa using heap_alloc_new W _,hB.size,n⟩
def spec_l01New.l0:Nat→List Int→Int→Int→Option (List Int×Int×Int)
  | 0,_,_,_=>none
  | k+1,aB,aV,aC=>if aC<(aB.length:Int)then(if aC<4000 then(if 0≤aC then(spec_l01New.l0 k aB (Go.bits .and .i64 (wrap64 ((wrap64 ((wrap64 (aV*131))+(wrap64 (rd aB aC))))+7)) 1073741823) (wrap64 (aC+1)))else(none))else(some (aB,0,aV)))else(some (aB,0,aV))
def spec_l01New.f (k:Nat) (l:List Int):Option (List Int×Int×Int):=spec_l01New.l0 k l (wrap64 (78801+(l.length:Int))) 0
theorem q2x0 {P:Prop} (h:P:=by repeat(first|(with_reducible first|exact HBW.out|apply below_alloc|apply pw_below_drewN|apply below_drew1)|exact HBW.out)):P:=h
theorem q2x1 {P:Prop} (h:P:=by repeat(first|(with_reducible first|exact HBW.out|apply below_alloc|apply pw_below_drewN|apply below_drew1|refine below_set ?_ (Aside0.out (by assumption)))|exact HBW.out)):P:=h
set_option maxHeartbeats 8000000 in
set_option maxRecDepth 100000 in
theorem spec_l01New.calls (k:Nat) (c:Option Addr) (i:Nat) (l:List Int) (r1:List Int) (r2:Int) (r3:Int) (b w:World) (hB:Below b.heap.size b w) (n:Kd.C (Kd.int .u8) b c l.length l) (aA:l.length≤i) (h:spec_l01New.f k l=some (r1,r2,r3)) :
 Calls Tryz.prog 35 #[.slice c l.length i] w fun e w'=> ∃ g_:Nat,e= .returned (.pointer (some ⟨g_,0,none⟩))∧IsS101 b w' g_ r1 r2 r3∧Below b.heap.size b w'∧Below w.heap.size w w':=by
 have hu101:=Tryz.underlying101;have HR0:=aM n;have HC0:=aM aA;clear n aA;have HBW:=rW w;have HW0:=aM hB.size;have HB:=aM hB;clear hB;have H:(spec_l01New.l0 k l (wrap64 (78801+(l.length:Int))) 0)=some (r1,r2,r3):=h;clear h;have H':=aM H;clear H;go_enter Tryz.func35,Tryz.ntmps35;go_wp2
 go_loopg [3,4] k (fun kq bQ bR w'=> ∃ (Y:Int) (X:Int),bQ= .int .i64 Y∧bR= .int .i64 X∧Aside0 (spec_l01New.l0 kq l Y X=some (r1,r2,r3))∧Aside0 (kq≤k)∧Aside0 (Below b.heap.size b w')∧Aside0 (Below w.heap.size w w'))
 case atStart=>exact⟨(wrap64 (78801+(l.length:Int))),(0),rS,rS,H',⟨Nat.le_refl _⟩,⟨cB⟩,⟨q2x0⟩⟩
 case round=>
  clear H' HBW;obtain⟨Y,X,rfl,rfl,HA,HK1,HB,HBW⟩:=hrel
  cases gk with
  | zero=>exact absurd HA.out (by simp[spec_l01New.l0])
  | succ k1=>
   have H:=HA.out;clear HA;simp only[spec_l01New.l0]at H;by_cases z:X<(l.length:Int)
   ·rw[if_pos z]at H;have aW:=decide_eq_true z;clear z;by_cases D:X<4000
    ·rw[if_pos D]at H;have aH:=decide_eq_true D;clear D;replace H:=gD H;obtain⟨aX,H⟩:=H;have H':=aM H;clear H;have aY:0≤(X:Int):=dA;have aZ:X<(l.length:Int):=dA;obtain⟨cL,bS,bw⟩:=at_int HR0.out X aY aZ;cases bS;replace bw:=pw_cell_below HB.out bw;replace aY:=eq_true aY;replace aZ:=eq_true aZ;go_wp2;go_roundg k1
     case measure=>exact oK
     case rel=>exact⟨(Go.bits .and .i64 (wrap64 ((wrap64 ((wrap64 (Y*131))+(wrap64 (rd l X))))+7)) 1073741823),(wrap64 (X+1)),rS,rS,H',⟨oK⟩,⟨cB⟩,⟨q2x0⟩⟩
    ·rw[if_neg D]at H;have aH:=decide_eq_false D;clear D;simp only[Option.some.injEq,Prod.mk.injEq]at H;obtain⟨rfl,rfl,rfl⟩:=H
     go_wp2_with (first|((with_reducible refine gN 31 ?_);refine boxZ 31 #[.slice c l.length i,.int .i64 0,.int .i64 Y] 101 ?_;intro aI hg bT hbox hb;replace HB:=sB hb;have bU:=aM hbox;have GW102:=aM ((by rw[hg];exact(below_size q2x0):w.heap.size≤aI));have GE102:=aM ((Nat.le_trans HW0.out (by rw[hg];exact(below_size q2x0):w.heap.size≤aI):b.heap.size≤aI));replace HBW:=aM (below_step HBW.out hb);clear hb hbox hg))
     go_ret
     exact⟨_,rfl,(show IsS101 b _ aI l 0 Y from ⟨_,_,kS bU _,GE102.out,HR0.out⟩),cB,q2x1⟩
   ·rw[if_neg z]at H;have aW:=decide_eq_false z;clear z;simp only[Option.some.injEq,Prod.mk.injEq]at H;obtain⟨rfl,rfl,rfl⟩:=H
    go_wp2_with (first|((with_reducible refine gN 31 ?_);refine boxZ 31 #[.slice c l.length i,.int .i64 0,.int .i64 Y] 101 ?_;intro aJ hg bx hbox hb;replace HB:=sB hb;have bV:=aM hbox;have GW103:=aM ((by rw[hg];exact(below_size q2x0):w.heap.size≤aJ));have GE103:=aM ((Nat.le_trans HW0.out (by rw[hg];exact(below_size q2x0):w.heap.size≤aJ):b.heap.size≤aJ));replace HBW:=aM (below_step HBW.out hb);clear hb hbox hg))
    go_ret
    exact⟨_,rfl,(show IsS101 b _ aJ l 0 Y from ⟨_,_,kS bV _,GE103.out,HR0.out⟩),cB,q2x1⟩
def spec_l01Byte.f (s0_0:List Int) (s0_1:Int) (s0_2:Int):Option (Int×Int×Int):=if s0_1<(s0_0.length:Int)then(if 0≤s0_1 then(some (Go.bits .and .i64 (wrap64 ((Go.bits .and .i64 (Go.bits .xor .i64 ((wrap64 ((wrap64 (s0_2*6364136223846793005))+1442695040888963407)) / 8589934592) ((wrap64 ((wrap64 (s0_2*6364136223846793005))+1442695040888963407)) / 35184372088832)) 255)+(wrap64 (rd s0_0 s0_1)))) 255,wrap64 (s0_1+1),wrap64 ((wrap64 (s0_2*6364136223846793005))+1442695040888963407)))else(none))else(some (Go.bits .and .i64 (Go.bits .xor .i64 ((wrap64 ((wrap64 (s0_2*6364136223846793005))+1442695040888963407)) / 8589934592) ((wrap64 ((wrap64 (s0_2*6364136223846793005))+1442695040888963407)) / 35184372088832)) 255,s0_1,wrap64 ((wrap64 (s0_2*6364136223846793005))+1442695040888963407)))
theorem q2x2 {P:Prop} (h:P:=by repeat(first|(with_reducible first|exact HI0.out|apply IsS101.alloc|apply IsS101.drewN|apply IsS101.drew|apply IsS101.set_1|apply IsS101.set_2)|exact HI0.out)):P:=h
theorem q2x3 {P:Prop} (h:P:=by repeat(first|(with_reducible first|exact HB.out|apply below_alloc|apply pw_below_drewN|apply below_drew1|refine below_set ?_ (IsS101.ge HI0.out))|exact HB.out)):P:=h
set_option maxHeartbeats 8000000 in
set_option maxRecDepth 100000 in
theorem spec_l01Byte.calls (g:Nat) (s0_0:List Int) (s0_1:Int) (s0_2:Int) (r1:Int) (r2:Int) (r3:Int) (b w:World) (hI:IsS101 b w g s0_0 s0_1 s0_2) (hB:Below b.heap.size b w) (h:spec_l01Byte.f s0_0 s0_1 s0_2=some (r1,r2,r3)) :
 Calls Tryz.prog 92 #[.pointer (some ⟨g,0,none⟩)] w fun e w'=>e= .returned (.int .i64 r1)∧IsS101 b w' g s0_0 r2 r3∧Below b.heap.size b w'∧KeepBut w w' g none:=by
 have HI0:=aM hI;have HK:=aM (KeepBut.refl w g none);have HL:=aM hB.size;clear hI;have HW0:=aM hB.size;have HB:=aM hB;clear hB;have H:(if s0_1<(s0_0.length:Int)then(if 0≤s0_1 then(some (Go.bits .and .i64 (wrap64 ((Go.bits .and .i64 (Go.bits .xor .i64 ((wrap64 ((wrap64 (s0_2*6364136223846793005))+1442695040888963407)) / 8589934592) ((wrap64 ((wrap64 (s0_2*6364136223846793005))+1442695040888963407)) / 35184372088832)) 255)+(wrap64 (rd s0_0 s0_1)))) 255,wrap64 (s0_1+1),wrap64 ((wrap64 (s0_2*6364136223846793005))+1442695040888963407)))else(none))else(some (Go.bits .and .i64 (Go.bits .xor .i64 ((wrap64 ((wrap64 (s0_2*6364136223846793005))+1442695040888963407)) / 8589934592) ((wrap64 ((wrap64 (s0_2*6364136223846793005))+1442695040888963407)) / 35184372088832)) 255,s0_1,wrap64 ((wrap64 (s0_2*6364136223846793005))+1442695040888963407))))=some (r1,r2,r3):=h;clear h;by_cases z:s0_1<(s0_0.length:Int)
 ·rw[if_pos z]at H;have aW:=decide_eq_true z;clear z;replace H:=gD H;obtain⟨aH,H⟩:=H;simp only[Option.some.injEq,Prod.mk.injEq]at H;obtain⟨rfl,rfl,rfl⟩:=H;obtain⟨ASz4_0,cSz4_0,HGz4,hgz4,HSz4_0⟩:=HI0.out;have cM:=cellS101_0 HGz4;have cN:=cellS101_1 HGz4;have cO:=cellS101_2 HGz4;have cP:=blk_frozen HGz4 1;have cQ:=blk_frozen HGz4 2;clear HGz4 hgz4;have a0:0≤(s0_1:Int):=dA;have a1:s0_1<(s0_0.length:Int):=dA;obtain⟨bW,bX,am⟩:=at_int HSz4_0 s0_1 a0 a1;cases bX
  have aK:bW.block≠g:=Nat.ne_of_lt (Nat.lt_of_lt_of_le (by have:=World.block_lt_of_cell? _ _ am;first|rwa [add_block]at this|exact this) (IsS101.ge HI0.out))
  replace am:=pw_cell_below HB.out am
  replace am:=(cell_far (p:=⟨g,2,none⟩) (by first|(rw[add_block];exact aK)|(show(Addr.add _ _).block≠_;rw[add_block];exact aK)|exact aK) (.int .i64 (wrap64 ((wrap64 (s0_2*6364136223846793005))+1442695040888963407)))).trans am
  (try have hy104_0:=fun (n_:Nat)=>(show(((w.drewN n_).setCell ⟨g,2,none⟩ (.int .i64 (wrap64 ((wrap64 (s0_2*6364136223846793005))+1442695040888963407))))).cell? _=some _ from am))
  clear aK;replace a0:=eq_true a0;replace a1:=eq_true a1;go_enter Tryz.func92,Tryz.ntmps92;go_wp2
  repeat(go_quiet (fail);try go_wp2)
  go_ret;exact⟨rE,q2x2,q2x3,cK⟩
 ·rw[if_neg z]at H;have aW:=decide_eq_false z;clear z;simp only[Option.some.injEq,Prod.mk.injEq]at H;obtain⟨rfl,rfl,rfl⟩:=H;obtain⟨ASz5_0,cSz5_0,HGz5,hgz5,HSz5_0⟩:=HI0.out;have cR:=cellS101_0 HGz5;have cS:=cellS101_1 HGz5;have cT:=cellS101_2 HGz5;have cU:=blk_frozen HGz5 1;have cV:=blk_frozen HGz5 2;clear HGz5 hgz5;go_enter Tryz.func92,Tryz.ntmps92;go_wp2
  repeat(go_quiet (fail);try go_wp2)
  go_ret;exact⟨rE,q2x2,q2x3,cK⟩
def spec_l01Below.f (s0_0:List Int) (s0_1:Int) (s0_2:Int) (y:Int):Option (Int×Int×Int):=if y≤0 then(some (0,s0_1,s0_2))else(if y≤256 then((spec_l01Byte.f s0_0 s0_1 s0_2).bind fun a2=>(if y=0 then(none)else(some (Int.tmod a2.1 y,a2.2.1,a2.2.2))))else((spec_l01Byte.f s0_0 s0_1 s0_2).bind fun a3=>((spec_l01Byte.f s0_0 a3.2.1 a3.2.2).bind fun a4=>((spec_l01Byte.f s0_0 a4.2.1 a4.2.2).bind fun a5=>((spec_l01Byte.f s0_0 a5.2.1 a5.2.2).bind fun a6=>(if y=0 then(none)else(some (Int.tmod (wrap64 ((wrap64 ((wrap64 ((wrap64 (a3.1*16777216))+(wrap64 (a4.1*65536))))+(wrap64 (a5.1*256))))+a6.1)) y,a6.2.1,a6.2.2))))))))
set_option maxHeartbeats 8000000 in
set_option maxRecDepth 100000 in
theorem spec_l01Below.calls (g:Nat) (s0_0:List Int) (s0_1:Int) (s0_2:Int) (y:Int) (r1:Int) (r2:Int) (r3:Int) (b w:World) (hI:IsS101 b w g s0_0 s0_1 s0_2) (hB:Below b.heap.size b w) (h:spec_l01Below.f s0_0 s0_1 s0_2 y=some (r1,r2,r3)) :
 Calls Tryz.prog 51 #[.pointer (some ⟨g,0,none⟩),.int .i64 y] w fun e w'=>e= .returned (.int .i64 r1)∧IsS101 b w' g s0_0 r2 r3∧Below b.heap.size b w'∧KeepBut w w' g none:=by
 have HI0:=aM hI;have HK:=aM (KeepBut.refl w g none);have HL:=aM hB.size;clear hI;have HW0:=aM hB.size;have HB:=aM hB;clear hB
 unfold spec_l01Below.f at h;have H:=h
 clear h;by_cases D:y≤0
 ·rw[if_pos D]at H;have aH:=decide_eq_true D;clear D;simp only[Option.some.injEq,Prod.mk.injEq]at H;obtain⟨rfl,rfl,rfl⟩:=H;go_enter Tryz.func51,Tryz.ntmps51;go_wp2;go_ret;exact⟨rE,q2x2,q2x3,cK⟩
 ·rw[if_neg D]at H;have aH:=decide_eq_false D;clear D;by_cases J:y≤256
  ·rw[if_pos J]at H;have aX:=decide_eq_true J;clear J;replace H:=bE H;obtain⟨⟨bY,bZ,b0⟩,an,H⟩:=H;(try dsimp only at H);by_cases aa:y=0
   ·rw[if_pos aa]at H;cases H
   ·rw[if_neg aa]at H;obtain⟨cW,cX⟩:=eF aa;simp only[Option.some.injEq,Prod.mk.injEq]at H;obtain⟨rfl,rfl,rfl⟩:=H;go_enter Tryz.func51,Tryz.ntmps51
    go_wp2_with (first|((with_reducible refine gF 92 ?_);refine gX (some 14) Tryz.func92 (spec_l01Byte.calls g s0_0 s0_1 s0_2 bY bZ b0 b _ q2x2 q2x3 an.out) ?_;rintro b1 ⟨hi,hb,hk⟩;replace HK:=tK (w:=w) hk;replace HB:=aM hb;replace HI0:=aM hi;(try clear hb);(try clear hk);(try clear hi)))
    go_ret;exact⟨rE,q2x2,q2x3,cK⟩
  ·rw[if_neg J]at H;have aX:=decide_eq_false J;clear J;replace H:=bE H;obtain⟨⟨b5,bz,bA⟩,b8,H⟩:=H;(try dsimp only at H);replace H:=bE H;obtain⟨⟨b9,bB,bC⟩,ca,H⟩:=H;(try dsimp only at H);replace H:=bE H;obtain⟨⟨cb,bD,bF⟩,cc,H⟩:=H;(try dsimp only at H);replace H:=bE H;obtain⟨⟨cd,ce,cf⟩,cg,H⟩:=H;(try dsimp only at H);by_cases a7:y=0
   ·rw[if_pos a7]at H;cases H
   ·rw[if_neg a7]at H;obtain⟨cY,cZ⟩:=eF a7;simp only[Option.some.injEq,Prod.mk.injEq]at H;obtain⟨rfl,rfl,rfl⟩:=H;go_enter Tryz.func51,Tryz.ntmps51
    go_wp2_with (first|((with_reducible refine gF 92 ?_);refine gX (some 18) Tryz.func92 (spec_l01Byte.calls g s0_0 s0_1 s0_2 b5 bz bA b _ q2x2 q2x3 b8.out) ?_;rintro ch ⟨hi,hb,hk⟩;replace HK:=tK (w:=w) hk;replace HB:=aM hb;replace HI0:=aM hi;(try clear hb);(try clear hk);(try clear hi))|((with_reducible refine gF 92 ?_);refine gX (some 20) Tryz.func92 (spec_l01Byte.calls g s0_0 bz bA b9 bB bC b _ q2x2 q2x3 ca.out) ?_;rintro c0 ⟨hi,hb,hk⟩;replace HK:=tK (w:=w) hk;replace HB:=aM hb;replace HI0:=aM hi;(try clear hb);(try clear hk);(try clear hi))|((with_reducible refine gF 92 ?_);refine gX (some 22) Tryz.func92 (spec_l01Byte.calls g s0_0 bB bC cb bD bF b _ q2x2 q2x3 cc.out) ?_;rintro c1 ⟨hi,hb,hk⟩;replace HK:=tK (w:=w) hk;replace HB:=aM hb;replace HI0:=aM hi;(try clear hb);(try clear hk);(try clear hi))|((with_reducible refine gF 92 ?_);refine gX (some 24) Tryz.func92 (spec_l01Byte.calls g s0_0 bD bF cd ce cf b _ q2x2 q2x3 cg.out) ?_;rintro ci ⟨hi,hb,hk⟩;replace HK:=tK (w:=w) hk;replace HB:=aM hb;replace HI0:=aM hi;(try clear hb);(try clear hk);(try clear hi)))
    go_ret;exact⟨rE,q2x2,q2x3,cK⟩
def spec_l01PickInt.f (s0_0:List Int) (s0_1:Int) (s0_2:Int) (G:List Int):Option (Int×Int×Int):=(spec_l01Below.f s0_0 s0_1 s0_2 (G.length:Int)).bind fun aD=>(if 0≤aD.1 then(if aD.1<(G.length:Int)then(some (rd G aD.1,aD.2.1,aD.2.2))else(none))else(none))
set_option maxHeartbeats 8000000 in
set_option maxRecDepth 100000 in
theorem spec_l01PickInt.calls (g:Nat) (s0_0:List Int) (s0_1:Int) (s0_2:Int) (a8:Option Addr) (bG:Nat) (G:List Int) (r1:Int) (r2:Int) (r3:Int) (b w:World) (hI:IsS101 b w g s0_0 s0_1 s0_2) (hB:Below b.heap.size b w) (bH:Kd.C (Kd.int .i64) w a8 G.length G) (bI:G.length≤bG) (hf1: ∀ ad,a8=some ad→0<G.length→ad.block≠g) (h:spec_l01PickInt.f s0_0 s0_1 s0_2 G=some (r1,r2,r3)) :
 Calls Tryz.prog 71 #[.pointer (some ⟨g,0,none⟩),.slice a8 G.length bG] w fun e w'=>e= .returned (.int .i64 r1)∧IsS101 b w' g s0_0 r2 r3∧Below b.heap.size b w'∧KeepBut w w' g none:=by
 have HR1:=aM bH;have HC1:=aM bI;clear bH bI;have HI0:=aM hI;have HK:=aM (KeepBut.refl w g none);have HL:=aM hB.size;clear hI;have HW0:=aM hB.size;have HB:=aM hB;clear hB
 unfold spec_l01PickInt.f at h;have H:=h
 clear h;replace H:=bE H;obtain⟨⟨aL,cj,ck⟩,L,H⟩:=H;(try dsimp only at H);replace H:=gD H;obtain⟨aX,H⟩:=H;replace H:=gD H;obtain⟨c2,H⟩:=H;simp only[Option.some.injEq,Prod.mk.injEq]at H;obtain⟨rfl,rfl,rfl⟩:=H;go_enter Tryz.func71,Tryz.ntmps71
 go_wp2_with (first|((with_reducible refine gF 51 ?_);refine gX (some 9) Tryz.func51 (spec_l01Below.calls g s0_0 s0_1 s0_2 (G.length:Int) aL cj ck b _ q2x2 q2x3 L.out) ?_;rintro bx ⟨hi,hb,hk⟩;replace HK:=tK (w:=w) hk;replace HB:=aM hb;replace HI0:=aM hi;(try clear hb);(try clear hk);(try clear hi);have a9:0≤(aL:Int):=dA;have ba:aL<(G.length:Int):=dA;obtain⟨cl,cm,bJ⟩:=at_int HR1.out aL a9 ba;cases cm;replace bJ:=keep_cell HK.out bJ (by first|(rw[add_block];exact hf1 _ rfl (by omega))|exact hf1 _ rfl (by omega)|exact hf1 cl rfl (by omega));replace a9:=eq_true a9;replace ba:=eq_true ba))
 go_ret;exact⟨rE,q2x2,q2x3,cK⟩
def spec_l01Once.f (s0_0:List Int) (s0_1:Int) (s0_2:Int) (y:Int):Option (Bool×Int×Int):=(spec_l01Below.f s0_0 s0_1 s0_2 y).bind fun bb=>(some ((bb.1 == 0),bb.2.1,bb.2.2))
set_option maxHeartbeats 8000000 in
set_option maxRecDepth 100000 in
theorem spec_l01Once.calls (g:Nat) (s0_0:List Int) (s0_1:Int) (s0_2:Int) (y:Int) (r1:Bool) (r2:Int) (r3:Int) (b w:World) (hI:IsS101 b w g s0_0 s0_1 s0_2) (hB:Below b.heap.size b w) (h:spec_l01Once.f s0_0 s0_1 s0_2 y=some (r1,r2,r3)) :
 Calls Tryz.prog 52 #[.pointer (some ⟨g,0,none⟩),.int .i64 y] w fun e w'=>e= .returned (.bool r1)∧IsS101 b w' g s0_0 r2 r3∧Below b.heap.size b w'∧KeepBut w w' g none:=by
 have HI0:=aM hI;have HK:=aM (KeepBut.refl w g none);have HL:=aM hB.size;clear hI;have HW0:=aM hB.size;have HB:=aM hB;clear hB
 unfold spec_l01Once.f at h;have H:=h
 clear h;replace H:=bE H;obtain⟨⟨cn,co,cp⟩,L,H⟩:=H;(try dsimp only at H);simp only[Option.some.injEq,Prod.mk.injEq]at H;obtain⟨rfl,rfl,rfl⟩:=H;go_enter Tryz.func52,Tryz.ntmps52
 go_wp2_with (first|((with_reducible refine gF 51 ?_);refine gX (some 7) Tryz.func51 (spec_l01Below.calls g s0_0 s0_1 s0_2 y cn co cp b _ q2x2 q2x3 L.out) ?_;rintro cq ⟨hi,hb,hk⟩;replace HK:=tK (w:=w) hk;replace HB:=aM hb;replace HI0:=aM hi;(try clear hb);(try clear hk);(try clear hi)))
 go_ret;exact⟨rE,q2x2,q2x3,cK⟩
def spec_l04Half.f (s0_0:List Int) (s0_1:Int) (s0_2:Int):Option (Int×Int×Int):=(spec_l01Below.f s0_0 s0_1 s0_2 12).bind fun bd=>((spec_l01PickInt.f s0_0 bd.2.1 bd.2.2 (([0,1,2,3,5,7,255,4294967295,2147483648,bd.1] :List Int))).bind fun be=>(some (be.1,be.2.1,be.2.2)))
set_option maxHeartbeats 8000000 in
set_option maxRecDepth 100000 in
theorem spec_l04Half.calls (g:Nat) (s0_0:List Int) (s0_1:Int) (s0_2:Int) (r1:Int) (r2:Int) (r3:Int) (b w:World) (hI:IsS101 b w g s0_0 s0_1 s0_2) (hB:Below b.heap.size b w) (h:spec_l04Half.f s0_0 s0_1 s0_2=some (r1,r2,r3)) :
 Calls Tryz.prog 106 #[.pointer (some ⟨g,0,none⟩)] w fun e w'=>e= .returned (.int .i64 r1)∧IsS101 b w' g s0_0 r2 r3∧Below b.heap.size b w'∧KeepBut w w' g none:=by
 have HI0:=aM hI;have HK:=aM (KeepBut.refl w g none);have HL:=aM hB.size;clear hI;have HW0:=aM hB.size;have HB:=aM hB;clear hB
 unfold spec_l04Half.f at h;have H:=h
 clear h;replace H:=bE H;obtain⟨⟨ao,bf,bg⟩,ah,H⟩:=H;(try dsimp only at H);obtain⟨cr,bh⟩ : ∃ y_:List Int,Aside0 (y_=(([0,1,2,3,5,7,255,4294967295,2147483648,ao] :List Int))):=⟨_,⟨rfl⟩⟩;rw[← bh.out]at H;replace H:=bE H;obtain⟨⟨ct,cu,cv⟩,L,H⟩:=H;(try dsimp only at H);simp only[Option.some.injEq,Prod.mk.injEq]at H;obtain⟨rfl,rfl,rfl⟩:=H;go_enter Tryz.func106,Tryz.ntmps106
 go_wp2_with (first|((with_reducible refine gF 51 ?_);refine gX (some 5) Tryz.func51 (spec_l01Below.calls g s0_0 s0_1 s0_2 12 ao bf bg b _ q2x2 q2x3 ah.out) ?_;rintro cq ⟨hi,hb,hk⟩;replace HK:=tK (w:=w) hk;replace HB:=aM hb;replace HI0:=aM hi;(try clear hb);(try clear hk);(try clear hi))|((with_reducible refine gN 6 ?_);refine R_lit (Kd.int .i64) _ 3 ?hg (N:=6) ?hd (xs:=([0,1,2,3,5,7,255,4294967295,2147483648,ao] :List Int)) (inner:=[.int .i64 0,.int .i64 1,.int .i64 2,.int .i64 3,.int .i64 5,.int .i64 7,.int .i64 255,.int .i64 4294967295,.int .i64 2147483648,.int .i64 ao]) (ok:=fun _=>True) (okp:=fun _=>True) ?hr ?hp (fun _ hk=>hk) trivial (Below.refl _ _) (Nat.le_refl _) (by simp) ?_;(case hd=>rfl);(case hg=>rfl);(case hr=>exact rG);(case hp=>exact(Reps.one (show Kd.M (Kd.int .i64) _ _ _ 0 [.int .i64 0]from rfl) (Reps.one (show Kd.M (Kd.int .i64) _ _ _ 1 [.int .i64 1]from rfl) (Reps.one (show Kd.M (Kd.int .i64) _ _ _ 2 [.int .i64 2]from rfl) (Reps.one (show Kd.M (Kd.int .i64) _ _ _ 3 [.int .i64 3]from rfl) (Reps.one (show Kd.M (Kd.int .i64) _ _ _ 5 [.int .i64 5]from rfl) (Reps.one (show Kd.M (Kd.int .i64) _ _ _ 7 [.int .i64 7]from rfl) (Reps.one (show Kd.M (Kd.int .i64) _ _ _ 255 [.int .i64 255]from rfl) (Reps.one (show Kd.M (Kd.int .i64) _ _ _ 4294967295 [.int .i64 4294967295]from rfl) (Reps.one (show Kd.M (Kd.int .i64) _ _ _ 2147483648 [.int .i64 2147483648]from rfl) (Reps.one (show Kd.M (Kd.int .i64) _ _ _ ao [.int .i64 ao]from rfl) (Reps.none _ _))))))))))));intro c3 bT aE hb hg_ hnew_;clear hg_ hnew_;(first|rw[← bh.out]at aE|(simp only[Int.reduceToNat]at aE;rw[← bh.out]at aE));have ap:=aM (R_lower aE (keep_size (w:=w) (g:=g) (row:=none) cK));replace HK:=aM (KeepBut.trans (cK:KeepBut w _ g none) (KeepBut.of_below hb g none) (.inl rfl));replace HB:=aM (below_step q2x3 hb);replace HI0:=aM (IsS101.below q2x2 hb);clear hb aE;obtain⟨c4,c6,cw⟩:=R_slice ap.out;subst cw)|((with_reducible refine gF 71 ?_);refine gX (some 7) Tryz.func71 (spec_l01PickInt.calls g s0_0 bf bg _ _ cr ct cu cv b _ q2x2 q2x3 (rX ap) ((rY ap)) (far_slice (IsS101.own_ne HI0.out ap.out (by decide))) L.out) ?_;rintro bL ⟨hi,hb,hk⟩;replace ap:=aM (R_mono (R_keep (IsS101.apart (show IsS101 b _ g s0_0 bf bg from q2x2) (mR ap) (by decide)) hk (fun _ h=>h.2)) (fun _ h=>h.1));replace HK:=tK (w:=w) hk;replace HB:=aM hb;replace HI0:=aM hi;(try clear hb);(try clear hk);(try clear hi)))
 go_ret;exact⟨rE,q2x2,q2x3,cK⟩
def spec_l04Wide.f (s0_0:List Int) (s0_1:Int) (s0_2:Int):Option (Int×Int×Int×Int):=(spec_l04Half.f s0_0 s0_1 s0_2).bind fun aN=>((spec_l01Once.f s0_0 aN.2.1 aN.2.2 3).bind fun aF=>(if aF.1=true then((spec_l04Half.f s0_0 aF.2.1 aF.2.2).bind fun bi=>(some (bi.1,aN.1,bi.2.1,bi.2.2)))else(some (0,aN.1,aF.2.1,aF.2.2))))
theorem q2x4 {P:Prop} (h:P:=by repeat(first|(with_reducible first|exact HI0.out|apply IsS101.alloc|apply IsS101.drewN|apply IsS101.drew|apply IsS101.set_1|apply IsS101.set_2|(apply IsS101.far;case hne=>exact(Aside0.out (by assumption))))|exact HI0.out)):P:=h
theorem q2x5 {P:Prop} (h:P:=by repeat(first|(with_reducible first|exact HB.out|apply below_alloc|apply pw_below_drewN|apply below_drew1|refine below_set ?_ (IsS101.ge HI0.out)|refine below_set ?_ (Aside0.out (by assumption)))|exact HB.out)):P:=h
set_option maxHeartbeats 8000000 in
set_option maxRecDepth 100000 in
theorem spec_l04Wide.calls (g:Nat) (s0_0:List Int) (s0_1:Int) (s0_2:Int) (r1:Int) (r2:Int) (r3:Int) (r4:Int) (b w:World) (hI:IsS101 b w g s0_0 s0_1 s0_2) (hB:Below b.heap.size b w) (h:spec_l04Wide.f s0_0 s0_1 s0_2=some (r1,r2,r3,r4)) :
 Calls Tryz.prog 73 #[.pointer (some ⟨g,0,none⟩)] w fun e w'=>e= .returned (.agg #[.int .i64 r1,.int .i64 r2])∧IsS101 b w' g s0_0 r3 r4∧Below b.heap.size b w'∧KeepBut w w' g none:=by
 have hu105:=Tryz.underlying105;have HI0:=aM hI;have HK:=aM (KeepBut.refl w g none);have HL:=aM hB.size;clear hI;have HW0:=aM hB.size;have HB:=aM hB;clear hB
 unfold spec_l04Wide.f at h;have H:=h
 clear h;replace H:=bE H;obtain⟨⟨aq,ab,ac⟩,ah,H⟩:=H;(try dsimp only at H);replace H:=bE H;obtain⟨⟨cx,bj,bk⟩,L,H⟩:=H;(try dsimp only at H);by_cases J:cx=true
 ·subst J;replace H:=iT H;replace H:=bE H;obtain⟨⟨bM,cy,cz⟩,an,H⟩:=H;(try dsimp only at H);simp only[Option.some.injEq,Prod.mk.injEq]at H;obtain⟨rfl,rfl,rfl,rfl⟩:=H;go_enter Tryz.func73,Tryz.ntmps73
  go_wp2_with (first|((with_reducible refine gN 2 ?_);refine boxZ 2 #[.int .i64 0,.int .i64 0] 105 ?_;intro ai hg bx hbox hb;replace HB:=aM (below_step q2x3 hb);have s:=aM hbox;have GW136:=gK (w:=w) hg;have GE136:=gW HW0 hg;replace HK:=aM (KeepBut.trans (cK:KeepBut w _ g none) (KeepBut.of_below hb g none) (.inl rfl));have bl:=aM ((by rw[hg];exact Nat.ne_of_lt (IsS101.lt (show IsS101 b _ g s0_0 s0_1 s0_2 from q2x2)):g≠ai));have ae:=aM ((by rw[hg];exact Nat.ne_of_gt (IsS101.lt (show IsS101 b _ g s0_0 s0_1 s0_2 from q2x2)):ai≠g));replace HI0:=aM (IsS101.below q2x2 hb);clear hb hbox hg)|((with_reducible refine gF 106 ?_);refine gX (some 5) Tryz.func106 (spec_l04Half.calls g s0_0 s0_1 s0_2 aq ab ac b _ q2x4 q2x5 ah.out) ?_;rintro b1 ⟨hi,hb,hk⟩;replace s:=bK hk s ae.out;replace HK:=tK (w:=w) hk;replace HB:=aM hb;replace HI0:=aM hi;(try clear hb);(try clear hk);(try clear hi))|((with_reducible refine gN 3 ?_);refine boxZ 3 #[.int .i64 0,.int .i64 0] 105 ?_;intro aj hg bL hbox hb;replace HB:=aM (below_step q2x5 hb);have O:=aM hbox;have GW140:=gK (w:=w) hg;have GE140:=gW HW0 hg;replace HK:=aM (KeepBut.trans (cK:KeepBut w _ g none) (KeepBut.of_below hb g none) (.inl rfl));have bm:=nL hg s;have bn:=nG hg s;replace s:=kB s hb;have bo:=aM ((by rw[hg];exact Nat.ne_of_lt (IsS101.lt (show IsS101 b _ g s0_0 ab ac from q2x4)):g≠aj));have ar:=aM ((by rw[hg];exact Nat.ne_of_gt (IsS101.lt (show IsS101 b _ g s0_0 ab ac from q2x4)):aj≠g));replace HI0:=aM (IsS101.below q2x4 hb);clear hb hbox hg;have hnb9:=bn.out;have hnc9:=bm.out;have hnb10:=ar.out;have hnc10:=bo.out;obtain⟨da,db,dc,dd⟩:=cz2 O)|((with_reducible refine gF 52 ?_);refine gX (some 8) Tryz.func52 (spec_l01Once.calls g s0_0 ab ac 3 true bj bk b _ q2x4 q2x5 L.out) ?_;rintro cA ⟨hi,hb,hk⟩;replace s:=bK hk s ae.out;replace O:=aM (KeepBut.blk hk (g':=aj) (o:= .cells #[.int .i64 0,.int .i64 aq] 105 (0,0)) (kS O _) ar.out (by simp));replace HK:=tK (w:=w) hk;replace HB:=aM hb;replace HI0:=aM hi;(try clear hb);(try clear hk);(try clear hi))|((with_reducible refine gF 106 ?_);refine gX (some 10) Tryz.func106 (spec_l04Half.calls g s0_0 bj bk bM cy cz b _ q2x4 q2x5 an.out) ?_;rintro ch ⟨hi,hb,hk⟩;replace s:=bK hk s ae.out;replace O:=bK hk O ar.out;replace HK:=tK (w:=w) hk;replace HB:=aM hb;replace HI0:=aM hi;(try clear hb);(try clear hk);(try clear hi);obtain⟨de,df,dg,dh⟩:=cz2 O;have hnb15:=ae.out;have hnc15:=bl.out;obtain⟨di,dj,dk,dl⟩:=cz2 s))
  refine bodyPost_ret (results_cell_row rfl _ _ ai 105 #[.int .i64 bM,.int .i64 aq] (0,0) _ rfl (kS s _) Tryz.underlying105 rfl (by kernel_rfl)) rfl ?_
  exact⟨rE,q2x4,q2x5,cK⟩
 ·replace J:=Bool.eq_false_iff.mpr J;subst J;replace H:=iF H;simp only[Option.some.injEq,Prod.mk.injEq]at H;obtain⟨rfl,rfl,rfl,rfl⟩:=H;go_enter Tryz.func73,Tryz.ntmps73
  go_wp2_with (first|((with_reducible refine gN 2 ?_);refine boxZ 2 #[.int .i64 0,.int .i64 0] 105 ?_;intro ai hg cD hbox hb;replace HB:=aM (below_step q2x3 hb);have s:=aM hbox;have GW136:=gK (w:=w) hg;have GE136:=gW HW0 hg;replace HK:=aM (KeepBut.trans (cK:KeepBut w _ g none) (KeepBut.of_below hb g none) (.inl rfl));have bl:=aM ((by rw[hg];exact Nat.ne_of_lt (IsS101.lt (show IsS101 b _ g s0_0 s0_1 s0_2 from q2x2)):g≠ai));have ae:=aM ((by rw[hg];exact Nat.ne_of_gt (IsS101.lt (show IsS101 b _ g s0_0 s0_1 s0_2 from q2x2)):ai≠g));replace HI0:=aM (IsS101.below q2x2 hb);clear hb hbox hg)|((with_reducible refine gF 106 ?_);refine gX (some 5) Tryz.func106 (spec_l04Half.calls g s0_0 s0_1 s0_2 aq ab ac b _ q2x4 q2x5 ah.out) ?_;rintro dm ⟨hi,hb,hk⟩;replace s:=bK hk s ae.out;replace HK:=tK (w:=w) hk;replace HB:=aM hb;replace HI0:=aM hi;(try clear hb);(try clear hk);(try clear hi))|((with_reducible refine gN 3 ?_);refine boxZ 3 #[.int .i64 0,.int .i64 0] 105 ?_;intro aj hg dn hbox hb;replace HB:=aM (below_step q2x5 hb);have O:=aM hbox;have GW140:=gK (w:=w) hg;have GE140:=gW HW0 hg;replace HK:=aM (KeepBut.trans (cK:KeepBut w _ g none) (KeepBut.of_below hb g none) (.inl rfl));have bm:=nL hg s;have bn:=nG hg s;replace s:=kB s hb;have bo:=aM ((by rw[hg];exact Nat.ne_of_lt (IsS101.lt (show IsS101 b _ g s0_0 ab ac from q2x4)):g≠aj));have ar:=aM ((by rw[hg];exact Nat.ne_of_gt (IsS101.lt (show IsS101 b _ g s0_0 ab ac from q2x4)):aj≠g));replace HI0:=aM (IsS101.below q2x4 hb);clear hb hbox hg;have hnb20:=bn.out;have hnc20:=bm.out;have hnb21:=ar.out;have hnc21:=bo.out;obtain⟨dp,dq,dr,ds⟩:=cz2 O)|((with_reducible refine gF 52 ?_);refine gX (some 8) Tryz.func52 (spec_l01Once.calls g s0_0 ab ac 3 false bj bk b _ q2x4 q2x5 L.out) ?_;rintro cE ⟨hi,hb,hk⟩;replace s:=bK hk s ae.out;replace O:=aM (KeepBut.blk hk (g':=aj) (o:= .cells #[.int .i64 0,.int .i64 aq] 105 (0,0)) (kS O _) ar.out (by simp));replace HK:=tK (w:=w) hk;replace HB:=aM hb;replace HI0:=aM hi;(try clear hb);(try clear hk);(try clear hi);obtain⟨dt,du,dv,dw⟩:=cz2 O;have hnb25:=ae.out;have hnc25:=bl.out;obtain⟨dx,dy,dz,dC⟩:=cz2 s))
  refine bodyPost_ret (results_cell_row rfl _ _ ai 105 #[.int .i64 0,.int .i64 aq] (0,0) _ rfl (kS s _) Tryz.underlying105 rfl (by kernel_rfl)) rfl ?_
  exact⟨rE,q2x4,q2x5,cK⟩
def spec_l09Cond.f (s0_0:List Int) (s0_1:Int) (s0_2:Int):Option (Int×Int×Int×Int×Int×Int×Int×Int):=(spec_l01Below.f s0_0 s0_1 s0_2 3).bind fun aO=>((spec_l01Below.f s0_0 aO.2.1 aO.2.2 6).bind fun aP=>((spec_l04Wide.f s0_0 aP.2.1 aP.2.2).bind fun au=>((spec_l01Once.f s0_0 au.2.2.1 au.2.2.2 3).bind fun aG=>(if aG.1=true then((spec_l04Wide.f s0_0 aG.2.1 aG.2.2).bind fun aQ=>(some (aO.1,aQ.1,aQ.2.1,wrap64 (1+aP.1),au.1,au.2.1,aQ.2.2.1,aQ.2.2.2)))else(some (aO.1,4294967295,4294967295,wrap64 (1+aP.1),au.1,au.2.1,aG.2.1,aG.2.2))))))
set_option maxHeartbeats 8000000 in
set_option maxRecDepth 100000 in
theorem spec_l09Cond.calls (g:Nat) (s0_0:List Int) (s0_1:Int) (s0_2:Int) (r1:Int) (r2:Int) (r3:Int) (r4:Int) (r5:Int) (r6:Int) (r7:Int) (r8:Int) (b w:World) (hI:IsS101 b w g s0_0 s0_1 s0_2) (hB:Below b.heap.size b w) (h:spec_l09Cond.f s0_0 s0_1 s0_2=some (r1,r2,r3,r4,r5,r6,r7,r8)) :
 Calls Tryz.prog 105 #[.pointer (some ⟨g,0,none⟩)] w fun e w'=>e= .returned (.agg #[.int .i64 r1,.int .i64 r2,.int .i64 r3,.int .i64 r4,.int .i64 r5,.int .i64 r6])∧IsS101 b w' g s0_0 r7 r8∧Below b.heap.size b w'∧KeepBut w w' g none:=by
 have hu118:=Tryz.underlying118;have hu105:=Tryz.underlying105;have HI0:=aM hI;have HK:=aM (KeepBut.refl w g none);have HL:=aM hB.size;clear hI;have HW0:=aM hB.size;have HB:=aM hB;clear hB
 unfold spec_l09Cond.f at h;have H:=h
 clear h;replace H:=bE H;obtain⟨⟨av,aR,aS⟩,ah,H⟩:=H;(try dsimp only at H);replace H:=bE H;obtain⟨⟨aw,aT,aU⟩,L,H⟩:=H;(try dsimp only at H);replace H:=bE H;obtain⟨⟨ax,ay,af,ag⟩,bN,H⟩:=H;(try dsimp only at H);replace H:=bE H;obtain⟨⟨cF,bp,bq⟩,an,H⟩:=H;(try dsimp only at H);by_cases aa:cF=true
 ·subst aa;replace H:=iT H;replace H:=bE H;obtain⟨⟨bO,bP,cG,cI⟩,cJ,H⟩:=H;(try dsimp only at H);simp only[Option.some.injEq,Prod.mk.injEq]at H;obtain⟨rfl,rfl,rfl,rfl,rfl,rfl,rfl,rfl⟩:=H;go_enter Tryz.func105,Tryz.ntmps105
  go_wp2_with (first|((with_reducible refine gN 2 ?_);refine boxZ 2 #[.int .i64 0,.int .i64 0,.int .i64 0,.int .i64 0,.int .i64 0,.int .i64 0] 118 ?_;intro ak hg bL hbox hb;replace HB:=aM (below_step q2x3 hb);have j:=aM hbox;have GW147:=gK (w:=w) hg;have GE147:=gW HW0 hg;replace HK:=aM (KeepBut.trans (cK:KeepBut w _ g none) (KeepBut.of_below hb g none) (.inl rfl));have br:=aM ((by rw[hg];exact Nat.ne_of_lt (IsS101.lt (show IsS101 b _ g s0_0 s0_1 s0_2 from q2x2)):g≠ak));have I:=aM ((by rw[hg];exact Nat.ne_of_gt (IsS101.lt (show IsS101 b _ g s0_0 s0_1 s0_2 from q2x2)):ak≠g));replace HI0:=aM (IsS101.below q2x2 hb);clear hb hbox hg)|((with_reducible refine gF 51 ?_);refine gX (some 5) Tryz.func51 (spec_l01Below.calls g s0_0 s0_1 s0_2 3 av aR aS b _ q2x4 q2x5 ah.out) ?_;rintro dD ⟨hi,hb,hk⟩;replace j:=bK hk j I.out;replace HK:=tK (w:=w) hk;replace HB:=aM hb;replace HI0:=aM hi;(try clear hb);(try clear hk);(try clear hi))|((with_reducible refine gF 51 ?_);refine gX (some 7) Tryz.func51 (spec_l01Below.calls g s0_0 aR aS 6 aw aT aU b _ q2x4 q2x5 L.out) ?_;rintro dE ⟨hi,hb,hk⟩;replace j:=bK hk j I.out;replace HK:=tK (w:=w) hk;replace HB:=aM hb;replace HI0:=aM hi;(try clear hb);(try clear hk);(try clear hi))|((with_reducible refine gF 73 ?_);refine gX (some 10) Tryz.func73 (spec_l04Wide.calls g s0_0 aT aU ax ay af ag b _ q2x4 q2x5 bN.out) ?_;rintro dF ⟨hi,hb,hk⟩;replace j:=bK hk j I.out;replace HK:=tK (w:=w) hk;replace HB:=aM hb;replace HI0:=aM hi;(try clear hb);(try clear hk);(try clear hi))|((with_reducible refine gN 3 ?_);refine boxZ 3 #[.int .i64 0,.int .i64 0,.int .i64 0,.int .i64 0,.int .i64 0,.int .i64 0] 118 ?_;intro al hg cA hbox hb;replace HB:=aM (below_step q2x5 hb);have U:=aM hbox;have GW158:=gK (w:=w) hg;have GE158:=gW HW0 hg;replace HK:=aM (KeepBut.trans (cK:KeepBut w _ g none) (KeepBut.of_below hb g none) (.inl rfl));have bs:=nL hg j;have bu:=nG hg j;replace j:=kB j hb;have bv:=aM ((by rw[hg];exact Nat.ne_of_lt (IsS101.lt (show IsS101 b _ g s0_0 af ag from q2x4)):g≠al));have az:=aM ((by rw[hg];exact Nat.ne_of_gt (IsS101.lt (show IsS101 b _ g s0_0 af ag from q2x4)):al≠g));replace HI0:=aM (IsS101.below q2x4 hb);clear hb hbox hg;have hnb13:=bu.out;have hnc13:=bs.out;have hnb14:=az.out;have hnc14:=bv.out;obtain⟨dG,dH,dI,dJ,dK,dL,dM,dN,dO,dP,dQ,dS⟩:=cz6 U)|((with_reducible refine gF 52 ?_);refine gX (some 14) Tryz.func52 (spec_l01Once.calls g s0_0 af ag 3 true bp bq b _ q2x4 q2x5 an.out) ?_;rintro ci ⟨hi,hb,hk⟩;replace j:=bK hk j I.out;replace U:=aM (KeepBut.blk hk (g':=al) (o:= .cells #[.int .i64 av,.int .i64 4294967295,.int .i64 4294967295,.int .i64 (wrap64 (1+aw)),.int .i64 ax,.int .i64 ay] 118 (0,0)) (kS U _) az.out (by simp));replace HK:=tK (w:=w) hk;replace HB:=aM hb;replace HI0:=aM hi;(try clear hb);(try clear hk);(try clear hi))|((with_reducible refine gF 73 ?_);refine gX (some 16) Tryz.func73 (spec_l04Wide.calls g s0_0 bp bq bO bP cG cI b _ q2x4 q2x5 cJ.out) ?_;rintro cD ⟨hi,hb,hk⟩;replace j:=bK hk j I.out;replace U:=bK hk U az.out;replace HK:=tK (w:=w) hk;replace HB:=aM hb;replace HI0:=aM hi;(try clear hb);(try clear hk);(try clear hi);obtain⟨dT,dU,dV,dX,dY,dZ,d0,d1,d2,d3,d4,d5⟩:=cz6 U;have hnb19:=I.out;have hnc19:=br.out;obtain⟨d6,d7,d8,d9,ea,eb,ec,ed,ee,ef,eg,eh⟩:=cz6 j))
  refine bodyPost_ret (results_cell_row rfl _ _ ak 118 #[.int .i64 av,.int .i64 bO,.int .i64 bP,.int .i64 (wrap64 (1+aw)),.int .i64 ax,.int .i64 ay] (0,0) _ rfl (kS j _) Tryz.underlying118 rfl (by kernel_rfl)) rfl ?_
  exact⟨rE,q2x4,q2x5,cK⟩
 ·replace aa:=Bool.eq_false_iff.mpr aa;subst aa;replace H:=iF H;simp only[Option.some.injEq,Prod.mk.injEq]at H;obtain⟨rfl,rfl,rfl,rfl,rfl,rfl,rfl,rfl⟩:=H;go_enter Tryz.func105,Tryz.ntmps105
  go_wp2_with (first|((with_reducible refine gN 2 ?_);refine boxZ 2 #[.int .i64 0,.int .i64 0,.int .i64 0,.int .i64 0,.int .i64 0,.int .i64 0] 118 ?_;intro ak hg ei hbox hb;replace HB:=aM (below_step q2x3 hb);have j:=aM hbox;have GW147:=gK (w:=w) hg;have GE147:=gW HW0 hg;replace HK:=aM (KeepBut.trans (cK:KeepBut w _ g none) (KeepBut.of_below hb g none) (.inl rfl));have br:=aM ((by rw[hg];exact Nat.ne_of_lt (IsS101.lt (show IsS101 b _ g s0_0 s0_1 s0_2 from q2x2)):g≠ak));have I:=aM ((by rw[hg];exact Nat.ne_of_gt (IsS101.lt (show IsS101 b _ g s0_0 s0_1 s0_2 from q2x2)):ak≠g));replace HI0:=aM (IsS101.below q2x2 hb);clear hb hbox hg)|((with_reducible refine gF 51 ?_);refine gX (some 5) Tryz.func51 (spec_l01Below.calls g s0_0 s0_1 s0_2 3 av aR aS b _ q2x4 q2x5 ah.out) ?_;rintro ej ⟨hi,hb,hk⟩;replace j:=bK hk j I.out;replace HK:=tK (w:=w) hk;replace HB:=aM hb;replace HI0:=aM hi;(try clear hb);(try clear hk);(try clear hi))|((with_reducible refine gF 51 ?_);refine gX (some 7) Tryz.func51 (spec_l01Below.calls g s0_0 aR aS 6 aw aT aU b _ q2x4 q2x5 L.out) ?_;rintro cE ⟨hi,hb,hk⟩;replace j:=bK hk j I.out;replace HK:=tK (w:=w) hk;replace HB:=aM hb;replace HI0:=aM hi;(try clear hb);(try clear hk);(try clear hi))|((with_reducible refine gF 73 ?_);refine gX (some 10) Tryz.func73 (spec_l04Wide.calls g s0_0 aT aU ax ay af ag b _ q2x4 q2x5 bN.out) ?_;rintro ek ⟨hi,hb,hk⟩;replace j:=bK hk j I.out;replace HK:=tK (w:=w) hk;replace HB:=aM hb;replace HI0:=aM hi;(try clear hb);(try clear hk);(try clear hi))|((with_reducible refine gN 3 ?_);refine boxZ 3 #[.int .i64 0,.int .i64 0,.int .i64 0,.int .i64 0,.int .i64 0,.int .i64 0] 118 ?_;intro al hg el hbox hb;replace HB:=aM (below_step q2x5 hb);have U:=aM hbox;have GW158:=gK (w:=w) hg;have GE158:=gW HW0 hg;replace HK:=aM (KeepBut.trans (cK:KeepBut w _ g none) (KeepBut.of_below hb g none) (.inl rfl));have bs:=nL hg j;have bu:=nG hg j;replace j:=kB j hb;have bv:=aM ((by rw[hg];exact Nat.ne_of_lt (IsS101.lt (show IsS101 b _ g s0_0 af ag from q2x4)):g≠al));have az:=aM ((by rw[hg];exact Nat.ne_of_gt (IsS101.lt (show IsS101 b _ g s0_0 af ag from q2x4)):al≠g));replace HI0:=aM (IsS101.below q2x4 hb);clear hb hbox hg;have hnb26:=bu.out;have hnc26:=bs.out;have hnb27:=az.out;have hnc27:=bv.out;obtain⟨em,en,eo,ep,eq,er,es,et,eu,ev,ew,ex⟩:=cz6 U)|((with_reducible refine gF 52 ?_);refine gX (some 14) Tryz.func52 (spec_l01Once.calls g s0_0 af ag 3 false bp bq b _ q2x4 q2x5 an.out) ?_;rintro ey ⟨hi,hb,hk⟩;replace j:=bK hk j I.out;replace U:=aM (KeepBut.blk hk (g':=al) (o:= .cells #[.int .i64 av,.int .i64 4294967295,.int .i64 4294967295,.int .i64 (wrap64 (1+aw)),.int .i64 ax,.int .i64 ay] 118 (0,0)) (kS U _) az.out (by simp));replace HK:=tK (w:=w) hk;replace HB:=aM hb;replace HI0:=aM hi;(try clear hb);(try clear hk);(try clear hi);obtain⟨ez,eA,eC,eD,eE,eG,eH,eI,eJ,eK,eL,eM⟩:=cz6 U;have hnb31:=I.out;have hnc31:=br.out;obtain⟨eN,eO,eP,eQ,eR,eS,eU,eW,eZ,e0,e1,e2⟩:=cz6 j))
  refine bodyPost_ret (results_cell_row rfl _ _ ak 118 #[.int .i64 av,.int .i64 4294967295,.int .i64 4294967295,.int .i64 (wrap64 (1+aw)),.int .i64 ax,.int .i64 ay] (0,0) _ rfl (kS j _) Tryz.underlying118 rfl (by kernel_rfl)) rfl ?_
  exact⟨rE,q2x4,q2x5,cK⟩
end Go.Proofs.YtpbalojiaghfhaaGreat.PFnCompiles
