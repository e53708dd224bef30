import Derived.Test.YtdipecpdjeehoaaGreatQk8
open Go.Proofs
set_option maxRecDepth 8000
namespace Go.Lk
open Asn renaming cells→Cl,row→Rw,kn→Kk,all→Al
theorem sz203:∀ (w:World),(sizeOf 203).run Tryz.prog w = .ok 5 w:=fun _=>by kernel_rfl
theorem fa203_0:∀ (b k:Nat) (w:World),(Instr.fieldAt 203 (vptr b k) 0).run Tryz.prog w = .ok (vptr b (k)) w:=fun _ _ _=>by kernel_rfl
theorem fa203_1:∀ (b k:Nat) (w:World),(Instr.fieldAt 203 (vptr b k) 1).run Tryz.prog w = .ok (vptr b (k+1)) w:=fun _ _ _=>by kernel_rfl
theorem fa203_2:∀ (b k:Nat) (w:World),(Instr.fieldAt 203 (vptr b k) 2).run Tryz.prog w = .ok (vptr b (k+2)) w:=fun _ _ _=>by kernel_rfl
theorem fa203_3:∀ (b k:Nat) (w:World),(Instr.fieldAt 203 (vptr b k) 3).run Tryz.prog w = .ok (vptr b (k+3)) w:=fun _ _ _=>by kernel_rfl
theorem fa203_4:∀ (b k:Nat) (w:World),(Instr.fieldAt 203 (vptr b k) 4).run Tryz.prog w = .ok (vptr b (k+4)) w:=fun _ _ _=>by kernel_rfl
theorem ld203:∀ (a:Addr) (w:World),(loadVar 203 a).run Tryz.prog w=((loadCells a 5).bind fun c=>.pure (Value.agg c)).run Tryz.prog w:=fun _ _=>by kernel_rfl
theorem zv203:∀ (w:World),(zeroValue 203).run Tryz.prog w = .ok (.agg #[.int .i64 0,.int .i64 0,.int .i64 0,.int .i64 0,.slice none 0 0]) w:=fun _=>by kernel_rfl
theorem or_xor_zero {y a b:UInt8}:(y ||| (a ^^^ b))=0 ↔ y=0∧a=b:=by
  constructor
  · intro h
    have h1:y=0:=by
      apply UInt8.eq_of_toBitVec_eq
      have:=congrArg UInt8.toBitVec h
      simp only [UInt8.toBitVec_or,UInt8.toBitVec_xor] at this
      apply BitVec.eq_of_getLsbD_eq
      intro i hi
      have h2:=congrArg (fun v:BitVec 8=>v.getLsbD i) this
      simp at h2
      simpa using h2.1
    subst h1
    refine ⟨rfl,?_⟩
    have h3:a ^^^ b=0:=by simpa using h
    exact UInt8.xor_eq_zero_iff.1 h3
  · rintro ⟨rfl,rfl⟩; simp
theorem take_iff_succ {xs ys:Bytes} {k:Nat} {y:UInt8} (hx:k < xs.length) (hy:k < ys.length) (h:y=0 ↔ xs.take k=ys.take k):(y ||| (xs.getD k 0 ^^^ ys.getD k 0))=0 ↔ xs.take (k+1)=ys.take (k+1):=by
  rw [or_xor_zero,h,List.take_succ_eq_append_getElem hx,List.take_succ_eq_append_getElem hy]
  simp only [List.getD_eq_getElem?_getD,List.getElem?_eq_getElem hx,List.getElem?_eq_getElem hy,Option.getD_some]
  constructor
  · rintro ⟨h1,h2⟩; rw [h1,h2]
  · intro h1
    have:=List.append_inj h1 (by simp; omega)
    exact ⟨this.1,by simpa using this.2⟩
theorem macEqual_fn (a:Value) (b:Value) (xs:Bytes) (ys:Bytes):Fn Tryz.prog 270 #[a,b] [KB a xs,KB b ys] (fun v M=>.bool (decide (xs=ys))=v∧M=[]):=by
 refine Fi 31 Tryz.func270 fun g R=>?_
 refine Ww [(0,a),(1,b)] [KB a xs,KB b ys,Al R] ?_
 refine Sn (Qa (k:=Nl [(0,a),(1,b),(4,.bool false)] ?_))
 refine W.seq (Sn (Qm (k:=?_)))
 refine Nk 0 fun hl1=>?_
 refine Qu (OpQ.lenSl (i:=0) rfl rfl rfl (len22 _)) (k:=Qm (k:=?_))
 refine Nk 1 fun hl2=>?_
 refine Qu (OpQ.lenSl (i:=1) rfl rfl rfl (len22 _)) (k:=Qu (OpQ.neq rfl rfl rfl) (k:=Nl [(0,a),(1,b),(4,.bool false),(11,.bool (decide ((xs.length:Int)≠(ys.length:Int))))] ?_))
 refine Cp rfl (fun h3=>?_) (fun h3=>?_)
 ·refine Sn (Qa (k:=Nl [(0,a),(1,b),(4,.bool false)] ?_))
  refine W.ret (thn_r (ret1 (M:=[]) rfl rfl (⟨(congrArg Value.bool (decide_eq_false (by intro h; subst h; exact h3 rfl))),rfl⟩) (es [2] rfl)))
 refine W.skip (thn_n (Wl [(0,a),(1,b),(4,.bool false)] ?_))
 refine Sn (Qa (k:=Nl [(0,a),(1,b),(4,.bool false),(5,.int .u8 0)] ?_))
 refine W.seq (Sn (Qm (k:=?_)))
 refine Qu (OpQ.lenSl (i:=0) rfl rfl rfl (len22 _)) (k:=Qm (k:=Nl [(0,a),(1,b),(4,.bool false),(5,.int .u8 0),(13,vint (xs.length:Int)),(14,vint 0)] ?_))
 refine W.block (W.loop (X:=Nat × UInt8) (fun x=>match x with | (k,y)=>[(0,a),(1,b),(5,.int .u8 y.toNat),(13,vint (xs.length:Int)),(14,vint (k:Int))]) (fun x=>match x with | (k,y)=>[Asn.pure (k≤xs.length∧(y=0 ↔ xs.take k=ys.take k)),KB a xs,KB b ys,Al R]) (fun x=>match x with | (k,y)=>xs.length - k) (0,0) ⟨rfl,rfl,rfl,rfl,rfl,trivial⟩ ((es [0,0,0] rfl).trans (Ent.pure_in (by exact ⟨Nat.zero_le _,by simp⟩))) (fun x=>?_))
 obtain ⟨k,y⟩:=x
 show W _ _ _ _ _ [(0,a),(1,b),(5,.int .u8 y.toNat),(13,vint (xs.length:Int)),(14,vint (k:Int))] [Asn.pure (k≤xs.length∧(y=0 ↔ xs.take k=ys.take k)),KB a xs,KB b ys,Al R]
 refine W.opens Opens.pure (i:=0) rfl (fun _ hI4=>?_)
 replace hI4:=hI4
 show W _ _ _ _ _ [(0,a),(1,b),(5,.int .u8 y.toNat),(13,vint (xs.length:Int)),(14,vint (k:Int))] [KB a xs,KB b ys,Al R]
 refine Sn (Qu (OpQ.lss rfl rfl rfl) (k:=Nl [(0,a),(1,b),(5,.int .u8 y.toNat),(13,vint (xs.length:Int)),(14,vint (k:Int)),(15,.bool (decide ((k:Int) < (xs.length:Int))))] ?_))
 refine W.seq (Cp rfl (fun h5=>?_) (fun h5=>?_))
 ·refine W.skip (thn_n (Wl [(0,a),(1,b),(5,.int .u8 y.toNat),(13,vint (xs.length:Int)),(14,vint (k:Int))] ?_))
  refine W.seq (W.block (Sn (Qm (k:=?_))))
  refine Qa (k:=Nl [(0,a),(1,b),(5,.int .u8 y.toNat),(6,vint (k:Int)),(13,vint (xs.length:Int)),(14,vint (k:Int))] ?_)
  refine W.drawG mixed ?_
  refine Gq 0 [] rfl (OpQ.move rfl rfl) ?_
  refine Gq 1 [] rfl (OpQ.move rfl rfl) ?_
  refine Gq 2 [] rfl (OpQ.move rfl rfl) ?_
  refine WG.hold (KB a xs,[]) ?_
  refine Gq 3 [0] rfl (OpQ.indexSl (i:=0) (j:=k) rfl rfl rfl rfl (by omega) (by omega) (by simp only [Enc.u8]; omega) ix22) ?_
  refine Gq 4 [0] rfl (OpQ.loadU8 (i:=0) rfl rfl rfl (by omega) ld5) ?_
  refine Gq 5 [0] rfl (OpQ.move rfl rfl) ?_
  refine Gq 6 [0] rfl (OpQ.move rfl rfl) ?_
  refine WG.hold (KB b ys,[]) ?_
  refine Gq 7 [1,0] rfl (OpQ.indexSl (i:=0) (j:=k) rfl rfl rfl rfl (by omega) (by omega) (by simp only [Enc.u8]; omega) ix22) ?_
  refine Gq 8 [1,0] rfl (OpQ.loadU8 (i:=0) rfl rfl rfl (by omega) ld5) ?_
  refine Gq 9 [1,0] rfl (OpQ.xorU8 (a:=(xs.getD k 0)) (b:=(ys.getD k 0)) rfl rfl rfl) ?_
  refine Gq 10 [1,0] rfl (OpQ.orU8 (a:=y) (b:=((xs.getD k 0) ^^^ (ys.getD k 0))) rfl rfl rfl) ?_
  refine Gq 11 [1,0] rfl (OpQ.assign rfl rfl) ?_
  refine WG.done (by kernel_rfl) ?_
  refine inblk_n (thn_n (Wl [(0,a),(1,b),(5,.int .u8 ((y ||| ((xs.getD k 0) ^^^ (ys.getD k 0))).toNat)),(13,vint (xs.length:Int)),(14,vint (k:Int))] ?_))
  refine W.region (Qu (OpQ.add rfl rfl rfl ⟨by omega,by omega⟩) (k:=?_))
  refine Qm (k:=?_)
  refine WN.nil (thn_n ⟨(k+1,(y ||| ((xs.getD k 0) ^^^ (ys.getD k 0)))),by (show xs.length - (k+1) < xs.length - k); omega,⟨rfl,rfl,rfl,rfl,(Eq.trans (b:=some (vint ((k:Int)+1))) rfl (by first | rfl | (congr 2; omega))),trivial⟩,?_⟩)
  exact (es [0,0,0] rfl).trans (Ent.pure_in (by exact ⟨by omega,take_iff_succ (by omega) (by omega) hI4.2⟩))
 obtain rfl:k=xs.length:=by omega
 refine W.exit (thn_x (thn_x (inblk_x (thn_n (Wl [(5,.int .u8 y.toNat)] ?_)))))
 refine Sn (Qm (k:=Qu (OpQ.eql rfl rfl rfl) (k:=Qa (k:=Nl [(4,.bool (decide ((y.toNat:Int)=0)))] ?_))))
 refine W.ret (ret1 (M:=[]) rfl rfl (⟨(bool_dec (by have h2:=hI4.2; rw [List.take_length,List.take_of_length_le (by omega)] at h2; rw [← h2]; exact ⟨fun h=>by subst h; rfl,fun h=>UInt8.toNat_inj.1 (by have:(0:UInt8).toNat=0:=rfl; omega)⟩)),rfl⟩) (es [2] rfl))
theorem numbers_fn (r:Record) (bx:Value):Fn Tryz.prog 248 #[.agg #[vint r.collection,vint r.epoch,vint r.writer,vint r.count,bx]] [KB bx r.box] (fun v M=>.bool (decide (Spec.numbers r))=v∧M=[]):=by
 refine Fi 41 Tryz.func248 fun g R=>?_
 refine Ww [(0,.agg #[vint r.collection,vint r.epoch,vint r.writer,vint r.count,bx])] [KB bx r.box,Al R] ?_
 refine Sn (Ru (OpRun.box rfl rfl rfl) ?_)
 rintro _ _ ⟨b1,rfl,rfl⟩
 refine Qa (k:=Nw [(1,vptr b1 0),(2,.bool false)] [Cl b1 203 [vint r.collection,vint r.epoch,vint r.writer,vint r.count,bx],KB bx r.box,Al R] ?_)
 refine Sn (Qu (Of (fa203_0 _ _)) (k:=Qu (Ol 0 ld3) (k:=?_)))
 by_cases h2:r.collection ≥ 1
 ·refine Qu (OpQ.decT (OpQ.geq rfl rfl rfl) h2) (k:=Qm (k:=Qu (Of (fa203_0 _ _)) (k:=Qu (Ol 0 ld3) (k:=Qu (OpQ.leq rfl rfl rfl) (k:=?_)))))
  by_cases h3:r.collection≤1099511627776
  ·refine Qu (OpQ.decT (OpQ.pickT rfl rfl rfl) h3) (k:=Qm (k:=Qu (Of (fa203_1 _ _)) (k:=Qu (Ol 0 ld3) (k:=Qu (OpQ.geq rfl rfl rfl) (k:=?_)))))
   by_cases h4:r.epoch ≥ 0
   ·refine Qu (OpQ.decT (OpQ.pickT rfl rfl rfl) h4) (k:=Qm (k:=Qu (Of (fa203_1 _ _)) (k:=Qu (Ol 0 ld3) (k:=Qu (OpQ.leq rfl rfl rfl) (k:=?_)))))
    by_cases h5:r.epoch≤16
    ·refine Qu (OpQ.decT (OpQ.pickT rfl rfl rfl) h5) (k:=Qm (k:=Qu (Of (fa203_2 _ _)) (k:=Qu (Ol 0 ld3) (k:=Qu (OpQ.geq rfl rfl rfl) (k:=?_)))))
     by_cases h6:r.writer ≥ 1
     ·refine Qu (OpQ.decT (OpQ.pickT rfl rfl rfl) h6) (k:=Qm (k:=Qu (Of (fa203_2 _ _)) (k:=Qu (Ol 0 ld3) (k:=Qu (OpQ.leq rfl rfl rfl) (k:=?_)))))
      by_cases h7:r.writer≤16
      ·refine Qu (OpQ.decT (OpQ.pickT rfl rfl rfl) h7) (k:=Qm (k:=Qu (Of (fa203_3 _ _)) (k:=Qu (Ol 0 ld3) (k:=Qu (OpQ.geq rfl rfl rfl) (k:=?_)))))
       by_cases h8:r.count ≥ 1
       ·refine Qu (OpQ.decT (OpQ.pickT rfl rfl rfl) h8) (k:=Qm (k:=Qu (Of (fa203_3 _ _)) (k:=Qu (Ol 0 ld3) (k:=Qu (OpQ.leq rfl rfl rfl) (k:=Qt (k:=Qa (k:=Nl [(2,.bool (decide (r.count≤1099511627776)))] ?_)))))))
        refine W.ret (ret1 (M:=[]) rfl rfl (⟨(by unfold Spec.numbers; first | exact bool_dec (by omega) | exact (bool_F (by omega)).symm | exact (bool_T (by omega)).symm),rfl⟩) (es [2] rfl))
       refine Qu (OpQ.decF (OpQ.pickT rfl rfl rfl) h8) (k:=Qm (k:=Qs (k:=Qs (k:=Qs (k:=Qf (k:=Qa (k:=Nl [(2,.bool false)] ?_)))))))
       refine W.ret (ret1 (M:=[]) rfl rfl (⟨(by unfold Spec.numbers; first | exact bool_dec (by omega) | exact (bool_F (by omega)).symm | exact (bool_T (by omega)).symm),rfl⟩) (es [2] rfl))
      refine Qu (OpQ.decF (OpQ.pickT rfl rfl rfl) h7) (k:=Qm (k:=Qs (k:=Qs (k:=Qs (k:=Qf (k:=Qm (k:=Qs (k:=Qs (k:=Qs (k:=Qf (k:=Qa (k:=Nl [(2,.bool false)] ?_))))))))))))
      refine W.ret (ret1 (M:=[]) rfl rfl (⟨(by unfold Spec.numbers; first | exact bool_dec (by omega) | exact (bool_F (by omega)).symm | exact (bool_T (by omega)).symm),rfl⟩) (es [2] rfl))
     refine Qu (OpQ.decF (OpQ.pickT rfl rfl rfl) h6) (k:=Qm (k:=Qs (k:=Qs (k:=Qs (k:=Qf (k:=Qm (k:=Qs (k:=Qs (k:=Qs (k:=Qf (k:=Qm (k:=Qs (k:=Qs (k:=?_))))))))))))))
     refine Qs (k:=Qf (k:=Qa (k:=Nl [(2,.bool false)] ?_)))
     refine W.ret (ret1 (M:=[]) rfl rfl (⟨(by unfold Spec.numbers; first | exact bool_dec (by omega) | exact (bool_F (by omega)).symm | exact (bool_T (by omega)).symm),rfl⟩) (es [2] rfl))
    refine Qu (OpQ.decF (OpQ.pickT rfl rfl rfl) h5) (k:=Qm (k:=Qs (k:=Qs (k:=Qs (k:=Qf (k:=Qm (k:=Qs (k:=Qs (k:=Qs (k:=Qf (k:=Qm (k:=Qs (k:=Qs (k:=?_))))))))))))))
    refine Qs (k:=Qf (k:=Qm (k:=Qs (k:=Qs (k:=Qs (k:=Qf (k:=Qa (k:=Nl [(2,.bool false)] ?_))))))))
    refine W.ret (ret1 (M:=[]) rfl rfl (⟨(by unfold Spec.numbers; first | exact bool_dec (by omega) | exact (bool_F (by omega)).symm | exact (bool_T (by omega)).symm),rfl⟩) (es [2] rfl))
   refine Qu (OpQ.decF (OpQ.pickT rfl rfl rfl) h4) (k:=Qm (k:=Qs (k:=Qs (k:=Qs (k:=Qf (k:=Qm (k:=Qs (k:=Qs (k:=Qs (k:=Qf (k:=Qm (k:=Qs (k:=Qs (k:=?_))))))))))))))
   refine Qs (k:=Qf (k:=Qm (k:=Qs (k:=Qs (k:=Qs (k:=Qf (k:=Qm (k:=Qs (k:=Qs (k:=Qs (k:=Qf (k:=Qa (k:=Nl [(2,.bool false)] ?_)))))))))))))
   refine W.ret (ret1 (M:=[]) rfl rfl (⟨(by unfold Spec.numbers; first | exact bool_dec (by omega) | exact (bool_F (by omega)).symm | exact (bool_T (by omega)).symm),rfl⟩) (es [2] rfl))
  refine Qu (OpQ.decF (OpQ.pickT rfl rfl rfl) h3) (k:=Qm (k:=Qs (k:=Qs (k:=Qs (k:=Qf (k:=Qm (k:=Qs (k:=Qs (k:=Qs (k:=Qf (k:=Qm (k:=Qs (k:=Qs (k:=?_))))))))))))))
  refine Qs (k:=Qf (k:=Qm (k:=Qs (k:=Qs (k:=Qs (k:=Qf (k:=Qm (k:=Qs (k:=Qs (k:=Qs (k:=Qf (k:=Qm (k:=Qs (k:=?_))))))))))))))
  refine Qs (k:=Qs (k:=Qf (k:=Qa (k:=Nl [(2,.bool false)] ?_))))
  refine W.ret (ret1 (M:=[]) rfl rfl (⟨(by unfold Spec.numbers; first | exact bool_dec (by omega) | exact (bool_F (by omega)).symm | exact (bool_T (by omega)).symm),rfl⟩) (es [2] rfl))
 refine Qu (OpQ.decF (OpQ.geq rfl rfl rfl) h2) (k:=Qm (k:=Qs (k:=Qs (k:=Qs (k:=Qf (k:=Qm (k:=Qs (k:=Qs (k:=Qs (k:=Qf (k:=Qm (k:=Qs (k:=Qs (k:=?_))))))))))))))
 refine Qs (k:=Qf (k:=Qm (k:=Qs (k:=Qs (k:=Qs (k:=Qf (k:=Qm (k:=Qs (k:=Qs (k:=Qs (k:=Qf (k:=Qm (k:=Qs (k:=?_))))))))))))))
 refine Qs (k:=Qs (k:=Qf (k:=Qm (k:=Qs (k:=Qs (k:=Qs (k:=Qf (k:=Qa (k:=Nl [(2,.bool false)] ?_)))))))))
 refine W.ret (ret1 (M:=[]) rfl rfl (⟨(by unfold Spec.numbers; first | exact bool_dec (by omega) | exact (bool_F (by omega)).symm | exact (bool_T (by omega)).symm),rfl⟩) (es [2] rfl))
theorem RRight_fn (r:Record) (bx:Value):Fn Tryz.prog 253 #[.agg #[vint r.collection,vint r.epoch,vint r.writer,vint r.count,bx]] [KB bx r.box] (fun v M=>.bool (decide (Spec.rright r))=v∧M=[]):=by
 refine Fi 17 Tryz.func253 fun g R=>?_
 refine Ww [(0,.agg #[vint r.collection,vint r.epoch,vint r.writer,vint r.count,bx])] [KB bx r.box,Al R] ?_
 refine Sn (Ru (OpRun.box rfl rfl rfl) ?_)
 rintro _ _ ⟨b1,rfl,rfl⟩
 refine Qa (k:=Nw [(1,vptr b1 0),(2,.bool false)] [Cl b1 203 [vint r.collection,vint r.epoch,vint r.writer,vint r.count,bx],KB bx r.box,Al R] ?_)
 refine Sn (Qu (OpQ.loadN (i:=0) rfl rfl ld203 rfl rfl rfl) (k:=?_))
 refine Wc [.tmp 3] [.agg #[vint r.collection,vint r.epoch,vint r.writer,vint r.count,bx]] Tryz.call248 (numbers_fn r bx) ((ed 1 rfl).trans (ep [0] rfl)) ?_
 rintro _ _ ⟨rfl,rfl⟩
 by_cases h2:Spec.numbers r
 ·refine Qu (OpQ.decT (OpQ.move rfl rfl) h2) (k:=Qu (Of (fa203_4 _ _)) (k:=Qu (Ol 0 ld22) (k:=?_)))
  refine Nk 1 fun hl3=>?_
  refine Qu (OpQ.lenSl (i:=1) rfl rfl rfl (len22 _)) (k:=Qu (OpQ.geq rfl rfl rfl) (k:=?_))
  by_cases h4:(r.box.length:Int) ≥ 80
  ·refine Qu (OpQ.decT (OpQ.pickT rfl rfl rfl) h4) (k:=Qm (k:=Qu (Of (fa203_4 _ _)) (k:=Qu (Ol 0 ld22) (k:=Qu (OpQ.lenSl (i:=1) rfl rfl rfl (len22 _)) (k:=Qu (OpQ.leq rfl rfl rfl) (k:=Qt (k:=Qa (k:=Nw [(2,.bool (decide ((r.box.length:Int)≤2064)))] [Cl b1 203 [vint r.collection,vint r.epoch,vint r.writer,vint r.count,bx],KB bx r.box,Al R] ?_))))))))
   refine W.ret (ret1 (M:=[]) rfl rfl (⟨(by unfold Spec.rright; simp only [Spec.numbers] at *; first | exact bool_dec (by omega) | exact (bool_F (by omega)).symm | exact (bool_T (by omega)).symm),rfl⟩) (es [2] rfl))
  refine Qu (OpQ.decF (OpQ.pickT rfl rfl rfl) h4) (k:=Qm (k:=Qs (k:=Qs (k:=Qs (k:=Qs (k:=Qf (k:=Qa (k:=Nw [(2,.bool false)] [Cl b1 203 [vint r.collection,vint r.epoch,vint r.writer,vint r.count,bx],KB bx r.box,Al R] ?_))))))))
  refine W.ret (ret1 (M:=[]) rfl rfl (⟨(by unfold Spec.rright; simp only [Spec.numbers] at *; first | exact bool_dec (by omega) | exact (bool_F (by omega)).symm | exact (bool_T (by omega)).symm),rfl⟩) (es [2] rfl))
 refine Qu (OpQ.decF (OpQ.move rfl rfl) h2) (k:=Qs (k:=Qs (k:=Qs (k:=Qs (k:=Qf (k:=Qm (k:=Qs (k:=Qs (k:=Qs (k:=Qs (k:=Qf (k:=Qa (k:=Nw [(2,.bool false)] [Cl b1 203 [vint r.collection,vint r.epoch,vint r.writer,vint r.count,bx],KB bx r.box,Al R] ?_)))))))))))))
 refine W.ret (ret1 (M:=[]) rfl rfl (⟨(by unfold Spec.rright; simp only [Spec.numbers] at *; first | exact bool_dec (by omega) | exact (bool_F (by omega)).symm | exact (bool_T (by omega)).symm),rfl⟩) (es [2] rfl))
theorem front_fn (r:Record) (bx:Value) (hn:Spec.numbers r):Fn Tryz.prog 252 #[.agg #[vint r.collection,vint r.epoch,vint r.writer,vint r.count,bx]] [KB bx r.box] (fun v M=>∃ (z:Value),z=v∧M=[KB z (Spec.front r)]):=by
 unfold Spec.numbers at hn
 refine Fi 23 Tryz.func252 fun g R=>?_
 refine Ww [(0,.agg #[vint r.collection,vint r.epoch,vint r.writer,vint r.count,bx])] [KB bx r.box,Al R] ?_
 refine Sn (Ru (OpRun.box rfl rfl rfl) ?_)
 rintro _ _ ⟨b1,rfl,rfl⟩
 refine Qa (k:=Nw [(1,vptr b1 0),(2,N0)] [Cl b1 203 [vint r.collection,vint r.epoch,vint r.writer,vint r.count,bx],KB bx r.box,Al R] ?_)
 refine Sn (Qu (Of (fa203_0 _ _)) (k:=Qu (Ol 0 ld3) (k:=Qu (OpQ.mkiface (v:=vint r.collection) (u:=Value.iface 3 (vint r.collection)) rfl rfl (fun _=>by kernel_rfl)) (k:=Qu (Of (fa203_1 _ _)) (k:=Qu (Ol 0 ld3) (k:=Qu (OpQ.mkiface (v:=vint r.epoch) (u:=Value.iface 3 (vint r.epoch)) rfl rfl (fun _=>by kernel_rfl)) (k:=Qu (Of (fa203_2 _ _)) (k:=Qu (Ol 0 ld3) (k:=Qu (OpQ.mkiface (v:=vint r.writer) (u:=Value.iface 3 (vint r.writer)) rfl rfl (fun _=>by kernel_rfl)) (k:=Qu (Of (fa203_3 _ _)) (k:=Qu (Ol 0 ld3) (k:=Qu (OpQ.mkiface (v:=vint r.count) (u:=Value.iface 3 (vint r.count)) rfl rfl (fun _=>by kernel_rfl)) (k:=?_)))))))))))))
 refine Ru (OpRun.buildSlice (qs:=[(0,Value.iface 3 (vint r.collection)),(1,Value.iface 3 (vint r.epoch)),(2,Value.iface 3 (vint r.writer)),(3,Value.iface 3 (vint r.count))]) (cs:=[Value.iface 3 (vint r.collection),Value.iface 3 (vint r.epoch),Value.iface 3 (vint r.writer),Value.iface 3 (vint r.count)]) (E:=20) (sz:=1) rfl ⟨rfl,rfl,rfl,rfl,rfl,rfl,rfl,rfl,trivial⟩ (fun _=>by kernel_rfl) (O3 (one_cons rfl one_nil)) rfl (by decide)) ?_
 rintro v2 _ ⟨h3a,h3b,h3c,rfl⟩
 refine WN.ent (Ent.know (m:=CellsRel Enc.part ([Value.iface 3 (vint r.collection),Value.iface 3 (vint r.epoch),Value.iface 3 (vint r.writer),Value.iface 3 (vint r.count)]) ([Part.n r.collection,Part.n r.epoch,Part.n r.writer,Part.n r.count])) (fun K h s=>(CellsRel.cons (cs:=[Value.iface 3 (vint r.collection)]) (ds:=[Value.iface 3 (vint r.epoch),Value.iface 3 (vint r.writer),Value.iface 3 (vint r.count)]) rfl Enc.part_n (CellsRel.cons (cs:=[Value.iface 3 (vint r.epoch)]) (ds:=[Value.iface 3 (vint r.writer),Value.iface 3 (vint r.count)]) rfl Enc.part_n (CellsRel.cons (cs:=[Value.iface 3 (vint r.writer)]) (ds:=[Value.iface 3 (vint r.count)]) rfl Enc.part_n (CellsRel.cons (cs:=[Value.iface 3 (vint r.count)]) (ds:=[]) rfl Enc.part_n CellsRel.nil)))))) ?_
 refine Ne [Kx Enc.part ([Value.iface 3 (vint r.collection),Value.iface 3 (vint r.epoch),Value.iface 3 (vint r.writer),Value.iface 3 (vint r.count)]) ([Part.n r.collection,Part.n r.epoch,Part.n r.writer,Part.n r.count]),Rw 20 1 v2 ([Value.iface 3 (vint r.collection),Value.iface 3 (vint r.epoch),Value.iface 3 (vint r.writer),Value.iface 3 (vint r.count)]),Cl b1 203 [vint r.collection,vint r.epoch,vint r.writer,vint r.count,bx],KB bx r.box,Al R] ?_
 refine WN.freezeRel (e:=Enc.part) (i:=1) (j:=0) (Lb rfl) rfl rfl ?_
 refine Ne [Kk (Sl Enc.part 20 v2 ([Part.n r.collection,Part.n r.epoch,Part.n r.writer,Part.n r.count])),Kx Enc.part ([Value.iface 3 (vint r.collection),Value.iface 3 (vint r.epoch),Value.iface 3 (vint r.writer),Value.iface 3 (vint r.count)]) ([Part.n r.collection,Part.n r.epoch,Part.n r.writer,Part.n r.count]),Cl b1 203 [vint r.collection,vint r.epoch,vint r.writer,vint r.count,bx],KB bx r.box,Al R] ?_
 refine Wc [.tmp 18] [v2] Tryz.call148 (Put_fn v2 ([Part.n r.collection,Part.n r.epoch,Part.n r.writer,Part.n r.count]) (by first | omega | (simp; done) | (simp; omega) | (simp at *; omega))) ((ed 0 rfl).trans (ep [0] rfl)) ?_
 rintro _ _ (⟨r4,bs5,h6,h7,rfl,rfl⟩ | ⟨e8,h9,h10,rfl,rfl⟩)
 ·obtain rfl:bs5=Spec.front r:=by rw [Spec.put4 (by omega) (by omega) (by omega) (by omega)] at h6; cases h6; rfl
  refine Qm (k:=Qe (k:=Qe (k:=Qa (k:=Qa (k:=Nw [(2,N0),(3,r4)] [KB r4 (Spec.front r),Kk (Sl Enc.part 20 v2 ([Part.n r.collection,Part.n r.epoch,Part.n r.writer,Part.n r.count])),Kx Enc.part ([Value.iface 3 (vint r.collection),Value.iface 3 (vint r.epoch),Value.iface 3 (vint r.writer),Value.iface 3 (vint r.count)]) ([Part.n r.collection,Part.n r.epoch,Part.n r.writer,Part.n r.count]),Cl b1 203 [vint r.collection,vint r.epoch,vint r.writer,vint r.count,bx],KB bx r.box,Al R] ?_)))))
  refine Sn (Qm (k:=Qa (k:=Nl [(2,r4)] ?_)))
  refine W.ret (ret1 (M:=[KB r4 (Spec.front r)]) rfl rfl (⟨r4,rfl,rfl⟩) (es [0,4] rfl))
 rw [Spec.put4 (by omega) (by omega) (by omega) (by omega)] at h9; cases h9
theorem REncode_fn (r:Record) (bx:Value):Fn Tryz.prog 185 #[.agg #[vint r.collection,vint r.epoch,vint r.writer,vint r.count,bx]] [KB bx r.box] (fun v M=>(∃ (z:Value) (bs:Bytes),Spec.rencode r = .ok bs∧bs.length≤2100∧.tuple #[z,vint 0]=v∧M=[KB z bs])∨(Spec.rencode r = .error 10∧.tuple #[.slice none 0 0,vint 10]=v∧M=[])):=by
 refine Fi 26 Tryz.func185 fun g R=>?_
 refine Ww [(0,.agg #[vint r.collection,vint r.epoch,vint r.writer,vint r.count,bx])] [KB bx r.box,Al R] ?_
 refine Sn (Ru (OpRun.box rfl rfl rfl) ?_)
 rintro _ _ ⟨b1,rfl,rfl⟩
 refine Qa (k:=Qa (k:=Nw [(1,vptr b1 0),(2,N0),(3,vint 0)] [Cl b1 203 [vint r.collection,vint r.epoch,vint r.writer,vint r.count,bx],KB bx r.box,Al R] ?_))
 refine W.seq (Sn (Qu (OpQ.loadN (i:=0) rfl rfl ld203 rfl rfl rfl) (k:=?_)))
 refine Wc [.tmp 4] [.agg #[vint r.collection,vint r.epoch,vint r.writer,vint r.count,bx]] Tryz.call253 (RRight_fn r bx) ((ed 1 rfl).trans (ep [0] rfl)) ?_
 rintro _ _ ⟨rfl,rfl⟩
 refine Qu (OpQ.notP rfl rfl) (k:=Nw [(1,vptr b1 0),(2,N0),(3,vint 0),(6,.bool (decide (¬ (Spec.rright r))))] [Cl b1 203 [vint r.collection,vint r.epoch,vint r.writer,vint r.count,bx],KB bx r.box,Al R] ?_)
 refine Cp rfl (fun h2=>?_) (fun h2=>?_)
 ·refine Sn (Qa (k:=Qa (k:=Nl [(1,vptr b1 0),(2,N0),(3,vint 10)] ?_)))
  refine W.ret (thn_r (ret2 (M:=[]) rfl rfl rfl (.inr (⟨(by unfold Spec.rencode; rw [if_neg (by assumption)]),rfl,rfl⟩)) (es [2] rfl)))
 refine W.skip (thn_n (Wl [(1,vptr b1 0),(2,N0),(3,vint 0)] ?_))
 refine W.seq (W.region ?_)
 have hrr:Spec.rright r:=Decidable.of_not_not h2; have hr2:=hrr; unfold Spec.rright Spec.numbers at hr2
 refine Qu (Of (fa203_0 _ _)) (k:=Qu (Ol 0 ld3) (k:=Qu (OpQ.mkiface (v:=vint r.collection) (u:=Value.iface 3 (vint r.collection)) rfl rfl (fun _=>by kernel_rfl)) (k:=Qu (Of (fa203_1 _ _)) (k:=Qu (Ol 0 ld3) (k:=Qu (OpQ.mkiface (v:=vint r.epoch) (u:=Value.iface 3 (vint r.epoch)) rfl rfl (fun _=>by kernel_rfl)) (k:=Qu (Of (fa203_2 _ _)) (k:=Qu (Ol 0 ld3) (k:=Qu (OpQ.mkiface (v:=vint r.writer) (u:=Value.iface 3 (vint r.writer)) rfl rfl (fun _=>by kernel_rfl)) (k:=Qu (Of (fa203_3 _ _)) (k:=Qu (Ol 0 ld3) (k:=Qu (OpQ.mkiface (v:=vint r.count) (u:=Value.iface 3 (vint r.count)) rfl rfl (fun _=>by kernel_rfl)) (k:=Qu (Of (fa203_4 _ _)) (k:=Qu (Ol 0 ld22) (k:=?_))))))))))))))
 refine WN.fact (fun _ _ s=>sl_isS (i:=1) rfl s) (fun hS3=>?_)
 refine Qu (OpQ.mkiface (v:=bx) (u:=Value.iface 22 (bx)) rfl rfl (fun _=>by obtain ⟨_,_,_,e1⟩:=hS3; rw [e1]; kernel_rfl)) (k:=?_)
 refine Ru (OpRun.buildSlice (qs:=[(0,Value.iface 3 (vint r.collection)),(1,Value.iface 3 (vint r.epoch)),(2,Value.iface 3 (vint r.writer)),(3,Value.iface 3 (vint r.count)),(4,Value.iface 22 (bx))]) (cs:=[Value.iface 3 (vint r.collection),Value.iface 3 (vint r.epoch),Value.iface 3 (vint r.writer),Value.iface 3 (vint r.count),Value.iface 22 (bx)]) (E:=20) (sz:=1) rfl ⟨rfl,rfl,rfl,rfl,rfl,rfl,rfl,rfl,rfl,rfl,trivial⟩ (fun _=>by kernel_rfl) (O3 (one_cons rfl (one_cons rfl one_nil))) rfl (by decide)) ?_
 rintro v4 _ ⟨h5a,h5b,h5c,rfl⟩
 refine WN.ent (Ent.know (m:=CellsRel Enc.part ([Value.iface 3 (vint r.collection),Value.iface 3 (vint r.epoch),Value.iface 3 (vint r.writer),Value.iface 3 (vint r.count),Value.iface 22 (bx)]) ([Part.n r.collection,Part.n r.epoch,Part.n r.writer,Part.n r.count,Part.b r.box])) (fun K h s=>(CellsRel.cons (cs:=[Value.iface 3 (vint r.collection)]) (ds:=[Value.iface 3 (vint r.epoch),Value.iface 3 (vint r.writer),Value.iface 3 (vint r.count),Value.iface 22 (bx)]) rfl Enc.part_n (CellsRel.cons (cs:=[Value.iface 3 (vint r.epoch)]) (ds:=[Value.iface 3 (vint r.writer),Value.iface 3 (vint r.count),Value.iface 22 (bx)]) rfl Enc.part_n (CellsRel.cons (cs:=[Value.iface 3 (vint r.writer)]) (ds:=[Value.iface 3 (vint r.count),Value.iface 22 (bx)]) rfl Enc.part_n (CellsRel.cons (cs:=[Value.iface 3 (vint r.count)]) (ds:=[Value.iface 22 (bx)]) rfl Enc.part_n (CellsRel.cons (cs:=[Value.iface 22 (bx)]) (ds:=[]) rfl (Enc.part_b (kat 2 s rfl)) CellsRel.nil))))))) ?_
 refine Ne [Kx Enc.part ([Value.iface 3 (vint r.collection),Value.iface 3 (vint r.epoch),Value.iface 3 (vint r.writer),Value.iface 3 (vint r.count),Value.iface 22 (bx)]) ([Part.n r.collection,Part.n r.epoch,Part.n r.writer,Part.n r.count,Part.b r.box]),Rw 20 1 v4 ([Value.iface 3 (vint r.collection),Value.iface 3 (vint r.epoch),Value.iface 3 (vint r.writer),Value.iface 3 (vint r.count),Value.iface 22 (bx)]),Cl b1 203 [vint r.collection,vint r.epoch,vint r.writer,vint r.count,bx],KB bx r.box,Al R] ?_
 refine WN.freezeRel (e:=Enc.part) (i:=1) (j:=0) (Lb rfl) rfl rfl ?_
 refine Ne [Kk (Sl Enc.part 20 v4 ([Part.n r.collection,Part.n r.epoch,Part.n r.writer,Part.n r.count,Part.b r.box])),Kx Enc.part ([Value.iface 3 (vint r.collection),Value.iface 3 (vint r.epoch),Value.iface 3 (vint r.writer),Value.iface 3 (vint r.count),Value.iface 22 (bx)]) ([Part.n r.collection,Part.n r.epoch,Part.n r.writer,Part.n r.count,Part.b r.box]),Cl b1 203 [vint r.collection,vint r.epoch,vint r.writer,vint r.count,bx],KB bx r.box,Al R] ?_
 refine Wc [.tmp 22] [v4] Tryz.call148 (Put_fn v4 ([Part.n r.collection,Part.n r.epoch,Part.n r.writer,Part.n r.count,Part.b r.box]) (by first | omega | (simp; done) | (simp; omega) | (simp at *; omega))) ((ed 0 rfl).trans (ep [0] rfl)) ?_
 rintro _ _ (⟨r6,bs7,h8,h9,rfl,rfl⟩ | ⟨e10,h11,h12,rfl,rfl⟩)
 ·refine Qe (k:=Qe (k:=Qa (k:=Qa (k:=Nw [(2,r6),(3,vint 0)] [KB r6 bs7,Kk (Sl Enc.part 20 v4 ([Part.n r.collection,Part.n r.epoch,Part.n r.writer,Part.n r.count,Part.b r.box])),Kx Enc.part ([Value.iface 3 (vint r.collection),Value.iface 3 (vint r.epoch),Value.iface 3 (vint r.writer),Value.iface 3 (vint r.count),Value.iface 22 (bx)]) ([Part.n r.collection,Part.n r.epoch,Part.n r.writer,Part.n r.count,Part.b r.box]),Cl b1 203 [vint r.collection,vint r.epoch,vint r.writer,vint r.count,bx],KB bx r.box,Al R] ?_))))
  refine W.ret (ret2 (M:=[KB r6 bs7]) rfl rfl rfl (.inl ⟨r6,bs7,(by unfold Spec.rencode; rw [if_pos hrr]; have h5:=h8; rw [Spec.put5 (by omega) (by omega) (by omega) (by omega) (by omega)] at h5; exact h5),(by have h5:=h8; rw [Spec.put5 (by omega) (by omega) (by omega) (by omega) (by omega)] at h5; cases h5; simp; omega),rfl,rfl⟩) (es [0,4] rfl))
 rw [Spec.put5 (by omega) (by omega) (by omega) (by omega) (by omega)] at h11; cases h11
theorem RDecode_fn (b:Value) (bs:Bytes) (hb:bs.length≤1000000):Fn Tryz.prog 108 #[b] [KB b bs] (fun v M=>(∃ (r:Record) (b2:Value),Spec.rdecode bs = .ok r∧.tuple #[.agg #[vint r.collection,vint r.epoch,vint r.writer,vint r.count,b2],vint 0]=v∧M=[KB b2 r.box])∨(Spec.rdecode bs = .error 10∧.tuple #[.agg #[vint 0,vint 0,vint 0,vint 0,.slice none 0 0],vint 10]=v∧M=[])):=by
 refine Fi 28 Tryz.func108 fun g R=>?_
 refine Ww [(0,b)] [KB b bs,Al R] ?_
 refine Sn (Ru (OpRun.alloc rfl zv203 rfl) ?_)
 rintro _ _ ⟨b1,rfl,rfl⟩
 refine Qa (k:=Nw [(0,b),(2,vptr b1 0),(3,vint 0)] [Cl b1 203 [vint 0,vint 0,vint 0,vint 0,N0],KB b bs,Al R] ?_)
 refine Sn (Qm (k:=?_))
 refine Wc [.tmp 6] [b] Tryz.call142 (Read_fn b bs (by first | omega | (simp; done) | (simp; omega) | (simp at *; omega))) ((ed 1 rfl).trans (ep [0] rfl)) ?_
 rintro _ _ ⟨rp2,rfl,rfl⟩
 refine Qa (k:=Nw [(2,vptr b1 0),(3,vint 0),(4,vptr rp2 0)] [ReaderR rp2 (some bs),Cl b1 203 [vint 0,vint 0,vint 0,vint 0,N0],KB b bs,Al R] ?_)
 refine Sn (Ru (OpRun.alloc rfl zv203 rfl) ?_)
 rintro _ _ ⟨b3,rfl,rfl⟩
 refine Nw [(2,vptr b1 0),(3,vint 0),(4,vptr rp2 0),(5,vptr b3 0)] [Cl b3 203 [vint 0,vint 0,vint 0,vint 0,N0],ReaderR rp2 (some bs),Cl b1 203 [vint 0,vint 0,vint 0,vint 0,N0],KB b bs,Al R] ?_
 refine Sn (Qm (k:=?_))
 refine Wc [.tmp 8,.const (.int .i64 1),.const (.int .i64 1099511627776)] [vptr rp2 0,vint 1,vint 1099511627776] Tryz.call143 (Number_fn rp2 (some bs) 1 1099511627776) (ep [1] rfl) ?_
 rintro _ _ ⟨x4,s5,h6,rfl,rfl⟩
 refine Qu (Of (fa203_0 _ _)) (k:=Rn (OpRun.store (i:=1) (vs:=[vint x4]) (cs':=[vint x4,vint 0,vint 0,vint 0,N0]) rfl rfl rfl sz3 rfl rfl (one_cons rfl one_nil) rfl (Lb rfl) rfl) (k:=Nw [(2,vptr b1 0),(3,vint 0),(4,vptr rp2 0),(5,vptr b3 0)] [Cl b3 203 [vint x4,vint 0,vint 0,vint 0,N0],ReaderR rp2 s5,Cl b1 203 [vint 0,vint 0,vint 0,vint 0,N0],KB b bs,Al R] ?_))
 refine Sn (Qm (k:=?_))
 refine Wc [.tmp 11,.const (.int .i64 0),.const (.int .i64 16)] [vptr rp2 0,vint 0,vint 16] Tryz.call143 (Number_fn rp2 s5 0 16) (ep [1] rfl) ?_
 rintro _ _ ⟨x7,s8,h9,rfl,rfl⟩
 refine Qu (Of (fa203_1 _ _)) (k:=Rn (OpRun.store (i:=1) (vs:=[vint x7]) (cs':=[vint x4,vint x7,vint 0,vint 0,N0]) rfl rfl rfl sz3 rfl rfl (one_cons rfl one_nil) rfl (Lb rfl) rfl) (k:=Nw [(2,vptr b1 0),(3,vint 0),(4,vptr rp2 0),(5,vptr b3 0)] [Cl b3 203 [vint x4,vint x7,vint 0,vint 0,N0],ReaderR rp2 s8,Cl b1 203 [vint 0,vint 0,vint 0,vint 0,N0],KB b bs,Al R] ?_))
 refine Sn (Qm (k:=?_))
 refine Wc [.tmp 14,.const (.int .i64 1),.const (.int .i64 16)] [vptr rp2 0,vint 1,vint 16] Tryz.call143 (Number_fn rp2 s8 1 16) (ep [1] rfl) ?_
 rintro _ _ ⟨x10,s11,h12,rfl,rfl⟩
 refine Qu (Of (fa203_2 _ _)) (k:=Rn (OpRun.store (i:=1) (vs:=[vint x10]) (cs':=[vint x4,vint x7,vint x10,vint 0,N0]) rfl rfl rfl sz3 rfl rfl (one_cons rfl one_nil) rfl (Lb rfl) rfl) (k:=Nw [(2,vptr b1 0),(3,vint 0),(4,vptr rp2 0),(5,vptr b3 0)] [Cl b3 203 [vint x4,vint x7,vint x10,vint 0,N0],ReaderR rp2 s11,Cl b1 203 [vint 0,vint 0,vint 0,vint 0,N0],KB b bs,Al R] ?_))
 refine Sn (Qm (k:=?_))
 refine Wc [.tmp 17,.const (.int .i64 1),.const (.int .i64 1099511627776)] [vptr rp2 0,vint 1,vint 1099511627776] Tryz.call143 (Number_fn rp2 s11 1 1099511627776) (ep [1] rfl) ?_
 rintro _ _ ⟨x13,s14,h15,rfl,rfl⟩
 refine Qu (Of (fa203_3 _ _)) (k:=Rn (OpRun.store (i:=1) (vs:=[vint x13]) (cs':=[vint x4,vint x7,vint x10,vint x13,N0]) rfl rfl rfl sz3 rfl rfl (one_cons rfl one_nil) rfl (Lb rfl) rfl) (k:=Nw [(2,vptr b1 0),(3,vint 0),(4,vptr rp2 0),(5,vptr b3 0)] [Cl b3 203 [vint x4,vint x7,vint x10,vint x13,N0],ReaderR rp2 s14,Cl b1 203 [vint 0,vint 0,vint 0,vint 0,N0],KB b bs,Al R] ?_))
 refine Sn (Qm (k:=?_))
 refine Wc [.tmp 20,.const (.int .i64 80),.const (.int .i64 2064)] [vptr rp2 0,vint 80,vint 2064] Tryz.call145 (Text_fn rp2 s14 80 2064 (by first | omega | (simp; done) | (simp; omega) | (simp at *; omega)) (by first | omega | (simp; done) | (simp; omega) | (simp at *; omega))) (ep [1] rfl) ?_
 rintro _ _ ⟨r16,x17,s18,h19,rfl,rfl⟩
 refine Qu (Of (fa203_4 _ _)) (k:=?_)
 refine Nf 0 fun ho20=>?_
 refine Rn (OpRun.store (i:=2) (vs:=[r16]) (cs':=[vint x4,vint x7,vint x10,vint x13,r16]) rfl rfl rfl sz22 (cells_one ho20) rfl (one_cons ho20 one_nil) rfl (Lb rfl) rfl) (k:=Nw [(2,vptr b1 0),(3,vint 0),(4,vptr rp2 0),(5,vptr b3 0)] [Cl b3 203 [vint x4,vint x7,vint x10,vint x13,r16],KB r16 x17,ReaderR rp2 s18,Cl b1 203 [vint 0,vint 0,vint 0,vint 0,N0],KB b bs,Al R] ?_)
 refine W.seq (Sn (Qm (k:=?_)))
 refine Wc [.tmp 23] [vptr rp2 0] Tryz.call146 (End_fn rp2 s18) (ep [2] rfl) ?_
 rintro _ _ ⟨rfl,rfl⟩
 refine Qu (OpQ.notP rfl rfl) (k:=Nw [(2,vptr b1 0),(3,vint 0),(5,vptr b3 0),(25,.bool (decide (¬ (s18=some []))))] [ReaderR rp2 s18,Cl b3 203 [vint x4,vint x7,vint x10,vint x13,r16],KB r16 x17,Cl b1 203 [vint 0,vint 0,vint 0,vint 0,N0],KB b bs,Al R] ?_)
 refine Cp rfl (fun h21=>?_) (fun h21=>?_)
 ·refine Sn (Qu (OpQ.build (qs:=[]) (v:=.agg #[vint 0,vint 0,vint 0,vint 0,N0]) rfl trivial (fun _=>by kernel_rfl)) (k:=Rn (OpRun.store (i:=3) (vs:=[vint 0,vint 0,vint 0,vint 0,N0]) (cs':=[vint 0,vint 0,vint 0,vint 0,N0]) rfl rfl rfl sz203 rfl rfl (O3 (one_cons rfl (one_cons rfl one_nil))) rfl (Lb rfl) rfl) (k:=Qa (k:=Nw [(2,vptr b1 0),(3,vint 10),(5,vptr b3 0)] [Cl b1 203 [vint 0,vint 0,vint 0,vint 0,N0],ReaderR rp2 s18,Cl b3 203 [vint x4,vint x7,vint x10,vint x13,r16],KB r16 x17,KB b bs,Al R] ?_))))
  refine W.ret (thn_r (retC2 (M:=[]) (i:=0) rfl rfl rfl rfl rfl ld203 (.inr (⟨(by unfold Spec.rdecode; have hre:Spec.rrecord (some bs)=((⟨x4,x7,x10,x13,x17⟩:Record),s18):=(by simp only [Spec.rrecord,h6,h9,h12,h15,h19]); rw [hre]; show (if _ then _ else _)=_; rw [if_neg h21]),rfl,rfl⟩)) (es [5] rfl)))
 refine W.skip (thn_n (Wl [(2,vptr b1 0),(3,vint 0),(5,vptr b3 0)] ?_))
 refine Sn (Qu (OpQ.loadN (i:=1) rfl rfl ld203 rfl rfl rfl) (k:=Rn (OpRun.store (i:=3) (vs:=[vint x4,vint x7,vint x10,vint x13,r16]) (cs':=[vint x4,vint x7,vint x10,vint x13,r16]) rfl rfl rfl sz203 rfl rfl (O3 (one_cons rfl (one_cons ho20 one_nil))) rfl (Lb rfl) rfl) (k:=Qa (k:=Nw [(2,vptr b1 0),(3,vint 0)] [Cl b1 203 [vint x4,vint x7,vint x10,vint x13,r16],ReaderR rp2 s18,Cl b3 203 [vint x4,vint x7,vint x10,vint x13,r16],KB r16 x17,KB b bs,Al R] ?_))))
 refine W.ret (retC2 (M:=[KB r16 ((⟨x4,x7,x10,x13,x17⟩:Record).box)]) (i:=0) rfl rfl rfl rfl rfl ld203 (.inl ⟨(⟨x4,x7,x10,x13,x17⟩:Record),r16,(by unfold Spec.rdecode; have hre:Spec.rrecord (some bs)=((⟨x4,x7,x10,x13,x17⟩:Record),s18):=(by simp only [Spec.rrecord,h6,h9,h12,h15,h19]); rw [hre]; show (if _ then _ else _)=_; rw [if_pos (Decidable.of_not_not h21)]),rfl,rfl⟩) (es [3,4] rfl))
theorem mark_fn (sp:Nat) (A:List Thing) (secret:Value) (ks:Bytes) (coll:Int) (who:Int) (b:Value) (xs:Bytes) (hw:1≤who∧who≤16) (hc:1≤coll∧coll≤1099511627776) (hx:xs.length≤4096) (hA:A.length < 1099511627774):Fn Tryz.prog 250 #[vptr sp 0,secret,vint coll,vint who,b] [SuiteR sp A,KB secret ks,KB b xs] (fun v M=>∃ (z:Value) (mk:Bytes) (A':List Thing),Spec.mark A ks coll who xs=(mk,A')∧A'.length≤A.length+2∧mk.length=32∧z=v∧M=[KB z mk,SuiteR sp A']):=by
 refine Fi 36 Tryz.func250 fun g R=>?_
 refine Ww [(0,vptr sp 0),(1,secret),(2,vint coll),(3,vint who),(4,b)] [SuiteR sp A,KB secret ks,KB b xs,Al R] ?_
 refine Sn (Qa (k:=Nl [(0,vptr sp 0),(1,secret),(2,vint coll),(3,vint who),(4,b),(10,N0)] ?_))
 refine Sn (Qm (k:=Qm (k:=Qm (k:=?_))))
 refine Wc [.tmp 16,.tmp 17,.tmp 18] [vptr sp 0,secret,vint who] Tryz.call307 (Writer_fn sp A secret ks who (by first | omega | (simp; done) | (simp; omega) | (simp at *; omega))) ((ed 1 rfl).trans (ep [1,0] rfl)) ?_
 rintro _ _ (⟨r1,bs2,A3,h4,h5,h6,h7,rfl,rfl⟩ | ⟨h8,rfl,rfl⟩)
 ·refine Qm (k:=Qe (k:=Qe (k:=Qa (k:=Qa (k:=Nw [(0,vptr sp 0),(2,vint coll),(4,b),(10,N0),(11,r1)] [KB r1 bs2,SuiteR sp A3,KB secret ks,KB b xs,Al R] ?_)))))
  refine Sn (Qm (k:=Qu (OpQ.mkiface (v:=vint coll) (u:=Value.iface 3 (vint coll)) rfl rfl (fun _=>by kernel_rfl)) (k:=Qm (k:=?_))))
  refine WN.fact (fun _ _ s=>sl_isS (i:=3) rfl s) (fun hS9=>?_)
  refine Qu (OpQ.mkiface (v:=b) (u:=Value.iface 22 (b)) rfl rfl (fun _=>by obtain ⟨_,_,_,e1⟩:=hS9; rw [e1]; kernel_rfl)) (k:=?_)
  refine Ru (OpRun.buildSlice (qs:=[(0,Value.iface 3 (vint coll)),(1,Value.iface 22 (b))]) (cs:=[Value.iface 3 (vint coll),Value.iface 22 (b)]) (E:=20) (sz:=1) rfl ⟨rfl,rfl,rfl,rfl,trivial⟩ (fun _=>by kernel_rfl) (one_cons rfl (one_cons rfl one_nil)) rfl (by decide)) ?_
  rintro v10 _ ⟨h11a,h11b,h11c,rfl⟩
  refine WN.ent (Ent.know (m:=CellsRel Enc.part ([Value.iface 3 (vint coll),Value.iface 22 (b)]) ([Part.n coll,Part.b xs])) (fun K h s=>(CellsRel.cons (cs:=[Value.iface 3 (vint coll)]) (ds:=[Value.iface 22 (b)]) rfl Enc.part_n (CellsRel.cons (cs:=[Value.iface 22 (b)]) (ds:=[]) rfl (Enc.part_b (kat 4 s rfl)) CellsRel.nil)))) ?_
  refine Ne [Kx Enc.part ([Value.iface 3 (vint coll),Value.iface 22 (b)]) ([Part.n coll,Part.b xs]),Rw 20 1 v10 ([Value.iface 3 (vint coll),Value.iface 22 (b)]),KB r1 bs2,SuiteR sp A3,KB secret ks,KB b xs,Al R] ?_
  refine WN.freezeRel (e:=Enc.part) (i:=1) (j:=0) (Lb rfl) rfl rfl ?_
  refine Ne [Kk (Sl Enc.part 20 v10 ([Part.n coll,Part.b xs])),Kx Enc.part ([Value.iface 3 (vint coll),Value.iface 22 (b)]) ([Part.n coll,Part.b xs]),KB r1 bs2,SuiteR sp A3,KB secret ks,KB b xs,Al R] ?_
  refine Wc [.tmp 27] [v10] Tryz.call148 (Put_fn v10 ([Part.n coll,Part.b xs]) (by first | omega | (simp; done) | (simp; omega) | (simp at *; omega))) ((ed 0 rfl).trans (ep [0] rfl)) ?_
  rintro _ _ (⟨r12,bs13,h14,h15,rfl,rfl⟩ | ⟨e16,h17,h18,rfl,rfl⟩)
  ·obtain rfl:bs13=be 6 coll++(be 2 xs.length++xs):=by rw [Spec.putnb (by omega) (by omega)] at h14; cases h14; rfl
   refine Qm (k:=Qe (k:=Qe (k:=Qa (k:=Qa (k:=Nw [(0,vptr sp 0),(10,N0),(11,r1),(13,r12)] [KB r12 (be 6 coll++(be 2 xs.length++xs)),Kk (Sl Enc.part 20 v10 ([Part.n coll,Part.b xs])),Kx Enc.part ([Value.iface 3 (vint coll),Value.iface 22 (b)]) ([Part.n coll,Part.b xs]),KB r1 bs2,SuiteR sp A3,KB secret ks,KB b xs,Al R] ?_)))))
   refine Sn (Qm (k:=Qm (k:=Qm (k:=?_))))
   refine WN.fact (fun _ _ s=>sl_isS (i:=0) rfl s) (fun hS21=>?_)
   refine Nf 0 fun ho22=>?_
   refine Ru (OpRun.buildSlice (qs:=[(0,r12)]) (cs:=[r12]) (E:=22) (sz:=1) rfl ⟨rfl,rfl,trivial⟩ (fun _=>by obtain ⟨_,_,_,e1⟩:=hS21; rw [e1]; kernel_rfl) (one_cons ho22 one_nil) rfl (by decide)) ?_
   rintro v19 _ ⟨h20a,h20b,h20c,rfl⟩
   refine WN.ent (Ent.know (m:=CellsRel (Enc.sl Enc.u8 5) ([r12]) ([(be 6 coll++(be 2 xs.length++xs))])) (fun K h s=>(CellsRel.cons (cs:=[r12]) (ds:=[]) rfl (Enc.sl_mk (kat 1 s rfl)) CellsRel.nil))) ?_
   refine Ne [Kx (Enc.sl Enc.u8 5) ([r12]) ([(be 6 coll++(be 2 xs.length++xs))]),Rw 22 1 v19 ([r12]),KB r12 (be 6 coll++(be 2 xs.length++xs)),Kk (Sl Enc.part 20 v10 ([Part.n coll,Part.b xs])),Kx Enc.part ([Value.iface 3 (vint coll),Value.iface 22 (b)]) ([Part.n coll,Part.b xs]),KB r1 bs2,SuiteR sp A3,KB secret ks,KB b xs,Al R] ?_
   refine WN.freezeRel (e:=Enc.sl Enc.u8 5) (i:=1) (j:=0) (Lb rfl) rfl rfl ?_
   refine Ne [KS v19 ([(be 6 coll++(be 2 xs.length++xs))]),Kx (Enc.sl Enc.u8 5) ([r12]) ([(be 6 coll++(be 2 xs.length++xs))]),KB r12 (be 6 coll++(be 2 xs.length++xs)),Kk (Sl Enc.part 20 v10 ([Part.n coll,Part.b xs])),Kx Enc.part ([Value.iface 3 (vint coll),Value.iface 22 (b)]) ([Part.n coll,Part.b xs]),KB r1 bs2,SuiteR sp A3,KB secret ks,KB b xs,Al R] ?_
   refine Wc [.tmp 31,.tmp 32,.tmp 34] [vptr sp 0,r1,v19] Tryz.call280 (Code_fn sp A3 r1 bs2 v19 ([(be 6 coll++(be 2 xs.length++xs))]) (by first | omega | (simp; done) | (simp; omega) | (simp at *; omega)) (by first | omega | (simp; done) | (simp; omega) | (simp at *; omega))) ((ed 5 rfl).trans ((ed 1 rfl).trans (ep [8,1,0] rfl))) ?_
   rintro _ _ ⟨r23,bs24,A25,h26,h27,h28,rfl,rfl⟩
   refine Qa (k:=Nw [(10,r23)] [KB r23 bs24,SuiteR sp A25,KS v19 ([(be 6 coll++(be 2 xs.length++xs))]),Kx (Enc.sl Enc.u8 5) ([r12]) ([(be 6 coll++(be 2 xs.length++xs))]),KB r12 (be 6 coll++(be 2 xs.length++xs)),Kk (Sl Enc.part 20 v10 ([Part.n coll,Part.b xs])),Kx Enc.part ([Value.iface 3 (vint coll),Value.iface 22 (b)]) ([Part.n coll,Part.b xs]),KB r1 bs2,KB secret ks,KB b xs,Al R] ?_)
   refine W.ret (ret1 (M:=[KB r23 bs24,SuiteR sp A25]) rfl rfl (⟨r23,bs24,A25,(by unfold Spec.mark; rw [h5]; have h:=h26; simpa using h),(by omega),(by omega),rfl,rfl⟩) (es [0,0,8] rfl))
  rw [Spec.putnb (by omega) (by omega)] at h17; cases h17
 exfalso; omega
theorem SSeal_fn (sp:Nat) (A:List Thing) (secret:Value) (ks:Bytes) (key:Value) (kk:Bytes) (r:Record) (bx:Value) (e:Entry) (nv:Value) (vv:Value) (wv:Value) (hA:A.length < 1099511627770):Fn Tryz.prog 184 #[vptr sp 0,secret,key,.agg #[vint r.collection,vint r.epoch,vint r.writer,vint r.count,bx],.agg #[vint e.kind,vint e.writer,vint e.seq,nv,vv,vint e.who,vint e.rights,vint e.epoch,wv]] [SuiteR sp A,KB secret ks,KB key kk,KB bx r.box,KB nv e.name,KB vv e.value,KW wv e.wraps] (fun v M=>(∃ (r':Record) (b2:Value) (A':List Thing),Spec.sseal A ks kk r e = .ok (r',A')∧A'.length≤A.length+3∧(r'.collection=r.collection∧r'.epoch=r.epoch∧r'.writer=r.writer∧r'.count=r.count)∧(80≤r'.box.length∧r'.box.length≤2064)∧.tuple #[.agg #[vint r'.collection,vint r'.epoch,vint r'.writer,vint r'.count,b2],vint 0]=v∧M=[KB b2 r'.box,SuiteR sp A'])∨(∃ (e2:Int),Spec.sseal A ks kk r e = .error e2∧e2≠0∧.tuple #[.agg #[vint 0,vint 0,vint 0,vint 0,.slice none 0 0],vint e2]=v∧M=[SuiteR sp A])):=by
 refine Fi 108 Tryz.func184 fun g R=>?_
 refine Ww [(0,vptr sp 0),(1,secret),(2,key),(3,.agg #[vint r.collection,vint r.epoch,vint r.writer,vint r.count,bx]),(4,.agg #[vint e.kind,vint e.writer,vint e.seq,nv,vv,vint e.who,vint e.rights,vint e.epoch,wv])] [SuiteR sp A,KB secret ks,KB key kk,KB bx r.box,KB nv e.name,KB vv e.value,KW wv e.wraps,Al R] ?_
 refine Sn (Ru (OpRun.box rfl rfl rfl) ?_)
 rintro _ _ ⟨b1,rfl,rfl⟩
 refine Ru (OpRun.box rfl rfl rfl) ?_
 rintro _ _ ⟨b2,rfl,rfl⟩
 refine Ru (OpRun.alloc rfl zv203 rfl) ?_
 rintro _ _ ⟨b3,rfl,rfl⟩
 refine Qa (k:=Nw [(0,vptr sp 0),(1,secret),(2,key),(8,vptr b1 0),(9,vptr b2 0),(10,vptr b3 0),(11,vint 0)] [Cl b3 203 [vint 0,vint 0,vint 0,vint 0,N0],Cl b2 33 (ecs e nv vv wv),Cl b1 203 [vint r.collection,vint r.epoch,vint r.writer,vint r.count,bx],SuiteR sp A,KB secret ks,KB key kk,KB bx r.box,KB nv e.name,KB vv e.value,KW wv e.wraps,Al R] ?_)
 refine Sn (Qu (OpQ.loadN (i:=1) rfl rfl ld33 rfl rfl rfl) (k:=?_))
 refine Wc [.tmp 21] [.agg #[vint e.kind,vint e.writer,vint e.seq,nv,vv,vint e.who,vint e.rights,vint e.epoch,wv]] Tryz.call121 (Encode_fn e nv vv wv) ((ed 7 rfl).trans ((ed 9 rfl).trans ((ed 11 rfl).trans (ep [2,1,0] rfl)))) ?_
 rintro _ _ (⟨r4,bs5,h6,h7,rfl,rfl⟩ | ⟨e8,h9,h10,rfl,rfl⟩)
 ·refine Qm (k:=Qe (k:=Qe (k:=Qa (k:=Qa (k:=Nw [(0,vptr sp 0),(1,secret),(2,key),(8,vptr b1 0),(9,vptr b2 0),(10,vptr b3 0),(11,vint 0),(12,r4),(13,vint 0)] [KB r4 bs5,Cl b3 203 [vint 0,vint 0,vint 0,vint 0,N0],Cl b2 33 (ecs e nv vv wv),Cl b1 203 [vint r.collection,vint r.epoch,vint r.writer,vint r.count,bx],SuiteR sp A,KB secret ks,KB key kk,KB bx r.box,KB nv e.name,KB vv e.value,KW wv e.wraps,Al R] ?_)))))
  refine W.seq (W.block (Sn (Qm (k:=?_))))
  refine Qu (OpQ.neq rfl rfl rfl) (k:=Qa (k:=Nl [(0,vptr sp 0),(1,secret),(2,key),(8,vptr b1 0),(9,vptr b2 0),(10,vptr b3 0),(11,vint 0),(12,r4),(13,vint 0),(25,.bool (decide ((0:Int)≠0)))] ?_))
  refine Cp rfl (fun h11=>absurd h11 (by decide)) (fun h11=>?_)
  refine Sn (Qu (Of (fa33_1 _ _)) (k:=Qu (Ol 2 ld3) (k:=Qu (Of (fa203_2 _ _)) (k:=Qu (Ol 3 ld3) (k:=Qu (OpQ.neq rfl rfl rfl) (k:=Qa (k:=Nl [(0,vptr sp 0),(1,secret),(2,key),(8,vptr b1 0),(10,vptr b3 0),(11,vint 0),(12,r4),(13,vint 0),(30,.bool (decide (e.writer≠r.writer)))] ?_)))))))
  refine Cp rfl (fun h12=>?_) (fun h12=>?_)
  ·refine Sn (Qu (OpQ.build (qs:=[]) (v:=.agg #[vint 0,vint 0,vint 0,vint 0,N0]) rfl trivial (fun _=>by kernel_rfl)) (k:=Rn (OpRun.store (i:=1) (vs:=[vint 0,vint 0,vint 0,vint 0,N0]) (cs':=[vint 0,vint 0,vint 0,vint 0,N0]) rfl rfl rfl sz203 rfl rfl (O3 (one_cons rfl (one_cons rfl one_nil))) rfl (Lb rfl) rfl) (k:=Qa (k:=Nw [(0,vptr sp 0),(1,secret),(2,key),(8,vptr b1 0),(10,vptr b3 0),(11,vint 40),(12,r4),(13,vint 0)] [Cl b3 203 [vint 0,vint 0,vint 0,vint 0,N0],KB r4 bs5,Cl b2 33 (ecs e nv vv wv),Cl b1 203 [vint r.collection,vint r.epoch,vint r.writer,vint r.count,bx],SuiteR sp A,KB secret ks,KB key kk,KB bx r.box,KB nv e.name,KB vv e.value,KW wv e.wraps,Al R] ?_))))
   refine W.ret (inblk_r (thn_r (retC2 (M:=[SuiteR sp A]) (i:=0) rfl rfl rfl rfl rfl ld203 (.inr (⟨40,(by unfold Spec.sseal; rw [h6]; show (if _ then _ else if _ then _ else if _ then _ else _)=_; rw [if_pos h12]),(by omega),rfl,rfl⟩)) (es [4,10] rfl))))
  refine Sn (Qm (k:=?_))
  refine Nk 6 fun hl13=>?_
  refine Qu (OpQ.lenSl (i:=6) rfl rfl rfl (len22 _)) (k:=Qu (OpQ.neq rfl rfl rfl) (k:=Qa (k:=Nl [(0,vptr sp 0),(1,secret),(2,key),(8,vptr b1 0),(10,vptr b3 0),(11,vint 0),(12,r4),(13,vint 0),(37,.bool (decide ((kk.length:Int)≠32)))] ?_)))
  refine Cp rfl (fun h14=>?_) (fun h14=>?_)
  ·refine Sn (Qu (OpQ.build (qs:=[]) (v:=.agg #[vint 0,vint 0,vint 0,vint 0,N0]) rfl trivial (fun _=>by kernel_rfl)) (k:=Rn (OpRun.store (i:=1) (vs:=[vint 0,vint 0,vint 0,vint 0,N0]) (cs':=[vint 0,vint 0,vint 0,vint 0,N0]) rfl rfl rfl sz203 rfl rfl (O3 (one_cons rfl (one_cons rfl one_nil))) rfl (Lb rfl) rfl) (k:=Qa (k:=Nw [(0,vptr sp 0),(1,secret),(2,key),(8,vptr b1 0),(10,vptr b3 0),(11,vint 21),(12,r4),(13,vint 0)] [Cl b3 203 [vint 0,vint 0,vint 0,vint 0,N0],KB r4 bs5,Cl b2 33 (ecs e nv vv wv),Cl b1 203 [vint r.collection,vint r.epoch,vint r.writer,vint r.count,bx],SuiteR sp A,KB secret ks,KB key kk,KB bx r.box,KB nv e.name,KB vv e.value,KW wv e.wraps,Al R] ?_))))
   refine W.ret (inblk_r (thn_r (retC2 (M:=[SuiteR sp A]) (i:=0) rfl rfl rfl rfl rfl ld203 (.inr (⟨21,(by unfold Spec.sseal; rw [h6]; show (if _ then _ else if _ then _ else if _ then _ else _)=_; rw [if_neg h12,if_pos (by omega)]),(by omega),rfl,rfl⟩)) (es [4,10] rfl))))
  refine Sn (Qu (OpQ.loadN (i:=3) rfl rfl ld203 rfl rfl rfl) (k:=?_))
  refine Wc [.tmp 43] [.agg #[vint r.collection,vint r.epoch,vint r.writer,vint r.count,bx]] Tryz.call248 (numbers_fn r bx) ((ed 7 rfl).trans (ep [0] rfl)) ?_
  rintro _ _ ⟨rfl,rfl⟩
  refine Qu (OpQ.notP rfl rfl) (k:=Qa (k:=Nw [(0,vptr sp 0),(1,secret),(2,key),(8,vptr b1 0),(10,vptr b3 0),(11,vint 0),(12,r4),(13,vint 0),(42,.bool (decide (¬ (Spec.numbers r))))] [KB r4 bs5,Cl b3 203 [vint 0,vint 0,vint 0,vint 0,N0],Cl b2 33 (ecs e nv vv wv),Cl b1 203 [vint r.collection,vint r.epoch,vint r.writer,vint r.count,bx],SuiteR sp A,KB secret ks,KB key kk,KB bx r.box,KB nv e.name,KB vv e.value,KW wv e.wraps,Al R] ?_))
  refine Cp rfl (fun h15=>?_) (fun h15=>?_)
  ·refine Sn (Qu (OpQ.build (qs:=[]) (v:=.agg #[vint 0,vint 0,vint 0,vint 0,N0]) rfl trivial (fun _=>by kernel_rfl)) (k:=Rn (OpRun.store (i:=1) (vs:=[vint 0,vint 0,vint 0,vint 0,N0]) (cs':=[vint 0,vint 0,vint 0,vint 0,N0]) rfl rfl rfl sz203 rfl rfl (O3 (one_cons rfl (one_cons rfl one_nil))) rfl (Lb rfl) rfl) (k:=Qa (k:=Nw [(0,vptr sp 0),(1,secret),(2,key),(8,vptr b1 0),(10,vptr b3 0),(11,vint 12),(12,r4),(13,vint 0)] [Cl b3 203 [vint 0,vint 0,vint 0,vint 0,N0],KB r4 bs5,Cl b2 33 (ecs e nv vv wv),Cl b1 203 [vint r.collection,vint r.epoch,vint r.writer,vint r.count,bx],SuiteR sp A,KB secret ks,KB key kk,KB bx r.box,KB nv e.name,KB vv e.value,KW wv e.wraps,Al R] ?_))))
   refine W.ret (inblk_r (thn_r (retC2 (M:=[SuiteR sp A]) (i:=0) rfl rfl rfl rfl rfl ld203 (.inr (⟨12,(by unfold Spec.sseal; rw [h6]; show (if _ then _ else if _ then _ else if _ then _ else _)=_; rw [if_neg h12,if_neg (by omega),if_pos h15]),(by omega),rfl,rfl⟩)) (es [4,10] rfl))))
  refine W.skip (inblk_n (thn_n (Wl [(0,vptr sp 0),(1,secret),(2,key),(8,vptr b1 0),(10,vptr b3 0),(11,vint 0),(12,r4),(13,vint 0)] ?_)))
  refine W.seq (W.region ?_)
  obtain ⟨hre,hl1,hl2⟩:=Spec.encode_length h6
  have hnum:Spec.numbers r:=Decidable.of_not_not h15; have hnu:=hnum; unfold Spec.numbers at hnu
  refine Qm (k:=?_)
  refine WN.fact (fun _ _ s=>sl_isS (i:=0) rfl s) (fun hS16=>?_)
  refine Qu (OpQ.mkiface (v:=r4) (u:=Value.iface 22 (r4)) rfl rfl (fun _=>by obtain ⟨_,_,_,e1⟩:=hS16; rw [e1]; kernel_rfl)) (k:=?_)
  refine Ru (OpRun.makeSlice (m:=32) (zc:=.int .u8 0) rfl (by rfl) (by rfl) (by omega) mk22 rfl) ?_
  rintro v17 _ ⟨h18a,h18b,h18c,rfl⟩; rw [bv_replicate]
  refine WN.fact (fun _ _ s=>row_isS (i:=0) rfl s) (fun hS19=>?_)
  refine Qu (OpQ.mkiface (v:=v17) (u:=Value.iface 22 (v17)) rfl rfl (fun _=>by obtain ⟨_,_,_,e1⟩:=hS19; rw [e1]; kernel_rfl)) (k:=?_)
  refine Ru (OpRun.buildSlice (qs:=[(0,Value.iface 22 (r4)),(1,Value.iface 22 (v17))]) (cs:=[Value.iface 22 (r4),Value.iface 22 (v17)]) (E:=20) (sz:=1) rfl ⟨rfl,rfl,rfl,rfl,trivial⟩ (fun _=>by kernel_rfl) (one_cons rfl (one_cons rfl one_nil)) rfl (by decide)) ?_
  rintro v20 _ ⟨h21a,h21b,h21c,rfl⟩
  refine WN.freezeB (bs:=(List.replicate 32 0)) (i:=1) rfl ?_
  refine WN.ent (Ent.know (m:=CellsRel Enc.part ([Value.iface 22 (r4),Value.iface 22 (v17)]) ([Part.b bs5,Part.b (List.replicate 32 0)])) (fun K h s=>(CellsRel.cons (cs:=[Value.iface 22 (r4)]) (ds:=[Value.iface 22 (v17)]) rfl (Enc.part_b (kat 2 s rfl)) (CellsRel.cons (cs:=[Value.iface 22 (v17)]) (ds:=[]) rfl (Enc.part_b (kat 0 s rfl)) CellsRel.nil)))) ?_
  refine Ne [Kx Enc.part ([Value.iface 22 (r4),Value.iface 22 (v17)]) ([Part.b bs5,Part.b (List.replicate 32 0)]),KB v17 (List.replicate 32 0),Rw 20 1 v20 ([Value.iface 22 (r4),Value.iface 22 (v17)]),KB r4 bs5,Cl b3 203 [vint 0,vint 0,vint 0,vint 0,N0],Cl b2 33 (ecs e nv vv wv),Cl b1 203 [vint r.collection,vint r.epoch,vint r.writer,vint r.count,bx],SuiteR sp A,KB secret ks,KB key kk,KB bx r.box,KB nv e.name,KB vv e.value,KW wv e.wraps,Al R] ?_
  refine WN.freezeRel (e:=Enc.part) (i:=2) (j:=0) (Lb rfl) rfl rfl ?_
  refine Ne [Kk (Sl Enc.part 20 v20 ([Part.b bs5,Part.b (List.replicate 32 0)])),Kx Enc.part ([Value.iface 22 (r4),Value.iface 22 (v17)]) ([Part.b bs5,Part.b (List.replicate 32 0)]),KB v17 (List.replicate 32 0),KB r4 bs5,Cl b3 203 [vint 0,vint 0,vint 0,vint 0,N0],Cl b2 33 (ecs e nv vv wv),Cl b1 203 [vint r.collection,vint r.epoch,vint r.writer,vint r.count,bx],SuiteR sp A,KB secret ks,KB key kk,KB bx r.box,KB nv e.name,KB vv e.value,KW wv e.wraps,Al R] ?_
  refine Wc [.tmp 52] [v20] Tryz.call148 (Put_fn v20 ([Part.b bs5,Part.b (List.replicate 32 0)]) (by first | omega | (simp; done) | (simp; omega) | (simp at *; omega))) ((ed 0 rfl).trans (ep [0] rfl)) ?_
  rintro _ _ (⟨r22,bs23,h24,h25,rfl,rfl⟩ | ⟨e26,h27,h28,rfl,rfl⟩)
  ·refine Qm (k:=Qe (k:=Qe (k:=Qa (k:=Qa (k:=Nw [(0,vptr sp 0),(1,secret),(2,key),(8,vptr b1 0),(10,vptr b3 0),(11,vint 0),(12,r4),(13,vint 0),(14,r22)] [KB r22 bs23,Kk (Sl Enc.part 20 v20 ([Part.b bs5,Part.b (List.replicate 32 0)])),Kx Enc.part ([Value.iface 22 (r4),Value.iface 22 (v17)]) ([Part.b bs5,Part.b (List.replicate 32 0)]),KB v17 (List.replicate 32 0),KB r4 bs5,Cl b3 203 [vint 0,vint 0,vint 0,vint 0,N0],Cl b2 33 (ecs e nv vv wv),Cl b1 203 [vint r.collection,vint r.epoch,vint r.writer,vint r.count,bx],SuiteR sp A,KB secret ks,KB key kk,KB bx r.box,KB nv e.name,KB vv e.value,KW wv e.wraps,Al R] ?_)))))
   refine W.seq (W.seq (W.region ?_))
   have hPl:bs23.length=bs5.length+36:=by have h9:=h24; rw [Spec.putbb (by omega) (by simp)] at h9; cases h9; simp; omega
   refine Qm (k:=?_)
   refine Nk 0 fun hl29=>?_
   refine Qu (OpQ.lenSl (i:=0) rfl rfl rfl (len22 _)) (k:=?_)
   refine Wc [.tmp 58] [vint (bs23.length:Int)] Tryz.call249 (Size_fn (bs23.length:Int)) (ep [] rfl) ?_
   rintro _ _ (⟨k30,h31,h32,h33,h34,h35,rfl,rfl⟩ | ⟨h36,rfl,rfl⟩)
   ·refine Qm (k:=Qe (k:=Qe (k:=Qa (k:=Nw [(0,vptr sp 0),(1,secret),(2,key),(8,vptr b1 0),(10,vptr b3 0),(11,vint 0),(12,r4),(13,vint 0),(14,r22)] [KB r22 bs23,Kk (Sl Enc.part 20 v20 ([Part.b bs5,Part.b (List.replicate 32 0)])),Kx Enc.part ([Value.iface 22 (r4),Value.iface 22 (v17)]) ([Part.b bs5,Part.b (List.replicate 32 0)]),KB v17 (List.replicate 32 0),KB r4 bs5,Cl b3 203 [vint 0,vint 0,vint 0,vint 0,N0],Cl b2 33 (ecs e nv vv wv),Cl b1 203 [vint r.collection,vint r.epoch,vint r.writer,vint r.count,bx],SuiteR sp A,KB secret ks,KB key kk,KB bx r.box,KB nv e.name,KB vv e.value,KW wv e.wraps,Al R] ?_))))
    refine Sn (Qm (k:=Qu (OpQ.neq rfl rfl rfl) (k:=Nl [(0,vptr sp 0),(1,secret),(2,key),(8,vptr b1 0),(10,vptr b3 0),(11,vint 0),(12,r4),(13,vint 0),(14,r22),(63,.bool (decide ((0:Int)≠0)))] ?_)))
    refine Cp rfl (fun h37=>absurd h37 (by decide)) (fun h37=>?_)
    refine W.skip (thn_n (Wl [(0,vptr sp 0),(1,secret),(2,key),(8,vptr b1 0),(10,vptr b3 0),(11,vint 0),(12,r4),(13,vint 0),(14,r22)] ?_))
    refine Sn (Qm (k:=Qu (OpQ.mkiface (v:=r4) (u:=Value.iface 22 (r4)) rfl rfl (fun _=>by obtain ⟨_,_,_,e1⟩:=hS16; rw [e1]; kernel_rfl)) (k:=Qm (k:=Qm (k:=Qu (Of (fa203_0 _ _)) (k:=Qu (Ol 7 ld3) (k:=Qu (Of (fa203_2 _ _)) (k:=Qu (Ol 7 ld3) (k:=Qm (k:=?_))))))))))
    refine Wc [.tmp 69,.tmp 70,.tmp 72,.tmp 74,.tmp 75] [vptr sp 0,secret,vint r.collection,vint r.writer,r4] Tryz.call250 (mark_fn sp A secret ks r.collection r.writer r4 bs5 (by first | omega | (simp; done) | (simp; omega) | (simp at *; omega)) (by first | omega | (simp; done) | (simp; omega) | (simp at *; omega)) (by first | omega | (simp; done) | (simp; omega) | (simp at *; omega)) (by first | omega | (simp; done) | (simp; omega) | (simp at *; omega))) ((ed 9 rfl).trans ((ed 5 rfl).trans (ep [10,1,0] rfl))) ?_
    rintro _ _ ⟨z38,mk39,A40,h41,h42,h43,rfl,rfl⟩
    refine WN.fact (fun _ _ s=>sl_isS (i:=0) rfl s) (fun hS44=>?_)
    refine Qu (OpQ.mkiface (v:=z38) (u:=Value.iface 22 (z38)) rfl rfl (fun _=>by obtain ⟨_,_,_,e1⟩:=hS44; rw [e1]; kernel_rfl)) (k:=?_)
    refine Ru (OpRun.buildSlice (qs:=[(0,Value.iface 22 (r4)),(1,Value.iface 22 (z38))]) (cs:=[Value.iface 22 (r4),Value.iface 22 (z38)]) (E:=20) (sz:=1) rfl ⟨rfl,rfl,rfl,rfl,trivial⟩ (fun _=>by kernel_rfl) (one_cons rfl (one_cons rfl one_nil)) rfl (by decide)) ?_
    rintro v45 _ ⟨h46a,h46b,h46c,rfl⟩
    refine WN.ent (Ent.know (m:=CellsRel Enc.part ([Value.iface 22 (r4),Value.iface 22 (z38)]) ([Part.b bs5,Part.b mk39])) (fun K h s=>(CellsRel.cons (cs:=[Value.iface 22 (r4)]) (ds:=[Value.iface 22 (z38)]) rfl (Enc.part_b (kat 7 s rfl)) (CellsRel.cons (cs:=[Value.iface 22 (z38)]) (ds:=[]) rfl (Enc.part_b (kat 1 s rfl)) CellsRel.nil)))) ?_
    refine Ne [Kx Enc.part ([Value.iface 22 (r4),Value.iface 22 (z38)]) ([Part.b bs5,Part.b mk39]),Rw 20 1 v45 ([Value.iface 22 (r4),Value.iface 22 (z38)]),KB z38 mk39,SuiteR sp A40,KB r22 bs23,Kk (Sl Enc.part 20 v20 ([Part.b bs5,Part.b (List.replicate 32 0)])),Kx Enc.part ([Value.iface 22 (r4),Value.iface 22 (v17)]) ([Part.b bs5,Part.b (List.replicate 32 0)]),KB v17 (List.replicate 32 0),KB r4 bs5,Cl b3 203 [vint 0,vint 0,vint 0,vint 0,N0],Cl b2 33 (ecs e nv vv wv),Cl b1 203 [vint r.collection,vint r.epoch,vint r.writer,vint r.count,bx],KB secret ks,KB key kk,KB bx r.box,KB nv e.name,KB vv e.value,KW wv e.wraps,Al R] ?_
    refine WN.freezeRel (e:=Enc.part) (i:=1) (j:=0) (Lb rfl) rfl rfl ?_
    refine Ne [Kk (Sl Enc.part 20 v45 ([Part.b bs5,Part.b mk39])),Kx Enc.part ([Value.iface 22 (r4),Value.iface 22 (z38)]) ([Part.b bs5,Part.b mk39]),KB z38 mk39,SuiteR sp A40,KB r22 bs23,Kk (Sl Enc.part 20 v20 ([Part.b bs5,Part.b (List.replicate 32 0)])),Kx Enc.part ([Value.iface 22 (r4),Value.iface 22 (v17)]) ([Part.b bs5,Part.b (List.replicate 32 0)]),KB v17 (List.replicate 32 0),KB r4 bs5,Cl b3 203 [vint 0,vint 0,vint 0,vint 0,N0],Cl b2 33 (ecs e nv vv wv),Cl b1 203 [vint r.collection,vint r.epoch,vint r.writer,vint r.count,bx],KB secret ks,KB key kk,KB bx r.box,KB nv e.name,KB vv e.value,KW wv e.wraps,Al R] ?_
    refine Wc [.tmp 78] [v45] Tryz.call148 (Put_fn v45 ([Part.b bs5,Part.b mk39]) (by first | omega | (simp; done) | (simp; omega) | (simp at *; omega))) ((ed 0 rfl).trans (ep [0] rfl)) ?_
    rintro _ _ (⟨r47,bs48,h49,h50,rfl,rfl⟩ | ⟨e51,h52,h53,rfl,rfl⟩)
    ·refine Qm (k:=Qe (k:=Qe (k:=Qa (k:=Nw [(0,vptr sp 0),(2,key),(8,vptr b1 0),(10,vptr b3 0),(11,vint 0),(13,vint 0),(14,r47)] [KB r47 bs48,Kk (Sl Enc.part 20 v45 ([Part.b bs5,Part.b mk39])),Kx Enc.part ([Value.iface 22 (r4),Value.iface 22 (z38)]) ([Part.b bs5,Part.b mk39]),KB z38 mk39,SuiteR sp A40,KB r22 bs23,Kk (Sl Enc.part 20 v20 ([Part.b bs5,Part.b (List.replicate 32 0)])),Kx Enc.part ([Value.iface 22 (r4),Value.iface 22 (v17)]) ([Part.b bs5,Part.b (List.replicate 32 0)]),KB v17 (List.replicate 32 0),KB r4 bs5,Cl b3 203 [vint 0,vint 0,vint 0,vint 0,N0],Cl b2 33 (ecs e nv vv wv),Cl b1 203 [vint r.collection,vint r.epoch,vint r.writer,vint r.count,bx],KB secret ks,KB key kk,KB bx r.box,KB nv e.name,KB vv e.value,KW wv e.wraps,Al R] ?_))))
     refine W.seq (W.region ?_)
     obtain rfl:bs48=be 2 bs5.length++bs5++(be 2 mk39.length++mk39):=by rw [Spec.putbb (by omega) (by omega)] at h49; cases h49; rfl
     refine Qm (k:=?_)
     refine Wc [.tmp 83] [r47] Tryz.call251 (Pad_fn r47 (be 2 bs5.length++bs5++(be 2 mk39.length++mk39)) (by first | omega | (simp; done) | (simp; omega) | (simp at *; omega))) ((ed 0 rfl).trans (ep [0] rfl)) ?_
     rintro _ _ (⟨r54,x55,h56,h57,h58,rfl,rfl⟩ | ⟨h59,rfl,rfl⟩)
     ·refine Qm (k:=Qe (k:=Qe (k:=Qa (k:=Qa (k:=Nw [(0,vptr sp 0),(2,key),(8,vptr b1 0),(10,vptr b3 0),(11,vint 0),(13,vint 0),(16,r54)] [KB r54 x55,KB r47 (be 2 bs5.length++bs5++(be 2 mk39.length++mk39)),Kk (Sl Enc.part 20 v45 ([Part.b bs5,Part.b mk39])),Kx Enc.part ([Value.iface 22 (r4),Value.iface 22 (z38)]) ([Part.b bs5,Part.b mk39]),KB z38 mk39,SuiteR sp A40,KB r22 bs23,Kk (Sl Enc.part 20 v20 ([Part.b bs5,Part.b (List.replicate 32 0)])),Kx Enc.part ([Value.iface 22 (r4),Value.iface 22 (v17)]) ([Part.b bs5,Part.b (List.replicate 32 0)]),KB v17 (List.replicate 32 0),KB r4 bs5,Cl b3 203 [vint 0,vint 0,vint 0,vint 0,N0],Cl b2 33 (ecs e nv vv wv),Cl b1 203 [vint r.collection,vint r.epoch,vint r.writer,vint r.count,bx],KB secret ks,KB key kk,KB bx r.box,KB nv e.name,KB vv e.value,KW wv e.wraps,Al R] ?_)))))
      refine Sn (Qu (Of (fa203_2 _ _)) (k:=Qu (Ol 13 ld3) (k:=Qu (Of (fa203_3 _ _)) (k:=Qu (Ol 13 ld3) (k:=?_)))))
      refine Wc [.tmp 89,.tmp 91] [vint r.writer,vint r.count] Tryz.call212 (Nonce_fn r.writer r.count) (ep [] rfl) ?_
      rintro _ _ (⟨r60,bs61,h62,h63,rfl,rfl⟩ | ⟨h64,rfl,rfl⟩)
      ·refine Qm (k:=Qe (k:=Qe (k:=Qa (k:=Qa (k:=Nw [(0,vptr sp 0),(2,key),(8,vptr b1 0),(10,vptr b3 0),(11,vint 0),(13,vint 0),(16,r54),(18,r60)] [KB r60 bs61,KB r54 x55,KB r47 (be 2 bs5.length++bs5++(be 2 mk39.length++mk39)),Kk (Sl Enc.part 20 v45 ([Part.b bs5,Part.b mk39])),Kx Enc.part ([Value.iface 22 (r4),Value.iface 22 (z38)]) ([Part.b bs5,Part.b mk39]),KB z38 mk39,SuiteR sp A40,KB r22 bs23,Kk (Sl Enc.part 20 v20 ([Part.b bs5,Part.b (List.replicate 32 0)])),Kx Enc.part ([Value.iface 22 (r4),Value.iface 22 (v17)]) ([Part.b bs5,Part.b (List.replicate 32 0)]),KB v17 (List.replicate 32 0),KB r4 bs5,Cl b3 203 [vint 0,vint 0,vint 0,vint 0,N0],Cl b2 33 (ecs e nv vv wv),Cl b1 203 [vint r.collection,vint r.epoch,vint r.writer,vint r.count,bx],KB secret ks,KB key kk,KB bx r.box,KB nv e.name,KB vv e.value,KW wv e.wraps,Al R] ?_)))))
       refine Sn (Qm (k:=Qm (k:=Qm (k:=Qu (OpQ.loadN (i:=14) rfl rfl ld203 rfl rfl rfl) (k:=?_)))))
       refine Wc [.tmp 99] [.agg #[vint r.collection,vint r.epoch,vint r.writer,vint r.count,bx]] Tryz.call252 (front_fn r bx (by first | assumption | (simp_all; done) | (unfold Spec.rright at *; simp_all))) ((ed 17 rfl).trans (ep [0] rfl)) ?_
       rintro _ _ ⟨z65,rfl,rfl⟩
       refine Qm (k:=?_)
       refine Wc [.tmp 96,.tmp 97,.tmp 98,.tmp 100,.tmp 101] [vptr sp 0,key,r60,z65,r54] Tryz.call213 (Seal_fn sp A40 key r60 z65 r54 kk bs61 (Spec.front r) x55 (by first | omega | (simp; done) | (simp; omega) | (simp at *; omega)) (by first | omega | (simp; done) | (simp; omega) | (simp at *; omega))) ((ed 17 rfl).trans ((ed 2 rfl).trans ((ed 2 rfl).trans ((ed 5 rfl).trans (ep [11,3,2,1,0] rfl))))) ?_
       rintro _ _ (⟨r66,bs67,A68,h69,h70,h71,rfl,rfl⟩ | ⟨h72,rfl,rfl⟩)
       ·refine Qm (k:=Qe (k:=Qe (k:=Qu (Of (fa203_4 _ _)) (k:=?_))))
        refine Nf 0 fun ho73=>?_
        refine Rn (OpRun.store (i:=16) (vs:=[r66]) (cs':=[vint r.collection,vint r.epoch,vint r.writer,vint r.count,r66]) rfl rfl rfl sz22 (cells_one ho73) rfl (one_cons ho73 one_nil) rfl (Lb rfl) rfl) (k:=Qa (k:=Nw [(8,vptr b1 0),(10,vptr b3 0),(11,vint 0),(13,vint 0)] [Cl b1 203 [vint r.collection,vint r.epoch,vint r.writer,vint r.count,r66],KB r66 bs67,SuiteR sp A68,KB z65 (Spec.front r),KB r60 bs61,KB r54 x55,KB r47 (be 2 bs5.length++bs5++(be 2 mk39.length++mk39)),Kk (Sl Enc.part 20 v45 ([Part.b bs5,Part.b mk39])),Kx Enc.part ([Value.iface 22 (r4),Value.iface 22 (z38)]) ([Part.b bs5,Part.b mk39]),KB z38 mk39,KB r22 bs23,Kk (Sl Enc.part 20 v20 ([Part.b bs5,Part.b (List.replicate 32 0)])),Kx Enc.part ([Value.iface 22 (r4),Value.iface 22 (v17)]) ([Part.b bs5,Part.b (List.replicate 32 0)]),KB v17 (List.replicate 32 0),KB r4 bs5,Cl b3 203 [vint 0,vint 0,vint 0,vint 0,N0],Cl b2 33 (ecs e nv vv wv),KB secret ks,KB key kk,KB bx r.box,KB nv e.name,KB vv e.value,KW wv e.wraps,Al R] ?_))
        refine Sn (Qu (OpQ.loadN (i:=0) rfl rfl ld203 rfl rfl rfl) (k:=Qm (k:=Rn (OpRun.store (i:=15) (vs:=[vint r.collection,vint r.epoch,vint r.writer,vint r.count,r66]) (cs':=[vint r.collection,vint r.epoch,vint r.writer,vint r.count,r66]) rfl rfl rfl sz203 rfl rfl (O3 (one_cons rfl (one_cons ho73 one_nil))) rfl (Lb rfl) rfl) (k:=Qa (k:=Nw [(10,vptr b3 0),(11,vint 0)] [Cl b3 203 [vint r.collection,vint r.epoch,vint r.writer,vint r.count,r66],Cl b1 203 [vint r.collection,vint r.epoch,vint r.writer,vint r.count,r66],KB r66 bs67,SuiteR sp A68,KB z65 (Spec.front r),KB r60 bs61,KB r54 x55,KB r47 (be 2 bs5.length++bs5++(be 2 mk39.length++mk39)),Kk (Sl Enc.part 20 v45 ([Part.b bs5,Part.b mk39])),Kx Enc.part ([Value.iface 22 (r4),Value.iface 22 (z38)]) ([Part.b bs5,Part.b mk39]),KB z38 mk39,KB r22 bs23,Kk (Sl Enc.part 20 v20 ([Part.b bs5,Part.b (List.replicate 32 0)])),Kx Enc.part ([Value.iface 22 (r4),Value.iface 22 (v17)]) ([Part.b bs5,Part.b (List.replicate 32 0)]),KB v17 (List.replicate 32 0),KB r4 bs5,Cl b2 33 (ecs e nv vv wv),KB secret ks,KB key kk,KB bx r.box,KB nv e.name,KB vv e.value,KW wv e.wraps,Al R] ?_)))))
        refine W.ret (retC2 (M:=[KB r66 ((⟨r.collection,r.epoch,r.writer,r.count,bs67⟩:Record).box),SuiteR sp A68]) (i:=0) rfl rfl rfl rfl rfl ld203 (.inl ⟨(⟨r.collection,r.epoch,r.writer,r.count,bs67⟩:Record),r66,A68,(by unfold Spec.sseal; rw [h6]; show (if _ then _ else if _ then _ else if _ then _ else _)=_; rw [if_neg h12,if_neg (by omega),if_neg (fun h=>h hnum)]; have hs9:Spec.bsize ((2+bs5.length+34:Nat):Int) = .ok k30:=(by rw [show 2+bs5.length+34=bs23.length from by omega]; exact h31); simp only [hs9,h41,h56,h62,h69]),(by omega),(by exact ⟨rfl,rfl,rfl,rfl⟩),(by show 80≤bs67.length∧bs67.length≤2064; omega),rfl,rfl⟩) (es [2,2,21] rfl))
       exfalso; unfold Spec.shut at h72; rw [if_pos (by omega)] at h72; cases h72
      exfalso; unfold Spec.nonce at h64; rw [if_pos (by omega)] at h64; cases h64
     exfalso; exact Spec.pad_ok (by simp; omega) h59
    rw [Spec.putbb (by omega) (by first | omega | simp)] at h52; cases h52
   exfalso; unfold Spec.bsize at h36; rw [if_neg (by omega)] at h36; (repeat' split at h36) <;> cases h36
  rw [Spec.putbb (by omega) (by first | omega | simp)] at h27; cases h27
 refine Qm (k:=Qe (k:=Qe (k:=Qa (k:=Qa (k:=Nw [(0,vptr sp 0),(1,secret),(2,key),(8,vptr b1 0),(9,vptr b2 0),(10,vptr b3 0),(11,vint 0),(12,N0),(13,vint e8)] [Cl b3 203 [vint 0,vint 0,vint 0,vint 0,N0],Cl b2 33 (ecs e nv vv wv),Cl b1 203 [vint r.collection,vint r.epoch,vint r.writer,vint r.count,bx],SuiteR sp A,KB secret ks,KB key kk,KB bx r.box,KB nv e.name,KB vv e.value,KW wv e.wraps,Al R] ?_)))))
 refine W.seq (W.block (Sn (Qm (k:=?_))))
 refine Qu (OpQ.neq rfl rfl rfl) (k:=Qa (k:=Nl [(0,vptr sp 0),(1,secret),(2,key),(8,vptr b1 0),(9,vptr b2 0),(10,vptr b3 0),(11,vint 0),(12,N0),(13,vint e8),(25,.bool (decide (e8≠0)))] ?_))
 refine Cp rfl (fun h74=>?_) (fun h74=>absurd h10 h74)
 refine Sn (Qu (OpQ.build (qs:=[]) (v:=.agg #[vint 0,vint 0,vint 0,vint 0,N0]) rfl trivial (fun _=>by kernel_rfl)) (k:=Qm (k:=Rn (OpRun.store (i:=0) (vs:=[vint 0,vint 0,vint 0,vint 0,N0]) (cs':=[vint 0,vint 0,vint 0,vint 0,N0]) rfl rfl rfl sz203 rfl rfl (O3 (one_cons rfl (one_cons rfl one_nil))) rfl (Lb rfl) rfl) (k:=Qa (k:=Nw [(0,vptr sp 0),(1,secret),(2,key),(8,vptr b1 0),(10,vptr b3 0),(11,vint e8),(12,N0),(13,vint e8)] [Cl b3 203 [vint 0,vint 0,vint 0,vint 0,N0],Cl b2 33 (ecs e nv vv wv),Cl b1 203 [vint r.collection,vint r.epoch,vint r.writer,vint r.count,bx],SuiteR sp A,KB secret ks,KB key kk,KB bx r.box,KB nv e.name,KB vv e.value,KW wv e.wraps,Al R] ?_)))))
 refine W.ret (inblk_r (thn_r (retC2 (M:=[SuiteR sp A]) (i:=0) rfl rfl rfl rfl rfl ld203 (.inr (⟨e8,(by unfold Spec.sseal; rw [h9]),(by assumption),rfl,rfl⟩)) (es [3,9] rfl))))
theorem SOpen_fn (sp:Nat) (A:List Thing) (secret:Value) (ks:Bytes) (key:Value) (kk:Bytes) (r:Record) (bx:Value) (hA:A.length < 1099511627770):Fn Tryz.prog 196 #[vptr sp 0,secret,key,.agg #[vint r.collection,vint r.epoch,vint r.writer,vint r.count,bx]] [SuiteR sp A,KB secret ks,KB key kk,KB bx r.box] (fun v M=>(∃ (e:Entry) (n2:Value) (v2:Value) (w2:Value) (A':List Thing),Spec.sopen A ks kk r=(.ok e,A')∧A'.length≤A.length+2∧.tuple #[.agg #[vint e.kind,vint e.writer,vint e.seq,n2,v2,vint e.who,vint e.rights,vint e.epoch,w2],vint 0]=v∧M=[KB n2 e.name,KB v2 e.value,KW w2 e.wraps,SuiteR sp A'])∨(∃ (e2:Int) (A':List Thing),Spec.sopen A ks kk r=(.error e2,A')∧e2≠0∧A'.length≤A.length+2∧.tuple #[.agg #[vint 0,vint 0,vint 0,.slice none 0 0,.slice none 0 0,vint 0,vint 0,vint 0,.slice none 0 0],vint e2]=v∧M=[SuiteR sp A'])):=by
 refine Fi 102 Tryz.func196 fun g R=>?_
 refine Ww [(0,vptr sp 0),(1,secret),(2,key),(3,.agg #[vint r.collection,vint r.epoch,vint r.writer,vint r.count,bx])] [SuiteR sp A,KB secret ks,KB key kk,KB bx r.box,Al R] ?_
 refine Sn (Ru (OpRun.box rfl rfl rfl) ?_)
 rintro _ _ ⟨b1,rfl,rfl⟩
 refine Ru (OpRun.alloc rfl zv33 rfl) ?_
 rintro _ _ ⟨b2,rfl,rfl⟩
 refine Qa (k:=Nw [(0,vptr sp 0),(1,secret),(2,key),(7,vptr b1 0),(8,vptr b2 0),(9,vint 0)] [Cl b2 33 [vint 0,vint 0,vint 0,N0,N0,vint 0,vint 0,vint 0,N0],Cl b1 203 [vint r.collection,vint r.epoch,vint r.writer,vint r.count,bx],SuiteR sp A,KB secret ks,KB key kk,KB bx r.box,Al R] ?_)
 refine W.seq (W.block (Sn (Qu (OpQ.loadN (i:=1) rfl rfl ld203 rfl rfl rfl) (k:=?_))))
 refine Wc [.tmp 21] [.agg #[vint r.collection,vint r.epoch,vint r.writer,vint r.count,bx]] Tryz.call253 (RRight_fn r bx) ((ed 5 rfl).trans (ep [0] rfl)) ?_
 rintro _ _ ⟨rfl,rfl⟩
 refine Qu (OpQ.notP rfl rfl) (k:=Qa (k:=Nw [(0,vptr sp 0),(1,secret),(2,key),(7,vptr b1 0),(8,vptr b2 0),(9,vint 0),(20,.bool (decide (¬ (Spec.rright r))))] [Cl b2 33 [vint 0,vint 0,vint 0,N0,N0,vint 0,vint 0,vint 0,N0],Cl b1 203 [vint r.collection,vint r.epoch,vint r.writer,vint r.count,bx],SuiteR sp A,KB secret ks,KB key kk,KB bx r.box,Al R] ?_))
 refine Cp rfl (fun h3=>?_) (fun h3=>?_)
 ·refine Sn (Qu (OpQ.build (qs:=[]) (v:=.agg #[vint 0,vint 0,vint 0,N0,N0,vint 0,vint 0,vint 0,N0]) rfl trivial (fun _=>by kernel_rfl)) (k:=Rn (OpRun.store (i:=0) (vs:=[vint 0,vint 0,vint 0,N0,N0,vint 0,vint 0,vint 0,N0]) (cs':=[vint 0,vint 0,vint 0,N0,N0,vint 0,vint 0,vint 0,N0]) rfl rfl rfl sz33 rfl rfl (O3 (O3 (O3 one_nil))) rfl (Lb rfl) rfl) (k:=Qa (k:=Nw [(0,vptr sp 0),(1,secret),(2,key),(7,vptr b1 0),(8,vptr b2 0),(9,vint 10)] [Cl b2 33 [vint 0,vint 0,vint 0,N0,N0,vint 0,vint 0,vint 0,N0],Cl b1 203 [vint r.collection,vint r.epoch,vint r.writer,vint r.count,bx],SuiteR sp A,KB secret ks,KB key kk,KB bx r.box,Al R] ?_))))
  refine W.ret (inblk_r (thn_r (retC2 (M:=[SuiteR sp A]) (i:=0) rfl rfl rfl rfl rfl ld33 (.inr (⟨10,A,(by unfold Spec.sopen; rw [if_pos (by assumption)]),(by omega),(by omega),rfl,rfl⟩)) (es [2,5] rfl))))
 refine Sn (Qm (k:=?_))
 refine Nk 4 fun hl4=>?_
 refine Qu (OpQ.lenSl (i:=4) rfl rfl rfl (len22 _)) (k:=Qu (OpQ.neq rfl rfl rfl) (k:=Qa (k:=Nl [(0,vptr sp 0),(1,secret),(2,key),(7,vptr b1 0),(8,vptr b2 0),(9,vint 0),(25,.bool (decide ((kk.length:Int)≠32)))] ?_)))
 refine Cp rfl (fun h5=>?_) (fun h5=>?_)
 ·refine Sn (Qu (OpQ.build (qs:=[]) (v:=.agg #[vint 0,vint 0,vint 0,N0,N0,vint 0,vint 0,vint 0,N0]) rfl trivial (fun _=>by kernel_rfl)) (k:=Rn (OpRun.store (i:=0) (vs:=[vint 0,vint 0,vint 0,N0,N0,vint 0,vint 0,vint 0,N0]) (cs':=[vint 0,vint 0,vint 0,N0,N0,vint 0,vint 0,vint 0,N0]) rfl rfl rfl sz33 rfl rfl (O3 (O3 (O3 one_nil))) rfl (Lb rfl) rfl) (k:=Qa (k:=Nw [(0,vptr sp 0),(1,secret),(2,key),(7,vptr b1 0),(8,vptr b2 0),(9,vint 21)] [Cl b2 33 [vint 0,vint 0,vint 0,N0,N0,vint 0,vint 0,vint 0,N0],Cl b1 203 [vint r.collection,vint r.epoch,vint r.writer,vint r.count,bx],SuiteR sp A,KB secret ks,KB key kk,KB bx r.box,Al R] ?_))))
  refine W.ret (inblk_r (thn_r (retC2 (M:=[SuiteR sp A]) (i:=0) rfl rfl rfl rfl rfl ld33 (.inr (⟨21,A,(by unfold Spec.sopen; rw [if_neg (fun h=>h3 h),if_pos (by omega)]),(by omega),(by omega),rfl,rfl⟩)) (es [2,5] rfl))))
 refine W.skip (inblk_n (thn_n (Wl [(0,vptr sp 0),(1,secret),(2,key),(7,vptr b1 0),(8,vptr b2 0),(9,vint 0)] ?_)))
 refine W.seq (W.region ?_)
 have hrr:Spec.rright r:=Decidable.of_not_not h3; have hnum:=hrr.1; have hnu:=hrr; unfold Spec.rright Spec.numbers at hnu
 refine Qu (Of (fa203_2 _ _)) (k:=Qu (Ol 1 ld3) (k:=Qu (Of (fa203_3 _ _)) (k:=Qu (Ol 1 ld3) (k:=?_))))
 refine Wc [.tmp 32,.tmp 34] [vint r.writer,vint r.count] Tryz.call212 (Nonce_fn r.writer r.count) (ep [] rfl) ?_
 rintro _ _ (⟨r6,bs7,h8,h9,rfl,rfl⟩ | ⟨h10,rfl,rfl⟩)
 ·refine Qm (k:=Qe (k:=Qe (k:=Qa (k:=Qa (k:=Nw [(0,vptr sp 0),(1,secret),(2,key),(7,vptr b1 0),(8,vptr b2 0),(9,vint 0),(10,r6)] [KB r6 bs7,Cl b2 33 [vint 0,vint 0,vint 0,N0,N0,vint 0,vint 0,vint 0,N0],Cl b1 203 [vint r.collection,vint r.epoch,vint r.writer,vint r.count,bx],SuiteR sp A,KB secret ks,KB key kk,KB bx r.box,Al R] ?_)))))
  refine W.seq (W.drawG mixed ?_)
  refine Gq 0 [] rfl (OpQ.move rfl rfl) ?_
  refine Gq 1 [] rfl (OpQ.move rfl rfl) ?_
  refine Gq 2 [] rfl (OpQ.move rfl rfl) ?_
  refine WG.hold (Cl b1 203 [vint r.collection,vint r.epoch,vint r.writer,vint r.count,bx],[]) ?_
  refine Gq 3 [2] rfl (OpQ.loadN (i:=0) rfl rfl ld203 rfl rfl rfl) ?_
  refine Gq 5 [2] rfl (Of (fa203_4 _ _)) ?_
  refine Gq 6 [2] rfl (Ol 0 ld22) ?_
  refine WG.one (i:=4) (by kernel_rfl) (UpG.call rfl rfl rfl (OpCall.mk (xs:=[.tmp 42]) (vs:=[.agg #[vint r.collection,vint r.epoch,vint r.writer,vint r.count,bx]]) rfl ⟨rfl,trivial⟩ Tryz.call252) (front_fn r bx (by first | assumption | (simp_all; done) | (unfold Spec.rright at *; simp_all))) ((ed 6 rfl).trans (ep [0] rfl)) ?_)
  rintro _ _ ⟨z11,rfl,rfl⟩
  refine ⟨es [3] rfl,?_⟩
  refine WG.one (i:=7) (by kernel_rfl) (UpG.call rfl rfl rfl (OpCall.mk (xs:=[.tmp 39,.tmp 40,.tmp 41,.tmp 43,.tmp 45]) (vs:=[vptr sp 0,key,r6,z11,bx]) rfl ⟨rfl,rfl,rfl,rfl,rfl,trivial⟩ Tryz.call268) (Open_fn sp A key r6 z11 bx kk bs7 (Spec.front r) r.box) ((ed 6 rfl).trans ((ed 2 rfl).trans ((ed 2 rfl).trans ((ed 10 rfl).trans (ep [8,3,2,1,0] rfl))))) ?_)
  rintro _ _ (⟨r12,x13,h14,h15,rfl,rfl⟩ | ⟨e16,h17,h18,h19,rfl,rfl⟩)
  ·refine ⟨es [5] rfl,?_⟩
   refine Gq 8 [5] rfl (OpQ.move rfl rfl) ?_
   refine Gq 9 [5] rfl (OpQ.extract rfl rfl rfl) ?_
   refine Gq 10 [5] rfl (OpQ.extract rfl rfl rfl) ?_
   refine Gq 11 [5] rfl (OpQ.assign rfl rfl) ?_
   refine Gq 12 [5] rfl (OpQ.assign rfl rfl) ?_
   refine WG.done (by kernel_rfl) ?_
   refine thn_n (Ww [(0,vptr sp 0),(1,secret),(7,vptr b1 0),(8,vptr b2 0),(9,vint 0),(12,r12),(13,vint 0)] [KB r12 x13,SuiteR sp A,KB z11 (Spec.front r),KB r6 bs7,Cl b2 33 [vint 0,vint 0,vint 0,N0,N0,vint 0,vint 0,vint 0,N0],Cl b1 203 [vint r.collection,vint r.epoch,vint r.writer,vint r.count,bx],KB secret ks,KB key kk,KB bx r.box,Al R] ?_)
   refine W.seq (Sn (Qm (k:=?_)))
   refine Qu (OpQ.neq rfl rfl rfl) (k:=Nl [(0,vptr sp 0),(1,secret),(7,vptr b1 0),(8,vptr b2 0),(9,vint 0),(12,r12),(13,vint 0),(50,.bool (decide ((0:Int)≠0)))] ?_)
   refine Cp rfl (fun h20=>absurd h20 (by decide)) (fun h20=>?_)
   refine W.skip (thn_n (Wl [(0,vptr sp 0),(1,secret),(7,vptr b1 0),(8,vptr b2 0),(9,vint 0),(12,r12),(13,vint 0)] ?_))
   refine Sn (Qm (k:=?_))
   refine Wc [.tmp 53] [r12] Tryz.call269 (Strip_fn r12 x13) ((ed 0 rfl).trans (ep [0] rfl)) ?_
   rintro _ _ (⟨r21,x22,h23,h24,rfl,rfl⟩ | ⟨h25,rfl,rfl⟩)
   ·refine Qm (k:=Qe (k:=Qe (k:=Qa (k:=Qa (k:=Nw [(0,vptr sp 0),(1,secret),(7,vptr b1 0),(8,vptr b2 0),(9,vint 0),(13,vint 0),(14,r21)] [KB r21 x22,KB r12 x13,SuiteR sp A,KB z11 (Spec.front r),KB r6 bs7,Cl b2 33 [vint 0,vint 0,vint 0,N0,N0,vint 0,vint 0,vint 0,N0],Cl b1 203 [vint r.collection,vint r.epoch,vint r.writer,vint r.count,bx],KB secret ks,KB key kk,KB bx r.box,Al R] ?_)))))
    refine Sn (Qm (k:=?_))
    refine Wc [.tmp 57] [r21] Tryz.call142 (Read_fn r21 x22 (by first | omega | (simp; done) | (simp; omega) | (simp at *; omega))) ((ed 0 rfl).trans (ep [0] rfl)) ?_
    rintro _ _ ⟨rp26,rfl,rfl⟩
    refine Qa (k:=Nw [(0,vptr sp 0),(1,secret),(7,vptr b1 0),(8,vptr b2 0),(9,vint 0),(13,vint 0),(15,vptr rp26 0)] [ReaderR rp26 (some x22),KB r21 x22,KB r12 x13,SuiteR sp A,KB z11 (Spec.front r),KB r6 bs7,Cl b2 33 [vint 0,vint 0,vint 0,N0,N0,vint 0,vint 0,vint 0,N0],Cl b1 203 [vint r.collection,vint r.epoch,vint r.writer,vint r.count,bx],KB secret ks,KB key kk,KB bx r.box,Al R] ?_)
    refine Sn (Qm (k:=?_))
    refine Wc [.tmp 59,.const (.int .i64 0),.const (.int .i64 4096)] [vptr rp26 0,vint 0,vint 4096] Tryz.call145 (Text_fn rp26 (some x22) 0 4096 (by first | omega | (simp; done) | (simp; omega) | (simp at *; omega)) (by first | omega | (simp; done) | (simp; omega) | (simp at *; omega))) (ep [0] rfl) ?_
    rintro _ _ ⟨r27,x28,s29,h30,rfl,rfl⟩
    refine Qa (k:=Nw [(0,vptr sp 0),(1,secret),(7,vptr b1 0),(8,vptr b2 0),(9,vint 0),(13,vint 0),(15,vptr rp26 0),(16,r27)] [KB r27 x28,ReaderR rp26 s29,KB r21 x22,KB r12 x13,SuiteR sp A,KB z11 (Spec.front r),KB r6 bs7,Cl b2 33 [vint 0,vint 0,vint 0,N0,N0,vint 0,vint 0,vint 0,N0],Cl b1 203 [vint r.collection,vint r.epoch,vint r.writer,vint r.count,bx],KB secret ks,KB key kk,KB bx r.box,Al R] ?_)
    refine Sn (Qm (k:=?_))
    refine Wc [.tmp 61,.const (.int .i64 0),.const (.int .i64 4096)] [vptr rp26 0,vint 0,vint 4096] Tryz.call145 (Text_fn rp26 s29 0 4096 (by first | omega | (simp; done) | (simp; omega) | (simp at *; omega)) (by first | omega | (simp; done) | (simp; omega) | (simp at *; omega))) (ep [1] rfl) ?_
    rintro _ _ ⟨r31,x32,s33,h34,rfl,rfl⟩
    refine Qa (k:=Nw [(0,vptr sp 0),(1,secret),(7,vptr b1 0),(8,vptr b2 0),(9,vint 0),(13,vint 0),(15,vptr rp26 0),(16,r27),(17,r31)] [KB r31 x32,ReaderR rp26 s33,KB r27 x28,KB r21 x22,KB r12 x13,SuiteR sp A,KB z11 (Spec.front r),KB r6 bs7,Cl b2 33 [vint 0,vint 0,vint 0,N0,N0,vint 0,vint 0,vint 0,N0],Cl b1 203 [vint r.collection,vint r.epoch,vint r.writer,vint r.count,bx],KB secret ks,KB key kk,KB bx r.box,Al R] ?_)
    refine W.seq (W.region ?_)
    have hbl:=Spec.rtext_length h30 (by omega)
    refine Qm (k:=?_)
    refine Wc [.tmp 64] [r27] Tryz.call122 (Decode_fn r27 x28 (by first | omega | (simp; done) | (simp; omega) | (simp at *; omega))) ((ed 2 rfl).trans (ep [0] rfl)) ?_
    rintro _ _ (⟨e35,n36,v37,w38,h39,rfl,rfl⟩ | ⟨h40,rfl,rfl⟩)
    ·refine Qm (k:=Qe (k:=Qe (k:=?_)))
     refine Ru (OpRun.alloc rfl zv33 rfl) ?_
     rintro _ _ ⟨b41,rfl,rfl⟩
     refine Nf 3 fun ho42=>?_
     refine Nf 2 fun ho43=>?_
     refine Nf 1 fun ho44=>?_
     refine Rn (OpRun.store (i:=0) (vs:=[vint e35.kind,vint e35.writer,vint e35.seq,n36,v37,vint e35.who,vint e35.rights,vint e35.epoch,w38]) (cs':=[vint e35.kind,vint e35.writer,vint e35.seq,n36,v37,vint e35.who,vint e35.rights,vint e35.epoch,w38]) rfl rfl rfl sz33 rfl rfl (O3 (one_cons ho44 (one_cons ho43 (O3 (one_cons ho42 one_nil))))) rfl (Lb rfl) rfl) (k:=Qa (k:=Nw [(0,vptr sp 0),(1,secret),(7,vptr b1 0),(8,vptr b2 0),(9,vint 0),(13,vint 0),(15,vptr rp26 0),(16,r27),(17,r31),(18,vptr b41 0),(19,vint 0)] [Cl b41 33 (ecs e35 n36 v37 w38),KB n36 e35.name,KB v37 e35.value,KW w38 e35.wraps,KB r31 x32,ReaderR rp26 s33,KB r27 x28,KB r21 x22,KB r12 x13,SuiteR sp A,KB z11 (Spec.front r),KB r6 bs7,Cl b2 33 [vint 0,vint 0,vint 0,N0,N0,vint 0,vint 0,vint 0,N0],Cl b1 203 [vint r.collection,vint r.epoch,vint r.writer,vint r.count,bx],KB secret ks,KB key kk,KB bx r.box,Al R] ?_))
     refine W.seq (W.block (Sn (Qm (k:=?_))))
     refine Qu (OpQ.decF (OpQ.neq rfl rfl rfl) (by decide)) (k:=Qm (k:=Qm (k:=?_)))
     refine Wc [.tmp 72] [vptr rp26 0] Tryz.call146 (End_fn rp26 s33) (ep [5] rfl) ?_
     rintro _ _ ⟨rfl,rfl⟩
     refine Qu (OpQ.notP rfl rfl) (k:=?_)
     by_cases h45:¬ (s33=some [])
     ·refine Qu (OpQ.decT (OpQ.pickF rfl rfl rfl) h45) (k:=Qm (k:=Qs (k:=Qs (k:=Qt (k:=Qa (k:=Nw [(0,vptr sp 0),(1,secret),(7,vptr b1 0),(8,vptr b2 0),(9,vint 0),(16,r27),(17,r31),(18,vptr b41 0),(68,.bool true)] [ReaderR rp26 s33,Cl b41 33 (ecs e35 n36 v37 w38),KB n36 e35.name,KB v37 e35.value,KW w38 e35.wraps,KB r31 x32,KB r27 x28,KB r21 x22,KB r12 x13,SuiteR sp A,KB z11 (Spec.front r),KB r6 bs7,Cl b2 33 [vint 0,vint 0,vint 0,N0,N0,vint 0,vint 0,vint 0,N0],Cl b1 203 [vint r.collection,vint r.epoch,vint r.writer,vint r.count,bx],KB secret ks,KB key kk,KB bx r.box,Al R] ?_))))))
      refine W.condT rfl ?_
      refine Sn (Qu (OpQ.build (qs:=[]) (v:=.agg #[vint 0,vint 0,vint 0,N0,N0,vint 0,vint 0,vint 0,N0]) rfl trivial (fun _=>by kernel_rfl)) (k:=Rn (OpRun.store (i:=12) (vs:=[vint 0,vint 0,vint 0,N0,N0,vint 0,vint 0,vint 0,N0]) (cs':=[vint 0,vint 0,vint 0,N0,N0,vint 0,vint 0,vint 0,N0]) rfl rfl rfl sz33 rfl rfl (O3 (O3 (O3 one_nil))) rfl (Lb rfl) rfl) (k:=Qa (k:=Nw [(8,vptr b2 0),(9,vint 10),(18,vptr b41 0)] [Cl b2 33 [vint 0,vint 0,vint 0,N0,N0,vint 0,vint 0,vint 0,N0],ReaderR rp26 s33,Cl b41 33 (ecs e35 n36 v37 w38),KB n36 e35.name,KB v37 e35.value,KW w38 e35.wraps,KB r31 x32,KB r27 x28,KB r21 x22,KB r12 x13,SuiteR sp A,KB z11 (Spec.front r),KB r6 bs7,Cl b1 203 [vint r.collection,vint r.epoch,vint r.writer,vint r.count,bx],KB secret ks,KB key kk,KB bx r.box,Al R] ?_))))
      refine W.ret (inblk_r (thn_r (retC2 (M:=[SuiteR sp A]) (i:=0) rfl rfl rfl rfl rfl ld33 (.inr (⟨10,A,(by unfold Spec.sopen; rw [if_neg (fun h=>h hrr),if_neg (by omega)]; simp only [h8,h14,h23,h30,h34,h39]; rw [if_pos h45]),(by omega),(by omega),rfl,rfl⟩)) (es [10,16] rfl))))
     refine Qu (OpQ.decF (OpQ.pickF rfl rfl rfl) h45) (k:=Qm (k:=Qm (k:=Qu (OpQ.neq rfl rfl rfl) (k:=Qf (k:=Qa (k:=Nw [(0,vptr sp 0),(1,secret),(7,vptr b1 0),(8,vptr b2 0),(9,vint 0),(16,r27),(17,r31),(18,vptr b41 0),(68,.bool (decide ((0:Int)≠0)))] [ReaderR rp26 s33,Cl b41 33 (ecs e35 n36 v37 w38),KB n36 e35.name,KB v37 e35.value,KW w38 e35.wraps,KB r31 x32,KB r27 x28,KB r21 x22,KB r12 x13,SuiteR sp A,KB z11 (Spec.front r),KB r6 bs7,Cl b2 33 [vint 0,vint 0,vint 0,N0,N0,vint 0,vint 0,vint 0,N0],Cl b1 203 [vint r.collection,vint r.epoch,vint r.writer,vint r.count,bx],KB secret ks,KB key kk,KB bx r.box,Al R] ?_))))))
     refine Cp rfl (fun h46=>absurd h46 (by decide)) (fun h46=>?_)
     refine Sn (Qu (Of (fa33_1 _ _)) (k:=Qu (Ol 1 ld3) (k:=Qu (Of (fa203_2 _ _)) (k:=Qu (Ol 13 ld3) (k:=Qu (OpQ.neq rfl rfl rfl) (k:=Qa (k:=Nl [(0,vptr sp 0),(1,secret),(7,vptr b1 0),(8,vptr b2 0),(9,vint 0),(16,r27),(17,r31),(18,vptr b41 0),(81,.bool (decide (e35.writer≠r.writer)))] ?_)))))))
     refine Cp rfl (fun h47=>?_) (fun h47=>?_)
     ·refine Sn (Qu (OpQ.build (qs:=[]) (v:=.agg #[vint 0,vint 0,vint 0,N0,N0,vint 0,vint 0,vint 0,N0]) rfl trivial (fun _=>by kernel_rfl)) (k:=Rn (OpRun.store (i:=12) (vs:=[vint 0,vint 0,vint 0,N0,N0,vint 0,vint 0,vint 0,N0]) (cs':=[vint 0,vint 0,vint 0,N0,N0,vint 0,vint 0,vint 0,N0]) rfl rfl rfl sz33 rfl rfl (O3 (O3 (O3 one_nil))) rfl (Lb rfl) rfl) (k:=Qa (k:=Nw [(8,vptr b2 0),(9,vint 40),(18,vptr b41 0)] [Cl b2 33 [vint 0,vint 0,vint 0,N0,N0,vint 0,vint 0,vint 0,N0],ReaderR rp26 s33,Cl b41 33 (ecs e35 n36 v37 w38),KB n36 e35.name,KB v37 e35.value,KW w38 e35.wraps,KB r31 x32,KB r27 x28,KB r21 x22,KB r12 x13,SuiteR sp A,KB z11 (Spec.front r),KB r6 bs7,Cl b1 203 [vint r.collection,vint r.epoch,vint r.writer,vint r.count,bx],KB secret ks,KB key kk,KB bx r.box,Al R] ?_))))
      refine W.ret (inblk_r (thn_r (retC2 (M:=[SuiteR sp A]) (i:=0) rfl rfl rfl rfl rfl ld33 (.inr (⟨40,A,(by unfold Spec.sopen; rw [if_neg (fun h=>h hrr),if_neg (by omega)]; simp only [h8,h14,h23,h30,h34,h39]; rw [if_neg h45]; rw [if_pos h47]),(by omega),(by omega),rfl,rfl⟩)) (es [10,16] rfl))))
     refine Sn (Qm (k:=Qm (k:=Qm (k:=Qu (Of (fa203_0 _ _)) (k:=Qu (Ol 13 ld3) (k:=Qu (Of (fa203_2 _ _)) (k:=Qu (Ol 13 ld3) (k:=Qm (k:=?_)))))))))
     refine Wc [.tmp 90,.tmp 91,.tmp 93,.tmp 95,.tmp 96] [vptr sp 0,secret,vint r.collection,vint r.writer,r27] Tryz.call250 (mark_fn sp A secret ks r.collection r.writer r27 x28 (by first | omega | (simp; done) | (simp; omega) | (simp at *; omega)) (by first | omega | (simp; done) | (simp; omega) | (simp at *; omega)) (by first | omega | (simp; done) | (simp; omega) | (simp at *; omega)) (by first | omega | (simp; done) | (simp; omega) | (simp at *; omega))) ((ed 14 rfl).trans ((ed 7 rfl).trans (ep [11,1,0] rfl))) ?_
     rintro _ _ ⟨z48,mk49,A50,h51,h52,h53,rfl,rfl⟩
     refine Wc [.tmp 89,.tmp 97] [r31,z48] Tryz.call270 (macEqual_fn r31 z48 x32 mk49) ((ed 7 rfl).trans ((ed 1 rfl).trans (ep [1,0] rfl))) ?_
     rintro _ _ ⟨rfl,rfl⟩
     refine Qu (OpQ.notP rfl rfl) (k:=Qa (k:=Nw [(8,vptr b2 0),(9,vint 0),(18,vptr b41 0),(88,.bool (decide (¬ (x32=mk49))))] [KB z48 mk49,SuiteR sp A50,ReaderR rp26 s33,Cl b41 33 (ecs e35 n36 v37 w38),KB n36 e35.name,KB v37 e35.value,KW w38 e35.wraps,KB r31 x32,KB r27 x28,KB r21 x22,KB r12 x13,KB z11 (Spec.front r),KB r6 bs7,Cl b2 33 [vint 0,vint 0,vint 0,N0,N0,vint 0,vint 0,vint 0,N0],Cl b1 203 [vint r.collection,vint r.epoch,vint r.writer,vint r.count,bx],KB secret ks,KB key kk,KB bx r.box,Al R] ?_))
     refine Cp rfl (fun h54=>?_) (fun h54=>?_)
     ·refine Sn (Qu (OpQ.build (qs:=[]) (v:=.agg #[vint 0,vint 0,vint 0,N0,N0,vint 0,vint 0,vint 0,N0]) rfl trivial (fun _=>by kernel_rfl)) (k:=Rn (OpRun.store (i:=13) (vs:=[vint 0,vint 0,vint 0,N0,N0,vint 0,vint 0,vint 0,N0]) (cs':=[vint 0,vint 0,vint 0,N0,N0,vint 0,vint 0,vint 0,N0]) rfl rfl rfl sz33 rfl rfl (O3 (O3 (O3 one_nil))) rfl (Lb rfl) rfl) (k:=Qa (k:=Nw [(8,vptr b2 0),(9,vint 22),(18,vptr b41 0)] [Cl b2 33 [vint 0,vint 0,vint 0,N0,N0,vint 0,vint 0,vint 0,N0],KB z48 mk49,SuiteR sp A50,ReaderR rp26 s33,Cl b41 33 (ecs e35 n36 v37 w38),KB n36 e35.name,KB v37 e35.value,KW w38 e35.wraps,KB r31 x32,KB r27 x28,KB r21 x22,KB r12 x13,KB z11 (Spec.front r),KB r6 bs7,Cl b1 203 [vint r.collection,vint r.epoch,vint r.writer,vint r.count,bx],KB secret ks,KB key kk,KB bx r.box,Al R] ?_))))
      refine W.ret (inblk_r (thn_r (retC2 (M:=[SuiteR sp A50]) (i:=0) rfl rfl rfl rfl rfl ld33 (.inr (⟨22,A50,(by unfold Spec.sopen; rw [if_neg (fun h=>h hrr),if_neg (by omega)]; simp only [h8,h14,h23,h30,h34,h39]; rw [if_neg h45]; rw [if_neg h47]; simp only [h51]; rw [if_pos h54]),(by omega),(by omega),rfl,rfl⟩)) (es [2,17] rfl))))
     refine W.skip (inblk_n (thn_n (Wl [(8,vptr b2 0),(9,vint 0),(18,vptr b41 0)] ?_)))
     refine Sn (Qu (OpQ.loadN (i:=3) rfl rfl ld33 rfl rfl rfl) (k:=Rn (OpRun.store (i:=13) (vs:=[vint e35.kind,vint e35.writer,vint e35.seq,n36,v37,vint e35.who,vint e35.rights,vint e35.epoch,w38]) (cs':=[vint e35.kind,vint e35.writer,vint e35.seq,n36,v37,vint e35.who,vint e35.rights,vint e35.epoch,w38]) rfl rfl rfl sz33 rfl rfl (O3 (one_cons ho44 (one_cons ho43 (O3 (one_cons ho42 one_nil))))) rfl (Lb rfl) rfl) (k:=Qa (k:=Nw [(8,vptr b2 0),(9,vint 0)] [Cl b2 33 (ecs e35 n36 v37 w38),KB z48 mk49,SuiteR sp A50,ReaderR rp26 s33,Cl b41 33 (ecs e35 n36 v37 w38),KB n36 e35.name,KB v37 e35.value,KW w38 e35.wraps,KB r31 x32,KB r27 x28,KB r21 x22,KB r12 x13,KB z11 (Spec.front r),KB r6 bs7,Cl b1 203 [vint r.collection,vint r.epoch,vint r.writer,vint r.count,bx],KB secret ks,KB key kk,KB bx r.box,Al R] ?_))))
     refine W.ret (retC2 (M:=[KB n36 e35.name,KB v37 e35.value,KW w38 e35.wraps,SuiteR sp A50]) (i:=0) rfl rfl rfl rfl rfl ld33 (.inl ⟨e35,n36,v37,w38,A50,(by unfold Spec.sopen; rw [if_neg (fun h=>h hrr),if_neg (by omega)]; simp only [h8,h14,h23,h30,h34,h39]; rw [if_neg h45]; rw [if_neg h47]; simp only [h51]; rw [if_neg (fun h=>h54 h)]),(by omega),rfl,rfl⟩) (es [5,5,5,2,14] rfl))
    refine Qm (k:=Qe (k:=Qe (k:=?_)))
    refine Ru (OpRun.alloc rfl zv33 rfl) ?_
    rintro _ _ ⟨b55,rfl,rfl⟩
    refine Rn (OpRun.store (i:=0) (vs:=[vint 0,vint 0,vint 0,N0,N0,vint 0,vint 0,vint 0,N0]) (cs':=[vint 0,vint 0,vint 0,N0,N0,vint 0,vint 0,vint 0,N0]) rfl rfl rfl sz33 rfl rfl (O3 (O3 (O3 one_nil))) rfl (Lb rfl) rfl) (k:=Qa (k:=Nw [(0,vptr sp 0),(1,secret),(7,vptr b1 0),(8,vptr b2 0),(9,vint 0),(13,vint 0),(15,vptr rp26 0),(16,r27),(17,r31),(18,vptr b55 0),(19,vint 10)] [Cl b55 33 [vint 0,vint 0,vint 0,N0,N0,vint 0,vint 0,vint 0,N0],KB r31 x32,ReaderR rp26 s33,KB r27 x28,KB r21 x22,KB r12 x13,SuiteR sp A,KB z11 (Spec.front r),KB r6 bs7,Cl b2 33 [vint 0,vint 0,vint 0,N0,N0,vint 0,vint 0,vint 0,N0],Cl b1 203 [vint r.collection,vint r.epoch,vint r.writer,vint r.count,bx],KB secret ks,KB key kk,KB bx r.box,Al R] ?_))
    refine W.seq (W.block (Sn (Qm (k:=?_))))
    refine Qu (OpQ.decF (OpQ.neq rfl rfl rfl) (by decide)) (k:=Qm (k:=Qm (k:=?_)))
    refine Wc [.tmp 72] [vptr rp26 0] Tryz.call146 (End_fn rp26 s33) (ep [2] rfl) ?_
    rintro _ _ ⟨rfl,rfl⟩
    refine Qu (OpQ.notP rfl rfl) (k:=?_)
    by_cases h56:¬ (s33=some [])
    ·refine Qu (OpQ.decT (OpQ.pickF rfl rfl rfl) h56) (k:=Qm (k:=Qs (k:=Qs (k:=Qt (k:=Qa (k:=Nw [(0,vptr sp 0),(1,secret),(7,vptr b1 0),(8,vptr b2 0),(9,vint 0),(16,r27),(17,r31),(18,vptr b55 0),(68,.bool true)] [ReaderR rp26 s33,Cl b55 33 [vint 0,vint 0,vint 0,N0,N0,vint 0,vint 0,vint 0,N0],KB r31 x32,KB r27 x28,KB r21 x22,KB r12 x13,SuiteR sp A,KB z11 (Spec.front r),KB r6 bs7,Cl b2 33 [vint 0,vint 0,vint 0,N0,N0,vint 0,vint 0,vint 0,N0],Cl b1 203 [vint r.collection,vint r.epoch,vint r.writer,vint r.count,bx],KB secret ks,KB key kk,KB bx r.box,Al R] ?_))))))
     refine W.condT rfl ?_
     refine Sn (Qu (OpQ.build (qs:=[]) (v:=.agg #[vint 0,vint 0,vint 0,N0,N0,vint 0,vint 0,vint 0,N0]) rfl trivial (fun _=>by kernel_rfl)) (k:=Rn (OpRun.store (i:=9) (vs:=[vint 0,vint 0,vint 0,N0,N0,vint 0,vint 0,vint 0,N0]) (cs':=[vint 0,vint 0,vint 0,N0,N0,vint 0,vint 0,vint 0,N0]) rfl rfl rfl sz33 rfl rfl (O3 (O3 (O3 one_nil))) rfl (Lb rfl) rfl) (k:=Qa (k:=Nw [(8,vptr b2 0),(9,vint 10),(18,vptr b55 0)] [Cl b2 33 [vint 0,vint 0,vint 0,N0,N0,vint 0,vint 0,vint 0,N0],ReaderR rp26 s33,Cl b55 33 [vint 0,vint 0,vint 0,N0,N0,vint 0,vint 0,vint 0,N0],KB r31 x32,KB r27 x28,KB r21 x22,KB r12 x13,SuiteR sp A,KB z11 (Spec.front r),KB r6 bs7,Cl b1 203 [vint r.collection,vint r.epoch,vint r.writer,vint r.count,bx],KB secret ks,KB key kk,KB bx r.box,Al R] ?_))))
     refine W.ret (inblk_r (thn_r (retC2 (M:=[SuiteR sp A]) (i:=0) rfl rfl rfl rfl rfl ld33 (.inr (⟨10,A,(by unfold Spec.sopen; rw [if_neg (fun h=>h hrr),if_neg (by omega)]; simp only [h8,h14,h23,h30,h34,h40]),(by omega),(by omega),rfl,rfl⟩)) (es [7,13] rfl))))
    refine Qu (OpQ.decF (OpQ.pickF rfl rfl rfl) h56) (k:=Qm (k:=Qm (k:=Qu (OpQ.neq rfl rfl rfl) (k:=Qf (k:=Qa (k:=Nw [(0,vptr sp 0),(1,secret),(7,vptr b1 0),(8,vptr b2 0),(9,vint 0),(16,r27),(17,r31),(18,vptr b55 0),(68,.bool (decide ((10:Int)≠0)))] [ReaderR rp26 s33,Cl b55 33 [vint 0,vint 0,vint 0,N0,N0,vint 0,vint 0,vint 0,N0],KB r31 x32,KB r27 x28,KB r21 x22,KB r12 x13,SuiteR sp A,KB z11 (Spec.front r),KB r6 bs7,Cl b2 33 [vint 0,vint 0,vint 0,N0,N0,vint 0,vint 0,vint 0,N0],Cl b1 203 [vint r.collection,vint r.epoch,vint r.writer,vint r.count,bx],KB secret ks,KB key kk,KB bx r.box,Al R] ?_))))))
    refine Cp rfl (fun h57=>?_) (fun h57=>absurd (by decide) h57)
    refine Sn (Qu (OpQ.build (qs:=[]) (v:=.agg #[vint 0,vint 0,vint 0,N0,N0,vint 0,vint 0,vint 0,N0]) rfl trivial (fun _=>by kernel_rfl)) (k:=Rn (OpRun.store (i:=9) (vs:=[vint 0,vint 0,vint 0,N0,N0,vint 0,vint 0,vint 0,N0]) (cs':=[vint 0,vint 0,vint 0,N0,N0,vint 0,vint 0,vint 0,N0]) rfl rfl rfl sz33 rfl rfl (O3 (O3 (O3 one_nil))) rfl (Lb rfl) rfl) (k:=Qa (k:=Nw [(8,vptr b2 0),(9,vint 10),(18,vptr b55 0)] [Cl b2 33 [vint 0,vint 0,vint 0,N0,N0,vint 0,vint 0,vint 0,N0],ReaderR rp26 s33,Cl b55 33 [vint 0,vint 0,vint 0,N0,N0,vint 0,vint 0,vint 0,N0],KB r31 x32,KB r27 x28,KB r21 x22,KB r12 x13,SuiteR sp A,KB z11 (Spec.front r),KB r6 bs7,Cl b1 203 [vint r.collection,vint r.epoch,vint r.writer,vint r.count,bx],KB secret ks,KB key kk,KB bx r.box,Al R] ?_))))
    refine W.ret (inblk_r (thn_r (retC2 (M:=[SuiteR sp A]) (i:=0) rfl rfl rfl rfl rfl ld33 (.inr (⟨10,A,(by unfold Spec.sopen; rw [if_neg (fun h=>h hrr),if_neg (by omega)]; simp only [h8,h14,h23,h30,h34,h40]),(by omega),(by omega),rfl,rfl⟩)) (es [7,13] rfl))))
   refine Qm (k:=Qe (k:=Qe (k:=Qa (k:=Qa (k:=Nw [(0,vptr sp 0),(1,secret),(7,vptr b1 0),(8,vptr b2 0),(9,vint 0),(13,vint 10),(14,N0)] [KB r12 x13,SuiteR sp A,KB z11 (Spec.front r),KB r6 bs7,Cl b2 33 [vint 0,vint 0,vint 0,N0,N0,vint 0,vint 0,vint 0,N0],Cl b1 203 [vint r.collection,vint r.epoch,vint r.writer,vint r.count,bx],KB secret ks,KB key kk,KB bx r.box,Al R] ?_)))))
   refine Sn (Qm (k:=?_))
   refine WN.ent (Ent.slNil (e:=Enc.u8) (T:=5)) ?_
   refine Wc [.tmp 57] [N0] Tryz.call142 (Read_fn (N0) ([]) (by first | omega | (simp; done) | (simp; omega) | (simp at *; omega))) ((ed 0 rfl).trans (ep [0] rfl)) ?_
   rintro _ _ ⟨rp58,rfl,rfl⟩
   refine Qa (k:=Nw [(0,vptr sp 0),(1,secret),(7,vptr b1 0),(8,vptr b2 0),(9,vint 0),(13,vint 10),(15,vptr rp58 0)] [ReaderR rp58 (some ([])),KB (N0) ([]),KB r12 x13,SuiteR sp A,KB z11 (Spec.front r),KB r6 bs7,Cl b2 33 [vint 0,vint 0,vint 0,N0,N0,vint 0,vint 0,vint 0,N0],Cl b1 203 [vint r.collection,vint r.epoch,vint r.writer,vint r.count,bx],KB secret ks,KB key kk,KB bx r.box,Al R] ?_)
   refine Sn (Qm (k:=?_))
   refine Wc [.tmp 59,.const (.int .i64 0),.const (.int .i64 4096)] [vptr rp58 0,vint 0,vint 4096] Tryz.call145 (Text_fn rp58 (some ([])) 0 4096 (by first | omega | (simp; done) | (simp; omega) | (simp at *; omega)) (by first | omega | (simp; done) | (simp; omega) | (simp at *; omega))) (ep [0] rfl) ?_
   rintro _ _ ⟨r59,x60,s61,h62,rfl,rfl⟩
   refine Qa (k:=Nw [(0,vptr sp 0),(1,secret),(7,vptr b1 0),(8,vptr b2 0),(9,vint 0),(13,vint 10),(15,vptr rp58 0),(16,r59)] [KB r59 x60,ReaderR rp58 s61,KB (N0) ([]),KB r12 x13,SuiteR sp A,KB z11 (Spec.front r),KB r6 bs7,Cl b2 33 [vint 0,vint 0,vint 0,N0,N0,vint 0,vint 0,vint 0,N0],Cl b1 203 [vint r.collection,vint r.epoch,vint r.writer,vint r.count,bx],KB secret ks,KB key kk,KB bx r.box,Al R] ?_)
   refine Sn (Qm (k:=?_))
   refine Wc [.tmp 61,.const (.int .i64 0),.const (.int .i64 4096)] [vptr rp58 0,vint 0,vint 4096] Tryz.call145 (Text_fn rp58 s61 0 4096 (by first | omega | (simp; done) | (simp; omega) | (simp at *; omega)) (by first | omega | (simp; done) | (simp; omega) | (simp at *; omega))) (ep [1] rfl) ?_
   rintro _ _ ⟨r63,x64,s65,h66,rfl,rfl⟩
   refine Qa (k:=Nw [(0,vptr sp 0),(1,secret),(7,vptr b1 0),(8,vptr b2 0),(9,vint 0),(13,vint 10),(15,vptr rp58 0),(16,r59),(17,r63)] [KB r63 x64,ReaderR rp58 s65,KB r59 x60,KB (N0) ([]),KB r12 x13,SuiteR sp A,KB z11 (Spec.front r),KB r6 bs7,Cl b2 33 [vint 0,vint 0,vint 0,N0,N0,vint 0,vint 0,vint 0,N0],Cl b1 203 [vint r.collection,vint r.epoch,vint r.writer,vint r.count,bx],KB secret ks,KB key kk,KB bx r.box,Al R] ?_)
   refine W.seq (W.region ?_)
   have hbl:=Spec.rtext_length h62 (by omega)
   refine Qm (k:=?_)
   refine Wc [.tmp 64] [r59] Tryz.call122 (Decode_fn r59 x60 (by first | omega | (simp; done) | (simp; omega) | (simp at *; omega))) ((ed 2 rfl).trans (ep [0] rfl)) ?_
   rintro _ _ (⟨e67,n68,v69,w70,h71,rfl,rfl⟩ | ⟨h72,rfl,rfl⟩)
   ·refine Qm (k:=Qe (k:=Qe (k:=?_)))
    refine Ru (OpRun.alloc rfl zv33 rfl) ?_
    rintro _ _ ⟨b73,rfl,rfl⟩
    refine Nf 3 fun ho74=>?_
    refine Nf 2 fun ho75=>?_
    refine Nf 1 fun ho76=>?_
    refine Rn (OpRun.store (i:=0) (vs:=[vint e67.kind,vint e67.writer,vint e67.seq,n68,v69,vint e67.who,vint e67.rights,vint e67.epoch,w70]) (cs':=[vint e67.kind,vint e67.writer,vint e67.seq,n68,v69,vint e67.who,vint e67.rights,vint e67.epoch,w70]) rfl rfl rfl sz33 rfl rfl (O3 (one_cons ho76 (one_cons ho75 (O3 (one_cons ho74 one_nil))))) rfl (Lb rfl) rfl) (k:=Qa (k:=Nw [(0,vptr sp 0),(1,secret),(7,vptr b1 0),(8,vptr b2 0),(9,vint 0),(13,vint 10),(15,vptr rp58 0),(16,r59),(17,r63),(18,vptr b73 0),(19,vint 0)] [Cl b73 33 (ecs e67 n68 v69 w70),KB n68 e67.name,KB v69 e67.value,KW w70 e67.wraps,KB r63 x64,ReaderR rp58 s65,KB r59 x60,KB (N0) ([]),KB r12 x13,SuiteR sp A,KB z11 (Spec.front r),KB r6 bs7,Cl b2 33 [vint 0,vint 0,vint 0,N0,N0,vint 0,vint 0,vint 0,N0],Cl b1 203 [vint r.collection,vint r.epoch,vint r.writer,vint r.count,bx],KB secret ks,KB key kk,KB bx r.box,Al R] ?_))
    refine W.seq (W.block (Sn (Qm (k:=?_))))
    refine Qu (OpQ.decT (OpQ.neq rfl rfl rfl) (by decide)) (k:=Qm (k:=Qs (k:=Qs (k:=Qs (k:=Qt (k:=Qm (k:=Qs (k:=Qs (k:=Qt (k:=Qa (k:=Nl [(0,vptr sp 0),(1,secret),(7,vptr b1 0),(8,vptr b2 0),(9,vint 0),(16,r59),(17,r63),(18,vptr b73 0),(68,.bool true)] ?_)))))))))))
    refine W.condT rfl ?_
    refine Sn (Qu (OpQ.build (qs:=[]) (v:=.agg #[vint 0,vint 0,vint 0,N0,N0,vint 0,vint 0,vint 0,N0]) rfl trivial (fun _=>by kernel_rfl)) (k:=Rn (OpRun.store (i:=12) (vs:=[vint 0,vint 0,vint 0,N0,N0,vint 0,vint 0,vint 0,N0]) (cs':=[vint 0,vint 0,vint 0,N0,N0,vint 0,vint 0,vint 0,N0]) rfl rfl rfl sz33 rfl rfl (O3 (O3 (O3 one_nil))) rfl (Lb rfl) rfl) (k:=Qa (k:=Nw [(8,vptr b2 0),(9,vint 10),(18,vptr b73 0)] [Cl b2 33 [vint 0,vint 0,vint 0,N0,N0,vint 0,vint 0,vint 0,N0],Cl b73 33 (ecs e67 n68 v69 w70),KB n68 e67.name,KB v69 e67.value,KW w70 e67.wraps,KB r63 x64,ReaderR rp58 s65,KB r59 x60,KB (N0) ([]),KB r12 x13,SuiteR sp A,KB z11 (Spec.front r),KB r6 bs7,Cl b1 203 [vint r.collection,vint r.epoch,vint r.writer,vint r.count,bx],KB secret ks,KB key kk,KB bx r.box,Al R] ?_))))
    refine W.ret (inblk_r (thn_r (retC2 (M:=[SuiteR sp A]) (i:=0) rfl rfl rfl rfl rfl ld33 (.inr (⟨10,A,(by unfold Spec.sopen; rw [if_neg (fun h=>h hrr),if_neg (by omega)]; simp only [h8,h14,h25,h62,h66,h71]),(by omega),(by omega),rfl,rfl⟩)) (es [10,16] rfl))))
   refine Qm (k:=Qe (k:=Qe (k:=?_)))
   refine Ru (OpRun.alloc rfl zv33 rfl) ?_
   rintro _ _ ⟨b77,rfl,rfl⟩
   refine Rn (OpRun.store (i:=0) (vs:=[vint 0,vint 0,vint 0,N0,N0,vint 0,vint 0,vint 0,N0]) (cs':=[vint 0,vint 0,vint 0,N0,N0,vint 0,vint 0,vint 0,N0]) rfl rfl rfl sz33 rfl rfl (O3 (O3 (O3 one_nil))) rfl (Lb rfl) rfl) (k:=Qa (k:=Nw [(0,vptr sp 0),(1,secret),(7,vptr b1 0),(8,vptr b2 0),(9,vint 0),(13,vint 10),(15,vptr rp58 0),(16,r59),(17,r63),(18,vptr b77 0),(19,vint 10)] [Cl b77 33 [vint 0,vint 0,vint 0,N0,N0,vint 0,vint 0,vint 0,N0],KB r63 x64,ReaderR rp58 s65,KB r59 x60,KB (N0) ([]),KB r12 x13,SuiteR sp A,KB z11 (Spec.front r),KB r6 bs7,Cl b2 33 [vint 0,vint 0,vint 0,N0,N0,vint 0,vint 0,vint 0,N0],Cl b1 203 [vint r.collection,vint r.epoch,vint r.writer,vint r.count,bx],KB secret ks,KB key kk,KB bx r.box,Al R] ?_))
   refine W.seq (W.block (Sn (Qm (k:=?_))))
   refine Qu (OpQ.decT (OpQ.neq rfl rfl rfl) (by decide)) (k:=Qm (k:=Qs (k:=Qs (k:=Qs (k:=Qt (k:=Qm (k:=Qs (k:=Qs (k:=Qt (k:=Qa (k:=Nl [(0,vptr sp 0),(1,secret),(7,vptr b1 0),(8,vptr b2 0),(9,vint 0),(16,r59),(17,r63),(18,vptr b77 0),(68,.bool true)] ?_)))))))))))
   refine W.condT rfl ?_
   refine Sn (Qu (OpQ.build (qs:=[]) (v:=.agg #[vint 0,vint 0,vint 0,N0,N0,vint 0,vint 0,vint 0,N0]) rfl trivial (fun _=>by kernel_rfl)) (k:=Rn (OpRun.store (i:=9) (vs:=[vint 0,vint 0,vint 0,N0,N0,vint 0,vint 0,vint 0,N0]) (cs':=[vint 0,vint 0,vint 0,N0,N0,vint 0,vint 0,vint 0,N0]) rfl rfl rfl sz33 rfl rfl (O3 (O3 (O3 one_nil))) rfl (Lb rfl) rfl) (k:=Qa (k:=Nw [(8,vptr b2 0),(9,vint 10),(18,vptr b77 0)] [Cl b2 33 [vint 0,vint 0,vint 0,N0,N0,vint 0,vint 0,vint 0,N0],Cl b77 33 [vint 0,vint 0,vint 0,N0,N0,vint 0,vint 0,vint 0,N0],KB r63 x64,ReaderR rp58 s65,KB r59 x60,KB (N0) ([]),KB r12 x13,SuiteR sp A,KB z11 (Spec.front r),KB r6 bs7,Cl b1 203 [vint r.collection,vint r.epoch,vint r.writer,vint r.count,bx],KB secret ks,KB key kk,KB bx r.box,Al R] ?_))))
   refine W.ret (inblk_r (thn_r (retC2 (M:=[SuiteR sp A]) (i:=0) rfl rfl rfl rfl rfl ld33 (.inr (⟨10,A,(by unfold Spec.sopen; rw [if_neg (fun h=>h hrr),if_neg (by omega)]; simp only [h8,h14,h25,h62,h66,h72]),(by omega),(by omega),rfl,rfl⟩)) (es [7,13] rfl))))
  refine ⟨es [4] rfl,?_⟩
  refine Gq 8 [4] rfl (OpQ.move rfl rfl) ?_
  refine Gq 9 [4] rfl (OpQ.extract rfl rfl rfl) ?_
  refine Gq 10 [4] rfl (OpQ.extract rfl rfl rfl) ?_
  refine Gq 11 [4] rfl (OpQ.assign rfl rfl) ?_
  refine Gq 12 [4] rfl (OpQ.assign rfl rfl) ?_
  refine WG.done (by kernel_rfl) ?_
  refine thn_n (Ww [(0,vptr sp 0),(1,secret),(7,vptr b1 0),(8,vptr b2 0),(9,vint 0),(12,N0),(13,vint e16)] [SuiteR sp A,KB z11 (Spec.front r),KB r6 bs7,Cl b2 33 [vint 0,vint 0,vint 0,N0,N0,vint 0,vint 0,vint 0,N0],Cl b1 203 [vint r.collection,vint r.epoch,vint r.writer,vint r.count,bx],KB secret ks,KB key kk,KB bx r.box,Al R] ?_)
  refine W.seq (Sn (Qm (k:=?_)))
  refine Qu (OpQ.neq rfl rfl rfl) (k:=Nl [(0,vptr sp 0),(1,secret),(7,vptr b1 0),(8,vptr b2 0),(9,vint 0),(12,N0),(13,vint e16),(50,.bool (decide (e16≠0)))] ?_)
  refine Cp rfl (fun h78=>?_) (fun h78=>absurd h19 h78)
  refine Sn (Qu (OpQ.build (qs:=[]) (v:=.agg #[vint 0,vint 0,vint 0,N0,N0,vint 0,vint 0,vint 0,N0]) rfl trivial (fun _=>by kernel_rfl)) (k:=Rn (OpRun.store (i:=3) (vs:=[vint 0,vint 0,vint 0,N0,N0,vint 0,vint 0,vint 0,N0]) (cs':=[vint 0,vint 0,vint 0,N0,N0,vint 0,vint 0,vint 0,N0]) rfl rfl rfl sz33 rfl rfl (O3 (O3 (O3 one_nil))) rfl (Lb rfl) rfl) (k:=Qa (k:=Nw [(0,vptr sp 0),(1,secret),(7,vptr b1 0),(8,vptr b2 0),(9,vint 20),(12,N0),(13,vint e16)] [Cl b2 33 [vint 0,vint 0,vint 0,N0,N0,vint 0,vint 0,vint 0,N0],SuiteR sp A,KB z11 (Spec.front r),KB r6 bs7,Cl b1 203 [vint r.collection,vint r.epoch,vint r.writer,vint r.count,bx],KB secret ks,KB key kk,KB bx r.box,Al R] ?_))))
  refine W.ret (thn_r (retC2 (M:=[SuiteR sp A]) (i:=0) rfl rfl rfl rfl rfl ld33 (.inr (⟨20,A,(by unfold Spec.sopen; rw [if_neg (fun h=>h hrr),if_neg (by omega)]; simp only [h8,h17]),(by omega),(by omega),rfl,rfl⟩)) (es [1,7] rfl)))
 exfalso; unfold Spec.nonce at h10; rw [if_pos (by omega)] at h10; cases h10
end Go.Lk
open Go.Proofs
namespace Go.Lk
structure Chain where
  links:List Bytes
  sums:List Bytes
  deriving DecidableEq,Inhabited
abbrev Enc.bytes:Enc Bytes:=Enc.sl Enc.u8 5
def ChainR (cp sp:Nat) (c:Chain):Asn:=Asn.rep (fun _:Value × List Value × Value × List Value=>c.sums.length=c.links.length+1∧c.links.length≤64∧∀ i,(c.sums.getD i []).length≤32) fun x =>
  [Asn.cells cp 259 [vptr sp 0,x.1,x.2.2.1],Asn.row 22 1 x.1 x.2.1,Asn.kn (CellsRel (Enc.sl Enc.u8 5) x.2.1 c.links),Asn.row 22 1 x.2.2.1 x.2.2.2,Asn.kn (CellsRel (Enc.sl Enc.u8 5) x.2.2.2 c.sums)]
theorem sums32 {l:List Bytes} {h:Bytes} (hl:∀ i,(l.getD i []).length≤32) (hh:h.length=32):∀ i,((l++[h]).getD i []).length≤32:=fun i=>by
  have:=hl i
  simp only [List.getD_eq_getElem?_getD] at this ⊢
  by_cases hi:i < l.length
  · rwa [List.getElem?_append_left hi]
  · rw [List.getElem?_append_right (by omega)]
    cases hj:i - l.length with
    | zero=>simp [hh]
    | succ k=>simp
namespace Spec
def chainNew (A:List Thing) (coll:Int):Chain × List Thing :=
  let (h,A):=sum A ([108,111,99,107,101,116]++be 6 coll)
  (⟨[],[h]⟩,A)
def chainAppend (A:List Thing) (c:Chain) (b:Bytes):Int × Chain × List Thing :=
  if b.length < 1∨b.length > 4096 then (11,c,A) else if c.links.length=64 then (33,c,A) else
  let (h,A):=sum A (c.sums.getD c.links.length []++b)
  (0,⟨c.links++[b],c.sums++[h]⟩,A)
def chainCheck (c:Chain) (i:Int) (sum:Bytes):Int:=if i < 0 then 12 else if i ≥ c.sums.length then 14 else if c.sums.getD i.toNat []=sum then 0 else 24
end Spec
end Go.Lk
open Go.Proofs
set_option maxRecDepth 8000
namespace Go.Lk
open Asn renaming cells→Cl,row→Rw,kn→Kk,all→Al
theorem sz30:∀ (w:World),(sizeOf 30).run Tryz.prog w = .ok 1 w:=fun _=>by kernel_rfl
theorem sz74:∀ (w:World),(sizeOf 74).run Tryz.prog w = .ok 2 w:=fun _=>by kernel_rfl
theorem cm22_22:∀ (a:Addr) (m c:Nat) (w:World),(convert 22 22 (.slice (some a) m c)).run Tryz.prog w=(do markStringish a; pure (.slice (some a) m c):Sem Value).run Tryz.prog w:=fun _ _ _ _=>by kernel_rfl
theorem fa259_0:∀ (b k:Nat) (w:World),(Instr.fieldAt 259 (vptr b k) 0).run Tryz.prog w = .ok (vptr b (k)) w:=fun _ _ _=>by kernel_rfl
theorem fa259_1:∀ (b k:Nat) (w:World),(Instr.fieldAt 259 (vptr b k) 1).run Tryz.prog w = .ok (vptr b (k+1)) w:=fun _ _ _=>by kernel_rfl
theorem fa259_2:∀ (b k:Nat) (w:World),(Instr.fieldAt 259 (vptr b k) 2).run Tryz.prog w = .ok (vptr b (k+2)) w:=fun _ _ _=>by kernel_rfl
theorem fa74_0:∀ (b k:Nat) (w:World),(Instr.fieldAt 74 (vptr b k) 0).run Tryz.prog w = .ok (vptr b (k)) w:=fun _ _ _=>by kernel_rfl
theorem fa74_1:∀ (b k:Nat) (w:World),(Instr.fieldAt 74 (vptr b k) 1).run Tryz.prog w = .ok (vptr b (k+1)) w:=fun _ _ _=>by kernel_rfl
theorem ld30:∀ (a:Addr) (w:World),(loadVar 30 a).run Tryz.prog w=(Go.load a).run Tryz.prog w:=fun _ _=>by kernel_rfl
theorem ld40:∀ (a:Addr) (w:World),(loadVar 40 a).run Tryz.prog w=(Go.load a).run Tryz.prog w:=fun _ _=>by kernel_rfl
theorem ld74:∀ (a:Addr) (w:World),(loadVar 74 a).run Tryz.prog w=((loadCells a 2).bind fun c=>.pure (Value.agg c)).run Tryz.prog w:=fun _ _=>by kernel_rfl
theorem zv74:∀ (w:World),(zeroValue 74).run Tryz.prog w = .ok (.agg #[.int .i64 0,.slice none 0 0]) w:=fun _=>by kernel_rfl
theorem chainNew_fn (sp:Nat) (A:List Thing) (coll:Int) (hc:1≤coll∧coll≤1099511627776) (hA:A.length < 1099511627770):Fn Tryz.prog 114 #[vptr sp 0,vint coll] [SuiteR sp A] (fun v M=>∃ (cp:Nat) (c:Chain) (A':List Thing),Spec.chainNew A coll=(c,A')∧A'.length≤A.length+1∧.tuple #[vptr cp 0,vint 0]=v∧M=[ChainR cp sp c,SuiteR sp A']):=by
 refine Fi 31 Tryz.func114 fun g R=>?_
 refine Ww [(0,vptr sp 0),(1,vint coll)] [SuiteR sp A,Al R] ?_
 refine Sn (Qa (k:=Qa (k:=Nl [(0,vptr sp 0),(1,vint coll),(4,.pointer none),(5,vint 0)] ?_)))
 refine Sn (Qm (k:=Qu (OpQ.mkiface (v:=vint coll) (u:=Value.iface 3 (vint coll)) rfl rfl (fun _=>by kernel_rfl)) (k:=?_)))
 refine Ru (OpRun.buildSlice (qs:=[(0,Value.iface 3 (vint coll))]) (cs:=[Value.iface 3 (vint coll)]) (E:=20) (sz:=1) rfl ⟨rfl,rfl,trivial⟩ (fun _=>by kernel_rfl) (one_cons rfl one_nil) rfl (by decide)) ?_
 rintro v1 _ ⟨h2a,h2b,h2c,rfl⟩
 refine WN.ent (Ent.know (m:=CellsRel Enc.part ([Value.iface 3 (vint coll)]) ([Part.n coll])) (fun K h s=>(CellsRel.cons (cs:=[Value.iface 3 (vint coll)]) (ds:=[]) rfl Enc.part_n CellsRel.nil))) ?_
 refine Ne [Kx Enc.part ([Value.iface 3 (vint coll)]) ([Part.n coll]),Rw 20 1 v1 ([Value.iface 3 (vint coll)]),SuiteR sp A,Al R] ?_
 refine WN.freezeRel (e:=Enc.part) (i:=1) (j:=0) (Lb rfl) rfl rfl ?_
 refine Ne [Kk (Sl Enc.part 20 v1 ([Part.n coll])),Kx Enc.part ([Value.iface 3 (vint coll)]) ([Part.n coll]),SuiteR sp A,Al R] ?_
 refine Wc [.tmp 11] [v1] Tryz.call148 (Put_fn v1 ([Part.n coll]) (by first | omega | (simp; done) | (simp; omega) | (simp at *; omega))) ((ed 0 rfl).trans (ep [0] rfl)) ?_
 rintro _ _ (⟨r3,bs4,h5,h6,rfl,rfl⟩ | ⟨e7,h8,h9,rfl,rfl⟩)
 ·refine Qm (k:=Qe (k:=Qe (k:=Qa (k:=Qa (k:=Nw [(0,vptr sp 0),(1,vint coll),(4,.pointer none),(5,vint 0),(6,r3),(7,vint 0)] [KB r3 bs4,Kk (Sl Enc.part 20 v1 ([Part.n coll])),Kx Enc.part ([Value.iface 3 (vint coll)]) ([Part.n coll]),SuiteR sp A,Al R] ?_)))))
  refine W.seq (W.seq (W.region ?_))
  obtain rfl:bs4=be 6 coll:=by rw [Spec.put1 (by omega)] at h5; cases h5; rfl
  refine Qm (k:=Qu (OpQ.decF (OpQ.neq rfl rfl rfl) (by decide)) (k:=Qm (k:=Qm (k:=Qu (OpQ.lss rfl rfl rfl) (k:=Qf (k:=Nw [(0,vptr sp 0),(4,.pointer none),(5,vint 0),(6,r3),(20,.bool (decide (coll < 1)))] [KB r3 (be 6 coll),Kk (Sl Enc.part 20 v1 ([Part.n coll])),Kx Enc.part ([Value.iface 3 (vint coll)]) ([Part.n coll]),SuiteR sp A,Al R] ?_))))))
  refine Cp rfl (fun h10=>?_) (fun h10=>?_)
  ·exfalso; omega
  refine W.skip (thn_n (Wl [(0,vptr sp 0),(4,.pointer none),(5,vint 0),(6,r3)] ?_))
  refine Sn (Qm (k:=Qm (k:=?_)))
  refine Ru (OpRun.buildSlice (qs:=[(0,.int .u8 108),(1,.int .u8 111),(2,.int .u8 99),(3,.int .u8 107),(4,.int .u8 101),(5,.int .u8 116)]) (cs:=bv [108,111,99,107,101,116]) (E:=5) (sz:=1) rfl ⟨rfl,rfl,rfl,rfl,rfl,rfl,rfl,rfl,rfl,rfl,rfl,rfl,trivial⟩ (fun _=>by kernel_rfl) (bv_one _) rfl (by decide)) ?_
  rintro v11 _ ⟨h12a,h12b,h12c,rfl⟩
  refine Ru (OpRun.convMark (i:=0) rfl rfl rfl rfl h12a cm22_22) ?_
  rintro _ _ ⟨rfl,rfl⟩
  refine Qm (k:=?_)
  refine WN.fact (fun _ _ s=>row_isS (i:=0) rfl s) (fun hS15=>?_)
  refine WN.fact (fun _ _ s=>sl_isS (i:=1) rfl s) (fun hS16=>?_)
  refine Nf 1 fun ho17=>?_
  refine Ru (OpRun.buildSlice (qs:=[(0,v11),(1,r3)]) (cs:=[v11,r3]) (E:=22) (sz:=1) rfl ⟨rfl,rfl,rfl,rfl,trivial⟩ (fun _=>by obtain ⟨_,_,_,e1⟩:=hS15; rw [e1]; obtain ⟨_,_,_,e2⟩:=hS16; rw [e2]; kernel_rfl) (one_cons h12c (one_cons ho17 one_nil)) rfl (by decide)) ?_
  rintro v13 _ ⟨h14a,h14b,h14c,rfl⟩
  refine WN.freezeB (bs:=([108,111,99,107,101,116])) (i:=1) rfl ?_
  refine WN.ent (Ent.know (m:=CellsRel (Enc.sl Enc.u8 5) ([v11,r3]) ([[108,111,99,107,101,116],(be 6 coll)])) (fun K h s=>(CellsRel.cons (cs:=[v11]) (ds:=[r3]) rfl (Enc.sl_mk (kat 0 s rfl)) (CellsRel.cons (cs:=[r3]) (ds:=[]) rfl (Enc.sl_mk (kat 2 s rfl)) CellsRel.nil)))) ?_
  refine Ne [Kx (Enc.sl Enc.u8 5) ([v11,r3]) ([[108,111,99,107,101,116],(be 6 coll)]),KB v11 ([108,111,99,107,101,116]),Rw 22 1 v13 ([v11,r3]),KB r3 (be 6 coll),Kk (Sl Enc.part 20 v1 ([Part.n coll])),Kx Enc.part ([Value.iface 3 (vint coll)]) ([Part.n coll]),SuiteR sp A,Al R] ?_
  refine WN.freezeRel (e:=Enc.sl Enc.u8 5) (i:=2) (j:=0) (Lb rfl) rfl rfl ?_
  refine Ne [KS v13 ([[108,111,99,107,101,116],(be 6 coll)]),Kx (Enc.sl Enc.u8 5) ([v11,r3]) ([[108,111,99,107,101,116],(be 6 coll)]),KB v11 ([108,111,99,107,101,116]),KB r3 (be 6 coll),Kk (Sl Enc.part 20 v1 ([Part.n coll])),Kx Enc.part ([Value.iface 3 (vint coll)]) ([Part.n coll]),SuiteR sp A,Al R] ?_
  refine Wc [.tmp 22,.tmp 26] [vptr sp 0,v13] Tryz.call194 (Sum_fn sp A v13 ([[108,111,99,107,101,116],(be 6 coll)]) (by first | omega | (simp; done) | (simp; omega) | (simp at *; omega)) (by first | omega | (simp; done) | (simp; omega) | (simp at *; omega))) ((ed 0 rfl).trans (ep [7,0] rfl)) ?_
  rintro _ _ ⟨r18,bs19,A20,h21,h22,h23,rfl,rfl⟩
  refine WN.fact (fun _ _ s=>sl_isS (i:=0) rfl s) (fun hS26=>?_)
  refine Nf 0 fun ho27=>?_
  refine Ru (OpRun.buildSlice (qs:=[(0,r18)]) (cs:=[r18]) (E:=22) (sz:=1) rfl ⟨rfl,rfl,trivial⟩ (fun _=>by obtain ⟨_,_,_,e1⟩:=hS26; rw [e1]; kernel_rfl) (one_cons ho27 one_nil) rfl (by decide)) ?_
  rintro v24 _ ⟨h25a,h25b,h25c,rfl⟩
  refine WN.ent (Ent.know (m:=CellsRel (Enc.sl Enc.u8 5) ([r18]) ([bs19])) (fun K h s=>(CellsRel.cons (cs:=[r18]) (ds:=[]) rfl (Enc.sl_mk (kat 1 s rfl)) CellsRel.nil))) ?_
  refine Ne [Kx (Enc.sl Enc.u8 5) ([r18]) ([bs19]),Rw 22 1 v24 ([r18]),KB r18 bs19,SuiteR sp A20,KS v13 ([[108,111,99,107,101,116],(be 6 coll)]),Kx (Enc.sl Enc.u8 5) ([v11,r3]) ([[108,111,99,107,101,116],(be 6 coll)]),KB v11 ([108,111,99,107,101,116]),KB r3 (be 6 coll),Kk (Sl Enc.part 20 v1 ([Part.n coll])),Kx Enc.part ([Value.iface 3 (vint coll)]) ([Part.n coll]),Al R] ?_
  refine WN.fact (fun _ _ s=>row_isS (i:=1) rfl s) (fun hS28=>?_)
  refine Qu (OpQ.build (qs:=[(0,vptr sp 0),(2,v24)]) (v:=.agg #[vptr sp 0,N0,v24]) rfl ⟨rfl,rfl,rfl,rfl,trivial⟩ (fun _=>by obtain ⟨_,_,_,e1⟩:=hS28; rw [e1]; kernel_rfl)) (k:=?_)
  refine Ru (OpRun.box rfl rfl rfl) ?_
  rintro _ _ ⟨b29,rfl,rfl⟩
  refine Qa (k:=Qa (k:=Nw [(4,vptr b29 0),(5,vint 0)] [Cl b29 259 [vptr sp 0,N0,v24],Kx (Enc.sl Enc.u8 5) ([r18]) ([bs19]),Rw 22 1 v24 ([r18]),KB r18 bs19,SuiteR sp A20,KS v13 ([[108,111,99,107,101,116],(be 6 coll)]),Kx (Enc.sl Enc.u8 5) ([v11,r3]) ([[108,111,99,107,101,116],(be 6 coll)]),KB v11 ([108,111,99,107,101,116]),KB r3 (be 6 coll),Kk (Sl Enc.part 20 v1 ([Part.n coll])),Kx Enc.part ([Value.iface 3 (vint coll)]) ([Part.n coll]),Al R] ?_))
  refine Wr 2 fun hr30a hr30b hr30c=>?_
  try simp only [La,Lc,Ln] at hr30a
  refine W.ent (Ent.rowNil (E:=22) (sz:=1)) ?_
  refine W.ent (Ent.know (m:=CellsRel (Enc.sl Enc.u8 5) [] []) (fun _ _ _=>CellsRel.nil)) ?_
  refine W.ent (L':=[Kx (Enc.sl Enc.u8 5) ([]) ([]),Rw 22 1 (N0) ([]),Cl b29 259 [vptr sp 0,N0,v24],Kx (Enc.sl Enc.u8 5) ([r18]) ([bs19]),Rw 22 1 v24 ([r18]),KB r18 bs19,SuiteR sp A20,KS v13 ([[108,111,99,107,101,116],(be 6 coll)]),Kx (Enc.sl Enc.u8 5) ([v11,r3]) ([[108,111,99,107,101,116],(be 6 coll)]),KB v11 ([108,111,99,107,101,116]),KB r3 (be 6 coll),Kk (Sl Enc.part 20 v1 ([Part.n coll])),Kx Enc.part ([Value.iface 3 (vint coll)]) ([Part.n coll]),Al R]) (es [0,0,0,0,0,0,0,0,0,0,0,0,0,0] rfl) ?_
  refine W.ent (L':=[Cl b29 259 [vptr sp 0,N0,v24],Rw 22 1 (N0) ([]),Kx (Enc.sl Enc.u8 5) ([]) ((⟨[],[bs19]⟩:Chain).links),Rw 22 1 v24 ([r18]),Kx (Enc.sl Enc.u8 5) ([r18]) ((⟨[],[bs19]⟩:Chain).sums),KB r18 bs19,SuiteR sp A20,KS v13 ([[108,111,99,107,101,116],(be 6 coll)]),Kx (Enc.sl Enc.u8 5) ([v11,r3]) ([[108,111,99,107,101,116],(be 6 coll)]),KB v11 ([108,111,99,107,101,116]),KB r3 (be 6 coll),Kk (Sl Enc.part 20 v1 ([Part.n coll])),Kx Enc.part ([Value.iface 3 (vint coll)]) ([Part.n coll]),Al R]) ((es [2,1,0,1,0,0,0,0,0,0,0,0,0,0] rfl).trans (Ent.of_eq (by rfl))) ?_
  refine W.ent (L':=[ChainR b29 sp (⟨[],[bs19]⟩:Chain),KB r18 bs19,SuiteR sp A20,KS v13 ([[108,111,99,107,101,116],(be 6 coll)]),Kx (Enc.sl Enc.u8 5) ([v11,r3]) ([[108,111,99,107,101,116],(be 6 coll)]),KB v11 ([108,111,99,107,101,116]),KB r3 (be 6 coll),Kk (Sl Enc.part 20 v1 ([Part.n coll])),Kx Enc.part ([Value.iface 3 (vint coll)]) ([Part.n coll]),Al R]) (Ent.rep' (N0,[],v24,[r18]) rfl ⟨rfl,by simp,sums32 (l:=[]) (by simp) (by omega)⟩ rfl) ?_
  refine W.ret (ret2 (M:=[ChainR b29 sp (⟨[],[bs19]⟩:Chain),SuiteR sp A20]) rfl rfl rfl (⟨b29,(⟨[],[bs19]⟩:Chain),A20,(by unfold Spec.chainNew; have h9:=h21; simp only [List.flatten_cons,List.flatten_nil,List.append_nil] at h9; rw [h9]),(by omega),rfl,rfl⟩) (es [0,1,7] rfl))
 rw [Spec.put1 (by omega)] at h8; cases h8
theorem chainLen_fn (cp:Nat) (sp:Nat) (c:Chain):Fn Tryz.prog 53 #[vptr cp 0] [ChainR cp sp c] (fun v M=>vint (c.links.length:Int)=v∧M=[ChainR cp sp c]):=by
 refine Fi 8 Tryz.func53 fun g R=>?_
 refine Ww [(0,vptr cp 0)] [ChainR cp sp c,Al R] ?_
 refine W.opens Opens.rep (i:=0) rfl (fun x1 ⟨hcl,hc64,hc32⟩=>?_)
 obtain ⟨lv,lcs,sv,scs⟩:=x1
 refine We [Cl cp 259 [vptr sp 0,lv,sv],Rw 22 1 lv lcs,Kx (Enc.sl Enc.u8 5) lcs c.links,Rw 22 1 sv scs,Kx (Enc.sl Enc.u8 5) scs c.sums,Al R] ?_
 refine Sn (Qa (k:=Nl [(0,vptr cp 0),(2,vint 0)] ?_))
 refine Sn (Qm (k:=Qu (OpQ.nilCheck rfl rfl) (k:=Qu (Of (fa259_1 _ _)) (k:=Qu (Ol 0 ld30) (k:=?_)))))
 refine Nr 1 fun hr2a hr2b hr2c=>?_
 try simp only [La,Lc,Ln] at hr2a
 refine WN.fact (fun _ _ s=>cr_len (i:=2) rfl s) (fun hc3=>?_)
 replace hc3:lcs.length=c.links.length*1:=hc3
 refine Qu (OpQ.lenRow (i:=1) rfl rfl rfl (len30 _)) (k:=Qa (k:=Nl [(2,vint (slen lv:Int))] ?_))
 refine Wr 3 fun hr4a hr4b hr4c=>?_
 try simp only [La,Lc,Ln] at hr4a
 refine W.ent (L':=[Cl cp 259 [vptr sp 0,lv,sv],Rw 22 1 lv lcs,Kx (Enc.sl Enc.u8 5) lcs c.links,Rw 22 1 sv scs,Kx (Enc.sl Enc.u8 5) scs c.sums,Al R]) (es [0,0,0,0,0,0] rfl) ?_
 refine W.ent (L':=[ChainR cp sp c,Al R]) (Ent.rep' (lv,lcs,sv,scs) rfl ⟨hcl,hc64,hc32⟩ rfl) ?_
 refine W.ret (ret1 (M:=[ChainR cp sp c]) rfl rfl (⟨(by congr 1; omega),rfl⟩) (es [0,0] rfl))
theorem chainAppend_fn (cp:Nat) (sp:Nat) (c:Chain) (A:List Thing) (b:Value) (xs:Bytes) (hA:A.length < 1099511627770):Fn Tryz.prog 109 #[vptr cp 0,b] [ChainR cp sp c,SuiteR sp A,KB b xs] (fun v M=>∃ (e:Int) (c':Chain) (A':List Thing),Spec.chainAppend A c xs=(e,c',A')∧A'.length≤A.length+1∧vint e=v∧M=[ChainR cp sp c',SuiteR sp A']):=by
 refine Fi 59 Tryz.func109 fun g R=>?_
 refine Ww [(0,vptr cp 0),(1,b)] [ChainR cp sp c,SuiteR sp A,KB b xs,Al R] ?_
 refine W.opens Opens.rep (i:=0) rfl (fun x1 ⟨hcl,hc64,hc32⟩=>?_)
 obtain ⟨lv,lcs,sv,scs⟩:=x1
 refine We [Cl cp 259 [vptr sp 0,lv,sv],Rw 22 1 lv lcs,Kx (Enc.sl Enc.u8 5) lcs c.links,Rw 22 1 sv scs,Kx (Enc.sl Enc.u8 5) scs c.sums,SuiteR sp A,KB b xs,Al R] ?_
 refine Sn (Qa (k:=Nl [(0,vptr cp 0),(1,b),(4,vint 0)] ?_))
 refine W.seq (W.block (Sn (Qm (k:=?_))))
 refine Nk 6 fun hl2=>?_
 refine Qu (OpQ.lenSl (i:=6) rfl rfl rfl (len22 _)) (k:=?_)
 by_cases h3:(xs.length:Int) < 1
 ·refine Qu (OpQ.decT (OpQ.lss rfl rfl rfl) h3) (k:=Qm (k:=Qs (k:=Qs (k:=Qs (k:=Qt (k:=Qa (k:=Nl [(0,vptr cp 0),(1,b),(4,vint 0),(5,.bool true)] ?_)))))))
  refine W.condT rfl ?_
  refine Sn (Qa (k:=Nl [(0,vptr cp 0),(1,b),(4,vint 11)] ?_))
  refine Wr 1 fun hr4a hr4b hr4c=>?_
  try simp only [La,Lc,Ln] at hr4a
  refine Wr 3 fun hr5a hr5b hr5c=>?_
  try simp only [La,Lc,Ln] at hr5a
  refine W.ent (L':=[Cl cp 259 [vptr sp 0,lv,sv],Rw 22 1 lv lcs,Kx (Enc.sl Enc.u8 5) lcs c.links,Rw 22 1 sv scs,Kx (Enc.sl Enc.u8 5) scs c.sums,SuiteR sp A,KB b xs,Al R]) (es [0,0,0,0,0,0,0,0] rfl) ?_
  refine W.ent (L':=[ChainR cp sp c,SuiteR sp A,KB b xs,Al R]) (Ent.rep' (lv,lcs,sv,scs) rfl ⟨hcl,hc64,hc32⟩ rfl) ?_
  refine W.ret (inblk_r (thn_r (ret1 (M:=[ChainR cp sp c,SuiteR sp A]) rfl rfl (⟨11,c,A,(by unfold Spec.chainAppend; rw [if_pos (by omega)]),(by omega),rfl,rfl⟩) (es [0,0,1] rfl))))
 refine Qu (OpQ.decF (OpQ.lss rfl rfl rfl) h3) (k:=Qm (k:=Qm (k:=Qu (OpQ.lenSl (i:=6) rfl rfl rfl (len22 _)) (k:=Qu (OpQ.gtr rfl rfl rfl) (k:=Qf (k:=Qa (k:=Nl [(0,vptr cp 0),(1,b),(4,vint 0),(5,.bool (decide ((xs.length:Int) > 4096)))] ?_)))))))
 refine Cp rfl (fun h6=>?_) (fun h6=>?_)
 ·refine Sn (Qa (k:=Nl [(0,vptr cp 0),(1,b),(4,vint 11)] ?_))
  refine Wr 1 fun hr7a hr7b hr7c=>?_
  try simp only [La,Lc,Ln] at hr7a
  refine Wr 3 fun hr8a hr8b hr8c=>?_
  try simp only [La,Lc,Ln] at hr8a
  refine W.ent (L':=[Cl cp 259 [vptr sp 0,lv,sv],Rw 22 1 lv lcs,Kx (Enc.sl Enc.u8 5) lcs c.links,Rw 22 1 sv scs,Kx (Enc.sl Enc.u8 5) scs c.sums,SuiteR sp A,KB b xs,Al R]) (es [0,0,0,0,0,0,0,0] rfl) ?_
  refine W.ent (L':=[ChainR cp sp c,SuiteR sp A,KB b xs,Al R]) (Ent.rep' (lv,lcs,sv,scs) rfl ⟨hcl,hc64,hc32⟩ rfl) ?_
  refine W.ret (inblk_r (thn_r (ret1 (M:=[ChainR cp sp c,SuiteR sp A]) rfl rfl (⟨11,c,A,(by unfold Spec.chainAppend; rw [if_pos (by omega)]),(by omega),rfl,rfl⟩) (es [0,0,1] rfl))))
 refine Sn (Qm (k:=Qu (OpQ.nilCheck rfl rfl) (k:=Qu (Of (fa259_1 _ _)) (k:=Qu (Ol 0 ld30) (k:=?_)))))
 refine Nr 1 fun hr9a hr9b hr9c=>?_
 try simp only [La,Lc,Ln] at hr9a
 refine WN.fact (fun _ _ s=>cr_len (i:=2) rfl s) (fun hc10=>?_)
 replace hc10:lcs.length=c.links.length*1:=hc10
 refine Qu (OpQ.lenRow (i:=1) rfl rfl rfl (len30 _)) (k:=Qu (OpQ.eql rfl rfl rfl) (k:=Qa (k:=Nl [(0,vptr cp 0),(1,b),(4,vint 0),(14,.bool (decide ((slen lv:Int)=64)))] ?_)))
 refine Cp rfl (fun h11=>?_) (fun h11=>?_)
 ·refine Sn (Qa (k:=Nl [(0,vptr cp 0),(1,b),(4,vint 33)] ?_))
  refine Wr 3 fun hr12a hr12b hr12c=>?_
  try simp only [La,Lc,Ln] at hr12a
  refine W.ent (L':=[Cl cp 259 [vptr sp 0,lv,sv],Rw 22 1 lv lcs,Kx (Enc.sl Enc.u8 5) lcs c.links,Rw 22 1 sv scs,Kx (Enc.sl Enc.u8 5) scs c.sums,SuiteR sp A,KB b xs,Al R]) (es [0,0,0,0,0,0,0,0] rfl) ?_
  refine W.ent (L':=[ChainR cp sp c,SuiteR sp A,KB b xs,Al R]) (Ent.rep' (lv,lcs,sv,scs) rfl ⟨hcl,hc64,hc32⟩ rfl) ?_
  refine W.ret (inblk_r (thn_r (ret1 (M:=[ChainR cp sp c,SuiteR sp A]) rfl rfl (⟨33,c,A,(by unfold Spec.chainAppend; rw [if_neg (by omega),if_pos (by omega)]),(by omega),rfl,rfl⟩) (es [0,0,1] rfl))))
 refine W.skip (inblk_n (thn_n (Wl [(0,vptr cp 0),(1,b),(4,vint 0)] ?_)))
 refine W.seq (W.drawG mixed ?_)
 refine Gq 0 [] rfl (OpQ.move rfl rfl) ?_
 refine Gq 1 [] rfl (OpQ.move rfl rfl) ?_
 refine Gq 2 [] rfl (OpQ.nilCheck rfl rfl) ?_
 refine Gq 3 [] rfl (Of (fa259_2 _ _)) ?_
 refine WG.hold (Cl cp 259 [vptr sp 0,lv,sv],[27]) ?_
 refine Gq 4 [0] rfl (Ol 0 ld30) ?_
 refine Gq 5 [0] rfl (OpQ.move rfl rfl) ?_
 refine Gq 6 [0] rfl (OpQ.nilCheck rfl rfl) ?_
 refine Gq 7 [0] rfl (Of (fa259_0 _ _)) ?_
 refine Gq 8 [0] rfl (Ol 0 ld40) ?_
 refine Gq 9 [0] rfl (OpQ.move rfl rfl) ?_
 refine Gq 10 [0] rfl (OpQ.nilCheck rfl rfl) ?_
 refine Gq 11 [0] rfl (Of (fa259_2 _ _)) ?_
 refine Gq 12 [0] rfl (Ol 0 ld30) ?_
 refine Gq 13 [0] rfl (OpQ.move rfl rfl) ?_
 refine Gq 14 [0] rfl (OpQ.nilCheck rfl rfl) ?_
 refine Gq 15 [0] rfl (Of (fa259_1 _ _)) ?_
 refine Gq 16 [0] rfl (Ol 0 ld30) ?_
 refine WG.hold (Rw 22 1 lv lcs,[]) ?_
 refine Gq 17 [1,0] rfl (OpQ.lenRow (i:=0) rfl rfl rfl (len30 _)) ?_
 refine Gq 20 [1,0] rfl (OpQ.move rfl rfl) ?_
 refine WG.fact (fun _ _ s=>row_facts (i:=3) rfl s) (fun hr13=>?_)
 obtain ⟨hr13a,hr13b,hr13c⟩:=hr13; try simp only [La,Lc,Ln] at hr13a
 refine WG.fact (fun _ _ s=>cr_len (i:=4) rfl s) (fun hc14=>?_)
 replace hc14:scs.length=c.sums.length*1:=hc14
 refine WG.one (i:=18) (by kernel_rfl) (UpG.qu rfl rfl rfl (OpQ.indexRow (i:=3) (j:=slen lv) rfl rfl rfl rfl (by omega) (by omega) (by omega) ix30) (es [1,0] rfl) ?_)
 refine WG.ent (Ent.know (m:=Sl Enc.u8 5 (scs.getD (slen lv) undef) (c.sums.getD (slen lv) [])) (fun K h s=>CellsRel.elemSl (kat 4 s rfl) (by omega))) ?_
 refine WG.ent (L':=[KB (scs.getD (slen lv) undef) (c.sums.getD (slen lv) []),Cl cp 259 [vptr sp 0,lv,sv],Rw 22 1 lv lcs,Kx (Enc.sl Enc.u8 5) lcs c.links,Rw 22 1 sv scs,Kx (Enc.sl Enc.u8 5) scs c.sums,SuiteR sp A,KB b xs,Al R]) er ?_
 refine WG.one (i:=19) (by kernel_rfl) (UpG.qu rfl rfl rfl (OpQ.loadRow (i:=4) (v:=sv) (cs:=scs) (j:=(slen lv)) rfl rfl rfl (getD_of_lt (by omega)) ld22) (es [2,1] rfl) ?_)
 have h32:(c.sums[slen lv]?.getD []).length≤32:=by have h8:=hc32 (slen lv); simpa using h8
 refine WG.fact (fun _ _ s=>sl_isS (i:=0) rfl s) (fun hS17=>?_)
 refine WG.fact (fun _ _ s=>sl_isS (i:=7) rfl s) (fun hS18=>?_)
 refine WG.fact (fun _ _ s=>(sl_facts (i:=7) rfl s).2.2) (fun ho19=>?_)
 refine WG.fact (fun _ _ s=>(sl_facts (i:=0) rfl s).2.2) (fun ho20=>?_)
 refine WG.one (i:=21) (by kernel_rfl) (UpG.run rfl rfl rfl (OpRun.buildSlice (qs:=[(0,scs.getD (slen lv) undef),(1,b)]) (cs:=[scs.getD (slen lv) undef,b]) (E:=22) (sz:=1) rfl ⟨rfl,rfl,rfl,rfl,trivial⟩ (fun _=>by obtain ⟨_,_,_,e1⟩:=hS17; rw [e1]; obtain ⟨_,_,_,e2⟩:=hS18; rw [e2]; kernel_rfl) (one_cons ho20 (one_cons ho19 one_nil)) rfl (by decide)) ?_)
 rintro v15 _ ⟨h16a,h16b,h16c,rfl⟩
 refine ⟨es [3,2] rfl,?_⟩
 refine WG.ent (Ent.know (m:=CellsRel (Enc.sl Enc.u8 5) ([scs.getD (slen lv) undef,b]) ([c.sums.getD (slen lv) [],xs])) (fun K h s=>(CellsRel.cons (cs:=[scs.getD (slen lv) undef]) (ds:=[b]) rfl (Enc.sl_mk (kat 1 s rfl)) (CellsRel.cons (cs:=[b]) (ds:=[]) rfl (Enc.sl_mk (kat 8 s rfl)) CellsRel.nil)))) ?_
 refine WG.ent (L':=[Kx (Enc.sl Enc.u8 5) ([scs.getD (slen lv) undef,b]) ([c.sums.getD (slen lv) [],xs]),Rw 22 1 v15 ([scs.getD (slen lv) undef,b]),KB (scs.getD (slen lv) undef) (c.sums.getD (slen lv) []),Cl cp 259 [vptr sp 0,lv,sv],Rw 22 1 lv lcs,Kx (Enc.sl Enc.u8 5) lcs c.links,Rw 22 1 sv scs,Kx (Enc.sl Enc.u8 5) scs c.sums,SuiteR sp A,KB b xs,Al R]) er ?_
 refine WG.freezeRel (e:=Enc.sl Enc.u8 5) (i:=1) (j:=0) (Lb rfl) rfl rfl ?_
 refine WG.ent (L':=[KS v15 ([c.sums.getD (slen lv) [],xs]),Kx (Enc.sl Enc.u8 5) ([scs.getD (slen lv) undef,b]) ([c.sums.getD (slen lv) [],xs]),KB (scs.getD (slen lv) undef) (c.sums.getD (slen lv) []),Cl cp 259 [vptr sp 0,lv,sv],Rw 22 1 lv lcs,Kx (Enc.sl Enc.u8 5) lcs c.links,Rw 22 1 sv scs,Kx (Enc.sl Enc.u8 5) scs c.sums,SuiteR sp A,KB b xs,Al R]) er ?_
 refine WG.one (i:=22) (by kernel_rfl) (UpG.call rfl rfl rfl (OpCall.mk (xs:=[.tmp 29,.tmp 42]) (vs:=[vptr sp 0,v15]) rfl ⟨rfl,rfl,trivial⟩ Tryz.call194) (Sum_fn sp A v15 ([c.sums.getD (slen lv) [],xs]) (by first | omega | (simp; done) | (simp; omega) | (simp at *; omega)) (by first | omega | (simp; done) | (simp; omega) | (simp at *; omega))) ((ed 0 rfl).trans (ep [9,0] rfl)) ?_)
 rintro _ _ ⟨r21,bs22,A23,h24,h25,h26,rfl,rfl⟩
 refine ⟨es [6,5] rfl,?_⟩
 refine WG.fact (fun _ _ s=>sl_isS (i:=0) rfl s) (fun hS29=>?_)
 refine WG.fact (fun _ _ s=>(sl_facts (i:=0) rfl s).2.2) (fun ho30=>?_)
 refine WG.one (i:=23) (by kernel_rfl) (UpG.run rfl rfl rfl (OpRun.buildSlice (qs:=[(0,r21)]) (cs:=[r21]) (E:=22) (sz:=1) rfl ⟨rfl,rfl,trivial⟩ (fun _=>by obtain ⟨_,_,_,e1⟩:=hS29; rw [e1]; kernel_rfl) (one_cons ho30 one_nil) rfl (by decide)) ?_)
 rintro v27 _ ⟨h28a,h28b,h28c,rfl⟩
 refine ⟨es [7,6] rfl,?_⟩
 refine WG.ent (Ent.know (m:=CellsRel (Enc.sl Enc.u8 5) ([r21]) ([bs22])) (fun K h s=>(CellsRel.cons (cs:=[r21]) (ds:=[]) rfl (Enc.sl_mk (kat 1 s rfl)) CellsRel.nil))) ?_
 refine WG.ent (L':=[Kx (Enc.sl Enc.u8 5) ([r21]) ([bs22]),Rw 22 1 v27 ([r21]),KB r21 bs22,SuiteR sp A23,KS v15 ([c.sums.getD (slen lv) [],xs]),Kx (Enc.sl Enc.u8 5) ([scs.getD (slen lv) undef,b]) ([c.sums.getD (slen lv) [],xs]),KB (scs.getD (slen lv) undef) (c.sums.getD (slen lv) []),Cl cp 259 [vptr sp 0,lv,sv],Rw 22 1 lv lcs,Kx (Enc.sl Enc.u8 5) lcs c.links,Rw 22 1 sv scs,Kx (Enc.sl Enc.u8 5) scs c.sums,KB b xs,Al R]) er ?_
 refine WG.fact (fun _ _ s=>row_facts (i:=1) rfl s) (fun hr33=>?_)
 obtain ⟨hr33a,hr33b,hr33c⟩:=hr33; try simp only [La,Lc,Ln] at hr33a
 refine WG.one (i:=24) (by kernel_rfl) (UpG.run rfl rfl rfl (OpRun.appendRow (i:=10) (j:=1) rfl rfl rfl rfl rfl Tryz.underlying30 (inf:=Tryz.t22) (by kernel_rfl) rfl rfl rfl (by_:=24) rfl (by first | omega | (simp; omega)) (by first | omega | (simp; omega))) ?_)
 rintro v31 _ ⟨h32a,h32b,rfl⟩
 refine ⟨es [8,7] rfl,?_⟩
 refine WG.ent (Ent.know (m:=CellsRel (Enc.sl Enc.u8 5) (scs++([r21])) (c.sums++([bs22]))) (fun K h s=>CellsRel.append (e:=Enc.sl Enc.u8 5) (cs:=scs) (ds:=[r21]) (xs:=c.sums) (ys:=[bs22]) (kat 10 s rfl) (kat 1 s rfl))) ?_
 refine WG.ent (L':=[Kx (Enc.sl Enc.u8 5) (scs++([r21])) (c.sums++([bs22])),Rw 22 1 v31 (scs++([r21])),Kx (Enc.sl Enc.u8 5) ([r21]) ([bs22]),KB r21 bs22,SuiteR sp A23,KS v15 ([c.sums.getD (slen lv) [],xs]),Kx (Enc.sl Enc.u8 5) ([scs.getD (slen lv) undef,b]) ([c.sums.getD (slen lv) [],xs]),KB (scs.getD (slen lv) undef) (c.sums.getD (slen lv) []),Cl cp 259 [vptr sp 0,lv,sv],Rw 22 1 lv lcs,Kx (Enc.sl Enc.u8 5) lcs c.links,Kx (Enc.sl Enc.u8 5) scs c.sums,KB b xs,Al R]) er ?_
 refine Gq 25 [9,8] rfl (OpQ.nilCheck rfl rfl) ?_
 refine Gq 26 [9,8] rfl (Of (fa259_2 _ _)) ?_
 refine WG.one (i:=27) (by kernel_rfl) (UpG.run rfl rfl rfl (OpRun.store (i:=8) (vs:=[v31]) (cs':=[vptr sp 0,lv,v31]) rfl rfl rfl sz30 (cells_one h32b) rfl (one_cons h32b one_nil) rfl (Lb rfl) rfl) ?_)
 rintro _ _ ⟨rfl,rfl⟩
 refine ⟨es [9] rfl,?_⟩
 refine WG.done (by kernel_rfl) ?_
 refine thn_n (Ww [(0,vptr cp 0),(1,b),(4,vint 0)] [Cl cp 259 [vptr sp 0,lv,v31],Kx (Enc.sl Enc.u8 5) (scs++([r21])) (c.sums++([bs22])),Rw 22 1 v31 (scs++([r21])),Kx (Enc.sl Enc.u8 5) ([r21]) ([bs22]),KB r21 bs22,SuiteR sp A23,KS v15 ([c.sums.getD (slen lv) [],xs]),Kx (Enc.sl Enc.u8 5) ([scs.getD (slen lv) undef,b]) ([c.sums.getD (slen lv) [],xs]),KB (scs.getD (slen lv) undef) (c.sums.getD (slen lv) []),Rw 22 1 lv lcs,Kx (Enc.sl Enc.u8 5) lcs c.links,Kx (Enc.sl Enc.u8 5) scs c.sums,KB b xs,Al R] ?_)
 refine W.seq (W.drawG mixed ?_)
 refine Gq 0 [] rfl (OpQ.move rfl rfl) ?_
 refine Gq 1 [] rfl (OpQ.move rfl rfl) ?_
 refine Gq 2 [] rfl (OpQ.nilCheck rfl rfl) ?_
 refine Gq 3 [] rfl (Of (fa259_1 _ _)) ?_
 refine WG.hold (Cl cp 259 [vptr sp 0,lv,v31],[11]) ?_
 refine Gq 4 [0] rfl (Ol 0 ld30) ?_
 refine Gq 5 [0] rfl (OpQ.move rfl rfl) ?_
 refine WG.one (i:=6) (by kernel_rfl) (UpG.call rfl rfl rfl (OpCall.mk (xs:=[.tmp 53]) (vs:=[b]) rfl ⟨rfl,trivial⟩ Tryz.call195) (CloneB_fn b xs (by first | omega | (simp; done) | (simp; omega) | (simp at *; omega))) ((ed 12 rfl).trans (ep [0] rfl)) ?_)
 rintro _ _ ⟨r34,h35,rfl,rfl⟩
 refine ⟨es [1] rfl,?_⟩
 refine WG.fact (fun _ _ s=>sl_isS (i:=0) rfl s) (fun hS38=>?_)
 refine WG.fact (fun _ _ s=>(sl_facts (i:=0) rfl s).2.2) (fun ho39=>?_)
 refine WG.one (i:=7) (by kernel_rfl) (UpG.run rfl rfl rfl (OpRun.buildSlice (qs:=[(0,r34)]) (cs:=[r34]) (E:=22) (sz:=1) rfl ⟨rfl,rfl,trivial⟩ (fun _=>by obtain ⟨_,_,_,e1⟩:=hS38; rw [e1]; kernel_rfl) (one_cons ho39 one_nil) rfl (by decide)) ?_)
 rintro v36 _ ⟨h37a,h37b,h37c,rfl⟩
 refine ⟨es [2] rfl,?_⟩
 refine WG.ent (Ent.know (m:=CellsRel (Enc.sl Enc.u8 5) ([r34]) ([xs])) (fun K h s=>(CellsRel.cons (cs:=[r34]) (ds:=[]) rfl (Enc.sl_mk (kat 1 s rfl)) CellsRel.nil))) ?_
 refine WG.ent (L':=[Kx (Enc.sl Enc.u8 5) ([r34]) ([xs]),Rw 22 1 v36 ([r34]),KB r34 xs,Cl cp 259 [vptr sp 0,lv,v31],Kx (Enc.sl Enc.u8 5) (scs++([r21])) (c.sums++([bs22])),Rw 22 1 v31 (scs++([r21])),Kx (Enc.sl Enc.u8 5) ([r21]) ([bs22]),KB r21 bs22,SuiteR sp A23,KS v15 ([c.sums.getD (slen lv) [],xs]),Kx (Enc.sl Enc.u8 5) ([scs.getD (slen lv) undef,b]) ([c.sums.getD (slen lv) [],xs]),KB (scs.getD (slen lv) undef) (c.sums.getD (slen lv) []),Rw 22 1 lv lcs,Kx (Enc.sl Enc.u8 5) lcs c.links,Kx (Enc.sl Enc.u8 5) scs c.sums,KB b xs,Al R]) er ?_
 refine WG.fact (fun _ _ s=>row_facts (i:=1) rfl s) (fun hr42=>?_)
 obtain ⟨hr42a,hr42b,hr42c⟩:=hr42; try simp only [La,Lc,Ln] at hr42a
 refine WG.one (i:=8) (by kernel_rfl) (UpG.run rfl rfl rfl (OpRun.appendRow (i:=12) (j:=1) rfl rfl rfl rfl rfl Tryz.underlying30 (inf:=Tryz.t22) (by kernel_rfl) rfl rfl rfl (by_:=24) rfl (by first | omega | (simp; omega)) (by first | omega | (simp; omega))) ?_)
 rintro v40 _ ⟨h41a,h41b,rfl⟩
 refine ⟨es [3] rfl,?_⟩
 refine WG.ent (Ent.know (m:=CellsRel (Enc.sl Enc.u8 5) (lcs++([r34])) (c.links++([xs]))) (fun K h s=>CellsRel.append (e:=Enc.sl Enc.u8 5) (cs:=lcs) (ds:=[r34]) (xs:=c.links) (ys:=[xs]) (kat 12 s rfl) (kat 1 s rfl))) ?_
 refine WG.ent (L':=[Kx (Enc.sl Enc.u8 5) (lcs++([r34])) (c.links++([xs])),Rw 22 1 v40 (lcs++([r34])),Kx (Enc.sl Enc.u8 5) ([r34]) ([xs]),KB r34 xs,Cl cp 259 [vptr sp 0,lv,v31],Kx (Enc.sl Enc.u8 5) (scs++([r21])) (c.sums++([bs22])),Rw 22 1 v31 (scs++([r21])),Kx (Enc.sl Enc.u8 5) ([r21]) ([bs22]),KB r21 bs22,SuiteR sp A23,KS v15 ([c.sums.getD (slen lv) [],xs]),Kx (Enc.sl Enc.u8 5) ([scs.getD (slen lv) undef,b]) ([c.sums.getD (slen lv) [],xs]),KB (scs.getD (slen lv) undef) (c.sums.getD (slen lv) []),Kx (Enc.sl Enc.u8 5) lcs c.links,Kx (Enc.sl Enc.u8 5) scs c.sums,KB b xs,Al R]) er ?_
 refine Gq 9 [4] rfl (OpQ.nilCheck rfl rfl) ?_
 refine Gq 10 [4] rfl (Of (fa259_1 _ _)) ?_
 refine WG.one (i:=11) (by kernel_rfl) (UpG.run rfl rfl rfl (OpRun.store (i:=4) (vs:=[v40]) (cs':=[vptr sp 0,v40,v31]) rfl rfl rfl sz30 (cells_one h41b) rfl (one_cons h41b one_nil) rfl (Lb rfl) rfl) ?_)
 rintro _ _ ⟨rfl,rfl⟩
 refine ⟨es [] rfl,?_⟩
 refine WG.done (by kernel_rfl) ?_
 refine thn_n (Ww [(4,vint 0)] [Cl cp 259 [vptr sp 0,v40,v31],Kx (Enc.sl Enc.u8 5) (lcs++([r34])) (c.links++([xs])),Rw 22 1 v40 (lcs++([r34])),Kx (Enc.sl Enc.u8 5) ([r34]) ([xs]),KB r34 xs,Kx (Enc.sl Enc.u8 5) (scs++([r21])) (c.sums++([bs22])),Rw 22 1 v31 (scs++([r21])),Kx (Enc.sl Enc.u8 5) ([r21]) ([bs22]),KB r21 bs22,SuiteR sp A23,KS v15 ([c.sums.getD (slen lv) [],xs]),Kx (Enc.sl Enc.u8 5) ([scs.getD (slen lv) undef,b]) ([c.sums.getD (slen lv) [],xs]),KB (scs.getD (slen lv) undef) (c.sums.getD (slen lv) []),Kx (Enc.sl Enc.u8 5) lcs c.links,Kx (Enc.sl Enc.u8 5) scs c.sums,KB b xs,Al R] ?_)
 refine Sn (Qa (k:=Nl [(4,vint 0)] ?_))
 refine Wr 2 fun hr43a hr43b hr43c=>?_
 try simp only [La,Lc,Ln] at hr43a
 refine Wr 6 fun hr44a hr44b hr44c=>?_
 try simp only [La,Lc,Ln] at hr44a
 have hcl2:(⟨c.links++[xs],c.sums++[bs22]⟩:Chain).sums.length=(⟨c.links++[xs],c.sums++[bs22]⟩:Chain).links.length+1∧(⟨c.links++[xs],c.sums++[bs22]⟩:Chain).links.length≤64∧∀ i,((⟨c.links++[xs],c.sums++[bs22]⟩:Chain).sums.getD i []).length≤32:=⟨by simp; omega,by simp; omega,sums32 hc32 (by omega)⟩; have hsl:slen lv=c.links.length:=by omega
 refine W.ent (L':=[Cl cp 259 [vptr sp 0,v40,v31],Rw 22 1 v40 (lcs++([r34])),Kx (Enc.sl Enc.u8 5) (lcs++([r34])) ((⟨c.links++[xs],c.sums++[bs22]⟩:Chain).links),Rw 22 1 v31 (scs++([r21])),Kx (Enc.sl Enc.u8 5) (scs++([r21])) ((⟨c.links++[xs],c.sums++[bs22]⟩:Chain).sums),Kx (Enc.sl Enc.u8 5) ([r34]) ([xs]),KB r34 xs,Kx (Enc.sl Enc.u8 5) ([r21]) ([bs22]),KB r21 bs22,SuiteR sp A23,KS v15 ([c.sums.getD (slen lv) [],xs]),Kx (Enc.sl Enc.u8 5) ([scs.getD (slen lv) undef,b]) ([c.sums.getD (slen lv) [],xs]),KB (scs.getD (slen lv) undef) (c.sums.getD (slen lv) []),Kx (Enc.sl Enc.u8 5) lcs c.links,Kx (Enc.sl Enc.u8 5) scs c.sums,KB b xs,Al R]) ((es [0,1,0,3,2,0,0,0,0,0,0,0,0,0,0,0,0] rfl).trans (Ent.of_eq (by rfl))) ?_
 refine W.ent (L':=[ChainR cp sp (⟨c.links++[xs],c.sums++[bs22]⟩:Chain),Kx (Enc.sl Enc.u8 5) ([r34]) ([xs]),KB r34 xs,Kx (Enc.sl Enc.u8 5) ([r21]) ([bs22]),KB r21 bs22,SuiteR sp A23,KS v15 ([c.sums.getD (slen lv) [],xs]),Kx (Enc.sl Enc.u8 5) ([scs.getD (slen lv) undef,b]) ([c.sums.getD (slen lv) [],xs]),KB (scs.getD (slen lv) undef) (c.sums.getD (slen lv) []),Kx (Enc.sl Enc.u8 5) lcs c.links,Kx (Enc.sl Enc.u8 5) scs c.sums,KB b xs,Al R]) (Ent.rep' (v40,lcs++([r34]),v31,scs++([r21])) rfl hcl2 rfl) ?_
 refine W.ret (ret1 (M:=[ChainR cp sp (⟨c.links++[xs],c.sums++[bs22]⟩:Chain),SuiteR sp A23]) rfl rfl (⟨0,(⟨c.links++[xs],c.sums++[bs22]⟩:Chain),A23,(by unfold Spec.chainAppend; rw [if_neg (by omega),if_neg (by omega)]; have h9:=h24; simp only [List.flatten_cons,List.flatten_nil,List.append_nil] at h9; rw [hsl] at h9; rw [h9]),(by omega),rfl,rfl⟩) (es [0,4,10] rfl))
theorem chainAt_fn (cp:Nat) (sp:Nat) (c:Chain) (i:Int):Fn Tryz.prog 173 #[vptr cp 0,vint i] [ChainR cp sp c] (fun v M=>(∃ (z:Value),(0≤i∧i < (c.sums.length:Int))∧(c.sums.getD i.toNat []).length≤32∧.tuple #[.agg #[vint i,z],.bool true]=v∧M=[KB z (c.sums.getD i.toNat []),ChainR cp sp c])∨((¬ (0≤i∧i < (c.sums.length:Int)))∧.tuple #[.agg #[vint 0,.slice none 0 0],.bool false]=v∧M=[ChainR cp sp c])):=by
 refine Fi 28 Tryz.func173 fun g R=>?_
 refine Ww [(0,vptr cp 0),(1,vint i)] [ChainR cp sp c,Al R] ?_
 refine W.opens Opens.rep (i:=0) rfl (fun x1 ⟨hcl,hc64,hc32⟩=>?_)
 obtain ⟨lv,lcs,sv,scs⟩:=x1
 refine We [Cl cp 259 [vptr sp 0,lv,sv],Rw 22 1 lv lcs,Kx (Enc.sl Enc.u8 5) lcs c.links,Rw 22 1 sv scs,Kx (Enc.sl Enc.u8 5) scs c.sums,Al R] ?_
 refine Sn (Ru (OpRun.alloc rfl zv74 rfl) ?_)
 rintro _ _ ⟨b2,rfl,rfl⟩
 refine Qa (k:=Nw [(0,vptr cp 0),(1,vint i),(4,vptr b2 0),(5,.bool false)] [Cl b2 74 [vint 0,N0],Cl cp 259 [vptr sp 0,lv,sv],Rw 22 1 lv lcs,Kx (Enc.sl Enc.u8 5) lcs c.links,Rw 22 1 sv scs,Kx (Enc.sl Enc.u8 5) scs c.sums,Al R] ?_)
 refine W.seq (Sn (Qm (k:=?_)))
 by_cases h3:i < 0
 ·refine Qu (OpQ.decT (OpQ.lss rfl rfl rfl) h3) (k:=Qm (k:=Qs (k:=Qs (k:=Qs (k:=Qs (k:=Qs (k:=Qs (k:=Qs (k:=Qt (k:=Nl [(0,vptr cp 0),(1,vint i),(4,vptr b2 0),(5,.bool false),(16,.bool true)] ?_))))))))))
  refine W.condT rfl ?_
  refine Sn (Qu (OpQ.build (qs:=[]) (v:=.agg #[vint 0,N0]) rfl trivial (fun _=>by kernel_rfl)) (k:=Rn (OpRun.store (i:=0) (vs:=[vint 0,N0]) (cs':=[vint 0,N0]) rfl rfl rfl sz74 rfl rfl (one_cons rfl (one_cons rfl one_nil)) rfl (Lb rfl) rfl) (k:=Qa (k:=Nw [(0,vptr cp 0),(1,vint i),(4,vptr b2 0),(5,.bool false)] [Cl b2 74 [vint 0,N0],Cl cp 259 [vptr sp 0,lv,sv],Rw 22 1 lv lcs,Kx (Enc.sl Enc.u8 5) lcs c.links,Rw 22 1 sv scs,Kx (Enc.sl Enc.u8 5) scs c.sums,Al R] ?_))))
  refine Wr 2 fun hr4a hr4b hr4c=>?_
  try simp only [La,Lc,Ln] at hr4a
  refine Wr 4 fun hr5a hr5b hr5c=>?_
  try simp only [La,Lc,Ln] at hr5a
  refine W.ent (L':=[Cl cp 259 [vptr sp 0,lv,sv],Rw 22 1 lv lcs,Kx (Enc.sl Enc.u8 5) lcs c.links,Rw 22 1 sv scs,Kx (Enc.sl Enc.u8 5) scs c.sums,Cl b2 74 [vint 0,N0],Al R]) (es [1,1,1,1,1,0,0] rfl) ?_
  refine W.ent (L':=[ChainR cp sp c,Cl b2 74 [vint 0,N0],Al R]) (Ent.rep' (lv,lcs,sv,scs) rfl ⟨hcl,hc64,hc32⟩ rfl) ?_
  refine W.ret (thn_r (retC2 (M:=[ChainR cp sp c]) (i:=1) rfl rfl rfl rfl rfl ld74 (.inr (⟨(by omega),rfl,rfl⟩)) (es [0,1] rfl)))
 refine Qu (OpQ.decF (OpQ.lss rfl rfl rfl) h3) (k:=Qm (k:=Qm (k:=Qm (k:=Qu (OpQ.nilCheck rfl rfl) (k:=Qu (Of (fa259_2 _ _)) (k:=Qu (Ol 1 ld30) (k:=?_)))))))
 refine Nr 4 fun hr6a hr6b hr6c=>?_
 try simp only [La,Lc,Ln] at hr6a
 refine WN.fact (fun _ _ s=>cr_len (i:=5) rfl s) (fun hc7=>?_)
 replace hc7:scs.length=c.sums.length*1:=hc7
 refine Qu (OpQ.lenRow (i:=4) rfl rfl rfl (len30 _)) (k:=Qu (OpQ.geq rfl rfl rfl) (k:=Qf (k:=Nl [(0,vptr cp 0),(1,vint i),(4,vptr b2 0),(5,.bool false),(16,.bool (decide (i ≥ (slen sv:Int))))] ?_)))
 refine Cp rfl (fun h8=>?_) (fun h8=>?_)
 ·refine Sn (Qu (OpQ.build (qs:=[]) (v:=.agg #[vint 0,N0]) rfl trivial (fun _=>by kernel_rfl)) (k:=Rn (OpRun.store (i:=0) (vs:=[vint 0,N0]) (cs':=[vint 0,N0]) rfl rfl rfl sz74 rfl rfl (one_cons rfl (one_cons rfl one_nil)) rfl (Lb rfl) rfl) (k:=Qa (k:=Nw [(0,vptr cp 0),(1,vint i),(4,vptr b2 0),(5,.bool false)] [Cl b2 74 [vint 0,N0],Cl cp 259 [vptr sp 0,lv,sv],Rw 22 1 lv lcs,Kx (Enc.sl Enc.u8 5) lcs c.links,Rw 22 1 sv scs,Kx (Enc.sl Enc.u8 5) scs c.sums,Al R] ?_))))
  refine Wr 2 fun hr9a hr9b hr9c=>?_
  try simp only [La,Lc,Ln] at hr9a
  refine W.ent (L':=[Cl cp 259 [vptr sp 0,lv,sv],Rw 22 1 lv lcs,Kx (Enc.sl Enc.u8 5) lcs c.links,Rw 22 1 sv scs,Kx (Enc.sl Enc.u8 5) scs c.sums,Cl b2 74 [vint 0,N0],Al R]) (es [1,1,1,1,1,0,0] rfl) ?_
  refine W.ent (L':=[ChainR cp sp c,Cl b2 74 [vint 0,N0],Al R]) (Ent.rep' (lv,lcs,sv,scs) rfl ⟨hcl,hc64,hc32⟩ rfl) ?_
  refine W.ret (thn_r (retC2 (M:=[ChainR cp sp c]) (i:=1) rfl rfl rfl rfl rfl ld74 (.inr (⟨(by omega),rfl,rfl⟩)) (es [0,1] rfl)))
 refine W.skip (thn_n (Wl [(0,vptr cp 0),(1,vint i),(4,vptr b2 0),(5,.bool false)] ?_))
 refine Sn (Qm (k:=Qm (k:=Qu (OpQ.nilCheck rfl rfl) (k:=Qu (Of (fa259_2 _ _)) (k:=Qu (Ol 1 ld30) (k:=Qm (k:=Qu (OpQ.indexRow (i:=4) (j:=i.toNat) rfl rfl rfl rfl (by omega) (by omega) (by omega) ix30) (k:=?_))))))))
 refine WN.ent (Ent.know (m:=Sl Enc.u8 5 (scs.getD i.toNat undef) (c.sums.getD i.toNat [])) (fun K h s=>CellsRel.elemSl (kat 5 s rfl) (by omega))) ?_
 refine Ne [KB (scs.getD i.toNat undef) (c.sums.getD i.toNat []),Cl b2 74 [vint 0,N0],Cl cp 259 [vptr sp 0,lv,sv],Rw 22 1 lv lcs,Kx (Enc.sl Enc.u8 5) lcs c.links,Rw 22 1 sv scs,Kx (Enc.sl Enc.u8 5) scs c.sums,Al R] (Qu (OpQ.loadRow (i:=5) (v:=sv) (cs:=scs) (j:=i.toNat) rfl rfl rfl (getD_of_lt (by omega)) ld22) (k:=?_))
 have h32:(c.sums[i.toNat]?.getD []).length≤32:=by have h8:=hc32 i.toNat; simpa using h8
 refine Wc [.tmp 25] [scs.getD i.toNat undef] Tryz.call195 (CloneB_fn (scs.getD i.toNat undef) (c.sums.getD i.toNat []) (by first | omega | (simp; done) | (simp; omega) | (simp at *; omega))) ((ed 0 rfl).trans (ep [0] rfl)) ?_
 rintro _ _ ⟨r10,h11,rfl,rfl⟩
 refine WN.fact (fun _ _ s=>sl_isS (i:=0) rfl s) (fun hS12=>?_)
 refine Qu (OpQ.build (qs:=[(0,vint i),(1,r10)]) (v:=.agg #[vint i,r10]) rfl ⟨rfl,rfl,rfl,rfl,trivial⟩ (fun _=>by obtain ⟨_,_,_,e1⟩:=hS12; rw [e1]; kernel_rfl)) (k:=?_)
 refine Nf 0 fun ho13=>?_
 refine Rn (OpRun.store (i:=2) (vs:=[vint i,r10]) (cs':=[vint i,r10]) rfl rfl rfl sz74 rfl rfl (one_cons rfl (one_cons ho13 one_nil)) rfl (Lb rfl) rfl) (k:=Qa (k:=Nw [(4,vptr b2 0),(5,.bool true)] [Cl b2 74 [vint i,r10],KB r10 (c.sums.getD i.toNat []),KB (scs.getD i.toNat undef) (c.sums.getD i.toNat []),Cl cp 259 [vptr sp 0,lv,sv],Rw 22 1 lv lcs,Kx (Enc.sl Enc.u8 5) lcs c.links,Rw 22 1 sv scs,Kx (Enc.sl Enc.u8 5) scs c.sums,Al R] ?_))
 refine Wr 4 fun hr14a hr14b hr14c=>?_
 try simp only [La,Lc,Ln] at hr14a
 refine W.ent (L':=[Cl cp 259 [vptr sp 0,lv,sv],Rw 22 1 lv lcs,Kx (Enc.sl Enc.u8 5) lcs c.links,Rw 22 1 sv scs,Kx (Enc.sl Enc.u8 5) scs c.sums,Cl b2 74 [vint i,r10],KB r10 (c.sums.getD i.toNat []),KB (scs.getD i.toNat undef) (c.sums.getD i.toNat []),Al R]) (es [3,3,3,3,3,0,0,0,0] rfl) ?_
 refine W.ent (L':=[ChainR cp sp c,Cl b2 74 [vint i,r10],KB r10 (c.sums.getD i.toNat []),KB (scs.getD i.toNat undef) (c.sums.getD i.toNat []),Al R]) (Ent.rep' (lv,lcs,sv,scs) rfl ⟨hcl,hc64,hc32⟩ rfl) ?_
 refine W.ret (retC2 (M:=[KB r10 (c.sums.getD i.toNat []),ChainR cp sp c]) (i:=1) rfl rfl rfl rfl rfl ld74 (.inl ⟨r10,(by omega),(by exact hc32 _),rfl,rfl⟩) (es [2,0,2] rfl))
theorem chainHead_fn (cp:Nat) (sp:Nat) (c:Chain):Fn Tryz.prog 125 #[vptr cp 0] [ChainR cp sp c] (fun v M=>∃ (z:Value),(c.sums.getD c.links.length []).length≤32∧.agg #[vint (c.links.length:Int),z]=v∧M=[KB z (c.sums.getD c.links.length []),ChainR cp sp c]):=by
 refine Fi 13 Tryz.func125 fun g R=>?_
 refine Ww [(0,vptr cp 0)] [ChainR cp sp c,Al R] ?_
 refine Sn (Ru (OpRun.alloc rfl zv74 rfl) ?_)
 rintro _ _ ⟨b1,rfl,rfl⟩
 refine Nw [(0,vptr cp 0),(2,vptr b1 0)] [Cl b1 74 [vint 0,N0],ChainR cp sp c,Al R] ?_
 refine Sn (Qm (k:=Qm (k:=?_)))
 refine Wc [.tmp 7] [vptr cp 0] Tryz.call53 (chainLen_fn cp sp c) (ep [1] rfl) ?_
 rintro _ _ ⟨rfl,rfl⟩
 refine WN.opens Opens.rep (i:=0) rfl (fun x2 ⟨hcl,hc64,hc32⟩=>?_)
 obtain ⟨lv,lcs,sv,scs⟩:=x2
 refine Ne [Cl cp 259 [vptr sp 0,lv,sv],Rw 22 1 lv lcs,Kx (Enc.sl Enc.u8 5) lcs c.links,Rw 22 1 sv scs,Kx (Enc.sl Enc.u8 5) scs c.sums,Cl b1 74 [vint 0,N0],Al R] ?_
 refine WN.ent (L':=[Cl cp 259 [vptr sp 0,lv,sv],Rw 22 1 lv lcs,Kx (Enc.sl Enc.u8 5) lcs c.links,Rw 22 1 sv scs,Kx (Enc.sl Enc.u8 5) scs c.sums,Cl b1 74 [vint 0,N0],Al R]) (es [0,0,0,0,0,0,0] rfl) ?_
 refine WN.ent (L':=[ChainR cp sp c,Cl b1 74 [vint 0,N0],Al R]) (Ent.rep' (lv,lcs,sv,scs) rfl ⟨hcl,hc64,hc32⟩ rfl) ?_
 refine Wc [.tmp 6,.tmp 8] [vptr cp 0,vint (c.links.length:Int)] Tryz.call173 (chainAt_fn cp sp c (c.links.length:Int)) (ep [0] rfl) ?_
 rintro _ _ (⟨z3,h4,h5,rfl,rfl⟩ | ⟨h6,rfl,rfl⟩)
 ·refine Qm (k:=Qe (k:=Qe (k:=?_)))
  refine Ru (OpRun.alloc rfl zv74 rfl) ?_
  rintro _ _ ⟨b7,rfl,rfl⟩
  refine Nf 1 fun ho8=>?_
  refine Rn (OpRun.store (i:=0) (vs:=[vint (c.links.length:Int),z3]) (cs':=[vint (c.links.length:Int),z3]) rfl rfl rfl sz74 rfl rfl (one_cons rfl (one_cons ho8 one_nil)) rfl (Lb rfl) rfl) (k:=Qa (k:=Nw [(2,vptr b1 0),(3,vptr b7 0)] [Cl b7 74 [vint (c.links.length:Int),z3],KB z3 (c.sums.getD (c.links.length:Int).toNat []),ChainR cp sp c,Cl b1 74 [vint 0,N0],Al R] ?_))
  refine Sn (Qu (OpQ.loadN (i:=0) rfl rfl ld74 rfl rfl rfl) (k:=Rn (OpRun.store (i:=3) (vs:=[vint (c.links.length:Int),z3]) (cs':=[vint (c.links.length:Int),z3]) rfl rfl rfl sz74 rfl rfl (one_cons rfl (one_cons ho8 one_nil)) rfl (Lb rfl) rfl) (k:=Nw [(2,vptr b1 0)] [Cl b1 74 [vint (c.links.length:Int),z3],Cl b7 74 [vint (c.links.length:Int),z3],KB z3 (c.sums.getD (c.links.length:Int).toNat []),ChainR cp sp c,Al R] ?_)))
  refine W.ret (retC (M:=[KB z3 (c.sums.getD c.links.length []),ChainR cp sp c]) (i:=0) rfl rfl rfl rfl ld74 (⟨z3,(by simpa using h5),rfl,rfl⟩) ((es [2,2,2] rfl).trans (Ent.of_eq (by rw [Int.toNat_natCast]; rfl))))
 exfalso; omega
theorem chainCheck_fn (cp:Nat) (sp:Nat) (c:Chain) (i:Int) (hv:Value) (hs:Bytes):Fn Tryz.prog 127 #[vptr cp 0,.agg #[vint i,hv]] [ChainR cp sp c,KB hv hs] (fun v M=>vint (Spec.chainCheck c i hs)=v∧M=[ChainR cp sp c]):=by
 refine Fi 27 Tryz.func127 fun g R=>?_
 refine Ww [(0,vptr cp 0),(1,.agg #[vint i,hv])] [ChainR cp sp c,KB hv hs,Al R] ?_
 refine Sn (Ru (OpRun.box rfl rfl rfl) ?_)
 rintro _ _ ⟨b1,rfl,rfl⟩
 refine Qa (k:=Nw [(0,vptr cp 0),(3,vptr b1 0),(4,vint 0)] [Cl b1 74 [vint i,hv],ChainR cp sp c,KB hv hs,Al R] ?_)
 refine W.seq (Sn (Qu (Of (fa74_0 _ _)) (k:=?_)))
 refine Qu (Ol 0 ld3) (k:=Qu (OpQ.lss rfl rfl rfl) (k:=Nl [(0,vptr cp 0),(3,vptr b1 0),(4,vint 0),(9,.bool (decide (i < 0)))] ?_))
 refine Cp rfl (fun h2=>?_) (fun h2=>?_)
 ·refine Sn (Qa (k:=Nl [(0,vptr cp 0),(3,vptr b1 0),(4,vint 12)] ?_))
  refine W.ret (thn_r (ret1 (M:=[ChainR cp sp c]) rfl rfl (⟨(congrArg vint (by unfold Spec.chainCheck; (repeat' split) <;> first | rfl | (exfalso; omega) | (exfalso; simp_all; done))),rfl⟩) (es [1,2] rfl)))
 refine W.skip (thn_n (Wl [(0,vptr cp 0),(3,vptr b1 0),(4,vint 0)] ?_))
 refine Sn (Qm (k:=Qu (Of (fa74_0 _ _)) (k:=Qu (Ol 0 ld3) (k:=?_))))
 refine Wc [.tmp 11,.tmp 13] [vptr cp 0,vint i] Tryz.call173 (chainAt_fn cp sp c i) (ep [1] rfl) ?_
 rintro _ _ (⟨z3,h4,h5,rfl,rfl⟩ | ⟨h6,rfl,rfl⟩)
 ·refine Qm (k:=Qe (k:=Qe (k:=?_)))
  refine Ru (OpRun.alloc rfl zv74 rfl) ?_
  rintro _ _ ⟨b7,rfl,rfl⟩
  refine Nf 1 fun ho8=>?_
  refine Rn (OpRun.store (i:=0) (vs:=[vint i,z3]) (cs':=[vint i,z3]) rfl rfl rfl sz74 rfl rfl (one_cons rfl (one_cons ho8 one_nil)) rfl (Lb rfl) rfl) (k:=Qa (k:=Nw [(3,vptr b1 0),(4,vint 0),(5,vptr b7 0),(6,.bool true)] [Cl b7 74 [vint i,z3],KB z3 (c.sums.getD i.toNat []),ChainR cp sp c,Cl b1 74 [vint i,hv],KB hv hs,Al R] ?_))
  refine W.seq (W.block (Sn (Qm (k:=?_))))
  refine Qu (OpQ.not rfl rfl) (k:=Qa (k:=Nl [(3,vptr b1 0),(4,vint 0),(5,vptr b7 0),(17,.bool false)] ?_))
  refine W.condF rfl ?_
  refine Sn (Qu (Of (fa74_1 _ _)) (k:=Qu (Ol 0 ld22) (k:=Qu (Of (fa74_1 _ _)) (k:=Qu (Ol 3 ld22) (k:=?_)))))
  refine Wc [.tmp 22,.tmp 24] [z3,hv] Tryz.call149 (EqualB_fn z3 hv (c.sums.getD i.toNat []) hs) ((ed 1 rfl).trans ((ed 5 rfl).trans (ep [1,0] rfl))) ?_
  rintro _ _ ⟨rfl,rfl⟩
  refine Qu (OpQ.notP rfl rfl) (k:=Qa (k:=Nw [(4,vint 0),(20,.bool (decide (¬ ((c.sums.getD i.toNat [])=hs))))] [Cl b7 74 [vint i,z3],KB z3 (c.sums.getD i.toNat []),ChainR cp sp c,Cl b1 74 [vint i,hv],KB hv hs,Al R] ?_))
  refine Cp rfl (fun h9=>?_) (fun h9=>?_)
  ·refine Sn (Qa (k:=Nl [(4,vint 24)] ?_))
   refine W.ret (inblk_r (thn_r (ret1 (M:=[ChainR cp sp c]) rfl rfl (⟨(congrArg vint (by unfold Spec.chainCheck; (repeat' split) <;> first | rfl | (exfalso; omega) | (exfalso; simp_all; done))),rfl⟩) (es [2,4] rfl))))
  refine W.skip (inblk_n (thn_n (Wl [(4,vint 0)] ?_)))
  refine Sn (Qa (k:=Nl [(4,vint 0)] ?_))
  refine W.ret (ret1 (M:=[ChainR cp sp c]) rfl rfl (⟨(congrArg vint (by unfold Spec.chainCheck; (repeat' split) <;> first | rfl | (exfalso; omega) | (exfalso; simp_all; done))),rfl⟩) (es [2,4] rfl))
 refine Qm (k:=Qe (k:=Qe (k:=?_)))
 refine Ru (OpRun.alloc rfl zv74 rfl) ?_
 rintro _ _ ⟨b10,rfl,rfl⟩
 refine Rn (OpRun.store (i:=0) (vs:=[vint 0,N0]) (cs':=[vint 0,N0]) rfl rfl rfl sz74 rfl rfl (one_cons rfl (one_cons rfl one_nil)) rfl (Lb rfl) rfl) (k:=Qa (k:=Nw [(3,vptr b1 0),(4,vint 0),(5,vptr b10 0),(6,.bool false)] [Cl b10 74 [vint 0,N0],ChainR cp sp c,Cl b1 74 [vint i,hv],KB hv hs,Al R] ?_))
 refine W.seq (W.block (Sn (Qm (k:=?_))))
 refine Qu (OpQ.not rfl rfl) (k:=Qa (k:=Nl [(3,vptr b1 0),(4,vint 0),(5,vptr b10 0),(17,.bool true)] ?_))
 refine W.condT rfl ?_
 refine Sn (Qa (k:=Nl [(4,vint 14)] ?_))
 refine W.ret (inblk_r (thn_r (ret1 (M:=[ChainR cp sp c]) rfl rfl (⟨(congrArg vint (by unfold Spec.chainCheck; (repeat' split) <;> first | rfl | (exfalso; omega) | (exfalso; simp_all; done))),rfl⟩) (es [1,3] rfl))))
end Go.Lk
open Go.Proofs
namespace Go.Lk
def KeysK.φ (kv:List Value) (keys:List (Option Bytes)) (K:PH):Prop:=kv.length=17∧keys.length=17∧∀ (i:Nat) (v:Value),kv[i]? = some v →
    (keys.getD i none=none∧v = .slice none 0 0)∨∃ k:Bytes,keys.getD i none=some k∧some? v=true∧Sl.φ Enc.u8 5 v k K∧k.length=32
theorem KeysK.mono {kv:List Value} {keys:List (Option Bytes)} {K K':PH} (hk:PH.le K K') (h:KeysK.φ kv keys K):KeysK.φ kv keys K':=by
  obtain ⟨h0,h1,h⟩:=h
  refine ⟨h0,h1,fun i v hv=>?_⟩
  rcases h i v hv with h2 | ⟨k,a,b,c,d⟩
  · exact .inl h2
  · exact .inr ⟨k,a,b,Sl.mono hk c,d⟩
def KeysK (kv:List Value) (keys:List (Option Bytes)):Kn:=⟨KeysK.φ kv keys,KeysK.mono⟩
def RingR (rp:Nat) (keys:List (Option Bytes)):Asn:=Asn.rep (fun _:List Value=>keys.length=17) fun kv=>[Asn.cells rp 332 kv,Asn.kn (KeysK kv keys)]
section
variable {L R:List Asn} {i j:Nat} {kv:List Value} {keys:List (Option Bytes)} {g:G} {w:World}
theorem keys_none (hL:take1 i L=some (Asn.kn (KeysK kv keys),R)) (s:Sat g w L):kv.length=17∧(j < 17→keys.getD j none=none→kv[j]? = some (.slice none 0 0)):=by
  obtain ⟨h0,h1,h⟩:=know hL s
  refine ⟨h0,fun hj hn=>?_⟩
  have hlt:j < kv.length:=by omega
  rcases h j kv[j] (List.getElem?_eq_getElem hlt) with ⟨_,h2⟩ | ⟨k,h2,_⟩
  · rw [List.getElem?_eq_getElem hlt,h2]
  · rw [hn] at h2; cases h2
theorem Opens.key {k:Bytes} (hj:j < 17) (hk:keys.getD j none=some k):Opens (Asn.kn (KeysK kv keys)) (fun v:Value=>kv[j]? = some v∧some? v=true∧k.length=32) (fun v=>[Asn.kn (Sl Enc.u8 5 v k),Asn.kn (KeysK kv keys)]):=fun K hp p=>by
  have p':=p
  obtain ⟨h0,h1,h⟩:=p'
  have hlt:j < kv.length:=by omega
  rcases h j kv[j] (List.getElem?_eq_getElem hlt) with ⟨h2,_⟩ | ⟨k2,h2,h3,h4,h5⟩
  · rw [hk] at h2; cases h2
  · rw [hk] at h2; cases h2
    exact ⟨kv[j],⟨List.getElem?_eq_getElem hlt,h3,h5⟩,PH.emp,hp,Split.emp_left hp,h4,PH.emp,hp,Split.emp_left hp,p,trivial⟩
theorem KeysK.nil {K:PH}:(KeysK (List.replicate 17 (.slice none 0 0)) (List.replicate 17 none)).φ K:=by
  refine ⟨by simp,by simp,fun i v hv=>.inl ⟨?_,?_⟩⟩
  · rw [List.getD_eq_getElem?_getD,List.getElem?_replicate]; split <;> rfl
  · rw [List.getElem?_replicate] at hv; split at hv <;> simp at hv; exact hv.symm
theorem KeysK.set {K:PH} {v:Value} {k:Bytes} (h:(KeysK kv keys).φ K) (hs:some? v=true) (hv:(Sl Enc.u8 5 v k).φ K) (hk:k.length=32):(KeysK (kv.set j v) (keys.set j (some k))).φ K:=by
  obtain ⟨h0,h1,h2⟩:=h
  refine ⟨by simp [h0],by simp [h1],fun i u hu=>?_⟩
  by_cases hij:j=i
  · subst hij
    have hlt:j < kv.length:=by
      have:=(List.getElem?_eq_some_iff.1 hu).1
      simpa using this
    rw [List.getElem?_set_self hlt] at hu
    cases hu
    right
    refine ⟨k,?_,hs,hv,hk⟩
    rw [List.getD_eq_getElem?_getD,List.getElem?_set_self (by omega)]; rfl
  · rw [List.getElem?_set_ne hij] at hu
    have:=h2 i u hu
    rw [List.getD_eq_getElem?_getD,List.getElem?_set_ne hij,← List.getD_eq_getElem?_getD]
    exact this
end
namespace Spec
def ringNew (A:List Thing) (secret:Bytes):List (Option Bytes) × List Thing :=
  let (k,A):=derived A secret sEpoch 0
  (some k :: List.replicate 16 none,A)
def ringKey (keys:List (Option Bytes)) (epoch:Int):Option Bytes:=if epoch < 0∨epoch > 16 then none else keys.getD epoch.toNat none
def unwrap (A:List Thing) (secret:Bytes) (who epoch:Int) (box:Bytes):Except Int Bytes × List Thing :=
  if ¬ (1≤who∧who≤16∧1≤epoch∧epoch≤16) then (.error 12,A) else
  match nonce 0 epoch,derived A secret sMember who with
  | .ok n,(mk,A) =>
    match Spec.unshut A mk n sWrap box with
    | .ok key=>if key.length=32 then (.ok key,A) else (.error 20,A)
    | .error _=>(.error 20,A)
  | .error _,_=>(.error 0,A)
def wrap (A:List Thing) (secret:Bytes) (who epoch:Int) (key:Bytes):Except Int Bytes × List Thing :=
  if ¬ (1≤who∧who≤16∧1≤epoch∧epoch≤16) then (.error 12,A) else if key.length≠32 then (.error 11,A) else
  match nonce 0 epoch,derived A secret sMember who with
  | .ok n,(mk,A) =>
    match Spec.shut A mk n sWrap key with
    | some (box,A)=>(.ok box,A)
    | none=>(.error 11,A)
  | .error _,_=>(.error 0,A)
def ringLearn (keys:List (Option Bytes)) (epoch:Int) (key:Bytes):Int × List (Option Bytes) :=
  if epoch < 1∨epoch > 16 then (12,keys) else if key.length≠32 then (11,keys) else
  match keys.getD epoch.toNat none with
  | some _=>(31,keys)
  | none=>(0,keys.set epoch.toNat (some key))
end Spec
end Go.Lk
open Go.Proofs
set_option maxRecDepth 8000
namespace Go.Lk
open Asn renaming cells→Cl,row→Rw,kn→Kk,all→Al
theorem fa332_0:∀ (b k:Nat) (w:World),(Instr.fieldAt 332 (vptr b k) 0).run Tryz.prog w = .ok (vptr b (k)) w:=fun _ _ _=>by kernel_rfl
theorem nilneq22:∀ (a:Option Addr) (n c:Nat) (w:World),(binOp .neq 22 (.slice a n c) (.slice none 0 0)).run Tryz.prog w = .ok (.bool a.isSome) w:=fun a _ _ _=>by cases a <;> kernel_rfl
theorem ringNew_fn (sp:Nat) (A:List Thing) (secret:Value) (ks:Bytes) (hA:A.length < 1099511627770):Fn Tryz.prog 116 #[vptr sp 0,secret] [SuiteR sp A,KB secret ks] (fun v M=>∃ (rp:Nat) (keys:List (Option Bytes)) (A':List Thing),Spec.ringNew A ks=(keys,A')∧A'.length≤A.length+1∧vptr rp 0=v∧M=[RingR rp keys,SuiteR sp A']):=by
 refine Fi 16 Tryz.func116 fun g R=>?_
 refine Ww [(0,vptr sp 0),(1,secret)] [SuiteR sp A,KB secret ks,Al R] ?_
 refine Sn (Qa (k:=Nl [(0,vptr sp 0),(1,secret),(4,.pointer none)] ?_))
 refine Sn (Qu (OpQ.build (qs:=[]) (v:=.agg #[N0,N0,N0,N0,N0,N0,N0,N0,N0,N0,N0,N0,N0,N0,N0,N0,N0]) rfl trivial (fun _=>by kernel_rfl)) (k:=?_))
 refine Ru (OpRun.box rfl rfl rfl) ?_
 rintro _ _ ⟨b1,rfl,rfl⟩
 refine Qa (k:=Nw [(0,vptr sp 0),(1,secret),(4,.pointer none),(5,vptr b1 0)] [Cl b1 332 [N0,N0,N0,N0,N0,N0,N0,N0,N0,N0,N0,N0,N0,N0,N0,N0,N0],SuiteR sp A,KB secret ks,Al R] ?_)
 refine W.seq (W.drawG mixed ?_)
 refine Gq 0 [] rfl (OpQ.move rfl rfl) ?_
 refine Gq 1 [] rfl (OpQ.move rfl rfl) ?_
 refine Gq 2 [] rfl (OpQ.move rfl rfl) ?_
 refine Gq 4 [] rfl (OpQ.nilCheck rfl rfl) ?_
 refine Gq 5 [] rfl (Of (fa332_0 _ _)) ?_
 refine WG.one (i:=3) (by kernel_rfl) (UpG.call rfl rfl rfl (OpCall.mk (xs:=[.tmp 9,.tmp 10,.const (.string ⟨#[101,112,111,99,104]⟩),.const (.int .i64 0)]) (vs:=[vptr sp 0,secret,.string (⟨([101,112,111,99,104]:Bytes).toArray⟩),vint 0]) rfl ⟨rfl,rfl,rfl,rfl,trivial⟩ Tryz.call202) (derived_fn sp A secret ks ([101,112,111,99,104]:Bytes) 0 (by first | omega | (simp; done) | (simp; omega) | (simp at *; omega)) (by first | omega | decide) (by first | omega | (simp; done) | (simp; omega) | (simp at *; omega))) ((ed 2 rfl).trans (ep [2,0] rfl)) ?_)
 rintro _ _ ⟨r2,bs3,A4,h5,h6,h7,rfl,rfl⟩
 refine ⟨es [] rfl,?_⟩
 refine Gq 6 [] rfl (OpQ.indexArr (m:=17) (E:=22) (sz:=1) (jj:=0) rfl rfl rfl (by omega) (by omega) (by omega) Tryz.runUnderlying262 sz22) ?_
 refine WG.fact (fun _ _ s=>(sl_facts (i:=0) rfl s).2.2) (fun ho8=>?_)
 refine WG.one (i:=7) (by kernel_rfl) (UpG.run rfl rfl rfl (OpRun.store (i:=2) (vs:=[r2]) (cs':=[r2,N0,N0,N0,N0,N0,N0,N0,N0,N0,N0,N0,N0,N0,N0,N0,N0]) rfl rfl rfl sz22 (cells_one ho8) rfl (one_cons ho8 one_nil) rfl (Lb rfl) rfl) ?_)
 rintro _ _ ⟨rfl,rfl⟩
 refine ⟨es [] rfl,?_⟩
 refine WG.done (by kernel_rfl) ?_
 refine thn_n (Ww [(4,.pointer none),(5,vptr b1 0)] [Cl b1 332 [r2,N0,N0,N0,N0,N0,N0,N0,N0,N0,N0,N0,N0,N0,N0,N0,N0],KB r2 bs3,SuiteR sp A4,KB secret ks,Al R] ?_)
 refine Sn (Qm (k:=Qa (k:=Nl [(4,vptr b1 0)] ?_)))
 refine W.fact (fun _ _ s=>sl_nil (i:=1) rfl s) (fun hn=>?_)
 have hsm:some? r2=true:=by cases hq:some? r2 with | false=>(have h77:=hn hq; rw [h77] at h7; cases h7) | true=>rfl
 refine W.ent (Ent.know (m:=KeysK (r2 :: List.replicate 16 (N0)) (some bs3 :: List.replicate 16 none)) (fun K h s=>KeysK.set (j:=0) KeysK.nil hsm (kat 1 s rfl) h7)) ?_
 refine W.ent (L':=[Cl b1 332 (r2 :: List.replicate 16 (N0)),Kk (KeysK (r2 :: List.replicate 16 (N0)) (some bs3 :: List.replicate 16 none)),KB r2 bs3,SuiteR sp A4,KB secret ks,Al R]) ((es [1,0,0,0,0,0] rfl).trans (Ent.of_eq (by rfl))) ?_
 refine W.ent (L':=[RingR b1 (some bs3 :: List.replicate 16 none),KB r2 bs3,SuiteR sp A4,KB secret ks,Al R]) (Ent.rep' (r2 :: List.replicate 16 (N0)) rfl (by simp) rfl) ?_
 refine W.ret (ret1 (M:=[RingR b1 (some bs3 :: List.replicate 16 none),SuiteR sp A4]) rfl rfl (⟨b1,some bs3 :: List.replicate 16 none,A4,(by unfold Spec.ringNew; have h9:=h5; rw [show ([101,112,111,99,104]:Bytes)=Spec.sEpoch from rfl] at h9; rw [h9]),(by omega),rfl,rfl⟩) (es [0,1,2] rfl))
theorem ringKey_fn (rp:Nat) (keys:List (Option Bytes)) (epoch:Int):Fn Tryz.prog 183 #[vptr rp 0,vint epoch] [RingR rp keys] (fun v M=>(∃ (z:Value) (k:Bytes),Spec.ringKey keys epoch=some k∧k.length=32∧.tuple #[z,.bool true]=v∧M=[KB z k,RingR rp keys])∨(Spec.ringKey keys epoch=none∧.tuple #[.slice none 0 0,.bool false]=v∧M=[RingR rp keys])):=by
 refine Fi 28 Tryz.func183 fun g R=>?_
 refine Ww [(0,vptr rp 0),(1,vint epoch)] [RingR rp keys,Al R] ?_
 refine W.opens Opens.rep (i:=0) rfl (fun kv hk17=>?_)
 refine We [Cl rp 332 kv,Kk (KeysK kv keys),Al R] ?_
 refine Sn (Qa (k:=Qa (k:=Nl [(0,vptr rp 0),(1,vint epoch),(4,N0),(5,.bool false)] ?_)))
 refine W.seq (Sn (Qm (k:=?_)))
 by_cases h1:epoch < 0
 ·refine Qu (OpQ.decT (OpQ.lss rfl rfl rfl) h1) (k:=Qm (k:=Qs (k:=Qs (k:=Qt (k:=Qm (k:=Qs (k:=Qs (k:=Qs (k:=Qs (k:=Qs (k:=Qs (k:=Qs (k:=Qt (k:=?_))))))))))))))
  refine Nl [(0,vptr rp 0),(1,vint epoch),(4,N0),(5,.bool false),(20,.bool true)] ?_
  refine W.condT rfl ?_
  refine Sn (Qa (k:=Qa (k:=Nl [(0,vptr rp 0),(1,vint epoch),(4,N0),(5,.bool false)] ?_)))
  refine W.ent (L':=[Cl rp 332 kv,Kk (KeysK kv keys),Al R]) (es [0,0,0] rfl) ?_
  refine W.ent (L':=[RingR rp keys,Al R]) (Ent.rep' kv rfl hk17 rfl) ?_
  refine W.ret (thn_r (ret2 (M:=[RingR rp keys]) rfl rfl rfl (.inr (⟨(by unfold Spec.ringKey; rw [if_pos (by omega)]),rfl,rfl⟩)) (es [0,0] rfl)))
 refine Qu (OpQ.decF (OpQ.lss rfl rfl rfl) h1) (k:=Qm (k:=Qm (k:=Qu (OpQ.gtr rfl rfl rfl) (k:=?_))))
 by_cases h2:epoch > 16
 ·refine Qu (OpQ.decT (OpQ.pickF rfl rfl rfl) h2) (k:=Qm (k:=Qs (k:=Qs (k:=Qs (k:=Qs (k:=Qs (k:=Qs (k:=Qs (k:=Qt (k:=Nl [(0,vptr rp 0),(1,vint epoch),(4,N0),(5,.bool false),(20,.bool true)] ?_))))))))))
  refine W.condT rfl ?_
  refine Sn (Qa (k:=Qa (k:=Nl [(0,vptr rp 0),(1,vint epoch),(4,N0),(5,.bool false)] ?_)))
  refine W.ent (L':=[Cl rp 332 kv,Kk (KeysK kv keys),Al R]) (es [0,0,0] rfl) ?_
  refine W.ent (L':=[RingR rp keys,Al R]) (Ent.rep' kv rfl hk17 rfl) ?_
  refine W.ret (thn_r (ret2 (M:=[RingR rp keys]) rfl rfl rfl (.inr (⟨(by unfold Spec.ringKey; rw [if_pos (by omega)]),rfl,rfl⟩)) (es [0,0] rfl)))
 refine Qu (OpQ.decF (OpQ.pickF rfl rfl rfl) h2) (k:=Qm (k:=Qm (k:=Qm (k:=Qu (OpQ.nilCheck rfl rfl) (k:=Qu (Of (fa332_0 _ _)) (k:=Qu (OpQ.indexArr (m:=17) (E:=22) (sz:=1) (jj:=epoch.toNat) rfl rfl rfl (by omega) (by omega) (by omega) Tryz.runUnderlying262 sz22) (k:=?_)))))))
 rcases hk3:keys.getD epoch.toNat none with _ | k4
 ·refine WN.fact (fun _ _ s=>keys_none (i:=1) (j:=epoch.toNat) rfl s) (fun hf5=>?_)
  have hkl:=hf5.1
  refine Qu (OpQ.load1 (i:=0) rfl rfl ld22 rfl (hf5.2 (by omega) hk3)) (k:=Qu (OpQ.bin' (u:=N0) (v:=N0) (r:=.bool true) rfl rfl rfl (fun _=>by kernel_rfl) (fun _=>by kernel_rfl)) (k:=Qf (k:=Nl [(0,vptr rp 0),(1,vint epoch),(4,N0),(5,.bool false),(20,.bool true)] ?_)))
  refine W.condT rfl ?_
  refine Sn (Qa (k:=Qa (k:=Nl [(0,vptr rp 0),(1,vint epoch),(4,N0),(5,.bool false)] ?_)))
  refine W.ent (L':=[Cl rp 332 kv,Kk (KeysK kv keys),Al R]) (es [0,0,0] rfl) ?_
  refine W.ent (L':=[RingR rp keys,Al R]) (Ent.rep' kv rfl hk17 rfl) ?_
  refine W.ret (thn_r (ret2 (M:=[RingR rp keys]) rfl rfl rfl (.inr (⟨(by unfold Spec.ringKey; rw [if_neg (by omega)]; exact hk3),rfl,rfl⟩)) (es [0,0] rfl)))
 refine WN.opens (Opens.key (j:=epoch.toNat) (k:=k4) (by omega) hk3) (i:=1) rfl (fun v6 hf7=>?_)
 refine Ne [KB v6 k4,Kk (KeysK kv keys),Cl rp 332 kv,Al R] ?_
 have hsvhf7:=hf7.2.1; have hnkhf7:(!some? v6)=false:=(by rw [hsvhf7]; rfl); have hk32:=hf7.2.2
 refine Qu (OpQ.load1 (i:=2) rfl rfl ld22 rfl hf7.1) (k:=?_)
 refine WN.fact (fun _ _ s=>sl_isS (i:=0) rfl s) (fun hS8=>?_)
 refine Qu (OpQ.nilEq rfl rfl rfl hS8 nileql22) (k:=Qf (k:=Nl [(0,vptr rp 0),(1,vint epoch),(4,N0),(5,.bool false),(20,.bool (!some? v6))] ?_))
 refine W.condF (congrArg (fun b=>some (Value.bool b)) hnkhf7) ?_
 refine W.skip (thn_n (Wl [(0,vptr rp 0),(1,vint epoch),(4,N0),(5,.bool false)] ?_))
 refine Sn (Qm (k:=Qm (k:=Qu (OpQ.nilCheck rfl rfl) (k:=Qu (Of (fa332_0 _ _)) (k:=Qu (OpQ.indexArr (m:=17) (E:=22) (sz:=1) (jj:=epoch.toNat) rfl rfl rfl (by omega) (by omega) (by omega) Tryz.runUnderlying262 sz22) (k:=Qu (OpQ.load1 (i:=2) rfl rfl ld22 rfl hf7.1) (k:=?_)))))))
 refine Wc [.tmp 26] [v6] Tryz.call195 (CloneB_fn v6 k4 (by first | omega | (simp; done) | (simp; omega) | (simp at *; omega))) ((ed 0 rfl).trans (ep [0] rfl)) ?_
 rintro _ _ ⟨r9,h10,rfl,rfl⟩
 refine Qa (k:=Qa (k:=Nw [(4,r9),(5,.bool true)] [KB r9 k4,KB v6 k4,Kk (KeysK kv keys),Cl rp 332 kv,Al R] ?_))
 refine W.ent (L':=[Cl rp 332 kv,Kk (KeysK kv keys),KB r9 k4,KB v6 k4,Al R]) (es [3,2,0,0,0] rfl) ?_
 refine W.ent (L':=[RingR rp keys,KB r9 k4,KB v6 k4,Al R]) (Ent.rep' kv rfl hk17 rfl) ?_
 refine W.ret (ret2 (M:=[KB r9 k4,RingR rp keys]) rfl rfl rfl (.inl ⟨r9,k4,(by unfold Spec.ringKey; rw [if_neg (by omega)]; exact hk3),(by exact hk32),rfl,rfl⟩) (es [1,0,1] rfl))
theorem ringLearn_fn (rp:Nat) (keys:List (Option Bytes)) (epoch:Int) (key:Value) (kk:Bytes):Fn Tryz.prog 272 #[vptr rp 0,vint epoch,key] [RingR rp keys,KB key kk] (fun v M=>∃ (e:Int) (keys':List (Option Bytes)),Spec.ringLearn keys epoch kk=(e,keys')∧vint e=v∧M=[RingR rp keys']):=by
 refine Fi 33 Tryz.func272 fun g R=>?_
 refine Ww [(0,vptr rp 0),(1,vint epoch),(2,key)] [RingR rp keys,KB key kk,Al R] ?_
 refine W.opens Opens.rep (i:=0) rfl (fun kv hk17=>?_)
 refine We [Cl rp 332 kv,Kk (KeysK kv keys),KB key kk,Al R] ?_
 refine Sn (Qa (k:=Nl [(0,vptr rp 0),(1,vint epoch),(2,key),(6,vint 0)] ?_))
 refine W.seq (W.block (Sn (Qm (k:=?_))))
 by_cases h1:epoch < 1
 ·refine Qu (OpQ.decT (OpQ.lss rfl rfl rfl) h1) (k:=Qm (k:=Qs (k:=Qs (k:=Qt (k:=Qa (k:=Nl [(0,vptr rp 0),(1,vint epoch),(2,key),(6,vint 0),(7,.bool true)] ?_))))))
  refine W.condT rfl ?_
  refine Sn (Qa (k:=Nl [(0,vptr rp 0),(1,vint epoch),(2,key),(6,vint 12)] ?_))
  refine W.ent (L':=[Cl rp 332 kv,Kk (KeysK kv keys),KB key kk,Al R]) (es [0,0,0,0] rfl) ?_
  refine W.ent (L':=[RingR rp keys,KB key kk,Al R]) (Ent.rep' kv rfl hk17 rfl) ?_
  refine W.ret (inblk_r (thn_r (ret1 (M:=[RingR rp keys]) rfl rfl (⟨12,keys,(by unfold Spec.ringLearn; rw [if_pos (by omega)]),rfl,rfl⟩) (es [0,1] rfl))))
 refine Qu (OpQ.decF (OpQ.lss rfl rfl rfl) h1) (k:=Qm (k:=Qm (k:=Qu (OpQ.gtr rfl rfl rfl) (k:=Qf (k:=Qa (k:=Nl [(0,vptr rp 0),(1,vint epoch),(2,key),(6,vint 0),(7,.bool (decide (epoch > 16)))] ?_))))))
 refine Cp rfl (fun h2=>?_) (fun h2=>?_)
 ·refine Sn (Qa (k:=Nl [(0,vptr rp 0),(1,vint epoch),(2,key),(6,vint 12)] ?_))
  refine W.ent (L':=[Cl rp 332 kv,Kk (KeysK kv keys),KB key kk,Al R]) (es [0,0,0,0] rfl) ?_
  refine W.ent (L':=[RingR rp keys,KB key kk,Al R]) (Ent.rep' kv rfl hk17 rfl) ?_
  refine W.ret (inblk_r (thn_r (ret1 (M:=[RingR rp keys]) rfl rfl (⟨12,keys,(by unfold Spec.ringLearn; rw [if_pos (by omega)]),rfl,rfl⟩) (es [0,1] rfl))))
 refine Sn (Qm (k:=?_))
 refine Nk 2 fun hl3=>?_
 refine Qu (OpQ.lenSl (i:=2) rfl rfl rfl (len22 _)) (k:=Qu (OpQ.neq rfl rfl rfl) (k:=Qa (k:=Nl [(0,vptr rp 0),(1,vint epoch),(2,key),(6,vint 0),(14,.bool (decide ((kk.length:Int)≠32)))] ?_)))
 refine Cp rfl (fun h4=>?_) (fun h4=>?_)
 ·refine Sn (Qa (k:=Nl [(0,vptr rp 0),(1,vint epoch),(2,key),(6,vint 11)] ?_))
  refine W.ent (L':=[Cl rp 332 kv,Kk (KeysK kv keys),KB key kk,Al R]) (es [0,0,0,0] rfl) ?_
  refine W.ent (L':=[RingR rp keys,KB key kk,Al R]) (Ent.rep' kv rfl hk17 rfl) ?_
  refine W.ret (inblk_r (thn_r (ret1 (M:=[RingR rp keys]) rfl rfl (⟨11,keys,(by unfold Spec.ringLearn; rw [if_neg (by omega),if_pos (by omega)]),rfl,rfl⟩) (es [0,1] rfl))))
 refine Sn (Qm (k:=Qm (k:=Qu (OpQ.nilCheck rfl rfl) (k:=Qu (Of (fa332_0 _ _)) (k:=Qu (OpQ.indexArr (m:=17) (E:=22) (sz:=1) (jj:=epoch.toNat) rfl rfl rfl (by omega) (by omega) (by omega) Tryz.runUnderlying262 sz22) (k:=?_))))))
 rcases hk5:keys.getD epoch.toNat none with _ | k6
 ·refine WN.fact (fun _ _ s=>keys_none (i:=1) (j:=epoch.toNat) rfl s) (fun hf7=>?_)
  have hkl:=hf7.1
  refine Qu (OpQ.load1 (i:=0) rfl rfl ld22 rfl (hf7.2 (by omega) hk5)) (k:=Qu (OpQ.bin' (u:=N0) (v:=N0) (r:=.bool false) rfl rfl rfl (fun _=>by kernel_rfl) (fun _=>by kernel_rfl)) (k:=Qa (k:=Nl [(0,vptr rp 0),(1,vint epoch),(2,key),(6,vint 0),(18,.bool false)] ?_)))
  refine W.condF rfl ?_
  refine W.skip (inblk_n (thn_n (Wl [(0,vptr rp 0),(1,vint epoch),(2,key),(6,vint 0)] ?_)))
  refine W.seq (W.drawG mixed ?_)
  refine Gq 0 [] rfl (OpQ.move rfl rfl) ?_
  refine Gq 1 [] rfl (OpQ.move rfl rfl) ?_
  refine Gq 2 [] rfl (OpQ.move rfl rfl) ?_
  refine Gq 4 [] rfl (OpQ.nilCheck rfl rfl) ?_
  refine Gq 5 [] rfl (Of (fa332_0 _ _)) ?_
  refine WG.one (i:=3) (by kernel_rfl) (UpG.call rfl rfl rfl (OpCall.mk (xs:=[.tmp 28]) (vs:=[key]) rfl ⟨rfl,trivial⟩ Tryz.call195) (CloneB_fn key kk (by first | omega | (simp; done) | (simp; omega) | (simp at *; omega))) ((ed 2 rfl).trans (ep [0] rfl)) ?_)
  rintro _ _ ⟨r8,h9,rfl,rfl⟩
  refine ⟨es [] rfl,?_⟩
  refine Gq 6 [] rfl (OpQ.indexArr (m:=17) (E:=22) (sz:=1) (jj:=epoch.toNat) rfl rfl rfl (by omega) (by omega) (by omega) Tryz.runUnderlying262 sz22) ?_
  refine WG.fact (fun _ _ s=>(sl_facts (i:=0) rfl s).2.2) (fun ho10=>?_)
  refine WG.one (i:=7) (by kernel_rfl) (UpG.run rfl rfl rfl (OpRun.storeAt (i:=1) (cs':=kv.set epoch.toNat r8) rfl rfl rfl sz22 ho10 rfl (by omega) rfl) ?_)
  rintro _ _ ⟨rfl,rfl⟩
  refine ⟨es [] rfl,?_⟩
  refine WG.done (by kernel_rfl) ?_
  refine thn_n (Ww [(6,vint 0)] [Cl rp 332 (kv.set epoch.toNat r8),KB r8 kk,Kk (KeysK kv keys),KB key kk,Al R] ?_)
  refine Sn (Qa (k:=Nl [(6,vint 0)] ?_))
  refine W.fact (fun _ _ s=>sl_nil (i:=3) rfl s) (fun hn=>?_)
  have hsm:some? r8=true:=by rw [h9]; cases hq:some? key with | false=>(have h77:=hn hq; subst h77; simp at *) | true=>rfl
  refine W.ent (Ent.know (m:=KeysK (kv.set epoch.toNat r8) (keys.set epoch.toNat (some kk))) (fun K h s=>KeysK.set (kat 2 s rfl) hsm (kat 1 s rfl) (by omega))) ?_
  refine W.ent (L':=[Cl rp 332 (kv.set epoch.toNat r8),Kk (KeysK (kv.set epoch.toNat r8) (keys.set epoch.toNat (some kk))),KB r8 kk,Kk (KeysK kv keys),KB key kk,Al R]) (es [1,0,0,0,0,0] rfl) ?_
  refine W.ent (L':=[RingR rp (keys.set epoch.toNat (some kk)),KB r8 kk,Kk (KeysK kv keys),KB key kk,Al R]) (Ent.rep' (kv.set epoch.toNat r8) rfl (by simp [hk17]) rfl) ?_
  refine W.ret (ret1 (M:=[RingR rp (keys.set epoch.toNat (some kk))]) rfl rfl (⟨0,keys.set epoch.toNat (some kk),(by unfold Spec.ringLearn; rw [if_neg (by omega),if_neg (by omega),hk5]),rfl,rfl⟩) (es [0,3] rfl))
 refine WN.opens (Opens.key (j:=epoch.toNat) (k:=k6) (by omega) hk5) (i:=1) rfl (fun v11 hf12=>?_)
 refine Ne [KB v11 k6,Kk (KeysK kv keys),Cl rp 332 kv,KB key kk,Al R] ?_
 have hsvhf12:=hf12.2.1; have hnkhf12:(!some? v11)=false:=(by rw [hsvhf12]; rfl); have hk32:=hf12.2.2
 refine Qu (OpQ.load1 (i:=2) rfl rfl ld22 rfl hf12.1) (k:=?_)
 refine WN.fact (fun _ _ s=>sl_isS (i:=0) rfl s) (fun hS13=>?_)
 refine Qu (OpQ.nilNeq rfl rfl rfl hS13 nilneq22) (k:=Qa (k:=Nl [(0,vptr rp 0),(1,vint epoch),(2,key),(6,vint 0),(18,.bool (some? v11))] ?_))
 refine W.condT (congrArg (fun b=>some (Value.bool b)) hsvhf12) ?_
 refine Sn (Qa (k:=Nl [(0,vptr rp 0),(1,vint epoch),(2,key),(6,vint 31)] ?_))
 refine W.ent (L':=[Cl rp 332 kv,Kk (KeysK kv keys),KB v11 k6,KB key kk,Al R]) (es [2,1,0,0,0] rfl) ?_
 refine W.ent (L':=[RingR rp keys,KB v11 k6,KB key kk,Al R]) (Ent.rep' kv rfl hk17 rfl) ?_
 refine W.ret (inblk_r (thn_r (ret1 (M:=[RingR rp keys]) rfl rfl (⟨31,keys,(by unfold Spec.ringLearn; rw [if_neg (by omega),if_neg (by omega),hk5]),rfl,rfl⟩) (es [0,2] rfl))))
theorem spot_fn (who:Int) (epoch:Int):Fn Tryz.prog 211 #[vint who,vint epoch] [] (fun v M=>.bool (decide (1≤who∧who≤16∧1≤epoch∧epoch≤16))=v∧M=[]):=by
 refine Fi 15 Tryz.func211 fun g R=>?_
 refine Ww [(0,vint who),(1,vint epoch)] [Al R] ?_
 refine Sn (Qa (k:=Nl [(0,vint who),(1,vint epoch),(4,.bool false)] ?_))
 refine Sn (Qm (k:=?_))
 refine Wc [.tmp 5] [vint who] Tryz.call290 (rright_fn who) (ep [] rfl) ?_
 rintro _ _ ⟨rfl,rfl⟩
 by_cases h1:1≤who∧who≤16
 ·refine Qu (OpQ.decT (OpQ.move rfl rfl) h1) (k:=Qm (k:=Qu (OpQ.geq rfl rfl rfl) (k:=?_)))
  by_cases h2:epoch ≥ 1
  ·refine Qu (OpQ.decT (OpQ.pickT rfl rfl rfl) h2) (k:=Qm (k:=Qm (k:=Qu (OpQ.leq rfl rfl rfl) (k:=Qt (k:=Qa (k:=Nw [(4,.bool (decide (epoch≤16)))] [Al R] ?_))))))
   refine W.ret (ret1 (M:=[]) rfl rfl (⟨(by first | rfl | exact bool_dec (by omega) | exact bool_F (by omega) | exact bool_T (by omega) | exact (bool_dec (by omega)).symm | exact (bool_F (by omega)).symm | exact (bool_T (by omega)).symm | simp [*]),rfl⟩) (es [0] rfl))
  refine Qu (OpQ.decF (OpQ.pickT rfl rfl rfl) h2) (k:=Qm (k:=Qs (k:=Qs (k:=Qf (k:=Qa (k:=Nw [(4,.bool false)] [Al R] ?_))))))
  refine W.ret (ret1 (M:=[]) rfl rfl (⟨(by first | rfl | exact bool_dec (by omega) | exact bool_F (by omega) | exact bool_T (by omega) | exact (bool_dec (by omega)).symm | exact (bool_F (by omega)).symm | exact (bool_T (by omega)).symm | simp [*]),rfl⟩) (es [0] rfl))
 refine Qu (OpQ.decF (OpQ.move rfl rfl) h1) (k:=Qs (k:=Qs (k:=Qf (k:=Qm (k:=Qs (k:=Qs (k:=Qf (k:=Qa (k:=Nw [(4,.bool false)] [Al R] ?_)))))))))
 refine W.ret (ret1 (M:=[]) rfl rfl (⟨(by first | rfl | exact bool_dec (by omega) | exact bool_F (by omega) | exact bool_T (by omega) | exact (bool_dec (by omega)).symm | exact (bool_F (by omega)).symm | exact (bool_T (by omega)).symm | simp [*]),rfl⟩) (es [0] rfl))
theorem Unwrap_fn (sp:Nat) (A:List Thing) (secret:Value) (ks:Bytes) (who:Int) (epoch:Int) (box:Value) (bs:Bytes) (hA:A.length < 1099511627770):Fn Tryz.prog 271 #[vptr sp 0,secret,vint who,vint epoch,box] [SuiteR sp A,KB secret ks,KB box bs] (fun v M=>(∃ (r:Value) (x:Bytes) (A':List Thing),Spec.unwrap A ks who epoch bs=(.ok x,A')∧x.length=32∧A'.length≤A.length+1∧.tuple #[r,vint 0]=v∧M=[KB r x,SuiteR sp A'])∨(∃ (e2:Int) (A':List Thing),Spec.unwrap A ks who epoch bs=(.error e2,A')∧e2≠0∧A'.length≤A.length+1∧.tuple #[.slice none 0 0,vint e2]=v∧M=[SuiteR sp A'])):=by
 refine Fi 46 Tryz.func271 fun g R=>?_
 refine Ww [(0,vptr sp 0),(1,secret),(2,vint who),(3,vint epoch),(4,box)] [SuiteR sp A,KB secret ks,KB box bs,Al R] ?_
 refine Sn (Qa (k:=Qa (k:=Nl [(0,vptr sp 0),(1,secret),(2,vint who),(3,vint epoch),(4,box),(10,N0),(11,vint 0)] ?_)))
 refine W.seq (Sn (Qm (k:=?_)))
 refine Qm (k:=?_)
 refine Wc [.tmp 16,.tmp 17] [vint who,vint epoch] Tryz.call211 (spot_fn who epoch) (ep [] rfl) ?_
 rintro _ _ ⟨rfl,rfl⟩
 refine Qu (OpQ.notP rfl rfl) (k:=Nw [(0,vptr sp 0),(1,secret),(2,vint who),(3,vint epoch),(4,box),(10,N0),(11,vint 0),(19,.bool (decide (¬ (1≤who∧who≤16∧1≤epoch∧epoch≤16))))] [SuiteR sp A,KB secret ks,KB box bs,Al R] ?_)
 refine Cp rfl (fun h1=>?_) (fun h1=>?_)
 ·refine Sn (Qa (k:=Qa (k:=Nl [(0,vptr sp 0),(1,secret),(2,vint who),(3,vint epoch),(4,box),(10,N0),(11,vint 12)] ?_)))
  refine W.ret (thn_r (ret2 (M:=[SuiteR sp A]) rfl rfl rfl (.inr (⟨12,A,(by unfold Spec.unwrap; rw [if_pos (by omega)]),(by omega),(by omega),rfl,rfl⟩)) (es [0,2] rfl)))
 refine W.skip (thn_n (Wl [(0,vptr sp 0),(1,secret),(2,vint who),(3,vint epoch),(4,box),(10,N0),(11,vint 0)] ?_))
 refine Sn (Qm (k:=?_))
 refine Wc [.const (.int .i64 0),.tmp 21] [vint 0,vint epoch] Tryz.call212 (Nonce_fn 0 epoch) (ep [] rfl) ?_
 rintro _ _ (⟨r2,bs3,h4,h5,rfl,rfl⟩ | ⟨h6,rfl,rfl⟩)
 ·refine Qm (k:=Qe (k:=Qe (k:=Qa (k:=Qa (k:=Nw [(0,vptr sp 0),(1,secret),(2,vint who),(4,box),(10,N0),(11,vint 0),(12,r2)] [KB r2 bs3,SuiteR sp A,KB secret ks,KB box bs,Al R] ?_)))))
  refine Sn (Qm (k:=Qm (k:=Qm (k:=Qm (k:=?_)))))
  refine Wc [.tmp 27,.tmp 28,.const (.string ⟨#[109,101,109,98,101,114]⟩),.tmp 29] [vptr sp 0,secret,.string (⟨([109,101,109,98,101,114]:Bytes).toArray⟩),vint who] Tryz.call202 (derived_fn sp A secret ks ([109,101,109,98,101,114]:Bytes) who (by first | omega | (simp; done) | (simp; omega) | (simp at *; omega)) (by first | omega | decide) (by first | omega | (simp; done) | (simp; omega) | (simp at *; omega))) ((ed 2 rfl).trans (ep [2,0] rfl)) ?_
  rintro _ _ ⟨r7,bs8,A9,h10,h11,h12,rfl,rfl⟩
  refine Qm (k:=?_)
  refine Ru (OpRun.buildSlice (qs:=[(0,.int .u8 119),(1,.int .u8 114),(2,.int .u8 97),(3,.int .u8 112)]) (cs:=bv [119,114,97,112]) (E:=5) (sz:=1) rfl ⟨rfl,rfl,rfl,rfl,rfl,rfl,rfl,rfl,trivial⟩ (fun _=>by kernel_rfl) (bv_one _) rfl (by decide)) ?_
  rintro v13 _ ⟨h14a,h14b,h14c,rfl⟩
  refine Ru (OpRun.convMark (i:=0) rfl rfl rfl rfl h14a cm22_22) ?_
  rintro _ _ ⟨rfl,rfl⟩
  refine Qm (k:=?_)
  refine WN.freezeB (bs:=([119,114,97,112])) (i:=0) rfl ?_
  refine Wc [.tmp 26,.tmp 30,.tmp 31,.tmp 33,.tmp 34] [vptr sp 0,r7,r2,v13,box] Tryz.call268 (Open_fn sp A9 r7 r2 v13 box bs8 bs3 ([119,114,97,112]) bs) ((ed 1 rfl).trans ((ed 4 rfl).trans ((ed 2 rfl).trans ((ed 8 rfl).trans (ep [6,3,2,1,0] rfl))))) ?_
  rintro _ _ (⟨r15,x16,h17,h18,rfl,rfl⟩ | ⟨e19,h20,h21,h22,rfl,rfl⟩)
  ·refine Qm (k:=Qe (k:=Qe (k:=Qa (k:=Qa (k:=Nw [(10,N0),(11,vint 0),(14,r15),(15,vint 0)] [KB r15 x16,SuiteR sp A9,KB v13 ([119,114,97,112]),KB r7 bs8,KB r2 bs3,KB secret ks,KB box bs,Al R] ?_)))))
   refine W.seq (Sn (Qm (k:=?_)))
   refine Qu (OpQ.decF (OpQ.neq rfl rfl rfl) (by decide)) (k:=Qm (k:=Qm (k:=?_)))
   refine Nk 0 fun hl23=>?_
   refine Qu (OpQ.lenSl (i:=0) rfl rfl rfl (len22 _)) (k:=Qu (OpQ.neq rfl rfl rfl) (k:=Qf (k:=Nl [(10,N0),(11,vint 0),(14,r15),(44,.bool (decide ((x16.length:Int)≠32)))] ?_)))
   refine Cp rfl (fun h24=>?_) (fun h24=>?_)
   ·refine Sn (Qa (k:=Qa (k:=Nl [(10,N0),(11,vint 20),(14,r15)] ?_)))
    refine W.ret (thn_r (ret2 (M:=[SuiteR sp A9]) rfl rfl rfl (.inr (⟨20,A9,(by unfold Spec.unwrap; rw [if_neg (by omega)]; have hd9:=h10; have ho9:=h17; change Spec.derived A ks Spec.sMember who=_ at hd9; change Spec.unshut _ _ _ Spec.sWrap bs=_ at ho9; simp only [h4,hd9,ho9]; rw [if_neg (by omega)]),(by omega),(by omega),rfl,rfl⟩)) (es [1,6] rfl)))
   refine W.skip (thn_n (Wl [(10,N0),(11,vint 0),(14,r15)] ?_))
   refine Sn (Qm (k:=Qa (k:=Qa (k:=Nl [(10,r15),(11,vint 0)] ?_))))
   refine W.ret (ret2 (M:=[KB r15 x16,SuiteR sp A9]) rfl rfl rfl (.inl ⟨r15,x16,A9,(by unfold Spec.unwrap; rw [if_neg (by omega)]; have hd9:=h10; have ho9:=h17; change Spec.derived A ks Spec.sMember who=_ at hd9; change Spec.unshut _ _ _ Spec.sWrap bs=_ at ho9; simp only [h4,hd9,ho9]; rw [if_pos (by omega)]),(by omega),(by omega),rfl,rfl⟩) (es [0,0,5] rfl))
  refine Qm (k:=Qe (k:=Qe (k:=Qa (k:=Qa (k:=Nw [(10,N0),(11,vint 0),(14,N0),(15,vint e19)] [SuiteR sp A9,KB v13 ([119,114,97,112]),KB r7 bs8,KB r2 bs3,KB secret ks,KB box bs,Al R] ?_)))))
  refine W.seq (Sn (Qm (k:=?_)))
  refine Qu (OpQ.decT (OpQ.neq rfl rfl rfl) h22) (k:=Qm (k:=Qs (k:=Qs (k:=Qs (k:=Qt (k:=Nl [(10,N0),(11,vint 0),(14,N0),(44,.bool true)] ?_))))))
  refine W.condT rfl ?_
  refine Sn (Qa (k:=Qa (k:=Nl [(10,N0),(11,vint 20),(14,N0)] ?_)))
  refine W.ret (thn_r (ret2 (M:=[SuiteR sp A9]) rfl rfl rfl (.inr (⟨20,A9,(by unfold Spec.unwrap; rw [if_neg (by omega)]; have hd9:=h10; have ho9:=h20; change Spec.derived A ks Spec.sMember who=_ at hd9; change Spec.unshut _ _ _ Spec.sWrap bs=_ at ho9; simp only [h4,hd9,ho9]),(by omega),(by omega),rfl,rfl⟩)) (es [0,5] rfl)))
 exfalso; unfold Spec.nonce at h6; rw [if_pos (by omega)] at h6; cases h6
end Go.Lk
open Go.Proofs
namespace Go.Lk
structure Member where
  who:Int
  rights:Int
  deriving DecidableEq,Inhabited
structure Policy where
  founder:Int
  epoch:Int
  members:List Member
  deriving DecidableEq,Inhabited
def Enc.member:Enc Member:=⟨2,fun _ cs x=>cs=[vint x.who,vint x.rights],fun _ h=>h⟩
abbrev KM (v:Value) (xs:List Member):Asn:=Asn.kn (Sl Enc.member 270 v xs)
theorem Enc.member_mk {K:PH} {a b:Int}:Enc.member.rel K [vint a,vint b] ⟨a,b⟩:=rfl
theorem Opens.member {f:Nat→Value} {xs:List Member} {i:Nat} (h:i < xs.length) :
    Opens (Asn.kn (SlRel Enc.member f xs)) (fun _:Unit=>Lk.sub f (i*2) 2=[vint (xs.getD i default).who,vint (xs.getD i default).rights]) (fun _=>[Asn.kn (SlRel Enc.member f xs)]):=fun K hp p =>
  ⟨(),p i _ (getD_some default h),PH.emp,hp,Split.emp_left hp,p,trivial⟩
def Enc.num:Enc Int:=⟨1,fun _ cs x=>cs=[vint x],fun _ h=>h⟩
theorem Enc.num_mk {K:PH} {a:Int}:Enc.num.rel K [vint a] a:=rfl
theorem Opens.num {f:Nat→Value} {xs:List Int} {i:Nat} (h:i < xs.length) :
    Opens (Asn.kn (SlRel Enc.num f xs)) (fun _:Unit=>Lk.sub f (i*1) 1=[vint (xs.getD i 0)]) (fun _=>[Asn.kn (SlRel Enc.num f xs)]):=fun K hp p =>
  ⟨(),p i _ (getD_some 0 h),PH.emp,hp,Split.emp_left hp,p,trivial⟩
theorem drop_getD {α:Type} {xs:List α} {k:Nat} {d:α} (h:k < xs.length):xs.drop k=xs.getD k d :: xs.drop (k+1):=by
  rw [List.drop_eq_getElem_cons h,List.getD_eq_getElem?_getD,List.getElem?_eq_getElem h]; rfl
namespace Spec
def rightsOf:List Member→Int→Int
  | [],_=>0
  | m :: ms,who=>if m.who=who then m.rights else rightsOf ms who
def memOk:Int→List Member→Bool
  | _,[]=>true
  | last,m :: ms=>if m.who≤last∨m.who > 16∨m.rights < 1∨m.rights > 7 then false else memOk m.who ms
def policyOk (p:Policy):Bool:=memOk 0 p.members && decide (0≤p.epoch∧p.epoch≤16∧rightsOf p.members p.founder=7)
def reader (m:Member):Bool:=decide (bits .and .i64 m.rights 1≠0)
def readers (p:Policy):List Int:=(p.members.filter reader).map Member.who
theorem readers_T {ms:List Member} {k:Nat} (hk:k < ms.length) (h:bits .and .i64 (ms.getD k default).rights 1≠0):((ms.take (k+1)).filter reader).map Member.who=((ms.take k).filter reader).map Member.who++[(ms.getD k default).who]:=by
  have e:ms.take (k+1)=ms.take k++[ms.getD k default]:=by
    rw [List.take_succ_eq_append_getElem hk,List.getD_eq_getElem?_getD,List.getElem?_eq_getElem hk]; rfl
  have hr:reader (ms.getD k default)=true:=by unfold reader; exact decide_eq_true h
  rw [e,List.filter_append,List.map_append,List.filter_cons_of_pos hr]; rfl
theorem readers_F {ms:List Member} {k:Nat} (hk:k < ms.length) (h:¬ (bits .and .i64 (ms.getD k default).rights 1≠0)):((ms.take (k+1)).filter reader).map Member.who=((ms.take k).filter reader).map Member.who:=by
  have e:ms.take (k+1)=ms.take k++[ms.getD k default]:=by
    rw [List.take_succ_eq_append_getElem hk,List.getD_eq_getElem?_getD,List.getElem?_eq_getElem hk]; rfl
  have hr:¬ reader (ms.getD k default)=true:=by unfold reader; rw [decide_eq_false h]; simp
  rw [e,List.filter_append,List.map_append,List.filter_cons_of_neg hr]; simp
def fits (p:Policy) (e:Entry):Prop:=e.epoch=p.epoch+1∧e.wraps.map Wrap.who=readers p
instance (p:Policy) (e:Entry):Decidable (fits p e):=by unfold fits; infer_instance
def may (p:Policy) (e:Entry):Int :=
  if policyOk p=false∨right e=false then 10 else
  if e.kind=1∨e.kind=2 then (if bits .and .i64 (rightsOf p.members e.writer) 6=0 then 30 else 0) else
  if (e.kind=3∨e.kind=4)∧e.who=p.founder then 30 else
  if bits .and .i64 (rightsOf p.members e.writer) 4=0 then 30 else
  if e.kind=5∧¬ fits p e then 34 else 0
theorem map_who_succ {ws:List Wrap} {k:Nat} (hk:k < ws.length):(ws.take (k+1)).map Wrap.who=(ws.take k).map Wrap.who++[(ws.getD k default).who]:=by
  rw [List.take_succ_eq_append_getElem hk,List.map_append,List.getD_eq_getElem?_getD,List.getElem?_eq_getElem hk]; rfl
theorem policyOk_epoch {p:Policy} (h:policyOk p=true):0≤p.epoch∧p.epoch≤16:=by
  unfold policyOk at h
  rw [Bool.and_eq_true] at h
  have:=of_decide_eq_true h.2
  exact ⟨this.1,this.2.1⟩
def firstP (founder:Int):Policy:=⟨founder,0,[⟨founder,7⟩]⟩
end Spec
end Go.Lk
open Go.Proofs
set_option maxRecDepth 8000
namespace Go.Lk
open Asn renaming cells→Cl,row→Rw,kn→Kk,all→Al
theorem sz270:∀ (w:World),(sizeOf 270).run Tryz.prog w = .ok 2 w:=fun _=>by kernel_rfl
theorem sz53:∀ (w:World),(sizeOf 53).run Tryz.prog w = .ok 3 w:=fun _=>by kernel_rfl
theorem fa270_0:∀ (b k:Nat) (w:World),(Instr.fieldAt 270 (vptr b k) 0).run Tryz.prog w = .ok (vptr b (k)) w:=fun _ _ _=>by kernel_rfl
theorem fa270_1:∀ (b k:Nat) (w:World),(Instr.fieldAt 270 (vptr b k) 1).run Tryz.prog w = .ok (vptr b (k+1)) w:=fun _ _ _=>by kernel_rfl
theorem fa53_0:∀ (b k:Nat) (w:World),(Instr.fieldAt 53 (vptr b k) 0).run Tryz.prog w = .ok (vptr b (k)) w:=fun _ _ _=>by kernel_rfl
theorem fa53_1:∀ (b k:Nat) (w:World),(Instr.fieldAt 53 (vptr b k) 1).run Tryz.prog w = .ok (vptr b (k+1)) w:=fun _ _ _=>by kernel_rfl
theorem fa53_2:∀ (b k:Nat) (w:World),(Instr.fieldAt 53 (vptr b k) 2).run Tryz.prog w = .ok (vptr b (k+2)) w:=fun _ _ _=>by kernel_rfl
theorem ix160:∀ (a:Addr) (m c:Nat) (p:Int) (w:World),0≤p→p < m→(Instr.indexAt 160 (.slice (some a) m c) (vint p)).run Tryz.prog w = .ok (.pointer (some (a.add (p.toNat*1)))) w:=run_indexAt_slice Tryz.runUnderlying160 sz3
theorem ix51:∀ (a:Addr) (m c:Nat) (p:Int) (w:World),0≤p→p < m→(Instr.indexAt 51 (.slice (some a) m c) (vint p)).run Tryz.prog w = .ok (.pointer (some (a.add (p.toNat*2)))) w:=run_indexAt_slice Tryz.runUnderlying51 sz270
theorem ld270:∀ (a:Addr) (w:World),(loadVar 270 a).run Tryz.prog w=((loadCells a 2).bind fun c=>.pure (Value.agg c)).run Tryz.prog w:=fun _ _=>by kernel_rfl
theorem ld51:∀ (a:Addr) (w:World),(loadVar 51 a).run Tryz.prog w=(Go.load a).run Tryz.prog w:=fun _ _=>by kernel_rfl
theorem ld53:∀ (a:Addr) (w:World),(loadVar 53 a).run Tryz.prog w=((loadCells a 3).bind fun c=>.pure (Value.agg c)).run Tryz.prog w:=fun _ _=>by kernel_rfl
theorem len160 (ty:TypeId):∀ (a:Option Addr) (n c:Nat) (w:World),(Builtin.len_ #[160] ty #[.slice a n c]).run Tryz.prog w = .ok (vint n) w:=fun _ _ _ _=>by kernel_rfl
theorem len51 (ty:TypeId):∀ (a:Option Addr) (n c:Nat) (w:World),(Builtin.len_ #[51] ty #[.slice a n c]).run Tryz.prog w = .ok (vint n) w:=fun _ _ _ _=>by kernel_rfl
theorem zv270:∀ (w:World),(zeroValue 270).run Tryz.prog w = .ok (.agg #[.int .i64 0,.int .i64 0]) w:=fun _=>by kernel_rfl
theorem zv53:∀ (w:World),(zeroValue 53).run Tryz.prog w = .ok (.agg #[.int .i64 0,.int .i64 0,.slice none 0 0]) w:=fun _=>by kernel_rfl
theorem Rights_fn (p:Policy) (mv:Value) (who:Int):Fn Tryz.prog 60 #[.agg #[vint p.founder,vint p.epoch,mv],vint who] [KM mv p.members] (fun v M=>vint (Spec.rightsOf p.members who)=v∧M=[]):=by
 refine Fi 21 Tryz.func60 fun g R=>?_
 refine Ww [(0,.agg #[vint p.founder,vint p.epoch,mv]),(1,vint who)] [KM mv p.members,Al R] ?_
 refine Sn (Ru (OpRun.box rfl rfl rfl) ?_)
 rintro _ _ ⟨b1,rfl,rfl⟩
 refine Qa (k:=Nw [(1,vint who),(2,vptr b1 0),(4,vint 0)] [Cl b1 53 [vint p.founder,vint p.epoch,mv],KM mv p.members,Al R] ?_)
 refine W.seq (Sn (Qu (Of (fa53_2 _ _)) (k:=?_)))
 refine Qu (Ol 0 ld51) (k:=?_)
 refine Nk 1 fun hl2=>?_
 refine Qu (OpQ.lenSl (i:=1) rfl rfl rfl (len51 _)) (k:=Qm (k:=Nl [(1,vint who),(4,vint 0),(8,mv),(9,vint (p.members.length:Int)),(10,vint 0)] ?_))
 refine W.block (W.ent (ed 1 rfl) ?_)
 refine W.opens Opens.sl (i:=0) rfl (fun f3 _=>?_)
 refine We [Ka 270 2 mv p.members.length f3,Kr Enc.member f3 p.members,Cl b1 53 [vint p.founder,vint p.epoch,mv],KM mv p.members,Al R] ?_
 refine W.loop (X:=Nat) (fun k=>[(1,vint who),(4,vint 0),(8,mv),(9,vint (p.members.length:Int)),(10,vint (k:Int))]) (fun k=>[Asn.pure (k≤p.members.length∧Spec.rightsOf p.members who=Spec.rightsOf (p.members.drop k) who),Ka 270 2 mv p.members.length f3,Kr Enc.member f3 p.members,Cl b1 53 [vint p.founder,vint p.epoch,mv],KM mv p.members,Al R]) (fun k=>p.members.length - k) 0 ⟨rfl,rfl,rfl,rfl,rfl,trivial⟩ ((es [0,0,0,0,0] rfl).trans (Ent.pure_in (by exact ⟨Nat.zero_le _,rfl⟩))) (fun x=>?_)
 obtain ⟨k,rfl⟩:∃ y,y=x:=⟨x,rfl⟩
 show W _ _ _ _ _ [(1,vint who),(4,vint 0),(8,mv),(9,vint (p.members.length:Int)),(10,vint (k:Int))] [Asn.pure (k≤p.members.length∧Spec.rightsOf p.members who=Spec.rightsOf (p.members.drop k) who),Ka 270 2 mv p.members.length f3,Kr Enc.member f3 p.members,Cl b1 53 [vint p.founder,vint p.epoch,mv],KM mv p.members,Al R]
 refine W.opens Opens.pure (i:=0) rfl (fun _ hI4=>?_)
 replace hI4:=hI4
 show W _ _ _ _ _ [(1,vint who),(4,vint 0),(8,mv),(9,vint (p.members.length:Int)),(10,vint (k:Int))] [Ka 270 2 mv p.members.length f3,Kr Enc.member f3 p.members,Cl b1 53 [vint p.founder,vint p.epoch,mv],KM mv p.members,Al R]
 refine Sn (Qu (OpQ.lss rfl rfl rfl) (k:=Nl [(1,vint who),(4,vint 0),(8,mv),(9,vint (p.members.length:Int)),(10,vint (k:Int)),(11,.bool (decide ((k:Int) < (p.members.length:Int))))] ?_))
 refine W.seq (Cp rfl (fun h5=>?_) (fun h5=>?_))
 ·refine W.skip (thn_n (Wl [(1,vint who),(4,vint 0),(8,mv),(9,vint (p.members.length:Int)),(10,vint (k:Int))] ?_))
  refine W.seq (W.block (Sn (WN.opens (Opens.member (xs:=p.members) (i:=k) (by omega)) (i:=1) rfl (fun _ he6=>?_))))
  refine Ne [Kr Enc.member f3 p.members,Ka 270 2 mv p.members.length f3,Cl b1 53 [vint p.founder,vint p.epoch,mv],KM mv p.members,Al R] (Qu (OpQ.indexAddr (i:=1) (j:=k*2) rfl rfl rfl rfl (by omega) (by omega) (by omega) ix51) (k:=Qu (OpQ.loadSubN (i:=1) rfl rfl rfl he6 rfl (by omega) (by decide) ld270) (k:=?_)))
  refine Ru (OpRun.alloc rfl zv270 rfl) ?_
  rintro _ _ ⟨b7,rfl,rfl⟩
  refine Rn (OpRun.store (i:=0) (vs:=[vint ((p.members.getD k default).who),vint ((p.members.getD k default).rights)]) (cs':=[vint ((p.members.getD k default).who),vint ((p.members.getD k default).rights)]) rfl rfl rfl sz270 rfl rfl (one_cons rfl (one_cons rfl one_nil)) rfl (Lb rfl) rfl) (k:=Nw [(1,vint who),(4,vint 0),(6,vptr b7 0),(8,mv),(9,vint (p.members.length:Int)),(10,vint (k:Int))] [Cl b7 270 [vint ((p.members.getD k default).who),vint ((p.members.getD k default).rights)],Kr Enc.member f3 p.members,Ka 270 2 mv p.members.length f3,Cl b1 53 [vint p.founder,vint p.epoch,mv],KM mv p.members,Al R] ?_)
  refine Sn (Qu (Of (fa270_0 _ _)) (k:=Qu (Ol 0 ld3) (k:=Qm (k:=Qu (OpQ.eql rfl rfl rfl) (k:=Nl [(1,vint who),(4,vint 0),(6,vptr b7 0),(8,mv),(9,vint (p.members.length:Int)),(10,vint (k:Int)),(17,.bool (decide ((p.members.getD k default).who=who)))] ?_)))))
  refine Cp rfl (fun h8=>?_) (fun h8=>?_)
  ·refine Sn (Qu (Of (fa270_1 _ _)) (k:=Qu (Ol 0 ld3) (k:=Qa (k:=Nl [(1,vint who),(4,vint ((p.members.getD k default).rights)),(8,mv),(9,vint (p.members.length:Int)),(10,vint (k:Int))] ?_))))
   refine W.ret (inblk_r (thn_r (thn_r (inblk_r (thn_r (ret1 (M:=[]) rfl rfl (⟨(by rw [hI4.2,drop_getD (d:=default) (by omega),Spec.rightsOf,if_pos h8]),rfl⟩) (es [5] rfl)))))))
  refine W.skip (inblk_n (thn_n (Wl [(1,vint who),(4,vint 0),(8,mv),(9,vint (p.members.length:Int)),(10,vint (k:Int))] ?_)))
  refine W.region (Qu (OpQ.add rfl rfl rfl ⟨by omega,by omega⟩) (k:=?_))
  refine Qm (k:=?_)
  refine WN.nil (thn_n ⟨(k+1),by (show p.members.length - (k+1) < p.members.length - k); omega,⟨rfl,rfl,rfl,rfl,(Eq.trans (b:=some (vint ((k:Int)+1))) rfl (by first | rfl | (congr 2; omega))),trivial⟩,?_⟩)
  exact (es [2,1,1,1,1] rfl).trans (Ent.pure_in (by refine ⟨by omega,?_⟩; rw [hI4.2,drop_getD (d:=default) (by omega),Spec.rightsOf,if_neg h8]))
 obtain rfl:k=p.members.length:=by omega
 refine W.exit (thn_x (thn_x (inblk_x (thn_n (Wl [(4,vint 0)] ?_)))))
 refine Sn (Qa (k:=Nl [(4,vint 0)] ?_))
 refine W.ret (ret1 (M:=[]) rfl rfl (⟨(by rw [hI4.2,List.drop_length]; rfl),rfl⟩) (es [4] rfl))
theorem PRight_fn (p:Policy) (mv:Value):Fn Tryz.prog 201 #[.agg #[vint p.founder,vint p.epoch,mv]] [KM mv p.members] (fun v M=>.bool (Spec.policyOk p)=v∧M=[]):=by
 refine Fi 50 Tryz.func201 fun g R=>?_
 refine Ww [(0,.agg #[vint p.founder,vint p.epoch,mv])] [KM mv p.members,Al R] ?_
 refine Sn (Ru (OpRun.box rfl rfl rfl) ?_)
 rintro _ _ ⟨b1,rfl,rfl⟩
 refine Qa (k:=Nw [(1,vptr b1 0),(2,.bool false)] [Cl b1 53 [vint p.founder,vint p.epoch,mv],KM mv p.members,Al R] ?_)
 refine Sn (Qa (k:=Nl [(1,vptr b1 0),(2,.bool false),(3,vint 0)] ?_))
 refine W.seq (Sn (Qu (Of (fa53_2 _ _)) (k:=?_)))
 refine Qu (Ol 0 ld51) (k:=?_)
 refine Nk 1 fun hl2=>?_
 refine Qu (OpQ.lenSl (i:=1) rfl rfl rfl (len51 _)) (k:=Qm (k:=Nl [(1,vptr b1 0),(2,.bool false),(3,vint 0),(7,mv),(8,vint (p.members.length:Int)),(9,vint 0)] ?_))
 refine W.block (W.ent (ed 1 rfl) ?_)
 refine W.opens Opens.sl (i:=0) rfl (fun f3 _=>?_)
 refine We [Ka 270 2 mv p.members.length f3,Kr Enc.member f3 p.members,Cl b1 53 [vint p.founder,vint p.epoch,mv],KM mv p.members,Al R] ?_
 refine W.loop (X:=Nat × Int) (fun x=>match x with | (k,last)=>[(1,vptr b1 0),(2,.bool false),(3,vint last),(7,mv),(8,vint (p.members.length:Int)),(9,vint (k:Int))]) (fun x=>match x with | (k,last)=>[Asn.pure (k≤p.members.length∧Spec.memOk 0 p.members=Spec.memOk last (p.members.drop k)),Ka 270 2 mv p.members.length f3,Kr Enc.member f3 p.members,Cl b1 53 [vint p.founder,vint p.epoch,mv],KM mv p.members,Al R]) (fun x=>match x with | (k,last)=>p.members.length - k) (0,0) ⟨rfl,rfl,rfl,rfl,rfl,rfl,trivial⟩ ((es [0,0,0,0,0] rfl).trans (Ent.pure_in (by exact ⟨Nat.zero_le _,rfl⟩))) (fun x=>?_)
 obtain ⟨k,last⟩:=x
 show W _ _ _ _ _ [(1,vptr b1 0),(2,.bool false),(3,vint last),(7,mv),(8,vint (p.members.length:Int)),(9,vint (k:Int))] [Asn.pure (k≤p.members.length∧Spec.memOk 0 p.members=Spec.memOk last (p.members.drop k)),Ka 270 2 mv p.members.length f3,Kr Enc.member f3 p.members,Cl b1 53 [vint p.founder,vint p.epoch,mv],KM mv p.members,Al R]
 refine W.opens Opens.pure (i:=0) rfl (fun _ hI4=>?_)
 replace hI4:=hI4
 show W _ _ _ _ _ [(1,vptr b1 0),(2,.bool false),(3,vint last),(7,mv),(8,vint (p.members.length:Int)),(9,vint (k:Int))] [Ka 270 2 mv p.members.length f3,Kr Enc.member f3 p.members,Cl b1 53 [vint p.founder,vint p.epoch,mv],KM mv p.members,Al R]
 refine Sn (Qu (OpQ.lss rfl rfl rfl) (k:=Nl [(1,vptr b1 0),(2,.bool false),(3,vint last),(7,mv),(8,vint (p.members.length:Int)),(9,vint (k:Int)),(10,.bool (decide ((k:Int) < (p.members.length:Int))))] ?_))
 refine W.seq (Cp rfl (fun h5=>?_) (fun h5=>?_))
 ·refine W.skip (thn_n (Wl [(1,vptr b1 0),(2,.bool false),(3,vint last),(7,mv),(8,vint (p.members.length:Int)),(9,vint (k:Int))] ?_))
  refine W.seq (W.block (Sn (WN.opens (Opens.member (xs:=p.members) (i:=k) (by omega)) (i:=1) rfl (fun _ he6=>?_))))
  refine Ne [Kr Enc.member f3 p.members,Ka 270 2 mv p.members.length f3,Cl b1 53 [vint p.founder,vint p.epoch,mv],KM mv p.members,Al R] (Qu (OpQ.indexAddr (i:=1) (j:=k*2) rfl rfl rfl rfl (by omega) (by omega) (by omega) ix51) (k:=Qu (OpQ.loadSubN (i:=1) rfl rfl rfl he6 rfl (by omega) (by decide) ld270) (k:=?_)))
  refine Ru (OpRun.alloc rfl zv270 rfl) ?_
  rintro _ _ ⟨b7,rfl,rfl⟩
  refine Rn (OpRun.store (i:=0) (vs:=[vint ((p.members.getD k default).who),vint ((p.members.getD k default).rights)]) (cs':=[vint ((p.members.getD k default).who),vint ((p.members.getD k default).rights)]) rfl rfl rfl sz270 rfl rfl (one_cons rfl (one_cons rfl one_nil)) rfl (Lb rfl) rfl) (k:=Nw [(1,vptr b1 0),(2,.bool false),(3,vint last),(5,vptr b7 0),(7,mv),(8,vint (p.members.length:Int)),(9,vint (k:Int))] [Cl b7 270 [vint ((p.members.getD k default).who),vint ((p.members.getD k default).rights)],Kr Enc.member f3 p.members,Ka 270 2 mv p.members.length f3,Cl b1 53 [vint p.founder,vint p.epoch,mv],KM mv p.members,Al R] ?_)
  refine W.seq (Sn (Qu (Of (fa270_0 _ _)) (k:=?_)))
  refine Qu (Ol 0 ld3) (k:=Qm (k:=?_))
  by_cases h8:(p.members.getD k default).who≤last
  ·refine Qu (OpQ.decT (OpQ.leq rfl rfl rfl) h8) (k:=Qm (k:=Qs (k:=Qs (k:=Qs (k:=Qt (k:=Qm (k:=Qs (k:=Qs (k:=Qs (k:=Qt (k:=Qm (k:=Qs (k:=Qs (k:=?_))))))))))))))
   refine Qs (k:=Qt (k:=Nl [(1,vptr b1 0),(2,.bool false),(3,vint last),(5,vptr b7 0),(7,mv),(8,vint (p.members.length:Int)),(9,vint (k:Int)),(31,.bool true)] ?_))
   refine W.condT rfl ?_
   refine Sn (Qa (k:=Nl [(1,vptr b1 0),(2,.bool false),(3,vint last),(5,vptr b7 0),(7,mv),(8,vint (p.members.length:Int)),(9,vint (k:Int))] ?_))
   refine W.ret (thn_r (inblk_r (thn_r (thn_r (inblk_r (thn_r (ret1 (M:=[]) rfl rfl (⟨(by unfold Spec.policyOk; rw [hI4.2,drop_getD (d:=default) (by omega),Spec.memOk,if_pos (by omega)]; rfl),rfl⟩) (es [5] rfl))))))))
  refine Qu (OpQ.decF (OpQ.leq rfl rfl rfl) h8) (k:=Qm (k:=Qu (Of (fa270_0 _ _)) (k:=Qu (Ol 0 ld3) (k:=Qu (OpQ.gtr rfl rfl rfl) (k:=?_)))))
  by_cases h9:(p.members.getD k default).who > 16
  ·refine Qu (OpQ.decT (OpQ.pickF rfl rfl rfl) h9) (k:=Qm (k:=Qs (k:=Qs (k:=Qs (k:=Qt (k:=Qm (k:=Qs (k:=Qs (k:=Qs (k:=Qt (k:=Nl [(1,vptr b1 0),(2,.bool false),(3,vint last),(5,vptr b7 0),(7,mv),(8,vint (p.members.length:Int)),(9,vint (k:Int)),(31,.bool true)] ?_)))))))))))
   refine W.condT rfl ?_
   refine Sn (Qa (k:=Nl [(1,vptr b1 0),(2,.bool false),(3,vint last),(5,vptr b7 0),(7,mv),(8,vint (p.members.length:Int)),(9,vint (k:Int))] ?_))
   refine W.ret (thn_r (inblk_r (thn_r (thn_r (inblk_r (thn_r (ret1 (M:=[]) rfl rfl (⟨(by unfold Spec.policyOk; rw [hI4.2,drop_getD (d:=default) (by omega),Spec.memOk,if_pos (by omega)]; rfl),rfl⟩) (es [5] rfl))))))))
  refine Qu (OpQ.decF (OpQ.pickF rfl rfl rfl) h9) (k:=Qm (k:=Qu (Of (fa270_1 _ _)) (k:=Qu (Ol 0 ld3) (k:=Qu (OpQ.lss rfl rfl rfl) (k:=?_)))))
  by_cases h10:(p.members.getD k default).rights < 1
  ·refine Qu (OpQ.decT (OpQ.pickF rfl rfl rfl) h10) (k:=Qm (k:=Qs (k:=Qs (k:=Qs (k:=Qt (k:=Nl [(1,vptr b1 0),(2,.bool false),(3,vint last),(5,vptr b7 0),(7,mv),(8,vint (p.members.length:Int)),(9,vint (k:Int)),(31,.bool true)] ?_))))))
   refine W.condT rfl ?_
   refine Sn (Qa (k:=Nl [(1,vptr b1 0),(2,.bool false),(3,vint last),(5,vptr b7 0),(7,mv),(8,vint (p.members.length:Int)),(9,vint (k:Int))] ?_))
   refine W.ret (thn_r (inblk_r (thn_r (thn_r (inblk_r (thn_r (ret1 (M:=[]) rfl rfl (⟨(by unfold Spec.policyOk; rw [hI4.2,drop_getD (d:=default) (by omega),Spec.memOk,if_pos (by omega)]; rfl),rfl⟩) (es [5] rfl))))))))
  refine Qu (OpQ.decF (OpQ.pickF rfl rfl rfl) h10) (k:=Qm (k:=Qu (Of (fa270_1 _ _)) (k:=Qu (Ol 0 ld3) (k:=Qu (OpQ.gtr rfl rfl rfl) (k:=Qf (k:=Nl [(1,vptr b1 0),(2,.bool false),(3,vint last),(5,vptr b7 0),(7,mv),(8,vint (p.members.length:Int)),(9,vint (k:Int)),(31,.bool (decide ((p.members.getD k default).rights > 7)))] ?_))))))
  refine Cp rfl (fun h11=>?_) (fun h11=>?_)
  ·refine Sn (Qa (k:=Nl [(1,vptr b1 0),(2,.bool false),(3,vint last),(5,vptr b7 0),(7,mv),(8,vint (p.members.length:Int)),(9,vint (k:Int))] ?_))
   refine W.ret (thn_r (inblk_r (thn_r (thn_r (inblk_r (thn_r (ret1 (M:=[]) rfl rfl (⟨(by unfold Spec.policyOk; rw [hI4.2,drop_getD (d:=default) (by omega),Spec.memOk,if_pos (by omega)]; rfl),rfl⟩) (es [5] rfl))))))))
  refine W.skip (thn_n (Wl [(1,vptr b1 0),(2,.bool false),(3,vint last),(5,vptr b7 0),(7,mv),(8,vint (p.members.length:Int)),(9,vint (k:Int))] ?_))
  refine W.region (Qu (Of (fa270_0 _ _)) (k:=?_))
  refine Qu (Ol 0 ld3) (k:=Qa (k:=?_))
  refine WN.nil (inblk_n (thn_n (Wl [(1,vptr b1 0),(2,.bool false),(3,vint ((p.members.getD k default).who)),(7,mv),(8,vint (p.members.length:Int)),(9,vint (k:Int))] ?_)))
  refine W.region (Qu (OpQ.add rfl rfl rfl ⟨by omega,by omega⟩) (k:=?_))
  refine Qm (k:=?_)
  refine WN.nil (thn_n ⟨(k+1,(p.members.getD k default).who),by (show p.members.length - (k+1) < p.members.length - k); omega,⟨rfl,rfl,rfl,rfl,rfl,(Eq.trans (b:=some (vint ((k:Int)+1))) rfl (by first | rfl | (congr 2; omega))),trivial⟩,?_⟩)
  exact (es [2,1,1,1,1] rfl).trans (Ent.pure_in (by refine ⟨by omega,?_⟩; rw [hI4.2,drop_getD (d:=default) (by omega),Spec.memOk,if_neg (by omega)]))
 obtain rfl:k=p.members.length:=by omega
 refine W.exit (thn_x (thn_x (inblk_x (thn_n (Wl [(1,vptr b1 0),(2,.bool false)] ?_)))))
 refine W.seq (W.region ?_)
 have hmo:Spec.memOk 0 p.members=true:=by rw [hI4.2,List.drop_length]; rfl
 refine Qu (Of (fa53_1 _ _)) (k:=Qu (Ol 2 ld3) (k:=?_))
 by_cases h12:p.epoch ≥ 0
 ·refine Qu (OpQ.decT (OpQ.geq rfl rfl rfl) h12) (k:=Qm (k:=Qu (Of (fa53_1 _ _)) (k:=Qu (Ol 2 ld3) (k:=Qu (OpQ.leq rfl rfl rfl) (k:=?_)))))
  by_cases h13:p.epoch≤16
  ·refine Qu (OpQ.decT (OpQ.pickT rfl rfl rfl) h13) (k:=Qm (k:=Qu (OpQ.loadN (i:=2) rfl rfl ld53 rfl rfl rfl) (k:=Qu (Of (fa53_0 _ _)) (k:=Qu (Ol 2 ld3) (k:=?_)))))
   refine Wc [.tmp 44,.tmp 46] [.agg #[vint p.founder,vint p.epoch,mv],vint p.founder] Tryz.call60 (Rights_fn p mv p.founder) ((ed 3 rfl).trans (ep [0] rfl)) ?_
   rintro _ _ ⟨rfl,rfl⟩
   refine Qu (OpQ.eql rfl rfl rfl) (k:=Qt (k:=Qa (k:=Nw [(2,.bool (decide (Spec.rightsOf p.members p.founder=7)))] [Ka 270 2 mv p.members.length f3,Kr Enc.member f3 p.members,Cl b1 53 [vint p.founder,vint p.epoch,mv],KM mv p.members,Al R] ?_)))
   refine W.ret (ret1 (M:=[]) rfl rfl (⟨(by unfold Spec.policyOk; rw [hmo]; show Value.bool (decide _)=_; first | exact bool_dec (by omega) | exact (bool_F (by omega)).symm | exact (bool_T (by omega)).symm),rfl⟩) (es [4] rfl))
  refine Qu (OpQ.decF (OpQ.pickT rfl rfl rfl) h13) (k:=Qm (k:=Qs (k:=Qs (k:=Qs (k:=Qs (k:=Qs (k:=Qf (k:=Qa (k:=Nl [(2,.bool false)] ?_)))))))))
  refine W.ret (ret1 (M:=[]) rfl rfl (⟨(by unfold Spec.policyOk; rw [hmo]; show Value.bool (decide _)=_; first | exact bool_dec (by omega) | exact (bool_F (by omega)).symm | exact (bool_T (by omega)).symm),rfl⟩) (es [4] rfl))
 refine Qu (OpQ.decF (OpQ.geq rfl rfl rfl) h12) (k:=Qm (k:=Qs (k:=Qs (k:=Qs (k:=Qf (k:=Qm (k:=Qs (k:=Qs (k:=Qs (k:=Qs (k:=Qs (k:=Qf (k:=Qa (k:=?_))))))))))))))
 refine Nl [(2,.bool false)] ?_
 refine W.ret (ret1 (M:=[]) rfl rfl (⟨(by unfold Spec.policyOk; rw [hmo]; show Value.bool (decide _)=_; first | exact bool_dec (by omega) | exact (bool_F (by omega)).symm | exact (bool_T (by omega)).symm),rfl⟩) (es [4] rfl))
theorem Readers_fn (p:Policy) (mv:Value) (hm:p.members.length≤1000000):Fn Tryz.prog 130 #[.agg #[vint p.founder,vint p.epoch,mv]] [KM mv p.members] (fun v M=>∃ (z:Value),z=v∧M=[Kk (Sl Enc.num 3 z (Spec.readers p))]):=by
 refine Fi 24 Tryz.func130 fun g R=>?_
 refine Ww [(0,.agg #[vint p.founder,vint p.epoch,mv])] [KM mv p.members,Al R] ?_
 refine Sn (Ru (OpRun.box rfl rfl rfl) ?_)
 rintro _ _ ⟨b1,rfl,rfl⟩
 refine Qa (k:=Nw [(1,vptr b1 0),(2,N0)] [Cl b1 53 [vint p.founder,vint p.epoch,mv],KM mv p.members,Al R] ?_)
 refine Sn (Qa (k:=Nl [(1,vptr b1 0),(2,N0),(3,N0)] ?_))
 refine W.seq (Sn (Qu (Of (fa53_2 _ _)) (k:=?_)))
 refine Qu (Ol 0 ld51) (k:=?_)
 refine Nk 1 fun hl2=>?_
 refine Qu (OpQ.lenSl (i:=1) rfl rfl rfl (len51 _)) (k:=Qm (k:=Nl [(2,N0),(3,N0),(7,mv),(8,vint (p.members.length:Int)),(9,vint 0)] ?_))
 refine W.block (W.ent (ed 1 rfl) ?_)
 refine W.opens Opens.sl (i:=0) rfl (fun f3 _=>?_)
 refine We [Ka 270 2 mv p.members.length f3,Kr Enc.member f3 p.members,Cl b1 53 [vint p.founder,vint p.epoch,mv],KM mv p.members,Al R] ?_
 refine W.ent (Ent.rowNil (E:=3) (sz:=1)) ?_
 refine W.ent (Ent.know (m:=CellsRel (Enc.num) [] []) (fun _ _ _=>CellsRel.nil)) ?_
 refine W.ent (L':=[Kx Enc.num ([]) ([]),Rw 3 1 (N0) ([]),Ka 270 2 mv p.members.length f3,Kr Enc.member f3 p.members,Cl b1 53 [vint p.founder,vint p.epoch,mv],KM mv p.members,Al R]) (es [0,0,0,0,0,0,0] rfl) ?_
 refine W.loop (X:=Nat × Value × List Value) (fun x=>match x with | (k,o,cs)=>[(2,N0),(3,o),(7,mv),(8,vint (p.members.length:Int)),(9,vint (k:Int))]) (fun x=>match x with | (k,o,cs)=>[Asn.pure (k≤p.members.length∧cs.length≤k),Rw 3 1 o cs,Kx Enc.num cs (((p.members.take k).filter Spec.reader).map Member.who),Ka 270 2 mv p.members.length f3,Kr Enc.member f3 p.members,Cl b1 53 [vint p.founder,vint p.epoch,mv],KM mv p.members,Al R]) (fun x=>match x with | (k,o,cs)=>p.members.length - k) (0,(N0),[]) ⟨rfl,rfl,rfl,rfl,rfl,trivial⟩ (((es [1,0,0,0,0,0,0] rfl).trans (Ent.of_eq (by rfl))).trans (Ent.pure_in (by exact ⟨Nat.zero_le _,by simp⟩))) (fun x=>?_)
 obtain ⟨k,o,cs⟩:=x
 show W _ _ _ _ _ [(2,N0),(3,o),(7,mv),(8,vint (p.members.length:Int)),(9,vint (k:Int))] [Asn.pure (k≤p.members.length∧cs.length≤k),Rw 3 1 o cs,Kx Enc.num cs (((p.members.take k).filter Spec.reader).map Member.who),Ka 270 2 mv p.members.length f3,Kr Enc.member f3 p.members,Cl b1 53 [vint p.founder,vint p.epoch,mv],KM mv p.members,Al R]
 refine W.opens Opens.pure (i:=0) rfl (fun _ hI4=>?_)
 replace hI4:=hI4
 show W _ _ _ _ _ [(2,N0),(3,o),(7,mv),(8,vint (p.members.length:Int)),(9,vint (k:Int))] [Rw 3 1 o cs,Kx Enc.num cs (((p.members.take k).filter Spec.reader).map Member.who),Ka 270 2 mv p.members.length f3,Kr Enc.member f3 p.members,Cl b1 53 [vint p.founder,vint p.epoch,mv],KM mv p.members,Al R]
 refine Sn (Qu (OpQ.lss rfl rfl rfl) (k:=Nl [(2,N0),(3,o),(7,mv),(8,vint (p.members.length:Int)),(9,vint (k:Int)),(10,.bool (decide ((k:Int) < (p.members.length:Int))))] ?_))
 refine W.seq (Cp rfl (fun h5=>?_) (fun h5=>?_))
 ·refine W.skip (thn_n (Wl [(2,N0),(3,o),(7,mv),(8,vint (p.members.length:Int)),(9,vint (k:Int))] ?_))
  refine W.seq (W.block (Sn (WN.opens (Opens.member (xs:=p.members) (i:=k) (by omega)) (i:=3) rfl (fun _ he6=>?_))))
  refine Ne [Kr Enc.member f3 p.members,Rw 3 1 o cs,Kx Enc.num cs (((p.members.take k).filter Spec.reader).map Member.who),Ka 270 2 mv p.members.length f3,Cl b1 53 [vint p.founder,vint p.epoch,mv],KM mv p.members,Al R] (Qu (OpQ.indexAddr (i:=3) (j:=k*2) rfl rfl rfl rfl (by omega) (by omega) (by omega) ix51) (k:=Qu (OpQ.loadSubN (i:=3) rfl rfl rfl he6 rfl (by omega) (by decide) ld270) (k:=?_)))
  refine Ru (OpRun.alloc rfl zv270 rfl) ?_
  rintro _ _ ⟨b7,rfl,rfl⟩
  refine Rn (OpRun.store (i:=0) (vs:=[vint ((p.members.getD k default).who),vint ((p.members.getD k default).rights)]) (cs':=[vint ((p.members.getD k default).who),vint ((p.members.getD k default).rights)]) rfl rfl rfl sz270 rfl rfl (one_cons rfl (one_cons rfl one_nil)) rfl (Lb rfl) rfl) (k:=Nw [(2,N0),(3,o),(5,vptr b7 0),(7,mv),(8,vint (p.members.length:Int)),(9,vint (k:Int))] [Cl b7 270 [vint ((p.members.getD k default).who),vint ((p.members.getD k default).rights)],Kr Enc.member f3 p.members,Rw 3 1 o cs,Kx Enc.num cs (((p.members.take k).filter Spec.reader).map Member.who),Ka 270 2 mv p.members.length f3,Cl b1 53 [vint p.founder,vint p.epoch,mv],KM mv p.members,Al R] ?_)
  refine Sn (Qu (Of (fa270_1 _ _)) (k:=Qu (Ol 0 ld3) (k:=Qu (OpQ.and rfl rfl rfl) (k:=Qu (OpQ.neq rfl rfl rfl) (k:=Nl [(2,N0),(3,o),(5,vptr b7 0),(7,mv),(8,vint (p.members.length:Int)),(9,vint (k:Int)),(16,.bool (decide (bits .and .i64 ((p.members.getD k default).rights) 1≠0)))] ?_)))))
  refine Cp rfl (fun h8=>?_) (fun h8=>?_)
  ·refine W.region (Qm (k:=?_))
   refine Qu (Of (fa270_0 _ _)) (k:=Qu (Ol 0 ld3) (k:=?_))
   refine Ru (OpRun.buildSlice (qs:=[(0,vint ((p.members.getD k default).who))]) (cs:=[vint ((p.members.getD k default).who)]) (E:=3) (sz:=1) rfl ⟨rfl,rfl,trivial⟩ (fun _=>by kernel_rfl) (one_cons rfl one_nil) rfl (by decide)) ?_
   rintro v9 _ ⟨h10a,h10b,h10c,rfl⟩
   refine WN.ent (Ent.know (m:=CellsRel Enc.num ([vint ((p.members.getD k default).who)]) ([(p.members.getD k default).who])) (fun K h s=>(CellsRel.cons (cs:=[vint ((p.members.getD k default).who)]) (ds:=[]) rfl Enc.num_mk CellsRel.nil))) ?_
   refine Ne [Kx Enc.num ([vint ((p.members.getD k default).who)]) ([(p.members.getD k default).who]),Rw 3 1 v9 ([vint ((p.members.getD k default).who)]),Cl b7 270 [vint ((p.members.getD k default).who),vint ((p.members.getD k default).rights)],Kr Enc.member f3 p.members,Rw 3 1 o cs,Kx Enc.num cs (((p.members.take k).filter Spec.reader).map Member.who),Ka 270 2 mv p.members.length f3,Cl b1 53 [vint p.founder,vint p.epoch,mv],KM mv p.members,Al R] ?_
   refine Nr 4 fun hr13a hr13b hr13c=>?_
   try simp only [La,Lc,Ln] at hr13a
   refine Nr 1 fun hr14a hr14b hr14c=>?_
   try simp only [La,Lc,Ln] at hr14a
   refine Ru (OpRun.appendRow (i:=4) (j:=1) rfl rfl rfl rfl rfl Tryz.underlying160 (inf:=Tryz.t3) (by kernel_rfl) rfl rfl rfl (by_:=8) rfl (by first | omega | (simp; omega)) (by first | omega | (simp; omega))) ?_
   rintro v11 _ ⟨h12a,h12b,rfl⟩
   refine WN.ent (Ent.know (m:=CellsRel Enc.num (cs++([vint ((p.members.getD k default).who)])) ((((p.members.take k).filter Spec.reader).map Member.who)++([(p.members.getD k default).who]))) (fun K h s=>CellsRel.append (e:=Enc.num) (cs:=cs) (ds:=[vint ((p.members.getD k default).who)]) (xs:=((p.members.take k).filter Spec.reader).map Member.who) (ys:=[(p.members.getD k default).who]) (kat 4 s rfl) (kat 1 s rfl))) ?_
   refine Ne [Kx Enc.num (cs++([vint ((p.members.getD k default).who)])) ((((p.members.take k).filter Spec.reader).map Member.who)++([(p.members.getD k default).who])),Rw 3 1 v11 (cs++([vint ((p.members.getD k default).who)])),Kx Enc.num ([vint ((p.members.getD k default).who)]) ([(p.members.getD k default).who]),Cl b7 270 [vint ((p.members.getD k default).who),vint ((p.members.getD k default).rights)],Kr Enc.member f3 p.members,Kx Enc.num cs (((p.members.take k).filter Spec.reader).map Member.who),Ka 270 2 mv p.members.length f3,Cl b1 53 [vint p.founder,vint p.epoch,mv],KM mv p.members,Al R] (Qa (k:=?_))
   refine WN.nil (inblk_n (thn_n (Wl [(2,N0),(3,v11),(7,mv),(8,vint (p.members.length:Int)),(9,vint (k:Int))] ?_)))
   refine W.region (Qu (OpQ.add rfl rfl rfl ⟨by omega,by omega⟩) (k:=?_))
   refine Qm (k:=?_)
   refine WN.nil (thn_n ⟨(k+1,v11,cs++([vint ((p.members.getD k default).who)])),by (show p.members.length - (k+1) < p.members.length - k); omega,⟨rfl,rfl,rfl,rfl,(Eq.trans (b:=some (vint ((k:Int)+1))) rfl (by first | rfl | (congr 2; omega))),trivial⟩,?_⟩)
   exact ((es [1,0,4,2,3,3,3] rfl).trans (Ent.of_eq (by rw [Spec.readers_T (by omega) h8]))).trans (Ent.pure_in (by exact ⟨by omega,by have h9:=hI4.2; first | omega | (simp; omega)⟩))
  refine W.skip (inblk_n (thn_n (Wl [(2,N0),(3,o),(7,mv),(8,vint (p.members.length:Int)),(9,vint (k:Int))] ?_)))
  refine W.region (Qu (OpQ.add rfl rfl rfl ⟨by omega,by omega⟩) (k:=?_))
  refine Qm (k:=?_)
  refine WN.nil (thn_n ⟨(k+1,o,cs),by (show p.members.length - (k+1) < p.members.length - k); omega,⟨rfl,rfl,rfl,rfl,(Eq.trans (b:=some (vint ((k:Int)+1))) rfl (by first | rfl | (congr 2; omega))),trivial⟩,?_⟩)
  exact ((es [2,2,2,1,1,1,1] rfl).trans (Ent.of_eq (by rw [Spec.readers_F (by omega) h8]))).trans (Ent.pure_in (by exact ⟨by omega,by have h9:=hI4.2; first | omega | (simp; omega)⟩))
 obtain rfl:k=p.members.length:=by omega
 refine W.exit (thn_x (thn_x (inblk_x (thn_n (Ww [(2,N0),(3,o)] [Rw 3 1 o cs,Kx Enc.num cs (((p.members.take p.members.length).filter Spec.reader).map Member.who),Ka 270 2 mv p.members.length f3,Kr Enc.member f3 p.members,Cl b1 53 [vint p.founder,vint p.epoch,mv],KM mv p.members,Al R] ?_)))))
 refine Sn (Qm (k:=Qa (k:=Nl [(2,o)] ?_)))
 refine Wr 0 fun hr15a hr15b hr15c=>?_
 try simp only [La,Lc,Ln] at hr15a
 refine W.freezeRel (e:=Enc.num) (i:=0) (j:=0) (Lb rfl) rfl rfl ?_
 refine We [Kk (Sl Enc.num 3 o (((p.members.take p.members.length).filter Spec.reader).map Member.who)),Kx Enc.num cs (((p.members.take p.members.length).filter Spec.reader).map Member.who),Ka 270 2 mv p.members.length f3,Kr Enc.member f3 p.members,Cl b1 53 [vint p.founder,vint p.epoch,mv],KM mv p.members,Al R] ?_
 refine W.ret (ret1 (M:=[Kk (Sl Enc.num 3 o (Spec.readers p))]) rfl rfl (⟨o,rfl,rfl⟩) ((es [0,5] rfl).trans (Ent.of_eq (by rw [List.take_length]; rfl))))
theorem First_fn (founder:Int):Fn Tryz.prog 113 #[vint founder] [] (fun v M=>(∃ (mv:Value),Spec.policyOk (Spec.firstP founder)=true∧.tuple #[.agg #[vint ((Spec.firstP founder).founder),vint ((Spec.firstP founder).epoch),mv],vint 0]=v∧M=[KM mv ((Spec.firstP founder).members)])∨(Spec.policyOk (Spec.firstP founder)=false∧.tuple #[.agg #[vint 0,vint 0,.slice none 0 0],vint 10]=v∧M=[])):=by
 refine Fi 15 Tryz.func113 fun g R=>?_
 refine Ww [(0,vint founder)] [Al R] ?_
 refine Sn (Ru (OpRun.alloc rfl zv53 rfl) ?_)
 rintro _ _ ⟨b1,rfl,rfl⟩
 refine Qa (k:=Nw [(0,vint founder),(2,vptr b1 0),(3,vint 0)] [Cl b1 53 [vint 0,vint 0,N0],Al R] ?_)
 refine Sn (Qm (k:=Qm (k:=Qu (OpQ.build (qs:=[(0,vint founder),(1,vint 7)]) (v:=.agg #[vint founder,vint 7]) rfl ⟨rfl,rfl,rfl,rfl,trivial⟩ (fun _=>by kernel_rfl)) (k:=?_))))
 refine Ru (OpRun.buildSlice (qs:=[(0,.agg #[vint founder,vint 7])]) (cs:=[vint founder,vint 7]) (E:=270) (sz:=2) rfl ⟨rfl,rfl,trivial⟩ (fun _=>by kernel_rfl) (one_cons rfl (one_cons rfl one_nil)) rfl (by decide)) ?_
 rintro v2 _ ⟨h3a,h3b,h3c,rfl⟩
 refine WN.ent (Ent.know (m:=CellsRel Enc.member ([vint founder,vint 7]) ([(⟨founder,7⟩:Member)])) (fun K h s=>(CellsRel.cons (cs:=[vint founder,vint 7]) (ds:=[]) rfl Enc.member_mk CellsRel.nil))) ?_
 refine Ne [Kx Enc.member ([vint founder,vint 7]) ([(⟨founder,7⟩:Member)]),Rw 270 2 v2 ([vint founder,vint 7]),Cl b1 53 [vint 0,vint 0,N0],Al R] ?_
 refine WN.fact (fun _ _ s=>row_isS (i:=1) rfl s) (fun hS4=>?_)
 refine Qu (OpQ.build (qs:=[(0,vint founder),(2,v2)]) (v:=.agg #[vint founder,vint 0,v2]) rfl ⟨rfl,rfl,rfl,rfl,trivial⟩ (fun _=>by obtain ⟨_,_,_,e1⟩:=hS4; rw [e1]; kernel_rfl)) (k:=?_)
 refine Ru (OpRun.alloc rfl zv53 rfl) ?_
 rintro _ _ ⟨b5,rfl,rfl⟩
 refine Rn (OpRun.store (i:=0) (vs:=[vint founder,vint 0,v2]) (cs':=[vint founder,vint 0,v2]) rfl rfl rfl sz53 rfl rfl (one_cons rfl (one_cons rfl (one_cons h3c one_nil))) rfl (Lb rfl) rfl) (k:=Nw [(2,vptr b1 0),(3,vint 0),(4,vptr b5 0)] [Cl b5 53 [vint founder,vint 0,v2],Kx Enc.member ([vint founder,vint 7]) ([(⟨founder,7⟩:Member)]),Rw 270 2 v2 ([vint founder,vint 7]),Cl b1 53 [vint 0,vint 0,N0],Al R] ?_)
 refine W.seq (Sn (Qu (OpQ.loadN (i:=0) rfl rfl ld53 rfl rfl rfl) (k:=?_)))
 refine WN.freezeRel (e:=Enc.member) (i:=2) (j:=1) (Lb rfl) rfl rfl ?_
 refine Ne [KM v2 ([(⟨founder,7⟩:Member)]),Cl b5 53 [vint founder,vint 0,v2],Kx Enc.member ([vint founder,vint 7]) ([(⟨founder,7⟩:Member)]),Cl b1 53 [vint 0,vint 0,N0],Al R] ?_
 refine Wc [.tmp 10] [.agg #[vint founder,vint 0,v2]] Tryz.call201 (PRight_fn (⟨founder,0,[(⟨founder,7⟩:Member)]⟩:Policy) v2) ((ed 0 rfl).trans (ep [0] rfl)) ?_
 rintro _ _ ⟨rfl,rfl⟩
 refine Qu (OpQ.not rfl rfl) (k:=Nw [(2,vptr b1 0),(3,vint 0),(4,vptr b5 0),(12,.bool (!(Spec.policyOk (⟨founder,0,[(⟨founder,7⟩:Member)]⟩:Policy))))] [KM v2 ([(⟨founder,7⟩:Member)]),Cl b5 53 [vint founder,vint 0,v2],Kx Enc.member ([vint founder,vint 7]) ([(⟨founder,7⟩:Member)]),Cl b1 53 [vint 0,vint 0,N0],Al R] ?_)
 refine W.cond rfl (fun h6=>?_) (fun h6=>?_)
 ·refine Sn (Qu (OpQ.build (qs:=[]) (v:=.agg #[vint 0,vint 0,N0]) rfl trivial (fun _=>by kernel_rfl)) (k:=Rn (OpRun.store (i:=3) (vs:=[vint 0,vint 0,N0]) (cs':=[vint 0,vint 0,N0]) rfl rfl rfl sz53 rfl rfl (O3 one_nil) rfl (Lb rfl) rfl) (k:=Qa (k:=Nw [(2,vptr b1 0),(3,vint 10),(4,vptr b5 0)] [Cl b1 53 [vint 0,vint 0,N0],KM v2 ([(⟨founder,7⟩:Member)]),Cl b5 53 [vint founder,vint 0,v2],Kx Enc.member ([vint founder,vint 7]) ([(⟨founder,7⟩:Member)]),Al R] ?_))))
  refine W.ret (thn_r (retC2 (M:=[]) (i:=0) rfl rfl rfl rfl rfl ld53 (.inr (⟨(by simp_all [Spec.firstP]),rfl,rfl⟩)) (es [4] rfl)))
 refine W.skip (thn_n (Wl [(2,vptr b1 0),(3,vint 0),(4,vptr b5 0)] ?_))
 refine Sn (Qu (OpQ.loadN (i:=1) rfl rfl ld53 rfl rfl rfl) (k:=Rn (OpRun.store (i:=3) (vs:=[vint founder,vint 0,v2]) (cs':=[vint founder,vint 0,v2]) rfl rfl rfl sz53 rfl rfl (one_cons rfl (one_cons rfl (one_cons h3c one_nil))) rfl (Lb rfl) rfl) (k:=Qa (k:=Nw [(2,vptr b1 0),(3,vint 0)] [Cl b1 53 [vint founder,vint 0,v2],KM v2 ([(⟨founder,7⟩:Member)]),Cl b5 53 [vint founder,vint 0,v2],Kx Enc.member ([vint founder,vint 7]) ([(⟨founder,7⟩:Member)]),Al R] ?_))))
 refine W.ret (retC2 (M:=[KM v2 ((Spec.firstP founder).members)]) (i:=0) rfl rfl rfl rfl rfl ld53 (.inl ⟨v2,(by simp_all [Spec.firstP]),rfl,rfl⟩) ((es [1,3] rfl).trans (Ent.of_eq (by rfl))))
theorem EqualN_fn (a:Value) (b:Value) (xs:List Int) (ys:List Int):Fn Tryz.prog 285 #[a,b] [Kk (Sl Enc.num 3 a xs),Kk (Sl Enc.num 3 b ys)] (fun v M=>.bool (decide (xs=ys))=v∧M=[]):=by
 refine Fi 26 Tryz.func285 fun g R=>?_
 refine Ww [(0,a),(1,b)] [Kk (Sl Enc.num 3 a xs),Kk (Sl Enc.num 3 b ys),Al R] ?_
 refine Sn (Qa (k:=Nl [(0,a),(1,b),(4,.bool false)] ?_))
 refine W.seq (Sn (Qm (k:=?_)))
 refine Nk 0 fun hl1=>?_
 refine Qu (OpQ.lenSl (i:=0) rfl rfl rfl (len160 _)) (k:=Qm (k:=?_))
 refine Nk 1 fun hl2=>?_
 refine Qu (OpQ.lenSl (i:=1) rfl rfl rfl (len160 _)) (k:=Qu (OpQ.neq rfl rfl rfl) (k:=Nl [(0,a),(1,b),(4,.bool false),(10,.bool (decide ((xs.length:Int)≠(ys.length:Int))))] ?_))
 refine Cp rfl (fun h3=>?_) (fun h3=>?_)
 ·refine Sn (Qa (k:=Nl [(0,a),(1,b),(4,.bool false)] ?_))
  refine W.ret (thn_r (ret1 (M:=[]) rfl rfl (⟨(congrArg Value.bool (decide_eq_false (by intro h; subst h; exact h3 rfl))),rfl⟩) (es [2] rfl)))
 refine W.skip (thn_n (Wl [(0,a),(1,b),(4,.bool false)] ?_))
 refine W.seq (Sn (Qm (k:=?_)))
 refine Qu (OpQ.lenSl (i:=0) rfl rfl rfl (len160 _)) (k:=Qm (k:=Nl [(0,a),(1,b),(4,.bool false),(12,vint (xs.length:Int)),(13,vint 0)] ?_))
 refine W.block (W.opens Opens.sl (i:=0) rfl (fun f4 _=>?_))
 refine We [Ka 3 1 a xs.length f4,Kr Enc.num f4 xs,Kk (Sl Enc.num 3 b ys),Al R] ?_
 refine W.opens Opens.sl (i:=2) rfl (fun f5 _=>?_)
 refine We [Ka 3 1 b ys.length f5,Kr Enc.num f5 ys,Ka 3 1 a xs.length f4,Kr Enc.num f4 xs,Al R] ?_
 refine W.loop (X:=Nat) (fun k=>[(0,a),(1,b),(4,.bool false),(12,vint (xs.length:Int)),(13,vint (k:Int))]) (fun k=>[Asn.pure (k≤xs.length∧xs.take k=ys.take k),Ka 3 1 b ys.length f5,Kr Enc.num f5 ys,Ka 3 1 a xs.length f4,Kr Enc.num f4 xs,Al R]) (fun k=>xs.length - k) 0 ⟨rfl,rfl,rfl,rfl,rfl,trivial⟩ ((es [0,0,0,0,0] rfl).trans (Ent.pure_in (by exact ⟨Nat.zero_le _,rfl⟩))) (fun x=>?_)
 obtain ⟨k,rfl⟩:∃ y,y=x:=⟨x,rfl⟩
 show W _ _ _ _ _ [(0,a),(1,b),(4,.bool false),(12,vint (xs.length:Int)),(13,vint (k:Int))] [Asn.pure (k≤xs.length∧xs.take k=ys.take k),Ka 3 1 b ys.length f5,Kr Enc.num f5 ys,Ka 3 1 a xs.length f4,Kr Enc.num f4 xs,Al R]
 refine W.opens Opens.pure (i:=0) rfl (fun _ hI6=>?_)
 replace hI6:=hI6
 show W _ _ _ _ _ [(0,a),(1,b),(4,.bool false),(12,vint (xs.length:Int)),(13,vint (k:Int))] [Ka 3 1 b ys.length f5,Kr Enc.num f5 ys,Ka 3 1 a xs.length f4,Kr Enc.num f4 xs,Al R]
 refine Sn (Qu (OpQ.lss rfl rfl rfl) (k:=Nl [(0,a),(1,b),(4,.bool false),(12,vint (xs.length:Int)),(13,vint (k:Int)),(14,.bool (decide ((k:Int) < (xs.length:Int))))] ?_))
 refine W.seq (Cp rfl (fun h7=>?_) (fun h7=>?_))
 ·refine W.skip (thn_n (Wl [(0,a),(1,b),(4,.bool false),(12,vint (xs.length:Int)),(13,vint (k:Int))] ?_))
  refine W.seq (W.block (Sn (WN.opens (Opens.num (xs:=xs) (i:=k) (by omega)) (i:=3) rfl (fun _ he8=>?_))))
  refine Ne [Kr Enc.num f4 xs,Ka 3 1 b ys.length f5,Kr Enc.num f5 ys,Ka 3 1 a xs.length f4,Al R] ?_
  refine WN.opens (Opens.num (xs:=ys) (i:=k) (by omega)) (i:=2) rfl (fun _ he9=>?_)
  refine Ne [Kr Enc.num f5 ys,Kr Enc.num f4 xs,Ka 3 1 b ys.length f5,Ka 3 1 a xs.length f4,Al R] (Qm (k:=Qa (k:=Nl [(0,a),(1,b),(4,.bool false),(5,vint (k:Int)),(12,vint (xs.length:Int)),(13,vint (k:Int))] ?_)))
  refine W.seq (W.drawG mixed ?_)
  refine Gq 0 [] rfl (OpQ.move rfl rfl) ?_
  refine Gq 1 [] rfl (OpQ.move rfl rfl) ?_
  refine WG.hold (Ka 3 1 a xs.length f4,[]) ?_
  refine Gq 2 [3] rfl (OpQ.indexAddr (i:=0) (j:=k) rfl rfl rfl rfl (by omega) (by omega) (by omega) ix160) ?_
  refine Gq 3 [3] rfl (OpQ.loadSub (i:=0) (c:=0) rfl rfl rfl he8 (by omega) (by omega) rfl ld3) ?_
  refine Gq 4 [3] rfl (OpQ.move rfl rfl) ?_
  refine Gq 5 [3] rfl (OpQ.move rfl rfl) ?_
  refine WG.hold (Ka 3 1 b ys.length f5,[]) ?_
  refine Gq 6 [2,2] rfl (OpQ.indexAddr (i:=0) (j:=k) rfl rfl rfl rfl (by omega) (by omega) (by omega) ix160) ?_
  refine Gq 7 [2,2] rfl (OpQ.loadSub (i:=0) (c:=0) rfl rfl rfl he9 (by omega) (by omega) rfl ld3) ?_
  refine Gq 8 [2,2] rfl (OpQ.neq rfl rfl rfl) ?_
  refine WG.done (by kernel_rfl) ?_
  refine thn_n (Wl [(0,a),(1,b),(4,.bool false),(12,vint (xs.length:Int)),(13,vint (k:Int)),(24,.bool (decide (xs.getD k 0≠ys.getD k 0)))] ?_)
  refine Cp rfl (fun h10=>?_) (fun h10=>?_)
  ·refine Sn (Qa (k:=Nl [(0,a),(1,b),(4,.bool false),(12,vint (xs.length:Int)),(13,vint (k:Int))] ?_))
   refine W.ret (inblk_r (thn_r (thn_r (inblk_r (thn_r (ret1 (M:=[]) rfl rfl (⟨(congrArg Value.bool (decide_eq_false (by intro h; subst h; exact h10 rfl))),rfl⟩) (es [4] rfl)))))))
  refine W.skip (inblk_n (thn_n (Wl [(0,a),(1,b),(4,.bool false),(12,vint (xs.length:Int)),(13,vint (k:Int))] ?_)))
  refine W.region (Qu (OpQ.add rfl rfl rfl ⟨by omega,by omega⟩) (k:=?_))
  refine Qm (k:=?_)
  refine WN.nil (thn_n ⟨(k+1),by (show xs.length - (k+1) < xs.length - k); omega,⟨rfl,rfl,rfl,rfl,(Eq.trans (b:=some (vint ((k:Int)+1))) rfl (by first | rfl | (congr 2; omega))),trivial⟩,?_⟩)
  exact (es [2,0,1,0,0] rfl).trans (Ent.pure_in (by exact ⟨by omega,take_eq_succ (d:=0) (by omega) (by omega) hI6.2 (Decidable.of_not_not h10)⟩))
 obtain rfl:k=xs.length:=by omega
 refine W.exit (thn_x (thn_x (inblk_x (thn_n (Wl [(4,.bool false)] ?_)))))
 refine Sn (Qa (k:=Nl [(4,.bool true)] ?_))
 refine W.ret (ret1 (M:=[]) rfl rfl (⟨(congrArg Value.bool (decide_eq_true (by have:=hI6.2; rwa [List.take_length,List.take_of_length_le (by omega)] at this))),rfl⟩) (es [4] rfl))
theorem fits_fn (p:Policy) (mv:Value) (e:Entry) (nv:Value) (vv:Value) (wv:Value) (hm:p.members.length≤1000000) (hw:e.wraps.length≤1000000) (hpe:0≤p.epoch∧p.epoch≤1000):Fn Tryz.prog 205 #[.agg #[vint p.founder,vint p.epoch,mv],.agg #[vint e.kind,vint e.writer,vint e.seq,nv,vv,vint e.who,vint e.rights,vint e.epoch,wv]] [KM mv p.members,KB nv e.name,KB vv e.value,KW wv e.wraps] (fun v M=>.bool (decide (Spec.fits p e))=v∧M=[]):=by
 refine Fi 33 Tryz.func205 fun g R=>?_
 refine Ww [(0,.agg #[vint p.founder,vint p.epoch,mv]),(1,.agg #[vint e.kind,vint e.writer,vint e.seq,nv,vv,vint e.who,vint e.rights,vint e.epoch,wv])] [KM mv p.members,KB nv e.name,KB vv e.value,KW wv e.wraps,Al R] ?_
 refine Sn (Ru (OpRun.box rfl rfl rfl) ?_)
 rintro _ _ ⟨b1,rfl,rfl⟩
 refine Ru (OpRun.box rfl rfl rfl) ?_
 rintro _ _ ⟨b2,rfl,rfl⟩
 refine Qa (k:=Nw [(2,vptr b1 0),(3,vptr b2 0),(4,.bool false)] [Cl b2 33 (ecs e nv vv wv),Cl b1 53 [vint p.founder,vint p.epoch,mv],KM mv p.members,KB nv e.name,KB vv e.value,KW wv e.wraps,Al R] ?_)
 refine Sn (Qa (k:=Nl [(2,vptr b1 0),(3,vptr b2 0),(4,.bool false),(5,N0)] ?_))
 refine W.seq (Sn (Qu (Of (fa33_8 _ _)) (k:=?_)))
 refine Qu (Ol 0 ld31) (k:=?_)
 refine Nk 5 fun hl3=>?_
 refine Qu (OpQ.lenSl (i:=5) rfl rfl rfl (len31 _)) (k:=Qm (k:=Nl [(2,vptr b1 0),(3,vptr b2 0),(4,.bool false),(5,N0),(9,wv),(10,vint (e.wraps.length:Int)),(11,vint 0)] ?_))
 refine W.block (W.opens Opens.sl (i:=5) rfl (fun f4 _=>?_))
 refine We [Ka 227 2 wv e.wraps.length f4,Kr Enc.wrap f4 e.wraps,Cl b2 33 (ecs e nv vv wv),Cl b1 53 [vint p.founder,vint p.epoch,mv],KM mv p.members,KB nv e.name,KB vv e.value,Al R] ?_
 refine W.ent (Ent.rowNil (E:=3) (sz:=1)) ?_
 refine W.ent (Ent.know (m:=CellsRel (Enc.num) [] []) (fun _ _ _=>CellsRel.nil)) ?_
 refine W.ent (L':=[Kx Enc.num ([]) ([]),Rw 3 1 (N0) ([]),Ka 227 2 wv e.wraps.length f4,Kr Enc.wrap f4 e.wraps,Cl b2 33 (ecs e nv vv wv),Cl b1 53 [vint p.founder,vint p.epoch,mv],KM mv p.members,KB nv e.name,KB vv e.value,Al R]) (es [0,0,0,0,0,0,0,0,0,0] rfl) ?_
 refine W.loop (X:=Nat × Value × List Value) (fun x=>match x with | (k,o,cs)=>[(2,vptr b1 0),(3,vptr b2 0),(4,.bool false),(5,o),(9,wv),(10,vint (e.wraps.length:Int)),(11,vint (k:Int))]) (fun x=>match x with | (k,o,cs)=>[Asn.pure (k≤e.wraps.length∧cs.length≤k),Rw 3 1 o cs,Kx Enc.num cs ((e.wraps.take k).map Wrap.who),Ka 227 2 wv e.wraps.length f4,Kr Enc.wrap f4 e.wraps,Cl b2 33 (ecs e nv vv wv),Cl b1 53 [vint p.founder,vint p.epoch,mv],KM mv p.members,KB nv e.name,KB vv e.value,Al R]) (fun x=>match x with | (k,o,cs)=>e.wraps.length - k) (0,(N0),[]) ⟨rfl,rfl,rfl,rfl,rfl,rfl,rfl,trivial⟩ (((es [1,0,0,0,0,0,0,0,0,0] rfl).trans (Ent.of_eq (by rfl))).trans (Ent.pure_in (by exact ⟨Nat.zero_le _,by simp⟩))) (fun x=>?_)
 obtain ⟨k,o,cs⟩:=x
 show W _ _ _ _ _ [(2,vptr b1 0),(3,vptr b2 0),(4,.bool false),(5,o),(9,wv),(10,vint (e.wraps.length:Int)),(11,vint (k:Int))] [Asn.pure (k≤e.wraps.length∧cs.length≤k),Rw 3 1 o cs,Kx Enc.num cs ((e.wraps.take k).map Wrap.who),Ka 227 2 wv e.wraps.length f4,Kr Enc.wrap f4 e.wraps,Cl b2 33 (ecs e nv vv wv),Cl b1 53 [vint p.founder,vint p.epoch,mv],KM mv p.members,KB nv e.name,KB vv e.value,Al R]
 refine W.opens Opens.pure (i:=0) rfl (fun _ hI5=>?_)
 replace hI5:=hI5
 show W _ _ _ _ _ [(2,vptr b1 0),(3,vptr b2 0),(4,.bool false),(5,o),(9,wv),(10,vint (e.wraps.length:Int)),(11,vint (k:Int))] [Rw 3 1 o cs,Kx Enc.num cs ((e.wraps.take k).map Wrap.who),Ka 227 2 wv e.wraps.length f4,Kr Enc.wrap f4 e.wraps,Cl b2 33 (ecs e nv vv wv),Cl b1 53 [vint p.founder,vint p.epoch,mv],KM mv p.members,KB nv e.name,KB vv e.value,Al R]
 refine Sn (Qu (OpQ.lss rfl rfl rfl) (k:=Nl [(2,vptr b1 0),(3,vptr b2 0),(4,.bool false),(5,o),(9,wv),(10,vint (e.wraps.length:Int)),(11,vint (k:Int)),(12,.bool (decide ((k:Int) < (e.wraps.length:Int))))] ?_))
 refine W.seq (Cp rfl (fun h6=>?_) (fun h6=>?_))
 ·refine W.skip (thn_n (Wl [(2,vptr b1 0),(3,vptr b2 0),(4,.bool false),(5,o),(9,wv),(10,vint (e.wraps.length:Int)),(11,vint (k:Int))] ?_))
  refine W.seq (W.block (Sn (WN.opens (Opens.wrap (xs:=e.wraps) (i:=k) (by omega)) (i:=3) rfl (fun z he7=>?_))))
  refine Ne [KB z ((e.wraps.getD k default).box),Kr Enc.wrap f4 e.wraps,Rw 3 1 o cs,Kx Enc.num cs ((e.wraps.take k).map Wrap.who),Ka 227 2 wv e.wraps.length f4,Cl b2 33 (ecs e nv vv wv),Cl b1 53 [vint p.founder,vint p.epoch,mv],KM mv p.members,KB nv e.name,KB vv e.value,Al R] (Qu (OpQ.indexAddr (i:=4) (j:=k*2) rfl rfl rfl rfl (by omega) (by omega) (by omega) ix31) (k:=Qu (OpQ.loadSubN (i:=4) rfl rfl rfl he7 rfl (by omega) (by decide) ld227) (k:=?_)))
  refine Ru (OpRun.alloc rfl zv227 rfl) ?_
  rintro _ _ ⟨b8,rfl,rfl⟩
  refine Nf 1 fun ho9=>?_
  refine Rn (OpRun.store (i:=0) (vs:=[vint ((e.wraps.getD k default).who),z]) (cs':=[vint ((e.wraps.getD k default).who),z]) rfl rfl rfl sz227 rfl rfl (one_cons rfl (one_cons ho9 one_nil)) rfl (Lb rfl) rfl) (k:=Nw [(2,vptr b1 0),(3,vptr b2 0),(4,.bool false),(5,o),(7,vptr b8 0),(9,wv),(10,vint (e.wraps.length:Int)),(11,vint (k:Int))] [Cl b8 227 [vint ((e.wraps.getD k default).who),z],KB z ((e.wraps.getD k default).box),Kr Enc.wrap f4 e.wraps,Rw 3 1 o cs,Kx Enc.num cs ((e.wraps.take k).map Wrap.who),Ka 227 2 wv e.wraps.length f4,Cl b2 33 (ecs e nv vv wv),Cl b1 53 [vint p.founder,vint p.epoch,mv],KM mv p.members,KB nv e.name,KB vv e.value,Al R] ?_)
  refine W.region (Qm (k:=?_))
  refine Qu (Of (fa227_0 _ _)) (k:=Qu (Ol 0 ld3) (k:=?_))
  refine Ru (OpRun.buildSlice (qs:=[(0,vint ((e.wraps.getD k default).who))]) (cs:=[vint ((e.wraps.getD k default).who)]) (E:=3) (sz:=1) rfl ⟨rfl,rfl,trivial⟩ (fun _=>by kernel_rfl) (one_cons rfl one_nil) rfl (by decide)) ?_
  rintro v10 _ ⟨h11a,h11b,h11c,rfl⟩
  refine WN.ent (Ent.know (m:=CellsRel Enc.num ([vint ((e.wraps.getD k default).who)]) ([(e.wraps.getD k default).who])) (fun K h s=>(CellsRel.cons (cs:=[vint ((e.wraps.getD k default).who)]) (ds:=[]) rfl Enc.num_mk CellsRel.nil))) ?_
  refine Ne [Kx Enc.num ([vint ((e.wraps.getD k default).who)]) ([(e.wraps.getD k default).who]),Rw 3 1 v10 ([vint ((e.wraps.getD k default).who)]),Cl b8 227 [vint ((e.wraps.getD k default).who),z],KB z ((e.wraps.getD k default).box),Kr Enc.wrap f4 e.wraps,Rw 3 1 o cs,Kx Enc.num cs ((e.wraps.take k).map Wrap.who),Ka 227 2 wv e.wraps.length f4,Cl b2 33 (ecs e nv vv wv),Cl b1 53 [vint p.founder,vint p.epoch,mv],KM mv p.members,KB nv e.name,KB vv e.value,Al R] ?_
  refine Nr 5 fun hr14a hr14b hr14c=>?_
  try simp only [La,Lc,Ln] at hr14a
  refine Nr 1 fun hr15a hr15b hr15c=>?_
  try simp only [La,Lc,Ln] at hr15a
  refine Ru (OpRun.appendRow (i:=5) (j:=1) rfl rfl rfl rfl rfl Tryz.underlying160 (inf:=Tryz.t3) (by kernel_rfl) rfl rfl rfl (by_:=8) rfl (by first | omega | (simp; omega)) (by first | omega | (simp; omega))) ?_
  rintro v12 _ ⟨h13a,h13b,rfl⟩
  refine WN.ent (Ent.know (m:=CellsRel Enc.num (cs++([vint ((e.wraps.getD k default).who)])) (((e.wraps.take k).map Wrap.who)++([(e.wraps.getD k default).who]))) (fun K h s=>CellsRel.append (e:=Enc.num) (cs:=cs) (ds:=[vint ((e.wraps.getD k default).who)]) (xs:=(e.wraps.take k).map Wrap.who) (ys:=[(e.wraps.getD k default).who]) (kat 5 s rfl) (kat 1 s rfl))) ?_
  refine Ne [Kx Enc.num (cs++([vint ((e.wraps.getD k default).who)])) (((e.wraps.take k).map Wrap.who)++([(e.wraps.getD k default).who])),Rw 3 1 v12 (cs++([vint ((e.wraps.getD k default).who)])),Kx Enc.num ([vint ((e.wraps.getD k default).who)]) ([(e.wraps.getD k default).who]),Cl b8 227 [vint ((e.wraps.getD k default).who),z],KB z ((e.wraps.getD k default).box),Kr Enc.wrap f4 e.wraps,Kx Enc.num cs ((e.wraps.take k).map Wrap.who),Ka 227 2 wv e.wraps.length f4,Cl b2 33 (ecs e nv vv wv),Cl b1 53 [vint p.founder,vint p.epoch,mv],KM mv p.members,KB nv e.name,KB vv e.value,Al R] (Qa (k:=?_))
  refine WN.nil (inblk_n (thn_n (Wl [(2,vptr b1 0),(3,vptr b2 0),(4,.bool false),(5,v12),(9,wv),(10,vint (e.wraps.length:Int)),(11,vint (k:Int))] ?_)))
  refine W.region (Qu (OpQ.add rfl rfl rfl ⟨by omega,by omega⟩) (k:=?_))
  refine Qm (k:=?_)
  refine WN.nil (thn_n ⟨(k+1,v12,cs++([vint ((e.wraps.getD k default).who)])),by (show e.wraps.length - (k+1) < e.wraps.length - k); omega,⟨rfl,rfl,rfl,rfl,rfl,rfl,(Eq.trans (b:=some (vint ((k:Int)+1))) rfl (by first | rfl | (congr 2; omega))),trivial⟩,?_⟩)
  exact ((es [1,0,5,3,4,4,4,4,4,4] rfl).trans (Ent.of_eq (by rw [Spec.map_who_succ (by omega)]))).trans (Ent.pure_in (by exact ⟨by omega,by have h9:=hI5.2; simp; omega⟩))
 obtain rfl:k=e.wraps.length:=by omega
 refine W.exit (thn_x (thn_x (inblk_x (thn_n (Ww [(2,vptr b1 0),(3,vptr b2 0),(4,.bool false),(5,o)] [Rw 3 1 o cs,Kx Enc.num cs ((e.wraps.take e.wraps.length).map Wrap.who),Ka 227 2 wv e.wraps.length f4,Kr Enc.wrap f4 e.wraps,Cl b2 33 (ecs e nv vv wv),Cl b1 53 [vint p.founder,vint p.epoch,mv],KM mv p.members,KB nv e.name,KB vv e.value,Al R] ?_)))))
 refine Sn (Qu (Of (fa33_7 _ _)) (k:=Qu (Ol 4 ld3) (k:=Qu (Of (fa53_1 _ _)) (k:=Qu (Ol 5 ld3) (k:=Qu (OpQ.add rfl rfl rfl ⟨by omega,by omega⟩) (k:=?_))))))
 by_cases h16:e.epoch=p.epoch+1
 ·refine Qu (OpQ.decT (OpQ.eql rfl rfl rfl) h16) (k:=Qm (k:=Qm (k:=Qu (OpQ.loadN (i:=5) rfl rfl ld53 rfl rfl rfl) (k:=?_))))
  refine Wc [.tmp 29] [.agg #[vint p.founder,vint p.epoch,mv]] Tryz.call130 (Readers_fn p mv (by first | omega | (simp; done) | (simp; omega) | (simp at *; omega))) ((ed 6 rfl).trans (ep [0] rfl)) ?_
  rintro _ _ ⟨z17,rfl,rfl⟩
  refine WN.freezeRel (e:=Enc.num) (i:=1) (j:=1) (Lb rfl) rfl rfl ?_
  refine Ne [Kk (Sl Enc.num 3 o ((e.wraps.take e.wraps.length).map Wrap.who)),Kk (Sl Enc.num 3 z17 (Spec.readers p)),Kx Enc.num cs ((e.wraps.take e.wraps.length).map Wrap.who),Ka 227 2 wv e.wraps.length f4,Kr Enc.wrap f4 e.wraps,Cl b2 33 (ecs e nv vv wv),Cl b1 53 [vint p.founder,vint p.epoch,mv],KM mv p.members,KB nv e.name,KB vv e.value,Al R] ?_
  refine Wc [.tmp 28,.tmp 30] [o,z17] Tryz.call285 (EqualN_fn o z17 ((e.wraps.take e.wraps.length).map Wrap.who) (Spec.readers p)) ((ed 0 rfl).trans ((ed 2 rfl).trans (ep [1,0] rfl))) ?_
  rintro _ _ ⟨rfl,rfl⟩
  refine Qt (k:=Qa (k:=Nw [(4,.bool (decide (((e.wraps.take e.wraps.length).map Wrap.who)=(Spec.readers p))))] [Kk (Sl Enc.num 3 o ((e.wraps.take e.wraps.length).map Wrap.who)),Kk (Sl Enc.num 3 z17 (Spec.readers p)),Kx Enc.num cs ((e.wraps.take e.wraps.length).map Wrap.who),Ka 227 2 wv e.wraps.length f4,Kr Enc.wrap f4 e.wraps,Cl b2 33 (ecs e nv vv wv),Cl b1 53 [vint p.founder,vint p.epoch,mv],KM mv p.members,KB nv e.name,KB vv e.value,Al R] ?_))
  refine W.ret (ret1 (M:=[]) rfl rfl (⟨(by unfold Spec.fits; first | exact (bool_F (by omega)).symm | (rw [List.take_length]; exact bool_dec (by constructor; (exact fun h=>h.2); (exact fun h=>⟨by omega,h⟩)))),rfl⟩) (es [10] rfl))
 refine Qu (OpQ.decF (OpQ.eql rfl rfl rfl) h16) (k:=Qm (k:=Qs (k:=Qs (k:=Qs (k:=Qs (k:=Qf (k:=Qa (k:=Nl [(4,.bool false)] ?_))))))))
 refine Wr 0 fun hr18a hr18b hr18c=>?_
 try simp only [La,Lc,Ln] at hr18a
 refine W.ret (ret1 (M:=[]) rfl rfl (⟨(by unfold Spec.fits; first | exact (bool_F (by omega)).symm | (rw [List.take_length]; exact bool_dec (by constructor; (exact fun h=>h.2); (exact fun h=>⟨by omega,h⟩)))),rfl⟩) (es [9] rfl))
theorem May_fn (p:Policy) (mv:Value) (e:Entry) (nv:Value) (vv:Value) (wv:Value) (hm:p.members.length≤1000000):Fn Tryz.prog 120 #[.agg #[vint p.founder,vint p.epoch,mv],.agg #[vint e.kind,vint e.writer,vint e.seq,nv,vv,vint e.who,vint e.rights,vint e.epoch,wv]] [KM mv p.members,KB nv e.name,KB vv e.value,KW wv e.wraps] (fun v M=>vint (Spec.may p e)=v∧M=[]):=by
 refine Fi 48 Tryz.func120 fun g R=>?_
 refine Ww [(0,.agg #[vint p.founder,vint p.epoch,mv]),(1,.agg #[vint e.kind,vint e.writer,vint e.seq,nv,vv,vint e.who,vint e.rights,vint e.epoch,wv])] [KM mv p.members,KB nv e.name,KB vv e.value,KW wv e.wraps,Al R] ?_
 refine Sn (Ru (OpRun.box rfl rfl rfl) ?_)
 rintro _ _ ⟨b1,rfl,rfl⟩
 refine Ru (OpRun.box rfl rfl rfl) ?_
 rintro _ _ ⟨b2,rfl,rfl⟩
 refine Qa (k:=Nw [(2,vptr b1 0),(3,vptr b2 0),(4,vint 0)] [Cl b2 33 (ecs e nv vv wv),Cl b1 53 [vint p.founder,vint p.epoch,mv],KM mv p.members,KB nv e.name,KB vv e.value,KW wv e.wraps,Al R] ?_)
 refine W.seq (Sn (Qu (OpQ.loadN (i:=1) rfl rfl ld53 rfl rfl rfl) (k:=?_)))
 refine Wc [.tmp 6] [.agg #[vint p.founder,vint p.epoch,mv]] Tryz.call201 (PRight_fn p mv) ((ed 2 rfl).trans (ep [0] rfl)) ?_
 rintro _ _ ⟨rfl,rfl⟩
 refine Qu (OpQ.not rfl rfl) (k:=Qm (k:=?_))
 cases h3:!(Spec.policyOk p)
 ·refine Qu (OpQ.loadN (i:=0) rfl rfl ld33 rfl rfl rfl) (k:=?_)
  refine Wc [.tmp 10] [.agg #[vint e.kind,vint e.writer,vint e.seq,nv,vv,vint e.who,vint e.rights,vint e.epoch,wv]] Tryz.call204 (Right_fn e nv vv wv) ((ed 3 rfl).trans ((ed 5 rfl).trans ((ed 7 rfl).trans (ep [2,1,0] rfl)))) ?_
  rintro _ _ ⟨rfl,rfl⟩
  refine Qu (OpQ.not rfl rfl) (k:=Qf (k:=Nw [(2,vptr b1 0),(3,vptr b2 0),(4,vint 0),(13,.bool (!(Spec.right e)))] [Cl b2 33 (ecs e nv vv wv),Cl b1 53 [vint p.founder,vint p.epoch,mv],KM mv p.members,KB nv e.name,KB vv e.value,KW wv e.wraps,Al R] ?_))
  refine W.cond rfl (fun h4=>?_) (fun h4=>?_)
  ·refine Sn (Qa (k:=Nl [(2,vptr b1 0),(3,vptr b2 0),(4,vint 10)] ?_))
   refine W.ret (thn_r (ret1 (M:=[]) rfl rfl (⟨(by unfold Spec.may; rw [if_pos (by simp_all)]),rfl⟩) (es [6] rfl)))
  refine W.skip (thn_n (Wl [(2,vptr b1 0),(3,vptr b2 0),(4,vint 0)] ?_))
  refine W.seq (W.region ?_)
  have hpo:Spec.policyOk p=true:=(by simp_all)
  have hro:Spec.right e=true:=(by simp_all)
  have hww:=Spec.right_wraps hro; have hke:=Spec.right_kind hro; have hpe:=Spec.policyOk_epoch hpo
  refine Qu (OpQ.loadN (i:=1) rfl rfl ld53 rfl rfl rfl) (k:=Qu (Of (fa33_1 _ _)) (k:=Qu (Ol 0 ld3) (k:=?_)))
  refine Wc [.tmp 14,.tmp 16] [.agg #[vint p.founder,vint p.epoch,mv],vint e.writer] Tryz.call60 (Rights_fn p mv e.writer) ((ed 2 rfl).trans (ep [0] rfl)) ?_
  rintro _ _ ⟨rfl,rfl⟩
  refine Qa (k:=Nw [(2,vptr b1 0),(3,vptr b2 0),(4,vint 0),(5,vint (Spec.rightsOf p.members e.writer))] [Cl b2 33 (ecs e nv vv wv),Cl b1 53 [vint p.founder,vint p.epoch,mv],KM mv p.members,KB nv e.name,KB vv e.value,KW wv e.wraps,Al R] ?_)
  refine W.seq (Sn (Qu (Of (fa33_0 _ _)) (k:=?_)))
  refine Qu (Ol 0 ld3) (k:=Nl [(2,vptr b1 0),(3,vptr b2 0),(4,vint 0),(5,vint (Spec.rightsOf p.members e.writer)),(19,vint e.kind)] ?_)
  refine W.block (W.seq (Sn (Qu (OpQ.eql rfl rfl rfl) (k:=?_))))
  refine Qa (k:=Nl [(2,vptr b1 0),(3,vptr b2 0),(4,vint 0),(5,vint (Spec.rightsOf p.members e.writer)),(19,vint e.kind),(20,.bool (decide (e.kind=1)))] ?_)
  refine Cp rfl (fun h5=>?_) (fun h5=>?_)
  ·refine W.skip (thn_n (Cp rfl (fun h6=>?_) (fun h6=>absurd h5 h6)))
   refine W.seq (Sn (Qm (k:=?_)))
   refine Qu (OpQ.and rfl rfl rfl) (k:=Qu (OpQ.eql rfl rfl rfl) (k:=Nl [(2,vptr b1 0),(3,vptr b2 0),(4,vint 0),(5,vint (Spec.rightsOf p.members e.writer)),(25,.bool (decide (bits .and .i64 (Spec.rightsOf p.members e.writer) 6=0)))] ?_))
   refine Cp rfl (fun h7=>?_) (fun h7=>?_)
   ·refine Sn (Qa (k:=Nl [(2,vptr b1 0),(3,vptr b2 0),(4,vint 30),(5,vint (Spec.rightsOf p.members e.writer))] ?_))
    refine W.ret (thn_r (inblk_r (thn_r (ret1 (M:=[]) rfl rfl (⟨(by unfold Spec.may; rw [if_neg (by simp [hpo,hro])]; rw [if_pos (by omega),if_pos h7]),rfl⟩) (es [6] rfl)))))
   refine W.skip (thn_n (Wl [(2,vptr b1 0),(3,vptr b2 0),(4,vint 0),(5,vint (Spec.rightsOf p.members e.writer))] ?_))
   refine Sn (Qa (k:=Nl [(2,vptr b1 0),(3,vptr b2 0),(4,vint 0),(5,vint (Spec.rightsOf p.members e.writer))] ?_))
   refine W.ret (inblk_r (thn_r (ret1 (M:=[]) rfl rfl (⟨(by unfold Spec.may; rw [if_neg (by simp [hpo,hro])]; rw [if_pos (by omega),if_neg h7]),rfl⟩) (es [6] rfl))))
  refine W.region (Qu (OpQ.eql rfl rfl rfl) (k:=?_))
  refine Qa (k:=Nl [(2,vptr b1 0),(3,vptr b2 0),(4,vint 0),(5,vint (Spec.rightsOf p.members e.writer)),(19,vint e.kind),(20,.bool (decide (e.kind=2)))] ?_)
  refine Cp rfl (fun h8=>?_) (fun h8=>?_)
  ·refine W.seq (Sn (Qm (k:=?_)))
   refine Qu (OpQ.and rfl rfl rfl) (k:=Qu (OpQ.eql rfl rfl rfl) (k:=Nl [(2,vptr b1 0),(3,vptr b2 0),(4,vint 0),(5,vint (Spec.rightsOf p.members e.writer)),(25,.bool (decide (bits .and .i64 (Spec.rightsOf p.members e.writer) 6=0)))] ?_))
   refine Cp rfl (fun h9=>?_) (fun h9=>?_)
   ·refine Sn (Qa (k:=Nl [(2,vptr b1 0),(3,vptr b2 0),(4,vint 30),(5,vint (Spec.rightsOf p.members e.writer))] ?_))
    refine W.ret (thn_r (inblk_r (thn_r (ret1 (M:=[]) rfl rfl (⟨(by unfold Spec.may; rw [if_neg (by simp [hpo,hro])]; rw [if_pos (by omega),if_pos h9]),rfl⟩) (es [6] rfl)))))
   refine W.skip (thn_n (Wl [(2,vptr b1 0),(3,vptr b2 0),(4,vint 0),(5,vint (Spec.rightsOf p.members e.writer))] ?_))
   refine Sn (Qa (k:=Nl [(2,vptr b1 0),(3,vptr b2 0),(4,vint 0),(5,vint (Spec.rightsOf p.members e.writer))] ?_))
   refine W.ret (inblk_r (thn_r (ret1 (M:=[]) rfl rfl (⟨(by unfold Spec.may; rw [if_neg (by simp [hpo,hro])]; rw [if_pos (by omega),if_neg h9]),rfl⟩) (es [6] rfl))))
  refine W.seq (Sn (Qu (OpQ.eql rfl rfl rfl) (k:=?_)))
  refine Qa (k:=Nl [(2,vptr b1 0),(3,vptr b2 0),(4,vint 0),(5,vint (Spec.rightsOf p.members e.writer)),(19,vint e.kind),(26,.bool (decide (e.kind=3)))] ?_)
  refine Cp rfl (fun h10=>?_) (fun h10=>?_)
  ·refine W.skip (thn_n (Wl [(2,vptr b1 0),(3,vptr b2 0),(4,vint 0),(5,vint (Spec.rightsOf p.members e.writer)),(26,.bool (decide (e.kind=3)))] ?_))
   refine Cp rfl (fun h11=>?_) (fun h11=>absurd h10 h11)
   refine Sn (Qu (Of (fa33_5 _ _)) (k:=Qu (Ol 0 ld3) (k:=Qu (Of (fa53_0 _ _)) (k:=Qu (Ol 1 ld3) (k:=Qu (OpQ.eql rfl rfl rfl) (k:=Nl [(2,vptr b1 0),(3,vptr b2 0),(4,vint 0),(5,vint (Spec.rightsOf p.members e.writer)),(33,.bool (decide (e.who=p.founder)))] ?_))))))
   refine Cp rfl (fun h12=>?_) (fun h12=>?_)
   ·refine Sn (Qa (k:=Nl [(2,vptr b1 0),(3,vptr b2 0),(4,vint 30),(5,vint (Spec.rightsOf p.members e.writer))] ?_))
    refine W.ret (inblk_r (thn_r (ret1 (M:=[]) rfl rfl (⟨(by unfold Spec.may; rw [if_neg (by simp [hpo,hro])]; rw [if_neg (by omega)]; rw [if_pos (by omega)]),rfl⟩) (es [6] rfl))))
   refine W.skip (inblk_n (thn_n (Wl [(2,vptr b1 0),(3,vptr b2 0),(4,vint 0),(5,vint (Spec.rightsOf p.members e.writer))] ?_)))
   refine W.seq (W.block (Sn (Qm (k:=?_))))
   refine Qu (OpQ.and rfl rfl rfl) (k:=Qu (OpQ.eql rfl rfl rfl) (k:=Qa (k:=Nl [(2,vptr b1 0),(3,vptr b2 0),(4,vint 0),(34,.bool (decide (bits .and .i64 (Spec.rightsOf p.members e.writer) 4=0)))] ?_)))
   refine Cp rfl (fun h13=>?_) (fun h13=>?_)
   ·refine Sn (Qa (k:=Nl [(4,vint 30)] ?_))
    refine W.ret (inblk_r (thn_r (ret1 (M:=[]) rfl rfl (⟨(by unfold Spec.may; rw [if_neg (by simp [hpo,hro])]; rw [if_neg (by omega)]; rw [if_neg (by omega),if_pos h13]),rfl⟩) (es [6] rfl))))
   refine Sn (Qu (Of (fa33_0 _ _)) (k:=Qu (Ol 0 ld3) (k:=?_)))
   by_cases h14:e.kind=5
   ·refine Qu (OpQ.decT (OpQ.eql rfl rfl rfl) h14) (k:=Qm (k:=Qu (OpQ.loadN (i:=1) rfl rfl ld53 rfl rfl rfl) (k:=Qu (OpQ.loadN (i:=0) rfl rfl ld33 rfl rfl rfl) (k:=?_))))
    refine Wc [.tmp 43,.tmp 44] [.agg #[vint p.founder,vint p.epoch,mv],.agg #[vint e.kind,vint e.writer,vint e.seq,nv,vv,vint e.who,vint e.rights,vint e.epoch,wv]] Tryz.call205 (fits_fn p mv e nv vv wv (by first | omega | (simp; done) | (simp; omega) | (simp at *; omega)) (by first | omega | (simp; done) | (simp; omega) | (simp at *; omega)) (by first | omega | (simp; done) | (simp; omega) | (simp at *; omega))) ((ed 2 rfl).trans ((ed 4 rfl).trans ((ed 6 rfl).trans ((ed 8 rfl).trans (ep [3,2,1,0] rfl))))) ?_
    rintro _ _ ⟨rfl,rfl⟩
    refine Qu (OpQ.notP rfl rfl) (k:=Qt (k:=Qa (k:=Nw [(4,vint 0),(38,.bool (decide (¬ (Spec.fits p e))))] [Cl b2 33 (ecs e nv vv wv),Cl b1 53 [vint p.founder,vint p.epoch,mv],KM mv p.members,KB nv e.name,KB vv e.value,KW wv e.wraps,Al R] ?_)))
    refine Cp rfl (fun h15=>?_) (fun h15=>?_)
    ·refine Sn (Qa (k:=Nl [(4,vint 34)] ?_))
     refine W.ret (inblk_r (thn_r (ret1 (M:=[]) rfl rfl (⟨(by unfold Spec.may; rw [if_neg (by simp [hpo,hro])]; rw [if_neg (by omega)]; rw [if_neg (by omega),if_neg h13]; rw [if_pos ⟨by omega,h15⟩]),rfl⟩) (es [6] rfl))))
    refine W.skip (inblk_n (thn_n (Wl [(4,vint 0)] ?_)))
    refine Sn (Qa (k:=Nl [(4,vint 0)] ?_))
    refine W.ret (ret1 (M:=[]) rfl rfl (⟨(by unfold Spec.may; rw [if_neg (by simp [hpo,hro])]; rw [if_neg (by omega)]; rw [if_neg (by omega),if_neg h13]; rw [if_neg (fun h=>h15 h.2)]),rfl⟩) (es [6] rfl))
   refine Qu (OpQ.decF (OpQ.eql rfl rfl rfl) h14) (k:=Qm (k:=Qs (k:=Qs (k:=Qs (k:=Qs (k:=Qf (k:=Qa (k:=Nl [(4,vint 0),(38,.bool false)] ?_))))))))
   refine W.condF rfl ?_
   refine W.skip (inblk_n (thn_n (Wl [(4,vint 0)] ?_)))
   refine Sn (Qa (k:=Nl [(4,vint 0)] ?_))
   refine W.ret (ret1 (M:=[]) rfl rfl (⟨(by unfold Spec.may; rw [if_neg (by simp [hpo,hro])]; rw [if_neg (by omega)]; rw [if_neg (by omega),if_neg h13]; rw [if_neg (by omega)]),rfl⟩) (es [6] rfl))
  refine W.region (Qu (OpQ.eql rfl rfl rfl) (k:=?_))
  refine Qa (k:=Nl [(2,vptr b1 0),(3,vptr b2 0),(4,vint 0),(5,vint (Spec.rightsOf p.members e.writer)),(26,.bool (decide (e.kind=4)))] ?_)
  refine Cp rfl (fun h16=>?_) (fun h16=>?_)
  ·refine Sn (Qu (Of (fa33_5 _ _)) (k:=Qu (Ol 0 ld3) (k:=Qu (Of (fa53_0 _ _)) (k:=Qu (Ol 1 ld3) (k:=Qu (OpQ.eql rfl rfl rfl) (k:=Nl [(2,vptr b1 0),(3,vptr b2 0),(4,vint 0),(5,vint (Spec.rightsOf p.members e.writer)),(33,.bool (decide (e.who=p.founder)))] ?_))))))
   refine Cp rfl (fun h17=>?_) (fun h17=>?_)
   ·refine Sn (Qa (k:=Nl [(2,vptr b1 0),(3,vptr b2 0),(4,vint 30),(5,vint (Spec.rightsOf p.members e.writer))] ?_))
    refine W.ret (inblk_r (thn_r (ret1 (M:=[]) rfl rfl (⟨(by unfold Spec.may; rw [if_neg (by simp [hpo,hro])]; rw [if_neg (by omega)]; rw [if_pos (by omega)]),rfl⟩) (es [6] rfl))))
   refine W.skip (inblk_n (thn_n (Wl [(2,vptr b1 0),(3,vptr b2 0),(4,vint 0),(5,vint (Spec.rightsOf p.members e.writer))] ?_)))
   refine W.seq (W.block (Sn (Qm (k:=?_))))
   refine Qu (OpQ.and rfl rfl rfl) (k:=Qu (OpQ.eql rfl rfl rfl) (k:=Qa (k:=Nl [(2,vptr b1 0),(3,vptr b2 0),(4,vint 0),(34,.bool (decide (bits .and .i64 (Spec.rightsOf p.members e.writer) 4=0)))] ?_)))
   refine Cp rfl (fun h18=>?_) (fun h18=>?_)
   ·refine Sn (Qa (k:=Nl [(4,vint 30)] ?_))
    refine W.ret (inblk_r (thn_r (ret1 (M:=[]) rfl rfl (⟨(by unfold Spec.may; rw [if_neg (by simp [hpo,hro])]; rw [if_neg (by omega)]; rw [if_neg (by omega),if_pos h18]),rfl⟩) (es [6] rfl))))
   refine Sn (Qu (Of (fa33_0 _ _)) (k:=Qu (Ol 0 ld3) (k:=?_)))
   by_cases h19:e.kind=5
   ·refine Qu (OpQ.decT (OpQ.eql rfl rfl rfl) h19) (k:=Qm (k:=Qu (OpQ.loadN (i:=1) rfl rfl ld53 rfl rfl rfl) (k:=Qu (OpQ.loadN (i:=0) rfl rfl ld33 rfl rfl rfl) (k:=?_))))
    refine Wc [.tmp 43,.tmp 44] [.agg #[vint p.founder,vint p.epoch,mv],.agg #[vint e.kind,vint e.writer,vint e.seq,nv,vv,vint e.who,vint e.rights,vint e.epoch,wv]] Tryz.call205 (fits_fn p mv e nv vv wv (by first | omega | (simp; done) | (simp; omega) | (simp at *; omega)) (by first | omega | (simp; done) | (simp; omega) | (simp at *; omega)) (by first | omega | (simp; done) | (simp; omega) | (simp at *; omega))) ((ed 2 rfl).trans ((ed 4 rfl).trans ((ed 6 rfl).trans ((ed 8 rfl).trans (ep [3,2,1,0] rfl))))) ?_
    rintro _ _ ⟨rfl,rfl⟩
    refine Qu (OpQ.notP rfl rfl) (k:=Qt (k:=Qa (k:=Nw [(4,vint 0),(38,.bool (decide (¬ (Spec.fits p e))))] [Cl b2 33 (ecs e nv vv wv),Cl b1 53 [vint p.founder,vint p.epoch,mv],KM mv p.members,KB nv e.name,KB vv e.value,KW wv e.wraps,Al R] ?_)))
    refine Cp rfl (fun h20=>?_) (fun h20=>?_)
    ·refine Sn (Qa (k:=Nl [(4,vint 34)] ?_))
     refine W.ret (inblk_r (thn_r (ret1 (M:=[]) rfl rfl (⟨(by unfold Spec.may; rw [if_neg (by simp [hpo,hro])]; rw [if_neg (by omega)]; rw [if_neg (by omega),if_neg h18]; rw [if_pos ⟨by omega,h20⟩]),rfl⟩) (es [6] rfl))))
    refine W.skip (inblk_n (thn_n (Wl [(4,vint 0)] ?_)))
    refine Sn (Qa (k:=Nl [(4,vint 0)] ?_))
    refine W.ret (ret1 (M:=[]) rfl rfl (⟨(by unfold Spec.may; rw [if_neg (by simp [hpo,hro])]; rw [if_neg (by omega)]; rw [if_neg (by omega),if_neg h18]; rw [if_neg (fun h=>h20 h.2)]),rfl⟩) (es [6] rfl))
   refine Qu (OpQ.decF (OpQ.eql rfl rfl rfl) h19) (k:=Qm (k:=Qs (k:=Qs (k:=Qs (k:=Qs (k:=Qf (k:=Qa (k:=Nl [(4,vint 0),(38,.bool false)] ?_))))))))
   refine W.condF rfl ?_
   refine W.skip (inblk_n (thn_n (Wl [(4,vint 0)] ?_)))
   refine Sn (Qa (k:=Nl [(4,vint 0)] ?_))
   refine W.ret (ret1 (M:=[]) rfl rfl (⟨(by unfold Spec.may; rw [if_neg (by simp [hpo,hro])]; rw [if_neg (by omega)]; rw [if_neg (by omega),if_neg h18]; rw [if_neg (by omega)]),rfl⟩) (es [6] rfl))
  refine W.skip (inblk_n (thn_n (Wl [(2,vptr b1 0),(3,vptr b2 0),(4,vint 0),(5,vint (Spec.rightsOf p.members e.writer))] ?_)))
  refine W.seq (W.block (Sn (Qm (k:=?_))))
  refine Qu (OpQ.and rfl rfl rfl) (k:=Qu (OpQ.eql rfl rfl rfl) (k:=Qa (k:=Nl [(2,vptr b1 0),(3,vptr b2 0),(4,vint 0),(34,.bool (decide (bits .and .i64 (Spec.rightsOf p.members e.writer) 4=0)))] ?_)))
  refine Cp rfl (fun h21=>?_) (fun h21=>?_)
  ·refine Sn (Qa (k:=Nl [(4,vint 30)] ?_))
   refine W.ret (inblk_r (thn_r (ret1 (M:=[]) rfl rfl (⟨(by unfold Spec.may; rw [if_neg (by simp [hpo,hro])]; rw [if_neg (by omega)]; rw [if_neg (by omega),if_pos h21]),rfl⟩) (es [6] rfl))))
  refine Sn (Qu (Of (fa33_0 _ _)) (k:=Qu (Ol 0 ld3) (k:=?_)))
  by_cases h22:e.kind=5
  ·refine Qu (OpQ.decT (OpQ.eql rfl rfl rfl) h22) (k:=Qm (k:=Qu (OpQ.loadN (i:=1) rfl rfl ld53 rfl rfl rfl) (k:=Qu (OpQ.loadN (i:=0) rfl rfl ld33 rfl rfl rfl) (k:=?_))))
   refine Wc [.tmp 43,.tmp 44] [.agg #[vint p.founder,vint p.epoch,mv],.agg #[vint e.kind,vint e.writer,vint e.seq,nv,vv,vint e.who,vint e.rights,vint e.epoch,wv]] Tryz.call205 (fits_fn p mv e nv vv wv (by first | omega | (simp; done) | (simp; omega) | (simp at *; omega)) (by first | omega | (simp; done) | (simp; omega) | (simp at *; omega)) (by first | omega | (simp; done) | (simp; omega) | (simp at *; omega))) ((ed 2 rfl).trans ((ed 4 rfl).trans ((ed 6 rfl).trans ((ed 8 rfl).trans (ep [3,2,1,0] rfl))))) ?_
   rintro _ _ ⟨rfl,rfl⟩
   refine Qu (OpQ.notP rfl rfl) (k:=Qt (k:=Qa (k:=Nw [(4,vint 0),(38,.bool (decide (¬ (Spec.fits p e))))] [Cl b2 33 (ecs e nv vv wv),Cl b1 53 [vint p.founder,vint p.epoch,mv],KM mv p.members,KB nv e.name,KB vv e.value,KW wv e.wraps,Al R] ?_)))
   refine Cp rfl (fun h23=>?_) (fun h23=>?_)
   ·refine Sn (Qa (k:=Nl [(4,vint 34)] ?_))
    refine W.ret (inblk_r (thn_r (ret1 (M:=[]) rfl rfl (⟨(by unfold Spec.may; rw [if_neg (by simp [hpo,hro])]; rw [if_neg (by omega)]; rw [if_neg (by omega),if_neg h21]; rw [if_pos ⟨by omega,h23⟩]),rfl⟩) (es [6] rfl))))
   refine W.skip (inblk_n (thn_n (Wl [(4,vint 0)] ?_)))
   refine Sn (Qa (k:=Nl [(4,vint 0)] ?_))
   refine W.ret (ret1 (M:=[]) rfl rfl (⟨(by unfold Spec.may; rw [if_neg (by simp [hpo,hro])]; rw [if_neg (by omega)]; rw [if_neg (by omega),if_neg h21]; rw [if_neg (fun h=>h23 h.2)]),rfl⟩) (es [6] rfl))
  refine Qu (OpQ.decF (OpQ.eql rfl rfl rfl) h22) (k:=Qm (k:=Qs (k:=Qs (k:=Qs (k:=Qs (k:=Qf (k:=Qa (k:=Nl [(4,vint 0),(38,.bool false)] ?_))))))))
  refine W.condF rfl ?_
  refine W.skip (inblk_n (thn_n (Wl [(4,vint 0)] ?_)))
  refine Sn (Qa (k:=Nl [(4,vint 0)] ?_))
  refine W.ret (ret1 (M:=[]) rfl rfl (⟨(by unfold Spec.may; rw [if_neg (by simp [hpo,hro])]; rw [if_neg (by omega)]; rw [if_neg (by omega),if_neg h21]; rw [if_neg (by omega)]),rfl⟩) (es [6] rfl))
 refine Qs (k:=Qs (k:=Qs (k:=Qt (k:=Nw [(2,vptr b1 0),(3,vptr b2 0),(4,vint 0),(13,.bool true)] [Cl b2 33 (ecs e nv vv wv),Cl b1 53 [vint p.founder,vint p.epoch,mv],KM mv p.members,KB nv e.name,KB vv e.value,KW wv e.wraps,Al R] ?_))))
 refine W.condT rfl ?_
 refine Sn (Qa (k:=Nl [(2,vptr b1 0),(3,vptr b2 0),(4,vint 10)] ?_))
 refine W.ret (thn_r (ret1 (M:=[]) rfl rfl (⟨(by unfold Spec.may; rw [if_pos (by simp_all)]),rfl⟩) (es [6] rfl)))
end Go.Lk
open Go.Proofs
namespace Go.Lk
def mcells (ms:List Member):List Value:=ms.flatMap fun m=>[vint m.who,vint m.rights]
theorem mcells_length (ms:List Member):(mcells ms).length=ms.length*2:=by
  induction ms with
  | nil=>rfl
  | cons m ms ih=>simp only [mcells,List.flatMap_cons,List.length_append,List.length_cons,List.length_nil] at ih ⊢; omega
theorem mcells_at:∀ {ms:List Member} {i:Nat} {m:Member},ms[i]? = some m→((mcells ms).drop (i*2)).take 2=[vint m.who,vint m.rights]
  | u :: ms,0,m,h=>by
    simp at h; subst h; rfl
  | u :: ms,i+1,m,h=>by
    simp at h
    have:=mcells_at h
    rw [show (i+1)*2=i*2+2 from by omega]
    exact this
theorem members_sub {f:Nat→Value} {ms:List Member} {K:PH} (h:(SlRel Enc.member f ms).φ K):Lk.sub f 0 (ms.length*2)=mcells ms:=by
  induction ms generalizing f with
  | nil=>rfl
  | cons m ms ih =>
    have h0:=h 0 m rfl
    simp only [Enc.member,Nat.zero_mul] at h0
    have hs:(SlRel Enc.member (fun j=>f (2+j)) ms).φ K:=by
      intro i x hx
      have:=h (i+1) x (by simpa using hx)
      simp only [Enc.member] at this ⊢
      rw [sub_shift,show 2+i*2=(i+1)*2 from by omega]
      exact this
    have ih':=ih hs
    have e:Lk.sub f 0 ((ms.length+1)*2)=Lk.sub f 0 2++Lk.sub (fun j=>f (2+j)) 0 (ms.length*2):=by
      rw [sub_shift]
      simp only [Lk.sub]
      rw [show (ms.length+1)*2=2+ms.length*2 from by omega,List.range_add,List.map_append,List.map_map]
      simp [Function.comp_def]
    rw [List.length_cons,e,h0,ih']; rfl
theorem Opens.members {T:TypeId} {v:Value} {ms:List Member}:Opens (Asn.kn (Sl Enc.member T v ms)) (fun f:Nat→Value=>Lk.sub f 0 (ms.length*2)=mcells ms) (fun f=>[Asn.kn (SlAt T 2 v ms.length f)]):=by
  rintro K h ⟨f,h1,h2⟩
  exact ⟨f,members_sub (K:=K) h2,PH.emp,h,Split.emp_left h,h1,trivial⟩
theorem zc_member (m:Nat):∀ u ∈ (Builtin.zeroCells (Value.agg #[vint 0,vint 0]).cells m).toList,u.oneCell' = true:=by
  intro u hu
  simp only [Builtin.zeroCells,Value.cells] at hu
  simp only [Array.toList_map,List.mem_map] at hu
  obtain ⟨i,_,rfl⟩:=hu
  have h2:i % 2=0∨i % 2=1:=by omega
  rcases h2 with h | h <;> simp [h,Value.oneCell']
theorem mcells_erase {ms:List Member} {i:Nat} (h:i < ms.length):(mcells ms).take (i*2)++(mcells ms).drop ((i+1)*2)=mcells (ms.eraseIdx i):=by
  induction ms generalizing i with
  | nil=>simp at h
  | cons m ms ih =>
    cases i with
    | zero=>simp [mcells]
    | succ i =>
      have:=ih (i:=i) (by simpa using h)
      rw [show (i+1)*2=i*2+2 from by omega,show (i+1+1)*2=(i+1)*2+2 from by omega]
      simp only [List.eraseIdx_cons_succ]
      show (vint m.who :: vint m.rights :: mcells ms).take (i*2+2)++(vint m.who :: vint m.rights :: mcells ms).drop ((i+1)*2+2)=vint m.who :: vint m.rights :: mcells (ms.eraseIdx i)
      rw [← this]; rfl
namespace Spec
def idx:List Member→Int→Nat
  | [],_=>0
  | m :: ms,who=>if m.who ≥ who then 0 else idx ms who+1
end Spec
end Go.Lk
open Go.Proofs
set_option maxRecDepth 8000
namespace Go.Lk
open Asn renaming cells→Cl,row→Rw,kn→Kk,all→Al
theorem nileql51:∀ (a:Option Addr) (n c:Nat) (w:World),(binOp .eql 51 (.slice a n c) (.slice none 0 0)).run Tryz.prog w = .ok (.bool a.isNone) w:=fun a _ _ _=>by cases a <;> kernel_rfl
theorem sla51:∀ v lo hi mx w,(Instr.sliceAt 51 v lo hi mx).run Tryz.prog w=(Instr.slice 51 v lo hi mx).run Tryz.prog w:=fun _ _ _ _ _=>by kernel_rfl
theorem CloneM_fn (s:Value) (ms:List Member) (hm:ms.length≤1000000):Fn Tryz.prog 218 #[s] [KM s ms] (fun v M=>∃ (r:Value),r=v∧M=[Rw 270 2 r (mcells ms)]):=by
 refine Fi 8 Tryz.func218 fun g R=>?_
 refine Ww [(0,s)] [KM s ms,Al R] ?_
 refine Sn (Qa (k:=Nl [(0,s),(2,.slice none 0 0)] ?_))
 refine W.seq (Sn (Qm (k:=?_)))
 refine WN.fact (fun _ _ s=>sl_isS (i:=0) rfl s) (fun hS1=>?_)
 refine Qu (OpQ.nilEq rfl rfl rfl hS1 nileql51) (k:=Nl [(0,s),(2,.slice none 0 0),(4,.bool (!some? s))] ?_)
 refine W.cond rfl (fun h2=>?_) (fun h2=>?_)
 ·refine Sn (Qa (k:=Nl [(0,s),(2,.slice none 0 0)] ?_))
  refine W.fact (fun _ _ s=>sl_nil (i:=0) rfl s) (fun hn=>?_)
  have hxs:ms=[]:=hn (by simp_all)
  refine W.ent (Ent.rowNil (E:=270) (sz:=2)) ?_
  refine We [Rw 270 2 (.slice none 0 0) ([]),KM s ms,Al R] ?_
  refine W.ret (thn_r (ret1 (M:=[Rw 270 2 (.slice none 0 0) (mcells ms)]) rfl rfl (⟨.slice none 0 0,rfl,rfl⟩) ((es [0,1] rfl).trans (Ent.of_eq (by rw [hxs]; rfl)))))
 refine W.skip (thn_n (Wl [(0,s),(2,.slice none 0 0)] ?_))
 refine Sn (WN.opens Opens.members (i:=0) rfl (fun f3 hsub=>(Ne [Ka 270 2 s ms.length f3,Al R] ?_)))
 refine Ru (OpRun.buildSlice (qs:=[]) (cs:=[]) (E:=270) (sz:=2) rfl trivial (fun _=>by kernel_rfl) one_nil rfl (by decide)) ?_
 rintro v4 _ ⟨h5a,h5b,h5c,rfl⟩
 refine WN.ent (Ent.know (m:=CellsRel Enc.member ([]) ([])) (fun K h s=>CellsRel.nil)) ?_
 refine Ne [Kx Enc.member ([]) ([]),Rw 270 2 v4 ([]),Ka 270 2 s ms.length f3,Al R] (Qm (k:=?_))
 refine Nr 1 fun hr8a hr8b hr8c=>?_
 try simp only [La,Lc,Ln] at hr8a
 refine Ru (OpRun.append (i:=1) (j:=2) rfl rfl rfl rfl rfl Tryz.underlying51 (inf:=Tryz.t270) (by kernel_rfl) rfl rfl rfl (by_:=16) rfl (by first | omega | (simp; omega)) (by first | omega | (simp; omega))) ?_
 rintro v6 _ ⟨h7a,h7b,rfl⟩
 refine Qa (k:=Nw [(2,v6)] [Rw 270 2 v6 (([])++Lk.sub f3 0 (ms.length*2)),Kx Enc.member ([]) ([]),Ka 270 2 s ms.length f3,Al R] ?_)
 refine Wr 0 fun hr9a hr9b hr9c=>?_
 try simp only [La,Lc,Ln] at hr9a
 refine W.ret (ret1 (M:=[Rw 270 2 v6 (mcells ms)]) rfl rfl (⟨v6,rfl,rfl⟩) ((es [0,2] rfl).trans (Ent.of_eq (by rw [List.nil_append,hsub]; rfl))))
theorem Apply1_fn (mw:Int) (mr:Int) (eb:Nat) (e:Entry) (nv:Value) (vv:Value) (wv:Value):Fn Tryz.prog 220 #[.agg #[vint mw,vint mr],vptr eb 0] [Cl eb 33 (ecs e nv vv wv)] (fun v M=>.bool (decide (mw ≥ e.who))=v∧M=[Cl eb 33 (ecs e nv vv wv)]):=by
 refine Fi 9 Tryz.func220 fun g R=>?_
 refine Ww [(0,.agg #[vint mw,vint mr]),(1,vptr eb 0)] [Cl eb 33 (ecs e nv vv wv),Al R] ?_
 refine Sn (Ru (OpRun.box rfl rfl rfl) ?_)
 rintro _ _ ⟨b1,rfl,rfl⟩
 refine Qa (k:=Nw [(1,vptr eb 0),(2,vptr b1 0),(3,.bool false)] [Cl b1 270 [vint mw,vint mr],Cl eb 33 (ecs e nv vv wv),Al R] ?_)
 refine Sn (Qu (Of (fa270_0 _ _)) (k:=Qu (Ol 0 ld3) (k:=Qu (Of (fa33_5 _ _)) (k:=Qu (Ol 1 ld3) (k:=Qu (OpQ.geq rfl rfl rfl) (k:=Qa (k:=Nl [(3,.bool (decide (mw ≥ e.who)))] ?_)))))))
 refine W.ret (ret1 (M:=[Cl eb 33 (ecs e nv vv wv)]) rfl rfl (⟨rfl,rfl⟩) (es [1,1] rfl))
theorem IndexM_fn (s:Value) (ms:List Member) (eb:Nat) (e:Entry) (nv:Value) (vv:Value) (wv:Value):Fn Tryz.prog 219 #[s,.func (.func 220) #[] #[vptr eb 0]] [Rw 270 2 s (mcells ms),Cl eb 33 (ecs e nv vv wv)] (fun v M=>(∃ (i:Nat),Spec.idx ms e.who=i∧i < ms.length∧(ms.getD i default).who ≥ e.who∧vint (i:Int)=v∧M=[Rw 270 2 s (mcells ms),Cl eb 33 (ecs e nv vv wv)])∨(Spec.idx ms e.who=ms.length∧vint (-1)=v∧M=[Rw 270 2 s (mcells ms),Cl eb 33 (ecs e nv vv wv)])):=by
 refine Fi 19 Tryz.func219 fun g R=>?_
 refine Ww [(0,s),(1,.func (.func 220) #[] #[vptr eb 0])] [Rw 270 2 s (mcells ms),Cl eb 33 (ecs e nv vv wv),Al R] ?_
 refine Sn (Qa (k:=Nl [(0,s),(1,.func (.func 220) #[] #[vptr eb 0]),(4,vint 0)] ?_))
 refine W.seq (Sn (Qm (k:=?_)))
 refine Nr 0 fun hr1a hr1b hr1c=>?_
 try simp only [La,Lc,Ln] at hr1a
 refine Qu (OpQ.lenRow (i:=0) rfl rfl rfl (len51 _)) (k:=Qm (k:=Nl [(0,s),(1,.func (.func 220) #[] #[vptr eb 0]),(4,vint 0),(7,vint (slen s:Int)),(8,vint 0)] ?_))
 refine W.block ?_
 have hml:=mcells_length ms; have hsl:slen s=ms.length:=by omega
 refine W.loop (X:=Nat) (fun k=>[(0,s),(1,.func (.func 220) #[] #[vptr eb 0]),(4,vint 0),(7,vint (slen s:Int)),(8,vint (k:Int))]) (fun k=>[Asn.pure (k≤ms.length∧Spec.idx ms e.who=k+Spec.idx (ms.drop k) e.who),Rw 270 2 s (mcells ms),Cl eb 33 (ecs e nv vv wv),Al R]) (fun k=>ms.length - k) 0 ⟨rfl,rfl,rfl,rfl,rfl,trivial⟩ ((es [0,0,0] rfl).trans (Ent.pure_in (by exact ⟨Nat.zero_le _,by simp⟩))) (fun x=>?_)
 obtain ⟨k,rfl⟩:∃ y,y=x:=⟨x,rfl⟩
 show W _ _ _ _ _ [(0,s),(1,.func (.func 220) #[] #[vptr eb 0]),(4,vint 0),(7,vint (slen s:Int)),(8,vint (k:Int))] [Asn.pure (k≤ms.length∧Spec.idx ms e.who=k+Spec.idx (ms.drop k) e.who),Rw 270 2 s (mcells ms),Cl eb 33 (ecs e nv vv wv),Al R]
 refine W.opens Opens.pure (i:=0) rfl (fun _ hI2=>?_)
 replace hI2:=hI2
 show W _ _ _ _ _ [(0,s),(1,.func (.func 220) #[] #[vptr eb 0]),(4,vint 0),(7,vint (slen s:Int)),(8,vint (k:Int))] [Rw 270 2 s (mcells ms),Cl eb 33 (ecs e nv vv wv),Al R]
 refine Sn (Qu (OpQ.lss rfl rfl rfl) (k:=Nl [(0,s),(1,.func (.func 220) #[] #[vptr eb 0]),(4,vint 0),(7,vint (slen s:Int)),(8,vint (k:Int)),(9,.bool (decide ((k:Int) < (slen s:Int))))] ?_))
 refine W.seq (Cp rfl (fun h3=>?_) (fun h3=>?_))
 ·refine W.skip (thn_n (Wl [(0,s),(1,.func (.func 220) #[] #[vptr eb 0]),(4,vint 0),(7,vint (slen s:Int)),(8,vint (k:Int))] ?_))
  refine W.seq (W.block (Sn (Qm (k:=?_))))
  refine Qa (k:=Nl [(0,s),(1,.func (.func 220) #[] #[vptr eb 0]),(4,vint 0),(5,vint (k:Int)),(7,vint (slen s:Int)),(8,vint (k:Int))] ?_)
  refine Sn (Qm (k:=Qm (k:=Qm (k:=?_))))
  refine Nr 0 fun hr4a hr4b hr4c=>?_
  try simp only [La,Lc,Ln] at hr4a
  refine Qu (OpQ.indexRow (i:=0) (j:=k*2) rfl rfl rfl rfl (by omega) (by omega) (by omega) ix51) (k:=Qu (OpQ.loadRowN (i:=0) (vs:=[vint ((ms.getD k default).who),vint ((ms.getD k default).rights)]) rfl rfl rfl (mcells_at (getD_some default (by omega))) rfl (by decide) ld270) (k:=?_))
  refine WN.call rfl rfl (OpCall.clo (xs:=[.tmp 15]) (vs:=[.agg #[vint ((ms.getD k default).who),vint ((ms.getD k default).rights)]]) rfl rfl ⟨rfl,trivial⟩ Tryz.call220) (Apply1_fn ((ms.getD k default).who) ((ms.getD k default).rights) eb e nv vv wv) (ep [1] rfl) ?_
  rintro _ _ ⟨rfl,rfl⟩
  refine Nw [(0,s),(1,.func (.func 220) #[] #[vptr eb 0]),(4,vint 0),(5,vint (k:Int)),(7,vint (slen s:Int)),(8,vint (k:Int)),(16,.bool (decide (((ms.getD k default).who) ≥ e.who)))] [Cl eb 33 (ecs e nv vv wv),Rw 270 2 s (mcells ms),Al R] ?_
  refine Cp rfl (fun h5=>?_) (fun h5=>?_)
  ·refine Sn (Qm (k:=Qa (k:=Nl [(0,s),(1,.func (.func 220) #[] #[vptr eb 0]),(4,vint (k:Int)),(7,vint (slen s:Int)),(8,vint (k:Int))] ?_)))
   refine W.ret (inblk_r (thn_r (thn_r (inblk_r (thn_r (ret1 (M:=[Rw 270 2 s (mcells ms),Cl eb 33 (ecs e nv vv wv)]) rfl rfl (.inl ⟨k,(by rw [hI2.2,drop_getD (d:=default) (by omega),Spec.idx,if_pos h5]; rfl),(by omega),(by assumption),rfl,rfl⟩) (es [1,0,0] rfl)))))))
  refine W.skip (inblk_n (thn_n (Wl [(0,s),(1,.func (.func 220) #[] #[vptr eb 0]),(4,vint 0),(7,vint (slen s:Int)),(8,vint (k:Int))] ?_)))
  refine W.region (Qu (OpQ.add rfl rfl rfl ⟨by omega,by omega⟩) (k:=?_))
  refine Qm (k:=?_)
  refine WN.nil (thn_n ⟨(k+1),by (show ms.length - (k+1) < ms.length - k); omega,⟨rfl,rfl,rfl,rfl,(Eq.trans (b:=some (vint ((k:Int)+1))) rfl (by first | rfl | (congr 2; omega))),trivial⟩,?_⟩)
  exact (es [1,0,0] rfl).trans (Ent.pure_in (by refine ⟨by omega,?_⟩; rw [hI2.2,drop_getD (d:=default) (by omega),Spec.idx,if_neg h5]; omega))
 obtain rfl:k=ms.length:=by omega
 refine W.exit (thn_x (thn_x (inblk_x (thn_n (Wl [(4,vint 0)] ?_)))))
 refine Sn (Qa (k:=Nl [(4,vint (-1))] ?_))
 refine Wr 0 fun hr6a hr6b hr6c=>?_
 try simp only [La,Lc,Ln] at hr6a
 refine W.ret (ret1 (M:=[Rw 270 2 s (mcells ms),Cl eb 33 (ecs e nv vv wv)]) rfl rfl (.inr (⟨(by rw [hI2.2,List.drop_length]; rfl),rfl,rfl⟩)) (es [0,0,0] rfl))
theorem DeleteM_fn (s:Value) (ms:List Member) (i:Nat) (hi:i < ms.length):Fn Tryz.prog 221 #[s,vint (i:Int),vint ((i:Int)+1)] [Rw 270 2 s (mcells ms)] (fun v M=>∃ (r:Value),r=v∧M=[Rw 270 2 r (mcells (ms.eraseIdx i))]):=by
 refine Fi 33 Tryz.func221 fun g R=>?_
 refine Ww [(0,s),(1,vint (i:Int)),(2,vint ((i:Int)+1))] [Rw 270 2 s (mcells ms),Al R] ?_
 refine Wr 0 fun hr1a hr1b hr1c=>?_
 try simp only [La,Lc,Ln] at hr1a
 have hml:=mcells_length ms; have hsl:slen s=ms.length:=by omega
 refine Sn (Qa (k:=Nl [(0,s),(1,vint (i:Int)),(2,vint ((i:Int)+1)),(6,N0)] ?_))
 refine Sn (Qm (k:=Qm (k:=Qm (k:=Qm (k:=Qu (OpQ.lenRow (i:=0) rfl rfl rfl (len51 _)) (k:=?_))))))
 refine WN.fact (fun _ _ s=>row_cap (i:=0) rfl s) (fun hcap2=>?_)
 refine Qu (OpQ.sliceRow (i:=0) (p:=i) (q:=i+1) (r:=slen s) rfl rfl rfl (Eq.trans (b:=some (vint (i:Int))) rfl (by first | rfl | (congr 2; omega))) (Eq.trans (b:=some (vint ((i:Int)+1))) rfl (by first | rfl | (congr 2; omega))) (Eq.trans (b:=some (vint (slen s:Int))) rfl (by first | rfl | (congr 2; omega))) (by omega) (by omega) (by omega) (by first | (intro h; cases h; done) | exact fun _=>rfl) sla51 Tryz.runUnderlying51 sz270) (k:=Nl [(0,s),(1,vint (i:Int)),(2,vint ((i:Int)+1)),(6,N0)] ?_)
 refine W.seq (Sn (Qm (k:=?_)))
 refine Qm (k:=Qu (OpQ.eql rfl rfl rfl) (k:=Nl [(0,s),(1,vint (i:Int)),(2,vint ((i:Int)+1)),(6,N0),(16,.bool (decide ((i:Int)=(i:Int)+1)))] ?_))
 refine Cp rfl (fun h3=>?_) (fun h3=>?_)
 ·exfalso; omega
 refine W.skip (thn_n (Wl [(0,s),(1,vint (i:Int)),(2,vint ((i:Int)+1)),(6,N0)] ?_))
 refine Sn (Qm (k:=Qu (OpQ.lenRow (i:=0) rfl rfl rfl (len51 _)) (k:=Qa (k:=Nl [(0,s),(1,vint (i:Int)),(2,vint ((i:Int)+1)),(6,N0),(7,vint (slen s:Int))] ?_))))
 refine W.seq (W.drawG mixed ?_)
 refine Gq 0 [] rfl (OpQ.move rfl rfl) ?_
 refine Gq 1 [] rfl (OpQ.move rfl rfl) ?_
 refine WG.hold (Rw 270 2 s (mcells ms),[6]) ?_
 refine Gq 2 [0] rfl (OpQ.sliceRow (i:=0) (p:=0) (q:=i) (r:=scap s) rfl rfl rfl rfl (Eq.trans (b:=some (vint (i:Int))) rfl (by first | rfl | (congr 2; omega))) rfl (by omega) (by omega) (by omega) (by first | (intro h; cases h; done) | exact fun _=>rfl) sla51 Tryz.runUnderlying51 sz270) ?_
 refine Gq 3 [0] rfl (OpQ.move rfl rfl) ?_
 refine Gq 4 [0] rfl (OpQ.move rfl rfl) ?_
 refine Gq 5 [0] rfl (OpQ.sliceRowLo (i:=0) (p:=i+1) rfl rfl (Eq.trans (b:=some (vint ((i:Int)+1))) rfl (by first | rfl | (congr 2; omega))) rfl (by first | omega | (simp; omega)) sla51 Tryz.runUnderlying51 sz270) ?_
 refine WG.one (i:=6) (by kernel_rfl) (UpG.run rfl rfl rfl (OpRun.appendSelf (i:=0) (p:=i) (q:=(i+1)) (inf:=Tryz.t270) rfl rfl rfl rfl (by omega) (by omega) (by omega) Tryz.underlying51 (by kernel_rfl) rfl) ?_)
 rintro v4 _ ⟨⟨h5a,h5b,h5c⟩,rfl⟩
 refine ⟨es [] rfl,?_⟩
 refine Gq 7 [] rfl (OpQ.assign rfl rfl) ?_
 refine WG.done (by kernel_rfl) ?_
 refine thn_n (Ww [(0,v4),(6,N0),(7,vint (slen s:Int))] [Rw 270 2 v4 ((mcells ms).take (i*2)++(mcells ms).drop ((i+1)*2)),Al R] ?_)
 refine Sn (Qm (k:=Qm (k:=?_)))
 refine Nr 0 fun hr6a hr6b hr6c=>?_
 try simp only [La,Lc,Ln,List.length_take,List.length_drop] at hr6a
 refine Qu (OpQ.lenRow (i:=0) rfl rfl rfl (len51 _)) (k:=Qm (k:=?_))
 refine WN.fact (fun _ _ s=>row_cap (i:=0) rfl s) (fun hcap7=>?_)
 refine Qu (OpQ.sliceRow (i:=0) (p:=slen v4) (q:=slen s) (r:=scap v4) rfl rfl rfl (Eq.trans (b:=some (vint (slen v4:Int))) rfl (by first | rfl | (congr 2; omega))) (Eq.trans (b:=some (vint (slen s:Int))) rfl (by first | rfl | (congr 2; omega))) rfl (by omega) (by omega) (by omega) (by first | (intro h; cases h; done) | exact fun _=>rfl) sla51 Tryz.runUnderlying51 sz270) (k:=Rn (OpRun.clearRow (i:=0) (old:=(slen s)) (inf:=Tryz.t270) rfl rfl rfl (by omega) (by omega) Tryz.runUnderlying51 zv270 rfl zc_member) (k:=Nw [(0,v4),(6,N0)] [Rw 270 2 v4 ((mcells ms).take (i*2)++(mcells ms).drop ((i+1)*2)),Al R] ?_))
 refine Sn (Qm (k:=Qa (k:=Nl [(6,v4)] ?_)))
 refine W.ret (ret1 (M:=[Rw 270 2 v4 (mcells (ms.eraseIdx i))]) rfl rfl (⟨v4,rfl,rfl⟩) ((es [0,0] rfl).trans (Ent.of_eq (by rw [← mcells_erase hi]; rfl))))
end Go.Lk
open Go.Proofs
namespace Go.Lk
theorem mcells_app (a b:List Member):mcells (a++b)=mcells a++mcells b:=by simp [mcells,List.flatMap_append]
theorem mcells_take (ms:List Member) (i:Nat):(mcells ms).take (i*2)=mcells (ms.take i):=by
  induction ms generalizing i with
  | nil=>simp [mcells]
  | cons m ms ih =>
    cases i with
    | zero=>simp [mcells]
    | succ i =>
      have:=ih i
      rw [show (i+1)*2=i*2+2 from by omega]
      show vint m.who :: vint m.rights :: (mcells ms).take (i*2)=vint m.who :: vint m.rights :: mcells (ms.take i)
      rw [this]
theorem mcells_drop (ms:List Member) (i:Nat):(mcells ms).drop (i*2)=mcells (ms.drop i):=by
  induction ms generalizing i with
  | nil=>simp [mcells]
  | cons m ms ih =>
    cases i with
    | zero=>simp [mcells]
    | succ i =>
      have:=ih i
      rw [show (i+1)*2=i*2+2 from by omega]
      show (mcells ms).drop (i*2)=mcells (ms.drop i)
      rw [this]
theorem mcells_set {ms:List Member} {i:Nat} {w r s:Int} (h:ms[i]? = some ⟨w,r⟩):(mcells ms).set (i*2+1) (vint s)=mcells (ms.set i ⟨w,s⟩):=by
  induction ms generalizing i with
  | nil=>simp at h
  | cons m ms ih =>
    cases i with
    | zero=>simp at h; subst h; rfl
    | succ i =>
      have:=ih (i:=i) (by simpa using h)
      rw [show (i+1)*2+1=(i*2+1)+2 from by omega]
      show vint m.who :: vint m.rights :: (mcells ms).set (i*2+1) (vint s)=vint m.who :: vint m.rights :: mcells (ms.set i ⟨w,s⟩)
      rw [this]
theorem zc_len (k:Nat):(Builtin.zeroCells (Value.agg #[vint 0,vint 0]).cells k).toList.length=k*2:=by
  rw [Array.length_toList,zeroCells_one]; rfl
theorem insert_grow {ms:List Member} {m:Member} {i k:Nat} {Z:List Value} (hi:i≤ms.length) (hk:k=1) (hZ:Z.length=(ms.length+k - i)*2) :
    ((((mcells ms).take (i*2)++Z).take (i*2)++mcells [m]++((mcells ms).take (i*2)++Z).drop ((i+k)*2)).take ((i+k)*2)++(mcells ms).drop (i*2) ++
      (((mcells ms).take (i*2)++Z).take (i*2)++mcells [m]++((mcells ms).take (i*2)++Z).drop ((i+k)*2)).drop ((i+k+(ms.length - i))*2))=mcells (ms.take i++m :: ms.drop i):=by
  subst hk
  have hl:((mcells ms).take (i*2)).length=i*2:=by rw [List.length_take,mcells_length]; omega
  have hm:(mcells [m]).length=2:=mcells_length [m]
  rw [take_app hl]
  have h2:((mcells ms).take (i*2)++mcells [m]).length=(i+1)*2:=by rw [List.length_append,hl,hm]; omega
  rw [take_app h2]
  have h3:((mcells ms).take (i*2)++mcells [m]++((mcells ms).take (i*2)++Z).drop ((i+1)*2)).drop ((i+1+(ms.length - i))*2)=[]:=List.drop_eq_nil_of_le (by rw [List.length_append,h2,List.length_drop,List.length_append,hl,hZ]; omega)
  rw [h3,List.append_nil,mcells_take,mcells_drop,← mcells_app,← mcells_app]
  simp
theorem insert_room {ms:List Member} {m:Member} {i k:Nat} (hi:i < ms.length) (hk:k=1) :
    ((mcells ms).take ((i+1)*2)++(mcells ms).drop (i*2)).take (i*2)++mcells [m]++((mcells ms).take ((i+1)*2)++(mcells ms).drop (i*2)).drop ((i+k)*2)=mcells (ms.take i++m :: ms.drop i):=by
  subst hk
  have hl:((mcells ms).take ((i+1)*2)).length=(i+1)*2:=by rw [List.length_take,mcells_length]; omega
  rw [drop_app hl,List.take_append_of_le_length (by omega),List.take_take,Nat.min_eq_left (by omega),mcells_take,mcells_drop,← mcells_app,← mcells_app]
  simp
theorem mcells_who {ms:List Member} {i:Nat} {m:Member} (h:ms[i]? = some m):(mcells ms)[i*2]? = some (vint m.who):=by
  have:=congrArg (fun l:List Value=>l[0]?) (mcells_at h)
  simpa using this
theorem mcells_rel {ms:List Member} {K:PH}:CellsRel.φ Enc.member (mcells ms) ms K:=⟨mcells_length ms,fun _ _ h=>mcells_at h⟩
theorem put_set {ms:List Member} {i:Nat} {a b:Member} (h:i≤ms.length):(ms.take i++a :: ms.drop i).set i b=ms.take i++b :: ms.drop i:=by
  rw [List.set_append_right _ _ (by simp; omega)]
  simp [Nat.min_eq_left h]
theorem put_at {ms:List Member} {i:Nat} {a:Member} (h:i≤ms.length):(ms.take i++a :: ms.drop i)[i]? = some a:=by
  rw [List.getElem?_append_right (by simp; omega)]
  simp [Nat.min_eq_left h]
theorem put_len {ms:List Member} {i:Nat} {a:Member} (h:i≤ms.length):(mcells (ms.take i++a :: ms.drop i)).length=(ms.length+1)*2:=by
  rw [mcells_length]; simp; omega
end Go.Lk
open Go.Proofs
set_option maxRecDepth 8000
namespace Go.Lk
open Asn renaming cells→Cl,row→Rw,kn→Kk,all→Al
theorem cap51 (ty:TypeId):∀ (a:Option Addr) (n c:Nat) (w:World),(Builtin.cap_ #[51] ty #[.slice a n c]).run Tryz.prog w = .ok (vint c) w:=fun _ _ _ _=>by kernel_rfl
theorem ovl:∀ a la ca b lb cb w,(callFunc 297 #[.slice a la ca,.slice b lb cb]).run Tryz.prog w=((Extern.SlicesOverlaps.overlaps #[51,51] #[4] #[.slice a la ca,.slice b lb cb] >>= fun v=>pure (Next.value v):Sem Next)).run Tryz.prog w:=fun _ _ _ _ _ _ _=>by kernel_rfl
theorem InsertM_fn (s:Value) (ms:List Member) (i:Nat) (v:Value) (m:Member) (hi:i≤ms.length) (hm:ms.length≤1000000):Fn Tryz.prog 222 #[s,vint (i:Int),v] [Rw 270 2 s (mcells ms),Rw 270 2 v (mcells ([m]))] (fun v M=>∃ (r:Value),r=v∧M=[Rw 270 2 r (mcells (ms.take i++m :: ms.drop i))]):=by
 refine Fi 95 Tryz.func222 fun g R=>?_
 refine Ww [(0,s),(1,vint (i:Int)),(2,v)] [Rw 270 2 s (mcells ms),Rw 270 2 v (mcells ([m])),Al R] ?_
 refine Wr 0 fun hr1a hr1b hr1c=>?_
 try simp only [La,Lc,Ln] at hr1a
 refine Wr 1 fun hr2a hr2b hr2c=>?_
 try simp only [La,Lc,Ln] at hr2a
 have hml:=mcells_length ms; have hm1:=mcells_length [m]; have hsl:slen s=ms.length:=by omega
 have hv1:slen v=1:=by simp at hm1; omega
 refine Sn (Qa (k:=Nl [(0,s),(1,vint (i:Int)),(2,v),(6,N0)] ?_))
 refine Sn (Qm (k:=Qm (k:=?_)))
 refine WN.fact (fun _ _ s=>row_cap (i:=0) rfl s) (fun hcap3=>?_)
 refine Qu (OpQ.sliceRowLo (i:=0) (p:=i) rfl rfl (Eq.trans (b:=some (vint (i:Int))) rfl (by first | rfl | (congr 2; omega))) rfl (by first | omega | (simp; omega)) sla51 Tryz.runUnderlying51 sz270) (k:=Nl [(0,s),(1,vint (i:Int)),(2,v),(6,N0)] ?_)
 refine Sn (Qm (k:=Qu (OpQ.lenRow (i:=1) rfl rfl rfl (len51 _)) (k:=Qa (k:=Nl [(0,s),(1,vint (i:Int)),(2,v),(6,N0),(7,vint (slen v:Int))] ?_))))
 refine W.seq (Sn (Qm (k:=?_)))
 refine Qu (OpQ.eql rfl rfl rfl) (k:=Nl [(0,s),(1,vint (i:Int)),(2,v),(6,N0),(7,vint (slen v:Int)),(16,.bool (decide ((slen v:Int)=0)))] ?_)
 refine Cp rfl (fun h4=>?_) (fun h4=>?_)
 ·exfalso; omega
 refine W.skip (thn_n (Wl [(0,s),(1,vint (i:Int)),(2,v),(6,N0),(7,vint (slen v:Int))] ?_))
 refine Sn (Qm (k:=Qu (OpQ.lenRow (i:=0) rfl rfl rfl (len51 _)) (k:=Qa (k:=Nl [(0,s),(1,vint (i:Int)),(2,v),(6,N0),(7,vint (slen v:Int)),(8,vint (slen s:Int))] ?_))))
 refine W.seq (Sn (Qm (k:=?_)))
 refine Qm (k:=Qu (OpQ.eql rfl rfl rfl) (k:=Nl [(0,s),(1,vint (i:Int)),(2,v),(6,N0),(7,vint (slen v:Int)),(8,vint (slen s:Int)),(22,.bool (decide ((i:Int)=(slen s:Int))))] ?_))
 refine Cp rfl (fun h5=>?_) (fun h5=>?_)
 ·refine Sn (Qm (k:=Qm (k:=?_)))
  refine Ru (OpRun.appendRow (i:=0) (j:=0) rfl rfl rfl rfl rfl Tryz.underlying51 (inf:=Tryz.t270) (by kernel_rfl) rfl rfl rfl (by_:=16) rfl (by first | omega | (simp; omega)) (by first | omega | (simp; omega))) ?_
  rintro v6 _ ⟨h7a,h7b,rfl⟩
  refine Qa (k:=Nw [(0,s),(1,vint (i:Int)),(2,v),(6,v6),(7,vint (slen v:Int)),(8,vint (slen s:Int))] [Rw 270 2 v6 ((mcells ms)++(mcells ([m]))),Al R] ?_)
  refine Wr 0 fun hr8a hr8b hr8c=>?_
  try simp only [La,Lc,Ln] at hr8a
  refine W.ret (thn_r (ret1 (M:=[Rw 270 2 v6 (mcells (ms.take i++m :: ms.drop i))]) rfl rfl (⟨v6,rfl,rfl⟩) ((es [0,0] rfl).trans (Ent.of_eq (by rw [← mcells_app]; simp [show i=ms.length from by omega])))))
 refine W.skip (thn_n (Wl [(0,s),(1,vint (i:Int)),(2,v),(6,N0),(7,vint (slen v:Int)),(8,vint (slen s:Int))] ?_))
 refine W.seq (Sn (Qm (k:=?_)))
 refine Qm (k:=Qu (OpQ.add rfl rfl rfl ⟨by omega,by omega⟩) (k:=Qm (k:=Qu (OpQ.capRow (i:=0) rfl rfl rfl (cap51 _)) (k:=Qu (OpQ.gtr rfl rfl rfl) (k:=Nl [(0,s),(1,vint (i:Int)),(2,v),(6,N0),(7,vint (slen v:Int)),(8,vint (slen s:Int)),(31,.bool (decide ((slen s:Int)+(slen v:Int) > (scap s:Int))))] ?_)))))
 refine Cp rfl (fun h9=>?_) (fun h9=>?_)
 ·refine Sn (Qm (k:=Qm (k:=Qu (OpQ.sliceRow (i:=0) (p:=0) (q:=i) (r:=scap s) rfl rfl rfl rfl (Eq.trans (b:=some (vint (i:Int))) rfl (by first | rfl | (congr 2; omega))) rfl (by omega) (by omega) (by omega) (by first | (intro h; cases h; done) | exact fun _=>rfl) sla51 Tryz.runUnderlying51 sz270) (k:=Qm (k:=Qm (k:=Qu (OpQ.add rfl rfl rfl ⟨by omega,by omega⟩) (k:=Qm (k:=Qu (OpQ.sub rfl rfl rfl ⟨by omega,by omega⟩) (k:=?_)))))))))
  refine Ru (OpRun.appendZeros (i:=0) (p:=i) (m:=(((slen s)+(slen v)) - i)) (inf:=Tryz.t270) rfl rfl (Eq.trans (b:=some (vint (((slen s:Int)+(slen v:Int)) - (i:Int)))) rfl (by congr 2; omega)) rfl (by omega) (by omega) (by omega) (by omega) Tryz.underlying51 Tryz.underlying3 (by kernel_rfl) rfl rfl (by decide) (by_:=16) rfl (by omega) (by omega) zc_member) ?_
  rintro v10 _ ⟨⟨h11a,h11b⟩,rfl⟩
  refine Qa (k:=Nw [(0,s),(1,vint (i:Int)),(2,v),(6,N0),(7,vint (slen v:Int)),(8,vint (slen s:Int)),(9,v10)] [Rw 270 2 v10 ((mcells ms).take (i*2)++(Builtin.zeroCells (Value.cells (.agg #[vint 0,vint 0])) (((slen s)+(slen v)) - i)).toList),Rw 270 2 s (mcells ms),Rw 270 2 v (mcells ([m])),Al R] ?_)
  refine Sn (Qm (k:=Qm (k:=?_)))
  refine Nr 0 fun hr12a hr12b hr12c=>?_
  try simp only [La,Lc,Ln] at hr12a
  refine WN.fact (fun _ _ s=>row_cap (i:=0) rfl s) (fun hcap13=>?_)
  refine Qu (OpQ.sliceRowLo (i:=0) (p:=i) rfl rfl (Eq.trans (b:=some (vint (i:Int))) rfl (by first | rfl | (congr 2; omega))) rfl (by first | omega | (simp; omega)) sla51 Tryz.runUnderlying51 sz270) (k:=Qm (k:=Rn (OpRun.copySrc (i:=0) (p:=i) (m:=slen v) (news:=mcells ([m])) rfl rfl rfl rfl (fun _ t=>Sat.srcRow (i:=2) rfl t) (by omega) Tryz.runUnderlying51 sz270) (k:=Nw [(0,s),(1,vint (i:Int)),(2,v),(6,N0),(7,vint (slen v:Int)),(8,vint (slen s:Int)),(9,v10)] [Rw 270 2 v10 (((mcells ms).take (i*2)++(Builtin.zeroCells (Value.cells (.agg #[vint 0,vint 0])) (((slen s)+(slen v)) - i)).toList).take (i*2)++(mcells ([m]))++((mcells ms).take (i*2)++(Builtin.zeroCells (Value.cells (.agg #[vint 0,vint 0])) (((slen s)+(slen v)) - i)).toList).drop ((i+(slen v))*2)),Rw 270 2 s (mcells ms),Rw 270 2 v (mcells ([m])),Al R] ?_)))
  refine W.seq (W.drawG mixed ?_)
  refine Gq 0 [] rfl (OpQ.move rfl rfl) ?_
  refine Gq 1 [] rfl (OpQ.move rfl rfl) ?_
  refine Gq 2 [] rfl (OpQ.move rfl rfl) ?_
  refine Gq 3 [] rfl (OpQ.add rfl rfl rfl ⟨by omega,by omega⟩) ?_
  refine WG.hold (Rw 270 2 v10 (((mcells ms).take (i*2)++(Builtin.zeroCells (Value.cells (.agg #[vint 0,vint 0])) (((slen s)+(slen v)) - i)).toList).take (i*2)++(mcells ([m]))++((mcells ms).take (i*2)++(Builtin.zeroCells (Value.cells (.agg #[vint 0,vint 0])) (((slen s)+(slen v)) - i)).toList).drop ((i+(slen v))*2)),[8]) ?_
  refine WG.fact (fun _ _ s=>row_facts (i:=0) rfl s) (fun hr14=>?_)
  obtain ⟨hr14a,hr14b,hr14c⟩:=hr14; try simp only [La,Lc,Ln,List.length_take,List.length_drop] at hr14a
  refine Gq 4 [0] rfl (OpQ.sliceRowLo (i:=0) (p:=i+(slen v)) rfl rfl (Eq.trans (b:=some (vint ((i:Int)+(slen v:Int)))) rfl (by first | rfl | (congr 2; omega))) rfl (by first | omega | (simp; omega)) sla51 Tryz.runUnderlying51 sz270) ?_
  refine Gq 5 [0] rfl (OpQ.move rfl rfl) ?_
  refine Gq 6 [0] rfl (OpQ.move rfl rfl) ?_
  refine WG.hold (Rw 270 2 s (mcells ms),[8]) ?_
  refine Gq 7 [1,0] rfl (OpQ.sliceRowLo (i:=0) (p:=i) rfl rfl (Eq.trans (b:=some (vint (i:Int))) rfl (by first | rfl | (congr 2; omega))) rfl (by first | omega | (simp; omega)) sla51 Tryz.runUnderlying51 sz270) ?_
  refine WG.one (i:=8) (by kernel_rfl) (UpG.run rfl rfl rfl (OpRun.copySrc (i:=0) (p:=(i+(slen v))) (m:=slen s - i) (news:=(mcells ms).drop (i*2)) rfl rfl rfl rfl (fun _ t=>Sat.srcCut (i:=1) (p:=i) rfl (by omega) (by omega) t) (by omega) Tryz.runUnderlying51 sz270) ?_)
  rintro _ _ ⟨rfl,rfl⟩
  refine ⟨es [] rfl,?_⟩
  refine WG.done (by kernel_rfl) ?_
  refine thn_n (Ww [(0,s),(1,vint (i:Int)),(2,v),(6,N0),(7,vint (slen v:Int)),(8,vint (slen s:Int)),(9,v10)] [Rw 270 2 v10 ((((mcells ms).take (i*2)++(Builtin.zeroCells (Value.cells (.agg #[vint 0,vint 0])) (((slen s)+(slen v)) - i)).toList).take (i*2)++(mcells ([m]))++((mcells ms).take (i*2)++(Builtin.zeroCells (Value.cells (.agg #[vint 0,vint 0])) (((slen s)+(slen v)) - i)).toList).drop ((i+(slen v))*2)).take ((i+(slen v))*2)++((mcells ms).drop (i*2))++(((mcells ms).take (i*2)++(Builtin.zeroCells (Value.cells (.agg #[vint 0,vint 0])) (((slen s)+(slen v)) - i)).toList).take (i*2)++(mcells ([m]))++((mcells ms).take (i*2)++(Builtin.zeroCells (Value.cells (.agg #[vint 0,vint 0])) (((slen s)+(slen v)) - i)).toList).drop ((i+(slen v))*2)).drop ((i+(slen v)+(slen s - i))*2)),Rw 270 2 s (mcells ms),Rw 270 2 v (mcells ([m])),Al R] ?_)
  refine Sn (Qm (k:=Qa (k:=Nl [(0,s),(1,vint (i:Int)),(2,v),(6,v10),(7,vint (slen v:Int)),(8,vint (slen s:Int))] ?_)))
  refine Wr 0 fun hr15a hr15b hr15c=>?_
  try simp only [La,Lc,Ln,List.length_take,List.length_drop] at hr15a
  refine W.ret (thn_r (ret1 (M:=[Rw 270 2 v10 (mcells (ms.take i++m :: ms.drop i))]) rfl rfl (⟨v10,rfl,rfl⟩) ((es [0,2] rfl).trans (Ent.of_eq (by rw [hsl,insert_grow (by omega) hv1 (by rw [zc_len])]; rfl)))))
 refine W.skip (thn_n (Wl [(0,s),(1,vint (i:Int)),(2,v),(6,N0),(7,vint (slen v:Int)),(8,vint (slen s:Int))] ?_))
 refine Sn (Qm (k:=Qm (k:=Qm (k:=Qu (OpQ.add rfl rfl rfl ⟨by omega,by omega⟩) (k:=Qu (OpQ.sliceRow (i:=0) (p:=0) (q:=(slen s)+(slen v)) (r:=scap s) rfl rfl rfl rfl (Eq.trans (b:=some (vint ((slen s:Int)+(slen v:Int)))) rfl (by first | rfl | (congr 2; omega))) rfl (by omega) (by omega) (by omega) (by first | (intro h; cases h; done) | exact fun _=>rfl) sla51 Tryz.runUnderlying51 sz270) (k:=Qa (k:=Nl [(0,slv s 0 ((slen s)+(slen v)) (scap s) 2),(1,vint (i:Int)),(2,v),(6,N0),(7,vint (slen v:Int)),(8,vint (slen s:Int))] ?_)))))))
 refine W.seq (Sn (Qm (k:=?_)))
 refine Qm (k:=Qm (k:=Qm (k:=Qu (OpQ.add rfl rfl rfl ⟨by omega,by omega⟩) (k:=Qu (OpQ.sliceCutLo (i:=0) (p:=i+(slen v)) rfl rfl (Eq.trans (b:=some (vint ((i:Int)+(slen v:Int)))) rfl (by first | rfl | (congr 2; omega))) rfl (by omega) (by omega) (by omega) sla51 Tryz.runUnderlying51 sz270) (k:=Qu (OpQ.overlaps (i:=0) (j:=0) rfl rfl rfl rfl rfl (by omega) (by omega) (by decide) ovl Tryz.runUnderlying51 sz270) (k:=Qu (OpQ.not rfl rfl) (k:=Nl [(0,slv s 0 ((slen s)+(slen v)) (scap s) 2),(1,vint (i:Int)),(2,v),(6,N0),(7,vint (slen v:Int)),(8,vint (slen s:Int)),(68,.bool true)] ?_)))))))
 refine W.condT rfl ?_
 refine W.seq (W.drawG mixed ?_)
 refine Gq 0 [] rfl (OpQ.move rfl rfl) ?_
 refine Gq 1 [] rfl (OpQ.move rfl rfl) ?_
 refine Gq 2 [] rfl (OpQ.move rfl rfl) ?_
 refine Gq 3 [] rfl (OpQ.add rfl rfl rfl ⟨by omega,by omega⟩) ?_
 refine WG.hold (Rw 270 2 s (mcells ms),[8]) ?_
 refine Gq 4 [0] rfl (OpQ.sliceCutLo (i:=0) (p:=i+(slen v)) rfl rfl (Eq.trans (b:=some (vint ((i:Int)+(slen v:Int)))) rfl (by first | rfl | (congr 2; omega))) rfl (by omega) (by omega) (by omega) sla51 Tryz.runUnderlying51 sz270) ?_
 refine Gq 5 [0] rfl (OpQ.move rfl rfl) ?_
 refine Gq 6 [0] rfl (OpQ.move rfl rfl) ?_
 refine Gq 7 [0] rfl (OpQ.sliceCutLo (i:=0) (p:=i) rfl rfl (Eq.trans (b:=some (vint (i:Int))) rfl (by first | rfl | (congr 2; omega))) rfl (by omega) (by omega) (by omega) sla51 Tryz.runUnderlying51 sz270) ?_
 refine WG.one (i:=8) (by kernel_rfl) (UpG.run rfl rfl rfl (OpRun.copyShift' (i:=0) (p:=i) (p1:=(i+(slen v))) (q:=((slen s)+(slen v))) (by omega) rfl rfl rfl rfl (by omega) (by omega) (by omega) Tryz.runUnderlying51 sz270) ?_)
 rintro _ _ ⟨rfl,rfl⟩
 refine ⟨es [] rfl,?_⟩
 refine WG.done (by kernel_rfl) ?_
 refine thn_n (Ww [(0,slv s 0 ((slen s)+(slen v)) (scap s) 2),(1,vint (i:Int)),(2,v),(6,N0),(7,vint (slen v:Int)),(8,vint (slen s:Int))] [Rw 270 2 (slv s 0 ((slen s)+(slen v)) (scap s) 2) ((mcells ms).take ((i+1)*2)++(mcells ms).drop (i*2)),Rw 270 2 v (mcells ([m])),Al R] ?_)
 refine Sn (Qm (k:=Qm (k:=?_)))
 refine Nr 0 fun hr16a hr16b hr16c=>?_
 try simp only [La,Lc,Ln,List.length_take,List.length_drop] at hr16a
 refine WN.fact (fun _ _ s=>row_cap (i:=0) rfl s) (fun hcap17=>?_)
 refine Qu (OpQ.sliceRowLo (i:=0) (p:=i) rfl rfl (Eq.trans (b:=some (vint (i:Int))) rfl (by first | rfl | (congr 2; omega))) rfl (by first | omega | (simp; omega)) sla51 Tryz.runUnderlying51 sz270) (k:=Qm (k:=Rn (OpRun.copySrc (i:=0) (p:=i) (m:=slen v) (news:=mcells ([m])) rfl rfl rfl rfl (fun _ t=>Sat.srcRow (i:=1) rfl t) (by omega) Tryz.runUnderlying51 sz270) (k:=Nw [(0,slv s 0 ((slen s)+(slen v)) (scap s) 2),(1,vint (i:Int)),(2,v),(6,N0),(7,vint (slen v:Int)),(8,vint (slen s:Int))] [Rw 270 2 (slv s 0 ((slen s)+(slen v)) (scap s) 2) (((mcells ms).take ((i+1)*2)++(mcells ms).drop (i*2)).take (i*2)++(mcells ([m]))++((mcells ms).take ((i+1)*2)++(mcells ms).drop (i*2)).drop ((i+(slen v))*2)),Rw 270 2 v (mcells ([m])),Al R] ?_)))
 refine Sn (Qm (k:=Qa (k:=Nl [(0,slv s 0 ((slen s)+(slen v)) (scap s) 2),(1,vint (i:Int)),(2,v),(6,slv s 0 ((slen s)+(slen v)) (scap s) 2),(7,vint (slen v:Int)),(8,vint (slen s:Int))] ?_)))
 refine Wr 0 fun hr18a hr18b hr18c=>?_
 try simp only [La,Lc,Ln,List.length_take,List.length_drop] at hr18a
 refine W.ret (thn_r (ret1 (M:=[Rw 270 2 (slv s 0 ((slen s)+(slen v)) (scap s) 2) (mcells (ms.take i++m :: ms.drop i))]) rfl rfl (⟨slv s 0 ((slen s)+(slen v)) (scap s) 2,rfl,rfl⟩) ((es [0,1] rfl).trans (Ent.of_eq (by rw [← insert_room (i:=i) (k:=slen v) (by omega) hv1]; rfl)))))
end Go.Lk
open Go.Proofs
namespace Go.Lk
namespace Spec
theorem byteOf_nat (m:Nat):(byteOf (m:Int)).toNat=m % 256:=by
  unfold byteOf
  rw [UInt8.toNat_ofNat']
  omega
theorem num_be_aux (m:Nat):∀ (j acc:Nat),(acc+1)*256 ^ j≤9223372036854775808→(be j (m:Int)).foldl step8 (acc:Int)=((acc*256 ^ j+m % 256 ^ j:Nat):Int)
  | 0,acc,h=>by simp [be,Nat.mod_one]
  | j+1,acc,h=>by
    have hp:(m:Int) / 2 ^ (8*j)=((m / 256 ^ j:Nat):Int):=by
      have:(2:Int) ^ (8*j)=((256 ^ j:Nat):Int):=by
        rw [Int.natCast_pow,Int.pow_mul]; rfl
      rw [this,← Int.natCast_ediv]
    have hpos:0 < 256 ^ j:=Nat.pow_pos (by decide)
    have hsmall:acc+1≤36028797018963968:=by
      have h1:(acc+1)*256≤(acc+1)*256 ^ (j+1):=Nat.mul_le_mul_left _ (by rw [Nat.pow_succ]; omega)
      omega
    have e:be (j+1) (m:Int)=byteOf (((m / 256 ^ j:Nat):Int)) :: be j m:=by rw [be,hp]
    rw [e,List.foldl_cons,step8_eq _ (by omega) (by omega),byteOf_nat]
    have e2:(acc:Int)*256+((m / 256 ^ j % 256:Nat):Int)=((acc*256+m / 256 ^ j % 256:Nat):Int):=by omega
    rw [e2,num_be_aux m j (acc*256+m / 256 ^ j % 256) (by
      have h1:acc*256+m / 256 ^ j % 256+1≤(acc+1)*256:=by omega
      have h2:=Nat.mul_le_mul_right (256 ^ j) h1
      rw [Nat.pow_succ,Nat.mul_comm (256 ^ j) 256,← Nat.mul_assoc] at h
      omega)]
    congr 1
    rw [Nat.pow_succ,Nat.mod_mul,Nat.add_mul,Nat.mul_assoc,Nat.mul_comm 256 (256 ^ j),Nat.mul_comm (256 ^ j) (m / 256 ^ j % 256)]
    omega
theorem num_be {j:Nat} {n:Int} (hj:j≤7) (h0:0≤n) (h1:n < 256 ^ j):num (be j n)=n:=by
  obtain ⟨m,rfl⟩:∃ m:Nat,n=m:=⟨n.toNat,by omega⟩
  have h:=num_be_aux m j 0 (by
    have:256 ^ j≤256 ^ 7:=Nat.pow_le_pow_right (by decide) hj
    omega)
  have hm:m < 256 ^ j:=by
    have:((m:Nat):Int) < ((256 ^ j:Nat):Int):=by rw [Int.natCast_pow]; exact h1
    omega
  rw [Nat.mod_eq_of_lt hm] at h
  unfold num
  simpa using h
theorem take_app {a b:Bytes} {n:Nat} (h:a.length=n):take n (some (a++b))=(a,some b):=by
  subst h; simp [take]
theorem get_be {j:Nat} {n:Int} {b:Bytes} (hj:j≤7) (h0:0≤n) (h1:n < 256 ^ j):get j (some (be j n++b))=(n,some b):=by
  unfold get
  rw [take_app (be_length j n)]
  simp only [num_be hj h0 h1]
theorem rnumber_be {lo hi n:Int} {b:Bytes} (h0:0≤n) (h1:n≤1099511627776) (hlo:lo≤n) (hhi:n≤hi):rnumber lo hi (some (be 6 n++b))=(n,some b):=by
  unfold rnumber
  rw [get_be (by decide) h0 (by omega)]
  simp only
  rw [if_neg (by omega)]
theorem rtext_be {lo hi:Int} {x b:Bytes} (h:x.length≤4096) (hlo:lo≤x.length) (hhi:x.length≤hi):rtext lo hi (some (be 2 x.length++x++b))=(x,some b):=by
  unfold rtext
  rw [List.append_assoc,get_be (by decide) (by omega) (by omega)]
  simp only
  rw [if_neg (by omega),Int.toNat_natCast,take_app rfl]
theorem number_ok {n:Int} (h0:0≤n) (h1:n≤1099511627776):number n = .ok (be 6 n):=by unfold number; rw [if_pos ⟨h0,h1⟩]
theorem text_ok {x:Bytes} (h:x.length≤4096):text x = .ok (be 2 x.length++x):=by unfold text; rw [if_pos h]
theorem put_consN {n:Int} {ps:List Part} {y:Bytes} (h0:0≤n) (h1:n≤1099511627776) (h:put ps = .ok y):put (.n n :: ps) = .ok (be 6 n++y):=by simp [put,part,number_ok h0 h1,h]
theorem put_consB {x:Bytes} {ps:List Part} {y:Bytes} (hx:x.length≤4096) (h:put ps = .ok y):put (.b x :: ps) = .ok (be 2 x.length++x++y):=by simp [put,part,text_ok hx,h]
end Spec
end Go.Lk
