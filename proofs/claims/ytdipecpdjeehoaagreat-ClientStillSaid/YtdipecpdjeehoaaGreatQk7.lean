import Derived.Test.YtdipecpdjeehoaaGreatProg
import Derived.KernelRfl
import Derived.Test.YtdipecpdjeehoaaGreatQk0
open Go.Proofs
namespace Go.Lk
structure Thing where
  sort:UInt8
  key:Bytes
  nonce:Bytes
  text:Bytes
  other:Bytes
  deriving DecidableEq
def Thing.cells (t:Thing):List Value:=[.int .u8 t.sort.toNat,str t.key,str t.nonce,str t.text,str t.other]
abbrev Thing.val (t:Thing):Value:=.agg t.cells.toArray
theorem str_beq (a b:Bytes):(((⟨a.toArray⟩:ByteArray).toList) == ((⟨b.toArray⟩:ByteArray).toList))=decide (a=b):=by
  rw [ByteArray.toList_eq,ByteArray.toList_eq]
  simp only
  by_cases h:a=b <;> simp [h]
theorem strEq_run (d:Nat):∀ (x y:Bytes) w,(Op.equalIn (d+1) 9 (str x) (str y)).run Tryz.prog w = .ok (decide (x=y)) w:=fun x y w=>by
  have h:=run_equalIn_string (P:=Tryz.prog) w d 9 ⟨x.toArray⟩ ⟨y.toArray⟩ Tryz.underlying9
  rw [str_beq] at h
  exact h
theorem u8Eq_run (d:Nat):∀ (x y:UInt8) w,(Op.equalIn (d+1) 5 (.int .u8 x.toNat) (.int .u8 y.toNat)).run Tryz.prog w = .ok (decide (x=y)) w:=fun x y w=>by
  have h:=run_equalIn_int (P:=Tryz.prog) w d 5 .u8 .u8 x.toNat y.toNat Tryz.underlying5
  rw [h]
  have e:((x.toNat:Int) == (y.toNat:Int))=decide (x=y):=by
    by_cases h:x=y
    · simp [h]
    · have:¬ ((x.toNat:Int)=(y.toNat:Int)):=fun e=>h (UInt8.toNat_inj.1 (by omega))
      simp [h,this]
  rw [e]
theorem thing_eqIn (d:Nat) (a b:Thing) (w:World):(Op.equalIn (d+2) 339 a.val b.val).run Tryz.prog w = .ok (decide (a=b)) w:=by
  rw [Thing.val,Thing.val,run_equalIn_agg w (d+1) 339 _ _ (by kernel_rfl) (by kernel_rfl)]
  have hf:(Tryz.prog.fieldsOf 339).toList=[{ name := "sort",type:=5,offset:=0,embedded:=false,tag := "",pkgPath := "locket/suite",byteOffset:=0 },{ name := "key",type:=9,offset:=1,embedded:=false,tag := "",pkgPath := "locket/suite",byteOffset:=8 },{ name := "nonce",type:=9,offset:=2,embedded:=false,tag := "",pkgPath := "locket/suite",byteOffset:=24 },{ name := "text",type:=9,offset:=3,embedded:=false,tag := "",pkgPath := "locket/suite",byteOffset:=40 },{ name := "other",type:=9,offset:=4,embedded:=false,tag := "",pkgPath := "locket/suite",byteOffset:=56 }]:=by kernel_rfl
  have p0:∀ (t:Thing) w,(part 5 t.cells.toArray 0).run Tryz.prog w = .ok (.int .u8 t.sort.toNat) w:=fun _ _=>by kernel_rfl
  have p1:∀ (t:Thing) w,(part 9 t.cells.toArray 1).run Tryz.prog w = .ok (str t.key) w:=fun _ _=>by kernel_rfl
  have p2:∀ (t:Thing) w,(part 9 t.cells.toArray 2).run Tryz.prog w = .ok (str t.nonce) w:=fun _ _=>by kernel_rfl
  have p3:∀ (t:Thing) w,(part 9 t.cells.toArray 3).run Tryz.prog w = .ok (str t.text) w:=fun _ _=>by kernel_rfl
  have p4:∀ (t:Thing) w,(part 9 t.cells.toArray 4).run Tryz.prog w = .ok (str t.other) w:=fun _ _=>by kernel_rfl
  rw [hf]
  have e:a=b ↔ a.sort=b.sort∧a.key=b.key∧a.nonce=b.nonce∧a.text=b.text∧a.other=b.other:=by
    cases a; cases b; simp
  have st:∀ (nm tg pk:String) (ty off bo:Nat) (em:Bool) (fs:List Field) (u v:Value) (c:Bool) w,nm ≠ "_" → (∀ w,(part ty a.cells.toArray off).run Tryz.prog w = .ok u w)→(∀ w,(part ty b.cells.toArray off).run Tryz.prog w = .ok v w) →
      (∀ w,(Op.equalIn (d+1) ty u v).run Tryz.prog w = .ok c w)→(Op.eqFields (d+1) a.cells.toArray b.cells.toArray ({ name:=nm,type:=ty,offset:=off,embedded:=em,tag:=tg,pkgPath:=pk,byteOffset:=bo } :: fs)).run Tryz.prog w=if c then (Op.eqFields (d+1) a.cells.toArray b.cells.toArray fs).run Tryz.prog w else .ok false w:=by
    intro nm tg pk ty off bo em fs u v c w h1 h2 h3 h4
    rw [Op.eqFields,if_pos h1]
    simp only [Sem.run_bind,h2,h3,h4,Result.andThen_ok]
    cases c <;> simp
  rw [st "sort" _ _ 5 0 _ _ _ _ _ _ _ (by decide) (p0 a) (p0 b) (u8Eq_run d _ _),st "key" _ _ 9 1 _ _ _ _ _ _ _ (by decide) (p1 a) (p1 b) (strEq_run d _ _),st "nonce" _ _ 9 2 _ _ _ _ _ _ _ (by decide) (p2 a) (p2 b) (strEq_run d _ _),
    st "text" _ _ 9 3 _ _ _ _ _ _ _ (by decide) (p3 a) (p3 b) (strEq_run d _ _),st "other" _ _ 9 4 _ _ _ _ _ _ _ (by decide) (p4 a) (p4 b) (strEq_run d _ _)]
  simp only [Op.eqFields,Sem.run_pure,decide_eq_true_eq]
  by_cases h0:a.sort=b.sort <;> by_cases h1:a.key=b.key <;> by_cases h2:a.nonce=b.nonce <;> by_cases h3:a.text=b.text <;> by_cases h4:a.other=b.other <;>
    simp [e,h0,h1,h2,h3,h4]
theorem thing_eq (a b:Thing) (w:World):(Op.equal 339 a.val b.val).run Tryz.prog w = .ok (decide (a=b)) w:=thing_eqIn 9998 a b w
def KnownRel (es:Array MapEntry) (l:List (Thing × Int)):Prop:=es.toList.map (fun e=>(e.key,e.val))=l.map fun p=>(p.1.val,vint p.2)
def findT (t:Thing):List (Thing × Int)→Option Int
  | []=>none
  | (u,i) :: l=>if t=u then some i else findT t l
theorem run_findAsking (t:Thing) (w:World):∀ (es:List MapEntry) (l:List (Thing × Int)) (i:Nat),es.map (fun e=>(e.key,e.val))=l.map (fun p=>(p.1.val,vint p.2)) →
    ∃ r,(Instr.findAsking 339 t.val es i).run Tryz.prog w = .ok r w∧r.map (·.2)=(findT t l).map vint∧(r=none ↔ findT t l=none)
  | [],[],i,_=>⟨none,by simp [Instr.findAsking],by simp [findT]⟩
  | [],_ :: _,_,h=>by simp at h
  | _ :: _,[],_,h=>by simp at h
  | e :: es,(u,j) :: l,i,h=>by
    simp only [List.map_cons,List.cons.injEq,Prod.mk.injEq] at h
    obtain ⟨⟨h1,h2⟩,h3⟩:=h
    by_cases hu:t=u
    · refine ⟨some (i,e.val),?_,by simp [findT,hu,h2],by simp [findT,hu]⟩
      simp only [Instr.findAsking,Sem.run_bind,h1,thing_eq,Result.andThen_ok]
      simp [hu]
    · obtain ⟨r,h4,h5,h6⟩:=run_findAsking t w es l (i+1) h3
      refine ⟨r,?_,by simp [findT,hu,h5],by simp [findT,hu,h6]⟩
      simp only [Instr.findAsking,Sem.run_bind,h1,thing_eq,Result.andThen_ok]
      simp [hu,h4]
theorem run_findKey_thing (t:Thing) (w:World) (es:List MapEntry) (l:List (Thing × Int)) (h:es.map (fun e=>(e.key,e.val))=l.map (fun p=>(p.1.val,vint p.2))) :
    ∃ r,(Instr.findKey 339 t.val es).run Tryz.prog w = .ok r w∧r.map (·.2)=(findT t l).map vint∧(r=none ↔ findT t l=none):=by
  cases es with
  | nil =>
    refine ⟨none,?_,?_⟩
    · simp only [Instr.findKey,Sem.run_bind,Tryz.runUnderlying339,Result.andThen_ok,Instr.findNow]; rfl
    · have:l=[]:=by cases l <;> simp_all
      subst this; simp [findT]
  | cons e es =>
    obtain ⟨r,h1,h2⟩:=run_findAsking t w (e :: es) l 0 h
    refine ⟨r,?_,h2⟩
    simp only [Instr.findKey,Sem.run_bind,Tryz.runUnderlying339,Result.andThen_ok,Instr.findNow,Instr.sameNow]
    exact h1
theorem run_checkKey_thing (t:Thing) (w:World) (em:Bool):(Instr.checkKey em 10000 339 t.val).run Tryz.prog w = .ok () w:=by
  cases em <;> kernel_rfl
def Asn.known (b:Nat) (l:List (Thing × Int)):Asn:=Asn.rep (fun x:Array MapEntry × Nat=>KnownRel x.1 l) (fun x=>[Asn.obj b (.map x.1 x.2)])
def once? (t:Thing):Bool:=t.sort == 72 || t.sort == 77
def knownOf:Int→List Thing→List (Thing × Int)
  | _,[]=>[]
  | i,t :: l=>if once? t then (t,i+1) :: knownOf (i+1) l else knownOf (i+1) l
theorem knownOf_append:∀ (A:List Thing) (i:Int) (t:Thing),once? t=true→knownOf i (A++[t])=knownOf i A++[(t,i+A.length+1)]
  | [],i,t,h=>by simp [knownOf,h]
  | u :: A,i,t,h=>by
    have ih:=knownOf_append A (i+1) t h
    have e:i+1+(A.length:Int)+1=i+((u :: A).length:Int)+1:=by simp; omega
    by_cases hu:once? u=true
    · simp only [List.cons_append,knownOf,hu,if_true,ih,e]
    · simp only [List.cons_append,knownOf,hu,ih,e]; rfl
theorem knownOf_append':∀ (A:List Thing) (i:Int) (t:Thing),once? t=false→knownOf i (A++[t])=knownOf i A
  | [],i,t,h=>by simp [knownOf,h]
  | u :: A,i,t,h=>by
    have ih:=knownOf_append' A (i+1) t h
    by_cases hu:once? u=true
    · simp only [List.cons_append,knownOf,hu,if_true,ih]
    · simp only [List.cons_append,knownOf,hu,ih]
section
variable {n:Nat} {g:G} {l:Env} {L M R:List Asn} {o:Oper} {T U E:TypeId} {x y z:Operand} {v u:Value} {i:Nat}
theorem OpQ.thingNeq {a b:Thing} (ho:o.op = .binOp .neq 339 x y U) (hx:ev l x=some (.agg #[.int .u8 a.sort.toNat,str a.key,str a.nonce,str a.text,str a.other])) (hy:ev l y=some (.agg #[.int .u8 b.sort.toNat,str b.key,str b.nonce,str b.text,str b.other])):OpQ Tryz.prog n g o l L (.bool (decide (a≠b))):=.mk' fun ac w s=>by
  have hx':ac.eval x=a.val:=s.ev hx
  have hy':ac.eval y=b.val:=s.ev hy
  have he:(eqGuard .neq 339 x y a.val b.val).run Tryz.prog w = .ok () w:=by kernel_rfl
  have e:(binOp .neq 339 a.val b.val).run Tryz.prog w = .ok (.bool (decide (a≠b))) w:=by
    have h0:binOp .neq 339 a.val b.val=(do pure (.bool (!(← Op.equal 339 a.val b.val))):Sem Value):=rfl
    rw [h0,Sem.run_bind,thing_eq]
    by_cases h:a=b <;> simp [h]
  simp only [execOp,ho,hx',hy',Sem.run_bind,he,e,Result.andThen_ok,Sem.run_pure]
theorem OpQ.lookupKnown {b:Nat} {t:Thing} {kl:List (Thing × Int)} (ho:o.op = .lookup 237 x y true) (hx:ev l x=some (.map (some b))) (hy:ev l y=some (.agg #[.int .u8 t.sort.toNat,str t.key,str t.nonce,str t.text,str t.other]))
    (hL:take1 i L=some (Asn.known b kl,R)):OpQ Tryz.prog n g o l L (.tuple #[vint ((findT t kl).getD 0),.bool (findT t kl).isSome]):=fun a w s tt=>by
  obtain ⟨⟨es,ck⟩,hk,t1⟩:=Sat.opens Opens.rep hL tt
  have hb:=t1.obj
  have hy':a.eval y=t.val:=s.ev hy
  obtain ⟨r,h1,h2,h3⟩:=run_findKey_thing t w es.toList kl hk
  have hg:(getObj b).run Tryz.prog w = .ok (.map es ck) w:=run_getObj_map w b es ck hb
  have hz:∀ w,(zeroValue 3).run Tryz.prog w = .ok (vint 0) w:=fun _=>by kernel_rfl
  simp only [execOp,ho,s.ev hx,hy',Instr.lookup,Sem.run_bind,Tryz.runUnderlying237,Result.andThen_ok,hg,run_checkKey_thing,h1,Sem.run_pure]
  cases hr:r with
  | none =>
    have:findT t kl=none:=h3.1 hr
    simp [this,hz]
  | some p =>
    obtain ⟨j,pv⟩:=p
    cases hf:findT t kl with
    | none=>have:=h3.2 hf; rw [hr] at this; cases this
    | some k =>
      rw [hr,hf] at h2
      simp only [Option.map_some,Option.some.injEq] at h2
      subst h2
      simp
theorem OpRun.updateKnown {b:Nat} {t:Thing} {kl:List (Thing × Int)} {p:Int} (ho:o.op = .mapUpdate 237 x y z) (hx:ev l x=some (.map (some b))) (hy:ev l y=some (.agg #[.int .u8 t.sort.toNat,str t.key,str t.nonce,str t.text,str t.other])) (hz:ev l z=some (vint p))
    (hL:take1 i L=some (Asn.known b kl,R)) (hf:findT t kl=none):OpRun Tryz.prog n g o l L (fun r M=>r=undef∧M=Asn.known b (kl++[(t,p)]) :: R):=fun a w s tt=>by
  obtain ⟨⟨es,ck⟩,hk,t1⟩:=Sat.opens Opens.rep hL tt
  have hb:=t1.obj
  have hy':a.eval y=t.val:=s.ev hy
  obtain ⟨r,h1,h2,h3⟩:=run_findKey_thing t w es.toList kl hk
  have hr:=h3.2 hf
  subst hr
  have hg:(getObj b).run Tryz.prog w = .ok (.map es ck) w:=run_getObj_map w b es ck hb
  let o':Obj:=.map (es.push { key:=t.val,val:=vint p,born:=ck }) (ck+1)
  let w':World:={ w with heap:=w.heap.setIfInBounds b o' }
  have hlt:b < w.heap.size:=(Array.getElem?_eq_some_iff.1 hb).1
  have hset:(setObj b o').run Tryz.prog w = .ok () w':=by
    simp only [setObj,Sem.run,hb]; rfl
  have hturn:Turned w w' b o':=⟨rfl,rfl,rfl,by simp [w',hlt],fun x hx y hy=>by
    simp only [w']; rw [Array.getElem?_setIfInBounds_ne (Ne.symm hx)]; exact hy⟩
  refine ⟨.skip,undef,w',_,?_,.inr ⟨rfl,rfl⟩,(t1.turn hturn).ent (Ent.rep (f:=fun x:Array MapEntry × Nat=>[Asn.obj b (.map x.1 x.2)]) (es.push { key:=t.val,val:=vint p,born:=ck },ck+1) ?_),rfl,rfl⟩
  · simp only [execOp,ho,s.ev hx,hy',s.ev hz,Instr.mapUpdate,Sem.run_bind,Tryz.runUnderlying237,Result.andThen_ok,hg,run_checkKey_thing,h1]
    rw [show (Obj.map (es.push { key:=t.val,val:=vint p,born:=ck }) (ck+1))=o' from rfl,hset]; rfl
  · have hk':es.toList.map (fun e=>(e.key,e.val))=kl.map fun p=>(p.1.val,vint p.2):=hk
    simp only [KnownRel,Array.toList_push,List.map_append,hk',List.map_cons,List.map_nil]
end
def Fits (A:List Thing):Prop:=A.length < 1099511627776∧∀ t ∈ A,t.sort=66→t.text.length≤1000000
theorem Fits.add {A:List Thing} {t:Thing} (h:Fits A) (hl:A.length+1 < 1099511627776) (ht:t.sort=66→t.text.length≤1000000):Fits (A++[t]):=by
  refine ⟨by simpa using hl,fun u hu=>?_⟩
  rcases List.mem_append.1 hu with h1 | h1
  · exact h.2 u h1
  · have:u=t:=by simpa using h1
    subst this; exact ht
def SuiteR (sp:Nat) (A:List Thing):Asn:=Asn.rep (fun _:Value × Nat=>Fits A) fun x =>
  [Asn.cells sp 240 [.bool false,.slice none 0 0,vint 0,x.1,.map (some x.2)],Asn.row 339 5 x.1 (A.flatMap Thing.cells),Asn.known x.2 (knownOf 0 A)]
theorem things_length (A:List Thing):(A.flatMap Thing.cells).length=A.length*5:=by
  induction A with
  | nil=>rfl
  | cons t A ih=>simp [ih,Thing.cells]; omega
theorem things_at:∀ {A:List Thing} {i:Nat} {t:Thing},A[i]? = some t→((A.flatMap Thing.cells).drop (i*5)).take 5=t.cells
  | u :: A,0,t,h=>by
    simp at h; subst h
    simp only [Nat.zero_mul,List.drop_zero,List.flatMap_cons]
    rw [List.take_append_of_le_length (by simp [Thing.cells])]
    simp [Thing.cells]
  | u :: A,i+1,t,h=>by
    simp at h
    have:=things_at h
    rw [List.flatMap_cons,show (i+1)*5=u.cells.length+i*5 from by simp [Thing.cells]; omega,← List.drop_drop,List.drop_left]
    exact this
def be:Nat→Int→Bytes
  | 0,_=>[]
  | j+1,n=>byteOf (n / 2 ^ (8*j)) :: be j n
@[simp] theorem be_length (j:Nat) (n:Int):(be j n).length=j:=by induction j <;> simp [be, *]
namespace Spec
def once (A:List Thing) (t:Thing):Int × List Thing :=
  match findT t (knownOf 0 A) with
  | some i=>(i,A)
  | none=>(A.length+1,A++[t])
def sign (s:UInt8) (n:Int):Bytes:=83 :: s :: List.replicate 22 0++be 8 n
def box (n:Int) (size:Nat):Bytes:=66 :: List.replicate (size+7) 0++be 8 n
def sum (A:List Thing) (text:Bytes):Bytes × List Thing :=
  let r:=once A ⟨72,[],[],text,[]⟩
  (sign 72 r.1,r.2)
def code (A:List Thing) (key text:Bytes):Bytes × List Thing :=
  let r:=once A ⟨77,key,[],text,[]⟩
  (sign 77 r.1,r.2)
def key (A:List Thing):Bytes × List Thing:=(sign 75 (A.length+1),A++[⟨75,[],[],[],[]⟩])
def num (bs:Bytes):Int:=bs.foldl step8 0
def unshut (A:List Thing) (key nonce other b:Bytes):Except Int Bytes :=
  if key.length=32∧nonce.length=12 then
    if b.length < 16 then .error 20 else
    match A[(num (b.drop (b.length - 8)) - 1).toNat]? with
    | none=>.error 20
    | some t=>if num (b.drop (b.length - 8)) < 1 then .error 20 else if t=⟨66,key,nonce,t.text,other⟩∧box (num (b.drop (b.length - 8))) t.text.length=b then .ok t.text else .error 20
  else .error 11
theorem num_succ {bs:Bytes} {k:Nat} (h:k < bs.length):num (bs.take (k+1))=step8 (num (bs.take k)) (bs.getD k 0):=by
  rw [num,List.take_succ_eq_append_getElem h,List.foldl_append,List.getD_eq_getElem?_getD,List.getElem?_eq_getElem h]; rfl
@[simp] theorem sign_length (s:UInt8) (n:Int):(sign s n).length=32:=by simp [sign]
@[simp] theorem box_length (n:Int) (size:Nat):(box n size).length=size+16:=by simp [box]
end Spec
end Go.Lk
open Go.Proofs
set_option maxRecDepth 8000
namespace Go.Lk
open Asn renaming cells→Cl,row→Rw,kn→Kk,all→Al
theorem sz22:∀ (w:World),(sizeOf 22).run Tryz.prog w = .ok 1 w:=fun _=>by kernel_rfl
theorem sz238:∀ (w:World),(sizeOf 238).run Tryz.prog w = .ok 1 w:=fun _=>by kernel_rfl
theorem sz339:∀ (w:World),(sizeOf 339).run Tryz.prog w = .ok 5 w:=fun _=>by kernel_rfl
theorem sz5:∀ (w:World),(sizeOf 5).run Tryz.prog w = .ok 1 w:=fun _=>by kernel_rfl
theorem b2s22_9:∀ (a:Option Addr) (m c:Nat) (w:World),(convert 22 9 (.slice a m c)).run Tryz.prog w=(Conv.bytesToString (.slice a m c)).run Tryz.prog w:=fun a m c w=>run_convert_bytes_string w 22 9 5 a m c Tryz.underlying22 (by kernel_rfl) Tryz.underlying9
theorem fa240_0:∀ (b k:Nat) (w:World),(Instr.fieldAt 240 (vptr b k) 0).run Tryz.prog w = .ok (vptr b (k)) w:=fun _ _ _=>by kernel_rfl
theorem fa240_3:∀ (b k:Nat) (w:World),(Instr.fieldAt 240 (vptr b k) 3).run Tryz.prog w = .ok (vptr b (k+3)) w:=fun _ _ _=>by kernel_rfl
theorem fa240_4:∀ (b k:Nat) (w:World),(Instr.fieldAt 240 (vptr b k) 4).run Tryz.prog w = .ok (vptr b (k+4)) w:=fun _ _ _=>by kernel_rfl
theorem fa339_3:∀ (b k:Nat) (w:World),(Instr.fieldAt 339 (vptr b k) 3).run Tryz.prog w = .ok (vptr b (k+3)) w:=fun _ _ _=>by kernel_rfl
theorem ix22:∀ (a:Addr) (m c:Nat) (p:Int) (w:World),0≤p→p < m→(Instr.indexAt 22 (.slice (some a) m c) (vint p)).run Tryz.prog w = .ok (.pointer (some (a.add (p.toNat*1)))) w:=run_indexAt_slice Tryz.runUnderlying22 sz5
theorem ix238:∀ (a:Addr) (m c:Nat) (p:Int) (w:World),0≤p→p < m→(Instr.indexAt 238 (.slice (some a) m c) (vint p)).run Tryz.prog w = .ok (.pointer (some (a.add (p.toNat*5)))) w:=run_indexAt_slice Tryz.runUnderlying238 sz339
theorem ix30:∀ (a:Addr) (m c:Nat) (p:Int) (w:World),0≤p→p < m→(Instr.indexAt 30 (.slice (some a) m c) (vint p)).run Tryz.prog w = .ok (.pointer (some (a.add (p.toNat*1)))) w:=run_indexAt_slice Tryz.runUnderlying30 sz22
theorem ld22:∀ (a:Addr) (w:World),(loadVar 22 a).run Tryz.prog w=(Go.load a).run Tryz.prog w:=fun _ _=>by kernel_rfl
theorem ld237:∀ (a:Addr) (w:World),(loadVar 237 a).run Tryz.prog w=(Go.load a).run Tryz.prog w:=fun _ _=>by kernel_rfl
theorem ld238:∀ (a:Addr) (w:World),(loadVar 238 a).run Tryz.prog w=(Go.load a).run Tryz.prog w:=fun _ _=>by kernel_rfl
theorem ld339:∀ (a:Addr) (w:World),(loadVar 339 a).run Tryz.prog w=((loadCells a 5).bind fun c=>.pure (Value.agg c)).run Tryz.prog w:=fun _ _=>by kernel_rfl
theorem ld4:∀ (a:Addr) (w:World),(loadVar 4 a).run Tryz.prog w=(Go.load a).run Tryz.prog w:=fun _ _=>by kernel_rfl
theorem ld5:∀ (a:Addr) (w:World),(loadVar 5 a).run Tryz.prog w=(Go.load a).run Tryz.prog w:=fun _ _=>by kernel_rfl
theorem ld9:∀ (a:Addr) (w:World),(loadVar 9 a).run Tryz.prog w=(Go.load a).run Tryz.prog w:=fun _ _=>by kernel_rfl
theorem len22 (ty:TypeId):∀ (a:Option Addr) (n c:Nat) (w:World),(Builtin.len_ #[22] ty #[.slice a n c]).run Tryz.prog w = .ok (vint n) w:=fun _ _ _ _=>by kernel_rfl
theorem len238 (ty:TypeId):∀ (a:Option Addr) (n c:Nat) (w:World),(Builtin.len_ #[238] ty #[.slice a n c]).run Tryz.prog w = .ok (vint n) w:=fun _ _ _ _=>by kernel_rfl
theorem len30 (ty:TypeId):∀ (a:Option Addr) (n c:Nat) (w:World),(Builtin.len_ #[30] ty #[.slice a n c]).run Tryz.prog w = .ok (vint n) w:=fun _ _ _ _=>by kernel_rfl
theorem lens9 (ty:TypeId):∀ (l:Bytes) (w:World),(Builtin.len_ #[9] ty #[str l]).run Tryz.prog w = .ok (vint l.length) w:=fun _ _=>by kernel_rfl
theorem mk22:∀ (m:Nat) (w:World),m≤140737488355328→(Instr.makeSlice 22 (vint m) (vint m)).run Tryz.prog w=(do pure (.slice (some (← newRow 5 (List.replicate m (.int .u8 0)).toArray)) m m):Sem Value).run Tryz.prog w:=run_makeSlice_row (inf:=Tryz.t5) Tryz.runUnderlying22 (fun _=>by kernel_rfl) (fun _=>by kernel_rfl) ⟨rfl,by decide,rfl⟩
theorem s2b9_22:∀ (s:ByteArray) (w:World),(convert 9 22 (.string s)).run Tryz.prog w=(Conv.stringToBytes 5 s).run Tryz.prog w:=fun _ _=>by kernel_rfl
theorem sla22:∀ v lo hi mx w,(Instr.sliceAt 22 v lo hi mx).run Tryz.prog w=(Instr.slice 22 v lo hi mx).run Tryz.prog w:=fun _ _ _ _ _=>by kernel_rfl
theorem zv339:∀ (w:World),(zeroValue 339).run Tryz.prog w = .ok (.agg #[.int .u8 0,.string .empty,.string .empty,.string .empty,.string .empty]) w:=fun _=>by kernel_rfl
theorem mixed:Tryz.prog.follows .mixedOrders=true:=by kernel_rfl
theorem within_fn (a:Int) (lo:Int) (hi:Int):Fn Tryz.prog 282 #[vint a,vint lo,vint hi] [] (fun v M=>.bool (decide (lo≤a∧a≤hi))=v∧M=[]):=by
 refine Fi 15 Tryz.func282 fun g R=>?_
 refine Ww [(0,vint a),(1,vint lo),(2,vint hi)] [Al R] ?_
 refine Sn (Qa (k:=Nl [(0,vint a),(1,vint lo),(2,vint hi),(6,.bool false)] ?_))
 refine Sn (Qm (k:=Qm (k:=?_)))
 by_cases h1:a ≥ lo
 ·refine Qu (OpQ.decT (OpQ.geq rfl rfl rfl) h1) (k:=Qm (k:=Qm (k:=Qm (k:=Qu (OpQ.leq rfl rfl rfl) (k:=Qt (k:=Qa (k:=Nl [(6,.bool (decide (a≤hi)))] ?_)))))))
  refine W.ret (ret1 (M:=[]) rfl rfl (⟨(by first | rfl | exact bool_dec (by omega) | exact bool_F (by omega) | exact bool_T (by omega) | exact (bool_dec (by omega)).symm | exact (bool_F (by omega)).symm | exact (bool_T (by omega)).symm | simp [*]),rfl⟩) (es [0] rfl))
 refine Qu (OpQ.decF (OpQ.geq rfl rfl rfl) h1) (k:=Qm (k:=Qs (k:=Qs (k:=Qs (k:=Qf (k:=Qa (k:=Nl [(6,.bool false)] ?_)))))))
 refine W.ret (ret1 (M:=[]) rfl rfl (⟨(by first | rfl | exact bool_dec (by omega) | exact bool_F (by omega) | exact bool_T (by omega) | exact (bool_dec (by omega)).symm | exact (bool_F (by omega)).symm | exact (bool_T (by omega)).symm | simp [*]),rfl⟩) (es [0] rfl))
theorem sizes_fn (k:Value) (n:Value) (ks:Bytes) (ns:Bytes):Fn Tryz.prog 292 #[k,n] [KB k ks,KB n ns] (fun v M=>.bool (decide (ks.length=32∧ns.length=12))=v∧M=[]):=by
 refine Fi 13 Tryz.func292 fun g R=>?_
 refine Ww [(0,k),(1,n)] [KB k ks,KB n ns,Al R] ?_
 refine Sn (Qa (k:=Nl [(0,k),(1,n),(4,.bool false)] ?_))
 refine Sn (Qm (k:=?_))
 refine Nk 0 fun hl1=>?_
 refine Qu (OpQ.lenSl (i:=0) rfl rfl rfl (len22 _)) (k:=?_)
 by_cases h2:(ks.length:Int)=32
 ·refine Qu (OpQ.decT (OpQ.eql rfl rfl rfl) h2) (k:=Qm (k:=Qm (k:=?_)))
  refine Nk 1 fun hl3=>?_
  refine Qu (OpQ.lenSl (i:=1) rfl rfl rfl (len22 _)) (k:=Qu (OpQ.eql rfl rfl rfl) (k:=Qt (k:=Qa (k:=Nl [(4,.bool (decide ((ns.length:Int)=12)))] ?_))))
  refine W.ret (ret1 (M:=[]) rfl rfl (⟨(by first | rfl | exact bool_dec (by omega) | exact bool_F (by omega) | exact bool_T (by omega) | exact (bool_dec (by omega)).symm | exact (bool_F (by omega)).symm | exact (bool_T (by omega)).symm | simp [*]),rfl⟩) (es [2] rfl))
 refine Qu (OpQ.decF (OpQ.eql rfl rfl rfl) h2) (k:=Qm (k:=Qs (k:=Qs (k:=Qs (k:=Qf (k:=Qa (k:=Nl [(4,.bool false)] ?_)))))))
 refine W.ret (ret1 (M:=[]) rfl rfl (⟨(by first | rfl | exact bool_dec (by omega) | exact bool_F (by omega) | exact bool_T (by omega) | exact (bool_dec (by omega)).symm | exact (bool_F (by omega)).symm | exact (bool_T (by omega)).symm | simp [*]),rfl⟩) (es [2] rfl))
def putAt (bs:Bytes) (j:Nat) (n:Int):Bytes:=bs.take (bs.length - j)++be j n
theorem putAt_length (bs:Bytes) (j:Nat) (n:Int) (h:j≤bs.length):(putAt bs j n).length=bs.length:=by simp [putAt]; omega
theorem putAt_zero (bs:Bytes) (n:Int):putAt bs 0 n=bs:=by simp [putAt,be]
theorem putAt_succ (bs:Bytes) (j:Nat) (n:Int) (h:j < bs.length):(putAt bs j n).set (bs.length - (j+1)) (byteOf (n / 2 ^ (8*j)))=putAt bs (j+1) n:=by
  unfold putAt
  have e1:bs.take (bs.length - j)=bs.take (bs.length - (j+1))++[bs[bs.length - (j+1)]]:=by
    have:bs.length - j=bs.length - (j+1)+1:=by omega
    rw [this,List.take_succ_eq_append_getElem (by omega)]
  rw [e1,List.append_assoc,List.set_append_right _ _ (by simp)]
  simp [be]
theorem put_fn (b:Value) (n:Int) (bs:Bytes) (hl:8≤bs.length) (hh:bs.length≤140737488355328):Fn Tryz.prog 208 #[b,vint n] [Rw 5 1 b (bv bs)] (fun v M=>b=v∧M=[Rw 5 1 b (bv (putAt bs 8 n))]):=by
 refine Fi 23 Tryz.func208 fun g R=>?_
 refine Ww [(0,b),(1,vint n)] [Rw 5 1 b (bv bs),Al R] ?_
 refine Sn (Qa (k:=Nl [(0,b),(1,vint n),(4,N0)] ?_))
 refine W.seq (Sn (Qa (k:=?_)))
 refine Nl [(0,b),(1,vint n),(4,N0),(5,vint 1)] ?_
 refine W.block (W.loop (X:=Nat) (fun j=>[(0,b),(1,vint n),(5,vint ((j:Int)+1))]) (fun j=>[Asn.pure (j≤8),Rw 5 1 b (bv (putAt bs j n)),Al R]) (fun j=>8 - j) 0 ⟨rfl,rfl,rfl,trivial⟩ (((es [0,0] rfl).trans (Ent.of_eq (by rw [putAt_zero]))).trans (Ent.pure_in (by omega))) (fun x=>?_))
 obtain ⟨j,rfl⟩:∃ y,y=x:=⟨x,rfl⟩
 show W _ _ _ _ _ [(0,b),(1,vint n),(5,vint ((j:Int)+1))] [Asn.pure (j≤8),Rw 5 1 b (bv (putAt bs j n)),Al R]
 refine W.opens Opens.pure (i:=0) rfl (fun _ hI1=>?_)
 replace hI1:=hI1
 show W _ _ _ _ _ [(0,b),(1,vint n),(5,vint ((j:Int)+1))] [Rw 5 1 b (bv (putAt bs j n)),Al R]
 refine Wr 0 fun hr2a hr2b hr2c=>?_
 try simp only [La,Lc,Ln] at hr2a
 have hpl:=putAt_length bs j n (by omega)
 rw [bv_length,hpl] at hr2a
 refine W.seq (Sn (Qm (k:=?_)))
 refine Qu (OpQ.leq rfl rfl rfl) (k:=Nl [(0,b),(1,vint n),(5,vint ((j:Int)+1)),(7,.bool (decide ((j:Int)+1≤8)))] ?_)
 refine Cp rfl (fun h3=>?_) (fun h3=>?_)
 ·refine W.skip (thn_n (Wl [(0,b),(1,vint n),(5,vint ((j:Int)+1))] ?_))
  refine W.seq (W.block (W.region (Qm (k:=?_))))
  refine Qm (k:=Qu (OpQ.lenRow (i:=0) rfl rfl rfl (len22 _)) (k:=Qm (k:=Qu (OpQ.sub rfl rfl rfl ⟨by omega,by omega⟩) (k:=Qm (k:=Qm (k:=Qu (OpQ.sub rfl rfl rfl ⟨by omega,by omega⟩) (k:=Qu (OpQ.mul rfl rfl rfl ⟨by omega,by omega⟩) (k:=Qu (OpQ.shr (s:=(8*(((j:Int)+1) - 1)).toNat) rfl rfl rfl (by omega) (by omega)) (k:=Qu (OpQ.convU8 rfl rfl Tryz.runUnderlying5 (fun w=>⟨_,Tryz.runUnderlying3 w⟩)) (k:=Qu (OpQ.indexRow (i:=0) (j:=(slen b) - (j+1)) rfl rfl rfl rfl (by omega) (by omega) (by omega) ix22) (k:=Rn (OpRun.storeRow (i:=0) (cs':=bv ((putAt bs j n).set ((slen b) - (j+1)) (byteOf (n / 2 ^ ((8*(((j:Int)+1) - 1)).toNat))))) rfl rfl rfl rfl (by first | omega | (simp only [bv_length]; omega) | (simp; done) | (simp; omega)) sz5 rfl (bv_set _ _ (byteOf (n / 2 ^ ((8*(((j:Int)+1) - 1)).toNat))))) (k:=?_))))))))))))
  refine WN.nil (inblk_n (thn_n (Ww [(0,b),(1,vint n),(5,vint ((j:Int)+1))] [Rw 5 1 b (bv ((putAt bs j n).set ((slen b) - (j+1)) (byteOf (n / 2 ^ ((8*(((j:Int)+1) - 1)).toNat))))),Al R] ?_)))
  refine W.region (Qm (k:=?_))
  refine Qu (OpQ.add rfl rfl rfl ⟨by omega,by omega⟩) (k:=Qa (k:=?_))
  refine WN.nil (thn_n ⟨(j+1),by (show 8 - (j+1) < 8 - j); omega,⟨rfl,rfl,(Eq.trans (b:=some (vint (((j:Int)+1)+1))) rfl (by first | rfl | (congr 2; omega))),trivial⟩,?_⟩)
  exact ((es [0,0] rfl).trans (Ent.of_eq (by (rw [show slen b - (j+1)=bs.length - (j+1) from by omega,show (8*((j:Int)+1 - 1)).toNat=8*j from by omega,putAt_succ bs j n (by omega)])))).trans (Ent.pure_in (by omega))
 obtain rfl:j=8:=by omega
 refine W.exit (thn_x (thn_x (inblk_x (thn_n (Ww [(0,b)] [Rw 5 1 b (bv (putAt bs 8 n)),Al R] ?_)))))
 refine Sn (Qm (k:=Qa (k:=Nl [(4,b)] ?_)))
 refine Wr 0 fun hr4a hr4b hr4c=>?_
 try simp only [La,Lc,Ln] at hr4a
 refine W.ret (ret1 (M:=[Rw 5 1 b (bv (putAt bs 8 n))]) rfl rfl (⟨rfl,rfl⟩) (es [0,0] rfl))
theorem flatten_take_succ {pss:List Bytes} {k:Nat} (h:k < pss.length):(pss.take (k+1)).flatten=(pss.take k).flatten++pss.getD k []:=by
  rw [List.take_succ_eq_append_getElem h,List.flatten_append,List.getD_eq_getElem?_getD,List.getElem?_eq_getElem h]; simp
theorem flatten_take_le {pss:List Bytes} {k:Nat} (h:k < pss.length):(pss.take k).flatten.length+(pss.getD k []).length≤pss.flatten.length:=by
  rw [← List.length_append,← flatten_take_succ h]
  conv=>rhs; rw [← List.take_append_drop (k+1) pss,List.flatten_append,List.length_append]
  omega
theorem joined_fn (parts:Value) (pss:List Bytes) (hb:pss.flatten.length≤140737488355328):Fn Tryz.prog 267 #[parts] [KS parts pss] (fun v M=>.string (⟨pss.flatten.toArray⟩)=v∧M=[]):=by
 refine Fi 18 Tryz.func267 fun g R=>?_
 refine Ww [(0,parts)] [KS parts pss,Al R] ?_
 refine Sn (Qa (k:=Nl [(0,parts),(2,.string .empty)] ?_))
 refine Sn (Qa (k:=Nl [(0,parts),(2,.string .empty),(3,N0)] ?_))
 refine W.seq (Sn (Qm (k:=?_)))
 refine Nk 0 fun hl1=>?_
 refine Qu (OpQ.lenSl (i:=0) rfl rfl rfl (len30 _)) (k:=Qm (k:=Nl [(2,.string .empty),(3,N0),(6,parts),(7,vint (pss.length:Int)),(8,vint 0)] ?_))
 refine W.block (W.opens Opens.sl (i:=0) rfl (fun f2 _=>?_))
 refine We [Ka 22 1 parts pss.length f2,Kr (Enc.sl Enc.u8 5) f2 pss,Al R] ?_
 refine W.ent (Ent.rowNil (E:=5) (sz:=1)) ?_
 refine We [Rw 5 1 (N0) (bv []),Ka 22 1 parts pss.length f2,Kr (Enc.sl Enc.u8 5) f2 pss,Al R] ?_
 refine W.loop (X:=Nat × Value) (fun x=>match x with | (k,o)=>[(3,o),(6,parts),(7,vint (pss.length:Int)),(8,vint (k:Int))]) (fun x=>match x with | (k,o)=>[Asn.pure (k≤pss.length),Rw 5 1 o (bv ((pss.take k).flatten)),Ka 22 1 parts pss.length f2,Kr (Enc.sl Enc.u8 5) f2 pss,Al R]) (fun x=>match x with | (k,o)=>pss.length - k) (0,(N0)) ⟨rfl,rfl,rfl,rfl,trivial⟩ ((es [0,0,0,0] rfl).trans (Ent.pure_in (by omega))) (fun x=>?_)
 obtain ⟨k,o⟩:=x
 show W _ _ _ _ _ [(3,o),(6,parts),(7,vint (pss.length:Int)),(8,vint (k:Int))] [Asn.pure (k≤pss.length),Rw 5 1 o (bv ((pss.take k).flatten)),Ka 22 1 parts pss.length f2,Kr (Enc.sl Enc.u8 5) f2 pss,Al R]
 refine W.opens Opens.pure (i:=0) rfl (fun _ hI3=>?_)
 replace hI3:=hI3
 show W _ _ _ _ _ [(3,o),(6,parts),(7,vint (pss.length:Int)),(8,vint (k:Int))] [Rw 5 1 o (bv ((pss.take k).flatten)),Ka 22 1 parts pss.length f2,Kr (Enc.sl Enc.u8 5) f2 pss,Al R]
 refine Sn (Qu (OpQ.lss rfl rfl rfl) (k:=Nl [(3,o),(6,parts),(7,vint (pss.length:Int)),(8,vint (k:Int)),(9,.bool (decide ((k:Int) < (pss.length:Int))))] ?_))
 refine W.seq (Cp rfl (fun h4=>?_) (fun h4=>?_))
 ·refine W.skip (thn_n (Wl [(3,o),(6,parts),(7,vint (pss.length:Int)),(8,vint (k:Int))] ?_))
  refine W.seq (W.block (Sn (Qu (OpQ.indexAddr (i:=1) (j:=k) rfl rfl rfl rfl (by omega) (by omega) (by omega) ix30) (k:=?_))))
  refine Qu (OpQ.loadE (i:=1) rfl rfl rfl (by omega) ld22) (k:=Qa (k:=Nl [(3,o),(5,f2 k),(6,parts),(7,vint (pss.length:Int)),(8,vint (k:Int))] ?_))
  refine W.region (WN.ent (Ent.der (i:=2) (m:=Sl Enc.u8 5 (f2 k) (pss.getD k [])) rfl (elemSl (getD_some [] (by omega)))) ?_)
  have hsum:=flatten_take_le (pss:=pss) (k:=k) (by omega)
  refine Qm (k:=Qm (k:=?_))
  refine Ru (OpRun.appendB (i:=1) (j:=0) rfl rfl rfl rfl rfl Tryz.underlying22 (inf:=Tryz.t5) (by kernel_rfl) rfl rfl rfl rfl (by first | omega | (simp; omega))) ?_
  rintro v5 _ ⟨h6a,h6b,h6c,rfl⟩
  refine Qa (k:=?_)
  refine WN.nil (inblk_n (thn_n (Ww [(3,v5),(6,parts),(7,vint (pss.length:Int)),(8,vint (k:Int))] [Rw 5 1 v5 (bv (((pss.take k).flatten)++(pss.getD k []))),KB (f2 k) (pss.getD k []),Ka 22 1 parts pss.length f2,Kr (Enc.sl Enc.u8 5) f2 pss,Al R] ?_)))
  refine W.region (Qu (OpQ.add rfl rfl rfl ⟨by omega,by omega⟩) (k:=?_))
  refine Qm (k:=?_)
  refine WN.nil (thn_n ⟨(k+1,v5),by (show pss.length - (k+1) < pss.length - k); omega,⟨rfl,rfl,rfl,(Eq.trans (b:=some (vint ((k:Int)+1))) rfl (by first | rfl | (congr 2; omega))),trivial⟩,?_⟩)
  exact ((es [0,1,1,1] rfl).trans (Ent.of_eq (by rw [flatten_take_succ (by omega)]))).trans (Ent.pure_in (by omega))
 obtain rfl:k=pss.length:=by omega
 refine W.exit (thn_x (thn_x (inblk_x (thn_n (Ww [(3,o)] [Rw 5 1 o (bv ((pss.take pss.length).flatten)),Ka 22 1 parts pss.length f2,Kr (Enc.sl Enc.u8 5) f2 pss,Al R] ?_)))))
 refine Sn (Qm (k:=Qu (OpQ.b2sRow (bs:=(pss.take pss.length).flatten) (i:=0) rfl rfl rfl b2s22_9) (k:=Qa (k:=Nl [(2,.string (⟨((pss.take pss.length).flatten).toArray⟩))] ?_))))
 refine Wr 0 fun hr7a hr7b hr7c=>?_
 try simp only [La,Lc,Ln] at hr7a
 refine W.ret (ret1 (M:=[]) rfl rfl (⟨(by rw [List.take_length]),rfl⟩) (es [3] rfl))
theorem signed_bytes (s:UInt8) (n:Int):putAt (((List.replicate 32 0).set 0 83).set 1 s) 8 n=Spec.sign s n:=by
  simp [putAt,Spec.sign,List.replicate]
theorem box_bytes (n:Int) (size:Nat):putAt ((List.replicate (size+16) 0).set 0 66) 8 n=Spec.box n size:=by
  have e:(List.replicate (size+16) (0:UInt8)).set 0 66=66 :: List.replicate (size+15) 0:=rfl
  have e2:size+16 - 8=size+7+1:=by omega
  rw [putAt,e]
  simp only [List.length_cons,List.length_replicate,Spec.box]
  rw [show size+15+1 - 8=size+7+1 from by omega,List.take_succ_cons,List.take_replicate,show min (size+7) (size+15)=size+7 from by omega]
theorem signed_fn (s:UInt8) (n:Int):Fn Tryz.prog 209 #[.int .u8 s.toNat,vint n] [] (fun v M=>∃ (r:Value),r=v∧M=[KB r (Spec.sign s n)]):=by
 refine Fi 15 Tryz.func209 fun g R=>?_
 refine Ww [(0,.int .u8 s.toNat),(1,vint n)] [Al R] ?_
 refine Sn (Qa (k:=Nl [(0,.int .u8 s.toNat),(1,vint n),(4,N0)] ?_))
 refine Sn (Ru (OpRun.makeSlice (m:=32) (zc:=.int .u8 0) rfl (by rfl) (by rfl) (by omega) mk22 rfl) ?_)
 rintro v1 _ ⟨h2a,h2b,h2c,rfl⟩; rw [bv_replicate]
 refine Qa (k:=Nw [(0,.int .u8 s.toNat),(1,vint n),(4,N0),(5,v1)] [Rw 5 1 v1 (bv (List.replicate 32 0)),Al R] ?_)
 refine Sn (Qm (k:=Qm (k:=Qm (k:=?_))))
 refine Nr 0 fun hr3a hr3b hr3c=>?_
 try simp only [La,Lc,Ln] at hr3a
 refine Qu (OpQ.indexRow (i:=0) (j:=0) rfl rfl rfl rfl (by omega) (by omega) (by omega) ix22) (k:=Rn (OpRun.storeRow (i:=0) (cs':=bv ((List.replicate 32 0).set 0 83)) rfl rfl rfl rfl (by first | omega | (simp only [bv_length]; omega) | (simp; done) | (simp; omega)) sz5 rfl (bv_set _ _ 83)) (k:=?_))
 refine Nr 0 fun hr4a hr4b hr4c=>?_
 try simp only [La,Lc,Ln] at hr4a
 refine Qu (OpQ.indexRow (i:=0) (j:=1) rfl rfl rfl rfl (by omega) (by omega) (by omega) ix22) (k:=Rn (OpRun.storeRow (i:=0) (cs':=bv (((List.replicate 32 0).set 0 83).set 1 s)) rfl rfl rfl rfl (by first | omega | (simp only [bv_length]; omega) | (simp; done) | (simp; omega)) sz5 rfl (bv_set _ _ s)) (k:=Nw [(1,vint n),(4,N0),(5,v1)] [Rw 5 1 v1 (bv (((List.replicate 32 0).set 0 83).set 1 s)),Al R] ?_))
 refine Sn (Qm (k:=Qm (k:=?_)))
 refine Wc [.tmp 12,.tmp 13] [v1,vint n] Tryz.call208 (put_fn v1 n (((List.replicate 32 0).set 0 83).set 1 s) (by first | omega | (simp; done) | (simp; omega) | (simp at *; omega)) (by first | omega | (simp; done) | (simp; omega) | (simp at *; omega))) (ep [0] rfl) ?_
 rintro _ _ ⟨rfl,rfl⟩
 refine Qa (k:=Nw [(4,v1)] [Rw 5 1 v1 (bv (putAt (((List.replicate 32 0).set 0 83).set 1 s) 8 n)),Al R] ?_)
 refine Wr 0 fun hr5a hr5b hr5c=>?_
 try simp only [La,Lc,Ln] at hr5a
 have heq:=signed_bytes s n
 refine W.ent (L':=[Rw 5 1 v1 (bv (Spec.sign s n)),Al R]) ((es [0,0] rfl).trans (Ent.of_eq (by rw [heq]))) ?_
 refine W.freezeB (i:=0) rfl ?_
 refine W.ret (ret1 (M:=[KB v1 (Spec.sign s n)]) rfl rfl (⟨v1,rfl,rfl⟩) (es [0,0] rfl))
theorem box_fn (n:Int) (size:Nat) (hs:size≤1000000):Fn Tryz.prog 293 #[vint n,vint (size:Int)] [] (fun v M=>∃ (r:Value),r=v∧M=[KB r (Spec.box n size)]):=by
 refine Fi 14 Tryz.func293 fun g R=>?_
 refine Ww [(0,vint n),(1,vint (size:Int))] [Al R] ?_
 refine Sn (Qa (k:=Nl [(0,vint n),(1,vint (size:Int)),(4,N0)] ?_))
 refine Sn (Qm (k:=Qu (OpQ.add rfl rfl rfl ⟨by omega,by omega⟩) (k:=?_)))
 refine Ru (OpRun.makeSlice (m:=size+16) (zc:=.int .u8 0) rfl (by first | rfl | (congr 2; omega)) (by first | rfl | (congr 2; omega)) (by omega) mk22 rfl) ?_
 rintro v1 _ ⟨h2a,h2b,h2c,rfl⟩; rw [bv_replicate]
 refine Qa (k:=Nw [(0,vint n),(4,N0),(5,v1)] [Rw 5 1 v1 (bv (List.replicate (size+16) 0)),Al R] ?_)
 refine Sn (Qm (k:=?_))
 refine Nr 0 fun hr3a hr3b hr3c=>?_
 try simp only [La,Lc,Ln] at hr3a
 refine Qu (OpQ.indexRow (i:=0) (j:=0) rfl rfl rfl rfl (by omega) (by omega) (by omega) ix22) (k:=Rn (OpRun.storeRow (i:=0) (cs':=bv ((List.replicate (size+16) 0).set 0 66)) rfl rfl rfl rfl (by first | omega | (simp only [bv_length]; omega) | (simp; done) | (simp; omega)) sz5 rfl (bv_set _ _ 66)) (k:=Nw [(0,vint n),(4,N0),(5,v1)] [Rw 5 1 v1 (bv ((List.replicate (size+16) 0).set 0 66)),Al R] ?_))
 refine Sn (Qm (k:=Qm (k:=?_)))
 refine Wc [.tmp 11,.tmp 12] [v1,vint n] Tryz.call208 (put_fn v1 n ((List.replicate (size+16) 0).set 0 66) (by first | omega | (simp; done) | (simp; omega) | (simp at *; omega)) (by first | omega | (simp; done) | (simp; omega) | (simp at *; omega))) (ep [0] rfl) ?_
 rintro _ _ ⟨rfl,rfl⟩
 refine Qa (k:=Nw [(4,v1)] [Rw 5 1 v1 (bv (putAt ((List.replicate (size+16) 0).set 0 66) 8 n)),Al R] ?_)
 refine Wr 0 fun hr4a hr4b hr4c=>?_
 try simp only [La,Lc,Ln] at hr4a
 have heq:=box_bytes n size
 refine W.ent (L':=[Rw 5 1 v1 (bv (Spec.box n size)),Al R]) ((es [0,0] rfl).trans (Ent.of_eq (by rw [heq]))) ?_
 refine W.freezeB (i:=0) rfl ?_
 refine W.ret (ret1 (M:=[KB v1 (Spec.box n size)]) rfl rfl (⟨v1,rfl,rfl⟩) (es [0,0] rfl))
theorem add_raw (sp:Nat) (kb:Nat) (lv:Value) (cs:List Value) (t:Thing) (hb:cs.length < 5500000000000):Fn Tryz.prog 210 #[vptr sp 0,.agg #[.int .u8 t.sort.toNat,.string (⟨t.key.toArray⟩),.string (⟨t.nonce.toArray⟩),.string (⟨t.text.toArray⟩),.string (⟨t.other.toArray⟩)]] [Cl sp 240 [.bool false,.slice none 0 0,vint 0,lv,.map (some kb)],Rw 339 5 lv cs] (fun v M=>∃ (u:Value) (n:Nat),((n:Nat):Int)*5=cs.length+5∧vint (n:Int)=v∧M=[Cl sp 240 [.bool false,.slice none 0 0,vint 0,u,.map (some kb)],Rw 339 5 u (cs++t.cells)]):=by
 refine Fi 20 Tryz.func210 fun g R=>?_
 refine Ww [(0,vptr sp 0),(1,.agg #[.int .u8 t.sort.toNat,.string (⟨t.key.toArray⟩),.string (⟨t.nonce.toArray⟩),.string (⟨t.text.toArray⟩),.string (⟨t.other.toArray⟩)])] [Cl sp 240 [.bool false,N0,vint 0,lv,.map (some kb)],Rw 339 5 lv cs,Al R] ?_
 refine Sn (Ru (OpRun.box rfl rfl rfl) ?_)
 rintro _ _ ⟨b1,rfl,rfl⟩
 refine Qa (k:=Nw [(0,vptr sp 0),(3,vptr b1 0),(4,vint 0)] [Cl b1 339 [.int .u8 t.sort.toNat,.string (⟨t.key.toArray⟩),.string (⟨t.nonce.toArray⟩),.string (⟨t.text.toArray⟩),.string (⟨t.other.toArray⟩)],Cl sp 240 [.bool false,N0,vint 0,lv,.map (some kb)],Rw 339 5 lv cs,Al R] ?_)
 refine W.seq (W.drawG mixed ?_)
 refine Gq 0 [] rfl (OpQ.move rfl rfl) ?_
 refine Gq 1 [] rfl (OpQ.move rfl rfl) ?_
 refine Gq 2 [] rfl (OpQ.nilCheck rfl rfl) ?_
 refine Gq 3 [] rfl (Of (fa240_3 _ _)) ?_
 refine WG.hold (Cl sp 240 [.bool false,N0,vint 0,lv,.map (some kb)],[10]) ?_
 refine Gq 4 [1] rfl (Ol 0 ld238) ?_
 refine WG.hold (Cl b1 339 [.int .u8 t.sort.toNat,.string (⟨t.key.toArray⟩),.string (⟨t.nonce.toArray⟩),.string (⟨t.text.toArray⟩),.string (⟨t.other.toArray⟩)],[]) ?_
 refine Gq 5 [0,0] rfl (OpQ.loadN (i:=0) rfl rfl ld339 rfl rfl rfl) ?_
 refine WG.one (i:=6) (by kernel_rfl) (UpG.run rfl rfl rfl (OpRun.buildSlice (qs:=[(0,.agg #[.int .u8 t.sort.toNat,.string (⟨t.key.toArray⟩),.string (⟨t.nonce.toArray⟩),.string (⟨t.text.toArray⟩),.string (⟨t.other.toArray⟩)])]) (cs:=[Value.int .u8 t.sort.toNat,Value.string (⟨t.key.toArray⟩),Value.string (⟨t.nonce.toArray⟩),Value.string (⟨t.text.toArray⟩),Value.string (⟨t.other.toArray⟩)]) (E:=339) (sz:=5) rfl ⟨rfl,rfl,trivial⟩ (fun _=>by kernel_rfl) (O3 (one_cons rfl (one_cons rfl one_nil))) rfl (by decide)) ?_)
 rintro v2 _ ⟨h3a,h3b,h3c,rfl⟩
 refine ⟨es [1,1] rfl,?_⟩
 refine WG.fact (fun _ _ s=>row_facts (i:=3) rfl s) (fun hr6=>?_)
 obtain ⟨hr6a,hr6b,hr6c⟩:=hr6; try simp only [La,Lc,Ln] at hr6a
 refine WG.fact (fun _ _ s=>row_facts (i:=0) rfl s) (fun hr7=>?_)
 obtain ⟨hr7a,hr7b,hr7c⟩:=hr7; try simp only [La,Lc,Ln] at hr7a
 refine WG.one (i:=7) (by kernel_rfl) (UpG.run rfl rfl rfl (OpRun.appendRow (i:=3) (j:=0) rfl rfl rfl rfl rfl Tryz.underlying238 (inf:=Tryz.t339) (by kernel_rfl) rfl rfl rfl (by_:=72) rfl (by first | omega | (simp; omega)) (by first | omega | (simp; omega))) ?_)
 rintro v4 _ ⟨h5a,h5b,rfl⟩
 refine ⟨es [1,1] rfl,?_⟩
 refine Gq 8 [1,1] rfl (OpQ.nilCheck rfl rfl) ?_
 refine Gq 9 [1,1] rfl (Of (fa240_3 _ _)) ?_
 refine WG.one (i:=10) (by kernel_rfl) (UpG.run rfl rfl rfl (OpRun.store (i:=2) (vs:=[v4]) (cs':=[.bool false,N0,vint 0,v4,.map (some kb)]) rfl rfl rfl sz238 (cells_one h5b) rfl (one_cons h5b one_nil) rfl (Lb rfl) rfl) ?_)
 rintro _ _ ⟨rfl,rfl⟩
 refine ⟨es [2] rfl,?_⟩
 refine WG.done (by kernel_rfl) ?_
 refine thn_n (Ww [(0,vptr sp 0),(4,vint 0)] [Cl sp 240 [.bool false,N0,vint 0,v4,.map (some kb)],Rw 339 5 v4 (cs++([Value.int .u8 t.sort.toNat,Value.string (⟨t.key.toArray⟩),Value.string (⟨t.nonce.toArray⟩),Value.string (⟨t.text.toArray⟩),Value.string (⟨t.other.toArray⟩)])),Cl b1 339 [.int .u8 t.sort.toNat,.string (⟨t.key.toArray⟩),.string (⟨t.nonce.toArray⟩),.string (⟨t.text.toArray⟩),.string (⟨t.other.toArray⟩)],Al R] ?_)
 refine Sn (Qm (k:=Qu (OpQ.nilCheck rfl rfl) (k:=Qu (Of (fa240_3 _ _)) (k:=Qu (Ol 0 ld238) (k:=?_)))))
 refine Nr 1 fun hr8a hr8b hr8c=>?_
 try simp only [La,Lc,Ln] at hr8a
 refine Qu (OpQ.lenRow (i:=1) rfl rfl rfl (len238 _)) (k:=Qa (k:=Nl [(4,vint (slen v4:Int))] ?_))
 refine W.ret (ret1 (M:=[Cl sp 240 [.bool false,N0,vint 0,v4,.map (some kb)],Rw 339 5 v4 (cs++t.cells)]) rfl rfl (⟨v4,slen v4,(by first | assumption | rfl | omega | (simp; done) | (simp; omega) | (simp [*]; done) | (simp [*]; omega)),(by first | rfl | exact bool_dec (by omega) | exact bool_F (by omega) | exact bool_T (by omega) | exact (bool_dec (by omega)).symm | exact (bool_F (by omega)).symm | exact (bool_T (by omega)).symm | simp [*]),rfl⟩) (es [0,0,1] rfl))
theorem once_fn (sp:Nat) (A:List Thing) (t:Thing) (ht:once? t=true) (hA:A.length < 1099511627775):Fn Tryz.prog 266 #[vptr sp 0,.agg #[.int .u8 t.sort.toNat,.string (⟨t.key.toArray⟩),.string (⟨t.nonce.toArray⟩),.string (⟨t.text.toArray⟩),.string (⟨t.other.toArray⟩)]] [SuiteR sp A] (fun v M=>∃ (p:Int) (A':List Thing),Spec.once A t=(p,A')∧A'.length≤A.length+1∧vint p=v∧M=[SuiteR sp A']):=by
 refine Fi 28 Tryz.func266 fun g R=>?_
 refine Ww [(0,vptr sp 0),(1,.agg #[.int .u8 t.sort.toNat,.string (⟨t.key.toArray⟩),.string (⟨t.nonce.toArray⟩),.string (⟨t.text.toArray⟩),.string (⟨t.other.toArray⟩)])] [SuiteR sp A,Al R] ?_
 refine W.opens Opens.rep (i:=0) rfl (fun x1 hAl=>?_)
 obtain ⟨lv,kb⟩:=x1
 refine We [Cl sp 240 [.bool false,N0,vint 0,lv,.map (some kb)],Rw 339 5 lv (A.flatMap Thing.cells),Asn.known kb (knownOf 0 A),Al R] ?_
 refine Sn (Ru (OpRun.box rfl rfl rfl) ?_)
 rintro _ _ ⟨b2,rfl,rfl⟩
 refine Qa (k:=Nw [(0,vptr sp 0),(3,vptr b2 0),(4,vint 0)] [Cl b2 339 [.int .u8 t.sort.toNat,.string (⟨t.key.toArray⟩),.string (⟨t.nonce.toArray⟩),.string (⟨t.text.toArray⟩),.string (⟨t.other.toArray⟩)],Cl sp 240 [.bool false,N0,vint 0,lv,.map (some kb)],Rw 339 5 lv (A.flatMap Thing.cells),Asn.known kb (knownOf 0 A),Al R] ?_)
 refine W.seq (W.drawG mixed ?_)
 refine Gq 0 [] rfl (OpQ.move rfl rfl) ?_
 refine Gq 1 [] rfl (OpQ.nilCheck rfl rfl) ?_
 refine Gq 2 [] rfl (Of (fa240_4 _ _)) ?_
 refine WG.hold (Cl sp 240 [.bool false,N0,vint 0,lv,.map (some kb)],[]) ?_
 refine Gq 3 [1] rfl (Ol 0 ld237) ?_
 refine WG.hold (Cl b2 339 [.int .u8 t.sort.toNat,.string (⟨t.key.toArray⟩),.string (⟨t.nonce.toArray⟩),.string (⟨t.text.toArray⟩),.string (⟨t.other.toArray⟩)],[]) ?_
 refine Gq 4 [0,0] rfl (OpQ.loadN (i:=0) rfl rfl ld339 rfl rfl rfl) ?_
 refine WG.hold (Asn.known kb (knownOf 0 A),[]) ?_
 refine Gq 5 [3,0,0] rfl (OpQ.lookupKnown (t:=t) (i:=0) rfl rfl rfl rfl) ?_
 refine Gq 6 [3,0,0] rfl (OpQ.move rfl rfl) ?_
 refine Gq 7 [3,0,0] rfl (OpQ.extract rfl rfl rfl) ?_
 refine Gq 8 [3,0,0] rfl (OpQ.extract rfl rfl rfl) ?_
 refine Gq 9 [3,0,0] rfl (OpQ.assign rfl rfl) ?_
 refine Gq 10 [3,0,0] rfl (OpQ.assign rfl rfl) ?_
 refine WG.done (by kernel_rfl) ?_
 refine thn_n (Wl [(0,vptr sp 0),(3,vptr b2 0),(4,vint 0),(5,vint ((findT t (knownOf 0 A)).getD 0)),(6,.bool ((findT t (knownOf 0 A)).isSome))] ?_)
 refine W.seq (Sn (Qm (k:=?_)))
 refine Qu (OpQ.not rfl rfl) (k:=Nl [(0,vptr sp 0),(3,vptr b2 0),(4,vint 0),(5,vint ((findT t (knownOf 0 A)).getD 0)),(17,.bool (!((findT t (knownOf 0 A)).isSome)))] ?_)
 refine W.cond rfl (fun h3=>?_) (fun h3=>?_)
 ·refine Sn (Qm (k:=Qu (OpQ.loadN (i:=0) rfl rfl ld339 rfl rfl rfl) (k:=?_)))
  refine Wc [.tmp 18,.tmp 19] [vptr sp 0,.agg #[.int .u8 t.sort.toNat,.string (⟨t.key.toArray⟩),.string (⟨t.nonce.toArray⟩),.string (⟨t.text.toArray⟩),.string (⟨t.other.toArray⟩)]] Tryz.call210 (add_raw sp kb lv (A.flatMap Thing.cells) t (by rw [things_length]; omega)) (ep [1,1] rfl) ?_
  rintro _ _ ⟨u4,n5,h6,rfl,rfl⟩
  refine Qa (k:=Nw [(0,vptr sp 0),(3,vptr b2 0),(4,vint 0),(5,vint (n5:Int))] [Cl sp 240 [.bool false,N0,vint 0,u4,.map (some kb)],Rw 339 5 u4 ((A.flatMap Thing.cells)++t.cells),Cl b2 339 [.int .u8 t.sort.toNat,.string (⟨t.key.toArray⟩),.string (⟨t.nonce.toArray⟩),.string (⟨t.text.toArray⟩),.string (⟨t.other.toArray⟩)],Asn.known kb (knownOf 0 A),Al R] ?_)
  refine W.drawG mixed ?_
  refine Gq 0 [] rfl (OpQ.move rfl rfl) ?_
  refine Gq 1 [] rfl (OpQ.nilCheck rfl rfl) ?_
  refine Gq 2 [] rfl (Of (fa240_4 _ _)) ?_
  refine WG.hold (Cl sp 240 [.bool false,N0,vint 0,u4,.map (some kb)],[]) ?_
  refine Gq 3 [0] rfl (Ol 0 ld237) ?_
  refine WG.hold (Cl b2 339 [.int .u8 t.sort.toNat,.string (⟨t.key.toArray⟩),.string (⟨t.nonce.toArray⟩),.string (⟨t.text.toArray⟩),.string (⟨t.other.toArray⟩)],[]) ?_
  refine Gq 4 [2,0] rfl (OpQ.loadN (i:=0) rfl rfl ld339 rfl rfl rfl) ?_
  refine Gq 5 [2,0] rfl (OpQ.move rfl rfl) ?_
  refine WG.one (i:=6) (by kernel_rfl) (UpG.run rfl rfl rfl (OpRun.updateKnown (t:=t) (i:=3) rfl rfl rfl rfl rfl (by simpa using h3)) ?_)
  rintro _ _ ⟨rfl,rfl⟩
  refine ⟨es [3,1] rfl,?_⟩
  refine WG.done (by kernel_rfl) ?_
  refine thn_n (Ww [(4,vint 0),(5,vint (n5:Int))] [Asn.known kb ((knownOf 0 A)++[(t,(n5:Int))]),Cl sp 240 [.bool false,N0,vint 0,u4,.map (some kb)],Rw 339 5 u4 ((A.flatMap Thing.cells)++t.cells),Cl b2 339 [.int .u8 t.sort.toNat,.string (⟨t.key.toArray⟩),.string (⟨t.nonce.toArray⟩),.string (⟨t.text.toArray⟩),.string (⟨t.other.toArray⟩)],Al R] ?_)
  refine Sn (Qm (k:=Qa (k:=Nl [(4,vint (n5:Int))] ?_)))
  refine Wr 2 fun hr7a hr7b hr7c=>?_
  try simp only [La,Lc,Ln] at hr7a
  have hfn:findT t (knownOf 0 A)=none:=by simpa using h3
  obtain rfl:n5=A.length+1:=by have:=things_length A; omega
  have honce:Spec.once A t=((A.length:Int)+1,A++[t]):=by simp [Spec.once,hfn]
  refine W.ent (L':=[Cl sp 240 [.bool false,N0,vint 0,u4,.map (some kb)],Rw 339 5 u4 ((A++[t]).flatMap Thing.cells),Asn.known kb (knownOf 0 (A++[t])),Cl b2 339 [.int .u8 t.sort.toNat,.string (⟨t.key.toArray⟩),.string (⟨t.nonce.toArray⟩),.string (⟨t.text.toArray⟩),.string (⟨t.other.toArray⟩)],Al R]) ((es [1,1,0,0,0] rfl).trans (Ent.of_eq (by rw [List.flatMap_append,List.flatMap_singleton,knownOf_append A 0 t ht]; simp))) ?_
  refine W.ent (L':=[SuiteR sp (A++[t]),Cl b2 339 [.int .u8 t.sort.toNat,.string (⟨t.key.toArray⟩),.string (⟨t.nonce.toArray⟩),.string (⟨t.text.toArray⟩),.string (⟨t.other.toArray⟩)],Al R]) (Ent.rep' (u4,kb) rfl (Fits.add hAl (by omega) (fun h=>by rw [once?,h] at ht; cases ht)) rfl) ?_
  refine W.ret (ret1 (M:=[SuiteR sp (A++[t])]) rfl rfl (⟨(A.length:Int)+1,A++[t],(by exact honce),(by simp),(by simp),rfl⟩) (es [0,1] rfl))
 refine W.skip (thn_n (Wl [(4,vint 0),(5,vint ((findT t (knownOf 0 A)).getD 0))] ?_))
 refine Sn (Qm (k:=Qa (k:=Nl [(4,vint ((findT t (knownOf 0 A)).getD 0))] ?_)))
 refine Wr 2 fun hr8a hr8b hr8c=>?_
 try simp only [La,Lc,Ln] at hr8a
 obtain ⟨p,hfs⟩:∃ p,findT t (knownOf 0 A)=some p:=Option.isSome_iff_exists.1 (by simpa using h3)
 have honce:Spec.once A t=(p,A):=by simp [Spec.once,hfs]
 refine W.ent (L':=[Cl sp 240 [.bool false,N0,vint 0,lv,.map (some kb)],Rw 339 5 lv (A.flatMap Thing.cells),Asn.known kb (knownOf 0 A),Cl b2 339 [.int .u8 t.sort.toNat,.string (⟨t.key.toArray⟩),.string (⟨t.nonce.toArray⟩),.string (⟨t.text.toArray⟩),.string (⟨t.other.toArray⟩)],Al R]) (es [1,1,1,0,0] rfl) ?_
 refine W.ent (L':=[SuiteR sp A,Cl b2 339 [.int .u8 t.sort.toNat,.string (⟨t.key.toArray⟩),.string (⟨t.nonce.toArray⟩),.string (⟨t.text.toArray⟩),.string (⟨t.other.toArray⟩)],Al R]) (Ent.rep' (lv,kb) rfl hAl rfl) ?_
 refine W.ret (ret1 (M:=[SuiteR sp A]) rfl rfl (⟨p,A,(by exact honce),(by simp),(by simp [hfs]),rfl⟩) (es [0,1] rfl))
theorem Spec.sum_of {A A':List Thing} {b:Bytes} {p:Int} (h:Spec.once A ⟨72,[],[],b,[]⟩=(p,A')):Spec.sum A b=(Spec.sign 72 p,A'):=by simp [Spec.sum,h]
theorem Spec.code_of {A A':List Thing} {k b:Bytes} {p:Int} (h:Spec.once A ⟨77,k,[],b,[]⟩=(p,A')):Spec.code A k b=(Spec.sign 77 p,A'):=by simp [Spec.code,h]
theorem OpQ.signs {n:Nat} {g:G} {l:Env} {L R:List Asn} {o:Oper} {T:TypeId} {x:Operand} {i sp:Nat} {A:List Thing} (ho:o.op = .load T x) (hx:ev l x=some (vptr sp 0)) (hT:∀ a w,(loadVar T a).run Tryz.prog w=(Go.load a).run Tryz.prog w)
    (hL:take1 i L=some (SuiteR sp A,R)):OpQ Tryz.prog n g o l L (.bool false):=fun a w s t=>by
  obtain ⟨x,_,t1⟩:=Sat.opens Opens.rep hL t
  exact OpQ.load1 (i:=0) ho hx hT rfl rfl a w s t1
theorem Sum_fn (sp:Nat) (A:List Thing) (parts:Value) (pss:List Bytes) (hb:pss.flatten.length≤140737488355328) (hA:A.length < 1099511627775):Fn Tryz.prog 194 #[vptr sp 0,parts] [SuiteR sp A,KS parts pss] (fun v M=>∃ (r:Value) (bs:Bytes) (A':List Thing),Spec.sum A pss.flatten=(bs,A')∧A'.length≤A.length+1∧bs.length=32∧r=v∧M=[KB r bs,SuiteR sp A']):=by
 refine Fi 17 Tryz.func194 fun g R=>?_
 refine Ww [(0,vptr sp 0),(1,parts)] [SuiteR sp A,KS parts pss,Al R] ?_
 refine Sn (Qa (k:=Nl [(0,vptr sp 0),(1,parts),(4,N0)] ?_))
 refine W.seq (Sn (Qm (k:=?_)))
 refine Qu (OpQ.nilCheck rfl rfl) (k:=Qu (Of (fa240_0 _ _)) (k:=Qu (OpQ.signs (i:=0) rfl rfl ld4 rfl) (k:=Nl [(0,vptr sp 0),(1,parts),(4,N0),(8,.bool false)] ?_)))
 refine W.condF rfl ?_
 refine W.skip (thn_n (Wl [(0,vptr sp 0),(1,parts),(4,N0)] ?_))
 refine Sn (Qm (k:=Qm (k:=?_)))
 refine Wc [.tmp 12] [parts] Tryz.call267 (joined_fn parts pss (by first | omega | (simp; done) | (simp; omega) | (simp at *; omega))) ((ed 1 rfl).trans (ep [0] rfl)) ?_
 rintro _ _ ⟨rfl,rfl⟩
 refine Qu (OpQ.build (qs:=[(0,.int .u8 72),(3,.string (⟨pss.flatten.toArray⟩))]) (v:=.agg #[.int .u8 72,.string .empty,.string .empty,.string (⟨pss.flatten.toArray⟩),.string .empty]) rfl ⟨rfl,rfl,rfl,rfl,trivial⟩ (fun _=>by kernel_rfl)) (k:=?_)
 refine Wc [.tmp 11,.tmp 14] [vptr sp 0,.agg #[.int .u8 72,.string .empty,.string .empty,.string (⟨pss.flatten.toArray⟩),.string .empty]] Tryz.call266 (once_fn sp A (⟨72,[],[],pss.flatten,[]⟩:Thing) (by first | rfl | assumption) (by first | omega | (simp; done) | (simp; omega) | (simp at *; omega))) (ep [0] rfl) ?_
 rintro _ _ ⟨p1,A2,h3,h4,rfl,rfl⟩
 refine Wc [.const (.int .u8 72),.tmp 15] [.int .u8 72,vint p1] Tryz.call209 (signed_fn 72 p1) (ep [] rfl) ?_
 rintro _ _ ⟨r5,rfl,rfl⟩
 refine Qa (k:=Nw [(4,r5)] [KB r5 (Spec.sign 72 p1),SuiteR sp A2,KS parts pss,Al R] ?_)
 refine W.ret (ret1 (M:=[KB r5 (Spec.sign 72 p1),SuiteR sp A2]) rfl rfl (⟨r5,Spec.sign 72 p1,A2,(by exact Spec.sum_of (by assumption)),(by omega),(by simp),rfl,rfl⟩) (es [0,0,1] rfl))
theorem Code_fn (sp:Nat) (A:List Thing) (key:Value) (ks:Bytes) (parts:Value) (pss:List Bytes) (hb:pss.flatten.length≤140737488355328) (hA:A.length < 1099511627775):Fn Tryz.prog 280 #[vptr sp 0,key,parts] [SuiteR sp A,KB key ks,KS parts pss] (fun v M=>∃ (r:Value) (bs:Bytes) (A':List Thing),Spec.code A ks pss.flatten=(bs,A')∧A'.length≤A.length+1∧bs.length=32∧r=v∧M=[KB r bs,SuiteR sp A']):=by
 refine Fi 22 Tryz.func280 fun g R=>?_
 refine Ww [(0,vptr sp 0),(1,key),(2,parts)] [SuiteR sp A,KB key ks,KS parts pss,Al R] ?_
 refine Sn (Qa (k:=Nl [(0,vptr sp 0),(1,key),(2,parts),(6,N0)] ?_))
 refine W.seq (Sn (Qm (k:=?_)))
 refine Qu (OpQ.nilCheck rfl rfl) (k:=Qu (Of (fa240_0 _ _)) (k:=Qu (OpQ.signs (i:=0) rfl rfl ld4 rfl) (k:=Nl [(0,vptr sp 0),(1,key),(2,parts),(6,N0),(10,.bool false)] ?_)))
 refine W.condF rfl ?_
 refine W.skip (thn_n (Wl [(0,vptr sp 0),(1,key),(2,parts),(6,N0)] ?_))
 refine W.seq (W.drawG mixed ?_)
 refine Gq 0 [] rfl (OpQ.move rfl rfl) ?_
 refine Gq 1 [] rfl (OpQ.move rfl rfl) ?_
 refine WG.hold (KB key ks,[]) ?_
 refine Gq 2 [1] rfl (OpQ.b2s (i:=0) rfl rfl rfl b2s22_9) ?_
 refine Gq 3 [1] rfl (OpQ.move rfl rfl) ?_
 refine WG.one (i:=4) (by kernel_rfl) (UpG.call rfl rfl rfl (OpCall.mk (xs:=[.tmp 17]) (vs:=[parts]) rfl ⟨rfl,trivial⟩ Tryz.call267) (joined_fn parts pss (by first | omega | (simp; done) | (simp; omega) | (simp at *; omega))) ((ed 2 rfl).trans (ep [0] rfl)) ?_)
 rintro _ _ ⟨rfl,rfl⟩
 refine ⟨es [1] rfl,?_⟩
 refine Gq 5 [1] rfl (OpQ.build (qs:=[(0,.int .u8 77),(1,.string (⟨ks.toArray⟩)),(3,.string (⟨pss.flatten.toArray⟩))]) (v:=.agg #[.int .u8 77,.string (⟨ks.toArray⟩),.string .empty,.string (⟨pss.flatten.toArray⟩),.string .empty]) rfl ⟨rfl,rfl,rfl,rfl,rfl,rfl,trivial⟩ (fun _=>by kernel_rfl)) ?_
 refine WG.one (i:=6) (by kernel_rfl) (UpG.call rfl rfl rfl (OpCall.mk (xs:=[.tmp 14,.tmp 19]) (vs:=[vptr sp 0,.agg #[.int .u8 77,.string (⟨ks.toArray⟩),.string .empty,.string (⟨pss.flatten.toArray⟩),.string .empty]]) rfl ⟨rfl,rfl,trivial⟩ Tryz.call266) (once_fn sp A (⟨77,ks,[],pss.flatten,[]⟩:Thing) (by first | rfl | assumption) (by first | omega | (simp; done) | (simp; omega) | (simp at *; omega))) (ep [0] rfl) ?_)
 rintro _ _ ⟨p1,A2,h3,h4,rfl,rfl⟩
 refine ⟨es [1] rfl,?_⟩
 refine WG.one (i:=7) (by kernel_rfl) (UpG.call rfl rfl rfl (OpCall.mk (xs:=[.const (.int .u8 77),.tmp 20]) (vs:=[.int .u8 77,vint p1]) rfl ⟨rfl,rfl,trivial⟩ Tryz.call209) (signed_fn 77 p1) (ep [] rfl) ?_)
 rintro _ _ ⟨r5,rfl,rfl⟩
 refine ⟨es [2] rfl,?_⟩
 refine Gq 8 [2] rfl (OpQ.assign rfl rfl) ?_
 refine WG.done (by kernel_rfl) ?_
 refine thn_n (Ww [(6,r5)] [KB r5 (Spec.sign 77 p1),SuiteR sp A2,KB key ks,KS parts pss,Al R] ?_)
 refine W.ret (ret1 (M:=[KB r5 (Spec.sign 77 p1),SuiteR sp A2]) rfl rfl (⟨r5,Spec.sign 77 p1,A2,(by exact Spec.code_of (by assumption)),(by omega),(by simp),rfl,rfl⟩) (es [0,0,2] rfl))
theorem add_num {A:List Thing} {n:Nat} (h:((n:Nat):Int)*5=(A.flatMap Thing.cells).length+5):n=A.length+1:=by have:=things_length A; omega
def Spec.shut (A:List Thing) (key nonce other text:Bytes):Option (Bytes × List Thing) :=
  if key.length=32∧nonce.length=12 then some (Spec.box (A.length+1) text.length,A++[⟨66,key,nonce,text,other⟩]) else none
theorem Seal_fn (sp:Nat) (A:List Thing) (key:Value) (nonce:Value) (other:Value) (text:Value) (ks:Bytes) (ns:Bytes) (os:Bytes) (ts:Bytes) (ht:ts.length≤1000000) (hA:A.length < 1099511627775):Fn Tryz.prog 213 #[vptr sp 0,key,nonce,other,text] [SuiteR sp A,KB key ks,KB nonce ns,KB other os,KB text ts] (fun v M=>(∃ (r:Value) (bs:Bytes) (A':List Thing),Spec.shut A ks ns os ts=some (bs,A')∧A'.length≤A.length+1∧bs.length=ts.length+16∧.tuple #[r,vint 0]=v∧M=[KB r bs,SuiteR sp A'])∨(Spec.shut A ks ns os ts=none∧.tuple #[.slice none 0 0,vint 11]=v∧M=[SuiteR sp A])):=by
 refine Fi 45 Tryz.func213 fun g R=>?_
 refine Ww [(0,vptr sp 0),(1,key),(2,nonce),(3,other),(4,text)] [SuiteR sp A,KB key ks,KB nonce ns,KB other os,KB text ts,Al R] ?_
 refine W.opens Opens.rep (i:=0) rfl (fun x1 hAl=>?_)
 obtain ⟨lv,kb⟩:=x1
 refine We [Cl sp 240 [.bool false,N0,vint 0,lv,.map (some kb)],Rw 339 5 lv (A.flatMap Thing.cells),Asn.known kb (knownOf 0 A),KB key ks,KB nonce ns,KB other os,KB text ts,Al R] ?_
 refine Sn (Qa (k:=Qa (k:=Nl [(0,vptr sp 0),(1,key),(2,nonce),(3,other),(4,text),(10,N0),(11,vint 0)] ?_)))
 refine W.seq (W.block (Sn (Qm (k:=?_))))
 refine Qu (OpQ.nilCheck rfl rfl) (k:=Qu (Of (fa240_0 _ _)) (k:=Qu (Ol 0 ld4) (k:=Qa (k:=Nl [(0,vptr sp 0),(1,key),(2,nonce),(3,other),(4,text),(10,N0),(11,vint 0),(13,.bool false)] ?_))))
 refine W.condF rfl ?_
 refine Sn (Qm (k:=Qm (k:=?_)))
 refine Wc [.tmp 26,.tmp 27] [key,nonce] Tryz.call292 (sizes_fn key nonce ks ns) ((ed 3 rfl).trans ((ed 5 rfl).trans (ep [1,0] rfl))) ?_
 rintro _ _ ⟨rfl,rfl⟩
 refine Qu (OpQ.notP rfl rfl) (k:=Qa (k:=Nw [(0,vptr sp 0),(1,key),(2,nonce),(3,other),(4,text),(10,N0),(11,vint 0),(25,.bool (decide (¬ (ks.length=32∧ns.length=12))))] [Cl sp 240 [.bool false,N0,vint 0,lv,.map (some kb)],Rw 339 5 lv (A.flatMap Thing.cells),Asn.known kb (knownOf 0 A),KB key ks,KB nonce ns,KB other os,KB text ts,Al R] ?_))
 refine Cp rfl (fun h2=>?_) (fun h2=>?_)
 ·refine Sn (Qa (k:=Qa (k:=Nl [(0,vptr sp 0),(1,key),(2,nonce),(3,other),(4,text),(10,N0),(11,vint 11)] ?_)))
  refine Wr 1 fun hr3a hr3b hr3c=>?_
  try simp only [La,Lc,Ln] at hr3a
  refine W.ent (L':=[Cl sp 240 [.bool false,N0,vint 0,lv,.map (some kb)],Rw 339 5 lv (A.flatMap Thing.cells),Asn.known kb (knownOf 0 A),KB key ks,KB nonce ns,KB other os,KB text ts,Al R]) (es [0,0,0,0,0,0,0,0] rfl) ?_
  refine W.ent (L':=[SuiteR sp A,KB key ks,KB nonce ns,KB other os,KB text ts,Al R]) (Ent.rep' (lv,kb) rfl hAl rfl) ?_
  refine W.ret (inblk_r (thn_r (ret2 (M:=[SuiteR sp A]) rfl rfl rfl (.inr (⟨(by unfold Spec.shut; rw [if_neg (by omega)]),rfl,rfl⟩)) (es [0,4] rfl))))
 refine W.skip (inblk_n (thn_n (Wl [(0,vptr sp 0),(1,key),(2,nonce),(3,other),(4,text),(10,N0),(11,vint 0)] ?_)))
 refine Sn (Qm (k:=Qm (k:=Qu (OpQ.b2s (i:=3) rfl rfl rfl b2s22_9) (k:=Qm (k:=Qu (OpQ.b2s (i:=4) rfl rfl rfl b2s22_9) (k:=Qm (k:=Qu (OpQ.b2s (i:=6) rfl rfl rfl b2s22_9) (k:=Qm (k:=Qu (OpQ.b2s (i:=5) rfl rfl rfl b2s22_9) (k:=Qu (OpQ.build (qs:=[(0,.int .u8 66),(1,.string (⟨ks.toArray⟩)),(2,.string (⟨ns.toArray⟩)),(3,.string (⟨ts.toArray⟩)),(4,.string (⟨os.toArray⟩))]) (v:=.agg #[.int .u8 66,.string (⟨ks.toArray⟩),.string (⟨ns.toArray⟩),.string (⟨ts.toArray⟩),.string (⟨os.toArray⟩)]) rfl ⟨rfl,rfl,rfl,rfl,rfl,rfl,rfl,rfl,rfl,rfl,trivial⟩ (fun _=>by kernel_rfl)) (k:=?_)))))))))))
 refine Wc [.tmp 30,.tmp 39] [vptr sp 0,.agg #[.int .u8 66,.string (⟨ks.toArray⟩),.string (⟨ns.toArray⟩),.string (⟨ts.toArray⟩),.string (⟨os.toArray⟩)]] Tryz.call210 (add_raw sp kb lv (A.flatMap Thing.cells) (⟨66,ks,ns,ts,os⟩:Thing) (by rw [things_length]; omega)) (ep [0,0] rfl) ?_
 rintro _ _ ⟨u4,n5,h6,rfl,rfl⟩
 refine Qa (k:=Nw [(4,text),(10,N0),(11,vint 0),(12,vint (n5:Int))] [Cl sp 240 [.bool false,N0,vint 0,u4,.map (some kb)],Rw 339 5 u4 ((A.flatMap Thing.cells)++(⟨66,ks,ns,ts,os⟩:Thing).cells),Asn.known kb (knownOf 0 A),KB key ks,KB nonce ns,KB other os,KB text ts,Al R] ?_)
 refine Sn (Qm (k:=Qm (k:=?_)))
 refine Nk 6 fun hl7=>?_
 refine Qu (OpQ.lenSl (i:=6) rfl rfl rfl (len22 _)) (k:=?_)
 refine Wc [.tmp 41,.tmp 43] [vint (n5:Int),vint (ts.length:Int)] Tryz.call293 (box_fn (n5:Int) ts.length (by first | omega | (simp; done) | (simp; omega) | (simp at *; omega))) (ep [] rfl) ?_
 rintro _ _ ⟨r8,rfl,rfl⟩
 refine Qa (k:=Qa (k:=Nw [(10,r8),(11,vint 0)] [KB r8 (Spec.box (n5:Int) ts.length),Cl sp 240 [.bool false,N0,vint 0,u4,.map (some kb)],Rw 339 5 u4 ((A.flatMap Thing.cells)++(⟨66,ks,ns,ts,os⟩:Thing).cells),Asn.known kb (knownOf 0 A),KB key ks,KB nonce ns,KB other os,KB text ts,Al R] ?_))
 refine Wr 2 fun hr9a hr9b hr9c=>?_
 try simp only [La,Lc,Ln] at hr9a
 obtain rfl:n5=A.length+1:=add_num h6
 refine W.ent (L':=[Cl sp 240 [.bool false,N0,vint 0,u4,.map (some kb)],Rw 339 5 u4 ((A++[(⟨66,ks,ns,ts,os⟩:Thing)]).flatMap Thing.cells),Asn.known kb (knownOf 0 (A++[(⟨66,ks,ns,ts,os⟩:Thing)])),KB r8 (Spec.box (A.length+1:Int) ts.length),KB key ks,KB nonce ns,KB other os,KB text ts,Al R]) ((es [1,1,1,0,0,0,0,0,0] rfl).trans (Ent.of_eq (by rw [List.flatMap_append,List.flatMap_singleton,knownOf_append' A 0 (⟨66,ks,ns,ts,os⟩:Thing) rfl]; try rfl))) ?_
 refine W.ent (L':=[SuiteR sp (A++[(⟨66,ks,ns,ts,os⟩:Thing)]),KB r8 (Spec.box (A.length+1:Int) ts.length),KB key ks,KB nonce ns,KB other os,KB text ts,Al R]) (Ent.rep' (u4,kb) rfl (Fits.add hAl (by omega) (by first | exact fun _=>ht | exact fun h=>by cases h)) rfl) ?_
 refine W.ret (ret2 (M:=[KB r8 (Spec.box (A.length+1:Int) ts.length),SuiteR sp (A++[(⟨66,ks,ns,ts,os⟩:Thing)])]) rfl rfl rfl (.inl ⟨r8,Spec.box (A.length+1:Int) ts.length,A++[(⟨66,ks,ns,ts,os⟩:Thing)],(by unfold Spec.shut; rw [if_pos (by omega)]),(by simp),(by simp),rfl,rfl⟩) (es [1,0,4] rfl))
theorem Open_fn (sp:Nat) (A:List Thing) (key:Value) (nonce:Value) (other:Value) (b:Value) (ks:Bytes) (ns:Bytes) (os:Bytes) (bs:Bytes):Fn Tryz.prog 268 #[vptr sp 0,key,nonce,other,b] [SuiteR sp A,KB key ks,KB nonce ns,KB other os,KB b bs] (fun v M=>(∃ (r:Value) (x:Bytes),Spec.unshut A ks ns os bs = .ok x∧x.length≤1000000∧.tuple #[r,vint 0]=v∧M=[KB r x,SuiteR sp A])∨(∃ (e:Int),Spec.unshut A ks ns os bs = .error e∧(e=11∨e=20)∧e≠0∧.tuple #[.slice none 0 0,vint e]=v∧M=[SuiteR sp A])):=by
 refine Fi 97 Tryz.func268 fun g R=>?_
 refine Ww [(0,vptr sp 0),(1,key),(2,nonce),(3,other),(4,b)] [SuiteR sp A,KB key ks,KB nonce ns,KB other os,KB b bs,Al R] ?_
 refine W.opens Opens.rep (i:=0) rfl (fun x1 hAl=>?_)
 obtain ⟨lv,kb⟩:=x1
 refine We [Cl sp 240 [.bool false,N0,vint 0,lv,.map (some kb)],Rw 339 5 lv (A.flatMap Thing.cells),Asn.known kb (knownOf 0 A),KB key ks,KB nonce ns,KB other os,KB b bs,Al R] ?_
 refine Sn (Qa (k:=Qa (k:=Nl [(0,vptr sp 0),(1,key),(2,nonce),(3,other),(4,b),(10,N0),(11,vint 0)] ?_)))
 refine W.seq (W.block (Sn (Qm (k:=?_))))
 refine Qu (OpQ.nilCheck rfl rfl) (k:=Qu (Of (fa240_0 _ _)) (k:=Qu (Ol 0 ld4) (k:=Qa (k:=Nl [(0,vptr sp 0),(1,key),(2,nonce),(3,other),(4,b),(10,N0),(11,vint 0),(16,.bool false)] ?_))))
 refine W.condF rfl ?_
 refine Sn (Qm (k:=Qm (k:=?_)))
 refine Wc [.tmp 29,.tmp 30] [key,nonce] Tryz.call292 (sizes_fn key nonce ks ns) ((ed 3 rfl).trans ((ed 5 rfl).trans (ep [1,0] rfl))) ?_
 rintro _ _ ⟨rfl,rfl⟩
 refine Qu (OpQ.notP rfl rfl) (k:=Qa (k:=Nw [(0,vptr sp 0),(1,key),(2,nonce),(3,other),(4,b),(10,N0),(11,vint 0),(28,.bool (decide (¬ (ks.length=32∧ns.length=12))))] [Cl sp 240 [.bool false,N0,vint 0,lv,.map (some kb)],Rw 339 5 lv (A.flatMap Thing.cells),Asn.known kb (knownOf 0 A),KB key ks,KB nonce ns,KB other os,KB b bs,Al R] ?_))
 refine Cp rfl (fun h2=>?_) (fun h2=>?_)
 ·refine Sn (Qa (k:=Qa (k:=Nl [(0,vptr sp 0),(1,key),(2,nonce),(3,other),(4,b),(10,N0),(11,vint 11)] ?_)))
  refine Wr 1 fun hr3a hr3b hr3c=>?_
  try simp only [La,Lc,Ln] at hr3a
  refine W.ent (L':=[Cl sp 240 [.bool false,N0,vint 0,lv,.map (some kb)],Rw 339 5 lv (A.flatMap Thing.cells),Asn.known kb (knownOf 0 A),KB key ks,KB nonce ns,KB other os,KB b bs,Al R]) (es [0,0,0,0,0,0,0,0] rfl) ?_
  refine W.ent (L':=[SuiteR sp A,KB key ks,KB nonce ns,KB other os,KB b bs,Al R]) (Ent.rep' (lv,kb) rfl hAl rfl) ?_
  refine W.ret (inblk_r (thn_r (ret2 (M:=[SuiteR sp A]) rfl rfl rfl (.inr (⟨11,(by unfold Spec.unshut; rw [if_neg (by assumption)]),(by omega),(by first | assumption | rfl | omega | (simp; done) | (simp; omega) | (simp [*]; done) | (simp [*]; omega)),rfl,rfl⟩)) (es [0,4] rfl))))
 refine Sn (Qm (k:=?_))
 refine Nk 6 fun hl4=>?_
 refine Qu (OpQ.lenSl (i:=6) rfl rfl rfl (len22 _)) (k:=Qu (OpQ.lss rfl rfl rfl) (k:=Qa (k:=Nl [(0,vptr sp 0),(1,key),(2,nonce),(3,other),(4,b),(10,N0),(11,vint 0),(33,.bool (decide ((bs.length:Int) < 16)))] ?_)))
 refine Cp rfl (fun h5=>?_) (fun h5=>?_)
 ·refine Sn (Qa (k:=Qa (k:=Nl [(0,vptr sp 0),(1,key),(2,nonce),(3,other),(4,b),(10,N0),(11,vint 20)] ?_)))
  refine Wr 1 fun hr6a hr6b hr6c=>?_
  try simp only [La,Lc,Ln] at hr6a
  refine W.ent (L':=[Cl sp 240 [.bool false,N0,vint 0,lv,.map (some kb)],Rw 339 5 lv (A.flatMap Thing.cells),Asn.known kb (knownOf 0 A),KB key ks,KB nonce ns,KB other os,KB b bs,Al R]) (es [0,0,0,0,0,0,0,0] rfl) ?_
  refine W.ent (L':=[SuiteR sp A,KB key ks,KB nonce ns,KB other os,KB b bs,Al R]) (Ent.rep' (lv,kb) rfl hAl rfl) ?_
  refine W.ret (inblk_r (thn_r (ret2 (M:=[SuiteR sp A]) rfl rfl rfl (.inr (⟨20,(by unfold Spec.unshut; rw [if_pos (by omega),if_pos (by omega)]),(by omega),(by first | assumption | rfl | omega | (simp; done) | (simp; omega) | (simp [*]; done) | (simp [*]; omega)),rfl,rfl⟩)) (es [0,4] rfl))))
 refine W.skip (inblk_n (thn_n (Wl [(0,vptr sp 0),(1,key),(2,nonce),(3,other),(4,b),(10,N0),(11,vint 0)] ?_)))
 refine Sn (Qa (k:=Nl [(0,vptr sp 0),(1,key),(2,nonce),(3,other),(4,b),(10,N0),(11,vint 0),(12,vint 0)] ?_))
 refine W.seq (Sn (Qm (k:=?_)))
 refine Qm (k:=Qu (OpQ.lenSl (i:=6) rfl rfl rfl (len22 _)) (k:=Qu (OpQ.sub rfl rfl rfl ⟨by omega,by omega⟩) (k:=?_)))
 refine WN.ent (Ent.slv (i:=6) (lo:=bs.length - 8) (hi:=bs.length) (mx:=scap b) (ys:=bs.drop (bs.length - 8)) rfl (by first | omega | (simp; omega)) (by first | omega | (simp; omega)) (by first | exact .inl rfl | exact .inr ⟨by first | omega | (simp; omega),by first | omega | (simp; omega)⟩) (by first | rfl | exact List.take_of_length_le (by simp) | simp)) ?_
 refine Ne [KB (slv b (bs.length - 8) bs.length (scap b) 1) (bs.drop (bs.length - 8)),Cl sp 240 [.bool false,N0,vint 0,lv,.map (some kb)],Rw 339 5 lv (A.flatMap Thing.cells),Asn.known kb (knownOf 0 A),KB key ks,KB nonce ns,KB other os,KB b bs,Al R] (Qu (OpQ.slice (i:=7) (p:=(bs.length - 8)) (q:=bs.length) (r:=(scap b)) rfl rfl rfl (Eq.trans (b:=some (vint ((bs.length:Int) - 8))) rfl (by first | rfl | (congr 2; omega))) rfl rfl (by first | omega | (simp; omega)) (by first | omega | (simp; omega)) (by first | (intro h; cases h; done) | exact fun _=>⟨by first | omega | (simp; omega),by first | omega | (simp; omega)⟩) (by first | (intro h; cases h; done) | exact fun _=>rfl) rfl sla22 Tryz.runUnderlying22 sz5) (k:=?_))
 refine Nk 0 fun hl7=>?_
 refine Qu (OpQ.lenSl (i:=0) rfl rfl rfl (len22 _)) (k:=Qm (k:=Nl [(0,vptr sp 0),(1,key),(2,nonce),(3,other),(4,b),(10,N0),(11,vint 0),(12,vint 0),(41,slv b (bs.length - 8) bs.length (scap b) 1),(42,vint ((bs.drop (bs.length - 8)).length:Int)),(43,vint 0)] ?_))
 refine W.block (W.loop (X:=Nat × Int) (fun x=>match x with | (k,n)=>[(0,vptr sp 0),(1,key),(2,nonce),(3,other),(4,b),(12,vint n),(41,slv b (bs.length - 8) bs.length (scap b) 1),(42,vint ((bs.drop (bs.length - 8)).length:Int)),(43,vint (k:Int))]) (fun x=>match x with | (k,n)=>[Asn.pure (k≤(bs.drop (bs.length - 8)).length∧n=Spec.num ((bs.drop (bs.length - 8)).take k)),KB (slv b (bs.length - 8) bs.length (scap b) 1) (bs.drop (bs.length - 8)),Cl sp 240 [.bool false,N0,vint 0,lv,.map (some kb)],Rw 339 5 lv (A.flatMap Thing.cells),Asn.known kb (knownOf 0 A),KB key ks,KB nonce ns,KB other os,KB b bs,Al R]) (fun x=>match x with | (k,n)=>(bs.drop (bs.length - 8)).length - k) (0,0) ⟨rfl,rfl,rfl,rfl,rfl,rfl,rfl,rfl,rfl,trivial⟩ ((es [0,0,0,0,0,0,0,0,0] rfl).trans (Ent.pure_in (by exact ⟨Nat.zero_le _,rfl⟩))) (fun x=>?_))
 obtain ⟨k,n⟩:=x
 show W _ _ _ _ _ [(0,vptr sp 0),(1,key),(2,nonce),(3,other),(4,b),(12,vint n),(41,slv b (bs.length - 8) bs.length (scap b) 1),(42,vint ((bs.drop (bs.length - 8)).length:Int)),(43,vint (k:Int))] [Asn.pure (k≤(bs.drop (bs.length - 8)).length∧n=Spec.num ((bs.drop (bs.length - 8)).take k)),KB (slv b (bs.length - 8) bs.length (scap b) 1) (bs.drop (bs.length - 8)),Cl sp 240 [.bool false,N0,vint 0,lv,.map (some kb)],Rw 339 5 lv (A.flatMap Thing.cells),Asn.known kb (knownOf 0 A),KB key ks,KB nonce ns,KB other os,KB b bs,Al R]
 refine W.opens Opens.pure (i:=0) rfl (fun _ hI8=>?_)
 replace hI8:=hI8
 show W _ _ _ _ _ [(0,vptr sp 0),(1,key),(2,nonce),(3,other),(4,b),(12,vint n),(41,slv b (bs.length - 8) bs.length (scap b) 1),(42,vint ((bs.drop (bs.length - 8)).length:Int)),(43,vint (k:Int))] [KB (slv b (bs.length - 8) bs.length (scap b) 1) (bs.drop (bs.length - 8)),Cl sp 240 [.bool false,N0,vint 0,lv,.map (some kb)],Rw 339 5 lv (A.flatMap Thing.cells),Asn.known kb (knownOf 0 A),KB key ks,KB nonce ns,KB other os,KB b bs,Al R]
 refine Sn (Qu (OpQ.lss rfl rfl rfl) (k:=Nl [(0,vptr sp 0),(1,key),(2,nonce),(3,other),(4,b),(12,vint n),(41,slv b (bs.length - 8) bs.length (scap b) 1),(42,vint ((bs.drop (bs.length - 8)).length:Int)),(43,vint (k:Int)),(44,.bool (decide ((k:Int) < ((bs.drop (bs.length - 8)).length:Int))))] ?_))
 refine W.seq (Cp rfl (fun h9=>?_) (fun h9=>?_))
 ·refine W.skip (thn_n (Wl [(0,vptr sp 0),(1,key),(2,nonce),(3,other),(4,b),(12,vint n),(41,slv b (bs.length - 8) bs.length (scap b) 1),(42,vint ((bs.drop (bs.length - 8)).length:Int)),(43,vint (k:Int))] ?_))
  refine W.seq (W.block (Sn (Qu (OpQ.indexSl (i:=0) (j:=k) rfl rfl rfl rfl (by omega) (by omega) (by simp only [Enc.u8]; omega) ix22) (k:=?_))))
  refine Qu (OpQ.loadU8 (i:=0) rfl rfl rfl (by omega) ld5) (k:=Qa (k:=Nl [(0,vptr sp 0),(1,key),(2,nonce),(3,other),(4,b),(12,vint n),(14,.int .u8 (((bs.drop (bs.length - 8)).getD k 0).toNat)),(41,slv b (bs.length - 8) bs.length (scap b) 1),(42,vint ((bs.drop (bs.length - 8)).length:Int)),(43,vint (k:Int))] ?_))
  refine W.region (Qm (k:=?_))
  refine Qu (OpQ.shl8 rfl rfl rfl) (k:=Qm (k:=Qu (OpQ.convI64 (p:=((bs.drop (bs.length - 8)).getD k 0).toNat) rfl rfl (by first | omega | exact UInt8.toNat_lt _) Tryz.runUnderlying3 (fun w=>⟨_,Tryz.runUnderlying5 w⟩)) (k:=Qu (OpQ.or rfl rfl rfl) (k:=Qa (k:=?_)))))
  refine WN.nil (inblk_n (thn_n (Wl [(0,vptr sp 0),(1,key),(2,nonce),(3,other),(4,b),(12,vint (bits .or .i64 (IntKind.i64.wrap (n*256)) (((bs.drop (bs.length - 8)).getD k 0).toNat:Int))),(41,slv b (bs.length - 8) bs.length (scap b) 1),(42,vint ((bs.drop (bs.length - 8)).length:Int)),(43,vint (k:Int))] ?_)))
  refine W.region (Qu (OpQ.add rfl rfl rfl ⟨by omega,by omega⟩) (k:=?_))
  refine Qm (k:=?_)
  refine WN.nil (thn_n ⟨(k+1,bits .or .i64 (IntKind.i64.wrap (n*256)) (((bs.drop (bs.length - 8)).getD k 0).toNat:Int)),by (show (bs.drop (bs.length - 8)).length - (k+1) < (bs.drop (bs.length - 8)).length - k); omega,⟨rfl,rfl,rfl,rfl,rfl,rfl,rfl,rfl,(Eq.trans (b:=some (vint ((k:Int)+1))) rfl (by first | rfl | (congr 2; omega))),trivial⟩,?_⟩)
  exact (es [0,0,0,0,0,0,0,0,0] rfl).trans (Ent.pure_in (by refine ⟨by omega,?_⟩; rw [Spec.num_succ (by omega),← hI8.2]; rfl))
 obtain ⟨hIa,hIb⟩:=hI8
 obtain rfl:k=(bs.drop (bs.length - 8)).length:=by omega
 rw [List.take_length] at hIb; subst hIb
 refine W.exit (thn_x (thn_x (inblk_x (thn_n (Wl [(0,vptr sp 0),(1,key),(2,nonce),(3,other),(4,b),(12,vint (Spec.num (bs.drop (bs.length - 8))))] ?_)))))
 refine W.seq (Sn (Qm (k:=?_)))
 by_cases h10:Spec.num (bs.drop (bs.length - 8)) < 1
 ·refine Qu (OpQ.decT (OpQ.lss rfl rfl rfl) h10) (k:=Qm (k:=Qs (k:=Qs (k:=Qs (k:=Qs (k:=Qs (k:=Qs (k:=Qs (k:=Qt (k:=Nl [(0,vptr sp 0),(1,key),(2,nonce),(3,other),(4,b),(12,vint (Spec.num (bs.drop (bs.length - 8)))),(63,.bool true)] ?_))))))))))
  refine W.condT rfl ?_
  refine Sn (Qa (k:=Qa (k:=Nl [(0,vptr sp 0),(1,key),(2,nonce),(3,other),(4,b),(10,N0),(11,vint 20),(12,vint (Spec.num (bs.drop (bs.length - 8))))] ?_)))
  refine Wr 2 fun hr11a hr11b hr11c=>?_
  try simp only [La,Lc,Ln] at hr11a
  refine W.ent (L':=[Cl sp 240 [.bool false,N0,vint 0,lv,.map (some kb)],Rw 339 5 lv (A.flatMap Thing.cells),Asn.known kb (knownOf 0 A),KB (slv b (bs.length - 8) bs.length (scap b) 1) (bs.drop (bs.length - 8)),KB key ks,KB nonce ns,KB other os,KB b bs,Al R]) (es [1,1,1,0,0,0,0,0,0] rfl) ?_
  refine W.ent (L':=[SuiteR sp A,KB (slv b (bs.length - 8) bs.length (scap b) 1) (bs.drop (bs.length - 8)),KB key ks,KB nonce ns,KB other os,KB b bs,Al R]) (Ent.rep' (lv,kb) rfl hAl rfl) ?_
  refine W.ret (thn_r (ret2 (M:=[SuiteR sp A]) rfl rfl rfl (.inr (⟨20,(by unfold Spec.unshut; rw [if_pos (by omega),if_neg (by omega)]; cases hx:A[(Spec.num (bs.drop (bs.length - 8)) - 1).toNat]? <;> simp [h10]),(by omega),(by first | assumption | rfl | omega | (simp; done) | (simp; omega) | (simp [*]; done) | (simp [*]; omega)),rfl,rfl⟩)) (es [0,5] rfl)))
 refine Qu (OpQ.decF (OpQ.lss rfl rfl rfl) h10) (k:=Qm (k:=?_))
 refine WN.fact (fun _ _ s=>row_facts (i:=2) rfl s) (fun hrl=>?_)
 have hlen:slen lv=A.length:=by have:=things_length A; omega
 refine Qm (k:=Qm (k:=Qu (OpQ.nilCheck rfl rfl) (k:=Qu (Of (fa240_3 _ _)) (k:=Qu (Ol 1 ld238) (k:=?_)))))
 refine Nr 2 fun hr12a hr12b hr12c=>?_
 try simp only [La,Lc,Ln] at hr12a
 refine Qu (OpQ.lenRow (i:=2) rfl rfl rfl (len238 _)) (k:=Qu (OpQ.gtr rfl rfl rfl) (k:=Qf (k:=Nl [(0,vptr sp 0),(1,key),(2,nonce),(3,other),(4,b),(12,vint (Spec.num (bs.drop (bs.length - 8)))),(63,.bool (decide (Spec.num (bs.drop (bs.length - 8)) > (slen lv:Int))))] ?_)))
 refine Cp rfl (fun h13=>?_) (fun h13=>?_)
 ·refine Sn (Qa (k:=Qa (k:=Nl [(0,vptr sp 0),(1,key),(2,nonce),(3,other),(4,b),(10,N0),(11,vint 20),(12,vint (Spec.num (bs.drop (bs.length - 8))))] ?_)))
  refine W.ent (L':=[Cl sp 240 [.bool false,N0,vint 0,lv,.map (some kb)],Rw 339 5 lv (A.flatMap Thing.cells),Asn.known kb (knownOf 0 A),KB (slv b (bs.length - 8) bs.length (scap b) 1) (bs.drop (bs.length - 8)),KB key ks,KB nonce ns,KB other os,KB b bs,Al R]) (es [1,1,1,0,0,0,0,0,0] rfl) ?_
  refine W.ent (L':=[SuiteR sp A,KB (slv b (bs.length - 8) bs.length (scap b) 1) (bs.drop (bs.length - 8)),KB key ks,KB nonce ns,KB other os,KB b bs,Al R]) (Ent.rep' (lv,kb) rfl hAl rfl) ?_
  refine W.ret (thn_r (ret2 (M:=[SuiteR sp A]) rfl rfl rfl (.inr (⟨20,(by unfold Spec.unshut; rw [if_pos (by omega),if_neg (by omega)]; rw [List.getElem?_eq_none (by omega)]),(by omega),(by first | assumption | rfl | omega | (simp; done) | (simp; omega) | (simp [*]; done) | (simp [*]; omega)),rfl,rfl⟩)) (es [0,5] rfl)))
 refine W.skip (thn_n (Wl [(0,vptr sp 0),(1,key),(2,nonce),(3,other),(4,b),(12,vint (Spec.num (bs.drop (bs.length - 8))))] ?_))
 refine Sn (WN.fact (fun _ _ s=>row_facts (i:=2) rfl s) (fun hrl=>?_))
 have hlen:slen lv=A.length:=by have:=things_length A; omega
 obtain ⟨t,hth⟩:∃ t,A[(Spec.num (bs.drop (bs.length - 8)) - 1).toNat]? = some t:=⟨_,List.getElem?_eq_getElem (by omega)⟩
 refine Qm (k:=Qu (OpQ.nilCheck rfl rfl) (k:=Qu (Of (fa240_3 _ _)) (k:=Qu (Ol 1 ld238) (k:=Qm (k:=Qu (OpQ.sub rfl rfl rfl ⟨by omega,by omega⟩) (k:=Qu (OpQ.indexRow (i:=2) (j:=(((Spec.num (bs.drop (bs.length - 8))) - 1).toNat)*5) rfl rfl rfl rfl (by omega) (by omega) (by omega) ix238) (k:=Qu (OpQ.loadRowN (i:=2) (vs:=[.int .u8 t.sort.toNat,.string (⟨t.key.toArray⟩),.string (⟨t.nonce.toArray⟩),.string (⟨t.text.toArray⟩),.string (⟨t.other.toArray⟩)]) rfl rfl rfl (things_at hth) rfl (by decide) ld339) (k:=?_))))))))
 refine Ru (OpRun.alloc rfl zv339 rfl) ?_
 rintro _ _ ⟨b14,rfl,rfl⟩
 refine Rn (OpRun.store (i:=0) (vs:=[.int .u8 t.sort.toNat,.string (⟨t.key.toArray⟩),.string (⟨t.nonce.toArray⟩),.string (⟨t.text.toArray⟩),.string (⟨t.other.toArray⟩)]) (cs':=[.int .u8 t.sort.toNat,.string (⟨t.key.toArray⟩),.string (⟨t.nonce.toArray⟩),.string (⟨t.text.toArray⟩),.string (⟨t.other.toArray⟩)]) rfl rfl rfl sz339 rfl rfl (O3 (one_cons rfl (one_cons rfl one_nil))) rfl (Lb rfl) rfl) (k:=Nw [(1,key),(2,nonce),(3,other),(4,b),(12,vint (Spec.num (bs.drop (bs.length - 8)))),(15,vptr b14 0)] [Cl b14 339 [.int .u8 t.sort.toNat,.string (⟨t.key.toArray⟩),.string (⟨t.nonce.toArray⟩),.string (⟨t.text.toArray⟩),.string (⟨t.other.toArray⟩)],KB (slv b (bs.length - 8) bs.length (scap b) 1) (bs.drop (bs.length - 8)),Cl sp 240 [.bool false,N0,vint 0,lv,.map (some kb)],Rw 339 5 lv (A.flatMap Thing.cells),Asn.known kb (knownOf 0 A),KB key ks,KB nonce ns,KB other os,KB b bs,Al R] ?_)
 refine W.seq (W.seq (W.drawG mixed ?_))
 refine WG.hold (Cl b14 339 [.int .u8 t.sort.toNat,.string (⟨t.key.toArray⟩),.string (⟨t.nonce.toArray⟩),.string (⟨t.text.toArray⟩),.string (⟨t.other.toArray⟩)],[]) ?_
 refine Gq 0 [0] rfl (OpQ.loadN (i:=0) rfl rfl ld339 rfl rfl rfl) ?_
 refine Gq 1 [0] rfl (OpQ.move rfl rfl) ?_
 refine WG.hold (KB key ks,[]) ?_
 refine Gq 2 [5,0] rfl (OpQ.b2s (i:=0) rfl rfl rfl b2s22_9) ?_
 refine Gq 3 [5,0] rfl (OpQ.move rfl rfl) ?_
 refine WG.hold (KB nonce ns,[]) ?_
 refine Gq 4 [6,5,0] rfl (OpQ.b2s (i:=0) rfl rfl rfl b2s22_9) ?_
 refine Gq 5 [6,5,0] rfl (Of (fa339_3 _ _)) ?_
 refine Gq 6 [6,5,0] rfl (Ol 2 ld9) ?_
 refine Gq 7 [6,5,0] rfl (OpQ.move rfl rfl) ?_
 refine WG.hold (KB other os,[]) ?_
 refine Gq 8 [7,6,5,0] rfl (OpQ.b2s (i:=0) rfl rfl rfl b2s22_9) ?_
 refine Gq 9 [7,6,5,0] rfl (OpQ.build (qs:=[(0,.int .u8 66),(1,.string (⟨ks.toArray⟩)),(2,.string (⟨ns.toArray⟩)),(3,.string (⟨t.text.toArray⟩)),(4,.string (⟨os.toArray⟩))]) (v:=.agg #[.int .u8 66,.string (⟨ks.toArray⟩),.string (⟨ns.toArray⟩),.string (⟨t.text.toArray⟩),.string (⟨os.toArray⟩)]) rfl ⟨rfl,rfl,rfl,rfl,rfl,rfl,rfl,rfl,rfl,rfl,trivial⟩ (fun _=>by kernel_rfl)) ?_
 by_cases h15:t≠(⟨66,ks,ns,t.text,os⟩:Thing)
 ·refine Gq 10 [7,6,5,0] rfl (OpQ.decT (OpQ.thingNeq (a:=t) (b:=(⟨66,ks,ns,t.text,os⟩:Thing)) rfl rfl rfl) h15) ?_
  refine Gq 11 [7,6,5,0] rfl (OpQ.move rfl rfl) ?_
  refine Gs 12 [7,6,5,0] ?_
  refine Gs 13 [7,6,5,0] ?_
  refine Gs 14 [7,6,5,0] ?_
  refine Gs 15 [7,6,5,0] ?_
  refine Gs 16 [7,6,5,0] ?_
  refine Gs 17 [7,6,5,0] ?_
  refine Gs 18 [7,6,5,0] ?_
  refine Gs 19 [7,6,5,0] ?_
  refine Gs 20 [7,6,5,0] ?_
  refine Gq 21 [7,6,5,0] rfl (OpQ.pickT rfl rfl rfl) ?_
  refine WG.done (by kernel_rfl) ?_
  refine thn_n (Wl [(15,vptr b14 0),(93,.bool true)] ?_)
  refine W.condT rfl ?_
  refine Sn (Qa (k:=Qa (k:=Nl [(10,N0),(11,vint 20),(15,vptr b14 0)] ?_)))
  refine W.ent (L':=[Cl sp 240 [.bool false,N0,vint 0,lv,.map (some kb)],Rw 339 5 lv (A.flatMap Thing.cells),Asn.known kb (knownOf 0 A),Cl b14 339 [.int .u8 t.sort.toNat,.string (⟨t.key.toArray⟩),.string (⟨t.nonce.toArray⟩),.string (⟨t.text.toArray⟩),.string (⟨t.other.toArray⟩)],KB (slv b (bs.length - 8) bs.length (scap b) 1) (bs.drop (bs.length - 8)),KB key ks,KB nonce ns,KB other os,KB b bs,Al R]) (es [2,2,2,0,0,0,0,0,0,0] rfl) ?_
  refine W.ent (L':=[SuiteR sp A,Cl b14 339 [.int .u8 t.sort.toNat,.string (⟨t.key.toArray⟩),.string (⟨t.nonce.toArray⟩),.string (⟨t.text.toArray⟩),.string (⟨t.other.toArray⟩)],KB (slv b (bs.length - 8) bs.length (scap b) 1) (bs.drop (bs.length - 8)),KB key ks,KB nonce ns,KB other os,KB b bs,Al R]) (Ent.rep' (lv,kb) rfl hAl rfl) ?_
  refine W.ret (thn_r (ret2 (M:=[SuiteR sp A]) rfl rfl rfl (.inr (⟨20,(by unfold Spec.unshut; rw [if_pos (by omega),if_neg (by omega)]; rw [hth]; show (if _ then _ else _)=_; rw [if_neg (by assumption),if_neg (fun h=>h15 h.1)]),(by omega),(by first | assumption | rfl | omega | (simp; done) | (simp; omega) | (simp [*]; done) | (simp [*]; omega)),rfl,rfl⟩)) (es [0,6] rfl)))
 refine Gq 10 [7,6,5,0] rfl (OpQ.decF (OpQ.thingNeq (a:=t) (b:=(⟨66,ks,ns,t.text,os⟩:Thing)) rfl rfl rfl) h15) ?_
 refine Gq 11 [7,6,5,0] rfl (OpQ.move rfl rfl) ?_
 refine Gq 12 [7,6,5,0] rfl (OpQ.move rfl rfl) ?_
 refine Gq 13 [7,6,5,0] rfl (Of (fa339_3 _ _)) ?_
 refine Gq 14 [7,6,5,0] rfl (Ol 3 ld9) ?_
 refine Gq 15 [7,6,5,0] rfl (OpQ.lenStr (bs:=t.text) rfl rfl (lens9 _)) ?_
 refine Gq 18 [7,6,5,0] rfl (OpQ.move rfl rfl) ?_
 refine WG.hold (KB b bs,[]) ?_
 refine Gq 19 [8,7,6,5,0] rfl (OpQ.b2s (i:=0) rfl rfl rfl b2s22_9) ?_
 have htt:t.text.length≤1000000:=hAl.2 t (List.mem_of_getElem? hth) (by have:=Decidable.of_not_not h15; rw [this])
 refine WG.one (i:=16) (by kernel_rfl) (UpG.call rfl rfl rfl (OpCall.mk (xs:=[.tmp 84,.tmp 87]) (vs:=[vint (Spec.num (bs.drop (bs.length - 8))),vint (t.text.length:Int)]) rfl ⟨rfl,rfl,trivial⟩ Tryz.call293) (box_fn (Spec.num (bs.drop (bs.length - 8))) t.text.length (by first | omega | (simp; done) | (simp; omega) | (simp at *; omega))) (ep [] rfl) ?_)
 rintro _ _ ⟨r16,rfl,rfl⟩
 refine ⟨es [9,8,7,6,1] rfl,?_⟩
 refine WG.hold (KB r16 (Spec.box (Spec.num (bs.drop (bs.length - 8))) t.text.length),[]) ?_
 refine Gq 17 [0,8,7,6,5,0] rfl (OpQ.b2s (i:=0) rfl rfl rfl b2s22_9) ?_
 refine Gq 20 [0,8,7,6,5,0] rfl (OpQ.strNeq (a:=(Spec.box (Spec.num (bs.drop (bs.length - 8))) t.text.length)) (b:=bs) rfl rfl rfl) ?_
 refine Gq 21 [0,8,7,6,5,0] rfl (OpQ.pickF rfl rfl rfl) ?_
 refine WG.done (by kernel_rfl) ?_
 refine thn_n (Ww [(15,vptr b14 0),(93,.bool (decide ((Spec.box (Spec.num (bs.drop (bs.length - 8))) t.text.length)≠bs)))] [KB r16 (Spec.box (Spec.num (bs.drop (bs.length - 8))) t.text.length),Cl b14 339 [.int .u8 t.sort.toNat,.string (⟨t.key.toArray⟩),.string (⟨t.nonce.toArray⟩),.string (⟨t.text.toArray⟩),.string (⟨t.other.toArray⟩)],KB (slv b (bs.length - 8) bs.length (scap b) 1) (bs.drop (bs.length - 8)),Cl sp 240 [.bool false,N0,vint 0,lv,.map (some kb)],Rw 339 5 lv (A.flatMap Thing.cells),Asn.known kb (knownOf 0 A),KB key ks,KB nonce ns,KB other os,KB b bs,Al R] ?_)
 refine Cp rfl (fun h17=>?_) (fun h17=>?_)
 ·refine Sn (Qa (k:=Qa (k:=Nl [(10,N0),(11,vint 20),(15,vptr b14 0)] ?_)))
  refine W.ent (L':=[Cl sp 240 [.bool false,N0,vint 0,lv,.map (some kb)],Rw 339 5 lv (A.flatMap Thing.cells),Asn.known kb (knownOf 0 A),KB r16 (Spec.box (Spec.num (bs.drop (bs.length - 8))) t.text.length),Cl b14 339 [.int .u8 t.sort.toNat,.string (⟨t.key.toArray⟩),.string (⟨t.nonce.toArray⟩),.string (⟨t.text.toArray⟩),.string (⟨t.other.toArray⟩)],KB (slv b (bs.length - 8) bs.length (scap b) 1) (bs.drop (bs.length - 8)),KB key ks,KB nonce ns,KB other os,KB b bs,Al R]) (es [3,3,3,0,0,0,0,0,0,0,0] rfl) ?_
  refine W.ent (L':=[SuiteR sp A,KB r16 (Spec.box (Spec.num (bs.drop (bs.length - 8))) t.text.length),Cl b14 339 [.int .u8 t.sort.toNat,.string (⟨t.key.toArray⟩),.string (⟨t.nonce.toArray⟩),.string (⟨t.text.toArray⟩),.string (⟨t.other.toArray⟩)],KB (slv b (bs.length - 8) bs.length (scap b) 1) (bs.drop (bs.length - 8)),KB key ks,KB nonce ns,KB other os,KB b bs,Al R]) (Ent.rep' (lv,kb) rfl hAl rfl) ?_
  refine W.ret (thn_r (ret2 (M:=[SuiteR sp A]) rfl rfl rfl (.inr (⟨20,(by unfold Spec.unshut; rw [if_pos (by omega),if_neg (by omega)]; rw [hth]; show (if _ then _ else _)=_; rw [if_neg (by assumption),if_neg (fun h=>h17 h.2)]),(by omega),(by first | assumption | rfl | omega | (simp; done) | (simp; omega) | (simp [*]; done) | (simp [*]; omega)),rfl,rfl⟩)) (es [0,7] rfl)))
 refine W.skip (thn_n (Wl [(15,vptr b14 0)] ?_))
 refine Sn (Qu (Of (fa339_3 _ _)) (k:=Qu (Ol 1 ld9) (k:=?_)))
 refine Ru (OpRun.s2b (bs:=t.text) rfl rfl rfl (by first | omega | (simp; done) | (simp; omega)) s2b9_22) ?_
 rintro v18 _ ⟨h19a,h19b,h19c,rfl⟩
 refine Qa (k:=Qa (k:=Nw [(10,v18),(11,vint 0)] [Rw 5 1 v18 (bv t.text),KB r16 (Spec.box (Spec.num (bs.drop (bs.length - 8))) t.text.length),Cl b14 339 [.int .u8 t.sort.toNat,.string (⟨t.key.toArray⟩),.string (⟨t.nonce.toArray⟩),.string (⟨t.text.toArray⟩),.string (⟨t.other.toArray⟩)],KB (slv b (bs.length - 8) bs.length (scap b) 1) (bs.drop (bs.length - 8)),Cl sp 240 [.bool false,N0,vint 0,lv,.map (some kb)],Rw 339 5 lv (A.flatMap Thing.cells),Asn.known kb (knownOf 0 A),KB key ks,KB nonce ns,KB other os,KB b bs,Al R] ?_))
 refine Wr 0 fun hr20a hr20b hr20c=>?_
 try simp only [La,Lc,Ln] at hr20a
 refine W.freezeB (i:=0) rfl ?_
 refine W.ent (L':=[Cl sp 240 [.bool false,N0,vint 0,lv,.map (some kb)],Rw 339 5 lv (A.flatMap Thing.cells),Asn.known kb (knownOf 0 A),KB v18 t.text,KB r16 (Spec.box (Spec.num (bs.drop (bs.length - 8))) t.text.length),Cl b14 339 [.int .u8 t.sort.toNat,.string (⟨t.key.toArray⟩),.string (⟨t.nonce.toArray⟩),.string (⟨t.text.toArray⟩),.string (⟨t.other.toArray⟩)],KB (slv b (bs.length - 8) bs.length (scap b) 1) (bs.drop (bs.length - 8)),KB key ks,KB nonce ns,KB other os,KB b bs,Al R]) (es [4,4,4,0,0,0,0,0,0,0,0,0] rfl) ?_
 refine W.ent (L':=[SuiteR sp A,KB v18 t.text,KB r16 (Spec.box (Spec.num (bs.drop (bs.length - 8))) t.text.length),Cl b14 339 [.int .u8 t.sort.toNat,.string (⟨t.key.toArray⟩),.string (⟨t.nonce.toArray⟩),.string (⟨t.text.toArray⟩),.string (⟨t.other.toArray⟩)],KB (slv b (bs.length - 8) bs.length (scap b) 1) (bs.drop (bs.length - 8)),KB key ks,KB nonce ns,KB other os,KB b bs,Al R]) (Ent.rep' (lv,kb) rfl hAl rfl) ?_
 refine W.ret (ret2 (M:=[KB v18 t.text,SuiteR sp A]) rfl rfl rfl (.inl ⟨v18,t.text,(by unfold Spec.unshut; rw [if_pos (by omega),if_neg (by omega)]; rw [hth]; show (if _ then _ else _)=_; rw [if_neg (by assumption),if_pos ⟨Decidable.of_not_not h15,Decidable.of_not_not h17⟩]),(by assumption),rfl,rfl⟩) (es [1,0,7] rfl))
end Go.Lk
open Go.Proofs
namespace Go.Lk
inductive Part where
  | n (x:Int)
  | b (bs:Bytes)
def PartRel (K:PH) (v:Value):Part→Prop
  | .n x=>v = .iface 3 (vint x)
  | .b bs=>∃ u,v = .iface 22 u∧Sl.φ Enc.u8 5 u bs K
def Enc.part:Enc Part:=⟨1,fun K cs x=>∃ v,cs=[v]∧PartRel K v x,fun hk ⟨v,h1,h2⟩=>⟨v,h1,by cases ‹Part› with
  | n x=>exact h2
  | b bs=>obtain ⟨u,h3,h4⟩:=h2; exact ⟨u,h3,Sl.mono hk h4⟩⟩⟩
def PartK (v:Value) (x:Part):Kn:=Dat Enc.part [v] x
namespace Spec
def number (n:Int):Except Int Bytes:=if 0≤n∧n≤1099511627776 then .ok (be 6 n) else .error 12
def text (bs:Bytes):Except Int Bytes:=if bs.length≤4096 then .ok (be 2 bs.length++bs) else .error 11
def part:Part→Except Int Bytes
  | .n x=>number x
  | .b bs=>text bs
def put:List Part→Except Int Bytes
  | []=>.ok []
  | p :: ps=>match part p with
    | .error e=>.error e
    | .ok x=>match put ps with
      | .error e=>.error e
      | .ok y=>.ok (x++y)
theorem put_snoc:∀ {ps:List Part} {p:Part} {x y:Bytes},put ps = .ok x→part p = .ok y→put (ps++[p]) = .ok (x++y)
  | [],p,x,y,h,hy=>by simp [put] at h; subst h; simp [put,hy]
  | q :: ps,p,x,y,h,hy=>by
    simp only [put,List.cons_append] at h ⊢
    cases hq:part q with
    | error e=>rw [hq] at h; simp at h
    | ok a =>
      rw [hq] at h
      simp only at h
      cases hp:put ps with
      | error e=>rw [hp] at h; simp at h
      | ok b =>
        rw [hp] at h
        simp at h
        subst h
        simp [put_snoc hp hy]
theorem put_err:∀ {ps qs:List Part} {p:Part} {x:Bytes} {e:Int},put ps = .ok x→part p = .error e→put (ps++p :: qs) = .error e
  | [],qs,p,x,e,h,he=>by simp [put,he]
  | q :: ps,qs,p,x,e,h,he=>by
    simp only [put,List.cons_append] at h ⊢
    cases hq:part q with
    | error e=>rw [hq] at h; simp at h
    | ok a =>
      rw [hq] at h
      simp only at h
      cases hp:put ps with
      | error e=>rw [hp] at h; simp at h
      | ok b=>simp [put_err hp he]
theorem put_take_succ {ps:List Part} {k:Nat} {x y:Bytes} (hk:k < ps.length) (h:put (ps.take k) = .ok x) (hy:part (ps.getD k (.n 0)) = .ok y):put (ps.take (k+1)) = .ok (x++y):=by
  rw [List.take_succ_eq_append_getElem hk]
  refine put_snoc h ?_
  rwa [List.getD_eq_getElem?_getD,List.getElem?_eq_getElem hk] at hy
theorem put_take_err {ps:List Part} {k:Nat} {x:Bytes} {e:Int} (hk:k < ps.length) (h:put (ps.take k) = .ok x) (hy:part (ps.getD k (.n 0)) = .error e):put ps = .error e:=by
  have h1:ps=ps.take k++ps[k] :: ps.drop (k+1):=by rw [← List.drop_eq_getElem_cons hk,List.take_append_drop]
  rw [h1]
  refine put_err h ?_
  rwa [List.getD_eq_getElem?_getD,List.getElem?_eq_getElem hk] at hy
def take (n:Nat):Option Bytes→Bytes × Option Bytes
  | none=>([],none)
  | some bs=>if n≤bs.length then (bs.take n,some (bs.drop n)) else ([],none)
def get (n:Nat) (s:Option Bytes):Int × Option Bytes:=(num (take n s).1,(take n s).2)
def rnumber (lo hi:Int) (s:Option Bytes):Int × Option Bytes :=
  match get 6 s with
  | (n,some r)=>if n < lo∨n > hi then (0,none) else (n,some r)
  | (_,none)=>(0,none)
def rtext (lo hi:Int) (s:Option Bytes):Bytes × Option Bytes :=
  match get 2 s with
  | (n,some r)=>if n < lo∨n > hi then ([],none) else take n.toNat (some r)
  | (_,none)=>([],none)
end Spec
def ReaderR (rp:Nat) (s:Option Bytes):Asn:=Asn.rep (fun x:Value × Bytes=>x.1.oneCell' = true∧x.2.length≤1000000∧(s=none∨s=some x.2)) fun x =>
  [Asn.cells rp 352 [x.1,.bool s.isNone],Asn.kn (Sl Enc.u8 5 x.1 x.2)]
end Go.Lk
open Go.Proofs
set_option maxRecDepth 8000
namespace Go.Lk
open Asn renaming cells→Cl,row→Rw,kn→Kk,all→Al
theorem sz20:∀ (w:World),(sizeOf 20).run Tryz.prog w = .ok 1 w:=fun _=>by kernel_rfl
theorem sz4:∀ (w:World),(sizeOf 4).run Tryz.prog w = .ok 1 w:=fun _=>by kernel_rfl
theorem fa352_0:∀ (b k:Nat) (w:World),(Instr.fieldAt 352 (vptr b k) 0).run Tryz.prog w = .ok (vptr b (k)) w:=fun _ _ _=>by kernel_rfl
theorem fa352_1:∀ (b k:Nat) (w:World),(Instr.fieldAt 352 (vptr b k) 1).run Tryz.prog w = .ok (vptr b (k+1)) w:=fun _ _ _=>by kernel_rfl
theorem ix274:∀ (a:Addr) (m c:Nat) (p:Int) (w:World),0≤p→p < m→(Instr.indexAt 274 (.slice (some a) m c) (vint p)).run Tryz.prog w = .ok (.pointer (some (a.add (p.toNat*1)))) w:=run_indexAt_slice Tryz.runUnderlying274 sz20
theorem ld20:∀ (a:Addr) (w:World),(loadVar 20 a).run Tryz.prog w=(Go.load a).run Tryz.prog w:=fun _ _=>by kernel_rfl
theorem len274 (ty:TypeId):∀ (a:Option Addr) (n c:Nat) (w:World),(Builtin.len_ #[274] ty #[.slice a n c]).run Tryz.prog w = .ok (vint n) w:=fun _ _ _ _=>by kernel_rfl
theorem number_fn (n:Int):Fn Tryz.prog 301 #[vint n] [] (fun v M=>(∃ (r:Value) (bs:Bytes),Spec.number n = .ok bs∧bs.length=6∧.tuple #[r,vint 0]=v∧M=[KB r bs])∨(∃ (e:Int),Spec.number n = .error e∧e=12∧.tuple #[.slice none 0 0,vint e]=v∧M=[])):=by
 refine Fi 28 Tryz.func301 fun g R=>?_
 refine Ww [(0,vint n)] [Al R] ?_
 refine Sn (Qa (k:=Qa (k:=Nl [(0,vint n),(2,N0),(3,vint 0)] ?_)))
 refine W.seq (Sn (Qm (k:=?_)))
 by_cases h1:n < 0
 ·refine Qu (OpQ.decT (OpQ.lss rfl rfl rfl) h1) (k:=Qm (k:=Qs (k:=Qs (k:=Qt (k:=Nl [(0,vint n),(2,N0),(3,vint 0),(9,.bool true)] ?_)))))
  refine W.condT rfl ?_
  refine Sn (Qa (k:=Qa (k:=Nl [(0,vint n),(2,N0),(3,vint 12)] ?_)))
  refine W.ret (thn_r (ret2 (M:=[]) rfl rfl rfl (.inr (⟨12,(by unfold Spec.number; rw [if_neg (by omega)]),(by rfl),rfl,rfl⟩)) (es [0] rfl)))
 refine Qu (OpQ.decF (OpQ.lss rfl rfl rfl) h1) (k:=Qm (k:=Qm (k:=Qu (OpQ.gtr rfl rfl rfl) (k:=Qf (k:=Nl [(0,vint n),(2,N0),(3,vint 0),(9,.bool (decide (n > 1099511627776)))] ?_)))))
 refine Cp rfl (fun h2=>?_) (fun h2=>?_)
 ·refine Sn (Qa (k:=Qa (k:=Nl [(0,vint n),(2,N0),(3,vint 12)] ?_)))
  refine W.ret (thn_r (ret2 (M:=[]) rfl rfl rfl (.inr (⟨12,(by unfold Spec.number; rw [if_neg (by omega)]),(by rfl),rfl,rfl⟩)) (es [0] rfl)))
 refine W.skip (thn_n (Wl [(0,vint n),(2,N0),(3,vint 0)] ?_))
 refine Sn (Qm (k:=Qu (OpQ.shrK (s:=40) rfl rfl rfl (by decide)) (k:=Qu (OpQ.convU8 rfl rfl Tryz.runUnderlying5 (fun w=>⟨_,Tryz.runUnderlying3 w⟩)) (k:=Qm (k:=Qu (OpQ.shrK (s:=32) rfl rfl rfl (by decide)) (k:=Qu (OpQ.convU8 rfl rfl Tryz.runUnderlying5 (fun w=>⟨_,Tryz.runUnderlying3 w⟩)) (k:=Qm (k:=Qu (OpQ.shrK (s:=24) rfl rfl rfl (by decide)) (k:=Qu (OpQ.convU8 rfl rfl Tryz.runUnderlying5 (fun w=>⟨_,Tryz.runUnderlying3 w⟩)) (k:=Qm (k:=Qu (OpQ.shrK (s:=16) rfl rfl rfl (by decide)) (k:=Qu (OpQ.convU8 rfl rfl Tryz.runUnderlying5 (fun w=>⟨_,Tryz.runUnderlying3 w⟩)) (k:=Qm (k:=Qu (OpQ.shrK (s:=8) rfl rfl rfl (by decide)) (k:=?_)))))))))))))))
 refine Qu (OpQ.convU8 rfl rfl Tryz.runUnderlying5 (fun w=>⟨_,Tryz.runUnderlying3 w⟩)) (k:=Qm (k:=Qu (OpQ.convU8 rfl rfl Tryz.runUnderlying5 (fun w=>⟨_,Tryz.runUnderlying3 w⟩)) (k:=?_)))
 refine Ru (OpRun.buildSlice (qs:=[(0,.int .u8 ((byteOf (n / 2 ^ 40)).toNat)),(1,.int .u8 ((byteOf (n / 2 ^ 32)).toNat)),(2,.int .u8 ((byteOf (n / 2 ^ 24)).toNat)),(3,.int .u8 ((byteOf (n / 2 ^ 16)).toNat)),(4,.int .u8 ((byteOf (n / 2 ^ 8)).toNat)),(5,.int .u8 ((byteOf n).toNat))]) (cs:=bv [(byteOf (n / 2 ^ 40)),(byteOf (n / 2 ^ 32)),(byteOf (n / 2 ^ 24)),(byteOf (n / 2 ^ 16)),(byteOf (n / 2 ^ 8)),(byteOf n)]) (E:=5) (sz:=1) rfl ⟨rfl,rfl,rfl,rfl,rfl,rfl,rfl,rfl,rfl,rfl,rfl,rfl,trivial⟩ (fun _=>by kernel_rfl) (bv_one _) rfl (by decide)) ?_
 rintro v3 _ ⟨h4a,h4b,h4c,rfl⟩
 refine Qa (k:=Qa (k:=Nw [(2,v3),(3,vint 0)] [Rw 5 1 v3 (bv [(byteOf (n / 2 ^ 40)),(byteOf (n / 2 ^ 32)),(byteOf (n / 2 ^ 24)),(byteOf (n / 2 ^ 16)),(byteOf (n / 2 ^ 8)),(byteOf n)]),Al R] ?_))
 refine Wr 0 fun hr5a hr5b hr5c=>?_
 try simp only [La,Lc,Ln] at hr5a
 refine W.freezeB (i:=0) rfl ?_
 refine W.ret (ret2 (M:=[KB v3 ([(byteOf (n / 2 ^ 40)),(byteOf (n / 2 ^ 32)),(byteOf (n / 2 ^ 24)),(byteOf (n / 2 ^ 16)),(byteOf (n / 2 ^ 8)),(byteOf n)])]) rfl rfl rfl (.inl ⟨v3,[(byteOf (n / 2 ^ 40)),(byteOf (n / 2 ^ 32)),(byteOf (n / 2 ^ 24)),(byteOf (n / 2 ^ 16)),(byteOf (n / 2 ^ 8)),(byteOf n)],(by unfold Spec.number; rw [if_pos (by omega)]; simp [be]),(by rfl),rfl,rfl⟩) (es [0,0] rfl))
theorem text_fn (b:Value) (xs:Bytes):Fn Tryz.prog 302 #[b] [KB b xs] (fun v M=>(∃ (r:Value) (bs:Bytes),Spec.text xs = .ok bs∧bs.length≤4098∧bs.length=xs.length+2∧.tuple #[r,vint 0]=v∧M=[KB r bs])∨(∃ (e:Int),Spec.text xs = .error e∧e=11∧.tuple #[.slice none 0 0,vint e]=v∧M=[])):=by
 refine Fi 17 Tryz.func302 fun g R=>?_
 refine Ww [(0,b)] [KB b xs,Al R] ?_
 refine Sn (Qa (k:=Qa (k:=Nl [(0,b),(2,N0),(3,vint 0)] ?_)))
 refine W.seq (Sn (Qm (k:=?_)))
 refine Nk 0 fun hl1=>?_
 refine Qu (OpQ.lenSl (i:=0) rfl rfl rfl (len22 _)) (k:=Qu (OpQ.gtr rfl rfl rfl) (k:=Nl [(0,b),(2,N0),(3,vint 0),(6,.bool (decide ((xs.length:Int) > 4096)))] ?_))
 refine Cp rfl (fun h2=>?_) (fun h2=>?_)
 ·refine Sn (Qa (k:=Qa (k:=Nl [(0,b),(2,N0),(3,vint 11)] ?_)))
  refine W.ret (thn_r (ret2 (M:=[]) rfl rfl rfl (.inr (⟨11,(by unfold Spec.text; rw [if_neg (by omega)]),(by rfl),rfl,rfl⟩)) (es [1] rfl)))
 refine W.skip (thn_n (Wl [(0,b),(2,N0),(3,vint 0)] ?_))
 refine Sn (Qm (k:=Qu (OpQ.lenSl (i:=0) rfl rfl rfl (len22 _)) (k:=Qu (OpQ.shrK (s:=8) rfl rfl rfl (by decide)) (k:=Qu (OpQ.convU8 rfl rfl Tryz.runUnderlying5 (fun w=>⟨_,Tryz.runUnderlying3 w⟩)) (k:=Qm (k:=Qu (OpQ.lenSl (i:=0) rfl rfl rfl (len22 _)) (k:=Qu (OpQ.convU8 rfl rfl Tryz.runUnderlying5 (fun w=>⟨_,Tryz.runUnderlying3 w⟩)) (k:=?_))))))))
 refine Ru (OpRun.buildSlice (qs:=[(0,.int .u8 ((byteOf ((xs.length:Int) / 2 ^ 8)).toNat)),(1,.int .u8 ((byteOf (xs.length:Int)).toNat))]) (cs:=bv [(byteOf ((xs.length:Int) / 2 ^ 8)),(byteOf (xs.length:Int))]) (E:=5) (sz:=1) rfl ⟨rfl,rfl,rfl,rfl,trivial⟩ (fun _=>by kernel_rfl) (bv_one _) rfl (by decide)) ?_
 rintro v3 _ ⟨h4a,h4b,h4c,rfl⟩
 refine Qm (k:=?_)
 refine Ru (OpRun.appendB (i:=0) (j:=1) rfl rfl rfl rfl rfl Tryz.underlying22 (inf:=Tryz.t5) (by kernel_rfl) rfl rfl rfl rfl (by first | omega | (simp; omega))) ?_
 rintro v5 _ ⟨h6a,h6b,h6c,rfl⟩
 refine Qa (k:=Qa (k:=Nw [(2,v5),(3,vint 0)] [Rw 5 1 v5 (bv (([(byteOf ((xs.length:Int) / 2 ^ 8)),(byteOf (xs.length:Int))])++xs)),KB b xs,Al R] ?_))
 refine Wr 0 fun hr7a hr7b hr7c=>?_
 try simp only [La,Lc,Ln] at hr7a
 refine W.freezeB (i:=0) rfl ?_
 refine W.ret (ret2 (M:=[KB v5 (([(byteOf ((xs.length:Int) / 2 ^ 8)),(byteOf (xs.length:Int))])++xs)]) rfl rfl rfl (.inl ⟨v5,([(byteOf ((xs.length:Int) / 2 ^ 8)),(byteOf (xs.length:Int))])++xs,(by unfold Spec.text; rw [if_pos (by omega)]; simp [be]),(by simp; omega),(by simp),rfl,rfl⟩) (es [0,1] rfl))
theorem part_n (x:Int):Fn Tryz.prog 229 #[Value.iface 3 (vint x)] [] (fun v M=>(∃ (r:Value) (bs:Bytes),Spec.part (.n x) = .ok bs∧bs.length≤4098∧.tuple #[r,vint 0]=v∧M=[KB r bs])∨(∃ (e:Int),Spec.part (.n x) = .error e∧e≠0∧.tuple #[.slice none 0 0,vint e]=v∧M=[])):=by
 refine Fi 30 Tryz.func229 fun g R=>?_
 refine Ww [(0,Value.iface 3 (vint x))] [Al R] ?_
 refine Sn (Qa (k:=Qa (k:=Nl [(0,Value.iface 3 (vint x)),(2,N0),(3,vint 0)] ?_)))
 refine W.seq (Sn (Qm (k:=?_)))
 refine Nl [(2,N0),(3,vint 0),(7,Value.iface 3 (vint x))] ?_
 refine W.block (Sn (Qu (OpQ.tassert (v:=.tuple #[vint x,.bool true]) rfl rfl (fun _=>by kernel_rfl)) (k:=?_)))
 refine Qe (k:=Qe (k:=Nl [(2,N0),(3,vint 0),(7,Value.iface 3 (vint x)),(9,.bool true),(10,vint x)] ?_))
 refine W.condT rfl ?_
 refine Sn (Qa (k:=Nl [(2,N0),(3,vint 0),(4,vint x)] ?_))
 refine Sn (Qm (k:=?_))
 refine Wc [.tmp 11] [vint x] Tryz.call301 (number_fn x) (ep [] rfl) ?_
 rintro _ _ (⟨r1,bs2,h3,h4,rfl,rfl⟩ | ⟨e5,h6,h7,rfl,rfl⟩)
 ·refine Qe (k:=Qe (k:=Qa (k:=Qa (k:=Nw [(2,r1),(3,vint 0)] [KB r1 bs2,Al R] ?_))))
  refine W.ret (inblk_r (thn_r (ret2 (M:=[KB r1 bs2]) rfl rfl rfl (.inl ⟨r1,bs2,(by assumption),(by omega),rfl,rfl⟩) (es [0,0] rfl))))
 refine Qe (k:=Qe (k:=Qa (k:=Qa (k:=Nw [(2,N0),(3,vint e5)] [Al R] ?_))))
 refine W.ret (inblk_r (thn_r (ret2 (M:=[]) rfl rfl rfl (.inr (⟨e5,(by assumption),(by omega),rfl,rfl⟩)) (es [0] rfl))))
theorem part_b (u:Value) (xs:Bytes):Fn Tryz.prog 229 #[Value.iface 22 (u)] [KB u xs] (fun v M=>(∃ (r:Value) (bs:Bytes),Spec.part (.b xs) = .ok bs∧bs.length≤4098∧.tuple #[r,vint 0]=v∧M=[KB r bs])∨(∃ (e:Int),Spec.part (.b xs) = .error e∧e≠0∧.tuple #[.slice none 0 0,vint e]=v∧M=[])):=by
 refine Fi 30 Tryz.func229 fun g R=>?_
 refine Ww [(0,Value.iface 22 (u))] [KB u xs,Al R] ?_
 refine Sn (Qa (k:=Qa (k:=Nl [(0,Value.iface 22 (u)),(2,N0),(3,vint 0)] ?_)))
 refine W.seq (Sn (Qm (k:=?_)))
 refine Nl [(2,N0),(3,vint 0),(7,Value.iface 22 (u))] ?_
 refine W.block (Sn (Qu (OpQ.tassert (v:=.tuple #[vint 0,.bool false]) rfl rfl (fun _=>by kernel_rfl)) (k:=?_)))
 refine Qe (k:=Qe (k:=Nl [(2,N0),(3,vint 0),(7,Value.iface 22 (u)),(9,.bool false),(10,vint 0)] ?_))
 refine W.condF rfl ?_
 refine Sn (Qu (OpQ.tassert (v:=.tuple #[u,.bool true]) rfl rfl (fun _=>by kernel_rfl)) (k:=Qe (k:=Qe (k:=Nl [(2,N0),(3,vint 0),(7,Value.iface 22 (u)),(16,.bool true),(17,u)] ?_))))
 refine W.condT rfl ?_
 refine Sn (Qa (k:=Nl [(2,N0),(3,vint 0),(5,u)] ?_))
 refine Sn (Qm (k:=?_))
 refine Wc [.tmp 18] [u] Tryz.call302 (text_fn u xs) ((ed 0 rfl).trans (ep [0] rfl)) ?_
 rintro _ _ (⟨r1,bs2,h3,h4,h5,rfl,rfl⟩ | ⟨e6,h7,h8,rfl,rfl⟩)
 ·refine Qe (k:=Qe (k:=Qa (k:=Qa (k:=Nw [(2,r1),(3,vint 0)] [KB r1 bs2,KB u xs,Al R] ?_))))
  refine W.ret (inblk_r (thn_r (ret2 (M:=[KB r1 bs2]) rfl rfl rfl (.inl ⟨r1,bs2,(by assumption),(by omega),rfl,rfl⟩) (es [0,1] rfl))))
 refine Qe (k:=Qe (k:=Qa (k:=Qa (k:=Nw [(2,N0),(3,vint e6)] [KB u xs,Al R] ?_))))
 refine W.ret (inblk_r (thn_r (ret2 (M:=[]) rfl rfl rfl (.inr (⟨e6,(by assumption),(by omega),rfl,rfl⟩)) (es [1] rfl))))
theorem part_fn (p:Value) (x:Part):Fn Tryz.prog 229 #[p] [Kk (PartK p x)] (fun v M=>(∃ (r:Value) (bs:Bytes),Spec.part x = .ok bs∧bs.length≤4098∧.tuple #[r,vint 0]=v∧M=[Kk (Sl Enc.u8 5 r bs)])∨(∃ (e:Int),Spec.part x = .error e∧e≠0∧.tuple #[.slice none 0 0,vint e]=v∧M=[])):=by
  cases x with
  | n x =>
    refine Fn.opens (X:=Unit) (φ:=fun _=>p = .iface 3 (vint x)) (F:=fun _=>[]) ?_ (fun _ h=>?_)
    · rintro K h ⟨v,h1,h2⟩
      simp at h1; subst h1
      exact ⟨(),h2,trivial⟩
    · subst h; exact part_n x
  | b bs =>
    refine Fn.opens (X:=Value) (φ:=fun u=>p = .iface 22 u) (F:=fun u=>[Kk (Sl Enc.u8 5 u bs)]) ?_ (fun u h=>?_)
    · rintro K h ⟨v,h1,u,h2,h3⟩
      simp at h1; subst h1
      exact ⟨u,h2,PH.emp,h,Split.emp_left h,h3,trivial⟩
    · subst h; exact part_b u bs
theorem Put_fn (parts:Value) (ps:List Part) (hp:ps.length≤1000000):Fn Tryz.prog 148 #[parts] [Kk (Sl Enc.part 20 parts ps)] (fun v M=>(∃ (r:Value) (bs:Bytes),Spec.put ps = .ok bs∧bs.length≤4098*ps.length∧.tuple #[r,vint 0]=v∧M=[KB r bs])∨(∃ (e:Int),Spec.put ps = .error e∧e≠0∧.tuple #[.slice none 0 0,vint e]=v∧M=[])):=by
 refine Fi 28 Tryz.func148 fun g R=>?_
 refine Ww [(0,parts)] [Kk (Sl Enc.part 20 parts ps),Al R] ?_
 refine Sn (Qa (k:=Qa (k:=Nl [(0,parts),(2,N0),(3,vint 0)] ?_)))
 refine Sn (Qa (k:=Nl [(0,parts),(2,N0),(3,vint 0),(4,N0)] ?_))
 refine W.seq (Sn (Qm (k:=?_)))
 refine Nk 0 fun hl1=>?_
 refine Qu (OpQ.lenSl (i:=0) rfl rfl rfl (len274 _)) (k:=Qm (k:=Nl [(2,N0),(3,vint 0),(4,N0),(9,parts),(10,vint (ps.length:Int)),(11,vint 0)] ?_))
 refine W.block (W.opens Opens.sl (i:=0) rfl (fun f2 _=>?_))
 refine We [Ka 20 1 parts ps.length f2,Kr Enc.part f2 ps,Al R] ?_
 refine W.ent (Ent.rowNil (E:=5) (sz:=1)) ?_
 refine We [Rw 5 1 (N0) (bv []),Ka 20 1 parts ps.length f2,Kr Enc.part f2 ps,Al R] ?_
 refine W.loop (X:=Nat × Value × Bytes) (fun x=>match x with | (k,o,y)=>[(4,o),(9,parts),(10,vint (ps.length:Int)),(11,vint (k:Int))]) (fun x=>match x with | (k,o,y)=>[Asn.pure (k≤ps.length∧Spec.put (ps.take k) = .ok y∧y.length≤4098*k),Rw 5 1 o (bv y),Ka 20 1 parts ps.length f2,Kr Enc.part f2 ps,Al R]) (fun x=>match x with | (k,o,y)=>ps.length - k) (0,(N0),[]) ⟨rfl,rfl,rfl,rfl,trivial⟩ ((es [0,0,0,0] rfl).trans (Ent.pure_in (by exact ⟨Nat.zero_le _,rfl,by simp⟩))) (fun x=>?_)
 obtain ⟨k,o,y⟩:=x
 show W _ _ _ _ _ [(4,o),(9,parts),(10,vint (ps.length:Int)),(11,vint (k:Int))] [Asn.pure (k≤ps.length∧Spec.put (ps.take k) = .ok y∧y.length≤4098*k),Rw 5 1 o (bv y),Ka 20 1 parts ps.length f2,Kr Enc.part f2 ps,Al R]
 refine W.opens Opens.pure (i:=0) rfl (fun _ hI3=>?_)
 replace hI3:=hI3
 show W _ _ _ _ _ [(4,o),(9,parts),(10,vint (ps.length:Int)),(11,vint (k:Int))] [Rw 5 1 o (bv y),Ka 20 1 parts ps.length f2,Kr Enc.part f2 ps,Al R]
 refine Sn (Qu (OpQ.lss rfl rfl rfl) (k:=Nl [(4,o),(9,parts),(10,vint (ps.length:Int)),(11,vint (k:Int)),(12,.bool (decide ((k:Int) < (ps.length:Int))))] ?_))
 refine W.seq (Cp rfl (fun h4=>?_) (fun h4=>?_))
 ·refine W.skip (thn_n (Wl [(4,o),(9,parts),(10,vint (ps.length:Int)),(11,vint (k:Int))] ?_))
  refine W.seq (W.block (Sn (Qu (OpQ.indexAddr (i:=1) (j:=k) rfl rfl rfl rfl (by omega) (by omega) (by omega) ix274) (k:=?_))))
  refine Qu (OpQ.loadE (i:=1) rfl rfl rfl (by omega) ld20) (k:=Qa (k:=Nl [(4,o),(6,f2 k),(9,parts),(10,vint (ps.length:Int)),(11,vint (k:Int))] ?_))
  refine Sn (WN.ent (Ent.der (i:=2) (m:=PartK (f2 k) (ps.getD k (.n 0))) rfl (elem1 rfl (getD_some _ (by omega)))) (Qm (k:=?_)))
  refine Wc [.tmp 16] [f2 k] Tryz.call229 (part_fn (f2 k) (ps.getD k (.n 0))) ((ed 0 rfl).trans (ep [0] rfl)) ?_
  rintro _ _ (⟨r5,bs6,h7,h8,rfl,rfl⟩ | ⟨e9,h10,h11,rfl,rfl⟩)
  ·refine Qm (k:=Qe (k:=Qe (k:=Qa (k:=Qa (k:=Nw [(4,o),(7,r5),(8,vint 0),(9,parts),(10,vint (ps.length:Int)),(11,vint (k:Int))] [KB r5 bs6,Kk (PartK (f2 k) (ps.getD k (.n 0))),Rw 5 1 o (bv y),Ka 20 1 parts ps.length f2,Kr Enc.part f2 ps,Al R] ?_)))))
   refine W.seq (Sn (Qm (k:=?_)))
   refine Qu (OpQ.neq rfl rfl rfl) (k:=Nl [(4,o),(7,r5),(8,vint 0),(9,parts),(10,vint (ps.length:Int)),(11,vint (k:Int)),(21,.bool (decide ((0:Int)≠0)))] ?_)
   refine Cp rfl (fun h12=>absurd h12 (by decide)) (fun h12=>?_)
   refine W.skip (thn_n (Wl [(4,o),(7,r5),(9,parts),(10,vint (ps.length:Int)),(11,vint (k:Int))] ?_))
   refine W.region (Qm (k:=?_))
   refine Qm (k:=?_)
   refine Ru (OpRun.appendB (i:=2) (j:=0) rfl rfl rfl rfl rfl Tryz.underlying22 (inf:=Tryz.t5) (by kernel_rfl) rfl rfl rfl rfl (by first | omega | (simp; omega))) ?_
   rintro v13 _ ⟨h14a,h14b,h14c,rfl⟩
   refine Qa (k:=?_)
   refine WN.nil (inblk_n (thn_n (Ww [(4,v13),(9,parts),(10,vint (ps.length:Int)),(11,vint (k:Int))] [Rw 5 1 v13 (bv (y++bs6)),KB r5 bs6,Kk (PartK (f2 k) (ps.getD k (.n 0))),Ka 20 1 parts ps.length f2,Kr Enc.part f2 ps,Al R] ?_)))
   refine W.region (Qu (OpQ.add rfl rfl rfl ⟨by omega,by omega⟩) (k:=?_))
   refine Qm (k:=?_)
   refine WN.nil (thn_n ⟨(k+1,v13,y++bs6),by (show ps.length - (k+1) < ps.length - k); omega,⟨rfl,rfl,rfl,(Eq.trans (b:=some (vint ((k:Int)+1))) rfl (by first | rfl | (congr 2; omega))),trivial⟩,?_⟩)
   exact (es [0,2,2,2] rfl).trans (Ent.pure_in (by exact ⟨by omega,Spec.put_take_succ (by omega) hI3.2.1 (by assumption),by have:=hI3.2.2; simp; omega⟩))
  refine Qm (k:=Qe (k:=Qe (k:=Qa (k:=Qa (k:=Nw [(4,o),(7,N0),(8,vint e9),(9,parts),(10,vint (ps.length:Int)),(11,vint (k:Int))] [Kk (PartK (f2 k) (ps.getD k (.n 0))),Rw 5 1 o (bv y),Ka 20 1 parts ps.length f2,Kr Enc.part f2 ps,Al R] ?_)))))
  refine W.seq (Sn (Qm (k:=?_)))
  refine Qu (OpQ.neq rfl rfl rfl) (k:=Nl [(4,o),(7,N0),(8,vint e9),(9,parts),(10,vint (ps.length:Int)),(11,vint (k:Int)),(21,.bool (decide (e9≠0)))] ?_)
  refine Cp rfl (fun h15=>?_) (fun h15=>absurd h11 h15)
  refine Sn (Qm (k:=Qa (k:=Qa (k:=Nl [(2,N0),(3,vint e9),(4,o),(7,N0),(9,parts),(10,vint (ps.length:Int)),(11,vint (k:Int))] ?_))))
  refine Wr 1 fun hr16a hr16b hr16c=>?_
  try simp only [La,Lc,Ln] at hr16a
  refine W.ret (thn_r (inblk_r (thn_r (thn_r (inblk_r (thn_r (ret2 (M:=[]) rfl rfl rfl (.inr (⟨e9,(by exact Spec.put_take_err (by omega) hI3.2.1 (by assumption)),(by assumption),rfl,rfl⟩)) (es [4] rfl))))))))
 obtain rfl:k=ps.length:=by omega
 refine W.exit (thn_x (thn_x (inblk_x (thn_n (Wl [(4,o)] ?_)))))
 refine Sn (Qm (k:=Qa (k:=Qa (k:=Nl [(2,o),(3,vint 0)] ?_))))
 refine Wr 0 fun hr17a hr17b hr17c=>?_
 try simp only [La,Lc,Ln] at hr17a
 refine W.freezeB (i:=0) rfl ?_
 refine W.ret (ret2 (M:=[KB o y]) rfl rfl rfl (.inl ⟨o,y,(by have:=hI3.2.1; rwa [List.take_length] at this),(by have:=hI3.2.2; omega),rfl,rfl⟩) (es [0,2] rfl))
theorem Read_fn (b:Value) (bs:Bytes) (hb:bs.length≤1000000):Fn Tryz.prog 142 #[b] [KB b bs] (fun v M=>∃ (rp:Nat),vptr rp 0=v∧M=[ReaderR rp (some bs)]):=by
 refine Fi 7 Tryz.func142 fun g R=>?_
 refine Ww [(0,b)] [KB b bs,Al R] ?_
 refine Sn (Qa (k:=Nl [(0,b),(2,.pointer none)] ?_))
 refine Sn (Qm (k:=?_))
 refine WN.ent (Ent.rowNil (E:=5) (sz:=1)) ?_
 refine Ne [Rw 5 1 (N0) (bv []),KB b bs,Al R] ?_
 refine Ru (OpRun.appendB (i:=0) (j:=1) rfl rfl rfl rfl rfl Tryz.underlying22 (inf:=Tryz.t5) (by kernel_rfl) rfl rfl rfl rfl (by first | omega | (simp; omega))) ?_
 rintro v1 _ ⟨h2a,h2b,h2c,rfl⟩
 refine WN.fact (fun _ _ s=>row_isS (i:=0) rfl s) (fun hS3=>?_)
 refine Qu (OpQ.build (qs:=[(0,v1)]) (v:=.agg #[v1,.bool false]) rfl ⟨rfl,rfl,trivial⟩ (fun _=>by obtain ⟨_,_,_,e1⟩:=hS3; rw [e1]; kernel_rfl)) (k:=?_)
 refine Ru (OpRun.box rfl rfl rfl) ?_
 rintro _ _ ⟨b4,rfl,rfl⟩
 refine Qa (k:=Nw [(2,vptr b4 0)] [Cl b4 352 [v1,.bool false],Rw 5 1 v1 (bv (([])++bs)),KB b bs,Al R] ?_)
 refine Wr 1 fun hr5a hr5b hr5c=>?_
 try simp only [La,Lc,Ln] at hr5a
 refine W.ent (L':=[Rw 5 1 v1 (bv bs),Cl b4 352 [v1,.bool false],KB b bs,Al R]) ((es [1,0,0,0] rfl).trans (Ent.of_eq (by simp))) ?_
 refine W.freezeB (i:=0) rfl ?_
 refine W.ent (L':=[Cl b4 352 [v1,.bool ((some bs).isNone)],KB v1 bs,KB b bs,Al R]) (es [1,0,0,0] rfl) ?_
 refine W.ent (L':=[ReaderR b4 (some bs),KB b bs,Al R]) (Ent.rep' (v1,bs) rfl ⟨by assumption,hb,.inr rfl⟩ rfl) ?_
 refine W.ret (ret1 (M:=[ReaderR b4 (some bs)]) rfl rfl (⟨b4,rfl,rfl⟩) (es [0,1] rfl))
theorem Bad_fn (rp:Nat) (s:Option Bytes):Fn Tryz.prog 144 #[vptr rp 0] [ReaderR rp s] (fun v M=>.bool s.isNone=v∧M=[ReaderR rp s]):=by
 refine Fi 7 Tryz.func144 fun g R=>?_
 refine Ww [(0,vptr rp 0)] [ReaderR rp s,Al R] ?_
 refine W.opens Opens.rep (i:=0) rfl (fun x1 ⟨hv1,hbl,hsb⟩=>?_)
 obtain ⟨v,bs⟩:=x1
 refine We [Cl rp 352 [v,.bool s.isNone],KB v bs,Al R] ?_
 dsimp only at hv1 hbl hsb
 refine Sn (Qa (k:=Nl [(0,vptr rp 0),(2,.bool false)] ?_))
 refine Sn (Qm (k:=Qu (OpQ.nilCheck rfl rfl) (k:=Qu (Of (fa352_1 _ _)) (k:=Qu (Ol 0 ld4) (k:=Qa (k:=Nl [(2,.bool s.isNone)] ?_))))))
 refine W.ent (L':=[Cl rp 352 [v,.bool s.isNone],KB v bs,Al R]) (es [0,0,0] rfl) ?_
 refine W.ent (L':=[ReaderR rp s,Al R]) (Ent.rep' (v,bs) rfl ⟨hv1,hbl,hsb⟩ rfl) ?_
 refine W.ret (ret1 (M:=[ReaderR rp s]) rfl rfl (⟨rfl,rfl⟩) (es [0,0] rfl))
theorem End_fn (rp:Nat) (s:Option Bytes):Fn Tryz.prog 146 #[vptr rp 0] [ReaderR rp s] (fun v M=>.bool (decide (s=some []))=v∧M=[ReaderR rp s]):=by
 refine Fi 16 Tryz.func146 fun g R=>?_
 refine Ww [(0,vptr rp 0)] [ReaderR rp s,Al R] ?_
 refine W.opens Opens.rep (i:=0) rfl (fun x1 ⟨hv1,hbl,hsb⟩=>?_)
 obtain ⟨v,bs⟩:=x1
 refine We [Cl rp 352 [v,.bool s.isNone],KB v bs,Al R] ?_
 dsimp only at hv1 hbl hsb
 refine Sn (Qa (k:=Nl [(0,vptr rp 0),(2,.bool false)] ?_))
 refine Sn (Qm (k:=Qu (OpQ.nilCheck rfl rfl) (k:=Qu (Of (fa352_1 _ _)) (k:=Qu (Ol 0 ld4) (k:=Qu (OpQ.not rfl rfl) (k:=Qm (k:=?_)))))))
 cases h2:!s.isNone
 ·refine Qs (k:=Qs (k:=Qs (k:=Qs (k:=Qs (k:=Qs (k:=Qf (k:=Qa (k:=Nl [(2,.bool false)] ?_))))))))
  refine W.ent (L':=[Cl rp 352 [v,.bool s.isNone],KB v bs,Al R]) ((es [0,0,0] rfl).trans (Ent.of_eq (by rfl))) ?_
  refine W.ent (L':=[ReaderR rp s,Al R]) (Ent.rep' (v,bs) rfl ⟨hv1,hbl,hsb⟩ rfl) ?_
  refine W.ret (ret1 (M:=[ReaderR rp s]) rfl rfl (⟨(by rcases s with _ | s <;> simp_all),rfl⟩) (es [0,0] rfl))
 refine Qm (k:=Qu (OpQ.nilCheck rfl rfl) (k:=Qu (Of (fa352_0 _ _)) (k:=Qu (Ol 0 ld22) (k:=?_))))
 refine Nk 1 fun hl3=>?_
 refine Qu (OpQ.lenSl (i:=1) rfl rfl rfl (len22 _)) (k:=Qu (OpQ.eql rfl rfl rfl) (k:=Qt (k:=Qa (k:=Nl [(2,.bool (decide ((bs.length:Int)=0)))] ?_))))
 refine W.ent (L':=[Cl rp 352 [v,.bool s.isNone],KB v bs,Al R]) ((es [0,0,0] rfl).trans (Ent.of_eq (by rfl))) ?_
 refine W.ent (L':=[ReaderR rp s,Al R]) (Ent.rep' (v,bs) rfl ⟨hv1,hbl,hsb⟩ rfl) ?_
 refine W.ret (ret1 (M:=[ReaderR rp s]) rfl rfl (⟨(by rcases s with _ | s <;> simp_all),rfl⟩) (es [0,0] rfl))
theorem take_fn (rp:Nat) (s:Option Bytes) (n:Nat) (hn:n≤1000000):Fn Tryz.prog 227 #[vptr rp 0,vint (n:Int)] [ReaderR rp s] (fun v M=>∃ (r:Value) (x:Bytes) (s':Option Bytes),Spec.take n s=(x,s')∧r=v∧M=[KB r x,ReaderR rp s']):=by
 refine Fi 39 Tryz.func227 fun g R=>?_
 refine Ww [(0,vptr rp 0),(1,vint (n:Int))] [ReaderR rp s,Al R] ?_
 refine W.opens Opens.rep (i:=0) rfl (fun x1 ⟨hv1,hbl,hsb⟩=>?_)
 obtain ⟨v,bs⟩:=x1
 refine We [Cl rp 352 [v,.bool s.isNone],KB v bs,Al R] ?_
 dsimp only at hv1 hbl hsb
 refine Sn (Qa (k:=Nl [(0,vptr rp 0),(1,vint (n:Int)),(4,N0)] ?_))
 refine W.scope' (X:=(Bool)) (fun x=>match x with | bd=>0) (fun x=>match x with | bd=>[(0,vptr rp 0),(4,N0)]) (fun x=>match x with | bd=>[Asn.pure (Spec.take n s=([],none)),Cl rp 352 [v,.bool bd],KB v bs,Al R]) (fun x=>match x with | bd=>0) (fun x=>by rcases x with _ <;> rfl) ?_ (fun x=>?_)
 ·refine W.seq (Sn (Qm (k:=?_)))
  refine Qu (OpQ.nilCheck rfl rfl) (k:=Qu (Of (fa352_1 _ _)) (k:=Qu (Ol 0 ld4) (k:=Qm (k:=?_))))
  cases h2:s.isNone
  ·refine Qm (k:=Qu (OpQ.nilCheck rfl rfl) (k:=Qu (Of (fa352_0 _ _)) (k:=Qu (Ol 0 ld22) (k:=?_))))
   refine Nk 1 fun hl3=>?_
   refine Qu (OpQ.lenSl (i:=1) rfl rfl rfl (len22 _)) (k:=Qm (k:=Qu (OpQ.lss rfl rfl rfl) (k:=Qf (k:=Nw [(0,vptr rp 0),(1,vint (n:Int)),(4,N0),(18,.bool (decide ((bs.length:Int) < (n:Int))))] [Cl rp 352 [v,.bool false],KB v bs,Al R] ?_))))
   refine Cp rfl (fun h4=>?_) (fun h4=>?_)
   ·refine W.goto ?_
    refine thn_g (goq_g ?_)
    exact ⟨false,rfl,⟨rfl,rfl,trivial⟩,(es [0,0,0] rfl).trans (Ent.pure_in (by first | (rcases hsb with h | h <;> subst h <;> simp_all [Spec.take]; done) | (rcases hsb with h | h <;> subst h <;> simp_all [Spec.take] <;> omega)))⟩
   refine W.skip (thn_n (Wl [(0,vptr rp 0),(1,vint (n:Int)),(4,N0)] ?_))
   refine W.seq (Sn (Qm (k:=?_)))
   refine Qu (OpQ.nilCheck rfl rfl) (k:=Qu (Of (fa352_0 _ _)) (k:=Qu (Ol 0 ld22) (k:=Qm (k:=Qm (k:=?_)))))
   refine WN.ent (Ent.slv (i:=1) (lo:=0) (hi:=n) (mx:=n) (ys:=bs.take n) rfl (by first | omega | (simp; omega)) (by first | omega | (simp; omega)) (by first | exact .inl rfl | exact .inr ⟨by first | omega | (simp; omega),by first | omega | (simp; omega)⟩) (by first | rfl | exact List.take_of_length_le (by simp) | simp)) ?_
   refine Ne [KB (slv v 0 n n 1) (bs.take n),Cl rp 352 [v,.bool false],KB v bs,Al R] (Qu (OpQ.slice (i:=2) (p:=0) (q:=n) (r:=n) rfl rfl rfl rfl (Eq.trans (b:=some (vint (n:Int))) rfl (by first | rfl | (congr 2; omega))) (Eq.trans (b:=some (vint (n:Int))) rfl (by first | rfl | (congr 2; omega))) (by first | omega | (simp; omega)) (by first | omega | (simp; omega)) (by first | (intro h; cases h; done) | exact fun _=>⟨by first | omega | (simp; omega),by first | omega | (simp; omega)⟩) (by first | (intro h; cases h; done) | exact fun _=>rfl) rfl sla22 Tryz.runUnderlying22 sz5) (k:=Qa (k:=Nl [(0,vptr rp 0),(1,vint (n:Int)),(4,N0),(5,slv v 0 n n 1)] ?_)))
   refine Sn (Qm (k:=Qm (k:=Qu (OpQ.nilCheck rfl rfl) (k:=Qu (Of (fa352_0 _ _)) (k:=Qu (Ol 1 ld22) (k:=Qm (k:=?_)))))))
   refine WN.ent (Ent.slv (i:=2) (lo:=n) (hi:=bs.length) (mx:=scap v) (ys:=bs.drop n) rfl (by first | omega | (simp; omega)) (by first | omega | (simp; omega)) (by first | exact .inl rfl | exact .inr ⟨by first | omega | (simp; omega),by first | omega | (simp; omega)⟩) (by first | rfl | exact List.take_of_length_le (by simp) | simp)) ?_
   refine Ne [KB (slv v n bs.length (scap v) 1) (bs.drop n),KB (slv v 0 n n 1) (bs.take n),Cl rp 352 [v,.bool false],KB v bs,Al R] (Qu (OpQ.slice (i:=3) (p:=n) (q:=bs.length) (r:=(scap v)) rfl rfl rfl (Eq.trans (b:=some (vint (n:Int))) rfl (by first | rfl | (congr 2; omega))) rfl rfl (by first | omega | (simp; omega)) (by first | omega | (simp; omega)) (by first | (intro h; cases h; done) | exact fun _=>⟨by first | omega | (simp; omega),by first | omega | (simp; omega)⟩) (by first | (intro h; cases h; done) | exact fun _=>rfl) rfl sla22 Tryz.runUnderlying22 sz5) (k:=Qu (OpQ.nilCheck rfl rfl) (k:=Qu (Of (fa352_0 _ _)) (k:=?_))))
   refine Nf 0 fun ho5=>?_
   refine Rn (OpRun.store (i:=2) (vs:=[slv v n bs.length (scap v) 1]) (cs':=[slv v n bs.length (scap v) 1,.bool false]) rfl rfl rfl sz22 (cells_one ho5) rfl (one_cons ho5 one_nil) rfl (Lb rfl) rfl) (k:=Nw [(0,vptr rp 0),(4,N0),(5,slv v 0 n n 1)] [Cl rp 352 [slv v n bs.length (scap v) 1,.bool false],KB (slv v n bs.length (scap v) 1) (bs.drop n),KB (slv v 0 n n 1) (bs.take n),KB v bs,Al R] ?_)
   refine Sn (Qm (k:=Qa (k:=Nl [(0,vptr rp 0),(4,slv v 0 n n 1)] ?_)))
   obtain rfl:s=some bs:=by cases s <;> simp_all
   refine W.ent (L':=[Cl rp 352 [slv v n bs.length (scap v) 1,.bool ((some (bs.drop n)).isNone)],KB (slv v n bs.length (scap v) 1) (bs.drop n),KB (slv v 0 n n 1) (bs.take n),KB v bs,Al R]) ((es [0,0,0,0,0] rfl).trans (Ent.of_eq (by rfl))) ?_
   refine W.ent (L':=[ReaderR rp (some (bs.drop n)),KB (slv v 0 n n 1) (bs.take n),KB v bs,Al R]) (Ent.rep' (slv v n bs.length (scap v) 1,bs.drop n) rfl ⟨ho5,by simp; omega,.inr rfl⟩ rfl) ?_
   refine W.ret (thn_r (goq_r (ret1 (M:=[KB (slv v 0 n n 1) (bs.take n),ReaderR rp (some (bs.drop n))]) rfl rfl (⟨slv v 0 n n 1,bs.take n,some (bs.drop n),(by simp only [Spec.take]; rw [if_pos (by omega)]),rfl,rfl⟩) (es [1,0,1] rfl))))
  refine Qs (k:=Qs (k:=Qs (k:=Qs (k:=Qs (k:=Qs (k:=Qs (k:=Qt (k:=Nw [(0,vptr rp 0),(1,vint (n:Int)),(4,N0),(18,.bool true)] [Cl rp 352 [v,.bool true],KB v bs,Al R] ?_))))))))
  refine W.condT rfl ?_
  refine W.goto ?_
  refine thn_g (goq_g ?_)
  exact ⟨true,rfl,⟨rfl,rfl,trivial⟩,(es [0,0,0] rfl).trans (Ent.pure_in (by first | (rcases hsb with h | h <;> subst h <;> simp_all [Spec.take]; done) | (rcases hsb with h | h <;> subst h <;> simp_all [Spec.take] <;> omega)))⟩
 obtain ⟨bd,rfl⟩:∃ y,y=x:=⟨x,rfl⟩
 refine W.weak (l':=[(0,vptr rp 0),(4,N0)]) (L':=[Asn.pure (Spec.take n s=([],none)),Cl rp 352 [v,.bool bd],KB v bs,Al R]) (⟨rfl,rfl,trivial⟩) er ?_
 refine W.opens Opens.pure (i:=0) rfl (fun _ hI6=>?_)
 refine We [Cl rp 352 [v,.bool bd],KB v bs,Al R] ?_
 refine W.seq (W.skip (thn_n (Wl [(0,vptr rp 0),(4,N0)] ?_)))
 refine Sn (Qm (k:=Qu (OpQ.nilCheck rfl rfl) (k:=Qu (Of (fa352_1 _ _)) (k:=Rn (OpRun.store (i:=0) (vs:=[.bool true]) (cs':=[v,.bool true]) rfl rfl rfl sz4 rfl rfl (one_cons rfl one_nil) rfl (Lb rfl) rfl) (k:=Nw [(0,vptr rp 0),(4,N0)] [Cl rp 352 [v,.bool true],KB v bs,Al R] ?_)))))
 refine Sn (Qa (k:=Nl [(0,vptr rp 0),(4,N0)] ?_))
 refine W.ent (Ent.slNil (e:=Enc.u8) (T:=5)) ?_
 refine W.ent (L':=[KB (N0) ([]),Cl rp 352 [v,.bool true],KB v bs,Al R]) (es [0,0,0,0] rfl) ?_
 refine W.ent (L':=[Cl rp 352 [v,.bool ((none:Option Bytes).isNone)],KB v bs,KB (N0) ([]),Al R]) ((es [1,1,0,0] rfl).trans (Ent.of_eq (by rfl))) ?_
 refine W.ent (L':=[ReaderR rp none,KB (N0) ([]),Al R]) (Ent.rep' (v,bs) rfl ⟨hv1,hbl,.inl rfl⟩ rfl) ?_
 refine W.ret (goq_r (ret1 (M:=[KB (N0) ([]),ReaderR rp none]) rfl rfl (⟨N0,[],none,(by exact hI6),rfl,rfl⟩) (es [1,0,0] rfl)))
theorem get_fn (rp:Nat) (s:Option Bytes) (n:Nat) (hn:n≤1000000):Fn Tryz.prog 226 #[vptr rp 0,vint (n:Int)] [ReaderR rp s] (fun v M=>∃ (x:Int) (s':Option Bytes),Spec.get n s=(x,s')∧vint x=v∧M=[ReaderR rp s']):=by
 refine Fi 23 Tryz.func226 fun g R=>?_
 refine Ww [(0,vptr rp 0),(1,vint (n:Int))] [ReaderR rp s,Al R] ?_
 refine Sn (Qa (k:=Nl [(0,vptr rp 0),(1,vint (n:Int)),(4,vint 0)] ?_))
 refine Sn (Qa (k:=Nl [(0,vptr rp 0),(1,vint (n:Int)),(4,vint 0),(5,vint 0)] ?_))
 refine W.seq (Sn (Qm (k:=?_)))
 refine Qm (k:=?_)
 refine Wc [.tmp 8,.tmp 9] [vptr rp 0,vint (n:Int)] Tryz.call227 (take_fn rp s n (by first | omega | (simp; done) | (simp; omega) | (simp at *; omega))) (ep [0] rfl) ?_
 rintro _ _ ⟨r1,x2,s3,h4,rfl,rfl⟩
 refine Nk 0 fun hl5=>?_
 refine Qu (OpQ.lenSl (i:=0) rfl rfl rfl (len22 _)) (k:=Qm (k:=Nw [(4,vint 0),(5,vint 0),(10,r1),(11,vint (x2.length:Int)),(12,vint 0)] [KB r1 x2,ReaderR rp s3,Al R] ?_))
 refine W.block (W.loop (X:=Nat × Int) (fun x=>match x with | (k,y)=>[(5,vint y),(10,r1),(11,vint (x2.length:Int)),(12,vint (k:Int))]) (fun x=>match x with | (k,y)=>[Asn.pure (k≤x2.length∧y=Spec.num (x2.take k)),KB r1 x2,ReaderR rp s3,Al R]) (fun x=>match x with | (k,y)=>x2.length - k) (0,0) ⟨rfl,rfl,rfl,rfl,trivial⟩ ((es [0,0,0] rfl).trans (Ent.pure_in (by exact ⟨Nat.zero_le _,rfl⟩))) (fun x=>?_))
 obtain ⟨k,y⟩:=x
 show W _ _ _ _ _ [(5,vint y),(10,r1),(11,vint (x2.length:Int)),(12,vint (k:Int))] [Asn.pure (k≤x2.length∧y=Spec.num (x2.take k)),KB r1 x2,ReaderR rp s3,Al R]
 refine W.opens Opens.pure (i:=0) rfl (fun _ hI6=>?_)
 replace hI6:=hI6
 show W _ _ _ _ _ [(5,vint y),(10,r1),(11,vint (x2.length:Int)),(12,vint (k:Int))] [KB r1 x2,ReaderR rp s3,Al R]
 refine Sn (Qu (OpQ.lss rfl rfl rfl) (k:=Nl [(5,vint y),(10,r1),(11,vint (x2.length:Int)),(12,vint (k:Int)),(13,.bool (decide ((k:Int) < (x2.length:Int))))] ?_))
 refine W.seq (Cp rfl (fun h7=>?_) (fun h7=>?_))
 ·refine W.skip (thn_n (Wl [(5,vint y),(10,r1),(11,vint (x2.length:Int)),(12,vint (k:Int))] ?_))
  refine W.seq (W.block (Sn (Qu (OpQ.indexSl (i:=0) (j:=k) rfl rfl rfl rfl (by omega) (by omega) (by simp only [Enc.u8]; omega) ix22) (k:=?_))))
  refine Qu (OpQ.loadU8 (i:=0) rfl rfl rfl (by omega) ld5) (k:=Qa (k:=Nl [(5,vint y),(7,.int .u8 ((x2.getD k 0).toNat)),(10,r1),(11,vint (x2.length:Int)),(12,vint (k:Int))] ?_))
  refine W.region (Qm (k:=?_))
  refine Qu (OpQ.shl8 rfl rfl rfl) (k:=Qm (k:=Qu (OpQ.convI64 (p:=(x2.getD k 0).toNat) rfl rfl (by first | omega | exact UInt8.toNat_lt _) Tryz.runUnderlying3 (fun w=>⟨_,Tryz.runUnderlying5 w⟩)) (k:=Qu (OpQ.or rfl rfl rfl) (k:=Qa (k:=?_)))))
  refine WN.nil (inblk_n (thn_n (Wl [(5,vint (bits .or .i64 (IntKind.i64.wrap (y*256)) ((x2.getD k 0).toNat:Int))),(10,r1),(11,vint (x2.length:Int)),(12,vint (k:Int))] ?_)))
  refine W.region (Qu (OpQ.add rfl rfl rfl ⟨by omega,by omega⟩) (k:=?_))
  refine Qm (k:=?_)
  refine WN.nil (thn_n ⟨(k+1,bits .or .i64 (IntKind.i64.wrap (y*256)) ((x2.getD k 0).toNat:Int)),by (show x2.length - (k+1) < x2.length - k); omega,⟨rfl,rfl,rfl,(Eq.trans (b:=some (vint ((k:Int)+1))) rfl (by first | rfl | (congr 2; omega))),trivial⟩,?_⟩)
  exact (es [0,0,0] rfl).trans (Ent.pure_in (by refine ⟨by omega,?_⟩; rw [Spec.num_succ (by omega),← hI6.2]; rfl))
 obtain ⟨hIa,hIb⟩:=hI6
 obtain rfl:k=x2.length:=by omega
 rw [List.take_length] at hIb; subst hIb
 refine W.exit (thn_x (thn_x (inblk_x (thn_n (Wl [(5,vint (Spec.num x2))] ?_)))))
 refine Sn (Qm (k:=Qa (k:=Nl [(4,vint (Spec.num x2))] ?_)))
 refine W.ret (ret1 (M:=[ReaderR rp s3]) rfl rfl (⟨Spec.num x2,s3,(by unfold Spec.get; rw [h4]),rfl,rfl⟩) (es [1,1] rfl))
theorem Number_fn (rp:Nat) (s:Option Bytes) (lo:Int) (hi:Int):Fn Tryz.prog 143 #[vptr rp 0,vint lo,vint hi] [ReaderR rp s] (fun v M=>∃ (x:Int) (s':Option Bytes),Spec.rnumber lo hi s=(x,s')∧vint x=v∧M=[ReaderR rp s']):=by
 refine Fi 32 Tryz.func143 fun g R=>?_
 refine Ww [(0,vptr rp 0),(1,vint lo),(2,vint hi)] [ReaderR rp s,Al R] ?_
 refine Sn (Qa (k:=Nl [(0,vptr rp 0),(1,vint lo),(2,vint hi),(6,vint 0)] ?_))
 refine Sn (Qm (k:=?_))
 refine Wc [.tmp 8,.const (.int .i64 6)] [vptr rp 0,vint 6] Tryz.call226 (get_fn rp s 6 (by first | omega | (simp; done) | (simp; omega) | (simp at *; omega))) (ep [0] rfl) ?_
 rintro _ _ ⟨x1,s2,h3,rfl,rfl⟩
 refine Qa (k:=Nw [(0,vptr rp 0),(1,vint lo),(2,vint hi),(6,vint 0),(7,vint x1)] [ReaderR rp s2,Al R] ?_)
 refine W.seq (Sn (WN.opens Opens.rep (i:=0) rfl (fun x4 ⟨hv1,hbl,hsb⟩=>?_)))
 obtain ⟨v,bs⟩:=x4
 refine Ne [Cl rp 352 [v,.bool s2.isNone],KB v bs,Al R] ?_
 dsimp only at hv1 hbl hsb
 refine Qm (k:=Qm (k:=Qu (OpQ.nilCheck rfl rfl) (k:=Qu (Of (fa352_1 _ _)) (k:=Qu (Ol 0 ld4) (k:=Qm (k:=?_))))))
 cases h5:s2.isNone
 ·refine Qm (k:=Qm (k:=Qu (OpQ.lss rfl rfl rfl) (k:=?_)))
  by_cases h6:x1 < lo
  ·refine Qu (OpQ.decT (OpQ.pickF rfl rfl rfl) h6) (k:=Qm (k:=Qs (k:=Qs (k:=Qs (k:=Qt (k:=Qu (OpQ.nilCheck rfl rfl) (k:=Qu (Of (fa352_1 _ _)) (k:=Rn (OpRun.store (i:=0) (vs:=[.bool true]) (cs':=[v,.bool true]) rfl rfl rfl sz4 rfl rfl (one_cons rfl one_nil) rfl (Lb rfl) rfl) (k:=Nw [(0,vptr rp 0),(6,vint 0),(7,vint x1)] [Cl rp 352 [v,.bool true],KB v bs,Al R] ?_)))))))))
   refine Sn (Qm (k:=Qu (OpQ.nilCheck rfl rfl) (k:=Qu (Of (fa352_1 _ _)) (k:=Qu (Ol 0 ld4) (k:=Nl [(6,vint 0),(7,vint x1),(30,.bool true)] ?_)))))
   refine W.condT rfl ?_
   refine Sn (Qa (k:=Nl [(6,vint 0),(7,vint x1)] ?_))
   refine W.ent (L':=[Cl rp 352 [v,.bool ((none:Option Bytes).isNone)],KB v bs,Al R]) ((es [0,0,0] rfl).trans (Ent.of_eq (by simp))) ?_
   refine W.ent (L':=[ReaderR rp none,Al R]) (Ent.rep' (v,bs) rfl ⟨hv1,hbl,.inl rfl⟩ rfl) ?_
   refine W.ret (thn_r (ret1 (M:=[ReaderR rp none]) rfl rfl (⟨0,none,(by unfold Spec.rnumber; rw [h3]; cases hz:s2 <;> simp_all; try omega),rfl,rfl⟩) (es [0,0] rfl)))
  refine Qu (OpQ.decF (OpQ.pickF rfl rfl rfl) h6) (k:=Qm (k:=Qm (k:=Qm (k:=Qu (OpQ.gtr rfl rfl rfl) (k:=Qf (k:=Qu (OpQ.nilCheck rfl rfl) (k:=Qu (Of (fa352_1 _ _)) (k:=Rn (OpRun.store (i:=0) (vs:=[.bool (decide (x1 > hi))]) (cs':=[v,.bool (decide (x1 > hi))]) rfl rfl rfl sz4 rfl rfl (one_cons rfl one_nil) rfl (Lb rfl) rfl) (k:=Nw [(0,vptr rp 0),(6,vint 0),(7,vint x1)] [Cl rp 352 [v,.bool (decide (x1 > hi))],KB v bs,Al R] ?_)))))))))
  refine Sn (Qm (k:=Qu (OpQ.nilCheck rfl rfl) (k:=Qu (Of (fa352_1 _ _)) (k:=Qu (Ol 0 ld4) (k:=Nl [(6,vint 0),(7,vint x1),(30,.bool (decide (x1 > hi)))] ?_)))))
  refine Cp rfl (fun h7=>?_) (fun h7=>?_)
  ·refine Sn (Qa (k:=Nl [(6,vint 0),(7,vint x1)] ?_))
   refine W.ent (L':=[Cl rp 352 [v,.bool ((none:Option Bytes).isNone)],KB v bs,Al R]) ((es [0,0,0] rfl).trans (Ent.of_eq (by simp [h7]))) ?_
   refine W.ent (L':=[ReaderR rp none,Al R]) (Ent.rep' (v,bs) rfl ⟨hv1,hbl,.inl rfl⟩ rfl) ?_
   refine W.ret (thn_r (ret1 (M:=[ReaderR rp none]) rfl rfl (⟨0,none,(by unfold Spec.rnumber; rw [h3]; cases hz:s2 <;> simp_all; try omega),rfl,rfl⟩) (es [0,0] rfl)))
  refine W.skip (thn_n (Wl [(6,vint 0),(7,vint x1)] ?_))
  refine Sn (Qm (k:=Qa (k:=Nl [(6,vint x1)] ?_)))
  obtain rfl:s2=some bs:=by cases s2 <;> simp_all
  refine W.ent (L':=[Cl rp 352 [v,.bool ((some bs).isNone)],KB v bs,Al R]) ((es [0,0,0] rfl).trans (Ent.of_eq (by simp [h7]))) ?_
  refine W.ent (L':=[ReaderR rp (some bs),Al R]) (Ent.rep' (v,bs) rfl ⟨hv1,hbl,.inr rfl⟩ rfl) ?_
  refine W.ret (ret1 (M:=[ReaderR rp (some bs)]) rfl rfl (⟨x1,some bs,(by unfold Spec.rnumber; rw [h3]; show (if _ then _ else _)=_; rw [if_neg (by omega)]),rfl,rfl⟩) (es [0,0] rfl))
 refine Qs (k:=Qs (k:=Qs (k:=Qt (k:=Qm (k:=Qs (k:=Qs (k:=Qs (k:=Qt (k:=Qu (OpQ.nilCheck rfl rfl) (k:=Qu (Of (fa352_1 _ _)) (k:=Rn (OpRun.store (i:=0) (vs:=[.bool true]) (cs':=[v,.bool true]) rfl rfl rfl sz4 rfl rfl (one_cons rfl one_nil) rfl (Lb rfl) rfl) (k:=Nw [(0,vptr rp 0),(6,vint 0),(7,vint x1)] [Cl rp 352 [v,.bool true],KB v bs,Al R] ?_))))))))))))
 refine Sn (Qm (k:=Qu (OpQ.nilCheck rfl rfl) (k:=Qu (Of (fa352_1 _ _)) (k:=Qu (Ol 0 ld4) (k:=Nl [(6,vint 0),(7,vint x1),(30,.bool true)] ?_)))))
 refine W.condT rfl ?_
 refine Sn (Qa (k:=Nl [(6,vint 0),(7,vint x1)] ?_))
 refine W.ent (L':=[Cl rp 352 [v,.bool ((none:Option Bytes).isNone)],KB v bs,Al R]) ((es [0,0,0] rfl).trans (Ent.of_eq (by simp))) ?_
 refine W.ent (L':=[ReaderR rp none,Al R]) (Ent.rep' (v,bs) rfl ⟨hv1,hbl,.inl rfl⟩ rfl) ?_
 refine W.ret (thn_r (ret1 (M:=[ReaderR rp none]) rfl rfl (⟨0,none,(by unfold Spec.rnumber; rw [h3]; cases hz:s2 <;> simp_all; try omega),rfl,rfl⟩) (es [0,0] rfl)))
theorem Text_fn (rp:Nat) (s:Option Bytes) (lo:Int) (hi:Int) (h0:0≤lo) (h1:hi≤1000000):Fn Tryz.prog 145 #[vptr rp 0,vint lo,vint hi] [ReaderR rp s] (fun v M=>∃ (r:Value) (x:Bytes) (s':Option Bytes),Spec.rtext lo hi s=(x,s')∧r=v∧M=[KB r x,ReaderR rp s']):=by
 refine Fi 34 Tryz.func145 fun g R=>?_
 refine Ww [(0,vptr rp 0),(1,vint lo),(2,vint hi)] [ReaderR rp s,Al R] ?_
 refine Sn (Qa (k:=Nl [(0,vptr rp 0),(1,vint lo),(2,vint hi),(6,N0)] ?_))
 refine Sn (Qm (k:=?_))
 refine Wc [.tmp 8,.const (.int .i64 2)] [vptr rp 0,vint 2] Tryz.call226 (get_fn rp s 2 (by first | omega | (simp; done) | (simp; omega) | (simp at *; omega))) (ep [0] rfl) ?_
 rintro _ _ ⟨x1,s2,h3,rfl,rfl⟩
 refine Qa (k:=Nw [(0,vptr rp 0),(1,vint lo),(2,vint hi),(6,N0),(7,vint x1)] [ReaderR rp s2,Al R] ?_)
 refine W.seq (Sn (WN.opens Opens.rep (i:=0) rfl (fun x4 ⟨hv1,hbl,hsb⟩=>?_)))
 obtain ⟨v,bs⟩:=x4
 refine Ne [Cl rp 352 [v,.bool s2.isNone],KB v bs,Al R] ?_
 dsimp only at hv1 hbl hsb
 refine Qm (k:=Qm (k:=Qu (OpQ.nilCheck rfl rfl) (k:=Qu (Of (fa352_1 _ _)) (k:=Qu (Ol 0 ld4) (k:=Qm (k:=?_))))))
 cases h5:s2.isNone
 ·refine Qm (k:=Qm (k:=Qu (OpQ.lss rfl rfl rfl) (k:=?_)))
  by_cases h6:x1 < lo
  ·refine Qu (OpQ.decT (OpQ.pickF rfl rfl rfl) h6) (k:=Qm (k:=Qs (k:=Qs (k:=Qs (k:=Qt (k:=Qu (OpQ.nilCheck rfl rfl) (k:=Qu (Of (fa352_1 _ _)) (k:=Rn (OpRun.store (i:=0) (vs:=[.bool true]) (cs':=[v,.bool true]) rfl rfl rfl sz4 rfl rfl (one_cons rfl one_nil) rfl (Lb rfl) rfl) (k:=Nw [(0,vptr rp 0),(6,N0),(7,vint x1)] [Cl rp 352 [v,.bool true],KB v bs,Al R] ?_)))))))))
   refine Sn (Qm (k:=Qu (OpQ.nilCheck rfl rfl) (k:=Qu (Of (fa352_1 _ _)) (k:=Qu (Ol 0 ld4) (k:=Nl [(0,vptr rp 0),(6,N0),(7,vint x1),(30,.bool true)] ?_)))))
   refine W.condT rfl ?_
   refine Sn (Qa (k:=Nl [(0,vptr rp 0),(6,N0),(7,vint x1)] ?_))
   refine W.ent (Ent.slNil (e:=Enc.u8) (T:=5)) ?_
   refine W.ent (L':=[KB (N0) ([]),Cl rp 352 [v,.bool true],KB v bs,Al R]) (es [0,0,0,0] rfl) ?_
   refine W.ent (L':=[Cl rp 352 [v,.bool ((none:Option Bytes).isNone)],KB v bs,KB (N0) ([]),Al R]) ((es [1,1,0,0] rfl).trans (Ent.of_eq (by simp))) ?_
   refine W.ent (L':=[ReaderR rp none,KB (N0) ([]),Al R]) (Ent.rep' (v,bs) rfl ⟨hv1,hbl,.inl rfl⟩ rfl) ?_
   refine W.ret (thn_r (ret1 (M:=[KB (N0) ([]),ReaderR rp none]) rfl rfl (⟨N0,[],none,(by unfold Spec.rtext; rw [h3]; cases hz:s2 <;> simp_all; try omega),rfl,rfl⟩) (es [1,0,0] rfl)))
  refine Qu (OpQ.decF (OpQ.pickF rfl rfl rfl) h6) (k:=Qm (k:=Qm (k:=Qm (k:=Qu (OpQ.gtr rfl rfl rfl) (k:=Qf (k:=Qu (OpQ.nilCheck rfl rfl) (k:=Qu (Of (fa352_1 _ _)) (k:=Rn (OpRun.store (i:=0) (vs:=[.bool (decide (x1 > hi))]) (cs':=[v,.bool (decide (x1 > hi))]) rfl rfl rfl sz4 rfl rfl (one_cons rfl one_nil) rfl (Lb rfl) rfl) (k:=Nw [(0,vptr rp 0),(6,N0),(7,vint x1)] [Cl rp 352 [v,.bool (decide (x1 > hi))],KB v bs,Al R] ?_)))))))))
  refine Sn (Qm (k:=Qu (OpQ.nilCheck rfl rfl) (k:=Qu (Of (fa352_1 _ _)) (k:=Qu (Ol 0 ld4) (k:=Nl [(0,vptr rp 0),(6,N0),(7,vint x1),(30,.bool (decide (x1 > hi)))] ?_)))))
  refine Cp rfl (fun h7=>?_) (fun h7=>?_)
  ·refine Sn (Qa (k:=Nl [(0,vptr rp 0),(6,N0),(7,vint x1)] ?_))
   refine W.ent (Ent.slNil (e:=Enc.u8) (T:=5)) ?_
   refine W.ent (L':=[KB (N0) ([]),Cl rp 352 [v,.bool (decide (x1 > hi))],KB v bs,Al R]) (es [0,0,0,0] rfl) ?_
   refine W.ent (L':=[Cl rp 352 [v,.bool ((none:Option Bytes).isNone)],KB v bs,KB (N0) ([]),Al R]) ((es [1,1,0,0] rfl).trans (Ent.of_eq (by simp [h7]))) ?_
   refine W.ent (L':=[ReaderR rp none,KB (N0) ([]),Al R]) (Ent.rep' (v,bs) rfl ⟨hv1,hbl,.inl rfl⟩ rfl) ?_
   refine W.ret (thn_r (ret1 (M:=[KB (N0) ([]),ReaderR rp none]) rfl rfl (⟨N0,[],none,(by unfold Spec.rtext; rw [h3]; cases hz:s2 <;> simp_all; try omega),rfl,rfl⟩) (es [1,0,0] rfl)))
  refine W.skip (thn_n (Wl [(0,vptr rp 0),(6,N0),(7,vint x1)] ?_))
  refine W.seq (W.region ?_)
  obtain rfl:s2=some bs:=by cases s2 <;> simp_all
  refine WN.ent (L':=[Cl rp 352 [v,.bool ((some bs).isNone)],KB v bs,Al R]) ((es [0,0,0] rfl).trans (Ent.of_eq (by simp [h7]))) ?_
  refine WN.ent (L':=[ReaderR rp (some bs),Al R]) (Ent.rep' (v,bs) rfl ⟨hv1,hbl,.inr rfl⟩ rfl) ?_
  obtain ⟨m,rfl⟩:∃ m:Nat,x1=m:=⟨x1.toNat,by omega⟩
  refine Qm (k:=Qm (k:=?_))
  refine Wc [.tmp 31,.tmp 32] [vptr rp 0,vint (m:Int)] Tryz.call227 (take_fn rp (some bs) m (by first | omega | (simp; done) | (simp; omega) | (simp at *; omega))) (ep [0] rfl) ?_
  rintro _ _ ⟨r8,x9,s10,h11,rfl,rfl⟩
  refine Qa (k:=Nw [(6,r8)] [KB r8 x9,ReaderR rp s10,Al R] ?_)
  refine W.ret (ret1 (M:=[KB r8 x9,ReaderR rp s10]) rfl rfl (⟨r8,x9,s10,(by unfold Spec.rtext; rw [h3]; show (if _ then _ else _)=_; rw [if_neg (by omega),Int.toNat_natCast]; assumption),rfl,rfl⟩) (es [0,0,0] rfl))
 refine Qs (k:=Qs (k:=Qs (k:=Qt (k:=Qm (k:=Qs (k:=Qs (k:=Qs (k:=Qt (k:=Qu (OpQ.nilCheck rfl rfl) (k:=Qu (Of (fa352_1 _ _)) (k:=Rn (OpRun.store (i:=0) (vs:=[.bool true]) (cs':=[v,.bool true]) rfl rfl rfl sz4 rfl rfl (one_cons rfl one_nil) rfl (Lb rfl) rfl) (k:=Nw [(0,vptr rp 0),(6,N0),(7,vint x1)] [Cl rp 352 [v,.bool true],KB v bs,Al R] ?_))))))))))))
 refine Sn (Qm (k:=Qu (OpQ.nilCheck rfl rfl) (k:=Qu (Of (fa352_1 _ _)) (k:=Qu (Ol 0 ld4) (k:=Nl [(0,vptr rp 0),(6,N0),(7,vint x1),(30,.bool true)] ?_)))))
 refine W.condT rfl ?_
 refine Sn (Qa (k:=Nl [(0,vptr rp 0),(6,N0),(7,vint x1)] ?_))
 refine W.ent (Ent.slNil (e:=Enc.u8) (T:=5)) ?_
 refine W.ent (L':=[KB (N0) ([]),Cl rp 352 [v,.bool true],KB v bs,Al R]) (es [0,0,0,0] rfl) ?_
 refine W.ent (L':=[Cl rp 352 [v,.bool ((none:Option Bytes).isNone)],KB v bs,KB (N0) ([]),Al R]) ((es [1,1,0,0] rfl).trans (Ent.of_eq (by simp))) ?_
 refine W.ent (L':=[ReaderR rp none,KB (N0) ([]),Al R]) (Ent.rep' (v,bs) rfl ⟨hv1,hbl,.inl rfl⟩ rfl) ?_
 refine W.ret (thn_r (ret1 (M:=[KB (N0) ([]),ReaderR rp none]) rfl rfl (⟨N0,[],none,(by unfold Spec.rtext; rw [h3]; cases hz:s2 <;> simp_all; try omega),rfl,rfl⟩) (es [1,0,0] rfl)))
end Go.Lk
open Go.Proofs
namespace Go.Lk
structure Wrap where
  who:Int
  box:Bytes
  deriving DecidableEq,Inhabited
structure Entry where
  kind:Int
  writer:Int
  seq:Int
  name:Bytes
  value:Bytes
  who:Int
  rights:Int
  epoch:Int
  wraps:List Wrap
  deriving DecidableEq,Inhabited
def Enc.wrap:Enc Wrap:=⟨2,fun K cs x=>∃ v,cs=[vint x.who,v]∧Sl.φ Enc.u8 5 v x.box K,fun hk ⟨v,h1,h2⟩=>⟨v,h1,Sl.mono hk h2⟩⟩
abbrev KW (v:Value) (xs:List Wrap):Asn:=Asn.kn (Sl Enc.wrap 227 v xs)
abbrev ecs (e:Entry) (nv vv wv:Value):List Value:=[vint e.kind,vint e.writer,vint e.seq,nv,vv,vint e.who,vint e.rights,vint e.epoch,wv]
theorem Opens.wrap {f:Nat→Value} {xs:List Wrap} {i:Nat} (h:i < xs.length) :
    Opens (Asn.kn (SlRel Enc.wrap f xs)) (fun z:Value=>Lk.sub f (i*2) 2=[vint (xs.getD i default).who,z]) (fun z=>[Asn.kn (Sl Enc.u8 5 z (xs.getD i default).box),Asn.kn (SlRel Enc.wrap f xs)]) :=
  Opens.elem (e:=Enc.wrap) (getD_some default h) fun _ _ h=>h
theorem Enc.part_n {K:PH} {x:Int}:Enc.part.rel K [.iface 3 (vint x)] (.n x):=⟨_,rfl,rfl⟩
theorem Enc.part_b {K:PH} {u:Value} {bs:Bytes} (h:(Sl Enc.u8 5 u bs).φ K):Enc.part.rel K [.iface 22 u] (.b bs):=⟨_,rfl,u,rfl,h⟩
theorem Enc.wrap_mk {K:PH} {who:Int} {u:Value} {bs:Bytes} (h:(Sl Enc.u8 5 u bs).φ K):Enc.wrap.rel K [vint who,u] ⟨who,bs⟩:=⟨u,rfl,h⟩
theorem flatMap_take_succ {α β:Type} {xs:List α} {k:Nat} {d:α} {f:α→List β} (h:k < xs.length):(xs.take (k+1)).flatMap f=(xs.take k).flatMap f++f (xs.getD k d):=by
  rw [List.take_succ_eq_append_getElem h,List.flatMap_append,List.getD_eq_getElem?_getD,List.getElem?_eq_getElem h]; simp
namespace Spec
def wrapAt (ws:List Wrap) (i:Nat):Prop:=1≤(ws.getD i default).who∧(ws.getD i default).who≤16∧(ws.getD i default).box.length=48∧(0 < i→(ws.getD (i - 1) default).who < (ws.getD i default).who)
instance (ws:List Wrap) (i:Nat):Decidable (wrapAt ws i):=by unfold wrapAt; infer_instance
def wrapsOk (ws:List Wrap):Bool:=decide (ws.length≤16) && (List.range ws.length).all fun i=>decide (wrapAt ws i)
theorem wrapsOk_F {ws:List Wrap} {k:Nat} (hk:k < ws.length) (h:¬ wrapAt ws k):wrapsOk ws=false:=by
  have:((List.range ws.length).all fun i=>decide (wrapAt ws i))=false:=by
    rw [List.all_eq_false]
    exact ⟨k,List.mem_range.2 hk,by simpa using h⟩
  simp [wrapsOk,this]
theorem wrapsOk_all {ws:List Wrap} (h:∀ i,i < ws.length→wrapAt ws i):wrapsOk ws=decide (ws.length≤16):=by
  have:((List.range ws.length).all fun i=>decide (wrapAt ws i))=true:=by
    rw [List.all_eq_true]
    intro i hi
    simpa using h i (List.mem_range.1 hi)
  simp [wrapsOk,this]
theorem all_succ {p:Nat→Prop} {k:Nat} (h:∀ i,i < k→p i) (hk:p k):∀ i,i < k+1→p i:=fun i hi=>by
  rcases Nat.lt_succ_iff_lt_or_eq.1 hi with h1 | h1
  · exact h i h1
  · subst h1; exact hk
def bare (e:Entry):Entry :=
  if e.kind=1 then ⟨e.kind,e.writer,e.seq,e.name,e.value,0,0,0,[]⟩
  else if e.kind=2 then ⟨e.kind,e.writer,e.seq,e.name,[],0,0,0,[]⟩
  else if e.kind=3 then ⟨e.kind,e.writer,e.seq,[],[],e.who,e.rights,0,[]⟩
  else if e.kind=4 then ⟨e.kind,e.writer,e.seq,[],[],e.who,0,0,[]⟩
  else if e.kind=5 then ⟨e.kind,e.writer,e.seq,[],[],0,0,e.epoch,e.wraps⟩
  else ⟨e.kind,e.writer,e.seq,[],[],0,0,0,[]⟩
def right (e:Entry):Bool :=
  decide (1≤e.kind∧e.kind≤5∧1≤e.writer∧e.writer≤16∧1≤e.seq∧e.seq≤1099511627776∧e=bare e) &&
  (if e.kind=1∨e.kind=2 then decide (1≤e.name.length∧e.name.length≤64∧e.value.length≤512)
   else if e.kind=3 then decide (1≤e.who∧e.who≤16∧1≤e.rights∧e.rights≤7)
   else if e.kind=4 then decide (1≤e.who∧e.who≤16)
   else decide (1≤e.epoch∧e.epoch≤16) && wrapsOk e.wraps)
theorem right_F {e b:Entry} (hb:bare e=b) (h:¬ (1≤e.kind∧e.kind≤5∧1≤e.writer∧e.writer≤16∧1≤e.seq∧e.seq≤1099511627776∧e=b)):right e=false:=by
  subst hb; unfold right; rw [decide_eq_false h]; rfl
theorem right_F' {e:Entry} (h:¬ (1≤e.kind∧e.kind≤5∧1≤e.writer∧e.writer≤16∧1≤e.seq∧e.seq≤1099511627776)):right e=false :=
  right_F rfl fun ⟨a,b,c,d,f,g,_⟩=>h ⟨a,b,c,d,f,g⟩
theorem right_T {e b:Entry} (hb:bare e=b) (h:1≤e.kind∧e.kind≤5∧1≤e.writer∧e.writer≤16∧1≤e.seq∧e.seq≤1099511627776) (he:e=b):right e =
  (if e.kind=1∨e.kind=2 then decide (1≤e.name.length∧e.name.length≤64∧e.value.length≤512)
   else if e.kind=3 then decide (1≤e.who∧e.who≤16∧1≤e.rights∧e.rights≤7)
   else if e.kind=4 then decide (1≤e.who∧e.who≤16)
   else decide (1≤e.epoch∧e.epoch≤16) && wrapsOk e.wraps):=by
  obtain ⟨h1,h2,h3,h4,h5,h6⟩:=h
  unfold right; rw [decide_eq_true (p:=_∧_) ⟨h1,h2,h3,h4,h5,h6,by rw [hb]; exact he⟩]; rfl
theorem right_kind {e:Entry} (h:right e=true):1≤e.kind∧e.kind≤5:=by
  have:¬ ¬ (1≤e.kind∧e.kind≤5∧1≤e.writer∧e.writer≤16∧1≤e.seq∧e.seq≤1099511627776):=fun hh=>by rw [right_F' hh] at h; cases h
  omega
def wparts (w:Wrap):List Part:=[.n w.who,.b w.box]
@[simp] theorem wparts_length (ws:List Wrap):(ws.flatMap wparts).length=2*ws.length:=by
  induction ws with
  | nil=>rfl
  | cons w ws ih=>simp only [List.flatMap_cons,List.length_append,ih,wparts,List.length_cons,List.length_nil]; omega
theorem right_wraps {e:Entry} (h:right e=true):e.wraps.length≤16:=by
  unfold right at h
  rw [Bool.and_eq_true] at h
  obtain ⟨h1,h2⟩:=h
  have h1:=of_decide_eq_true h1
  obtain ⟨k1,k2,_,_,_,_,hb⟩:=h1
  by_cases h5:e.kind=5
  · rw [if_neg (by omega),if_neg (by omega),if_neg (by omega),Bool.and_eq_true] at h2
    have:=h2.2
    unfold wrapsOk at this
    rw [Bool.and_eq_true] at this
    exact of_decide_eq_true this.1
  · have:e.wraps=[]:=by
      rw [hb]; unfold bare
      repeat' split
      all_goals first | rfl | omega
    rw [this]; simp
def eparts (e:Entry):List Part :=
  [.n e.kind,.n e.writer,.n e.seq] ++
  (if e.kind=1 then [.b e.name,.b e.value] else if e.kind=2 then [.b e.name] else if e.kind=3 then [.n e.who,.n e.rights] else if e.kind=4 then [.n e.who]
   else if e.kind=5 then [.n e.epoch,.n e.wraps.length]++e.wraps.flatMap wparts else [])
def encode (e:Entry):Except Int Bytes:=if right e then put (eparts e) else .error 10
def rwraps:Nat→Option Bytes→List Wrap × Option Bytes
  | 0,s=>([],s)
  | k+1,s=>match s with
    | none=>([],none)
    | some _ =>
      let (who,s1):=rnumber 1 16 s
      let (box,s2):=rtext 48 48 s1
      let (ws,s3):=rwraps k s2
      (⟨who,box⟩ :: ws,s3)
theorem rwraps_none (n:Nat):rwraps n none=([],none):=by cases n <;> rfl
theorem rwraps_succ {n:Nat} {s:Bytes} {who:Int} {box:Bytes} {s1 s2:Option Bytes} (h1:rnumber 1 16 (some s)=(who,s1)) (h2:rtext 48 48 s1=(box,s2)) :
    rwraps (n+1) (some s)=(⟨who,box⟩ :: (rwraps n s2).1,(rwraps n s2).2):=by
  simp only [rwraps,h1,h2]
theorem rnumber_range {lo hi x:Int} {s s':Option Bytes} (h:rnumber lo hi s=(x,s')) (h0:0≤lo) (h1:0≤hi):0≤x∧x≤hi:=by
  unfold rnumber at h
  split at h
  · split at h
    · simp at h; omega
    · simp at h; omega
  · simp at h; omega
def rentry (s:Option Bytes):Entry × Option Bytes :=
  let (kind,s):=rnumber 1 5 s
  let (writer,s):=rnumber 1 16 s
  let (seq,s):=rnumber 1 1099511627776 s
  if kind=1 then
    let (name,s):=rtext 1 64 s
    let (value,s):=rtext 0 512 s
    (⟨kind,writer,seq,name,value,0,0,0,[]⟩,s)
  else if kind=2 then
    let (name,s):=rtext 1 64 s
    (⟨kind,writer,seq,name,[],0,0,0,[]⟩,s)
  else if kind=3 then
    let (who,s):=rnumber 1 16 s
    let (rights,s):=rnumber 1 7 s
    (⟨kind,writer,seq,[],[],who,rights,0,[]⟩,s)
  else if kind=4 then
    let (who,s):=rnumber 1 16 s
    (⟨kind,writer,seq,[],[],who,0,0,[]⟩,s)
  else if kind=5 then
    let (epoch,s):=rnumber 1 16 s
    let (n,s):=rnumber 0 16 s
    let (ws,s):=rwraps n.toNat s
    (⟨kind,writer,seq,[],[],0,0,epoch,ws⟩,s)
  else (⟨kind,writer,seq,[],[],0,0,0,[]⟩,s)
def decode (bs:Bytes):Except Int Entry :=
  match rentry (some bs) with
  | (e,s)=>if s=some []∧right e then .ok e else .error 10
end Spec
end Go.Lk
