/- The law KeyTurned answers true at every list of numbers, on every schedule. No condition. -/
import Derived.Test.YtoaaoiipickclaaGreatKeyTurned3
import Derived.Conc.LeavingOf
import Derived.Conc.Holds
import Derived.ProofKit
import Derived.Test.YtoaaoiipickclaaGreatChecked
import Derived.Test.YtoaaoiipickclaaGreatRows
set_option linter.all false
set_option maxRecDepth 4000
set_option maxHeartbeats 1000000
namespace Go.Gg
open Go.Conc Go.Proofs
def zpL (x : Ring) (t keys : List Int) : Bool:=(List.range x.locks.length).all fun b => (List.range b).all fun a => znC x t keys a b
def zpt (x : Ring) (ts : List (List Int × Nat)) (keys : List Int) : Bool:=ts.all fun y => zpL x y.1 keys
def zpH (x : Ring) : Option (List Int):=zm5 x.keys.length (zpt x (zlD x []))
section
variable {lv : Bool} {H : List AObj} {k kp : AV -> List AObj -> Prop}
theorem f120_c {x : Ring} {keys : List Int} {e : End} {l r id ck : Nat} {ts : List (List Int × Nat)} (hl : H[l]? = some (.cells [.mp id] 118)) (hr : H[r]? = some (.cells [.rp (x.l ++ zlL x)] 100)) (hid : H[id]? = some (setObj ts ck)) (hb : ∀ y ∈ ts,y.2 < ck) (hnd : (ts.map (·.2)).Nodup) (hl4 : x.locks.length <= 4) (h4 : ∀ y ∈ ts,y.1.length = 4 /\ ∀ w ∈ y.1,0 <= w /\ w <= 2) (hkeys : ∀ q ∈ keys,0 <= q /\ q < 4) (hkl : keys.length < 2 ^ 30) (hk : k (bv (zpt x ts keys)) H) : FnC lv Tryz.prog 120 H [.sl keys.length (keys.map iv) e,.op l 0,.op r 0] k kp:=by
 refine zlA (rs:=[.tmp 4]) (nt:=36) Tryz.f120 fun hH hA => ?_;simp only [zlV,Nat.reduceAdd];rw [setObj] at hid;refine zfK ?_;refine zl5 ?_;simp only [seval,hl,hid];have hid' : ∀ L : List AObj,(H ++ L)[id]? = some (AObj.obj (Obj.map (List.map zlH ts).toArray ck)):=fun L => zay hid;have hr' : ∀ L : List AObj,(H ++ L)[r]? = some (.cells [.rp (x.l ++ zlL x)] 100):=fun L => zay hr;have hall:=zcO ts ck hb;have hokI : ∀ sn,HOk (H ++ [AObj.iter id ck sn ck]):=fun sn z hz => by
  have hl:=get_lt hid;rcases List.mem_append.1 hz with h | h
  ·exact (hH z h).mono (by simp)
  ·rw [List.mem_singleton.1 h]; show id < _; simp; omega
 refine zlC ?_;refine za9 (measure fun vs : List (List Int × Nat) => ts.length - vs.length).wf (fun vs => []) (fun vs => H ++ [.iter id ck (vs.map (·.2)).toArray ck]) (fun vs => ((vs.map (·.2)).Nodup /\ ∀ y ∈ vs,y ∈ ts) /\ ∀ y ∈ vs,zpL x y.1 keys = true) [] (fun _ _ => rfl) (by simp) (by simp) (fun _ _ => by simp) ⟨⟨by simp,by simp⟩,by simp⟩ (fun hHs hLt vs hok R hR => ?_);refine zl5 ?_;simp only [seval,hid'];refine ⟨hall.elim .inl (fun h => .inr (.inl h)),fun e he hn => ?_,fun hs => ?_⟩
 ·obtain ⟨y,hy,rfl⟩ : ∃ y ∈ ts,zlH y = e:=by simpa using he
  have hyn : y.2 ∉ vs.map (·.2):=by simpa [zlH] using hn
  have hok':=zdk hok.1 hy hyn;have hrel:=zdl hok';refine zlu ?_;refine zly ?_;refine zlC ?_;obtain ⟨h41,h42⟩:=h4 y hy;have hborn : (zlH y).born = y.2:=rfl;have hlen : (y.1.map iv).length = 4:=by simp [h41]
  have hdrop : List.drop 4 [AV.val (Value.int IntKind.i64 0),AV.val (Value.int IntKind.i64 0),AV.val (Value.int IntKind.i64 0),AV.val (Value.int IntKind.i64 0)] = []:=rfl;refine zl5 ?_;simp only [seval,hid',Array.back?_push,hborn,zcL hnd hy,zb7,h41,hlen,hdrop];rw [zdm];have hokC : HOk (H ++ [AObj.iter id ck ((vs ++ [y]).map (·.2)).toArray ck,.cells (y.1.map iv) 132]):=by
   have h1 : (H ++ [AObj.iter id ck ((vs ++ [y]).map (·.2)).toArray ck,.cells (y.1.map iv) 132]) = (H ++ [AObj.iter id ck ((vs ++ [y]).map (·.2)).toArray ck]) ++ [.cells (y.1.map iv) 132]:=(by simp);rw [h1];refine zc6 (hokI _) fun z hz n => ?_;rw [List.mem_singleton.1 hz];intro a ha;obtain ⟨w,_,rfl⟩:=List.mem_map.1 ha;exact .val _
  refine zl5 ?_;simp only [seval,hr',Ring.l,zmb];refine zlC ?_;refine zmv x.locks.length (fun b : Nat => [(20,iv b)]) (fun _ => H ++ [.iter id ck ((vs ++ [y]).map (·.2)).toArray ck,.cells (y.1.map iv) 132]) (fun b => ∀ b' < b,∀ a < b',znC x y.1 keys a b' = true) (fun b hb => by omega) (fun hHs2 hLt2 b hbn hbo R2 hR2 => ?_);refine zfK ?_;refine zlu ?_;refine ⟨fun h => ?_,fun h => ?_⟩
  ·
   have hbl : b < x.locks.length:=(by omega);refine zly ?_;refine zfK ?_;refine zfK ?_;refine zlC ?_;refine zmv b (fun a : Nat => [(24,iv a)]) (fun _ => H ++ [.iter id ck ((vs ++ [y]).map (·.2)).toArray ck,.cells (y.1.map iv) 132]) (fun a => ∀ a' < a,znC x y.1 keys a' b = true) (fun a ha => by omega) (fun hHs3 hLt3 a han hao R3 hR3 => ?_);refine zfK ?_;refine zlu ?_;refine ⟨fun h2 => ?_,fun h2 => ?_⟩
   ·
    have hab : a < b:=(by omega);refine zly ?_;refine zfK ?_;have htk : List.take 4 (y.1.map iv) = y.1.map iv:=List.take_of_length_le (by omega);refine zl5 ?_;simp only [seval,hr',hlen,htk];refine zl6 ((f117_c (x:=x) (by omega) h41 h42 hkeys hkl ?_));(try simp only [seval]);refine zlu ?_;refine ⟨fun h3 => ?_,fun h3 => ?_⟩
    ·
     have hr : zpt x ts keys = false:=by
      apply Bool.eq_false_iff.2;intro hc;have h4:=List.all_eq_true.1 hc y hy;have h5:=List.all_eq_true.1 h4 b (List.mem_range.2 hbl);have h6:=List.all_eq_true.1 h5 a (List.mem_range.2 hab);rw [h6] at h3; simp at h3
     refine zfK ?_;refine zlz ?_;rw [hr] at hk;exact endV hH hk
    ·
     have ha1 : IntKind.i64.wrap ((a : Int) + 1) = ((a + 1 : Nat) : Int):=(by rw [zau _ (by omega)]; rfl);refine zly ?_;refine zl5 ?_;simp only [seval,ha1];refine hR3 _ ⟨hab,fun a' ha' => ?_,?_⟩
     ·by_cases e3 : a' = a
      ·subst e3; simpa using h3
      ·exact hao a' (by omega)
     ·exact zlK
   ·
    have hax : a = b:=(by omega);subst hax;refine zlF ?_;have hb1 : IntKind.i64.wrap ((a : Int) + 1) = ((a + 1 : Nat) : Int):=(by rw [zau _ (by omega)]; rfl);refine zl5 ?_;simp only [seval,hb1];refine hR2 _ ⟨hbl,fun b' hb' a' ha' => ?_,?_⟩
    ·by_cases e3 : b' = a
     ·subst e3; exact hao a' ha'
     ·exact hbo b' (by omega) a' ha'
    ·exact zlK
  ·
   have hbx : b = x.locks.length:=(by omega);subst hbx;refine zlF ?_;have heq : zpL x y.1 keys = true:=List.all_eq_true.2 fun b hb => List.all_eq_true.2 fun a ha => hbo b (List.mem_range.1 hb) a (List.mem_range.1 ha);refine hR _ ⟨vs ++ [y],hrel,⟨hok',fun z hz => ?_⟩,?_⟩
   ·rcases List.mem_append.1 hz with h | h
    ·exact hok.2 z h
    ·rw [List.mem_singleton.1 h]; exact heq
   ·exact zat (zam rfl rfl) (by simp) (hokI _) (by simp)
 ·have hp : vs.Perm ts:=zct hok.1.1 hnd hok.1.2 fun y hy => by
   have:=hs (zlH y) (by simp; exact ⟨y.1,y.2,hy,rfl⟩) (hb y hy);simpa [zlH] using this
  have hr : zpt x ts keys = true:=List.all_eq_true.2 fun y hy => hok.2 y (hp.mem_iff.2 hy);refine zlu ?_;refine zlF ?_;refine zfK ?_;refine zlz ?_;rw [hr] at hk;exact endV hH hk
theorem ztT {l r id ck : Nat} {x : Ring} {ts : List (List Int × Nat)} (hl : H[l]? = some (.cells [.mp id] 118)) (hr : H[r]? = some (.cells [.rp (x.l ++ zlL x)] 100)) (hid : H[id]? = some (setObj ts ck)) (hb : ∀ y ∈ ts,y.2 < ck) (hnd : (ts.map (·.2)).Nodup) (hl4 : x.locks.length <= 4) (h4 : ∀ y ∈ ts,y.1.length = 4 /\ ∀ w ∈ y.1,0 <= w /\ w <= 2) : SoC lv H (.fn (.func 120) [] [.op l 0,.op r 0]) (zpt x ts) (fun xs => (∀ q ∈ xs,0 <= q /\ q < 4) /\ xs.length <= 6):=fun L xs e k kp hp h =>
 zl4 (f120_c (zay hl) (zay hr) (zay hid) hb hnd hl4 h4 hp.1 (Nat.lt_of_le_of_lt hp.2 (by decide)) h)
theorem f42_c {x : Ring} (hnr : zmw lv) (hmain : H[0]? = some .main) (hs : x.Small) (h1 : zlM x none ≠ 0 -> k (.tup [.sl 0 [] .exact,iv (zlM x none)]) H) (h2 : zlM x none = 0 -> zpH x = none -> k (.tup [.sl 0 [] .exact,iv 11]) H) (h3 : zlM x none = 0 -> ∀ xs,zpH x = some xs -> k (.tup [aInts xs,iv 0]) H) : FnC lv Tryz.prog 42 H [x.av] k kp:=by
 have hmn : ∀ L : List AObj,(H ++ L)[0]? = some .main:=fun L => zay hmain;refine zlA (rs:=[.tmp 2,.tmp 3]) (nt:=33) Tryz.f42 fun hH hA => ?_;simp only [zlV,Nat.reduceAdd,Ring.av];refine zl5 ?_;simp only [seval,Ring.l];refine zfK ?_;refine zl6 ((f99_c hnr (hmn _) hs zbA (fun hz => ?_) (fun hz => ?_)))
 ·(try simp only [seval]);refine zfK ?_;refine zlu ?_;refine ⟨fun h => ?_,fun h => absurd (by simpa using h) hz⟩;refine zfK ?_;refine zlz ?_;exact endA hH (Wk.refl _) (by simp [zap,zaD,zbh]) (h1 hz)
 ·(try simp only [seval]);refine zfK ?_;obtain ⟨ho,hne⟩:=zaP.1 hz;have hx:=zbp ho;have hx4:=hx.keys;have hx5:=hx.locks;have hle:=zbl hx [];have hlk : x.l ++ zlL x = iv x.cuts :: zmq x.keys :: zmb x.locks :: zmg x.tries :: zlL x:=rfl;refine zlu ?_;refine zly ?_;refine zl5 ?_;simp only [seval,List.mapM_cons,List.mapM_nil,Option.pure_def,Option.bind_eq_bind,hlk,zmq];refine zl6 ((f115_c (by omega) ?_));(try simp only [seval]);refine zl6 ((f113_c (P:=fun xs => (∀ q ∈ xs,0 <= q /\ q < 4) /\ xs.length <= 6) (by omega) (ztT (l:=H.length + 4) (r:=H.length + 3) (id:=H.length + 2) (by simp only [seval] <;> rfl) (by simp only [seval] <;> rfl) (by simp only [seval] <;> rfl) (zbm x []) (zba x []) hx5 (zbt hx [])) (keysP hx4) ?_));(try simp only [seval]);rw [show zm5 x.keys.length (zpt x (zlD x [])) = zpH x from rfl];refine zfK ?_;refine zlu ?_;cases hm : zpH x with
  | none =>
   refine ⟨fun h => ?_,fun h => by simp at h⟩;refine zfK ?_;refine zlz ?_;exact endA hH (Wk.refl _) (by simp [zap,zaD,zbh]) (h2 hz hm)
  | some xs =>
   refine ⟨fun h => by simp at h,fun h => ?_⟩;refine zly ?_;refine zfK ?_;refine zlz ?_;exact endA hH (Wk.refl _) (by simp [zap,zaD,zbi]) (h3 hz xs hm)
def zp7 (x : Ring) (ts : List (List Int × Nat)) (keys : List Int) (a b : Nat) : Bool:=ts.all fun y => !znC x y.1 keys a b
def zmE (x : Ring) (ts : List (List Int × Nat)) (keys : List Int) : Nat -> List Int × Nat
 | 0 => ([],0)
 | b + 1 => match (List.range b).find? fun a => zp7 x ts keys a b with
  | some a => ((zmE x ts keys b).1 ++ [(zmE x ts keys b).1.getD a 0],(zmE x ts keys b).2)
  | none => ((zmE x ts keys b).1 ++ [((zmE x ts keys b).2 : Int)],(zmE x ts keys b).2 + 1)
def zpp (x : Ring) : List Int:=(zmE x (zlD x []) (zm8 x.keys.length) x.locks.length).1
theorem zeV (x : Ring) (ts : List (List Int × Nat)) (keys : List Int) : ∀ b,(zmE x ts keys b).1.length = b
 | 0 => rfl
 | b + 1 => by
  unfold zmE;split <;> simp [zeV x ts keys b]
theorem zfi (x : Ring) (ts : List (List Int × Nat)) (keys : List Int) : ∀ b,(zmE x ts keys b).2 <= b
 | 0 => Nat.le_refl _
 | b + 1 => by
  have:=zfi x ts keys b;unfold zmE;split <;> simp <;> omega
theorem zjl {f : Nat -> Bool} {a b : Nat} (hab : a < b) (hf : f a = true) (h : ∀ a' < a,f a' = false) : (List.range b).find? f = some a :=
 zfN (j:=a) (by simp [hab]) hf fun y hy => by
  have : List.take a (List.range b) = List.range a:=by rw [List.take_range,Nat.min_eq_left (by omega)]
  rw [this] at hy;exact h y (List.mem_range.1 hy)
theorem zeF {f : Nat -> Bool} {b : Nat} (h : ∀ a' < b,f a' = false) : (List.range b).find? f = none:=zdt fun y hy => h y (List.mem_range.1 hy)
theorem f40_c {x : Ring} (hnr : zmw lv) (hmain : H[0]? = some .main) (hs : x.Small) (h1 : zlM x none ≠ 0 -> k (.tup [.sl 0 [] .exact,iv (zlM x none)]) H) (h2 : zlM x none = 0 -> k (.tup [aInts (zpp x),iv 0]) H) : FnC lv Tryz.prog 40 H [x.av] k kp:=by
 have hmn : ∀ L : List AObj,(H ++ L)[0]? = some .main:=fun L => zay hmain;refine zlA (rs:=[.tmp 2,.tmp 3]) (nt:=70) Tryz.f40 fun hH hA => ?_;simp only [zlV,Nat.reduceAdd,Ring.av];refine zl5 ?_;simp only [seval,Ring.l];(repeat apply zaa);refine zcb ?_;refine zfK ?_;refine zl6 ((f99_c hnr (hmn _) hs zbA (fun hz => ?_) (fun hz => ?_)))
 ·(try simp only [seval]);refine zfK ?_;refine zlu ?_;refine ⟨fun h => ?_,fun h => absurd (by simpa using h) hz⟩;refine zfK ?_;refine zlz ?_;exact endA hH (Wk.refl _) (by simp [zap,zaD,zbh]) (h1 hz)
 ·(try simp only [seval]);refine zfK ?_;obtain ⟨ho,hne⟩:=zaP.1 hz;have hx:=zbp ho;have hx4:=hx.keys;have hx5:=hx.locks;have hle:=zbl hx [];have hlk : x.l ++ zlL x = iv x.cuts :: zmq x.keys :: zmb x.locks :: zmg x.tries :: zlL x:=rfl;have hkeys : ∀ q ∈ zm8 x.keys.length,0 <= q /\ q < 4:=fun q hq => by
   obtain ⟨m,hm,rfl⟩:=List.mem_map.1 hq;have:=List.mem_range.1 hm;omega
  refine zlu ?_;refine zly ?_;refine zl5 ?_;simp only [seval,hlk,zmq];refine zl6 ((f115_c (by omega) ?_));(try simp only [seval]);refine zfK ?_
  (repeat apply zaa); refine zbV (t:=8) (sz:=1) (el:=3) (by simp only [seval] <;> rfl) ?_
  refine zfK ?_;(repeat apply zaa);refine zbQ ?_;simp only [seval];refine zl5 ?_;simp only [seval,zmb];refine zlC ?_;let ts:=zlD x [];let keys:=zm8 x.keys.length;let al:=zmE x ts keys;have hal : ∀ b,(al b).1.length = b:=zeV x ts keys;have hb:=zbm x [];have hnd:=zba x [];have h4:=zbt hx [];have hall:=zcO (zlD x []) (zlJ x).length hb;refine zaB x.locks.length (fun b : Nat => [(8,.sl b ((al b).1.map iv) (.opn (H.length + 3))),(9,iv (al b).2),(35,iv b)]) (fun b => H ++ [.cells x.l 26,.cells x.l 26,setObj (zlD x []) (zlJ x).length,.tail b 1 3]) (fun _ => True) (fun _ _ => rfl) (by simp only [seval]; simp [zaf,Wk.refl]; first | exact Wk.refl _ | exact ⟨Wk.refl _,Wk.refl _⟩) rfl (fun _ _ _ => by simp) trivial (fun hHs hLt b hbn hbo R hR => ?_);refine zfK ?_;refine zlu ?_;refine ⟨fun h => ?_,fun h => ?_⟩
  ·
   have hbl : b < x.locks.length:=(by omega);have hb1 : IntKind.i64.wrap ((b : Int) + 1) = ((b + 1 : Nat) : Int):=(by rw [zau _ (by omega)]; rfl);have hml : (al b).2 <= b:=zfi x ts keys b;have hm1 : IntKind.i64.wrap (((al b).2 : Int) + 1) = (((al b).2 + 1 : Nat) : Int):=(by rw [zau _ (by omega)]; rfl);refine zly ?_;refine zfK ?_;(repeat apply zaa);refine zcb ?_;(repeat apply zaa);refine zbQ ?_;simp only [seval];refine zfK ?_;refine zlC ?_;refine zmv b (fun a : Nat => [(39,iv a)]) (fun _ => H ++ [.cells x.l 26,.cells x.l 26,setObj (zlD x []) (zlJ x).length,.tail b 1 3]) (fun a => ∀ a' < a,zp7 x ts keys a' b = false) (fun a ha => by omega) (fun hHs2 hLt2 a han hao R2 hR2 => ?_);refine zfK ?_;refine zlu ?_;refine ⟨fun h2 => ?_,fun h2 => ?_⟩
   ·
    have hab : a < b:=(by omega);have ha1 : IntKind.i64.wrap ((a : Int) + 1) = ((a + 1 : Nat) : Int):=(by rw [zau _ (by omega)]; rfl);have hokB : HOk (H ++ [AObj.cells x.l 26,.cells x.l 26,setObj (zlD x []) (zlJ x).length,.tail b 1 3]):=hHs2;have hokT : ∀ m,HOk (H ++ [AObj.cells x.l 26,.cells x.l 26,setObj (zlD x []) (zlJ x).length,.tail m 1 3]):=fun m => by
     have h1:=zec (H:=H ++ [AObj.cells x.l 26,.cells x.l 26,setObj (zlD x []) (zlJ x).length]) (L:=[]) (o:=.tail b 1 3) (o':=.tail m 1 3) (by simpa using hokB) (fun _ => trivial);simpa using h1
    have hokI : ∀ sn,HOk (H ++ [AObj.cells x.l 26,.cells x.l 26,setObj (zlD x []) (zlJ x).length,.tail b 1 3,.iter (H.length + 1 + 1) (zlJ x).length sn (zlJ x).length]):=fun sn => by
     have h1 : (H ++ [AObj.cells x.l 26,.cells x.l 26,setObj (zlD x []) (zlJ x).length,.tail b 1 3,.iter (H.length + 1 + 1) (zlJ x).length sn (zlJ x).length]) = (H ++ [AObj.cells x.l 26,.cells x.l 26,setObj (zlD x []) (zlJ x).length,.tail b 1 3]) ++ [.iter (H.length + 1 + 1) (zlJ x).length sn (zlJ x).length]:=(by simp);rw [h1];intro z hz;rcases List.mem_append.1 hz with h | h
     ·exact (hokB z h).mono (by simp)
     ·rw [List.mem_singleton.1 h]; show H.length + 1 + 1 < _; simp
    refine zly ?_;refine zfK ?_;refine zl5 ?_;simp only [seval,zaL];refine zlC ?_;refine za9 (measure fun vs : List (List Int × Nat) => (zlD x []).length - vs.length).wf (fun vs => []) (fun vs => H ++ [.cells x.l 26,.cells x.l 26,setObj (zlD x []) (zlJ x).length,.tail b 1 3,.iter (H.length + 1 + 1) (zlJ x).length (vs.map (·.2)).toArray (zlJ x).length]) (fun vs => ((vs.map (·.2)).Nodup /\ ∀ y ∈ vs,y ∈ zlD x []) /\ ∀ y ∈ vs,znC x y.1 keys a b = false) [] (fun _ _ => rfl) (by simp) (by simp [zaL]) (fun _ _ => by simp) ⟨⟨by simp,by simp⟩,by simp⟩ (fun hHs3 hLt3 vs hok R3 hR3 => ?_);refine zl5 ?_;simp only [seval,zaL];refine ⟨hall.elim .inl (fun h => .inr (.inl h)),fun e he hn => ?_,fun hs => ?_⟩
    ·obtain ⟨y,hy,rfl⟩ : ∃ y ∈ zlD x [],zlH y = e:=(by simpa using he);have hyn : y.2 ∉ vs.map (·.2):=(by simpa [zlH] using hn);have hok':=zdk hok.1 hy hyn;have hrel:=zdl hok';refine zlu ?_;refine zly ?_;refine zlC ?_;obtain ⟨h41,h42⟩:=h4 y hy;have hborn : (zlH y).born = y.2:=rfl;have hlen : (y.1.map iv).length = 4:=(by simp [h41]);have hdrop : List.drop 4 [AV.val (Value.int IntKind.i64 0),AV.val (Value.int IntKind.i64 0),AV.val (Value.int IntKind.i64 0),AV.val (Value.int IntKind.i64 0)] = []:=rfl;have htk : List.take 4 (y.1.map iv) = y.1.map iv:=List.take_of_length_le (by omega);refine zl5 ?_;simp only [seval,zaL,Array.back?_push,hborn,zcL hnd hy,zb7,h41,hlen,hdrop];refine zl5 ?_;simp only [seval,hlen,htk];refine zl6 ((f117_c (x:=x) (t:=y.1) (keys:=zm8 x.keys.length) (e:=.shut) (a:=a) (b:=b) (by omega) h41 h42 hkeys (by rw [zca]; omega) ?_));(try simp only [seval]);refine zlu ?_;refine ⟨fun h3 => ?_,fun h3 => ?_⟩
     ·
      refine zlF ?_;refine zl5 ?_;simp only [seval,ha1];have hf : zp7 x ts keys a b = false:=by
       apply Bool.eq_false_iff.2;intro hc;have h5:=List.all_eq_true.1 hc y hy;have h6 : znC x y.1 keys a b = true:=h3;rw [h6] at h5; simp at h5
      refine hR2 _ ⟨hab,fun a' ha' => ?_,?_⟩
      ·by_cases e3 : a' = a
       ·subst e3; exact hf
       ·exact hao a' (by omega)
      ·exact zat (zam rfl rfl) (by simp only [seval]; simp [zaf,Wk.refl]) hokB (by simp [zap])
     ·
      refine zly ?_;rw [zdm];refine hR3 _ ⟨vs ++ [y],hrel,⟨hok',fun z hz => ?_⟩,?_⟩
      ·rcases List.mem_append.1 hz with h | h
       ·exact hok.2 z h
       ·rw [List.mem_singleton.1 h]; exact h3
      ·exact zat (zam rfl rfl) (by simp) (hokI _) (by simp)
    ·have hp : vs.Perm (zlD x []):=zct hok.1.1 hnd hok.1.2 fun y hy => by
      have:=hs (zlH y) (by simp; exact ⟨y.1,y.2,hy,rfl⟩) (hb y hy);simpa [zlH] using this
     have hf : zp7 x ts keys a b = true:=List.all_eq_true.2 fun y hy => by
      rw [hok.2 y (hp.mem_iff.2 hy)]; rfl
     have hfd:=zjl hab hf hao;have hsucc : al (b + 1) = ((al b).1 ++ [(al b).1.getD a 0],(al b).2):=by
      show zmE x ts keys (b + 1) = _;rw [zmE,hfd]
     obtain ⟨v,hv⟩:=zaE (xs:=(al b).1) (i:=a) (by rw [hal]; exact hab);have hgv:=u8z (al b).1 a hv;refine zlu ?_;refine zlF ?_;refine zl5 ?_;simp only [seval,za2 hv,zaz hab,z1,zqT,hal];refine ⟨by omega,?_⟩;refine zlF ?_;refine zl5 ?_;simp only [seval,hb1];refine hR _ ⟨hbl,trivial,?_⟩;rw [hsucc,hgv,List.map_append];exact zat (zam rfl rfl) (by simp only [seval]; simp [zaf,Wk.refl]) (hokT (b + 1)) (by simp [zap,zdq]; rintro a (⟨w,_,rfl⟩ | rfl) <;> exact .val _)
   ·
    have hax : a = b:=(by omega);subst hax;refine zlF ?_;refine zl5 ?_;simp only [seval,z1,zqT,hal];refine ⟨by omega,?_⟩;refine zl5 ?_;simp only [seval,hm1];refine zl5 ?_;simp only [seval,hb1];have hfd:=zeF hao;have hsucc : al (a + 1) = ((al a).1 ++ [((al a).2 : Int)],(al a).2 + 1):=by
     show zmE x ts keys (a + 1) = _;rw [zmE,hfd]
    refine hR _ ⟨hbl,trivial,?_⟩;rw [hsucc,List.map_append];exact zlK
  ·
   have hbx : b = x.locks.length:=(by omega);subst hbx;refine zlF ?_;refine zfK ?_;refine zlz ?_;have ea : aInts (zpp x) = .sl x.locks.length ((al x.locks.length).1.map iv) .shut:=by
    unfold aInts;rw [show (zpp x).length = x.locks.length from hal _]; rfl
   rw [ea] at h2;exact endA hH (zdC (zaK _ _ _) (Wk.refl _)) (by simp [zap,zaD,za3]) (h2 hz)
def zmV (x : Ring) (us : List Turn) : Option Int:=if us.length <= 6 then (if us.all fun u => inM u.key 0 (x.keys.length - 1) then none else some 0) else some 3
theorem zf3 {x : Ring} {us : List Turn} : zmV x us = none <-> us.length <= 6 /\ ∀ u ∈ us,0 <= u.key /\ u.key <= x.keys.length - 1:=by
 unfold zmV;split
 ·split
  ·rename_i h1 h2;simp only [true_iff];refine ⟨h1,fun u hu => zbU.1 (List.all_eq_true.1 h2 u hu)⟩
  ·rename_i h1 h2;simp only [reduceCtorEq,false_iff];intro h;exact h2 (List.all_eq_true.2 fun u hu => zbU.2 (h.2 u hu))
 ·rename_i h1;simp only [reduceCtorEq,false_iff];intro h; exact h1 h.1
theorem f121_c {r i : Nat} {x : Ring} {us : List Turn} (hx : x.Small) (hul : us.length < 2 ^ 30) (hr : H[r]? = some (.cells [zmI us] 50)) (hi : H[i]? = some (.cells x.l 26)) (hk : zmV x us = none -> k (.tup []) H) (hp : ∀ f,zmV x us = some f -> kp (.ifc 106 (iv f)) H) : FnC lv Tryz.prog 121 H [.op r 0,.op i 0] k kp:=by
 refine zlA (rs:=[]) (nt:=20) Tryz.f121 fun hH hA => ?_;simp only [zlV,Nat.reduceAdd];have hi2:=hi;rw [Ring.l] at hi2;refine zl5 ?_;simp only [seval,hr,zmI];refine zl6 ((f90_c (fun h => ?_) (fun h => ?_)))
 ·have h5 : (us.length : Int) <= 6:=by simpa using h
  have h6 : us.length <= 6:=by omega
  (try simp only [seval]);refine zl5 ?_;simp only [seval,hr,zmI];refine zlC ?_;refine zmv us.length (fun i : Nat => [(10,iv i)]) (fun _ => H) (fun i => (us.take i).all (fun u => inM u.key 0 (x.keys.length - 1)) = true) (by simp) (fun hHs hLt j hjn hj R hR => ?_);refine zfK ?_;refine zlu ?_;refine ⟨fun h2 => ?_,fun h2 => ?_⟩
  ·have hjl : j < us.length:=(by omega);obtain ⟨u,hu⟩:=zaE hjl;have hj1 : IntKind.i64.wrap ((j : Int) + 1) = ((j + 1 : Nat) : Int):=(by rw [zau _ (by omega)]; rfl);have htk : (us.take (j + 1)).all (fun u => inM u.key 0 (x.keys.length - 1)) = ((us.take j).all (fun u => inM u.key 0 (x.keys.length - 1)) && inM u.key 0 (x.keys.length - 1)):=by
    obtain ⟨hj',rfl⟩:=List.getElem?_eq_some_iff.1 hu;rw [List.take_succ_eq_append_getElem hj',List.all_append]; simp
   refine zly ?_;refine zl5 ?_;simp only [seval,zh5 hu,zaz hjl];refine zl5 ?_;simp only [seval,zay hi2];refine zl6 ((f89_c (x:=x) ?_));(try simp only [seval]);refine zl6 ((f152_c hx (by simp only [seval] <;> rfl) (by simp only [seval] <;> rfl) (fun hin => ?_) (fun hin => ?_)))
   ·(try simp only [seval]);refine zl5 ?_;simp only [seval,hj1];refine hR _ ⟨hjl,by rw [htk,hj,hin]; rfl,?_⟩;exact (zmG hHs)
   ·(try simp only [seval]);have hw : zmV x us = some 0:=by
     unfold zmV;rw [if_pos h6,if_neg];intro hc;have:=List.all_eq_true.1 hc u (zas hu);rw [hin] at this; cases this
    exact zaJ (Wk.refl _) rfl (Nat.le_refl _) hH (by simp [zap,zey]) (hp 0 hw)
  ·have hjx : j = us.length:=(by omega);subst hjx;rw [List.take_length] at hj;refine zlF ?_;have hw : zmV x us = none:=by
    unfold zmV;rw [if_pos h6,if_pos hj]
   exact zao (hk hw)
 ·have h5 : ¬ (us.length : Int) <= 6:=by simpa using h
  have h6 : ¬ us.length <= 6:=by omega
  exact zao (hp 3 (by unfold zmV; rw [if_neg h6]))
theorem zlg {r i : Nat} {x : Ring} {us : List Turn} (hx : x.Small) (hul : us.length < 2 ^ 30) (hr : H[r]? = some (.cells [zmI us] 50)) (hi : H[i]? = some (.cells x.l 26)) : AskC lv H (.fn (.func 121) [] [.op r 0,.op i 0]) (zmV x us):=fun L k kp h1 h2 =>
 zl4 (f121_c hx hul (zay hr) (zay hi) h1 h2)
def zoY (x : Ring) (t : List Int) (n : Nat) (u : Turn) : Bool:=(zmD x t u.key.toNat).testBit n == u.opens
def bagB (x : Ring) (ts : List (List Int × Nat)) (us : List Turn) (n : Nat) : Bool:=ts.any fun y => us.all (zoY x y.1 n)
def zmF (x : Ring) (us : List Turn) (n : Nat) : List Int:=((List.range n).filter (bagB x (zlD x []) us)).map fun i : Nat => (i : Int)
def ztn (x : Ring) (us : List Turn) : List Int:=zmF x us x.locks.length
theorem ziB (x : Ring) (us : List Turn) (n : Nat) : (zmF x us n).length <= n:=by
 unfold zmF;rw [List.length_map];have:=List.length_filter_le (bagB x (zlD x []) us) (List.range n);simpa using this
theorem zdS (x : Ring) (us : List Turn) (n : Nat) : zmF x us (n + 1) = zmF x us n ++ (if bagB x (zlD x []) us n then [(n : Int)] else []):=by
 unfold zmF;rw [List.range_succ,List.filter_append,List.map_append];congr 1;by_cases h : bagB x (zlD x []) us n = true <;> simp [h]
theorem f46_c {x : Ring} {us : List Turn} (hnr : zmw lv) (hmain : H[0]? = some .main) (hs : x.Small) (hul : us.length < 2 ^ 30) (h1 : zlM x (zmV x us) ≠ 0 -> k (.tup [.sl 0 [] .exact,iv (zlM x (zmV x us))]) H) (h2 : zlM x (zmV x us) = 0 -> k (.tup [aInts (ztn x us),iv 0]) H) : FnC lv Tryz.prog 46 H [x.av,zmI us] k kp:=by
 have hmn : ∀ L : List AObj,(H ++ L)[0]? = some .main:=fun L => zay hmain;refine zlA (rs:=[.tmp 4,.tmp 5]) (nt:=81) Tryz.f46 fun hH hA => ?_;simp only [zlV,Nat.reduceAdd,Ring.av];refine zl5 ?_;simp only [seval,Ring.l,zmI];(repeat apply zaa);refine zcb ?_;refine zl5 ?_;simp only [seval,List.mapM_cons,List.mapM_nil,Option.pure_def,Option.bind_eq_bind];have hask : AskC lv (H ++ [.cells x.l 26,.cells [zmI us] 50]) _ (zmV x us):=zlg (r:=H.length + 1) (i:=H.length) hs hul (by simp only [seval]) (by simp only [seval]);refine zl6 ((f99_c hnr (hmn _) hs hask (fun hz => ?_) (fun hz => ?_)))
 ·(try simp only [seval]);refine zfK ?_;refine zlu ?_;refine ⟨fun h => ?_,fun h => absurd (by simpa using h) hz⟩;refine zfK ?_;refine zlz ?_;exact endA hH (Wk.refl _) (by simp [zap,zaD,zbh]) (h1 hz)
 ·(try simp only [seval]);refine zfK ?_;obtain ⟨ho,hne⟩:=zaP.1 hz;have hx:=zbp ho;have hx4:=hx.keys;have hx5:=hx.locks;have hle:=zbl hx [];have hlk : x.l ++ zlL x = iv x.cuts :: zmq x.keys :: zmb x.locks :: zmg x.tries :: zlL x:=rfl;obtain ⟨hu6,hus⟩:=zf3.1 (zaN.1 ho).2;refine zlu ?_;refine zly ?_;refine zfK ?_
  (repeat apply zaa); refine zbV (t:=9) (sz:=1) (el:=3) (by simp only [seval] <;> rfl) ?_
  (repeat apply zaa);refine zbQ ?_;simp only [seval];refine zl5 ?_;simp only [seval,hlk,zmb];refine zlC ?_;have hb:=zbm x [];have hnd:=zba x [];have h4:=zbt hx [];have hall:=zcO (zlD x []) (zlJ x).length hb;have hg3 : ∀ L : List AObj,(H ++ L)[H.length + 2 + 1]? = L[3]?:=fun L => zbD H L 3;refine zaB x.locks.length (fun n : Nat => [(9,.sl (zmF x us n).length ((zmF x us n).map iv) (.opn (H.length + 4))),(31,iv n)]) (fun n => H ++ [AObj.cells x.l 26,.cells [zmI us] 50,.cells x.l 26,setObj (zlD x []) (zlJ x).length,.tail (zmF x us n).length 1 3]) (fun _ => True) (fun _ _ => rfl) (by simp only [seval]; simp [zaf,Wk.refl]; first | exact Wk.refl _ | exact ⟨Wk.refl _,Wk.refl _⟩) rfl (fun _ _ _ => by simp) trivial (fun hHs hLt n hnn hno R hR => ?_);refine zfK ?_;refine zlu ?_;refine ⟨fun h => ?_,fun h => ?_⟩
  ·
   have hnl : n < x.locks.length:=(by omega);have hn1 : IntKind.i64.wrap ((n : Int) + 1) = ((n + 1 : Nat) : Int):=(by rw [zau _ (by omega)]; rfl);have hwl:=ziB x us n;have hokB0 : HOk (H ++ [AObj.cells x.l 26,.cells [zmI us] 50,.cells x.l 26,setObj (zlD x []) (zlJ x).length,.tail 0 1 3]):=hHs;have hokB : ∀ m,HOk (H ++ [AObj.cells x.l 26,.cells [zmI us] 50,.cells x.l 26,setObj (zlD x []) (zlJ x).length,.tail m 1 3]):=fun m => by
    have h1:=zec (H:=H ++ [AObj.cells x.l 26,.cells [zmI us] 50,.cells x.l 26,setObj (zlD x []) (zlJ x).length]) (L:=[]) (o:=.tail 0 1 3) (o':=.tail m 1 3) (by simpa using hokB0) (fun _ => trivial);simpa using h1
   have hokI : ∀ m sn,HOk (H ++ [AObj.cells x.l 26,.cells [zmI us] 50,.cells x.l 26,setObj (zlD x []) (zlJ x).length,.tail m 1 3,.iter (H.length + 2 + 1) (zlJ x).length sn (zlJ x).length]):=fun m sn => by
    have h1 : (H ++ [AObj.cells x.l 26,.cells [zmI us] 50,.cells x.l 26,setObj (zlD x []) (zlJ x).length,.tail m 1 3,.iter (H.length + 2 + 1) (zlJ x).length sn (zlJ x).length]) = (H ++ [AObj.cells x.l 26,.cells [zmI us] 50,.cells x.l 26,setObj (zlD x []) (zlJ x).length,.tail m 1 3]) ++ [.iter (H.length + 2 + 1) (zlJ x).length sn (zlJ x).length]:=(by simp);rw [h1];intro z hz;rcases List.mem_append.1 hz with h | h
    ·exact (hokB m z h).mono (by simp)
    ·rw [List.mem_singleton.1 h]; show H.length + 2 + 1 < _; simp
   have hokC : ∀ m sn (t : List Int),HOk (H ++ [AObj.cells x.l 26,.cells [zmI us] 50,.cells x.l 26,setObj (zlD x []) (zlJ x).length,.tail m 1 3,.iter (H.length + 2 + 1) (zlJ x).length sn (zlJ x).length,.cells (t.map iv) 132]):=fun m sn t => by
    have h1 : (H ++ [AObj.cells x.l 26,.cells [zmI us] 50,.cells x.l 26,setObj (zlD x []) (zlJ x).length,.tail m 1 3,.iter (H.length + 2 + 1) (zlJ x).length sn (zlJ x).length,.cells (t.map iv) 132]) = (H ++ [AObj.cells x.l 26,.cells [zmI us] 50,.cells x.l 26,setObj (zlD x []) (zlJ x).length,.tail m 1 3,.iter (H.length + 2 + 1) (zlJ x).length sn (zlJ x).length]) ++ [.cells (t.map iv) 132]:=(by simp);rw [h1];refine zc6 (hokI m sn) fun z hz n => ?_;rw [List.mem_singleton.1 hz];intro a ha;obtain ⟨w,_,rfl⟩:=List.mem_map.1 ha;exact .val _
   refine zly ?_;refine zfK ?_;(repeat apply zaa);refine zcb ?_;(repeat apply zaa);refine zbQ ?_;simp only [seval];refine zl5 ?_;simp only [seval,zaL,hg3];refine zlC ?_;refine za9 (measure fun vs : List (List Int × Nat) => (zlD x []).length - vs.length).wf (fun vs => []) (fun vs => H ++ [AObj.cells x.l 26,.cells [zmI us] 50,.cells x.l 26,setObj (zlD x []) (zlJ x).length,.tail (zmF x us n).length 1 3,.iter (H.length + 2 + 1) (zlJ x).length (vs.map (·.2)).toArray (zlJ x).length]) (fun vs => ((vs.map (·.2)).Nodup /\ ∀ y ∈ vs,y ∈ zlD x []) /\ ∀ y ∈ vs,us.all (zoY x y.1 n) = false) [] (fun _ _ => rfl) (by simp) (by simp [zaL,zmI]) (fun _ _ => by simp) ⟨⟨by simp,by simp⟩,by simp⟩ (fun hHs3 hLt3 vs hok R3 hR3 => ?_);refine zl5 ?_;simp only [seval,zaL,hg3];refine ⟨hall.elim .inl (fun h => .inr (.inl h)),fun e he hn => ?_,fun hs => ?_⟩
   ·obtain ⟨y,hy,rfl⟩ : ∃ y ∈ zlD x [],zlH y = e:=(by simpa using he);have hyn : y.2 ∉ vs.map (·.2):=(by simpa [zlH] using hn);have hok':=zdk hok.1 hy hyn;have hrel:=zdl hok';refine zlu ?_;refine zly ?_;refine zlC ?_;obtain ⟨h41,h42⟩:=h4 y hy;have hborn : (zlH y).born = y.2:=rfl;have hlen : (y.1.map iv).length = 4:=(by simp [h41]);have hdrop : List.drop 4 [AV.val (Value.int IntKind.i64 0),AV.val (Value.int IntKind.i64 0),AV.val (Value.int IntKind.i64 0),AV.val (Value.int IntKind.i64 0)] = []:=rfl;refine zl5 ?_;simp only [seval,zaL,hg3,Array.back?_push,hborn,zcL hnd hy,zb7,h41,hlen,hdrop];refine zl5 ?_;simp only [seval,zmI];refine zlC ?_;rw [zdm];refine zmv us.length (fun j : Nat => [(42,iv j)]) (fun _ => H ++ [AObj.cells x.l 26,.cells [zmI us] 50,.cells x.l 26,setObj (zlD x []) (zlJ x).length,.tail (zmF x us n).length 1 3,.iter (H.length + 2 + 1) (zlJ x).length ((vs ++ [y]).map (·.2)).toArray (zlJ x).length,.cells (y.1.map iv) 132]) (fun j => (us.take j).all (zoY x y.1 n) = true) (by simp) (fun hHs4 hLt4 j hjn hj R4 hR4 => ?_);refine zfK ?_;refine zlu ?_;refine ⟨fun h2 => ?_,fun h2 => ?_⟩
    ·
     have hjl : j < us.length:=(by omega);obtain ⟨u,hu⟩:=zaE hjl;obtain ⟨hk0,hk1⟩:=hus u (zas hu);obtain ⟨uk,uo⟩:=u;simp only at hk0 hk1;obtain ⟨kn,rfl⟩ : ∃ m : Nat,uk = m:=⟨uk.toNat,by omega⟩;have hkn : kn < 4:=(by omega);have hj1 : IntKind.i64.wrap ((j : Int) + 1) = ((j + 1 : Nat) : Int):=(by rw [zau _ (by omega)]; rfl);have htk : (us.take (j + 1)).all (zoY x y.1 n) = ((us.take j).all (zoY x y.1 n) && zoY x y.1 n ⟨kn,uo⟩):=by
      obtain ⟨hj',e5⟩:=List.getElem?_eq_some_iff.1 hu;rw [List.take_succ_eq_append_getElem hj',List.all_append,e5]; simp
     obtain ⟨w,hw⟩:=zaE (xs:=y.1) (i:=kn) (by omega);have hwb:=h42 w (zas hw);obtain ⟨wn,rfl⟩ : ∃ n : Nat,w = n:=⟨w.toNat,by omega⟩;have b4 : (0 <= (kn : Int) /\ (kn : Int) < 4) = True:=(by simp; omega);have b3 : (0 <= (wn : Int) /\ (wn : Int) < 3) = True:=(by simp; omega);have hm:=zdn (x:=x) (by omega) kn wn;have hfit : zoY x y.1 n ⟨kn,uo⟩ = ((zmd x kn wn).testBit n == uo):=by
      unfold zoY zmD;rw [Int.toNat_natCast,u8z y.1 kn hw]; rfl
     have hne0 : ((n : Int) != (n : Int)) = false:=(by simp);refine zly ?_;refine zl5 ?_;simp only [seval,zh5 hu,zaz hjl];refine zfK ?_;refine zl6 ((f122_c ?_));(try simp only [seval]);refine zl8 23 ?_;simp only [seval,b4,b3,zbf hw,zcH x hkn,zb0 x hkn (show wn < 3 by omega),zfz,List.mapM_cons,List.mapM_nil,Option.pure_def,Option.bind_eq_bind];refine zoh (iv n) (zl4 (f123_c ⟨rfl,rfl⟩)) ?_;(try simp only [seval,hne0,b4,b3,zbf hw,zcH x hkn,zb0 x hkn (show wn < 3 by omega),zfz,List.mapM_cons,List.mapM_nil,Option.pure_def,Option.bind_eq_bind]);refine qInv (bv ((zmd x kn wn).testBit n == uo)) (zii hm ⟨rfl,rfl⟩) ?_;(try simp only [seval]);refine zlu ?_;refine ⟨fun h3 => ?_,fun h3 => ?_⟩
     ·
      have hff : zoY x y.1 n ⟨kn,uo⟩ = false:=(by rw [hfit]; simpa using h3);have hf : us.all (zoY x y.1 n) = false:=by
       apply Bool.eq_false_iff.2;intro hc;have h5:=List.all_eq_true.1 hc _ (zas hu);rw [hff] at h5; cases h5
      refine zlF ?_;refine hR3 _ ⟨vs ++ [y],hrel,⟨hok',fun z hz => ?_⟩,?_⟩
      ·rcases List.mem_append.1 hz with h | h
       ·exact hok.2 z h
       ·rw [List.mem_singleton.1 h]; exact hf
      ·exact zat (zam rfl rfl) (by simp) (hokI _ _) (by simp)
     ·
      have hff : zoY x y.1 n ⟨kn,uo⟩ = true:=(by rw [hfit]; simpa using h3);refine zly ?_;refine zl5 ?_;simp only [seval,hj1];refine hR4 _ ⟨hjl,by rw [htk,hj,hff]; rfl,?_⟩;exact zat (zam rfl rfl) (by simp only [seval]; simp [zaf,Wk.refl]) (hokC _ _ _) (by simp [zap])
    ·
     have hjx : j = us.length:=(by omega);subst hjx;rw [List.take_length] at hj;have hbag : bagB x (zlD x []) us n = true:=List.any_eq_true.2 ⟨y,hy,hj⟩;have hsucc : zmF x us (n + 1) = zmF x us n ++ [(n : Int)]:=(by rw [zdS,if_pos hbag]);have hsl : (zmF x us n ++ [(n : Int)]).length = (zmF x us n).length + 1:=(by simp);refine zlF ?_;refine zl5 ?_;simp only [seval,z1,zqT];refine ⟨by omega,?_⟩;refine zlF ?_;refine zl5 ?_;simp only [seval,hn1];refine hR _ ⟨hnl,trivial,?_⟩;rw [hsucc,hsl,List.map_append];exact zat (zam rfl rfl) (by simp only [seval]; simp [zaf,Wk.refl]) (hokB _) (by simp [zap,zdq]; rintro a (⟨w,_,rfl⟩ | rfl) <;> exact .val _)
   ·have hp : vs.Perm (zlD x []):=zct hok.1.1 hnd hok.1.2 fun y hy => by
     have:=hs (zlH y) (by simp; exact ⟨y.1,y.2,hy,rfl⟩) (hb y hy);simpa [zlH] using this
    have hbag : bagB x (zlD x []) us n = false:=by
     apply Bool.eq_false_iff.2;intro hc;obtain ⟨y,hy,hf⟩:=List.any_eq_true.1 hc;rw [hok.2 y (hp.mem_iff.2 hy)] at hf; cases hf
    have hsucc : zmF x us (n + 1) = zmF x us n:=(by rw [zdS,hbag]; simp);refine zlu ?_;refine zlF ?_;refine zl5 ?_;simp only [seval,hn1];refine hR _ ⟨hnl,trivial,?_⟩;rw [hsucc];exact zat (zam rfl rfl) (by simp only [seval]; simp [zaf,Wk.refl]) (hokB _) (by simp [zap,zdq])
  ·
   have hnx : n = x.locks.length:=(by omega);subst hnx;refine zlF ?_;refine zfK ?_;refine zlz ?_;exact endA hH (zdC (zaK _ _ _) (Wk.refl _)) (by simp [zap,zaD,za3]) (h2 hz)
def digs (c j : Nat) : List Int:=(List.range 4).map fun p => if p < c then (((j / 4 ^ (c - 1 - p)) % 4 : Nat) : Int) else 0
def znJ (c j t : Nat) : List Int:=(List.range 4).map fun p => if c - t <= p then 0 else (digs c j).getD p 0
def zoJ (c j t : Nat) : Bool:=(List.range c).all fun p => p < c - t || (digs c j).getD p 0 == 3
theorem zdu (c j : Nat) : (digs c j).length = 4:=by simp [digs]
theorem zcC (c j t : Nat) : (znJ c j t).length = 4:=by simp [znJ]
theorem zjp : ∀ c,c < 5 -> ∀ j,j < 4 ^ c -> znJ c j 0 = digs c j /\ (zoJ c j c = true -> j + 1 = 4 ^ c) /\ (∀ w ∈ digs c j,0 <= w /\ w <= 3) /\ zoJ c j 0 = true:=by decide +kernel
theorem zuW : ∀ c,c < 5 -> ∀ j,j < 4 ^ c -> ∀ t,t < c -> (znJ c j t)[c - 1 - t]? = some ((digs c j).getD (c - 1 - t) 0) /\ (znJ c j t).set (c - 1 - t) 0 = znJ c j (t + 1):=by decide +kernel
theorem zuV : ∀ c,c < 5 -> ∀ j,j < 4 ^ c -> ∀ t,t < c -> zoJ c j t = true -> (digs c j).getD (c - 1 - t) 0 = 3 -> zoJ c j (t + 1) = true:=by decide +kernel
theorem zuU : ∀ c,c < 5 -> ∀ j,j < 4 ^ c -> ∀ t,t < c -> zoJ c j t = true -> (digs c j).getD (c - 1 - t) 0 = 3 \/ (znJ c j t).set (c - 1 - t) ((digs c j).getD (c - 1 - t) 0 + 1) = digs c (j + 1):=by decide +kernel
theorem zuT : ∀ c,c < 5 -> ∀ j,j < 4 ^ c -> ∀ t,t < c -> zoJ c j t = true -> (digs c j).getD (c - 1 - t) 0 = 3 \/ j + 1 < 4 ^ c:=by decide +kernel
theorem zkT (c : Nat) : digs c 0 = [0,0,0,0]:=by simp [digs,List.range_succ]
def znr (c : Nat) (f : List Int -> Bool) : Option (List Int):=(((List.range (4 ^ c)).map (digs c)).find? f).map fun d => d.take c
theorem zh2 {T T' : List (Nat × AV)} (h : ∀ p ∈ T',∃ b,look T p.1 = some b /\ Wk b p.2) {t : Nat} {a : AV} (e : look T' t = some a) : ∃ b,look T t = some b /\ Wk b a:=h _ (zbB e)
def DoC (lv : Bool) (H : List AObj) (so : AV) (f : List Int -> Bool) : Prop:=∀ (L : List AObj) (ds : List Int) (k kp : AV -> List AObj -> Prop),ds.length = 4 -> (∀ w ∈ ds,0 <= w /\ w <= 3) -> k (bv (f ds)) (H ++ L) -> CallC lv Tryz.prog so (H ++ L) [.agg (ds.map iv)] k kp
def zpk (H : List AObj) (x : Ring) (so : AV) (c j : Nat) : AS:=⟨[(0,.rp (x.l ++ zlL x)),(1,so),(6,.op H.length 0)],H ++ [.cells ((digs c j).map iv) 108]⟩
theorem f137_c {x : Ring} {so : AV} {f : List Int -> Bool} (hx : x.Ok) (hso : DoC lv H so f) (hk : k (.tup [aInts ((znr x.cuts.toNat f).getD []),bv (znr x.cuts.toNat f).isSome]) H) : FnC lv Tryz.prog 137 H [.rp (x.l ++ zlL x),so] k kp:=by
 refine zlA (rs:=[.tmp 4,.tmp 5]) (nt:=43) Tryz.f137 fun hH hA => ?_;simp only [zlV,Nat.reduceAdd];obtain ⟨hc1,hc4⟩:=hx.cuts;obtain ⟨c,hc⟩ : ∃ c : Nat,x.cuts = c:=⟨x.cuts.toNat,by omega⟩;have hcl : c < 5:=by omega
 have hp : 0 < 4 ^ c:=Nat.pow_pos (by decide);have hlk : x.l ++ zlL x = iv x.cuts :: zmq x.keys :: zmb x.locks :: zmg x.tries :: zlL x:=rfl;refine zfK ?_;(repeat apply zaa);refine zjB (fun m => zpk H x so c (4 ^ c - 1 - m)) (fun m => m < 4 ^ c /\ ∀ j < 4 ^ c - 1 - m,f (digs c j) = false) (l:=0) rfl (fun m hm => ?_) (fun hb => ⟨4 ^ c - 1,?_⟩)
 ·obtain ⟨hm,hbef⟩:=hm;generalize hj : 4 ^ c - 1 - m = j at hbef ⊢;have hjl : j < 4 ^ c:=by omega
  obtain ⟨hz0,hall3,hdb,ht0⟩:=zjp c hcl j hjl;have hdl : ((digs c j).map iv).length = 4:=by simp [zdu]
  have htk : List.take 4 ((digs c j).map iv) = (digs c j).map iv:=List.take_of_length_le (by omega);unfold zpk;refine zl5 ?_;simp only [seval,hdl,htk];refine zq6 (hso _ _ _ _ (zdu c j) hdb ?_);(try simp only [seval]);refine zlu ?_;refine ⟨fun h => ?_,fun h => ?_⟩
  ·
   have hcn : x.cuts.toNat = c:=(by omega);have hfi : znr x.cuts.toNat f = some ((digs c j).take c):=by
    rw [hcn];unfold znr;rw [zfN (j:=j) (x:=digs c j) (by simp [hjl]) h fun y hy => by
     rw [<- List.map_take,List.take_range,Nat.min_eq_left (by omega)] at hy;obtain ⟨j',hj',rfl⟩:=List.mem_map.1 hy;exact hbef j' (List.mem_range.1 hj')]
    rfl
   refine zl5 ?_;simp only [seval,hlk];refine ⟨by omega,by omega,?_⟩;refine zl6 ((f94_o (xs:=(digs c j).take c) (by simp only [seval] <;> rfl) (by rw [List.length_take,zdu]; omega) (by rw [List.map_take,hcn]; rfl) (by rw [List.length_take,zdu]; omega) ?_));(try simp only [seval]);refine zlz ?_;rw [hfi] at hk;exact endA hH (Wk.refl _) (by simp [zap,zaD,zbi]) hk
  ·
   have hw1 : IntKind.i64.wrap (x.cuts - 1) = (c : Int) - 1:=(by rw [zau _ (by omega),hc]);refine zly ?_;refine zl5 ?_;simp only [seval,hlk];refine zlC ?_;refine zaB c (fun t : Nat => [(7,iv ((c : Int) - 1 - (t : Int)))]) (fun t => H ++ [.cells ((znJ c j t).map iv) 108]) (fun t => zoJ c j t = true) (fun _ _ => rfl) (by simp only [seval]; simp [zaf,Wk.refl]; rw [hw1]; exact Wk.refl _) (by rw [hz0]) (fun _ _ _ => by simp) ht0 (fun hHs hLt t htn hto R hR => ?_);by_cases htc : t < c
   ·have hat : (c : Int) - 1 - (t : Int) = ((c - 1 - t : Nat) : Int):=(by omega);have hge : decide (((c - 1 - t : Nat) : Int) >= 0) = true:=(by simp);obtain ⟨hg,hset⟩:=zuW c hcl j hjl t htc;have b4 : (0 <= ((c - 1 - t : Nat) : Int) /\ ((c - 1 - t : Nat) : Int) < 4) = True:=(by simp; omega);rw [hat];refine zl5 ?_;simp only [seval,hge,decide_false,b4,zbf hg];refine zlu ?_;refine ⟨fun h2 => ?_,fun h2 => ?_⟩
    ·
     have h3 : (digs c j).getD (c - 1 - t) 0 = 3:=(by simpa using h2);have hl4 : ((znJ c j t).map iv).length = 4:=(by simp [zcC]);have hlt4 : c - 1 - t < (znJ c j t).length:=(by rw [zcC]; omega);have hoff : (c - 1 - t + 1 <= 4) = True:=(by simp; omega);have hw2 : IntKind.i64.wrap (((c - 1 - t : Nat) : Int) - 1) = (c : Int) - 1 - ((t + 1 : Nat) : Int):=(by rw [zau _ (by omega)]; omega);refine zly ?_;refine zl5 ?_;simp only [seval,b4,hl4,hoff,zfv hlt4,hset];refine ⟨by omega,?_⟩;refine zl5 ?_;simp only [seval,hw2];refine hR _ ⟨htc,zuV c hcl j hjl t htc hto h3,?_⟩;rw [<- hat];exact zlK
    ·have h3 : ¬ (digs c j).getD (c - 1 - t) 0 = 3:=(by simpa using h2);have h4:=(zuU c hcl j hjl t htc hto).resolve_left h3;have h5:=(zuT c hcl j hjl t htc hto).resolve_left h3;have hl4 : ((znJ c j t).map iv).length = 4:=(by simp [zcC]);have hlt4 : c - 1 - t < (znJ c j t).length:=(by rw [zcC]; omega);have hoff : (c - 1 - t + 1 <= 4) = True:=(by simp; omega);have hdg : 0 <= (digs c j).getD (c - 1 - t) 0 /\ (digs c j).getD (c - 1 - t) 0 <= 3:=by
      obtain ⟨w,hw⟩:=zaE (xs:=digs c j) (i:=c - 1 - t) (by rw [zdu]; omega);rw [u8z _ _ hw]; exact hdb w (zas hw)
     have hw3 : IntKind.i64.wrap ((digs c j).getD (c - 1 - t) 0 + 1) = (digs c j).getD (c - 1 - t) 0 + 1:=zau _ (by omega);refine zlF ?_;refine zl5 ?_;simp only [seval,hge,decide_false];refine zlu ?_;refine zl5 ?_;simp only [seval,b4,hl4,hoff,zbf hg,hw3,zfv hlt4,h4];refine zra ?_;simp only [seval];refine ⟨rfl,m - 1,by omega,⟨by omega,fun j' hj' => ?_⟩,?_⟩
     ·by_cases e : j' = j
      ·rw [e]; exact h
      ·exact hbef j' (by omega)
     ·have e : 4 ^ c - 1 - (m - 1) = j + 1:=(by omega);show AS.Sub _ (zpk H x so c (4 ^ c - 1 - (m - 1)));rw [e];exact ⟨fun t' a e' => zh2 (by unfold zpk; simp only [seval]; simp [zaf,Wk.refl]; exact Wk.refl _) e',rfl⟩
   ·have htx : t = c:=(by omega);subst htx;have hat : (t : Int) - 1 - (t : Int) = -1:=(by omega);have hge : decide ((-1 : Int) >= 0) = false:=(by decide);rw [hat];refine zl5 ?_;simp only [seval,hge,decide_false];refine zlu ?_;refine zlF ?_;refine zl5 ?_;simp only [seval,hge,decide_false];refine zlu ?_;refine zly ?_;refine zfK ?_;refine zlz ?_;have hje:=hall3 hto;have hcn : x.cuts.toNat = t:=(by omega);have hfi : znr x.cuts.toNat f = none:=by
     rw [hcn];unfold znr;rw [zdt fun y hy => by
      obtain ⟨j',hj',rfl⟩:=List.mem_map.1 hy;have:=List.mem_range.1 hj';by_cases e : j' = j
      ·rw [e]; exact h
      ·exact hbef j' (by omega)]
     rfl
    rw [hfi] at hk;have hk : k (.tup [.sl 0 [] .shut,bv false]) H:=hk;exact endA hH (zdC (zaK _ _ _) (Wk.refl _)) (by simp [zap,zaD,za3]) hk
 ·refine zfK ?_;refine zfK ?_;(repeat apply zaa);refine zbQ ?_;simp only [seval];refine ziu ?_ (hb (4 ^ c - 1) ⟨by omega,fun j hj => by omega⟩);have e : 4 ^ c - 1 - (4 ^ c - 1) = 0:=by omega
  show AS.Sub _ (zpk H x so c (4 ^ c - 1 - (4 ^ c - 1)));rw [e];refine ⟨fun t' a e' => zh2 (by unfold zpk; simp only [seval]; simp [zaf,Wk.refl]) e',?_⟩;show _ = H ++ [AObj.cells ((digs c 0).map iv) 108];rw [zkT]; rfl
def cutS (x : Ring) : List Int -> Nat -> Nat × Option Int
 | [],due => (due,none)
 | n :: l,due => if inM n 0 (x.locks.length - 1) then (if due.testBit n.toNat then (due,some 2) else cutS x l (due ||| 2 ^ n.toNat)) else (due,some 1)
theorem zkZ {x : Ring} {l : List Int} {i : Nat} {n : Int} (h : l[i]? = some n) : ∀ due,cutS x (l.drop i) due = cutS x (n :: l.drop (i + 1)) due:=fun due => by
 obtain ⟨hj,rfl⟩:=List.getElem?_eq_some_iff.1 h;rw [List.drop_eq_getElem_cons hj]
theorem f138_c {r d : Nat} {x : Ring} {ds : List Int} {due : Nat} (hx : x.Ok) (hds : ds.length = 4) (hdue : due < 256) (hr : H[r]? = some (.cells [.rp (x.l ++ zlL x)] 100)) (hd : H[d]? = some (.cells [uv due] 110)) (hk : k (bv (zl9 x.cuts ds x.locks x.locks.length == due)) H) : FnC lv Tryz.prog 138 H [.agg (ds.map iv),.op r 0,.op d 0] k kp:=by
 refine zlA (rs:=[.tmp 4]) (nt:=10) Tryz.f138 fun hH hA => ?_;simp only [zlV,Nat.reduceAdd];have hdl : (ds.map iv).length = 4:=by simp [hds]
 have htk : List.take 4 (ds.map iv) = ds.map iv:=List.take_of_length_le (by omega);have hc:=hx.cuts;have hl:=hx.locks;refine zfK ?_;refine zl8 5 ?_;simp only [seval,zay hr,zay hd,hdl,htk];refine zoh (uv (zl9 x.cuts ds x.locks x.locks.length)) (zl4 (f139_c hds (by omega) hl (fun l hl => by have:=(hx.lock l hl).1; omega) ⟨rfl,rfl⟩)) ?_;(try simp only [seval]);refine zlz ?_;exact endA hH (Wk.refl _) (by simp [zap]) (by rw [show (((zl9 x.cuts ds x.locks x.locks.length : Nat) : Int) == (due : Int)) = (zl9 x.cuts ds x.locks x.locks.length == due) from by rw [Bool.eq_iff_iff]; simp only [beq_iff_eq]; omega]; exact hk)
def dueF (l : List Int) : Nat:=l.foldl (fun due n => due ||| 2 ^ n.toNat) 0
theorem zkO {l : List Int} {i : Nat} {n : Int} (h : l[i]? = some n) : dueF (l.take (i + 1)) = dueF (l.take i) ||| 2 ^ n.toNat:=by
 obtain ⟨hj,rfl⟩:=List.getElem?_eq_some_iff.1 h;unfold dueF;rw [List.take_succ_eq_append_getElem hj,List.foldl_append]; rfl
theorem f134_c {a b d : Nat} {x : Ring} {l : List Int} (hx : x.Ok) (hll : l.length < 2 ^ 30) (hl : H[a]? = some (.cells [aInts l] 30)) (hr : H[b]? = some (.cells x.l 26)) (hd : H[d]? = some (.cells [uv 0] 110)) (had : a ≠ d) (hbd : b ≠ d) (hk : (cutS x l 0).2 = none -> k (.tup []) (H.set d (.cells [uv (cutS x l 0).1] 110))) (hp : ∀ f,(cutS x l 0).2 = some f -> kp (.ifc 106 (iv f)) (H.set d (.cells [uv (cutS x l 0).1] 110))) : FnC lv Tryz.prog 134 H [.op a 0,.op b 0,.op d 0] k kp:=by
 refine zlA (rs:=[]) (nt:=27) Tryz.f134 fun hH hA => ?_;simp only [zlV,Nat.reduceAdd];have hr2:=hr;rw [Ring.l] at hr2;have hx5:=hx.locks;have hw : IntKind.i64.wrap ((x.locks.length : Int) - 1) = x.locks.length - 1:=zau _ (by omega);have gx : ∀ z,(H.set d z)[b]? = some (.cells [iv x.cuts,zmq x.keys,zmb x.locks,zmg x.tries] 26):=fun z => by rw [List.getElem?_set_ne (Ne.symm hbd)]; exact hr2
 have gd : ∀ z,(H.set d z)[d]? = some z:=fun z => List.getElem?_set_self (get_lt hd);have gs : ∀ z z',(H.set d z).set d z' = H.set d z':=fun z z' => List.set_set ..;have hokb : ∀ m,HOk (H.set d (.cells [uv m] 110)):=fun m y hy => by
  rw [List.length_set];rcases List.mem_or_eq_of_mem_set hy with h | h
  ·exact hH y h
  ·rw [h]; intro a ha; simp at ha; subst ha; exact .val _
 refine zl5 ?_;simp only [seval,hl,aInts];refine zlC ?_;refine zaB l.length (fun i : Nat => [(7,iv i)]) (fun i => H.set d (.cells [uv (dueF (l.take i))] 110)) (fun i => cutS x l 0 = cutS x (l.drop i) (dueF (l.take i)) /\ dueF (l.take i) < 256) (fun _ _ => rfl) (by simp only [seval]; simp [zaf,Wk.refl]) (by exact zh7 hd) (fun _ _ _ => by simp) ⟨by simp [dueF],by simp [dueF]⟩ (fun hHs hLt i hin hi R hR => ?_);refine zfK ?_;refine zlu ?_;refine ⟨fun h => ?_,fun h => ?_⟩
 ·have hil : i < l.length:=by omega
  obtain ⟨n,hn⟩:=zaE hil;have hi1 : IntKind.i64.wrap ((i : Int) + 1) = ((i + 1 : Nat) : Int):=by rw [zau _ (by omega)]; rfl
  refine zly ?_;refine zl5 ?_;simp only [seval,za2 hn,zaz hil];refine zl5 ?_;simp only [seval,gx,zmb,hw];obtain ⟨hcut,hdl⟩:=hi;rw [zkZ hn] at hcut;refine zl6 ((f91_c ?_));(try simp only [seval]);refine zl6 ((f90_c (fun h2 => ?_) (fun h2 => ?_)))
  ·have h3 : inM n 0 (x.locks.length - 1) = true:=(by simpa [inM] using h2);obtain ⟨hn0,hn1⟩:=zbU.1 h3;obtain ⟨nn,rfl⟩ : ∃ m : Nat,n = m:=⟨n.toNat,by omega⟩;rw [cutS,if_pos h3,Int.toNat_natCast] at hcut;(try simp only [seval]);refine zl5 ?_;simp only [seval,gd];refine zl6 ((f135_c hdl ?_));(try simp only [seval]);refine zl6 ((f90_c (fun h4 => ?_) (fun h4 => ?_)))
   ·have h5 : (dueF (l.take i)).testBit nn = false:=(by simpa using h4);rw [h5] at hcut;simp only [Bool.false_eq_true,if_false] at hcut;(try simp only [seval]);refine zl5 ?_;simp only [seval,gd];refine zl6 ((f136_c hdl (by omega) ?_));(try simp only [seval,gd,gs]);refine zl5 ?_;simp only [seval,hi1];have hdt:=zkO hn;rw [Int.toNat_natCast] at hdt;refine hR _ ⟨hil,⟨by rw [hdt]; exact hcut,?_⟩,?_⟩
    ·rw [hdt]; exact Nat.or_lt_two_pow (n:=8) hdl (Nat.pow_lt_pow_right (by decide) (by omega))
    ·rw [hdt]; exact zlK
   ·have h5 : (dueF (l.take i)).testBit nn = true:=(by simpa using h4);rw [h5,if_pos rfl] at hcut;have hp:=hp 2 (by rw [hcut]);rw [hcut] at hp;exact zaJ (H':=H.set d (.cells [uv (dueF (l.take i))] 110)) (G:=[]) (Wk.refl _) (by simp) (by simp) (hokb _) (by simp [zap,zey]) hp
  ·have h3 : ¬ inM n 0 (x.locks.length - 1) = true:=(by simpa [inM] using h2);rw [cutS,if_neg h3] at hcut;have hp:=hp 1 (by rw [hcut]);rw [hcut] at hp;exact zaJ (H':=H.set d (.cells [uv (dueF (l.take i))] 110)) (G:=[]) (Wk.refl _) (by simp) (by simp) (hokb _) (by simp [zap,zey]) hp
 ·have hix : i = l.length:=by omega
  subst hix;obtain ⟨hcut,hdl⟩:=hi;rw [List.drop_length,cutS,List.take_length] at hcut;refine zlF ?_;rw [List.take_length];have hk:=hk (by rw [hcut]);rw [hcut] at hk;exact zaJ (H':=H.set d (.cells [uv (dueF l)] 110)) (G:=[]) (Wk.refl _) (by simp) (by simp) (hokb _) (by simp [zaD]) hk
theorem zk0 {x : Ring} (hl : x.locks.length <= 4) : ∀ (l : List Int) (due : Nat),due < 256 -> (cutS x l due).1 < 256
 | [],due,h => h
 | n :: l,due,h => by
  rw [cutS];split
  ·rename_i h2;have:=zbU.1 h2;split
   ·exact h
   ·exact zk0 hl l _ (Nat.or_lt_two_pow (n:=8) h (Nat.pow_lt_pow_right (by decide) (by omega)))
  ·exact h
def zoR (x : Ring) (l : List Int) : Option (List Int):=znr x.cuts.toNat fun ds => zl9 x.cuts ds x.locks x.locks.length == (cutS x l 0).1
theorem zu0 {a b d : Nat} {x : Ring} {l : List Int} (hx : x.Ok) (hll : l.length < 2 ^ 30) (hl : H[a]? = some (.cells [aInts l] 30)) (hr : H[b]? = some (.cells x.l 26)) (hd : H[d]? = some (.cells [uv 0] 110)) (had : a ≠ d) (hbd : b ≠ d) : AskT lv H (H.set d (.cells [uv (cutS x l 0).1] 110)) (.fn (.func 134) [] [.op a 0,.op b 0,.op d 0]) (cutS x l 0).2:=fun L k kp h1 h2 => by
 have e : (H ++ L).set d (.cells [uv (cutS x l 0).1] 110) = H.set d (.cells [uv (cutS x l 0).1] 110) ++ L:=List.set_append_left _ _ (get_lt hd);rw [<- e] at h1 h2;exact zl4 (f134_c hx hll (zay hl) (zay hr) (zay hd) had hbd h1 h2)
theorem so_cut {r d : Nat} {x : Ring} {due : Nat} (hx : x.Ok) (hdue : due < 256) (hr : H[r]? = some (.cells [.rp (x.l ++ zlL x)] 100)) (hd : H[d]? = some (.cells [uv due] 110)) : DoC lv H (.fn (.func 138) [] [.op r 0,.op d 0]) (fun ds => zl9 x.cuts ds x.locks x.locks.length == due):=fun L ds k kp h1 h2 h =>
 zl4 (f138_c hx h1 hdue (zay hr) (zay hd) h)
theorem f62_c {x : Ring} {l : List Int} (hnr : zmw lv) (hmain : H[0]? = some .main) (hs : x.Small) (hll : l.length < 2 ^ 30) (h1 : zmt x (cutS x l 0).2 ≠ 0 -> k (.tup [.sl 0 [] .exact,iv (zmt x (cutS x l 0).2)]) H) (h2 : zmt x (cutS x l 0).2 = 0 -> zoR x l = none -> k (.tup [.sl 0 [] .exact,iv 11]) H) (h3 : zmt x (cutS x l 0).2 = 0 -> ∀ xs,zoR x l = some xs -> k (.tup [aInts xs,iv 0]) H) : FnC lv Tryz.prog 62 H [x.av,aInts l] k kp:=by
 have hmn : ∀ L : List AObj,(H ++ L)[0]? = some .main:=fun L => zay hmain;refine zlA (rs:=[.tmp 4,.tmp 5]) (nt:=29) Tryz.f62 fun hH hA => ?_;simp only [zlV,Nat.reduceAdd,Ring.av];refine zl5 ?_;simp only [seval,Ring.l];refine zfK ?_;refine zl5 ?_;simp only [seval,List.mapM_cons,List.mapM_nil,Option.pure_def,Option.bind_eq_bind];have hask : zms x = 0 -> AskT lv (H ++ [.cells x.l 26,.cells [aInts l] 30,.cells [.val (.int .u8 0)] 110]) (H ++ [.cells x.l 26,.cells [aInts l] 30,.cells [uv (cutS x l 0).1] 110]) (.fn (.func 134) [] [.op (H.length + 1) 0,.op H.length 0,.op (H.length + 2) 0]) (cutS x l 0).2:=fun hc => by
  have h:=zu0 (lv:=lv) (H:=H ++ [.cells x.l 26,.cells [aInts l] 30,.cells [.val (.int .u8 0)] 110]) (a:=H.length + 1) (b:=H.length) (d:=H.length + 2) (zbH.1 hc) hll (by simp only [seval]) (by simp only [seval]) (by simp only [seval] <;> rfl) (by omega) (by omega);rwa [show (H ++ [AObj.cells x.l 26,.cells [aInts l] 30,.cells [.val (.int .u8 0)] 110]).set (H.length + 2) (.cells [uv (cutS x l 0).1] 110) = H ++ [.cells x.l 26,.cells [aInts l] 30,.cells [uv (cutS x l 0).1] 110] from zbR H _ 2 _] at h
 refine zl6 ((f87_t hnr (H':=H ++ [AObj.cells x.l 26,AObj.cells [aInts l] 30,AObj.cells [uv (cutS x l 0).1] 110]) (hmn _) (by simp) (fun h => zc6 hH ?_) hs hask (fun hc => ?_) (fun hc hz => ?_) (fun hz => ?_)))
 ·intro z hz n;simp only [List.mem_cons,List.not_mem_nil,or_false] at hz;rcases hz with rfl | rfl | rfl
  ·intro a ha;simp only [Ring.l,List.mem_cons,List.not_mem_nil,or_false] at ha;rcases ha with rfl | rfl | rfl | rfl
   ·exact .val _
   ·rw [zc5]; trivial
   ·rw [zci]; trivial
   ·rw [zch]; trivial
  ·intro a ha; simp at ha; subst ha; rw [zbi]; trivial
  ·intro a ha; simp at ha; subst ha; exact .val _
 ·(try simp only [seval]);refine zfK ?_;have hz : zmt x (cutS x l 0).2 ≠ 0:=fun e => hc (zaN.1 e).1;refine zlu ?_;refine ⟨fun h => ?_,fun h => absurd (by simpa using h) hz⟩;refine zfK ?_;refine zlz ?_;exact endA hH (Wk.refl _) (by simp [zap,zaD,zbh]) (h1 hz)
 ·(try simp only [seval]);refine zfK ?_;refine zlu ?_;refine ⟨fun h => ?_,fun h => absurd (by simpa using h) hz⟩;refine zfK ?_;refine zlz ?_;exact endA hH (Wk.refl _) (by simp [zap,zaD,zbh]) (h1 hz)
 ·(try simp only [seval]);refine zfK ?_;have hx:=zbp hz;refine zlu ?_;refine zly ?_;refine zl5 ?_;simp only [seval,List.mapM_cons,List.mapM_nil,Option.pure_def,Option.bind_eq_bind];refine zl6 ((f137_c hx (so_cut (r:=H.length + 3) (d:=H.length + 2) hx (zk0 hx.locks l 0 (by decide)) (by simp only [seval] <;> rfl) (by simp only [seval] <;> rfl)) ?_));(try simp only [seval]);rw [show znr x.cuts.toNat (fun ds => zl9 x.cuts ds x.locks x.locks.length == (cutS x l 0).1) = zoR x l from rfl];refine zfK ?_;refine zlu ?_;cases hm : zoR x l with
  | none =>
   refine ⟨fun h => ?_,fun h => by simp at h⟩;refine zfK ?_;refine zlz ?_;exact endA hH (Wk.refl _) (by simp [zap,zaD,zbh]) (h2 hz hm)
  | some xs =>
   refine ⟨fun h => by simp at h,fun h => ?_⟩;refine zly ?_;refine zfK ?_;refine zlz ?_;exact endA hH (Wk.refl _) (by simp [zap,zaD,zbi]) (h3 hz xs hm)
end
def exR (ts : List Try) : Ring:=⟨2,[⟨[3,1],⟨0,1⟩⟩,⟨[2,2],⟨0,0⟩⟩,⟨[1,3],⟨0,2⟩⟩],[[⟨2,3⟩,⟨0,1⟩],[⟨2,2⟩,⟨1,2⟩],[⟨0,1⟩,⟨2,3⟩]],ts⟩
def exLast : Try:=⟨2,2,true⟩
def exNever : Try:=⟨1,1,false⟩
def exOne : Ring:=⟨2,[⟨[2,2],⟨0,0⟩⟩],[[⟨2,3⟩,⟨0,1⟩],[⟨2,2⟩,⟨1,2⟩],[⟨0,1⟩,⟨2,3⟩]],[]⟩
theorem zbq {ts : List Try} (h : ts.length < 2 ^ 30) : (exR ts).Small:=⟨by show 3 < 2 ^ 30; decide,by show 3 < 2 ^ 30; decide,h,fun x hx => by simp only [exR,List.mem_cons,List.not_mem_nil,or_false] at hx; rcases hx with rfl | rfl | rfl <;> decide,fun x hx => by simp only [exR,List.mem_cons,List.not_mem_nil,or_false] at hx; rcases hx with rfl | rfl | rfl <;> decide⟩
theorem zhI : exOne.Small:=⟨by decide,by decide,by decide,by decide,by decide⟩
section
variable {H : List AObj} {k kp : AV -> List AObj -> Prop}
theorem zuO (hmain : H[0]? = some .main) (hk : k (.tup [aInts [0,1],iv 0]) H) : FnC true Tryz.prog 30 H [(exR []).av,iv 2,iv 2] k kp :=
 f30_c zaQ hmain (zbq (by decide)) (fun h => absurd (by decide +kernel) h) fun _ => by
  rw [show zqf (exR []) (2 : Int).toNat (2 : Int).toNat = [0,1] by decide +kernel]; exact hk
theorem zsA (hmain : H[0]? = some .main) (hk : k (.tup [iv 3,iv 0]) H) : FnC true Tryz.prog 32 H [(exR []).av,iv 2,iv 2] k kp :=
 f32_c zaQ hmain (zbq (by decide)) (fun h => absurd (by decide +kernel) h) fun _ => by
  rw [show znX (cntM (exR []) (2 : Int).toNat (2 : Int).toNat (zlD (exR []) [])) (zlD (exR []) []).length = 3 by decide +kernel]; exact hk
theorem zsC (hmain : H[0]? = some .main) (hk : k (.tup [iv 4,iv 0]) H) : FnC true Tryz.prog 53 H [(exR [exLast]).av] k kp :=
 f53_c zaQ hmain (zbq (by decide)) (fun h => absurd (by decide +kernel) h) fun _ => by
  rw [show (zlD (exR [exLast]) []).length = 4 by decide +kernel]; exact hk
theorem ex_ask (hmain : H[0]? = some .main) (hk : k (.tup [iv 2,iv 2,iv 4,iv 0]) H) : FnC true Tryz.prog 55 H [(exR []).av] k kp :=
 f55_c zaQ hmain (zbq (by decide)) (fun h => absurd (by decide +kernel) h) (fun _ h => absurd h (by decide +kernel)) fun _ a b c h => by
  rw [show askR (exR []) = some (2,2,4) by decide +kernel] at h; cases h; exact hk
theorem zsB (hmain : H[0]? = some .main) (hk : k (.tup [aInts [0,1,2],iv 0]) H) : FnC true Tryz.prog 38 H [(exR [exLast]).av] k kp :=
 f38_c zaQ hmain (zbq (by decide)) (fun h => absurd (by decide +kernel) h) (fun _ h => absurd h (by decide +kernel)) fun _ xs h => by
  rw [show zox (exR [exLast]) = some [0,1,2] by decide +kernel] at h; cases h; exact hk
theorem zsD (hmain : H[0]? = some .main) (hk : k (.tup [aInts [0,1,0],iv 0]) H) : FnC true Tryz.prog 40 H [exOne.av] k kp :=
 f40_c zaQ hmain zhI (fun h => absurd (by decide +kernel) h) fun _ => by
  rw [show zpp exOne = [0,1,0] by decide +kernel]; exact hk
theorem zsz (hmain : H[0]? = some .main) (hk : k (.tup [aInts [1,2],iv 0]) H) : FnC true Tryz.prog 46 H [(exR []).av,zmI [⟨0,false⟩]] k kp :=
 f46_c zaQ hmain (zbq (by decide)) (by decide) (fun h => absurd (by decide +kernel) h) fun _ => by
  rw [show ztn (exR []) [⟨0,false⟩] = [1,2] by decide +kernel]; exact hk
theorem ex_cut (hmain : H[0]? = some .main) (hk : k (.tup [aInts [2,1],iv 0]) H) : FnC true Tryz.prog 62 H [(exR []).av,aInts [0,1]] k kp :=
 f62_c zaQ hmain (zbq (by decide)) (by decide) (fun h => absurd (by decide +kernel) h) (fun _ h => absurd h (by decide +kernel)) fun _ xs h => by
  rw [show zoR (exR []) [0,1] = some [2,1] by decide +kernel] at h; cases h; exact hk
theorem zsy (hmain : H[0]? = some .main) (hk : k (.tup [aInts [0],iv 0]) H) : FnC true Tryz.prog 51 H [(exR [exNever]).av] k kp :=
 f51_c zaQ hmain (zbq (by decide)) (fun h => absurd (by decide +kernel) h) fun _ => by
  rw [show ztj (exR [exNever]) = [0] by decide +kernel]; exact hk
theorem zuP (hmain : H[0]? = some .main) (hk : k (.tup [aInts [0,1],iv 0]) H) : FnC true Tryz.prog 42 H [(exR []).av] k kp :=
 f42_c zaQ hmain (zbq (by decide)) (fun h => absurd (by decide +kernel) h) (fun _ h => absurd h (by decide +kernel)) fun _ xs h => by
  rw [show zpH (exR []) = some [0,1] by decide +kernel] at h; cases h; exact hk
end
structure TinS where
 nums : List Int
 g : Int
 s : Int
def tinO (τ : TinS) : AObj:=.cells [aInts τ.nums,.val (.int .i64 τ.g),.val (.int .u64 τ.s)] 98
def xorU (a b : Int) : Int:=IntKind.u64.wrap (BitVec.ofInt IntKind.u64.bits a ^^^ BitVec.ofInt IntKind.u64.bits b).toNat
def word0 (g : Int) : Int:=IntKind.u64.wrap (IntKind.u64.wrap (IntKind.u64.wrap g * 15074714826142052245) + 11400714819323198485)
def ztH (τ : TinS) : Int:=match τ.nums[τ.g.toNat]? with
 | some x => xorU (word0 τ.g) (IntKind.u64.wrap (IntKind.u64.wrap x * 12620523164723586485))
 | none => word0 τ.g
def mix1 (s w : Int) : Int:=IntKind.u64.wrap (IntKind.u64.wrap (s + w) * 13787848793156543929)
def mix2 (s : Int) : Int:=xorU s (s.fdiv (2 ^ min 31 IntKind.u64.bits))
def out1 (s : Int) : Int:=(xorU s (s.fdiv (2 ^ min 27 IntKind.u64.bits))).fdiv (2 ^ min 9 IntKind.u64.bits)
def tick (τ : TinS) : TinS:=⟨τ.nums,τ.g + 1,mix2 (mix1 τ.s (ztH τ))⟩
def outT (τ : TinS) : Int:=out1 (IntKind.u64.wrap ((tick τ).s * 10723151780598845931))
theorem zto (n : Int) (h0 : 0 <= n) (h : n < 2 ^ 64) : IntKind.u64.wrap n = n:=by
 have h1 : IntKind.u64.bits = 64:=rfl;have h2 : IntKind.u64.signed = false:=rfl;unfold IntKind.wrap;rw [h1,h2];simp;omega
theorem zjS (n : Int) : 0 <= IntKind.u64.wrap n /\ IntKind.u64.wrap n < 2 ^ 64:=by
 have h1 : IntKind.u64.bits = 64:=rfl;have h2 : IntKind.u64.signed = false:=rfl;unfold IntKind.wrap;rw [h1,h2];simp;omega
theorem ze9 (s : Int) : 0 <= out1 s /\ out1 s < 2 ^ 55:=by
 unfold out1 xorU;have h:=zjS (BitVec.ofInt IntKind.u64.bits s ^^^ BitVec.ofInt IntKind.u64.bits (s.fdiv (2 ^ min 27 IntKind.u64.bits))).toNat;have e : (2 : Int) ^ min 9 IntKind.u64.bits = 512:=by decide
 rw [e,Int.fdiv_eq_ediv_of_nonneg _ (show (0 : Int) <= 512 by decide)];omega
def zm9 (τ : TinS) (n : Int) : Int:=if n < 1 then 0 else (outT τ).tmod (n + 1)
theorem zaX (τ : TinS) (n : Int) : 0 <= zm9 τ n /\ (zm9 τ n <= n \/ zm9 τ n = 0):=by
 unfold zm9;split
 ·omega
 ·have h:=(ze9 (IntKind.u64.wrap ((tick τ).s * 10723151780598845931))).1;have h1:=Int.tmod_nonneg (n + 1) h;have h2:=Int.tmod_lt_of_pos (outT τ) (show 0 < n + 1 by omega);unfold outT at h2 ⊢;omega
def zmP (τ : TinS) (lo hi : Int) : Int:=lo + zm9 τ (hi - lo)
theorem za1 (τ : TinS) {lo hi : Int} (h : lo <= hi) : lo <= zmP τ lo hi /\ zmP τ lo hi <= hi:=by
 have:=zaX τ (hi - lo);unfold zmP;omega
def znF (τ : TinS) (n : Int) : Bool:=zm9 τ (n - 1) == 0
def znI (τ : TinS) (lo hi : Int) : Band:=⟨zmP τ lo hi,zmP (tick τ) (zmP τ lo hi) hi⟩
theorem zir (τ : TinS) {lo hi : Int} (h : lo <= hi) : lo <= (znI τ lo hi).min /\ (znI τ lo hi).min <= (znI τ lo hi).max /\ (znI τ lo hi).max <= hi:=by
 have h1:=za1 τ h;have h2:=za1 (tick τ) h1.2;exact ⟨h1.1,h2.1,h2.2⟩
structure TinAt (Gf : TinS -> List AObj) (t N : Nat) : Prop where
 len : ∀ τ,(Gf τ).length = N
 get : ∀ τ,(Gf τ)[t]? = some (tinO τ)
 set : ∀ τ τ',(Gf τ).set t (tinO τ') = Gf τ'
 ok : ∀ m τ τ',(∀ z ∈ Gf τ,OLt m z) -> ∀ z ∈ Gf τ',OLt m z
theorem TinAt.more {Gf : TinS -> List AObj} {t N : Nat} (h : TinAt Gf t N) (L : List AObj) : TinAt (fun τ => Gf τ ++ L) t (N + L.length) where
 len:=fun τ => by simp [h.len]
 get:=fun τ => zay (h.get τ)
 set:=fun τ τ' => by show (Gf τ ++ L).set t _ = _; rw [List.set_append_left _ _ (get_lt (h.get τ)),h.set]
 ok:=fun m τ τ' hk z hz => (List.mem_append.1 hz).elim (fun hz => h.ok m τ τ' (fun v hv => hk v (List.mem_append_left _ hv)) z hz) (fun hz => hk z (List.mem_append_right _ hz))
theorem TinAt.hok {Gf : TinS -> List AObj} {t N : Nat} (h : TinAt Gf t N) {τ : TinS} (hH : HOk (Gf τ)) (τ' : TinS) : HOk (Gf τ'):=fun z hz => by
 have:=h.ok N τ τ' (fun w hw => by have:=hH w hw; rwa [h.len] at this) z hz;rwa [h.len]
section
variable {Gf : TinS -> List AObj} {t N : Nat} (h : TinAt Gf t N)
include h
theorem TinAt.g0 (τ : TinS) (L : List AObj) : (Gf τ ++ L)[N]? = L[0]?:=by have:=zco (Gf τ) L 0; rwa [h.len] at this
theorem TinAt.g1 (τ : TinS) (L : List AObj) : (Gf τ ++ L)[N + 1]? = L[1]?:=by have:=zco (Gf τ) L 1; rwa [h.len] at this
theorem TinAt.g2 (τ : TinS) (L : List AObj) : (Gf τ ++ L)[N + 1 + 1]? = L[2]?:=by have:=zco (Gf τ) L 2; rwa [h.len] at this
theorem TinAt.g3 (τ : TinS) (L : List AObj) : (Gf τ ++ L)[N + 1 + 1 + 1]? = L[3]?:=by have:=zco (Gf τ) L 3; rwa [h.len] at this
theorem TinAt.h2 (τ : TinS) (L : List AObj) : (Gf τ ++ L)[N + 2]? = L[2]?:=h.g2 τ L
theorem TinAt.h3 (τ : TinS) (L : List AObj) : (Gf τ ++ L)[N + 3]? = L[3]?:=h.g3 τ L
theorem TinAt.s0 (τ : TinS) (L : List AObj) (x : AObj) : (Gf τ ++ L).set N x = Gf τ ++ L.set 0 x:=by have:=zbR (Gf τ) L 0 x; rwa [h.len] at this
theorem TinAt.s1 (τ : TinS) (L : List AObj) (x : AObj) : (Gf τ ++ L).set (N + 1) x = Gf τ ++ L.set 1 x:=by have:=zbR (Gf τ) L 1 x; rwa [h.len] at this
theorem TinAt.s2 (τ : TinS) (L : List AObj) (x : AObj) : (Gf τ ++ L).set (N + 1 + 1) x = Gf τ ++ L.set 2 x:=by have:=zbR (Gf τ) L 2 x; rwa [h.len] at this
theorem TinAt.s3 (τ : TinS) (L : List AObj) (x : AObj) : (Gf τ ++ L).set (N + 1 + 1 + 1) x = Gf τ ++ L.set 3 x:=by have:=zbR (Gf τ) L 3 x; rwa [h.len] at this
theorem TinAt.t2 (τ : TinS) (L : List AObj) (x : AObj) : (Gf τ ++ L).set (N + 2) x = Gf τ ++ L.set 2 x:=h.s2 τ L x
theorem TinAt.t3 (τ : TinS) (L : List AObj) (x : AObj) : (Gf τ ++ L).set (N + 3) x = Gf τ ++ L.set 3 x:=h.s3 τ L x
end
theorem TinAt.an {Gf : TinS -> List AObj} {t N : Nat} (h : TinAt Gf t N) : (type_of% h.len) /\ (type_of% h.g0) /\ (type_of% h.g1) /\ (type_of% h.g2) /\ (type_of% h.g3) /\ (type_of% h.h2) /\ (type_of% h.h3) /\ (type_of% h.s0) /\ (type_of% h.s1) /\ (type_of% h.s2) /\ (type_of% h.s3) /\ (type_of% h.t2) /\ (type_of% h.t3):=⟨h.len,h.g0,h.g1,h.g2,h.g3,h.h2,h.h3,h.s0,h.s1,h.s2,h.s3,h.t2,h.t3⟩
theorem zui (m : Nat) (τ : TinS) : OLt m (tinO τ):=by
 intro a ha;simp only [List.mem_cons,List.not_mem_nil,or_false] at ha;rcases ha with rfl | rfl | rfl
 ·rw [zbi]; trivial
 ·exact .val _
 ·exact .val _
theorem zjT (H : List AObj) : TinAt (fun τ => H ++ [tinO τ]) H.length (H.length + 1) where
 len:=fun τ => by simp
 get:=fun τ => by simp
 set:=fun τ τ' => by simp
 ok:=fun m τ τ' hk z hz => by
  rcases List.mem_append.1 hz with hz | hz
  ·exact hk z (List.mem_append_left _ hz)
  ·rw [List.mem_singleton.1 hz]; exact zui _ _
structure TinS.Ok (τ : TinS) (b : Int) : Prop where
 g0 : 0 <= τ.g
 g : τ.g <= b
 len : τ.nums.length <= 2 ^ 50
section
variable {lv : Bool} {H : List AObj} {k kp : AV -> List AObj -> Prop} {Gf : TinS -> List AObj} {t N : Nat} {τ : TinS} {b : Int}
theorem f26_c {nums : List Int} (hk : k (.op H.length 0) (H ++ [tinO ⟨nums,0,7640891576956012809⟩])) : FnC lv Tryz.prog 26 H [aInts nums] k kp:=by
 refine zlA (rs:=[.tmp 2]) (nt:=6) Tryz.f26 fun hH hA => ?_;simp only [zlV,Nat.reduceAdd];refine zfK ?_;refine zfK ?_;refine zlz ?_;exact zao hk
theorem TinS.Ok.tick (h : τ.Ok b) : (tick τ).Ok (b + 1):=⟨by have:=h.g0; show 0 <= τ.g + 1; omega,by have:=h.g; show τ.g + 1 <= b + 1; omega,h.len⟩
theorem TinS.Ok.mono {b' : Int} (h : τ.Ok b) (hb : b <= b') : τ.Ok b':=⟨h.g0,by have:=h.g; omega,h.len⟩
theorem f86_c (hT : TinAt Gf t N) (hτ : τ.Ok b) (hb : b < 2 ^ 60) (hk : k (.val (.int .u64 (outT τ))) (Gf (tick τ))) : FnC lv Tryz.prog 86 (Gf τ) [.op t 0] k kp:=by
 obtain ⟨nums,g,s⟩:=τ;obtain ⟨hg0,hgb,hln⟩:=hτ;simp only at hg0 hgb hln;refine zlA (rs:=[.tmp 2]) (nt:=76) Tryz.f86 fun hH hA => ?_;simp only [zlV,Nat.reduceAdd];have hg : ∀ τ,(Gf τ)[t]? = some (.cells [.sl τ.nums.length (τ.nums.map iv) .shut,.val (.int .i64 τ.g),.val (.int .u64 τ.s)] 98):=hT.get;have hs : ∀ τ (nums' : List Int) g' s',(Gf τ).set t (.cells [.sl nums'.length (nums'.map iv) .shut,.val (.int .i64 g'),.val (.int .u64 s')] 98) = Gf ⟨nums',g',s'⟩:=fun τ nums' g' s' => hT.set τ ⟨nums',g',s'⟩;obtain ⟨n,rfl⟩ : ∃ n : Nat,g = n:=⟨g.toNat,by omega⟩;have hw : IntKind.i64.wrap ((n : Int) + 1) = n + 1:=zau _ (by omega);refine zfK ?_;refine zl5 ?_;simp only [seval,hg];refine zl8 9 ?_;simp only [seval,hg];refine zlu ?_;refine ⟨fun h => ?_,fun h => ?_⟩
 ·have hnl : n < nums.length:=by simpa using h
  obtain ⟨x,hx⟩:=zaE hnl;refine zl8 13 ?_;simp only [seval,hg,za2 hx,zaz hnl,zdy];refine zl5 ?_;simp only [seval,hg,hw,hs];refine zl5 ?_;simp only [seval,hg,hs];refine zl8 11 ?_;simp only [seval,hg,hs,zdz,zdy];refine zl5 ?_;simp only [seval,hg];refine zl5 ?_;simp only [seval,zdz,zdy];refine zlz ?_;refine zao ?_;unfold outT tick ztH at hk;simp only [Int.toNat_natCast,hx] at hk;exact hk
 ·have hnl : ¬ n < nums.length:=by simpa using h
  have hx : nums[n]? = none:=by rw [List.getElem?_eq_none]; omega
  refine zly ?_;refine zl5 ?_;simp only [seval,hg,hw,hs];refine zl5 ?_;simp only [seval,hg,hs];refine zl8 11 ?_;simp only [seval,hg,hs,zdz,zdy];refine zl5 ?_;simp only [seval,hg];refine zl5 ?_;simp only [seval,zdz,zdy];refine zlz ?_;refine zao ?_;unfold outT tick ztH at hk;simp only [Int.toNat_natCast,hx] at hk;exact hk
theorem f29_c {n : Int} (hT : TinAt Gf t N) (hτ : τ.Ok b) (hb : b < 2 ^ 60) (hn : n < 2 ^ 60) (hk : k (iv (zm9 τ n)) (Gf (tick τ))) : FnC lv Tryz.prog 29 (Gf τ) [.op t 0,iv n] k kp:=by
 refine zlA (rs:=[.tmp 4]) (nt:=16) Tryz.f29 fun hH hA => ?_;simp only [zlV,Nat.reduceAdd];refine zfK ?_;refine zfK ?_;refine zl6 ((f86_c hT hτ hb ?_));(try simp only [seval]);refine zfK ?_;refine zlu ?_;refine ⟨fun h => ?_,fun h => ?_⟩
 ·have h : n < 1:=by simpa using h
  refine zfK ?_;refine zlz ?_;rw [zm9,if_pos h] at hk;exact zao hk
 ·have h : ¬ n < 1:=by simpa using h
  have ho:=ze9 (IntKind.u64.wrap ((tick τ).s * 10723151780598845931));have hw1 : IntKind.u64.wrap n = n:=zto n (by omega) (by omega);have hw2 : IntKind.u64.wrap (n + 1) = n + 1:=zto _ (by omega) (by omega);have hn0 : n + 1 ≠ 0:=by omega
  have hr:=zaX τ n;rw [zm9,if_neg h] at hk hr;have hw3 : IntKind.i64.wrap ((outT τ).tmod (n + 1)) = (outT τ).tmod (n + 1):=zau _ (by omega);refine zly ?_;refine zl5 ?_;simp only [seval,zs5,hw1,hw2,hw3,hn0];refine zlz ?_;exact zao hk
theorem f125_c {lo hi : Int} (hT : TinAt Gf t N) (hτ : τ.Ok b) (hb : b < 2 ^ 60) (hlo : 0 <= lo /\ lo < 2 ^ 20) (hhi : -1 <= hi /\ hi < 2 ^ 20) (hk : k (iv (zmP τ lo hi)) (Gf (tick τ))) : FnC lv Tryz.prog 125 (Gf τ) [.op t 0,iv lo,iv hi] k kp:=by
 refine zlA (rs:=[.tmp 6]) (nt:=14) Tryz.f125 fun hH hA => ?_;simp only [zlV,Nat.reduceAdd];have hw1 : IntKind.i64.wrap (hi - lo) = hi - lo:=zau _ (by omega);have hr:=zaX τ (hi - lo);have hw2 : IntKind.i64.wrap (lo + zm9 τ (hi - lo)) = lo + zm9 τ (hi - lo):=zau _ (by omega);refine zfK ?_;refine zl5 ?_;simp only [seval,hw1];refine zl6 ((f29_c hT hτ hb (by omega) ?_));(try simp only [seval,hw2]);refine zlz ?_;exact zao hk
theorem f44_c {n : Int} (hT : TinAt Gf t N) (hτ : τ.Ok b) (hb : b < 2 ^ 60) (hn : 0 <= n /\ n < 2 ^ 20) (hk : k (bv (znF τ n)) (Gf (tick τ))) : FnC lv Tryz.prog 44 (Gf τ) [.op t 0,iv n] k kp:=by
 refine zlA (rs:=[.tmp 4]) (nt:=10) Tryz.f44 fun hH hA => ?_;simp only [zlV,Nat.reduceAdd];have hw1 : IntKind.i64.wrap (n - 1) = n - 1:=zau _ (by omega);refine zfK ?_;refine zl5 ?_;simp only [seval,hw1];refine zl6 ((f29_c hT hτ hb (by omega) ?_));(try simp only [seval]);refine zlz ?_;exact zao hk
theorem f126_c {lo hi : Int} (hT : TinAt Gf t N) (hτ : τ.Ok b) (hb : b < 2 ^ 50) (hlo : 0 <= lo /\ lo <= hi) (hhi : hi < 2 ^ 20) (hk : k (znI τ lo hi).av (Gf (tick (tick τ)))) : FnC lv Tryz.prog 126 (Gf τ) [.op t 0,iv lo,iv hi] k kp:=by
 refine zlA (rs:=[.cell 6 63]) (nt:=18) Tryz.f126 fun hH hA => ?_;simp only [zlV,Nat.reduceAdd];have hr:=za1 τ hlo.2;refine zl5 ?_;simp only [seval,hT.an];refine zl5 ?_;simp only [seval,hT.an];refine zl6 ((f125_c (hT.more _) hτ (by omega) (by omega) (by omega) ?_));(try simp only [seval,hT.an]);refine zl5 ?_;simp only [seval,hT.an];refine zl6 ((f125_c (hT.more _) hτ.tick (by omega) (by omega) (by omega) ?_));(try simp only [seval,hT.an]);refine zns ?_;simp only [seval,hT.an];rw [<- hT.len (tick (tick τ))];exact endA (b:=(znI τ lo hi).av) (hT.hok hH _) (Wk.refl _) (by simp [zap,zfa,Band.av,Band.l,iv]) hk
end
theorem zfA {xs : List Int} {i : Nat} {x : Int} (f : Int -> AV) (h : xs[i]? = some x) : (xs.take (i + 1)).map f = (xs.take i).map f ++ [f x]:=by
 obtain ⟨hj,rfl⟩:=List.getElem?_eq_some_iff.1 h;rw [List.take_succ_eq_append_getElem hj,List.map_append]; rfl
theorem zgb {xs ys : List Int} {i : Nat} {x y : Int} (hx : xs[i]? = some x) (hy : ys[i]? = some y) (h : xs.take i = ys.take i) (e : x = y) : xs.take (i + 1) = ys.take (i + 1):=by
 obtain ⟨hj,rfl⟩:=List.getElem?_eq_some_iff.1 hx;obtain ⟨hk,rfl⟩:=List.getElem?_eq_some_iff.1 hy;rw [List.take_succ_eq_append_getElem hj,List.take_succ_eq_append_getElem hk,h,e]
section
variable {lv : Bool} {H : List AObj} {k kp : AV -> List AObj -> Prop}
theorem f34_c {xs ys : List Int} {e e' : End} (hx : xs.length < 2 ^ 60) (hk : k (bv (decide (xs = ys))) H) : FnC lv Tryz.prog 34 H [.sl xs.length (xs.map iv) e,.sl ys.length (ys.map iv) e'] k kp:=by
 refine zlA (rs:=[.tmp 4]) (nt:=26) Tryz.f34 fun hH hA => ?_;simp only [zlV,Nat.reduceAdd];refine zfK ?_;refine zfK ?_;refine zlu ?_;refine ⟨fun h => ?_,fun h => ?_⟩
 ·have h : xs ≠ ys:=fun e => by subst e; simp at h
  refine zfK ?_;refine zlz ?_;rw [decide_eq_false h] at hk;exact zao hk
 ·have h : xs.length = ys.length:=by
   have h : (xs.length : Int) = ys.length:=(by simpa using h);omega
  refine zly ?_;refine zfK ?_;refine zlC ?_;refine zmv xs.length (fun i : Nat => [(5,iv i)]) (fun _ => _) (fun i => xs.take i = ys.take i) (by simp) (fun hHs hLt i hin hi R hR => ?_);refine zfK ?_;refine zlu ?_;refine ⟨fun h2 => ?_,fun h2 => ?_⟩
  ·have hlt : i < xs.length:=(by omega);obtain ⟨x,hx1⟩:=zaE hlt;obtain ⟨y,hy1⟩:=zaE (xs:=ys) (i:=i) (by omega);refine zly ?_;refine zlC ?_;refine zl8 8 ?_;simp only [seval,za2 hx1,za2 hy1,zaz hlt,zaz (get_lt hy1)];refine zlu ?_;refine ⟨fun h3 => ?_,fun h3 => ?_⟩
   ·have h3 : xs ≠ ys:=fun e => (by subst e; rw [hx1] at hy1; cases hy1; simp at h3);refine zfK ?_;refine zlz ?_;rw [decide_eq_false h3] at hk;exact zao hk
   ·have h3 : x = y:=(by simpa using h3);refine zly ?_;refine zfK ?_;refine hR _ ⟨hlt,zgb hx1 hy1 hi h3,?_⟩;rw [zau _ (by omega)];exact zlK
  ·have hix : i = xs.length:=(by omega);refine zlF ?_;refine zfK ?_;refine zlz ?_;have h3 : xs = ys:=by
    rw [hix,List.take_length] at hi;rw [hi,h,List.take_length]
   rw [decide_eq_true h3] at hk;exact zao hk
theorem f78_c {xs : List Int} {n : Int} (hb : ∀ x ∈ xs,0 <= x /\ x <= 3) (hn : 0 <= n /\ n <= 3) (hl : xs.length <= 2 ^ 20) (hk : k (aInts (zlY n xs)) H) : FnC lv Tryz.prog 78 H [aInts xs,iv n] k kp:=by
 refine zlA (rs:=[.tmp 4]) (nt:=24) Tryz.f78 fun hH hA => ?_;simp only [zlV,Nat.reduceAdd,aInts];refine zfK ?_;refine zfK ?_
 (repeat apply zaa); refine zbV (t:=5) (sz:=1) (el:=3) (by simp only [seval] <;> rfl) ?_
 refine zfK ?_;refine zlC ?_;refine zaB xs.length (fun i : Nat => [(5,.sl i ((zlY n (xs.take i)).map iv) (.opn H.length)),(6,iv i)]) (fun i => H ++ [.tail i 1 3]) (fun i => True) (fun _ _ => rfl) (by simp only [seval]; simp [zaf,Wk.refl]; exact Wk.refl _) rfl (fun _ _ _ => by simp) trivial (fun hHs hLt i hin hi R hR => ?_);refine zfK ?_;refine zlu ?_;refine ⟨fun h => ?_,fun h => ?_⟩
 ·have hlt : i < xs.length:=by omega
  obtain ⟨x,hx⟩:=zaE hlt;have hxb:=hb x (zas hx);have hw : IntKind.i64.wrap (x - n) = x - n:=zau _ (by omega);have hw2 : IntKind.i64.wrap ((i : Int) + 1) = i + 1:=zau _ (by omega);have hmax : (if 0 < x - n then x - n else 0) = max 0 (x - n):=by omega
  have hwl : ((zlY n (xs.take i)).map iv).length = i:=by simp [zlY]; omega
  have hnext : (zlY n (xs.take (i + 1))).map iv = (zlY n (xs.take i)).map iv ++ [.val (.int .i64 (max 0 (x - n)))]:=by
   unfold zlY;rw [List.map_map,zfA _ hx,List.map_map]; rfl
  refine zly ?_;refine zl5 ?_;simp only [seval,z1,za2 hx,zaz hlt,hw,hmax,hwl]
  first | refine ⟨by omega,by omega,?_⟩ | refine ⟨by omega,?_⟩
  refine zl5 ?_;simp only [seval,hw2];refine hR _ ⟨hlt,trivial,?_⟩;rw [hnext];exact zlK
 ·have hix : i = xs.length:=by omega
  subst hix;refine zlF ?_;refine zfK ?_;refine zlz ?_;rw [List.take_length];have hwl : (zlY n xs).length = xs.length:=by simp [zlY]
  rw [aInts,hwl] at hk;exact endA hH (zaK _ _ _) (by simp [za3,zap]) hk
theorem f64_c {ds : List Int} {bs : List Band} (hlen : ds.length <= bs.length) (hsz : ds.length < 2 ^ 60) (hk : k (bv (zmM ds bs)) H) : FnC lv Tryz.prog 64 H [aInts ds,aBands bs] k kp:=by
 refine zlA (rs:=[.tmp 4]) (nt:=34) Tryz.f64 fun hH hA => ?_;simp only [zlV,Nat.reduceAdd,aInts,aBands];refine zfK ?_;refine zfK ?_;refine zlC ?_;refine zmv ds.length (fun i : Nat => [(5,iv i)]) (fun _ => _) (fun i => zmM ds bs = zmM (ds.drop i) (bs.drop i)) rfl (fun hHs hLt i hin hi R hR => ?_);refine zfK ?_;refine zlu ?_;refine ⟨fun h => ?_,fun h => ?_⟩
 ·have hlt : i < ds.length:=by omega
  obtain ⟨d,hd⟩:=zaE hlt;obtain ⟨b,hb⟩:=zaE (xs:=bs) (i:=i) (by omega);refine zly ?_;refine zlC ?_;refine zl8 20 ?_;simp only [seval,za2 hd,zdh hb,zaz hlt,zaz (get_lt hb)];refine zpj (fun h2 => ?_) (fun h2 => ?_)
  ·have h2 : b.min <= d:=(by simpa using h2);(try simp only [seval,za2 hd,zdh hb,zaz hlt,zaz (get_lt hb)]);refine zlu ?_;refine ⟨fun h3 => ?_,fun h3 => ?_⟩
   ·have h3 : ¬ d <= b.max:=(by simpa using h3);refine zfK ?_;refine zlz ?_;rw [hi,zcK hd hb,decide_eq_false h3,Bool.and_false,Bool.false_and] at hk;exact zao hk
   ·have h3 : d <= b.max:=(by simpa using h3);refine zly ?_;refine zfK ?_;refine hR _ ⟨hlt,?_,?_⟩
    ·rw [hi,zcK hd hb,decide_eq_true h2,decide_eq_true h3]; rfl
    ·rw [zau _ (by omega)];exact zlK
  ·have h2 : ¬ b.min <= d:=(by simpa using h2);(try simp only [seval,za2 hd,zdh hb,zaz hlt,zaz (get_lt hb)]);refine zlu ?_;refine zfK ?_;refine zlz ?_;rw [hi,zcK hd hb,decide_eq_false h2,Bool.false_and,Bool.false_and] at hk;exact zao hk
 ·have hix : i = ds.length:=by omega
  subst hix;refine zlF ?_;refine zfK ?_;refine zlz ?_;rw [hi,List.drop_length,zmM] at hk;exact zao hk
inductive Wks : List AV -> List AV -> Prop
 | nil : Wks [] []
 | cons {a b : AV} {l m : List AV} (h : Wk a b) (t : Wks l m) : Wks (a :: l) (b :: m)
theorem Wks.len {l m : List AV} (h : Wks l m) : l.length = m.length:=by
 induction h with
 | nil => rfl
 | cons _ _ ih => simp [ih]
theorem Wks.at {l m : List AV} (h : Wks l m) : ∀ (i : Nat) (a b : AV),m[i]? = some a -> l[i]? = some b -> Wk b a:=by
 induction h with
 | nil => intro i a b h; simp at h
 | cons h _ ih =>
  intro i a b h1 h2
  match i with
  | 0 => cases h1; cases h2; exact h
  | i + 1 => exact ih i a b h1 h2
theorem zhX {l l' : List AV} (h : Wks l l') : Wk (.agg l) (.agg l'):=fun E v hd => by
 cases hd with
 | agg hs h1 =>
  refine .agg (by rw [hs,h.len]) fun i x hx => ?_;obtain ⟨y,hy⟩:=zaE (xs:=l) (i:=i) (by rw [h.len]; exact get_lt hx);exact h.at i x y hx hy E _ (h1 i y hy)
theorem wk_sl {n : Nat} {l l' : List AV} {e : End} (h : Wks l l') : Wk (.sl n l e) (.sl n l' .shut):=zhW (zeg h.len h.at) (zaK _ _ _)
theorem zr2 : zmn (Value.int .i64 0) 2 = [iv 0,iv 0]:=rfl
theorem zr3 : zmn (Value.int .i64 0) 3 = [iv 0,iv 0,iv 0]:=rfl
theorem zk3 : zmn (.agg #[.slice none 0 0,.int .i64 0,.int .i64 0]) 3 = [.sl 0 [] .exact,iv 0,iv 0]:=rfl
theorem zk9 : zmn (.agg #[.slice none 0 0,.int .i64 0,.int .i64 0]) 9 = [.sl 0 [] .exact,iv 0,iv 0,.sl 0 [] .exact,iv 0,iv 0,.sl 0 [] .exact,iv 0,iv 0]:=rfl
theorem zb2 : zmn (.agg #[.int .i64 0,.int .i64 0]) 2 = [iv 0,iv 0]:=rfl
theorem zb4 : zmn (.agg #[.int .i64 0,.int .i64 0]) 4 = [iv 0,iv 0,iv 0,iv 0]:=rfl
theorem zs3 : zmn (Value.slice none 0 0) 3 = [.sl 0 [] .exact,.sl 0 [] .exact,.sl 0 [] .exact]:=rfl
theorem zt3 : zmn (.agg #[.int .i64 0,.int .i64 0,.bool false]) 3 = [iv 0,iv 0,bv false]:=rfl
theorem zu2 : zmn (.agg #[.int .i64 0,.bool false]) 2 = [iv 0,bv false]:=rfl
theorem zug : (4 <= 2 ^ 24) = True:=by simp
theorem p24_9 : (9 <= 2 ^ 24) = True:=by simp
theorem zhq : (1 <= 2 ^ 24) = True:=by simp
theorem zes : (2 <= 2 ^ 24) = True:=by simp
theorem zd5 : (3 <= 2 ^ 24) = True:=by simp
theorem zkE (x : List Int) : (aInts x).leaf = true:=rfl
theorem zfd (x : List Band) : (aBands x).leaf = true:=rfl
theorem zkC (x : List Key) : (zmq x).leaf = true:=rfl
theorem zjd (x : List (List Band)) : (zmb x).leaf = true:=rfl
theorem zjc (x : List Try) : (zmg x).leaf = true:=rfl
attribute [seval] zkE zfd zkC zjd zjc
theorem zfC (n : Nat) (x : Ring) : Lt n x.av = True:=by simp [Ring.av,Ring.l,zfa,zc5,zci,zch,zap,iv]
theorem f81_c {lo hi : Int} (hk : k (Band.mk lo hi).av H) : FnC lv Tryz.prog 81 H [iv lo,iv hi] k kp:=by
 refine zlA (rs:=[.cell 4 63]) (nt:=8) Tryz.f81 fun hH hA => ?_;simp only [zlV,Nat.reduceAdd];refine zfK ?_;refine zfK ?_;refine zlz ?_;exact endA (b:=(Band.mk lo hi).av) hH (Wk.refl _) (by simp [zap,zfa,Band.av,Band.l,iv]) hk
theorem f149_c {lo hi : Int} {xs : List Int} {e : End} (hk : k (Key.mk xs ⟨lo,hi⟩).av H) : FnC lv Tryz.prog 149 H [iv lo,iv hi,.sl xs.length (xs.map iv) e] k kp:=by
 refine zlA (rs:=[.cell 6 65]) (nt:=12) Tryz.f149 fun hH hA => ?_;simp only [zlV,Nat.reduceAdd];refine zfK ?_;refine zfK ?_;refine zl6 ((f81_c ?_));(try simp only [seval,Band.av,Band.l]);refine zlz ?_;exact endA (b:=(Key.mk xs ⟨lo,hi⟩).av) hH (zhX (.cons (zaK _ _ _) (.cons (Wk.refl _) (.cons (Wk.refl _) .nil)))) (by simp [zap,zfa,Key.av,Key.l,iv,zbi]) hk
theorem f80_c {ts : List Try} {e : End} (hts : ts.length < 2 ^ 30) (hk : k (exR ts).av H) : FnC lv Tryz.prog 80 H [.sl ts.length (ts.flatMap Try.l) e] k kp:=by
 refine zlA (rs:=[.cell 2 26]) (nt:=22) Tryz.f80 fun hH hA => ?_;simp only [zlV,Nat.reduceAdd];refine zfK ?_;refine zl5 ?_;simp only [seval,zr2,zes];refine zl6 ((f149_c (xs:=[3,1]) ?_));(try simp only [seval,Key.av,Key.l,zr2,zes]);refine zl6 ((f149_c (xs:=[2,2]) ?_));(try simp only [seval,Key.av,Key.l,zr2,zes]);refine zl6 ((f149_c (xs:=[1,3]) ?_));(try simp only [seval,Key.av,Key.l,zk9,p24_9]);refine zl6 ((f81_c ?_));(try simp only [seval,Band.av,Band.l]);refine zl6 ((f81_c ?_));(try simp only [seval,Band.av,Band.l,zb4,zug]);refine zl6 ((f81_c ?_));(try simp only [seval,Band.av,Band.l]);refine zl6 ((f81_c ?_));(try simp only [seval,Band.av,Band.l,zb4,zug]);refine zl6 ((f81_c ?_));(try simp only [seval,Band.av,Band.l]);refine zl6 ((f81_c ?_));(try simp only [seval,Band.av,Band.l,zb4,zs3,zug,zd5]);refine zlz ?_;exact endA (b:=(exR ts).av) hH (zhX (.cons (Wk.refl _) (.cons (zaK _ _ _) (.cons (wk_sl (.cons (zaK _ _ _) (.cons (zaK _ _ _) (.cons (zaK _ _ _) .nil)))) (.cons (zaK _ _ _) .nil))))) (by rw [zfC]; trivial) hk
theorem f82_c (hk : k exLast.av H) : FnC lv Tryz.prog 82 H [] k kp:=by
 refine zlA (rs:=[.cell 0 28]) (nt:=2) Tryz.f82 fun hH hA => ?_;simp only [zlV,Nat.reduceAdd];refine zfK ?_;refine zfK ?_;refine zlz ?_;exact endA (b:=exLast.av) hH (Wk.refl _) (by simp [zap,zfa,Try.av,Try.l,exLast,iv,bv]) hk
theorem f83_c (hk : k exNever.av H) : FnC lv Tryz.prog 83 H [] k kp:=by
 refine zlA (rs:=[.cell 0 28]) (nt:=2) Tryz.f83 fun hH hA => ?_;simp only [zlV,Nat.reduceAdd];refine zfK ?_;refine zfK ?_;refine zlz ?_;exact endA (b:=exNever.av) hH (Wk.refl _) (by simp [zap,zfa,Try.av,Try.l,exNever,iv,bv]) hk
theorem f34_same {xs : List Int} {e e' : End} (hx : xs.length < 2 ^ 60) (hk : k (bv true) H) : FnC lv Tryz.prog 34 H [.sl xs.length (xs.map iv) e,.sl xs.length (xs.map iv) e'] k kp :=
 f34_c hx (by rw [decide_eq_true rfl]; exact hk)
theorem f84_c (hk : k exOne.av H) : FnC lv Tryz.prog 84 H [] k kp:=by
 refine zlA (rs:=[.cell 0 26]) (nt:=8) Tryz.f84 fun hH hA => ?_;simp only [zlV,Nat.reduceAdd];refine zfK ?_;refine zfK ?_;refine zl6 ((f80_c (ts:=[]) (by decide) ?_));(try simp only [seval,Ring.av,Ring.l,exR]);refine zl5 ?_;simp only [seval,zmq,List.flatMap_cons,List.flatMap_nil,Key.l,Bool.false_and,ite_self];refine zfK ?_;refine zlz ?_;exact endA (b:=exOne.av) hH (Wk.refl _) (by rw [zfC]; trivial) hk
end
def zoF (sm : Bool) (p : List Band × TinS) (d : Int) : List Band × TinS :=
 if sm then (p.1 ++ [⟨zm9 (tick (tick p.2)) d,zmP (tick (tick (tick p.2))) d 3⟩],tick (tick (tick (tick p.2)))) else (p.1 ++ [znI p.2 0 3],tick (tick p.2))
def zmX (sm : Bool) (τ : TinS) (ds : List Int) (i : Nat) : List Band × TinS:=(ds.take i).foldl (zoF sm) ([],τ)
def zoz (sm : Bool) (τ : TinS) (ds : List Int) : List Band × TinS:=ds.foldl (zoF sm) ([],τ)
theorem zez {sm : Bool} {τ : TinS} {ds : List Int} {i : Nat} {d : Int} (h : ds[i]? = some d) : zmX sm τ ds (i + 1) = zoF sm (zmX sm τ ds i) d:=by
 obtain ⟨hj,rfl⟩:=List.getElem?_eq_some_iff.1 h;unfold zmX;rw [List.take_succ_eq_append_getElem hj,List.foldl_append]; rfl
theorem zcw {sm : Bool} {τ : TinS} {ds : List Int} {b : Int} (hτ : τ.Ok b) (hds : ∀ d ∈ ds,0 <= d /\ d <= 3) : ∀ i,i <= ds.length -> (zmX sm τ ds i).1.length = i /\ (zmX sm τ ds i).2.Ok (b + 4 * i) /\ ∀ y ∈ (zmX sm τ ds i).1,y.Ok 3
 | 0,_ => ⟨rfl,by have:=hτ.mono (b':=b + 4 * (0 : Nat)) (by omega); exact this,by simp [zmX]⟩
 | i + 1,h => by
  obtain ⟨d,hd⟩:=zaE (xs:=ds) (i:=i) (by omega);obtain ⟨h1,h2,h3⟩:=zcw (sm:=sm) hτ hds i (by omega);obtain ⟨hd0,hd3⟩:=hds d (zas hd);rw [zez hd];unfold zoF;cases sm with
  | true =>
   simp only [if_true];refine ⟨by simp [h1],h2.tick.tick.tick.tick.mono (by omega),fun y hy => ?_⟩;rcases List.mem_append.1 hy with hy | hy
   ·exact h3 y hy
   ·rw [List.mem_singleton.1 hy];have e1:=zaX (tick (tick (zmX true τ ds i).2)) d;have e2:=za1 (tick (tick (tick (zmX true τ ds i).2))) hd3;exact ⟨e1.1,e2.2,by show zm9 _ d <= zmP _ d 3; omega⟩
  | false =>
   simp only [Bool.false_eq_true,if_false];refine ⟨by simp [h1],h2.tick.tick.mono (by omega),fun y hy => ?_⟩;rcases List.mem_append.1 hy with hy | hy
   ·exact h3 y hy
   ·rw [List.mem_singleton.1 hy];have e:=zir (zmX false τ ds i).2 (show (0 : Int) <= 3 by decide);exact ⟨e.1,e.2.2,e.2.1⟩
theorem zld (bs : List Band) : (bs.flatMap Band.l).length = bs.length * 2:=by
 induction bs with
 | nil => rfl
 | cons b bs ih => rw [List.flatMap_cons,List.length_append,ih]; simp [Band.l]; omega
theorem zgH (bs : List Band) (b : Band) : (bs ++ [b]).flatMap Band.l = bs.flatMap Band.l ++ [iv b.min,iv b.max]:=by simp [Band.l]
theorem zkv (n m k : Nat) (bs : List Band) : Lt n (.sl m (bs.flatMap Band.l) (.opn k)) = (k < n):=by
 rw [zdq,eq_iff_iff];refine ⟨fun h => h.1,fun h => ⟨h,fun a ha => ?_⟩⟩;have:=zfD n bs;rw [aBands,za3] at this;exact this.mpr trivial a ha
section
variable {lv : Bool} {k kp : AV -> List AObj -> Prop} {Gf : TinS -> List AObj} {t N : Nat} {τ : TinS} {b : Int}
theorem f127_c {ds : List Int} {sm : Bool} (hT : TinAt Gf t N) (hτ : τ.Ok b) (hb : b < 2 ^ 40) (hds : ∀ d ∈ ds,0 <= d /\ d <= 3) (hl : ds.length <= 4) (hk : k (aBands (zoz sm τ ds).1) (Gf (zoz sm τ ds).2)) : FnC lv Tryz.prog 127 (Gf τ) [.op t 0,aInts ds,bv sm] k kp:=by
 refine zlA (rs:=[.tmp 6]) (nt:=37) Tryz.f127 fun hH hA => ?_;simp only [zlV,Nat.reduceAdd,aInts];have hokT : ∀ τ' n,HOk (Gf τ' ++ [.tail n 2 63]):=fun τ' n => zc6 (hT.hok hH τ') fun z hz m => by rw [List.mem_singleton.1 hz]; trivial
 refine zfK ?_;refine zfK ?_
 (repeat apply zaa); refine zbV (t:=7) (sz:=2) (el:=63) (by simp only [seval] <;> rfl) ?_
 refine zl5 ?_;simp only [seval,hT.an];refine zlC ?_;refine zaB ds.length (fun i : Nat => [(7,.sl i ((zmX sm τ ds i).1.flatMap Band.l) (.opn N)),(8,iv i)]) (fun i => Gf (zmX sm τ ds i).2 ++ [.tail i 2 63]) (fun i => True) (fun _ _ => rfl) (by simp only [seval]; simp [zaf,Wk.refl]; exact Wk.refl _) rfl (fun _ _ _ => by simp [hT.len]) trivial (fun hHs hLt i hin hi R hR => ?_);obtain ⟨hpl,hpo,hpb⟩:=zcw (sm:=sm) hτ hds i hin;refine zfK ?_;refine zlu ?_;refine ⟨fun h => ?_,fun h => ?_⟩
 ·have hlt : i < ds.length:=by omega
  obtain ⟨d,hd⟩:=zaE hlt;obtain ⟨hd0,hd3⟩:=hds d (zas hd);have hsucc:=zez (sm:=sm) (τ:=τ) hd;have hw2 : IntKind.i64.wrap ((i : Int) + 1) = i + 1:=zau _ (by omega);generalize zmX sm τ ds i = p at *;obtain ⟨bs,τ'⟩:=p;simp only at hpl hpo hpb;have hbl : (bs.flatMap Band.l).length = i * 2:=by rw [zld,hpl]
  refine zly ?_;refine zl5 ?_;simp only [seval,hT.an];refine zl6 ((f126_c (hT.more _) hpo (by omega) (by omega) (by omega) ?_));(try simp only [seval,Band.av,Band.l,hT.an]);refine zl5 ?_;simp only [seval,hT.an];refine zlu ?_;refine ⟨fun h2 => ?_,fun h2 => ?_⟩
  ·subst h2;refine zmC [5,11,13] [0,1,2,3,4,5,6,7,8,9,10,11,12,13] [⟨0,false,[],[]⟩,⟨1,false,[],[]⟩,⟨2,false,[],[]⟩,⟨3,false,[],[]⟩,⟨4,false,[],[]⟩,⟨5,true,[5],[]⟩,⟨6,false,[5],[([],[])]⟩,⟨7,false,[5],[([],[])]⟩,⟨8,false,[5],[([],[])]⟩,⟨9,false,[5],[([],[])]⟩,⟨10,false,[5],[([],[])]⟩,⟨11,true,[5,11],[]⟩,⟨12,false,[5,11],[]⟩,⟨13,true,[5,11,13],[]⟩] (fun D => bif zml 13 D then Gf (tick (tick (tick (tick τ')))) ++ [.tail i 2 63,.cells [iv (zm9 (tick (tick τ')) d),iv (zmP (tick (tick (tick τ'))) d 3)] 63] else bif zml 11 D then Gf (tick (tick (tick (tick τ')))) ++ [.tail i 2 63,.cells [iv (znI τ' 0 3).min,iv (znI τ' 0 3).max] 63] else bif zml 5 D then Gf (tick (tick (tick τ'))) ++ [.tail i 2 63,.cells [iv (znI τ' 0 3).min,iv (znI τ' 0 3).max] 63] else Gf (tick (tick τ')) ++ [.tail i 2 63,.cells [iv (znI τ' 0 3).min,iv (znI τ' 0 3).max] 63]) ?_;simp only [seval,za2 hd,zaz hlt,hT.an];refine zoD (iv (zm9 (tick (tick τ')) d)) (Gf (tick (tick (tick τ'))) ++ [.tail i 2 63,.cells [iv (znI τ' 0 3).min,iv (znI τ' 0 3).max] 63]) (zl4 (f29_c (hT.more _) hpo.tick.tick (by omega) (by omega) ⟨rfl,rfl⟩)) ?_;(try simp only [seval,za2 hd,zaz hlt,hT.an]);refine zoD (iv (zmP (tick (tick (tick τ'))) d 3)) (Gf (tick (tick (tick (tick τ')))) ++ [.tail i 2 63,.cells [iv (znI τ' 0 3).min,iv (znI τ' 0 3).max] 63]) (zl4 (f125_c (hT.more _) hpo.tick.tick.tick (by omega) (by omega) (by omega) ⟨rfl,rfl⟩)) ?_;(try simp only [seval,za2 hd,zaz hlt,hT.an]);have hlk : zmX true τ ds (i + 1) = (bs ++ [⟨zm9 (tick (tick τ')) d,zmP (tick (tick (tick τ'))) d 3⟩],tick (tick (tick (tick τ')))):=(by rw [hsucc]; rfl);refine zl5 ?_;simp only [seval,zb2,zes,hbl,hT.an];refine ⟨by omega,?_⟩;refine zl5 ?_;simp only [seval,hw2];refine hR _ ⟨hlt,trivial,?_⟩;rw [hlk];refine zat (zam rfl rfl) (by rw [zgH]; simp only [seval]; simp [zaf,Wk.refl]) (hokT _ _) (by simp only [List.forall_mem_cons,zap,zkv,iv]; simp [hT.len])
  ·have h2 : sm = false:=(by simpa using h2);subst h2;refine zly ?_;have hlk : zmX false τ ds (i + 1) = (bs ++ [znI τ' 0 3],tick (tick τ')):=(by rw [hsucc]; rfl);refine zl5 ?_;simp only [seval,zb2,zes,hbl,hT.an];refine ⟨by omega,?_⟩;refine zl5 ?_;simp only [seval,hw2];refine hR _ ⟨hlt,trivial,?_⟩;rw [hlk];refine zat (zam rfl rfl) (by rw [zgH]; simp only [seval]; simp [zaf,Wk.refl]) (hokT _ _) (by simp only [List.forall_mem_cons,zap,zkv,iv]; simp [hT.len])
 ·have hix : i = ds.length:=by omega
  subst hix;refine zlF ?_;refine zfK ?_;refine zlz ?_;have e : zmX sm τ ds ds.length = zoz sm τ ds:=by unfold zmX zoz; rw [List.take_length]
  rw [e] at hpl ⊢;rw [aBands,hpl] at hk;rw [<- hT.len (zoz sm τ ds).2];exact endA (hT.hok hH _) (zaK _ _ _) (by rw [<- hpl,<- aBands.eq_1,zfD]; trivial) hk
end
section
variable {Gf : TinS -> List AObj} {t N : Nat} (h : TinAt Gf t N)
include h
theorem TinAt.hi (i : Nat) (τ : TinS) (L : List AObj) : (Gf τ ++ L)[N + i]? = L[i]?:=by have:=zco (Gf τ) L i; rwa [h.len] at this
theorem TinAt.ti (i : Nat) (τ : TinS) (L : List AObj) (x : AObj) : (Gf τ ++ L).set (N + i) x = Gf τ ++ L.set i x:=by have:=zbR (Gf τ) L i x; rwa [h.len] at this
theorem TinAt.h4 : type_of% (h.hi 4):=h.hi 4
theorem TinAt.h5 : type_of% (h.hi 5):=h.hi 5
theorem TinAt.h6 : type_of% (h.hi 6):=h.hi 6
theorem TinAt.h7 : type_of% (h.hi 7):=h.hi 7
theorem TinAt.h8 : type_of% (h.hi 8):=h.hi 8
theorem TinAt.t4 : type_of% (h.ti 4):=h.ti 4
theorem TinAt.t5 : type_of% (h.ti 5):=h.ti 5
theorem TinAt.t6 : type_of% (h.ti 6):=h.ti 6
theorem TinAt.t7 : type_of% (h.ti 7):=h.ti 7
theorem TinAt.t8 : type_of% (h.ti 8):=h.ti 8
end
theorem TinAt.am {Gf : TinS -> List AObj} {t N : Nat} (h : TinAt Gf t N) : (type_of% h.len) /\ (type_of% h.g0) /\ (type_of% h.g1) /\ (type_of% h.h2) /\ (type_of% h.h3) /\ (type_of% h.h4) /\ (type_of% h.h5) /\ (type_of% h.h6) /\ (type_of% h.h7) /\ (type_of% h.h8) /\ (type_of% h.s0) /\ (type_of% h.s1) /\ (type_of% h.t2) /\ (type_of% h.t3) /\ (type_of% h.t4) /\ (type_of% h.t5) /\ (type_of% h.t6) /\ (type_of% h.t7) /\ (type_of% h.t8):=⟨h.len,h.g0,h.g1,h.h2,h.h3,h.h4,h.h5,h.h6,h.h7,h.h8,h.s0,h.s1,h.t2,h.t3,h.t4,h.t5,h.t6,h.t7,h.t8⟩
theorem zho (bs : List Band) : (aBands bs).parts = some [aBands bs]:=rfl
structure KeysP (c : Int) (ks : List Key) (ws : List Int) : Prop where
 len : ws.length = ks.length
 key : ∀ y ∈ ks,(y.cuts.length : Int) = c /\ (∀ n ∈ y.cuts,0 <= n /\ n <= 3) /\ y.wear.Ok 2
 worn : ∀ (i : Nat) y w,ks[i]? = some y -> ws[i]? = some w -> y.wear.min <= w /\ w <= y.wear.max
theorem KeysP.snoc {c : Int} {ks : List Key} {ws : List Int} (h : KeysP c ks ws) {y : Key} {w : Int} (hc : (y.cuts.length : Int) = c) (hn : ∀ n ∈ y.cuts,0 <= n /\ n <= 3) (hb : y.wear.Ok 2) (hw : y.wear.min <= w /\ w <= y.wear.max) : KeysP c (ks ++ [y]) (ws ++ [w]) where
 len:=by simp [h.len]
 key:=fun z hz => by
  rcases List.mem_append.1 hz with hz | hz
  ·exact h.key z hz
  ·rw [List.mem_singleton.1 hz]; exact ⟨hc,hn,hb⟩
 worn:=fun i z v h1 h2 => by
  by_cases hi : i < ks.length
  ·rw [List.getElem?_append_left hi] at h1;rw [List.getElem?_append_left (by rw [h.len]; exact hi)] at h2;exact h.worn i z v h1 h2
  ·have hi2 : i = ks.length:=(by have:=get_lt h1; simp at this; omega);subst hi2;rw [List.getElem?_append_right (Nat.le_refl _)] at h1;rw [<- h.len,List.getElem?_append_right (Nat.le_refl _)] at h2;simp at h1 h2;subst h1 h2;exact hw
def znd (ks : List Key) (ws : List Int) (ls : List (List Band)) (k l : Int) : Bool:=zmM (zlY (ws.getD k.toNat 0) ((ks[k.toNat]?).map (·.cuts) |>.getD [])) (ls.getD l.toNat [])
structure RingP (K L T : Nat) (wr : Bool) (x : Ring) (ws : List Int) : Prop where
 cuts : 1 <= x.cuts /\ x.cuts <= 3
 keys : 1 <= x.keys.length /\ x.keys.length <= K
 kp : KeysP x.cuts x.keys ws
 locks : x.locks.length <= L
 lock : ∀ l ∈ x.locks,(l.length : Int) = x.cuts /\ ∀ b ∈ l,b.Ok 3
 tries : x.tries.length <= T
 tried : ∀ t ∈ x.tries,(0 <= t.key /\ t.key < x.keys.length) /\ 0 <= t.lock /\ t.lock < x.locks.length
 told : wr = false -> ∀ t ∈ x.tries,t.opens = znd x.keys ws x.locks t.key t.lock
theorem zsr (ks : List Key) : (ks.flatMap Key.l).length = ks.length * 3:=by
 induction ks with
 | nil => rfl
 | cons b bs ih => rw [List.flatMap_cons,List.length_append,ih]; simp [Key.l]; omega
theorem zf5 (ks : List Try) : (ks.flatMap Try.l).length = ks.length * 3:=by
 induction ks with
 | nil => rfl
 | cons b bs ih => rw [List.flatMap_cons,List.length_append,ih]; simp [Try.l]; omega
theorem zus (n m k : Nat) (bs : List Key) : Lt n (.sl m (bs.flatMap Key.l) (.opn k)) = (k < n):=by
 rw [zdq,eq_iff_iff];refine ⟨fun h => h.1,fun h => ⟨h,fun a ha => ?_⟩⟩;have:=zc5 n bs;rw [zmq,za3] at this;exact this.mpr trivial a ha
theorem zuq (n m k : Nat) (bs : List Try) : Lt n (.sl m (bs.flatMap Try.l) (.opn k)) = (k < n):=by
 rw [zdq,eq_iff_iff];refine ⟨fun h => h.1,fun h => ⟨h,fun a ha => ?_⟩⟩;have:=zch n bs;rw [zmg,za3] at this;exact this.mpr trivial a ha
theorem zur (n m k : Nat) (bs : List (List Band)) : Lt n (.sl m (bs.map aBands) (.opn k)) = (k < n):=by
 rw [zdq,eq_iff_iff];refine ⟨fun h => h.1,fun h => ⟨h,fun a ha => ?_⟩⟩;have:=zci n bs;rw [zmb,za3] at this;exact this.mpr trivial a ha
theorem zut (n m k : Nat) (bs : List Int) : Lt n (.sl m (bs.map iv) (.opn k)) = (k < n):=by
 rw [zdq,eq_iff_iff];refine ⟨fun h => h.1,fun h => ⟨h,fun a ha => ?_⟩⟩;have:=zbi n bs;rw [aInts,za3] at this;exact this.mpr trivial a ha
def roL (N : Nat) (c : Int) (ks : List Key) (ls : List (List Band)) (ts : List Try) : List AObj :=
 [.cells [iv 0,.sl 0 [] .exact,.sl 0 [] .exact,.sl 0 [] .exact] 26,.cells [iv c,.sl ks.length (ks.flatMap Key.l) (.opn (N + 2)),.sl ls.length (ls.map aBands) (.opn (N + 3)),.sl ts.length (ts.flatMap Try.l) (.opn (N + 4))] 26,.tail ks.length 3 65,.tail ls.length 1 29,.tail ts.length 3 28,.tail ks.length 1 3]
def roE (N : Nat) (c : Int) (ks : List Key) (ls : List (List Band)) (ts : List Try) : List AObj:=.cells [iv c,.sl ks.length (ks.flatMap Key.l) (.opn (N + 2)),.sl ls.length (ls.map aBands) (.opn (N + 3)),.sl ts.length (ts.flatMap Try.l) (.opn (N + 4))] 26 :: (roL N c ks ls ts).tail
def roK (N : Nat) (c : Int) (ks : List Key) (cs : List Int) : List AObj:=roL N c ks [] [] ++ [.cells [.sl cs.length (cs.map iv) (.opn (N + 7)),iv 0,iv 0] 65,.tail cs.length 1 3]
theorem zrH (N : Nat) (c : Int) (ks : List Key) (cs : List Int) (v : Int) : roK N c ks (cs ++ [v]) = roL N c ks [] [] ++ [.cells [.sl (cs.length + 1) (cs.map iv ++ [iv v]) (.opn (N + 7)),iv 0,iv 0] 65,.tail (cs.length + 1) 1 3]:=by simp [roK]
def roM (N : Nat) (c : Int) (nk : Nat) (kl : List AV) (n1 n2 : Nat) (cs : List Int) (bd : Band) : List AObj:=[.cells [iv 0,.sl 0 [] .exact,.sl 0 [] .exact,.sl 0 [] .exact] 26,.cells [iv c,.sl nk kl (.opn (N + 2)),.sl 0 [] (.opn (N + 3)),.sl 0 [] (.opn (N + 4))] 26,.tail n1 3 65,.tail 0 1 29,.tail 0 3 28,.tail n2 1 3,.cells [.sl cs.length (cs.map iv) .shut,iv bd.min,iv bd.max] 65,.tail cs.length 1 3]
def roP (N : Nat) (c : Int) (ks : List Key) (nl : Nat) (ll : List AV) (n1 : Nat) : List AObj:=[.cells [iv 0,.sl 0 [] .exact,.sl 0 [] .exact,.sl 0 [] .exact] 26,.cells [iv c,.sl ks.length (ks.flatMap Key.l) (.opn (N + 2)),.sl nl ll (.opn (N + 3)),.sl 0 [] (.opn (N + 4))] 26,.tail ks.length 3 65,.tail n1 1 29,.tail 0 3 28,.tail ks.length 1 3]
theorem zce {base Vi Vn T : List (Nat × AV)} {H H' : List AObj} (G : List AObj) (hk : Keeps T (Vi ++ base) Vn) (hv : ∀ p ∈ Vn,∃ b,look T p.1 = some b /\ Wk b p.2) (hok : HOk H) (hlt : ∀ p ∈ Vn,Lt H.length p.2) (hG : H' = H ++ G) : zmY base Vi Vn H ⟨T,H'⟩:=⟨hk,hv,G,hG,.inr ⟨hok,hlt⟩⟩
theorem zh9 {Gf : TinS -> List AObj} {t N : Nat} (h : TinAt Gf t N) {τ : TinS} (hH : HOk (Gf τ)) (τ' : TinS) (c : Int) (ks : List Key) (ls : List (List Band)) (ts : List Try) : HOk (Gf τ' ++ roL N c ks ls ts):=fun z hz => by
 rcases List.mem_append.1 hz with hz | hz
 ·exact (h.hok hH τ' z hz).mono (by simp)
 ·simp only [roL,List.mem_cons,List.not_mem_nil,or_false] at hz;have hl : (Gf τ' ++ roL N c ks ls ts).length = N + 6:=by simp [h.len,roL]
  rw [hl];rcases hz with rfl | rfl | rfl | rfl | rfl | rfl
  ·intro a ha; simp [iv] at ha; rcases ha with rfl | rfl <;> simp [zap,zbh]
  ·intro a ha;simp only [List.mem_cons,List.not_mem_nil,or_false] at ha;rcases ha with rfl | rfl | rfl | rfl
   ·exact .val _
   ·rw [zus]; omega
   ·rw [zur]; omega
   ·rw [zuq]; omega
  all_goals trivial
section
variable {lv : Bool} {k kp : AV -> List AObj -> Prop} {Gf : TinS -> List AObj} {t N : Nat} {τ : TinS} {b : Int}
set_option maxHeartbeats 2000000 in
theorem f49_g {K L T : Nat} {wr : Bool} (hT : TinAt Gf t N) (hτ : τ.Ok b) (hb : b < 2 ^ 30) (hK : 1 <= K /\ K <= 4) (hL : L <= 4) (hTn : T <= 6)
  (hk : ∀ x ws τ',RingP K L T wr x ws -> τ'.Ok (b + 1000) -> HOk (Gf τ') -> ws.length = x.keys.length -> zmU N (Gf τ' ++ roE N x.cuts x.keys x.locks x.tries) (.tup [.agg [iv x.cuts,.sl x.keys.length (x.keys.flatMap Key.l) (.opn (N + 2)),.sl x.locks.length (x.locks.map aBands) (.opn (N + 3)),.sl x.tries.length (x.tries.flatMap Try.l) (.opn (N + 4))],.sl x.keys.length (ws.map iv) (.opn (N + 5))]) k) : FnC lv Tryz.prog 49 (Gf τ) [.op t 0,iv K,iv L,iv T,bv wr] k kp:=by
 refine zlA (rs:=[.cell 10 26,.tmp 11]) (nt:=162) Tryz.f49 fun hH hA => ?_;simp only [zlV,Nat.reduceAdd];refine zfK ?_;refine zl5 ?_;simp only [seval,hT.am];refine zl6 ((f125_c (hT.more _) hτ (by omega) (by omega) (by omega) ?_));try simp only [seval,hT.am]
 (repeat apply zaa); refine zdw (id:=N + 1) (j:=1) (sz:=3) (el':=65) (by simp only [seval,hT.am] <;> rfl) rfl ?_
 try simp only [seval,hT.am]
 (repeat apply zaa); refine zdw (id:=N + 1) (j:=2) (sz:=1) (el':=29) (by simp only [seval,hT.am] <;> rfl) rfl ?_
 try simp only [seval,hT.am]
 (repeat apply zaa); refine zdw (id:=N + 1) (j:=3) (sz:=3) (el':=28) (by simp only [seval,hT.am] <;> rfl) rfl ?_
 (try simp only [seval,hT.am]);refine zfK ?_
 (repeat apply zaa); refine zbV (t:=13) (sz:=1) (el:=3) (by simp only [seval] <;> rfl) ?_
 (try simp only [seval,hT.am]);have hc:=za1 τ (show (1 : Int) <= 3 by decide);generalize hcd : zmP τ 1 3 = c at hc ⊢;refine zl5 ?_;simp only [seval,hT.am];refine zl6 ((f125_c (hT.more _) hτ.tick (by omega) (by omega) (by omega) ?_));(try simp only [seval,hT.am]);have ht:=za1 (tick τ) (show (1 : Int) <= K by omega);generalize zmP (tick τ) 1 K = tot at ht;obtain ⟨tot,rfl⟩ : ∃ n : Nat,tot = n:=⟨tot.toNat,by omega⟩;refine zlC ?_;refine za9 (measure fun m : List Key × List Int × TinS => tot - m.1.length).wf (fun m => [(14,iv ((tot : Int) - m.1.length)),(13,.sl m.1.length (m.2.1.map iv) (.opn (N + 5)))]) (fun m => Gf m.2.2 ++ roL N c m.1 [] []) (fun m => KeysP c m.1 m.2.1 /\ m.1.length <= tot /\ m.2.2.Ok (b + 2 + 10 * m.1.length)) ([],[],tick (tick τ)) (fun _ _ => rfl) (by simp only [seval]; simp [zaf,Wk.refl]) rfl (fun _ _ => by simp [hT.len,roL]) ⟨⟨rfl,by simp,by simp⟩,by simp,hτ.tick.tick.mono (by simp only [List.length_nil]; omega)⟩ (fun hHs hLt m hok R hR => ?_);clear hHs hLt;obtain ⟨ks,ws,τ'⟩:=m;obtain ⟨hkp,hkt,hto⟩:=hok;simp only at hkp hkt hto;refine zl5 ?_;simp only [seval,roL,List.flatMap_nil,hT.am];refine zlu ?_;refine ⟨fun h => ?_,fun h => ?_⟩
 ·have hlt : ks.length < tot:=by omega
  refine zly ?_;refine zl5 ?_;simp only [seval,hT.am]
  (repeat apply zaa); refine zdw (id:=N + 6) (j:=0) (sz:=1) (el':=3) (by simp only [seval,hT.am] <;> rfl) rfl ?_
  (try simp only [seval,hT.am]);refine zl5 ?_;simp only [seval,hT.am];refine zlC ?_;refine za9 (measure fun m : List Int × TinS => c.toNat - m.1.length).wf (fun m => [(16,iv m.1.length)]) (fun m => Gf m.2 ++ roK N c ks m.1) (fun m => m.1.length <= c.toNat /\ (∀ n ∈ m.1,0 <= n /\ n <= 3) /\ m.2.Ok (b + 2 + 10 * ks.length + m.1.length)) ([],τ') (fun _ _ => rfl) (by simp only [seval]; simp [zaf,Wk.refl]) rfl (fun _ _ => by simp [hT.len,roK,roL]) ⟨by simp,by simp,hto.mono (by simp)⟩ (fun hHs2 hLt2 m2 hok2 R2 hR2 => ?_);clear hHs2 hLt2;obtain ⟨cs,τ''⟩:=m2;obtain ⟨hcl,hcb,hto2⟩:=hok2;simp only at hcl hcb hto2;refine zl5 ?_;simp only [seval,roK,roL,List.flatMap_nil,hT.am];refine zlu ?_;refine ⟨fun h2 => ?_,fun h2 => ?_⟩
  ·have hw2 : IntKind.i64.wrap ((cs.length : Int) + 1) = cs.length + 1:=zau _ (by omega);have hv:=zaX τ'' 3;refine zly ?_;refine zlC ?_;refine zmC [3,5,7] [0,1,2,3,4,5,6,7] [⟨0,false,[],[([3],[3])]⟩,⟨1,false,[],[([3],[3])]⟩,⟨2,false,[],[]⟩,⟨3,true,[3],[]⟩,⟨4,false,[3],[]⟩,⟨5,true,[3,5],[]⟩,⟨6,false,[3,5],[]⟩,⟨7,true,[3,5,7],[]⟩] (fun D => bif zml 7 D then Gf (tick τ'') ++ (roL N c ks [] [] ++ [.cells [.sl (cs.length + 1) (cs.map iv ++ [iv (zm9 τ'' 3)]) (.opn (N + 7)),iv 0,iv 0] 65,.tail (cs.length + 1) 1 3]) else bif zml 5 D then Gf (tick τ'') ++ (roL N c ks [] [] ++ [.cells [.sl cs.length (cs.map iv) (.opn (N + 7)),iv 0,iv 0] 65,.tail (cs.length + 1) 1 3]) else bif zml 3 D then Gf (tick τ'') ++ (roL N c ks [] [] ++ [.cells [.sl cs.length (cs.map iv) (.opn (N + 7)),iv 0,iv 0] 65,.tail cs.length 1 3]) else Gf τ'' ++ (roL N c ks [] [] ++ [.cells [.sl cs.length (cs.map iv) (.opn (N + 7)),iv 0,iv 0] 65,.tail cs.length 1 3])) ?_;simp only [seval,z1,zhq,roL,List.flatMap_nil,hT.am];refine zoD _ _ (zl4 (f29_c (hT.more _) hto2 (by omega) (by omega) ⟨rfl,rfl⟩)) ?_;(try simp only [seval,z1,zhq,roL,List.flatMap_nil,hT.am]);refine ⟨by omega,?_⟩;refine zl5 ?_;simp only [seval,hw2];refine hR2 _ ⟨(cs ++ [zm9 τ'' 3],tick τ''),by show c.toNat - (cs ++ [_]).length < c.toNat - cs.length; simp; omega,⟨by simp; omega,fun n hn => ?_,hto2.tick.mono (by simp; omega)⟩,?_⟩
   ·rcases List.mem_append.1 hn with hn | hn
    ·exact hcb n hn
    ·rw [List.mem_singleton.1 hn]; exact ⟨hv.1,hv.2.elim id fun h => by rw [h]; decide⟩
   ·simp only [zrH,List.length_append];exact zlK
  ·have hcc : (cs.length : Int) = c:=(by omega);refine zlF ?_
   (repeat apply zaa); refine zuZ (id:=N + 6) (j:=0) (by simp only [seval,hT.am] <;> rfl) rfl (zaK _ _ _) ?_
   (try simp only [seval,hT.am]);refine zl5 ?_;simp only [seval,hT.am];refine zl6 ((f126_c (hT.more _) hto2 (by omega) (by omega) (by omega) ?_));(try simp only [seval,Band.av,Band.l,hT.am]);have hbd:=zir τ'' (show (0 : Int) <= 2 by decide);have hto3:=hto2.tick.tick;generalize znI τ'' 0 2 = bd at hbd ⊢;generalize tick (tick τ'') = τ3 at hto3 ⊢;obtain ⟨hbd0,hbd1,hbd2⟩:=hbd;have hww:=za1 τ3 hbd1;have hkl:=zsr ks;have hwl:=hkp.len;refine zmC [4,13,15,17] [0,1,2,3,4,5,6,7,8,9,10,11,12,13,14,15,16,17,18] [⟨0,false,[],[]⟩,⟨1,false,[],[]⟩,⟨2,false,[],[]⟩,⟨3,false,[],[]⟩,⟨4,true,[4],[]⟩,⟨5,false,[4],[([],[]),([4,13],[4,13])]⟩,⟨6,false,[4],[([],[])]⟩,⟨7,false,[4],[([],[])]⟩,⟨8,false,[4],[([],[])]⟩,⟨9,false,[4],[([],[])]⟩,⟨10,false,[4],[([],[])]⟩,⟨11,false,[4],[([],[])]⟩,⟨12,false,[4],[([],[])]⟩,⟨13,true,[4,13],[]⟩,⟨14,false,[4,13],[]⟩,⟨15,true,[4,13,15],[]⟩,⟨16,false,[4,13,15],[([4],[4]),([4,13],[4,13])]⟩,⟨17,true,[4,13,15,17],[]⟩,⟨18,false,[4,13,15,17],[]⟩] (fun D => bif zml 17 D then Gf (tick τ3) ++ roM N c (ks.length + 1) (ks.flatMap Key.l ++ [.sl cs.length (cs.map iv) .shut,iv bd.min,iv bd.max]) (ks.length + 1) (ks.length + 1) cs bd else bif zml 15 D then Gf (tick τ3) ++ roM N c ks.length (ks.flatMap Key.l) (ks.length + 1) (ks.length + 1) cs bd else bif zml 13 D then Gf (tick τ3) ++ roM N c ks.length (ks.flatMap Key.l) (ks.length + 1) ks.length cs bd else bif zml 4 D then Gf τ3 ++ roM N c ks.length (ks.flatMap Key.l) (ks.length + 1) ks.length cs bd else Gf τ3 ++ roM N c ks.length (ks.flatMap Key.l) ks.length ks.length cs bd) ?_;simp only [seval,z1,zk3,zhq,zd5,hkl,hwl,roM,hT.am];refine ⟨by omega,?_⟩;refine zoD _ _ (zl4 (f125_c (hT.more _) hto3 (by omega) (by omega) (by omega) ⟨rfl,rfl⟩)) ?_;(try simp only [seval,z1,zk3,zhq,zd5,hkl,hwl,roM,hT.am]);have hw3 : IntKind.i64.wrap ((tot : Int) - ks.length - 1) = tot - (ks.length + 1):=(by rw [zau _ (by omega)]; omega);refine ⟨by omega,?_⟩;refine zl5 ?_;simp only [seval,hw3];refine hR _ ⟨(ks ++ [⟨cs,bd⟩],ws ++ [zmP τ3 bd.min bd.max],tick τ3),by show tot - (ks ++ [_]).length < tot - ks.length; simp; omega,⟨hkp.snoc hcc hcb ⟨hbd0,hbd2,hbd1⟩ hww,by simp; omega,hto3.tick.mono (by simp; omega)⟩,?_⟩;refine zce [.cells [.sl cs.length (cs.map iv) .shut,iv bd.min,iv bd.max] 65,.tail cs.length 1 3] (zam rfl rfl) (by simp only [seval,List.length_append,List.map_append]; simp [zaf,Wk.refl]) (zh9 hT hH _ _ _ _ _) (by simp only [List.forall_mem_cons,zap,zut,iv]; simp [hT.len,roL]) (by simp [roL,Key.l,aInts])
 ·have hkn : 1 <= ks.length /\ ks.length <= K:=by omega
  have hwl:=hkp.len;refine zlF ?_;refine zl5 ?_;simp only [seval,hT.am];refine zl6 ((f29_c (hT.more _) hto (by omega) (by omega) ?_));(try simp only [seval,hT.am]);have htl:=zaX τ' L;generalize zm9 τ' L = totl at htl ⊢;obtain ⟨totl,rfl⟩ : ∃ n : Nat,totl = n:=⟨totl.toNat,by omega⟩;have htl2 : totl <= L:=by omega
  clear htl;have hto1:=hto.tick.mono (b':=b + 100) (by omega);generalize tick τ' = τ4 at hto1 ⊢;refine zlC ?_;refine za9 (measure fun m : List (List Band) × TinS => totl - m.1.length).wf (fun m => [(17,iv ((totl : Int) - m.1.length))]) (fun m => Gf m.2 ++ roL N c ks m.1 []) (fun m => (∀ l ∈ m.1,(l.length : Int) = c /\ ∀ b ∈ l,b.Ok 3) /\ m.1.length <= totl /\ m.2.Ok (b + 100 + 20 * m.1.length)) ([],τ4) (fun _ _ => rfl) (by simp only [seval]; simp [zaf,Wk.refl]) (by simp [roL]) (fun _ _ => by simp [hT.len,roL]) ⟨by simp,by simp,hto1.mono (by simp)⟩ (fun hHs hLt m hok R2 hR2 => ?_);clear hHs hLt hR hto1 hto;obtain ⟨ls,τ5⟩:=m;obtain ⟨hlk,hlt,hto⟩:=hok;simp only at hlk hlt hto;refine zl5 ?_;simp only [seval,roL,List.flatMap_nil,hT.am];refine zlu ?_;refine ⟨fun h2 => ?_,fun h2 => ?_⟩
  ·have hllt : ls.length < totl:=(by omega);refine zly ?_;refine zlC ?_;have hw4 : IntKind.i64.wrap ((ks.length : Int) - 1) = ks.length - 1:=zau _ (by omega);refine zl5 ?_;simp only [seval,hw4,hT.am];refine zl6 ((f29_c (hT.more _) hto (by omega) (by omega) ?_));(try simp only [seval,hT.am]);have hkr:=zaX τ5 ((ks.length : Int) - 1);generalize zm9 τ5 ((ks.length : Int) - 1) = kx at hkr ⊢;obtain ⟨kn,rfl⟩ : ∃ n : Nat,kx = n:=⟨kx.toNat,by omega⟩;have hknl : kn < ks.length:=(by omega);obtain ⟨y,hy⟩:=zaE hknl;obtain ⟨w,hw⟩:=zaE (xs:=ws) (i:=kn) (by omega);obtain ⟨hyc,hyb,hyw⟩:=hkp.key y (zas hy);have hwb:=hkp.worn kn y w hy hw;have hw0:=hyw.min;have hw2':=hyw.max;have hto6:=hto.tick;generalize tick τ5 = τ6 at hto6 ⊢;have hds : ∀ d ∈ zlY w y.cuts,0 <= d /\ d <= 3:=fun d hd => by
    unfold zlY at hd;obtain ⟨x,hx,rfl⟩:=List.mem_map.1 hd;have:=hyb x hx;omega
   have hdl : (zlY w y.cuts).length = y.cuts.length:=(by simp [zlY]);obtain ⟨hf1,hf2,hf3⟩:=zcw (sm:=!znF τ6 3) hto6.tick hds _ (Nat.le_refl _);have hfe : zmX (!znF τ6 3) (tick τ6) (zlY w y.cuts) (zlY w y.cuts).length = zoz (!znF τ6 3) (tick τ6) (zlY w y.cuts):=(by unfold zmX zoz; rw [List.take_length]);rw [hfe] at hf1 hf2 hf3;have hml : (ls.map aBands).length = ls.length:=List.length_map ..;have hzs1 : zmn (Value.slice none 0 0) 1 = [.sl 0 [] .exact]:=rfl;refine zmC [15,17,19,21] [0,1,2,3,4,5,6,7,8,9,10,11,12,13,14,15,16,17,18,19,20,21] [⟨0,false,[],[([15],[15]),([15,17],[15,17])]⟩,⟨1,false,[],[([15],[15]),([15,17],[15,17])]⟩,⟨2,false,[],[([15],[15])]⟩,⟨3,false,[],[]⟩,⟨4,false,[],[]⟩,⟨5,false,[],[]⟩,⟨6,false,[],[]⟩,⟨7,false,[],[]⟩,⟨8,false,[],[]⟩,⟨9,false,[],[]⟩,⟨10,false,[],[]⟩,⟨11,false,[],[]⟩,⟨12,false,[],[]⟩,⟨13,false,[],[]⟩,⟨14,false,[],[]⟩,⟨15,true,[15],[]⟩,⟨16,false,[15],[]⟩,⟨17,true,[15,17],[]⟩,⟨18,false,[15,17],[]⟩,⟨19,true,[15,17,19],[]⟩,⟨20,false,[15,17,19],[]⟩,⟨21,true,[15,17,19,21],[]⟩] (fun D => bif zml 21 D then Gf (zoz (!znF τ6 3) (tick τ6) (zlY w y.cuts)).2 ++ roP N c ks (ls.length + 1) (ls.map aBands ++ [aBands (zoz (!znF τ6 3) (tick τ6) (zlY w y.cuts)).1]) (ls.length + 1) else bif zml 19 D then Gf (zoz (!znF τ6 3) (tick τ6) (zlY w y.cuts)).2 ++ roP N c ks ls.length (ls.map aBands) (ls.length + 1) else bif zml 17 D then Gf (zoz (!znF τ6 3) (tick τ6) (zlY w y.cuts)).2 ++ roP N c ks ls.length (ls.map aBands) ls.length else bif zml 15 D then Gf (tick τ6) ++ roP N c ks ls.length (ls.map aBands) ls.length else Gf τ6 ++ roP N c ks ls.length (ls.map aBands) ls.length) ?_;simp only [seval,zc2 hy,zaz hknl,za2 hw,zaz (get_lt hw),hwl,hml,hzs1,zhq,roP,hT.am];refine zoh _ (zl4 (f78_c hyb ⟨by omega,by omega⟩ (by omega) ⟨rfl,rfl⟩)) ?_;refine zoD _ _ (zl4 (f44_c (hT.more _) hto6 (by omega) (by omega) ⟨rfl,rfl⟩)) ?_;(try simp only [seval,hT.am]);refine zoD _ _ (zl4 (f127_c (hT.more _) hto6.tick (by omega) hds (by omega) ⟨rfl,rfl⟩)) ?_;(try simp only [seval,hwl,hml,hzs1,zhq,roP,hT.am,zho]);generalize zoz (!znF τ6 3) (tick τ6) (zlY w y.cuts) = q at hf1 hf2 hf3 ⊢;obtain ⟨lk,τ7⟩:=q;simp only at hf1 hf2 hf3;have hw5 : IntKind.i64.wrap ((totl : Int) - ls.length - 1) = totl - (ls.length + 1):=(by rw [zau _ (by omega)]; omega);refine ⟨by omega,?_⟩;refine zl5 ?_;simp only [seval,hw5];refine hR2 _ ⟨(ls ++ [lk],τ7),by show totl - (ls ++ [_]).length < totl - ls.length; simp; omega,⟨fun l hl => ?_,by simp; omega,hf2.mono (by simp; omega)⟩,?_⟩
   ·rcases List.mem_append.1 hl with hl | hl
    ·exact hlk l hl
    ·rw [List.mem_singleton.1 hl]; exact ⟨by omega,hf3⟩
   ·have e : roL N c ks (ls ++ [lk]) [] = roP N c ks (ls.length + 1) (ls.map aBands ++ [aBands lk]) (ls.length + 1):=(by simp [roL,roP]);rw [e];simp only [roP];refine zax (zam rfl rfl) (by simp only [seval,List.length_append]; simp [zaf,Wk.refl])
  ·have hll : ls.length <= 4:=(by omega);refine zlF ?_;refine zl5 ?_;simp only [seval,hT.am];refine zl6 ((f29_c (hT.more _) hto (by omega) (by omega) ?_));(try simp only [seval,hT.am]);have htl:=zaX τ5 T;generalize zm9 τ5 T = tott at htl ⊢;obtain ⟨tott,rfl⟩ : ∃ n : Nat,tott = n:=⟨tott.toNat,by omega⟩;have htl2 : tott <= T:=(by omega);clear htl;have hto1:=hto.tick.mono (b':=b + 200) (by omega);generalize tick τ5 = τ8 at hto1 ⊢;refine zlC ?_;refine za9 (measure fun m : List Try × TinS => tott - m.1.length).wf (fun m => [(19,iv ((tott : Int) - m.1.length))]) (fun m => Gf m.2 ++ roL N c ks ls m.1) (fun m => ((∀ t ∈ m.1,(0 <= t.key /\ t.key < ks.length) /\ 0 <= t.lock /\ t.lock < ls.length) /\ (wr = false -> ∀ t ∈ m.1,t.opens = znd ks ws ls t.key t.lock)) /\ m.1.length <= tott /\ m.2.Ok (b + 200 + 20 * m.1.length)) ([],τ8) (fun _ _ => rfl) (by simp only [seval]; simp [zaf,Wk.refl]) (by simp [roL]) (fun _ _ => by simp [hT.len,roL]) ⟨by simp,by simp,hto1.mono (by simp)⟩ (fun hHs hLt m hok R hR => ?_);clear hHs hLt hR2 hto1 hto;obtain ⟨ts,τ9⟩:=m;obtain ⟨⟨htr,htd⟩,htl3,hto⟩:=hok;simp only at htr htd htl3 hto;have hend : zmU N (Gf τ9 ++ roE N c ks ls ts) (.tup [.agg [iv c,.sl ks.length (ks.flatMap Key.l) (.opn (N + 2)),.sl ls.length (ls.map aBands) (.opn (N + 3)),.sl ts.length (ts.flatMap Try.l) (.opn (N + 4))],.sl ks.length (ws.map iv) (.opn (N + 5))]) k:=hk ⟨c,ks,ls,ts⟩ ws τ9 ⟨hc,hkn,hkp,by show ls.length <= L; omega,hlk,by show ts.length <= T; omega,htr,htd⟩ (hto.mono (by omega)) (hT.hok hH _) hwl;refine zl5 ?_;simp only [seval,roL,hT.am];refine zpj (fun h3 => ?_) (fun h3 => ?_)
   ·have htlt : ts.length < tott:=by
     have : (0 : Int) < tott - ts.length:=(by simpa using h3);omega
    (try simp only [seval,roL,hT.am]);refine zlu ?_;refine ⟨fun h4 => ?_,fun h4 => ?_⟩
    ·have hll1 : 1 <= ls.length:=(by omega);refine zly ?_;refine zlC ?_;have hw4 : IntKind.i64.wrap ((ks.length : Int) - 1) = ks.length - 1:=zau _ (by omega);have hw6 : IntKind.i64.wrap ((ls.length : Int) - 1) = ls.length - 1:=zau _ (by omega);have hkr:=zaX τ9 ((ks.length : Int) - 1);have hlr:=zaX (tick τ9) ((ls.length : Int) - 1);refine zmC [5,11,13,14] [0,1,2,3,4,5,6,7,8,9,10,11,12,13,14] [⟨0,false,[],[([13],[13])]⟩,⟨1,false,[],[([13],[13])]⟩,⟨2,false,[],[([13],[13])]⟩,⟨3,false,[],[([13],[13])]⟩,⟨4,false,[],[([13],[13])]⟩,⟨5,true,[5],[([13],[5,13])]⟩,⟨6,false,[5],[([],[]),([13],[13]),([5,13],[5,13])]⟩,⟨7,false,[5],[([],[]),([13],[13]),([5,13],[5,13])]⟩,⟨8,false,[5],[([],[]),([13],[13]),([5,13],[5,13])]⟩,⟨9,false,[5],[([],[]),([13],[13]),([5,13],[5,13])]⟩,⟨10,false,[5],[([],[]),([13],[13]),([5,13],[5,13])]⟩,⟨11,true,[5,11],[([5,13],[5,11,13])]⟩,⟨12,false,[5,11],[([5,11,13],[5,11,13])]⟩,⟨13,true,[5,11,13],[([],[13]),([5],[5,13])]⟩,⟨14,true,[5,11,13,14],[]⟩] (fun D => Gf (bif zml 11 D then tick (tick τ9) else bif zml 5 D then tick τ9 else τ9) ++ (roL N c ks ls ts ++ (bif zml 14 D then [.cells [iv (zm9 τ9 ((ks.length : Int) - 1)),iv (zm9 (tick τ9) ((ls.length : Int) - 1)),bv false] 28] else bif zml 13 D then [.cells [iv 0,iv 0,bv false] 28] else []))) ?_;simp only [seval,hw4,hw6,roL,hT.am];refine zoD _ _ (zl4 (f29_c (hT.more _) hto (by omega) (by omega) ⟨rfl,rfl⟩)) ?_;(try simp only [seval,hw4,hw6,roL,hT.am]);refine ⟨zoD _ _ (zl4 (f29_c (hT.more _) hto (by omega) (by omega) ⟨rfl,rfl⟩)) ⟨rfl,rfl⟩,?_⟩;refine zoD _ _ (zl4 (f29_c (hT.more _) hto.tick (by omega) (by omega) ⟨rfl,rfl⟩)) ?_;(try simp only [seval,hw4,hw6,roL,hT.am]);refine ⟨zoD _ _ (zl4 (f29_c (hT.more _) hto.tick (by omega) (by omega) ⟨rfl,rfl⟩)) ⟨rfl,rfl⟩,?_⟩;have hto3:=hto.tick.tick;generalize zm9 τ9 ((ks.length : Int) - 1) = kx at hkr ⊢;generalize zm9 (tick τ9) ((ls.length : Int) - 1) = lx at hlr ⊢;generalize tick (tick τ9) = τa at hto3 ⊢;obtain ⟨kn,rfl⟩ : ∃ n : Nat,kx = n:=⟨kx.toNat,by omega⟩;obtain ⟨ln,rfl⟩ : ∃ n : Nat,lx = n:=⟨lx.toNat,by omega⟩;have hknl : kn < ks.length:=(by omega);have hlnl : ln < ls.length:=(by omega);obtain ⟨y,hy⟩:=zaE hknl;obtain ⟨w,hw⟩:=zaE (xs:=ws) (i:=kn) (by omega);obtain ⟨l,hl⟩:=zaE hlnl;obtain ⟨hyc,hyb,hyw⟩:=hkp.key y (zas hy);obtain ⟨hlc,hlb⟩:=hlk l (zas hl);have hwb:=hkp.worn kn y w hy hw;have hw0:=hyw.min;have hw2':=hyw.max;have hdl : (zlY w y.cuts).length = y.cuts.length:=(by simp [zlY]);have how : znd ks ws ls kn ln = zmM (zlY w y.cuts) l:=by
      unfold znd;simp only [Int.toNat_natCast,List.getD_eq_getElem?_getD,hy,hw,hl,Option.map_some,Option.getD_some]
     refine zl8 19 ?_;simp only [seval,zc2 hy,zaz hknl,za2 hw,zaz (get_lt hw),zfu hl,zaz hlnl,hwl,hT.am];refine zoh _ (zl4 (f78_c hyb ⟨by omega,by omega⟩ (by omega) ⟨rfl,rfl⟩)) ?_;refine zl6 ((f64_c (by omega) (by omega) ?_));(try simp only [seval,hT.am]);have htln:=zf5 ts;have hw7 : IntKind.i64.wrap ((tott : Int) - ts.length - 1) = tott - (ts.length + 1):=(by rw [zau _ (by omega)]; omega);have hnew : ∀ (o : Bool) (τb : TinS),τb.Ok (b + 200 + 20 * ts.length + 3) -> (wr = false -> o = zmM (zlY w y.cuts) l) -> ((∀ t : Try,t ∈ ts ++ [⟨kn,ln,o⟩] -> (0 <= t.key /\ t.key < (ks.length : Int)) /\ 0 <= t.lock /\ t.lock < (ls.length : Int)) /\ (wr = false -> ∀ t : Try,t ∈ ts ++ [⟨kn,ln,o⟩] -> t.opens = znd ks ws ls t.key t.lock)) /\ (ts ++ [(⟨kn,ln,o⟩ : Try)]).length <= tott /\ τb.Ok (b + 200 + 20 * ((ts ++ [(⟨kn,ln,o⟩ : Try)]).length : Nat)):=fun o τb hok ho => by
      refine ⟨⟨fun t ht => ?_,fun hwr t ht => ?_⟩,by simp; omega,hok.mono (by simp; omega)⟩
      ·rcases List.mem_append.1 ht with ht | ht
       ·exact htr t ht
       ·rw [List.mem_singleton.1 ht]; exact ⟨⟨by show (0 : Int) <= kn; omega,by show (kn : Int) < _; omega⟩,by show (0 : Int) <= ln; omega,by show (ln : Int) < _; omega⟩
      ·rcases List.mem_append.1 ht with ht | ht
       ·exact htd hwr t ht
       ·rw [List.mem_singleton.1 ht]; exact (ho hwr).trans how.symm
     refine zl5 ?_;simp only [seval,hT.am];refine zpj (fun h5 => ?_) (fun h5 => ?_)
     ·(try simp only [seval,hT.am]);refine zl6 ((f44_c (hT.more _) hto3 (by omega) (by omega) ?_));(try simp only [seval,hT.am]);refine zlu ?_;refine ⟨fun h6 => ?_,fun h6 => ?_⟩
      ·refine zl5 ?_;simp only [seval,hT.am];refine zl5 ?_;simp only [seval,zt3,zd5,htln,hT.am];refine ⟨by omega,?_⟩;refine zl5 ?_;simp only [seval,hw7];refine hR _ ⟨(ts ++ [⟨kn,ln,!(zmM (zlY w y.cuts) l)⟩],tick τa),by show tott - (ts ++ [_]).length < tott - ts.length; simp; omega,hnew _ _ (hto3.tick.mono (by omega)) (fun e => absurd (h5.symm.trans e) (by decide)),?_⟩;refine zce [.cells [iv kn,iv ln,bv (!(zmM (zlY w y.cuts) l))] 28] (zam rfl rfl) (by simp only [seval,List.length_append]; simp [zaf,Wk.refl]) (zh9 hT hH _ _ _ _ _) (by simp only [List.forall_mem_cons,zap,iv]; simp) (by simp [roL,Try.l])
      ·refine zly ?_;refine zl5 ?_;simp only [seval,zt3,zd5,htln,hT.am];refine ⟨by omega,?_⟩;refine zl5 ?_;simp only [seval,hw7];refine hR _ ⟨(ts ++ [⟨kn,ln,zmM (zlY w y.cuts) l⟩],tick τa),by show tott - (ts ++ [_]).length < tott - ts.length; simp; omega,hnew _ _ (hto3.tick.mono (by omega)) (fun _ => rfl),?_⟩;refine zce [.cells [iv kn,iv ln,bv (zmM (zlY w y.cuts) l)] 28] (zam rfl rfl) (by simp only [seval,List.length_append]; simp [zaf,Wk.refl]) (zh9 hT hH _ _ _ _ _) (by simp only [List.forall_mem_cons,zap,iv]; simp) (by simp [roL,Try.l])
     ·(try simp only [seval,hT.am]);refine zlu ?_;refine zly ?_;refine zl5 ?_;simp only [seval,zt3,zd5,htln,hT.am];refine ⟨by omega,?_⟩;refine zl5 ?_;simp only [seval,hw7];refine hR _ ⟨(ts ++ [⟨kn,ln,zmM (zlY w y.cuts) l⟩],τa),by show tott - (ts ++ [_]).length < tott - ts.length; simp; omega,hnew _ _ (hto3.mono (by omega)) (fun _ => rfl),?_⟩;refine zce [.cells [iv kn,iv ln,bv (zmM (zlY w y.cuts) l)] 28] (zam rfl rfl) (by simp only [seval,List.length_append]; simp [zaf,Wk.refl]) (zh9 hT hH _ _ _ _ _) (by simp only [List.forall_mem_cons,zap,iv]; simp) (by simp [roL,Try.l])
    ·refine zlF ?_;refine zl5 ?_;simp only [seval,hT.am];refine zns ?_;simp only [seval,hT.am];exact hend
   ·have h3 : ¬ (0 : Int) < tott - ts.length:=(by simpa using h3);(try simp only [seval,roL,hT.am]);refine zlu ?_;refine zlF ?_;refine zl5 ?_;simp only [seval,hT.am];refine zns ?_;simp only [seval,hT.am];exact hend
theorem f49_c {K L T : Nat} {wr : Bool} (hT : TinAt Gf t N) (hτ : τ.Ok b) (hb : b < 2 ^ 30) (hK : 1 <= K /\ K <= 4) (hL : L <= 4) (hTn : T <= 6)
  (hk : ∀ x ws τ',RingP K L T wr x ws -> τ'.Ok (b + 1000) -> k (.tup [x.av,aInts ws]) (Gf τ')) : FnC lv Tryz.prog 49 (Gf τ) [.op t 0,iv K,iv L,iv T,bv wr] k kp :=
 f49_g hT hτ hb hK hL hTn fun x ws τ' hP hto hok hwl => by
  rw [<- hT.len τ'];exact endA (b:=.tup [x.av,aInts ws]) hok (zdC (zhX (.cons (Wk.refl _) (.cons (zaK _ _ _) (.cons (zaK _ _ _) (.cons (zaK _ _ _) .nil))))) (by rw [<- hwl]; exact zaK _ _ _)) (by simp only [zaD,List.forall_mem_cons,zfC,zbi]; simp) (hk x ws τ' hP hto)
end
section
variable {lv : Bool} {H : List AObj} {k kp : AV -> List AObj -> Prop}
theorem tinOk0 {nums : List Int} (h : nums.length <= 2 ^ 50) (s : Int) : (⟨nums,0,s⟩ : TinS).Ok 0:=⟨Int.le_refl _,Int.le_refl _,h⟩
theorem RingP.ok {K L T : Nat} {wr : Bool} {x : Ring} {ws : List Int} (h : RingP K L T wr x ws) (hK : K <= 4) (hL : L <= 4) (hT : T <= 6) : x.Ok where
 cuts:=⟨h.cuts.1,by have:=h.cuts.2; omega⟩
 keys:=by have:=h.keys.2; omega
 key:=h.kp.key
 locks:=by have:=h.locks; omega
 lock:=h.lock
 tries:=by have:=h.tries; omega
 tried:=h.tried
theorem Ring.Ok.small {x : Ring} (h : x.Ok) : x.Small where
 keys:=by have:=h.keys; omega
 locks:=by have:=h.locks; omega
 tries:=by have:=h.tries; omega
 cuts:=fun y hy => by have:=(h.key y hy).1; have:=h.cuts; omega
 bands:=fun l hl => by have:=(h.lock l hl).1; have:=h.cuts; omega
theorem ztv {P : Program} {f : FuncId} {l l' : List AV} (h : Wks l l') (hf : FnC lv P f H l' k kp) : FnC lv P f H l k kp:=fun E V vs hc hd => by
 refine hf E V vs hc ⟨by rw [hd.1,h.len],fun i a ha => ?_⟩;obtain ⟨b,hb⟩:=zaE (xs:=l) (i:=i) (by rw [h.len]; exact get_lt ha);exact h.at i a b ha hb E _ (hd.2 i b hb)
theorem f25_c (hmain : H[0]? = some .main) (hk : k (bv true) H) : FnC true Tryz.prog 25 H [] k kp:=by
 refine zlA (rs:=[.tmp 0]) (nt:=177) Tryz.f25 fun hH hA => ?_;simp only [zlV,Nat.reduceAdd];refine zfK ?_;refine zfK ?_;refine zl6 ((f80_c (ts:=[]) (by decide) ?_));(try simp only [seval]);refine zl6 ((zuO hmain ?_));(try simp only [seval]);refine zfK ?_;refine zl6 ((f80_c (ts:=[]) (by decide) ?_));(try simp only [seval]);refine zl6 ((zsA hmain ?_));(try simp only [seval]);refine zfK ?_;refine zl6 ((f82_c ?_));(try simp only [seval,Try.av,Try.l,exLast,zt3,zd5]);refine zl6 ((f80_c (ts:=[exLast]) (by decide) ?_));(try simp only [seval]);refine zl6 ((zsC hmain ?_));(try simp only [seval]);refine zfK ?_;refine zl6 ((f80_c (ts:=[]) (by decide) ?_));(try simp only [seval]);refine zl6 ((ex_ask hmain ?_));(try simp only [seval]);refine zfK ?_;refine zl6 ((f82_c ?_));(try simp only [seval,Try.av,Try.l,exLast,zt3,zd5]);refine zl6 ((f80_c (ts:=[exLast]) (by decide) ?_));(try simp only [seval]);refine zl6 ((zsB hmain ?_));(try simp only [seval]);refine zfK ?_;refine zl6 ((f84_c ?_));(try simp only [seval]);refine zl6 ((zsD hmain ?_));(try simp only [seval]);refine zfK ?_;refine zl6 ((f80_c (ts:=[]) (by decide) ?_));(try simp only [seval,zu2,zes]);refine zl6 ((ztv (.cons (Wk.refl _) (.cons (zaK _ _ _) .nil)) (zsz hmain ?_)));(try simp only [seval]);refine zfK ?_;refine zl6 ((f80_c (ts:=[]) (by decide) ?_));(try simp only [seval,zr2,zes]);refine zl6 ((ztv (.cons (Wk.refl _) (.cons (zaK _ _ _) .nil)) (ex_cut hmain ?_)));(try simp only [seval]);refine zfK ?_;refine zl6 ((f83_c ?_));(try simp only [seval,Try.av,Try.l,exNever,zt3,zd5]);refine zl6 ((f80_c (ts:=[exNever]) (by decide) ?_));(try simp only [seval]);refine zl6 ((zsy hmain ?_));(try simp only [seval]);refine zfK ?_;refine zl6 ((f80_c (ts:=[]) (by decide) ?_));(try simp only [seval]);refine zl6 ((zuP hmain ?_));(try simp only [seval]);refine zl5 ?_;simp only [seval,List.append_eq,beq_self_eq_true,zr2,zes];refine zl6 ((f34_same (xs:=[0,1]) (by decide) ?_));(try simp only [seval,List.append_eq,beq_self_eq_true,zr3,zd5]);refine zl6 ((f34_same (xs:=[0,1,2]) (by decide) ?_));(try simp only [seval,List.append_eq,beq_self_eq_true,zr3,zd5]);refine zl6 ((f34_same (xs:=[0,1,0]) (by decide) ?_));(try simp only [seval,List.append_eq,beq_self_eq_true,zr2,zes]);refine zl6 ((f34_same (xs:=[1,2]) (by decide) ?_));(try simp only [seval,List.append_eq,beq_self_eq_true,zr2,zes]);refine zl6 ((f34_same (xs:=[2,1]) (by decide) ?_));(try simp only [seval,List.append_eq,beq_self_eq_true,z1,zhq]);refine zl6 ((f34_same (xs:=[0]) (by decide) ?_));(try simp only [seval,List.append_eq,beq_self_eq_true,zr2,zes]);refine zl6 ((f34_same (xs:=[0,1]) (by decide) ?_));(try simp only [seval]);refine zlz ?_;exact zao hk
def zo7 (x : Ring) (m : Nat) (ds : List Int) : Bool:=(List.range (m + 1)).all fun n : Nat => zl9 x.cuts (zlY n ds) x.locks x.locks.length == 2 ^ x.locks.length - 1
def zmr (x : Ring) : Nat -> Option (List Int × Nat)
 | 0 => none
 | m + 1 => match znr x.cuts.toNat (zo7 x m) with
  | some d => some (d,m)
  | none => zmr x m
theorem f147_c {a r d : Nat} {x : Ring} {ds : List Int} {m : Nat} (hx : x.Ok) (hds : ds.length = 4) (hdb : ∀ w ∈ ds,0 <= w /\ w <= 3) (hm : m <= 2) (ha : H[a]? = some (.cells [iv m] 3)) (hr : H[r]? = some (.cells [.rp (x.l ++ zlL x)] 100)) (hd : H[d]? = some (.cells [uv (2 ^ x.locks.length - 1 : Nat)] 110)) (hk : k (bv (zo7 x m ds)) H) : FnC lv Tryz.prog 147 H [.agg (ds.map iv),.op a 0,.op r 0,.op d 0] k kp:=by
 refine zlA (rs:=[.tmp 5]) (nt:=20) Tryz.f147 fun hH hA => ?_;simp only [zlV,Nat.reduceAdd];have hdl : (ds.map iv).length = 4:=by simp [hds]
 have htk : List.take 4 (ds.map iv) = ds.map iv:=List.take_of_length_le (by omega);have hc:=hx.cuts;have hl:=hx.locks;have hw : IntKind.i64.wrap ((m : Int) + 1) = m + 1:=zau _ (by omega);refine zfK ?_;refine zl5 ?_;simp only [seval,zay ha,hw];refine zlC ?_;refine zmv (m + 1) (fun i : Nat => [(9,iv i)]) (fun _ => _) (fun i => ((List.range i).all fun n : Nat => zl9 x.cuts (zlY n ds) x.locks x.locks.length == 2 ^ x.locks.length - 1) = true) rfl (fun hHs hLt i hin hi R hR => ?_);refine zfK ?_;refine zlu ?_;refine ⟨fun h => ?_,fun h => ?_⟩
 ·have him : i < m + 1:=by omega
  have hwi : IntKind.i64.wrap ((i : Int) + 1) = i + 1:=zau _ (by omega);have hwl : (zlY i ds).length = 4:=by simp [zlY,hds]
  refine zly ?_;refine zfK ?_;refine zl8 6 ?_;simp only [seval,zay hr,zay hd,hdl,htk];refine zoh (.agg ((zlY i ds).map iv)) (zl4 (f93_c hds hdb (by omega) ⟨rfl,rfl⟩)) ?_;refine zoh (uv (zl9 x.cuts (zlY i ds) x.locks x.locks.length)) (zl4 (f139_c hwl (by omega) hl (fun l hl => by have:=(hx.lock l hl).1; omega) ⟨rfl,rfl⟩)) ?_;(try simp only [seval,zay hr,zay hd,hdl,htk]);refine zlu ?_;refine ⟨fun h2 => ?_,fun h2 => ?_⟩
  ·refine zfK ?_;refine zlz ?_;have h3 : zo7 x m ds = false:=by
    refine Bool.eq_false_iff.2 fun e => ?_;have:=(List.all_eq_true.1 e) i (List.mem_range.2 him);rw [beq_iff_eq] at this;rw [this] at h2;simp at h2
   rw [h3] at hk;exact endA hH (Wk.refl _) (by simp [zap]) hk
  ·refine zly ?_;refine zl5 ?_;simp only [seval,hwi];refine hR _ ⟨him,?_,zlK⟩;rw [List.range_succ,List.all_append,hi,Bool.true_and];have h3 : ((zl9 x.cuts (zlY i ds) x.locks x.locks.length : Nat) : Int) = ((2 ^ x.locks.length - 1 : Nat) : Int):=(by simpa using h2);have h4:=Int.ofNat_inj.1 h3;simp [h4]
 ·have hie : i = m + 1:=by omega
  subst hie;refine zlF ?_;refine zfK ?_;refine zlz ?_;have h3 : zo7 x m ds = true:=hi;rw [h3] at hk;exact endA hH (Wk.refl _) (by simp [zap]) hk
theorem zqM {a r d : Nat} {x : Ring} {m : Nat} (hx : x.Ok) (hm : m <= 2) (ha : H[a]? = some (.cells [iv m] 3)) (hr : H[r]? = some (.cells [.rp (x.l ++ zlL x)] 100)) (hd : H[d]? = some (.cells [uv (2 ^ x.locks.length - 1 : Nat)] 110)) : DoC lv H (.fn (.func 147) [] [.op a 0,.op r 0,.op d 0]) (zo7 x m):=fun L ds k kp h1 h2 h =>
 zl4 (f147_c hx h1 h2 hm (zay ha) (zay hr) (zay hd) h)
def zoU (i : Nat) : List AObj:=(List.range i).map fun j : Nat => .cells [iv (2 - (j : Int))] 3
def zm4 (H : List AObj) (x : Ring) (i : Nat) : List AObj:=(H ++ [.cells x.l 26,.cells [.rp (x.l ++ zlL x)] 100,.cells [uv (2 ^ x.locks.length - 1 : Nat)] 110]) ++ zoU i
def zoS (H : List AObj) (x : Ring) (i : Nat) : AS:=⟨[(5,.op (H.length + 1) 0),(7,.op (H.length + 2) 0),(8,.op (H.length + 3 + i) 0)],zm4 H x i ++ [.cells [iv (2 - (i : Int))] 3]⟩
theorem zoT (H : List AObj) (x : Ring) (i : Nat) : (zm4 H x i).length = H.length + 3 + i:=by simp [zm4,zoU]; omega
theorem zpM (H : List AObj) (x : Ring) (i : Nat) : zm4 H x (i + 1) = zm4 H x i ++ [.cells [iv (2 - (i : Int))] 3]:=by
 unfold zm4 zoU; rw [List.range_succ,List.map_append,List.append_assoc,List.append_assoc]; simp
theorem f76_c {x : Ring} (hnr : zmw lv) (hmain : H[0]? = some .main) (hs : x.Small) (h1 : zmt x none ≠ 0 -> k (.tup [.sl 0 [] .exact,iv 0,iv (zmt x none)]) H) (h2 : zmt x none = 0 -> zmr x 3 = none -> k (.tup [.sl 0 [] .exact,iv 0,iv 11]) H) (h3 : zmt x none = 0 -> ∀ d m,zmr x 3 = some (d,m) -> k (.tup [aInts d,iv m,iv 0]) H) : FnC lv Tryz.prog 76 H [x.av] k kp:=by
 have hmn : ∀ L : List AObj,(H ++ L)[0]? = some .main:=fun L => zay hmain;refine zlA (rs:=[.tmp 2,.tmp 3,.tmp 4]) (nt:=41) Tryz.f76 fun hH hA => ?_;simp only [zlV,Nat.reduceAdd,Ring.av];refine zl5 ?_;simp only [seval,Ring.l];refine zfK ?_;refine zl6 ((f87_c hnr (hmn _) hs zbA (fun hz => ?_) (fun hz => ?_)))
 ·(try simp only [seval]);refine zfK ?_;refine zlu ?_;refine ⟨fun h => ?_,fun h => absurd (by simpa using h) hz⟩;refine zfK ?_;refine zlz ?_;exact endA hH (Wk.refl _) (by simp [zap,zaD,zbh]) (h1 hz)
 ·(try simp only [seval]);refine zfK ?_;have hx:=zbp hz;have h2:=h2 hz;have h3:=h3 hz;have hl4:=hx.locks;have hlk : x.l ++ zlL x = iv x.cuts :: zmq x.keys :: zmb x.locks :: zmg x.tries :: zlL x:=rfl;refine zlu ?_;refine zly ?_;refine zl5 ?_;simp only [seval,hlk,zmb,ziv,zqW hl4];refine zfK ?_;refine zlC ?_;refine zpD (measure fun i => 4 - i).wf (zoS H x) (fun i => i <= 3 /\ zmr x 3 = zmr x (3 - i)) 0 ⟨fun t' a e => zh2 (by unfold zoS; simp only [seval]; simp [zaf,Wk.refl]) e,by simp [zoS,zm4,zoU,Ring.l,zmb]⟩ ⟨by omega,rfl⟩ (fun i _ => by simp only [zoS,List.length_append,zoT]; simp) (fun i hok => ?_);obtain ⟨hi3,hmt⟩:=hok;have hsuc:=zpM H x i;have hE : ∀ G : List AObj,∃ G',zm4 H x i ++ G = H ++ G':=fun G => ⟨[.cells x.l 26,.cells [.rp (x.l ++ zlL x)] 100,.cells [uv (2 ^ x.locks.length - 1 : Nat)] 110] ++ zoU i ++ G,by simp [zm4]⟩;have hKl:=zoT H x i;have g1 : (zm4 H x i)[H.length + 1]? = some (.cells [.rp (x.l ++ zlL x)] 100):=zay (zbD H _ 1);have g2 : (zm4 H x i)[H.length + 2]? = some (.cells [uv (2 ^ x.locks.length - 1 : Nat)] 110):=zay (zbD H _ 2);unfold zoS;generalize zm4 H x i = K at hKl g1 g2 hsuc hE ⊢;rw [<- hKl];refine zfK ?_;refine zlu ?_;refine ⟨fun h => ?_,fun h => ?_⟩
  ·have hi2 : i <= 2:=by
    have : (0 : Int) <= 2 - i:=(by simpa using h);omega
   have hm : (2 : Int) - i = ((2 - i : Nat) : Int):=(by omega);have hm1 : IntKind.i64.wrap (((2 - i : Nat) : Int) - 1) = 2 - ((i + 1 : Nat) : Int):=(by rw [zau _ (by omega)]; omega);have h3i : 3 - i = (2 - i) + 1:=(by omega);have hmt:=hmt.trans (show zmr x (3 - i) = match znr x.cuts.toNat (zo7 x (2 - i)) with
    | some d => some (d,2 - i)
    | none => zmr x (2 - i) from by rw [h3i]; rfl)
   rw [hm];refine zly ?_;refine zl5 ?_;simp only [seval,zay g1,List.mapM_cons,List.mapM_nil,Option.pure_def,Option.bind_eq_bind];refine zl6 ((f137_c hx (zqM (a:=K.length) (r:=H.length + 1) (d:=H.length + 2) (m:=2 - i) hx (by omega) (by simp only [seval] <;> rfl) (zay g1) (zay g2)) ?_));(try simp only [seval]);refine zfK ?_;refine zlu ?_;cases hf : znr x.cuts.toNat (zo7 x (2 - i)) with
   | some d =>
    rw [hf] at hmt;refine ⟨fun h4 => ?_,fun h4 => by simp at h4⟩;refine zl8 3 ?_;simp only [seval];refine zlz ?_;obtain ⟨G,hG⟩:=hE [.cells [iv ((2 - i : Nat) : Int)] 3];simp only [iv] at hG;rw [hG];exact endA hH (Wk.refl _) (by simp [zap,zaD,zbi]) (h3 d (2 - i) hmt)
   | none =>
    rw [hf] at hmt;refine ⟨fun h4 => by simp at h4,fun h4 => ?_⟩;refine zly ?_;refine zfK ?_;refine zfK ?_;refine zl5 ?_;simp only [seval,hm1];have h8 : H.length + 3 + (i + 1) = K.length + 1:=(by omega);refine ⟨i + 1,by show 4 - (i + 1) < 4 - i; omega,⟨by omega,hmt.trans (by rw [show 3 - (i + 1) = 2 - i by omega])⟩,.inl ⟨fun t' a e => zh2 (T':=[(5,.op (H.length + 1) 0),(7,.op (H.length + 2) 0),(8,.op (H.length + 3 + (i + 1)) 0)]) (by rw [h8]; simp only [seval]; simp [zaf,Wk.refl]) e,?_⟩⟩;show _ = zm4 H x (i + 1) ++ [.cells [iv (2 - ((i + 1 : Nat) : Int))] 3];rw [hsuc,hm];simp
  ·have hi2 : i = 3:=by
    have : ¬ (0 : Int) <= 2 - i:=(by simpa using h);omega
   subst hi2;refine zlF ?_;refine zfK ?_;refine zlz ?_;obtain ⟨G,hG⟩:=hE [.cells [iv (-1)] 3];simp only [iv] at hG;rw [hG];exact endA hH (Wk.refl _) (by simp [zap,zaD,zbh]) (h2 hmt)
def zqi (n : Nat) : Nat -> Nat -> List (List Int)
 | 0,_ => [[]]
 | k + 1,first => (List.range' first (n - k - first)).flatMap fun i => (zqi n k (i + 1)).map ((i : Int) :: ·)
def znH (n : Nat) : List (List Int):=(List.range (n + 1)).flatMap fun k => zqi n k 0
theorem zlE : ∀ n,n <= 6 -> znH n = (List.range (n + 1)).flatMap (zmA n):=by decide +kernel
end
section
variable {lv : Bool}
end
theorem zlI : ∀ n,n <= 6 -> ∀ r ∈ znH n,r.length <= 6 /\ ∀ i ∈ r,0 <= i /\ i < n:=by decide +kernel
section
variable {lv : Bool} {H : List AObj} {k kp : AV -> List AObj -> Prop}
end
def zmf (n : Nat) : Nat -> List (List Int)
 | 0 => [[]]
 | k + 1 => (List.range n).flatMap fun i : Nat => (zmf n k).map ((i : Int) :: ·)
theorem zeh : ∀ n,n <= 4 -> ∀ k,k <= 4 -> (zmf n k).length <= 256 /\ ∀ r ∈ zmf n k,r.length = k /\ ∀ i ∈ r,0 <= i /\ i < n:=by decide +kernel
section
variable {lv : Bool}
end
section
variable {lv : Bool} {H : List AObj} {k kp : AV -> List AObj -> Prop}
def zn2 (x : Ring) (t : List Int) : Nat -> Bool
 | 0 => true
 | k + 1 => zn2 x t k && (match x.keys[k]?,t[k]? with | some y,some w => decide (y.wear.min <= w) && decide (w <= y.wear.max) | _,_ => true)
def znE (x : Ring) (t : List Int) : Nat -> Bool
 | 0 => true
 | i + 1 => znE x t i && (match x.tries[i]? with | some r => znd x.keys t x.locks r.key r.lock == r.opens | none => true)
def zuN (x : Ring) (t : List Int) : Bool:=zn2 x t x.keys.length && znE x t x.tries.length
def zmy (x : Ring) : List (List Int):=(zmf 3 x.keys.length).filter (zuN x)
theorem zgv {x : Ring} {t : List Int} {k : Nat} {y : Key} {w : Int} (hy : x.keys[k]? = some y) (hw : t[k]? = some w) : zn2 x t (k + 1) = (zn2 x t k && (decide (y.wear.min <= w) && decide (w <= y.wear.max))):=by rw [zn2,hy,hw]
theorem zf9 {x : Ring} {t : List Int} {i : Nat} {r : Try} (hr : x.tries[i]? = some r) : znE x t (i + 1) = (znE x t i && (znd x.keys t x.locks r.key r.lock == r.opens)):=by rw [znE,hr]
def zoN (ks : List Key) (r : List Int) : Bool:=(ks.zip r).all fun p => decide (p.1.wear.min <= p.2) && decide (p.2 <= p.1.wear.max)
theorem zlx (y : Key) (ks : List Key) (w : Int) (r : List Int) : zoN (y :: ks) (w :: r) = (decide (y.wear.min <= w) && decide (w <= y.wear.max) && zoN ks r):=by simp [zoN]
theorem zlU {lo hi : Int} (h0 : 0 <= lo) (h1 : lo <= hi) (h2 : hi <= 2) {β : Type} (f : Int -> List β) : (zmH lo hi).flatMap f = (List.range 3).flatMap fun i : Nat => if decide (lo <= (i : Int)) && decide ((i : Int) <= hi) then f i else []:=by
 have hr : List.range 3 = [0,1,2]:=rfl;have hl : lo = 0 \/ lo = 1 \/ lo = 2:=by omega
 have hh : hi = 0 \/ hi = 1 \/ hi = 2:=by omega
 rw [hr];rcases hl with rfl | rfl | rfl <;> rcases hh with rfl | rfl | rfl <;> first | omega | (simp [zmH,List.range_succ])
theorem zli : ∀ (ys : List Key) (pre : List Int) (m : Nat),(∀ y ∈ ys,y.wear.Ok 2) -> zmz ys pre.length (pre ++ List.replicate (m + ys.length) 0) = ((zmf 3 ys.length).filter (zoN ys)).map fun r => pre ++ r ++ List.replicate m 0
 | [],pre,m,_ => by simp [zmz,zmf,zoN]
 | y :: ys,pre,m,h => by
  have hy:=h y List.mem_cons_self;rw [zmz,zlU hy.min hy.le hy.max];show _ = (((List.range 3).flatMap fun i : Nat => (zmf 3 ys.length).map ((i : Int) :: ·)).filter (zoN (y :: ys))).map _;rw [List.filter_flatMap,List.map_flatMap];congr 1;funext i;have hset : (pre ++ List.replicate (m + (y :: ys).length) 0).set pre.length (i : Int) = (pre ++ [(i : Int)]) ++ List.replicate (m + ys.length) 0:=by
   rw [List.set_append_right _ _ (Nat.le_refl _),Nat.sub_self,List.length_cons,<- Nat.add_assoc,List.replicate_succ,List.set_cons_zero,List.append_assoc]; rfl
  have ih:=zli ys (pre ++ [(i : Int)]) m fun z hz => h z (List.mem_cons_of_mem _ hz);rw [List.length_append,List.length_singleton] at ih;rw [hset,ih];cases hc : (decide (y.wear.min <= (i : Int)) && decide ((i : Int) <= y.wear.max)) with
  | true =>
   rw [if_pos rfl,List.filter_map,List.map_map];have : (zoN (y :: ys) ∘ fun x => (i : Int) :: x) = zoN ys:=(by funext r; simp only [Function.comp]; rw [zlx,hc,Bool.true_and]);rw [this];congr 1;funext r;simp
  | false =>
   rw [if_neg (by simp),List.filter_map,List.map_map];have : (zoN (y :: ys) ∘ fun x => (i : Int) :: x) = fun _ => false:=(by funext r; simp only [Function.comp]; rw [zlx,hc,Bool.false_and]);rw [this];simp
def padR (n : Nat) (r : List Int) : List Int:=r ++ List.replicate (4 - n) 0
theorem zlG {x : Ring} (hx : x.Ok) : zlJ x = ((zmf 3 x.keys.length).filter (zoN x.keys)).map (padR x.keys.length):=by
 have h4:=hx.keys;have h:=zli x.keys [] (4 - x.keys.length) fun y hy => (hx.key y hy).2.2;rw [show 4 - x.keys.length + x.keys.length = 4 by omega] at h;exact h
theorem zlw (x : Ring) (t : List Int) : ∀ k,k <= x.keys.length -> k <= t.length -> zn2 x t k = ((x.keys.zip t).take k).all fun p => decide (p.1.wear.min <= p.2) && decide (p.2 <= p.1.wear.max)
 | 0,_,_ => rfl
 | k + 1,h,h' => by
  obtain ⟨y,hy⟩:=zaE (xs:=x.keys) (i:=k) (by omega);obtain ⟨w,hw⟩:=zaE (xs:=t) (i:=k) (by omega);have hz : (x.keys.zip t)[k]? = some (y,w):=by rw [List.getElem?_zip_eq_some]; exact ⟨hy,hw⟩
  rw [zgv hy hw,zlw x t k (by omega) (by omega)];obtain ⟨hj,hle⟩:=List.getElem?_eq_some_iff.1 hz;rw [List.take_succ_eq_append_getElem hj,hle,List.all_append];simp
theorem zlP {x : Ring} {t : List Int} (h : t.length = x.keys.length) : zn2 x t x.keys.length = zoN x.keys t:=by
 rw [zlw x t _ (Nat.le_refl _) (by omega),List.take_of_length_le (by simp [h])]; rfl
theorem ziC (cuts : Int) (ds : List Int) (ls : List (List Band)) (j : Nat) : ∀ i,(zl9 cuts ds ls i).testBit j = (decide (j < i) && (match ls[j]? with | some l => zmM (ds.take cuts.toNat) l | none => false))
 | 0 => by simp [zl9]
 | i + 1 => by
  have ih:=ziC cuts ds ls j i;have hlt:=zb5 cuts ds ls i;have hhi : (zl9 cuts ds ls i).testBit i = false:=Nat.testBit_lt_two_pow hlt;unfold zl9;by_cases hji : j = i
  ·subst hji;cases hl : ls[j]? with
   | none => simp [hhi]
   | some l =>
    simp only;split
    ·rename_i hf; simp [Nat.testBit_or,Nat.testBit_two_pow_self,hf]
    ·rename_i hf; simp [hhi,hf]
  ·have hd : decide (j < i + 1) = decide (j < i):=(by congr 1; simp; omega);rw [hd];cases hl : ls[i]? with
   | none => exact ih
   | some l =>
    simp only;split
    ·rw [Nat.testBit_or,ih,Nat.testBit_two_pow_of_ne (Ne.symm hji),Bool.or_false]
    ·exact ih
theorem zf8 {x : Ring} (hx : x.Ok) {t : List Int} (ht : t.length = x.keys.length) (hb : ∀ w ∈ t,0 <= w /\ w <= 2) {k l : Nat} (hk : k < x.keys.length) (hl : l < x.locks.length) : (zmD x (padR x.keys.length t) k).testBit l = znd x.keys t x.locks k l:=by
 obtain ⟨y,hy⟩:=zaE hk;obtain ⟨lk,hlk⟩:=zaE hl;obtain ⟨w,hw⟩:=zaE (xs:=t) (i:=k) (by omega);obtain ⟨hyc,hyb,hyw⟩:=hx.key y (zas hy);have hw0:=(hb w (zas hw)).1;have hc:=hx.cuts;have hp : (padR x.keys.length t).getD k 0 = w:=by
  unfold padR;rw [List.getD_eq_getElem?_getD,List.getElem?_append_left (by omega),hw]; rfl
 have how : znd x.keys t x.locks k l = zmM (zlY w y.cuts) lk:=by
  unfold znd;simp only [Int.toNat_natCast,List.getD_eq_getElem?_getD,hy,hw,hlk,Option.map_some,Option.getD_some]
 rw [how];unfold zmD zmd;rw [hp,hy];simp only;rw [ziC,hlk];have hwn : ((w.toNat : Nat) : Int) = w:=by omega
 have htk : (zlY (w.toNat : Nat) (zlW y.cuts)).take x.cuts.toNat = zlY w y.cuts:=by
  rw [hwn];unfold zlY zlW;rw [List.take_of_length_le (show y.cuts.length <= 4 by omega),List.map_append,List.take_append_of_le_length (by simp; omega),List.take_of_length_le (by simp; omega)]
 rw [htk];simp [hl]
def allW (x : Ring) (t : List Int) (w : Nat) : Bool:=x.locks.all fun l => zmM (zlY w t) l
def znm (x : Ring) (t : List Int) : Nat -> Int
 | 0 => -1
 | w + 1 => if znm x t w = (w : Int) - 1 /\ allW x t w = true then w else znm x t w
theorem zoG (x : Ring) (t : List Int) : znm x t 3 = if allW x t 0 then (if allW x t 1 then (if allW x t 2 then 2 else 1) else 0) else -1:=by
 simp only [znm];by_cases h0 : allW x t 0 = true <;> by_cases h1 : allW x t 1 = true <;> by_cases h2 : allW x t 2 = true <;> simp [h0,h1,h2]
theorem zp8 (cuts : Int) (ds : List Int) (ls : List (List Band)) : (zl9 cuts ds ls ls.length == 2 ^ ls.length - 1) = ls.all fun l => zmM (ds.take cuts.toNat) l:=by
 rw [Bool.eq_iff_iff,beq_iff_eq,List.all_eq_true];refine ⟨fun e l hl => ?_,fun h => Nat.eq_of_testBit_eq fun j => ?_⟩
 ·obtain ⟨j,hj⟩:=List.mem_iff_getElem?.1 hl;have hjl:=get_lt hj;have:=ziC cuts ds ls j ls.length;rw [e,Nat.testBit_two_pow_sub_one,hj] at this;simpa [hjl] using this
 ·rw [ziC,Nat.testBit_two_pow_sub_one];by_cases hjl : j < ls.length
  ·obtain ⟨l,hl⟩:=zaE hjl;rw [hl]; simp [hjl,h l (zas hl)]
  ·simp [hjl]
theorem zqG : ∀ c,c <= 4 -> ((List.range (4 ^ c)).map (digs c)).map (·.take c) = zmf 4 c:=by decide +kernel
theorem zpT {c : Nat} (hc : c <= 4) (g : List Int -> Bool) : znr c (fun d => g (d.take c)) = (zmf 4 c).find? g:=by
 unfold znr; rw [<- zqG c hc,List.find?_map (f:=fun d : List Int => d.take c)]; rfl
theorem zsq {x : Ring} {m : Nat} (hm : m <= 2) (ds : List Int) : zo7 x m ds = decide ((m : Int) <= znm x (ds.take x.cuts.toNat) 3):=by
 have h : ∀ n : Nat,(zl9 x.cuts (zlY n ds) x.locks x.locks.length == 2 ^ x.locks.length - 1) = allW x (ds.take x.cuts.toNat) n:=fun n => by
  rw [zp8];unfold allW;congr 1;funext l;unfold zlY;rw [List.map_take]
 unfold zo7;simp only [h];rw [zoG];have : m = 0 \/ m = 1 \/ m = 2:=by omega
 rcases this with rfl | rfl | rfl <;> simp only [List.range_succ,List.range_zero,List.nil_append,List.cons_append,List.all_cons,List.all_nil,Bool.and_true] <;> generalize ds.take x.cuts.toNat = t <;> by_cases h0 : allW x t 0 = true <;> by_cases h1 : allW x t 1 = true <;> by_cases h2 : allW x t 2 = true <;> simp [h0,h1,h2]
theorem zoW {x : Ring} (hc : x.cuts.toNat <= 4) {m : Nat} (hm : m <= 2) : znr x.cuts.toNat (zo7 x m) = (zmf 4 x.cuts.toNat).find? fun t => decide ((m : Int) <= znm x t 3):=by
 rw [<- zpT hc];congr 1;funext ds;exact zsq hm ds
def znU (x : Ring) (L : List (List Int)) : Nat -> Int × Int
 | 0 => (-1,-1)
 | i + 1 => if (znU x L i).2 < znm x (L.getD i []) 3 then ((i : Int),znm x (L.getD i []) 3) else znU x L i
theorem zoV (x : Ring) (t : List Int) : -1 <= znm x t 3 /\ znm x t 3 <= 2:=by
 rw [zoG]; by_cases h0 : allW x t 0 = true <;> by_cases h1 : allW x t 1 = true <;> by_cases h2 : allW x t 2 = true <;> simp [h0,h1,h2]
theorem znj (x : Ring) (L : List (List Int)) : ∀ i,(∀ j < i,znm x (L.getD j []) 3 <= (znU x L i).2) /\ (((znU x L i).1 = -1 /\ (znU x L i).2 = -1) \/ ∃ n : Nat,(znU x L i).1 = n /\ n < i /\ (znU x L i).2 = znm x (L.getD n []) 3 /\ 0 <= (znU x L i).2 /\ ∀ j < n,znm x (L.getD j []) 3 < (znU x L i).2)
 | 0 => ⟨fun j h => absurd h (Nat.not_lt_zero _),.inl ⟨rfl,rfl⟩⟩
 | i + 1 => by
  obtain ⟨h1,h2⟩:=znj x L i;have hr:=zoV x (L.getD i []);unfold znU;by_cases h : (znU x L i).2 < znm x (L.getD i []) 3
  ·rw [if_pos h];simp only;have hb : -1 <= (znU x L i).2:=by
    rcases h2 with ⟨_,h3⟩ | ⟨n,_,_,_,h3,_⟩ <;> omega
   refine ⟨fun j hj => ?_,.inr ⟨i,rfl,by omega,rfl,by omega,fun j hj => ?_⟩⟩
   ·by_cases e : j = i
    ·rw [e]; exact Int.le_refl _
    ·have:=h1 j (by omega); omega
   ·have:=h1 j hj; omega
  ·rw [if_neg h];refine ⟨fun j hj => ?_,h2.imp id fun ⟨n,q1,q2,q3⟩ => ⟨n,q1,by omega,q3⟩⟩;by_cases e : j = i
   ·rw [e]; omega
   ·exact h1 j (by omega)
theorem zm3 {x : Ring} (hc : x.cuts.toNat <= 4) {m : Nat} (hm : m <= 2) (h : ∀ t ∈ zmf 4 x.cuts.toNat,znm x t 3 < m) : zmr x (m + 1) = zmr x m:=by
 rw [zmr,zoW hc hm,zdt fun t ht => by have:=h t ht; simp; omega]
theorem zqF {x : Ring} (hc : x.cuts.toNat <= 4) {m n : Nat} {t : List Int} (hm : m <= 2) (ht : (zmf 4 x.cuts.toNat)[n]? = some t) (h1 : (m : Int) <= znm x t 3) (h2 : ∀ j < n,znm x ((zmf 4 x.cuts.toNat).getD j []) 3 < m) : zmr x (m + 1) = some (t,m):=by
 rw [zmr,zoW hc hm,zfN (j:=n) (x:=t) ht (by simpa using h1) fun y hy => ?_];obtain ⟨j,hj⟩:=List.mem_iff_getElem?.1 hy;rw [List.getElem?_take] at hj;split at hj
 ·rename_i hjn;have:=h2 j hjn;rw [List.getD_eq_getElem?_getD,hj,Option.getD_some] at this;simp; omega
 ·cases hj
theorem zqE {x : Ring} (hc : x.cuts.toNat <= 4) {b m : Int} (hb : znU x (zmf 4 x.cuts.toNat) (zmf 4 x.cuts.toNat).length = (b,m)) : (b < 0 -> zmr x 3 = none) /\ (0 <= b -> ∃ (n k : Nat) (t : List Int),b = n /\ m = k /\ (zmf 4 x.cuts.toNat)[n]? = some t /\ zmr x 3 = some (t,k)):=by
 obtain ⟨h1,h2⟩:=znj x (zmf 4 x.cuts.toNat) (zmf 4 x.cuts.toNat).length;rw [hb] at h1 h2;simp only at h1 h2;have hall : ∀ t ∈ zmf 4 x.cuts.toNat,znm x t 3 <= m:=fun t ht => by
  obtain ⟨j,hj⟩:=List.mem_iff_getElem?.1 ht;have:=h1 j (get_lt hj);rwa [List.getD_eq_getElem?_getD,hj,Option.getD_some] at this
 refine ⟨fun hn => ?_,fun hn => ?_⟩
 ·rcases h2 with ⟨_,rfl⟩ | ⟨n,rfl,_⟩
  ·rw [zm3 hc (by omega) fun t ht => by have:=hall t ht; omega,zm3 hc (by omega) fun t ht => by have:=hall t ht; omega,zm3 hc (by omega) fun t ht => by have:=hall t ht; omega];rfl
  ·omega
 ·rcases h2 with ⟨rfl,_⟩ | ⟨n,rfl,hnl,hm,hm0,hlt⟩
  ·omega
  ·obtain ⟨t,ht⟩:=zaE hnl;rw [List.getD_eq_getElem?_getD,ht,Option.getD_some] at hm;have hr:=zoV x t;obtain ⟨k,rfl⟩ : ∃ k : Nat,m = k:=⟨m.toNat,by omega⟩;refine ⟨n,k,t,rfl,rfl,ht,?_⟩;have hhit:=zqF hc (m:=k) (by omega) ht (by omega) hlt;have : k = 0 \/ k = 1 \/ k = 2:=(by omega);rcases this with rfl | rfl | rfl
   ·rw [zm3 hc (by omega) fun t ht => by have:=hall t ht; omega,zm3 hc (by omega) fun t ht => by have:=hall t ht; omega,hhit]
   ·rw [zm3 hc (by omega) fun t ht => by have:=hall t ht; omega,hhit]
   ·exact hhit
def znT (x : Ring) (t keys : List Int) (p q : Nat) : Bool:=keys.any fun k => znd x.keys t x.locks k p != znd x.keys t x.locks k q
theorem zlN {x : Ring} (hx : x.Ok) {t : List Int} (ht : t.length = x.keys.length) (hb : ∀ w ∈ t,0 <= w /\ w <= 2) : ∀ i,i <= x.tries.length -> okTo x [] (padR x.keys.length t) i = znE x t i
 | 0,_ => rfl
 | i + 1,h => by
  obtain ⟨r,hr⟩:=zaE (xs:=x.tries) (i:=i) (by omega);obtain ⟨⟨hk0,hk⟩,hl0,hl⟩:=hx.tried r (zas hr);rw [okTo,zlN hx ht hb i (by omega),zf9 hr,hr];have h1:=zf8 hx ht hb (k:=r.key.toNat) (l:=r.lock.toNat) (by omega) (by omega);have e1 : ((r.key.toNat : Nat) : Int) = r.key:=by omega
  have e2 : ((r.lock.toNat : Nat) : Int) = r.lock:=by omega
  rw [e1,e2] at h1;simp only [List.contains_nil,Bool.false_or];unfold zpc;rw [<- h1]; rfl
theorem zlO {α : Type} (l : List α) (p : α -> Bool) : ((l.zipIdx.filter fun y => p y.1).map (·.1)) = l.filter p:=by
 have h:=List.filter_map (f:=fun y : α × Nat => y.1) (p:=p) (l:=l.zipIdx);rw [List.zipIdx_map_fst] at h;exact h.symm
theorem zgX {x : Ring} (hx : x.Ok) : (zlD x []).map (·.1) = (zmy x).map (padR x.keys.length):=by
 unfold zlD zmu;rw [zlO (zlJ x) fun r => okTo x [] r x.tries.length,zlG hx,List.filter_map,List.filter_filter];congr 1;unfold zmy;refine List.filter_congr fun t ht => ?_;obtain ⟨h1,h2⟩:=(zeh 3 (by omega) x.keys.length hx.keys).2 t ht;have hb : ∀ w ∈ t,0 <= w /\ w <= 2:=fun w hw => by have:=h2 w hw; omega
 simp only [Function.comp];rw [zlN hx h1 hb _ (Nat.le_refl _),zuN,zlP h1,Bool.and_comm]
theorem zlQ {x : Ring} (hx : x.Ok) : (zlD x []).length = (zmy x).length:=by
 have:=congrArg List.length (zgX hx);rwa [List.length_map,List.length_map] at this
theorem zlR {x : Ring} (hx : x.Ok) (f : List Int -> Bool) : ((zlD x []).all fun y => f y.1) = (zmy x).all fun t => f (padR x.keys.length t):=by
 have h:=congrArg (fun l => List.all l f) (zgX hx);simp only [List.all_map] at h;exact h
theorem zhQ {x : Ring} (hx : x.Ok) : ∀ t ∈ zmy x,t.length = x.keys.length /\ ∀ w ∈ t,0 <= w /\ w <= 2:=fun t ht => by
 obtain ⟨h1,h2⟩:=(zeh 3 (by omega) x.keys.length hx.keys).2 t (List.mem_filter.1 ht).1;exact ⟨h1,fun w hw => by have:=h2 w hw; omega⟩
end
def zqm (x : Ring) (t keys : List Int) (n : Nat) : Bool:=(List.range n).all fun b => (List.range b).all fun a => znT x t keys b a
def tellL (x : Ring) (keys : List Int) : Bool:=(zmy x).all fun t => zqm x t keys x.locks.length
theorem zrx {x : Ring} (hx : x.Ok) {keys : List Int} (hk : ∀ k ∈ keys,0 <= k /\ k < x.keys.length) : zpt x (zlD x []) keys = tellL x keys:=by
 unfold zpt tellL;rw [zlR hx fun r => zpL x r keys,Bool.eq_iff_iff];simp only [List.all_eq_true];refine forall_congr' fun t => forall_congr' fun ht => ?_;obtain ⟨h1,h2⟩:=zhQ hx t ht;rw [<- Bool.eq_iff_iff];unfold zpL zqm;rw [Bool.eq_iff_iff];simp only [List.all_eq_true,List.mem_range];refine forall_congr' fun b => forall_congr' fun hb => forall_congr' fun a => forall_congr' fun ha => ?_;rw [<- Bool.eq_iff_iff];unfold znC znT;rw [Bool.eq_iff_iff];simp only [List.any_eq_true];refine exists_congr fun k => and_congr_right fun hkm => ?_;obtain ⟨hk0,hk1⟩:=hk k hkm;have e : ((k.toNat : Nat) : Int) = k:=by omega
 have e1:=zf8 hx h1 h2 (k:=k.toNat) (l:=a) (by omega) (by omega);have e2:=zf8 hx h1 h2 (k:=k.toNat) (l:=b) (by omega) (by omega);rw [e] at e1 e2;rw [e1,e2];simp only [bne_iff_ne];exact ne_comm
theorem zlT {x : Ring} (hx : x.Ok) : zpH x = (znH x.keys.length).find? (zpt x (zlD x [])):=by
 unfold zpH zm5;rw [zlE _ (by have:=hx.keys; omega)]
section
variable {H : List AObj} {k kp : AV -> List AObj -> Prop}
end
section
variable {lv : Bool} {H : List AObj} {k kp : AV -> List AObj -> Prop}
end
theorem zqe {x : Ring} (hx : x.Ok) : zlD x [] = [] <-> zmy x = []:=by rw [<- List.length_eq_zero_iff,zlQ hx,List.length_eq_zero_iff]
section
variable {H : List AObj} {k kp : AV -> List AObj -> Prop}
def alS (S : Nat -> Nat -> Bool) : Nat -> List Int × Nat
 | 0 => ([],0)
 | b + 1 => match (List.range b).find? fun a => S a b with
  | some a => ((alS S b).1 ++ [(alS S b).1.getD a 0],(alS S b).2)
  | none => ((alS S b).1 ++ [((alS S b).2 : Int)],(alS S b).2 + 1)
theorem zrd (S : Nat -> Nat -> Bool) : ∀ b,(alS S b).1.length = b
 | 0 => rfl
 | b + 1 => by
  unfold alS;split <;> simp [zrd S b]
theorem zpY {S S' : Nat -> Nat -> Bool} : ∀ n,(∀ b < n,∀ a < b,S a b = S' a b) -> alS S n = alS S' n
 | 0,_ => rfl
 | b + 1,h => by
  have ih:=zpY b fun c hc a ha => h c (by omega) a ha;have hf : (List.range b).find? (fun a => S a b) = (List.range b).find? (fun a => S' a b):=by
   have hm : ∀ l : List Nat,(∀ a ∈ l,a < b) -> l.find? (fun a => S a b) = l.find? (fun a => S' a b):=fun l => by
    induction l with
    | nil => intro _; rfl
    | cons a l ih => intro hl; rw [List.find?_cons,List.find?_cons,h b (by omega) a (hl a List.mem_cons_self),ih fun c hc => hl c (List.mem_cons_of_mem _ hc)]
   exact hm _ fun a ha => List.mem_range.1 ha
  rw [alS,alS,hf,ih]
theorem zpo (x : Ring) (ts : List (List Int × Nat)) (keys : List Int) : ∀ b,zmE x ts keys b = alS (zp7 x ts keys) b
 | 0 => rfl
 | b + 1 => by rw [zmE,alS,zpo x ts keys b] <;> rfl
def smL (x : Ring) (D : List (List Int)) (keys : List Int) (p q : Nat) : Bool:=D.all fun t => !znT x t keys p q
theorem zrE {x : Ring} (hx : x.Ok) {keys : List Int} (hk : ∀ k ∈ keys,0 <= k /\ k < x.keys.length) {a b : Nat} (ha : a < x.locks.length) (hb : b < x.locks.length) : zp7 x (zlD x []) keys a b = smL x (zmy x) keys b a:=by
 unfold zp7 smL;rw [zlR hx fun r => !znC x r keys a b,Bool.eq_iff_iff];simp only [List.all_eq_true];refine forall_congr' fun t => forall_congr' fun ht => ?_;obtain ⟨h1,h2⟩:=zhQ hx t ht;have e : znC x (padR x.keys.length t) keys a b = znT x t keys b a:=by
  unfold znC znT;rw [Bool.eq_iff_iff];simp only [List.any_eq_true];refine exists_congr fun k => and_congr_right fun hkm => ?_;obtain ⟨hk0,hk1⟩:=hk k hkm;have e : ((k.toNat : Nat) : Int) = k:=by omega
  have e1:=zf8 hx h1 h2 (k:=k.toNat) (l:=a) (by omega) ha;have e2:=zf8 hx h1 h2 (k:=k.toNat) (l:=b) (by omega) hb;rw [e] at e1 e2;rw [e1,e2];simp only [bne_iff_ne];exact ne_comm
 rw [e]
def alkS (x : Ring) (a b : Nat) : Bool:=smL x (zmy x) (zm8 x.keys.length) b a
theorem zqV {n : Nat} {k : Int} : k ∈ zm8 n <-> 0 <= k /\ k < n:=by
 unfold zm8;rw [List.mem_map];refine ⟨fun ⟨i,h,e⟩ => by have:=List.mem_range.1 h; omega,fun h => ⟨k.toNat,List.mem_range.2 (by omega),by omega⟩⟩
theorem zrc {x : Ring} (hx : x.Ok) : zpp x = (alS (alkS x) x.locks.length).1:=by
 unfold zpp;rw [zpo,zpY _ fun b hb a ha => ?_];exact zrE hx (fun k hk => zqV.1 hk) (by omega) hb
def ztS (x : Ring) (t keys : List Int) (l : Nat) : Bool:=keys.any fun k => znd x.keys t x.locks k l
def zqv (x : Ring) (t keys : List Int) (n : Nat) : Bool:=(List.range n).all fun l => ztS x t keys l
def zq5 (x : Ring) (keys : List Int) : Bool:=(zmy x).all fun t => zqv x t keys x.locks.length
theorem zl1 (x : Ring) (t : List Int) (l : Nat) : ∀ (keys : List Int) (a : Nat),(keys.foldl (fun a q => a ||| zmD x t q.toNat) a).testBit l = (a.testBit l || keys.any fun q => (zmD x t q.toNat).testBit l)
 | [],a => by simp
 | q :: keys,a => by
  rw [List.foldl_cons,zl1 x t l keys,Nat.testBit_or,List.any_cons,Bool.or_assoc]
theorem zqD {x : Ring} (k w : Nat) : zmd x k w < 2 ^ x.locks.length:=by
 unfold zmd;split
 ·exact zb5 _ _ _ _
 ·exact Nat.two_pow_pos _
theorem zuh {x : Ring} (t keys : List Int) : orM x t keys < 2 ^ x.locks.length:=by
 unfold orM;have : ∀ (l : List Int) (a : Nat),a < 2 ^ x.locks.length -> l.foldl (fun a q => a ||| zmD x t q.toNat) a < 2 ^ x.locks.length:=by
  intro l;induction l with
  | nil => exact fun a h => h
  | cons y l ih => exact fun a h => ih _ (Nat.or_lt_two_pow h (zqD _ _))
 exact this keys 0 (Nat.two_pow_pos _)
theorem zl2 {a n : Nat} (h : a < 2 ^ n) : a = 2 ^ n - 1 <-> ∀ l,l < n -> a.testBit l = true:=by
 constructor
 ·rintro rfl l hl
  rw [Nat.testBit_two_pow_sub_one]; simpa using hl
 ·intro hb;refine Nat.eq_of_testBit_eq fun l => ?_;rw [Nat.testBit_two_pow_sub_one];by_cases hl : l < n
  ·rw [hb l hl]; simp [hl]
  ·rw [Nat.testBit_lt_two_pow (Nat.lt_of_lt_of_le h (Nat.pow_le_pow_right (by decide) (Nat.le_of_not_lt hl)))]; simp [hl]
theorem zl3 {x : Ring} (hx : x.Ok) {keys : List Int} (hk : ∀ k ∈ keys,0 <= k /\ k < x.keys.length) : zol x (zlD x []) keys = zq5 x keys:=by
 unfold zol zq5;rw [zlR hx fun r => orM x r keys == 2 ^ x.locks.length - 1,Bool.eq_iff_iff];simp only [List.all_eq_true];refine forall_congr' fun t => forall_congr' fun ht => ?_;obtain ⟨h1,h2⟩:=zhQ hx t ht;rw [beq_iff_eq,zl2 (zuh _ _)];unfold zqv;simp only [List.all_eq_true,List.mem_range];refine forall_congr' fun l => forall_congr' fun hl => ?_;unfold orM ztS;rw [zl1,Nat.zero_testBit,Bool.false_or,<- Bool.eq_iff_iff,Bool.eq_iff_iff];simp only [List.any_eq_true];refine exists_congr fun k => and_congr_right fun hkm => ?_;obtain ⟨hk0,hk1⟩:=hk k hkm;have e : ((k.toNat : Nat) : Int) = k:=by omega
 have e1:=zf8 hx h1 h2 (k:=k.toNat) (l:=l) (by omega) hl;rw [e] at e1;rw [e1]
theorem zl0 {x : Ring} (hx : x.Ok) : zox x = (znH x.keys.length).find? (zol x (zlD x [])):=by
 unfold zox zm5;rw [zlE _ (by have:=hx.keys; omega)]
end
def Key.rev (y : Key) : Key:=⟨y.cuts.reverse,y.wear⟩
def Ring.rev (x : Ring) : Ring:=⟨x.cuts,x.keys.map Key.rev,x.locks.map List.reverse,x.tries⟩
def fitB (p : Int × Band) : Bool:=decide (p.2.min <= p.1) && decide (p.1 <= p.2.max)
theorem zpz : ∀ (ds : List Int) (bs : List Band),zmM ds bs = (ds.zip bs).all fitB
 | [],_ => rfl
 | _ :: _,[] => rfl
 | d :: ds,b :: bs => by simp [zmM,fitB,zpz ds bs]
theorem zov {ds : List Int} {bs : List Band} (h : ds.length = bs.length) : zmM ds.reverse bs.reverse = zmM ds bs:=by
 rw [zpz,zpz];have e : ds.reverse.zip bs.reverse = (ds.zip bs).reverse:=by
  unfold List.zip;rw [List.reverse_zipWith h]
 rw [e,List.all_reverse]
theorem zoo {x : Ring} (hx : x.Ok) (t : List Int) (k l : Int) : znd x.rev.keys t x.rev.locks k l = znd x.keys t x.locks k l:=by
 unfold znd Ring.rev;simp only [List.getElem?_map,List.getD_eq_getElem?_getD];cases hk : x.keys[k.toNat]? with
 | none => rfl
 | some y =>
  cases hl : x.locks[l.toNat]? with
  | none =>
   have : ∀ ds : List Int,zmM ds [] = true:=fun ds => (by cases ds <;> rfl);simp only [Option.map_some,Option.map_none,Option.getD_none,this]
  | some b =>
   have h1:=(hx.key y (zas hk)).1;have h2:=(hx.lock b (zas hl)).1;simp only [Option.map_some,Option.getD_some,Key.rev];have e : ∀ w,zlY w y.cuts.reverse = (zlY w y.cuts).reverse:=fun w => (by unfold zlY; rw [List.map_reverse]);rw [e,zov (by unfold zlY; rw [List.length_map]; omega)]
theorem zot {x : Ring} (hx : x.Ok) : x.rev.Ok where
 cuts:=hx.cuts
 keys:=by show (x.keys.map _).length <= 4; rw [List.length_map]; exact hx.keys
 key:=fun y hy => by
  obtain ⟨z,hz,rfl⟩:=List.mem_map.1 hy;obtain ⟨h1,h2,h3⟩:=hx.key z hz;exact ⟨by show ((z.cuts.reverse.length : Nat) : Int) = x.cuts; rw [List.length_reverse]; exact h1,fun n hn => h2 n (List.mem_reverse.1 hn),h3⟩
 locks:=by show (x.locks.map _).length <= 4; rw [List.length_map]; exact hx.locks
 lock:=fun y hy => by
  obtain ⟨z,hz,rfl⟩:=List.mem_map.1 hy;obtain ⟨h1,h2⟩:=hx.lock z hz;exact ⟨by show ((z.reverse.length : Nat) : Int) = x.cuts; rw [List.length_reverse]; exact h1,fun n hn => h2 n (List.mem_reverse.1 hn)⟩
 tries:=hx.tries
 tried:=fun t ht => by
  have:=hx.tried t ht;simp only [Ring.rev,List.length_map]; exact this
theorem znD {x : Ring} (hx : x.Ok) : zmy x.rev = zmy x:=by
 have hw : ∀ t n,zn2 x.rev t n = zn2 x t n:=fun t n => by
  induction n with
  | zero => rfl
  | succ n ih =>
   unfold zn2;rw [ih];simp only [Ring.rev,List.getElem?_map];cases x.keys[n]? with
   | none => rfl
   | some y => cases t[n]? <;> rfl
 have ht : ∀ t n,znE x.rev t n = znE x t n:=fun t n => by
  induction n with
  | zero => rfl
  | succ n ih =>
   unfold znE;rw [ih];have e : x.rev.tries = x.tries:=rfl;rw [e];cases hq : x.tries[n]? with
   | none => rfl
   | some r =>
    simp only;rw [zoo hx]
 unfold zmy zuN;rw [show x.rev.keys.length = x.keys.length from List.length_map ..];congr 1;funext t;rw [hw,ht]; rfl
theorem zpu (x : Ring) : x.rev.keys.length = x.keys.length:=List.length_map ..
theorem zoO (x : Ring) : x.rev.locks.length = x.locks.length:=List.length_map ..
section
variable {lv : Bool} {H : List AObj} {k kp : AV -> List AObj -> Prop}
def zou (x : Ring) (b : Bool) : Int:=if zms x ≠ 0 then zms x else if b then 0 else 3
end
section
variable {lv : Bool}
end
theorem zph {n : Nat} : ∀ {k : Nat} {t : List Int},t.length = k -> (∀ w ∈ t,0 <= w /\ w < n) -> t ∈ zmf n k
 | 0,t,h,_ => by rw [List.length_eq_zero_iff.1 h]; simp [zmf]
 | k + 1,[],h,_ => by simp at h
 | k + 1,w :: t,h,hw => by
  have h1:=zph (n:=n) (k:=k) (t:=t) (by simpa using h) fun v hv => hw v (List.mem_cons_of_mem _ hv);obtain ⟨h2,h3⟩:=hw w (List.mem_cons_self ..);unfold zmf;refine List.mem_flatMap.2 ⟨w.toNat,List.mem_range.2 (by omega),List.mem_map.2 ⟨t,h1,?_⟩⟩;have : ((w.toNat : Nat) : Int) = w:=by omega
  rw [this]
section
variable {H : List AObj} {k kp : AV -> List AObj -> Prop}
end
section
variable {lv : Bool} {H : List AObj} {k kp : AV -> List AObj -> Prop}
def zm1 (x : Ring) (b : Bool) : Int:=if zou x b ≠ 0 then zou x b else if zmy x = [] then 11 else 0
theorem zpQ {x : Ring} {b : Bool} (h : zou x b = 0) : x.Ok /\ b = true:=by
 unfold zou at h;split at h
 ·rename_i h1; exact absurd h h1
 ·rename_i h1;refine ⟨zbH.1 (by simpa using h1),?_⟩;cases b with
  | true => rfl
  | false => simp at h
theorem znk {x : Ring} {b : Bool} (h : zm1 x b = 0) : x.Ok /\ b = true /\ zmy x ≠ []:=by
 unfold zm1 at h;split at h
 ·rename_i h1; exact absurd h h1
 ·rename_i h1;obtain ⟨h2,h3⟩:=zpQ (by simpa using h1);refine ⟨h2,h3,fun e => ?_⟩;rw [if_pos e] at h; cases h
theorem zp9 {x : Ring} {fl : Option Int} {b : Bool} (h : fl = none <-> b = true) (hf : flE fl = 0 \/ flE fl = 3) : zmt x fl = zou x b:=by
 unfold zmt zou;split
 ·rfl
 ·cases fl with
  | none => rw [if_pos (h.1 rfl)]; rfl
  | some f =>
   have hb : b = false:=(by cases b with | false => rfl | true => cases h.2 rfl);rw [hb,if_neg (by simp)];rcases hf with hf | hf
   ·have : f = 0 \/ f = 1 \/ f = 2 \/ f = 3 \/ (f ≠ 0 /\ f ≠ 1 /\ f ≠ 2 /\ f ≠ 3):=(by omega);exfalso;unfold flE zoB at hf;simp only at hf;split at hf
    ·cases hf
    ·split at hf
     ·cases hf
     ·split at hf <;> cases hf
   ·exact hf
theorem zn4 {x : Ring} {fl : Option Int} {b : Bool} (h : fl = none <-> b = true) (hf : flE fl = 0 \/ flE fl = 3) : zlM x fl = zm1 x b:=by
 unfold zlM zm1;rw [zp9 h hf];split
 ·rfl
 ·rename_i h0;have hx:=(zpQ (by simpa using h0)).1;by_cases ht : zmy x = []
  ·rw [if_pos ((zqe hx).2 ht),if_pos ht]
  ·rw [if_neg fun e => ht ((zqe hx).1 e),if_neg ht]
def krO (N : Nat) (x : Ring) (z : AObj) (nk : Nat) (kl : List AV) (tk nl : Nat) (ll : List AV) (tl : Nat) : List AObj:=[.cells x.l 26,z,.cells [iv x.cuts,.sl nk kl (.opn (N + 3)),.sl nl ll (.opn (N + 4)),zmg x.tries] 26,.tail tk 3 65,.tail tl 1 29]
end
section
variable {lv : Bool} {k kp : AV -> List AObj -> Prop} {Gf : TinS -> List AObj} {t N : Nat} {τ : TinS} {b : Int}
end
def zq4 (P : Program) (fs : Array Field) (ks : List Bool) : Bool:=fs.toList.all fun f => match P.underlying f.type,ks[f.offset]? with
 | some (.int _),some true => true
 | some .bool,some false => true
 | _,_ => false
theorem zqL {P : Program} {ι : Type} {body : ι -> Option Bool × Unit -> Sem (ForInStep (Option Bool × Unit))} (l : List ι) (h : ∀ i ∈ l,Sure P (body i (none,())) (.yield (none,()))) : Sure P (forIn l (none,()) body) (none,()):=by
 have:=zh1 (P:=P) (p:=fun _ => true) l (by simpa using h);simpa using this
theorem zoK {P : Program} {t : TypeId} {fs : Array Field} {xs : Array Value} {ks : List Bool} {d : Nat} (ht : P.underlying t = some (.struct fs)) (hp : P.stoodInHeld t = false) (hs : zq4 P fs ks = true) (h1 : ∀ i : Nat,ks[i]? = some true -> ∃ k z,xs[i]? = some (.int k z)) (h2 : ∀ i : Nat,ks[i]? = some false -> ∃ b,xs[i]? = some (.bool b)) : Sure P (Op.equalIn (d + 2) t (.agg xs) (.agg xs)) true:=by
 rw [Op.equalIn];refine zaR ht ?_;dsimp only;refine zgd ?_;rw [hp];simp only [Bool.false_eq_true,if_false];rw [<- Array.forIn_toList];refine za0 (a:=(none,())) (zqL _ fun f hf => ?_) (zaH _);have hsf:=(List.all_eq_true.1 hs) f hf;split
 ·split at hsf
  ·rename_i k hu hk;obtain ⟨j,z,hv⟩:=h1 _ hk;refine zej hu rfl hv (zej hu rfl hv (za0 (zqh hu) ?_));simp only [beq_self_eq_true,Bool.not_true,Bool.false_eq_true,if_false];exact zaH _
  ·rename_i hu hk;obtain ⟨b,hv⟩:=h2 _ hk;refine zej hu rfl hv (zej hu rfl hv (za0 (zjZ hu) ?_));simp only [beq_self_eq_true,Bool.not_true,Bool.false_eq_true,if_false];exact zaH _
  ·cases hsf
 ·exact zaH _
def zoE (P : Program) (t : TypeId) (ks : List Bool) : Bool:=match P.underlying t with
 | some (.struct fs) => zq4 P fs ks && !P.stoodInHeld t
 | _ => false
theorem zof {P : Program} {t : TypeId} {xs : Array Value} {ks : List Bool} {d : Nat} (h : zoE P t ks = true) (h1 : ∀ i : Nat,ks[i]? = some true -> ∃ k z,xs[i]? = some (.int k z)) (h2 : ∀ i : Nat,ks[i]? = some false -> ∃ b,xs[i]? = some (.bool b)) : Sure P (Op.equalIn (d + 2) t (.agg xs) (.agg xs)) true:=by
 unfold zoE at h;split at h
 ·rename_i fs hu;rw [Bool.and_eq_true,Bool.not_eq_true'] at h;exact zoK hu h.2 h.1 h1 h2
 ·cases h
theorem F.sh63 : zoE Tryz.prog 63 [true,true] = true:=by kernel_rfl
theorem F.sh28 : zoE Tryz.prog 28 [true,true,false] = true:=by kernel_rfl
theorem F.g63 : Tryz.prog.eqGuardType Tryz.prog.depth 63 = false:=by kernel_rfl
theorem F.g28 : Tryz.prog.eqGuardType Tryz.prog.depth 28 = false:=by kernel_rfl
theorem sure63 (a b : Int) : Sure Tryz.prog (Op.equal 63 (.agg #[.int .i64 a,.int .i64 b]) (.agg #[.int .i64 a,.int .i64 b])) true :=
 zof (d:=9998) F.sh63 (fun i h => match i,h with
  | 0,_ => ⟨_,_,rfl⟩
  | 1,_ => ⟨_,_,rfl⟩
  | _ + 2,h => by cases h) (fun i h => match i,h with
  | 0,h => by cases h
  | 1,h => by cases h
  | _ + 2,h => by cases h)
theorem sure28 (a b : Int) (c : Bool) : Sure Tryz.prog (Op.equal 28 (.agg #[.int .i64 a,.int .i64 b,.bool c]) (.agg #[.int .i64 a,.int .i64 b,.bool c])) true :=
 zof (d:=9998) F.sh28 (fun i h => match i,h with
  | 0,_ => ⟨_,_,rfl⟩
  | 1,_ => ⟨_,_,rfl⟩
  | 2,h => by cases h
  | _ + 3,h => by cases h) (fun i h => match i,h with
  | 0,h => by cases h
  | 1,h => by cases h
  | 2,_ => ⟨_,rfl⟩
  | _ + 3,h => by cases h)
theorem zpZ {t : TypeId} {l : List AV} {V : Value} (hr : AV.raw (.agg l) = some V) (hk : zow V V = true) (hg : Tryz.prog.eqGuardType Tryz.prog.depth t = false) (hs : Sure Tryz.prog (Op.equal t V V) true) (k : AV -> Prop) : ABin Tryz.prog .neq t (.agg l) (.agg l) k = k (bv false):=by
 have e : ABin Tryz.prog .neq t (.agg l) (.agg l) k = ((BinOp.neq = .eql \/ BinOp.neq = .neq) /\ one1 (AV.raw (.agg l)) fun X => one1 (AV.raw (.agg l)) fun Y => zow X Y = true /\ Tryz.prog.eqGuardType Tryz.prog.depth t = false /\ ∃ e,Sure Tryz.prog (Op.equal t X Y) e /\ k (.val (.bool (if BinOp.neq == .neq then !e else e)))):=rfl;rw [e,hr,zet,zet];apply propext;constructor
 ·rintro ⟨_,_,_,b,h1,h2⟩
  have:=hs.uniq h1;subst this;exact h2
 ·intro h;exact ⟨.inr rfl,hk,hg,true,hs,h⟩
theorem B63.same (a b : Int) (k : AV -> Prop) : ABin Tryz.prog .neq 63 (.agg [.val (.int .i64 a),.val (.int .i64 b)]) (.agg [.val (.int .i64 a),.val (.int .i64 b)]) k = k (.val (.bool false)):=zpZ (V:=.agg #[.int .i64 a,.int .i64 b]) rfl rfl F.g63 (sure63 a b) k
theorem B28.same (a b : Int) (c : Bool) (k : AV -> Prop) : ABin Tryz.prog .neq 28 (.agg [.val (.int .i64 a),.val (.int .i64 b),.val (.bool c)]) (.agg [.val (.int .i64 a),.val (.int .i64 b),.val (.bool c)]) k = k (.val (.bool false)):=zpZ (V:=.agg #[.int .i64 a,.int .i64 b,.bool c]) rfl rfl F.g28 (sure28 a b c) k
attribute [seval] B63.same B28.same
section
variable {lv : Bool} {H : List AObj} {k kp : AV -> List AObj -> Prop}
end
theorem zpy {lv : Bool} {P : Program} {f : FuncId} {H : List AObj} {args : List AV} {k kp : AV -> List AObj -> Prop} (h : FnC lv P f H args (fun a H' => ∃ b,Wk a b /\ k b H') kp) : FnC lv P f H args k kp:=fun E V vs hc hd =>
 (h E V vs hc hd).mono fun o V' r => by
  cases o with
  | ret v =>
   obtain ⟨av,E',H',q1,q2,q3,q4,q5,b,hw,hk⟩:=r;exact ⟨b,E',H',q1,q2,q3,hw _ _ q4,q5,hk⟩
  | panic ch => exact r
section
variable {H : List AObj} {k kp : AV -> List AObj -> Prop}
theorem Ring.len (x : Ring) : x.l.length = 4:=rfl
def zom (x : Ring) : Nat:=if zms x = 0 then (zmy x).length else 0
theorem znz (x : Ring) : zmt x none = zms x:=by
 unfold zmt flE;split
 ·rfl
 ·rename_i h; rw [Classical.not_not] at h; exact h.symm
theorem f53_d {x : Ring} (hmain : H[0]? = some .main) (hs : x.Small) (hk : k (.tup [iv (zom x : Nat),iv (zms x)]) H) : FnC true Tryz.prog 53 H [x.av] k kp:=by
 unfold zom at hk;refine f53_c zaQ hmain hs (fun h => ?_) fun h => ?_
 ·rw [znz] at h ⊢;rw [if_neg h] at hk; exact hk
 ·rw [znz] at h;rw [if_pos h,h] at hk;rw [zlQ (zbH.1 h)]; exact hk
end
section
variable {lv : Bool} {H : List AObj} {k kp : AV -> List AObj -> Prop}
end
section
variable {H : List AObj} {k kp : AV -> List AObj -> Prop}
end
section
variable {lv : Bool} {H : List AObj} {k kp : AV -> List AObj -> Prop}
end
section
variable {H : List AObj} {k kp : AV -> List AObj -> Prop}
def zn5 (x : Ring) : List Int:=if zm1 x true = 0 then (alS (alkS x) x.locks.length).1 else []
theorem zqH (x : Ring) : (zn5 x).length < 2 ^ 60:=by
 unfold zn5;split
 ·rename_i h;have hx5:=(znk h).1.locks;rw [zrd]; omega
 ·simp
theorem f40_d {x : Ring} (hmain : H[0]? = some .main) (hs : x.Small) (hk : k (.tup [aInts (zn5 x),iv (zm1 x true)]) H) : FnC true Tryz.prog 40 H [x.av] k kp:=by
 have e : zlM x none = zm1 x true:=zn4 (by simp) (.inl rfl);unfold zn5 at hk;refine zpy (f40_c zaQ hmain hs (fun h => ⟨_,zdC (zaK _ _ _) (Wk.refl _),?_⟩) fun h => ⟨_,Wk.refl _,?_⟩)
 ·rw [e] at h ⊢;rw [if_neg h] at hk; exact hk
 ·rw [e] at h;rw [if_pos h,h] at hk;rw [zrc (znk h).1]; exact hk
end
section
variable {lv : Bool} {H : List AObj} {k kp : AV -> List AObj -> Prop}
end
structure Kept3 (X Y Z : Prop) : Type where
 n : Nat
def UG (a : AV) (want : Bool) (X Y Z : Prop) (_t : Kept3 X Y Z) : Prop:=(∃ b,a = .val (.bool b) /\ (b = want -> X) /\ (b = !want -> Y)) \/ (a = .val undef /\ Z)
theorem ug_b {b want : Bool} {X Y Z : Prop} {t : Kept3 X Y Z} : UG (.val (.bool b)) want X Y Z t = ((b = want -> X) /\ (b = !want -> Y)):=by
 unfold UG;refine propext ⟨fun h => ?_,fun h => .inl ⟨b,rfl,h⟩⟩;rcases h with ⟨b',e,h⟩ | ⟨e,_⟩
 ·cases e; exact h
 ·cases e
theorem ug_tt (X Y Z : Prop) (t : Kept3 X Y Z) : UG (.val (.bool true)) true X Y Z t = X:=by rw [ug_b]; simp
theorem ug_tf (X Y Z : Prop) (t : Kept3 X Y Z) : UG (.val (.bool true)) false X Y Z t = Y:=by rw [ug_b]; simp
theorem ug_ft (X Y Z : Prop) (t : Kept3 X Y Z) : UG (.val (.bool false)) true X Y Z t = Y:=by rw [ug_b]; simp
theorem ug_ff (X Y Z : Prop) (t : Kept3 X Y Z) : UG (.val (.bool false)) false X Y Z t = X:=by rw [ug_b]; simp
theorem ug_u (want : Bool) (X Y Z : Prop) (t : Kept3 X Y Z) : UG (.val undef) want X Y Z t = Z:=by
 unfold UG;refine propext ⟨fun h => ?_,fun h => .inr ⟨rfl,h⟩⟩;rcases h with ⟨b',e,_⟩ | ⟨_,h⟩
 ·cases e
 ·exact h
section
variable (lv : Bool) (P : Program)
def UOps (all : Array Oper) : List Oper -> AS -> (AS -> Prop) -> (AV -> AS -> Prop) -> Prop
 | [],s,next,_ => next s
 | o :: rest,s,next,bad => match o.guard with
  | none => AStep lv P s o (fun s' => UOps all rest s' next bad) bad
  | some (j,want) => one1 ((all[j]?).bind (·.dst)) fun d => one1 (look s.T d) fun a => UG a want (AStep lv P ⟨(d,.val (.bool want)) :: s.T,s.H⟩ o (fun s' => UOps all rest s' next bad) bad) (UOps all rest ((⟨(d,.val (.bool !want)) :: s.T,s.H⟩ : AS).put o.dst (.val undef)) next bad) (UOps all rest (s.put o.dst (.val undef)) next bad) ⟨0⟩
end
theorem uOps_n : type_of% @UOps.eq_1:=by intros; rw [UOps.eq_1]
theorem uOps_c : type_of% @UOps.eq_2:=by intros; rw [UOps.eq_2]
@[congr] theorem uOps_congr {lv : Bool} {P : Program} {s s' : AS} {all : Array Oper} {l : List Oper} {next : AS -> Prop} {bad : AV -> AS -> Prop} (h : s = s') : UOps lv P all l s next bad = UOps lv P all l s' next bad:=by rw [h]
attribute [seval] uOps_n uOps_c ug_tt ug_tf ug_ft ug_ff ug_u
section
variable {lv : Bool} {P : Program} {r : Option Nat} {s : AS}
end
section
variable (lv : Bool) (P : Program)
def QUOps (all : Array Oper) : List Oper -> AS -> (AS -> Prop) -> Prop
 | [],s,K => K s
 | o :: rest,s,K => match o.guard with
  | none => AQ lv P s o fun av => QUOps all rest (s.put o.dst av) K
  | some (j,want) => one1 ((all[j]?).bind (·.dst)) fun d => one1 (look s.T d) fun a => UG a want (AQ lv P ⟨(d,.val (.bool want)) :: s.T,s.H⟩ o fun av => QUOps all rest ((⟨(d,.val (.bool want)) :: s.T,s.H⟩ : AS).put o.dst av) K) (QUOps all rest ((⟨(d,.val (.bool !want)) :: s.T,s.H⟩ : AS).put o.dst (.val undef)) K) (QUOps all rest (s.put o.dst (.val undef)) K) ⟨0⟩
end
theorem zt1 : type_of% @QUOps.eq_1:=by intros; rw [QUOps.eq_1]
theorem zt2 : type_of% @QUOps.eq_2:=by intros; rw [QUOps.eq_2]
@[congr] theorem quOps_congr {lv : Bool} {P : Program} {s s' : AS} {all : Array Oper} {l l' : List Oper} {K : AS -> Prop} (hl : l = l') (h : s = s') : QUOps lv P all l s K = QUOps lv P all l' s' K:=by rw [hl,h]
attribute [seval] zt1 zt2
section
variable {lv : Bool} {P : Program} {r : Option Nat} {s : AS} {ops : Array Oper} {nt p : Nat}
end
def fewL (x : Ring) (b : Bool) (keys : List Int) : Bool:=(zmy x).all fun t => if b then zqm x t keys x.locks.length else zqv x t keys x.locks.length
def fewF (x : Ring) (b : Bool) : Option (List Int):=(znH x.keys.length).find? (fewL x b)
def fewG (x : Ring) (b : Bool) : List Int:=if zm1 x true ≠ 0 then [] else (fewF x b).getD []
def fewE (x : Ring) (b : Bool) : Int:=if zm1 x true ≠ 0 then zm1 x true else if (fewF x b).isSome then 0 else 11
section
variable {lv : Bool} {H : List AObj} {k kp : AV -> List AObj -> Prop}
end
theorem zop {α : Type} {f g : α -> Bool} : ∀ {l : List α},(∀ y ∈ l,f y = g y) -> l.find? f = l.find? g
 | [],_ => rfl
 | a :: l,h => by
  rw [List.find?_cons,List.find?_cons,h a (List.mem_cons_self ..),zop fun y hy => h y (List.mem_cons_of_mem _ hy)]
theorem zpW {x : Ring} (hx : x.Ok) {l : List Int} (hl : l ∈ znH x.keys.length) : ∀ k ∈ l,0 <= k /\ k < x.keys.length:=by
 have hx4:=hx.keys;exact (zlI x.keys.length (by omega) l hl).2
theorem zqg {x : Ring} (hx : x.Ok) : zpH x = fewF x true:=by
 rw [zlT hx];exact zop fun l hl => zrx hx (zpW hx hl)
theorem zpV {x : Ring} (hx : x.Ok) : zox x = fewF x false:=by
 rw [zl0 hx];exact zop fun l hl => zl3 hx (zpW hx hl)
theorem zmT (x : Ring) : zlM x none = zm1 x true:=zn4 (by simp) (.inl rfl)
section
variable {H : List AObj} {k kp : AV -> List AObj -> Prop}
theorem f38_d {x : Ring} (hmain : H[0]? = some .main) (hs : x.Small) (hk : k (.tup [aInts (fewG x false),iv (fewE x false)]) H) : FnC true Tryz.prog 38 H [x.av] k kp:=by
 unfold fewG fewE at hk;refine zpy (f38_c zaQ hmain hs (fun h => ⟨_,zdC (zaK _ _ _) (Wk.refl _),?_⟩) (fun h h2 => ⟨_,zdC (zaK _ _ _) (Wk.refl _),?_⟩) fun h xs h2 => ⟨_,Wk.refl _,?_⟩)
 ·rw [zmT] at h ⊢;rw [if_pos h,if_pos h] at hk; exact hk
 ·rw [zmT] at h;rw [zpV (znk h).1] at h2;rw [if_neg (by simpa using h),if_neg (by simpa using h),h2] at hk; exact hk
 ·rw [zmT] at h;rw [zpV (znk h).1] at h2;rw [if_neg (by simpa using h),if_neg (by simpa using h),h2] at hk; exact hk
theorem f42_d {x : Ring} (hmain : H[0]? = some .main) (hs : x.Small) (hk : k (.tup [aInts (fewG x true),iv (fewE x true)]) H) : FnC true Tryz.prog 42 H [x.av] k kp:=by
 unfold fewG fewE at hk;refine zpy (f42_c zaQ hmain hs (fun h => ⟨_,zdC (zaK _ _ _) (Wk.refl _),?_⟩) (fun h h2 => ⟨_,zdC (zaK _ _ _) (Wk.refl _),?_⟩) fun h xs h2 => ⟨_,Wk.refl _,?_⟩)
 ·rw [zmT] at h ⊢;rw [if_pos h,if_pos h] at hk; exact hk
 ·rw [zmT] at h;rw [zqg (znk h).1] at h2;rw [if_neg (by simpa using h),if_neg (by simpa using h),h2] at hk; exact hk
 ·rw [zmT] at h;rw [zqg (znk h).1] at h2;rw [if_neg (by simpa using h),if_neg (by simpa using h),h2] at hk; exact hk
theorem zqt (x : Ring) (b : Bool) : (fewG x b).length < 2 ^ 60:=by
 unfold fewG;split
 ·simp
 ·rename_i h;have hx:=(znk (x:=x) (b:=true) (by simpa using h)).1;have hx4:=hx.keys;unfold fewF;cases hf : (znH x.keys.length).find? (fewL x b) with
  | none => simp
  | some l =>
   have:=(zlI x.keys.length (by omega) l (List.mem_of_find?_eq_some hf)).1;show l.length < _;omega
end
section
variable {lv : Bool}
section
variable {H : List AObj} {k kp : AV -> List AObj -> Prop}
end
end
theorem ztl {l l' : List AV} (h : Wks l l') : Wk (.tup l) (.tup l'):=fun E v hd => by
 cases hd with
 | tup hs h1 =>
  refine .tup (by rw [hs,h.len]) fun i x hx => ?_;obtain ⟨y,hy⟩:=zaE (xs:=l) (i:=i) (by rw [h.len]; exact get_lt hx);exact h.at i x y hx hy E _ (h1 i y hy)
def masG (x : Ring) : List Int:=if zms x ≠ 0 then [] else ((zmr x 3).map (·.1)).getD []
def masN (x : Ring) : Int:=if zms x ≠ 0 then 0 else ((zmr x 3).map (fun p => (p.2 : Int))).getD 0
def masE (x : Ring) : Int:=if zms x ≠ 0 then zms x else if zmr x 3 = none then 11 else 0
section
variable {H : List AObj} {k kp : AV -> List AObj -> Prop}
theorem f76_d {x : Ring} (hmain : H[0]? = some .main) (hs : x.Small) (hk : k (.tup [aInts (masG x),iv (masN x),iv (masE x)]) H) : FnC true Tryz.prog 76 H [x.av] k kp:=by
 unfold masG masN masE at hk;refine zpy (f76_c zaQ hmain hs (fun h => ⟨_,ztl (.cons (zaK _ _ _) (.cons (Wk.refl _) (.cons (Wk.refl _) .nil))),?_⟩) (fun h h2 => ⟨_,ztl (.cons (zaK _ _ _) (.cons (Wk.refl _) (.cons (Wk.refl _) .nil))),?_⟩) fun h d m h2 => ⟨_,Wk.refl _,?_⟩)
 ·rw [znz] at h ⊢;rw [if_pos h,if_pos h,if_pos h] at hk; exact hk
 ·rw [znz] at h;rw [if_neg (by simpa using h),if_neg (by simpa using h),if_neg (by simpa using h),h2] at hk; exact hk
 ·rw [znz] at h;rw [if_neg (by simpa using h),if_neg (by simpa using h),if_neg (by simpa using h),h2] at hk; exact hk
end
section
variable {lv : Bool} {H : List AObj} {k kp : AV -> List AObj -> Prop}
end
section
variable {x : Ring}
theorem zoP (hx : x.Ok) : zms x.rev = 0 /\ zms x = 0:=⟨zbH.2 (zot hx),zbH.2 hx⟩
theorem zoQ (hx : x.Ok) : zm1 x.rev true = zm1 x true:=by
 obtain ⟨h1,h2⟩:=zoP hx;unfold zm1 zou;rw [h1,h2,znD hx]
theorem zqQ (hx : x.Ok) : zom x.rev = zom x:=by
 obtain ⟨h1,h2⟩:=zoP hx;unfold zom;rw [h1,h2,znD hx]
theorem zpe (hx : x.Ok) (t keys : List Int) (p q : Nat) : znT x.rev t keys p q = znT x t keys p q:=by
 unfold znT;simp only [zoo hx]
theorem zrI (hx : x.Ok) (b : Bool) (keys : List Int) : fewL x.rev b keys = fewL x b keys:=by
 unfold fewL zqm zqv ztS;simp only [zoo hx,zpe hx,znD hx,zoO]
theorem zrJ (hx : x.Ok) (b : Bool) : fewF x.rev b = fewF x b:=by
 unfold fewF;rw [zpu,show fewL x.rev b = fewL x b from funext fun k => zrI hx b k]
theorem zpv (hx : x.Ok) (b : Bool) : fewG x.rev b = fewG x b /\ fewE x.rev b = fewE x b:=by
 unfold fewG fewE;rw [zoQ hx,zrJ hx]; exact ⟨rfl,rfl⟩
theorem zqR (hx : x.Ok) : zn5 x.rev = zn5 x:=by
 unfold zn5;rw [zoQ hx,zoO,show alkS x.rev = alkS x from funext fun p => funext fun q => by
  unfold alkS smL;simp only [zpe hx,znD hx,zpu]]
def zpB (x : Ring) : Int:=(znU x (zmf 4 x.cuts.toNat) (zmf 4 x.cuts.toNat).length).2
theorem zpw (hx : x.Ok) : masN x = (if zpB x < 0 then 0 else zpB x) /\ masE x = if zpB x < 0 then 11 else 0:=by
 have hcu:=hx.cuts;have h0:=zbH.2 hx;obtain ⟨_,hf2⟩:=znj x (zmf 4 x.cuts.toNat) (zmf 4 x.cuts.toNat).length;have hml:=zqE (x:=x) (by omega) (b:=(znU x (zmf 4 x.cuts.toNat) (zmf 4 x.cuts.toNat).length).1) (m:=(znU x (zmf 4 x.cuts.toNat) (zmf 4 x.cuts.toNat).length).2) rfl;unfold masN masE zpB;rw [h0];simp only [ne_eq,not_true_eq_false,if_false];generalize znU x (zmf 4 x.cuts.toNat) (zmf 4 x.cuts.toNat).length = B at hf2 hml ⊢;obtain ⟨b,m⟩:=B;simp only at hf2 hml ⊢;rcases hf2 with ⟨e1,e2⟩ | ⟨n,e1,_,_,e2,_⟩
 ·rw [hml.1 (by omega),if_pos (show m < 0 by omega),if_pos (show m < 0 by omega)]; exact ⟨rfl,rfl⟩
 ·obtain ⟨n',k,t,_,e3,_,e4⟩:=hml.2 (by omega);rw [e4,if_neg (show ¬ m < 0 by omega),if_neg (show ¬ m < 0 by omega),e3]; exact ⟨rfl,rfl⟩
theorem zql (hx : x.Ok) {t : List Int} (ht : (t.length : Int) = x.cuts) : znm x.rev t.reverse 3 = znm x t 3:=by
 have h : ∀ w,allW x.rev t.reverse w = allW x t w:=fun w => by
  unfold allW;show (x.locks.map List.reverse).all _ = _;rw [List.all_map];have e : ∀ l ∈ x.locks,((fun l => zmM (zlY w t.reverse) l) ∘ List.reverse) l = zmM (zlY w t) l:=fun l hl => by
   have h2:=(hx.lock l hl).1;show zmM (zlY w t.reverse) l.reverse = _;rw [show zlY w t.reverse = (zlY w t).reverse by unfold zlY; rw [List.map_reverse],zov (by unfold zlY; rw [List.length_map]; omega)]
  rw [Bool.eq_iff_iff,List.all_eq_true,List.all_eq_true];exact forall_congr' fun l => forall_congr' fun hl => by rw [e l hl]
 rw [zoG,zoG,h,h,h]
theorem zq7 (hx : x.Ok) {y : Ring} (hc : y.cuts = x.cuts) (h : ∀ t : List Int,(t.length : Int) = x.cuts -> znm y t.reverse 3 = znm x t 3) : zpB y <= zpB x:=by
 have hcu:=hx.cuts;obtain ⟨_,h2⟩:=znj y (zmf 4 y.cuts.toNat) (zmf 4 y.cuts.toNat).length;obtain ⟨h3,h4⟩:=znj x (zmf 4 x.cuts.toNat) (zmf 4 x.cuts.toNat).length;unfold zpB;rcases h2 with ⟨_,e⟩ | ⟨n,_,hn,e,_,_⟩
 ·rw [e];rcases h4 with ⟨_,e4⟩ | ⟨_,_,_,_,e4,_⟩ <;> omega
 ·obtain ⟨t,ht⟩:=zaE hn;rw [List.getD_eq_getElem?_getD,ht,Option.getD_some] at e;rw [hc] at ht;obtain ⟨hl,hb⟩:=(zeh 4 (by omega) x.cuts.toNat (by omega)).2 t (zas ht);have hm : t.reverse ∈ zmf 4 x.cuts.toNat:=zph (by simpa using hl) fun w hw => hb w (List.mem_reverse.1 hw);obtain ⟨j,hj⟩:=List.mem_iff_getElem?.1 hm;have:=h3 j (get_lt hj);rw [List.getD_eq_getElem?_getD,hj,Option.getD_some] at this;rw [e];have h5:=h t.reverse (by rw [List.length_reverse]; omega);rw [List.reverse_reverse] at h5;omega
theorem zrK (hx : x.Ok) : zpB x.rev = zpB x:=by
 refine Int.le_antisymm (zq7 hx rfl fun t ht => zql hx ht) (zq7 (zot hx) rfl fun t ht => ?_);have:=zql hx (t:=t.reverse) (by rw [List.length_reverse]; exact ht);rw [List.reverse_reverse] at this;exact this.symm
theorem zqP (hx : x.Ok) : masN x.rev = masN x /\ masE x.rev = masE x:=by
 obtain ⟨h1,h2⟩:=zpw hx;obtain ⟨h3,h4⟩:=zpw (zot hx);rw [h1,h2,h3,h4,zrK hx]; exact ⟨rfl,rfl⟩
end
section
variable {lv : Bool} {P : Program} {r : Option Nat} {o : Oper} {s : AS} {next : AS -> Prop} {bad : AV -> AS -> Prop}
end
section
variable (lv : Bool) (P : Program) (r : Option Nat)
def SOps : List Oper -> AS -> (AS -> Prop) -> (AV -> AS -> Prop) -> Prop
 | [],s,K,_ => K s
 | o :: rest,s,K,bad => o.guard = none /\ Step lv P r o s (fun s' => SOps rest s' K bad) bad
end
section
variable {lv : Bool} {P : Program} {r : Option Nat} {s : AS}
theorem zpd {nt : Nat} {all : Array Oper} {Φ : AEx -> AS -> Prop} (hdst : ∀ o ∈ all,∀ d,o.dst = some d -> d < nt) (hdef : ∀ o ∈ all,r = none \/ zmL o.op = false) : ∀ (n k : Nat) (s : AS),k + n = all.size -> SOps lv P r (all.toList.drop k) s (Φ .normal) (fun pv s => Φ (.panic pv) s) ->
  ∀ (E : Env) (V : View) (a : Act) (Q : Ex -> Act -> View -> Prop),At E V s a nt -> (∀ ae e E' V' a' s',Kept E E' V V' a a' -> At E' V' s' a' nt -> ExDen E' ae e -> Φ ae s' -> Q e a' V') -> zmB lv P r all Q (List.range' k n) a V
 | 0,k,s,hk,h,E,V,a,Q,hat,hQ => by
  have : all.toList.drop k = []:=by simp; omega
  rw [this] at h;exact hQ .normal .normal E V a s (Kept.refl E V a) hat trivial h
 | n + 1,k,s,hk,h,E,V,a,Q,hat,hQ => by
  have hlt : k < all.size:=by omega
  have hd : all.toList.drop k = all[k] :: all.toList.drop (k + 1):=by
   rw [List.drop_eq_getElem_cons (by simpa using hlt)]; simp
  rw [hd] at h;have hmem : all[k] ∈ all:=Array.getElem_mem hlt;have ho : all[k]? = some all[k]:=Array.getElem?_eq_getElem hlt;simp only [List.range'_succ,zmB,ho];obtain ⟨hg,h⟩:=h;have hw : Region.wanted all[k] (yielded all a.tmps) = true:=by unfold Region.wanted; rw [hg]
  rw [if_pos hw];refine .inl (h E V a _ Q hat.conc hat.tok (fun d e => by rw [hat.size]; exact hdst _ hmem d e) (hdef _ hmem) (fun E' V' a' s' hk' hc' ht' hn => ?_) (fun E' V' s' pv v hk' hc' ht' hden hb => ?_))
  ·exact zpd hdst hdef n (k + 1) s' (by omega) hn E' V' a' Q ⟨hc',ht',hk'.size.trans hat.size⟩ (fun ae e E'' V'' a'' s'' hk'' hat'' he hΦ => hQ ae e E'' V'' a'' s'' (hk'.trans hk'') hat'' he hΦ)
  ·exact hQ (.panic pv) (.panic _) E' V' a s' hk' ⟨hc',ht',hat.size⟩ ⟨v,rfl,hden⟩ hb
theorem zo1 {nt id : Nat} {ops : Array Oper} {Φ : AEx -> AS -> Prop} (hd : dstsOk nt ops = true) (h : SOps lv P r ops.toList s (Φ .normal) (fun pv s => Φ (.panic pv) s)) : AWP lv P r nt (.region id ops false) s Φ:=by
 intro E V a Q hat hQ;refine zda ?_;rw [List.range_eq_range'];exact zpd (Φ:=Φ) (fun o ho d e => (dstsOk.out hd ho).1 d e) (fun o ho => .inr (dstsOk.out hd ho).2) ops.size 0 s (by omega) (by simpa using h) E V a Q hat hQ
end
section
variable {lv : Bool} {P : Program} {r : Option Nat} {o : Oper} {s : AS} {next : AS -> Prop} {bad : AV -> AS -> Prop}
def WkH (H : List AObj) (b a : AV) : Prop:=∀ E V v,Conc E V H -> Den E b v -> Den E a v
theorem WkH.of {H : List AObj} {b a : AV} (h : Wk b a) : WkH H b a:=fun E _ v _ d => h E v d
theorem zqI {H : List AObj} {id n cap m p : Nat} {l : List AV} {el : TypeId} (hid : H[id]? = some (.part p l el)) (hm : m <= p) (hp : p <= l.length) : WkH H (.osl id 0 n cap) (.sl n (l.take m) .shut):=fun E V v hc hd => by
 cases hd with
 | osl hi hcap =>
  rename_i cap';obtain ⟨⟨cs,ho,hdl,hi2⟩,_⟩:=hc.obj id _ hid;refine .sl (E.blk id) 0 cap' (fun i => cs.getD i undef) hcap.1 trivial (fun i hi' => ?_) (fun i x hx => ?_)
  ·rw [List.length_take] at hi';have hlt : i < cs.size:=(by have:=hdl.1; omega);rw [hc.I,Nat.zero_add,hi2 i (by omega),Array.getD_eq_getD_getElem?,Array.getElem?_eq_getElem hlt]; rfl
  ·rw [List.getElem?_take] at hx;split at hx
   ·exact hdl.2 i x hx
   ·cases hx
theorem ztm {H : List AObj} {n : Nat} {l l' : List AV} {e : End} (hl : l.length = l'.length) (h : ∀ (i : Nat) b a,l[i]? = some b -> l'[i]? = some a -> WkH H b a) : WkH H (.sl n l e) (.sl n l' .shut):=fun E V v hc hd => by
 cases hd with
 | sl b o cap f hcap he h1 h2 =>
  refine .sl b o cap f hcap trivial (fun i hi => h1 i (by omega)) fun i a ha => ?_;have hlt : i < l.length:=by rw [hl]; exact (List.getElem?_eq_some_iff.1 ha).1
  exact h i _ a (List.getElem?_eq_getElem hlt) ha E V _ hc (h2 i _ (List.getElem?_eq_getElem hlt))
 | nil he =>
  have : l' = []:=List.length_eq_zero_iff.1 hl.symm;subst this;exact .nil trivial
theorem zqw {nt id j : Nat} {c : Code} {l : List AV} {x y : AV} {el : TypeId} {Φ : AEx -> AS -> Prop} (hid : s.H[id]? = some (.cells l el)) (hj : l[j]? = some x) (hw : WkH s.H x y) (h : AWP lv P r nt c ⟨s.T,s.H.set id (.cells (l.set j y) el)⟩ Φ) : AWP lv P r nt c s Φ:=fun E V a Q hat hQ => by
 have hc:=hat.conc;obtain ⟨⟨cs,hown,hd⟩,himm⟩:=hc.obj id _ hid;have hc2 : Conc E V (s.H.set id (.cells (l.set j y) el)) :=
  hc.turn id _ (Env.Le.refl _) hc.I (by rw [hc.n,List.length_set]) zaF rfl (fun _ _ _ => rfl) (fun b y _ hy => ⟨hy,fun _ => rfl⟩) ⟨⟨cs,hown,zqu hd hj (fun v d => hw E V v hc d)⟩,himm⟩ (fun b hb' => .inl ⟨_,hid,hb'⟩)
 exact h E V a Q ⟨hc2,hat.tok,hat.size⟩ hQ
theorem zpX {nt id sz : Nat} {c : Code} {l : List AV} {el : TypeId} {Φ : AEx -> AS -> Prop} (hid : s.H[id]? = some (.own sz l el)) (h : AWP lv P r nt c ⟨s.T,s.H.set id (.part l.length l el)⟩ Φ) : AWP lv P r nt c s Φ:=fun E V a Q hat hQ => by
 have hc:=hat.conc;obtain ⟨⟨cs,hown,hd,_⟩,himm⟩:=hc.obj id _ hid;have g : Ghost V (V.pubp (E.blk id) cs (fun o => decide (o < l.length))):=zb9 hown (fun o _ => himm o);refine WP.ghost g ?_;have hI : ∀ b o v,E.I b o = some v -> (V.pubp (E.blk id) cs (fun o => decide (o < l.length))).imm b o = some v:=fun b o v e => by
  rw [hc.I] at e;have hb : b ≠ E.blk id:=fun hb => by rw [hb,himm] at e; cases e
  simp only [View.pubp];rw [if_neg (fun x => hb x.1)]; exact e
 have hle : E.Le { E with I:=(V.pubp (E.blk id) cs (fun o => decide (o < l.length))).imm }:=⟨hI,Nat.le_refl _,fun _ _ => rfl,fun _ _ => Nat.le_refl _,fun _ _ _ _ => rfl,rfl,rfl⟩;have hc2 : Conc { E with I:=(V.pubp (E.blk id) cs (fun o => decide (o < l.length))).imm } (V.pubp (E.blk id) cs (fun o => decide (o < l.length))) (s.H.set id (.part l.length l el)):=by
  refine hc.turn id _ hle rfl (by rw [List.length_set]; exact hc.n) zaF rfl (fun _ _ _ => rfl) (fun b y hno hy => ⟨hy,fun o => ?_⟩) ⟨⟨cs,hown,hd.mono hle,fun o ho => ?_⟩,fun o ho => ?_⟩ (fun b hb => .inl ⟨_,hid,hb⟩)
  ·have hb : b ≠ E.blk id:=fun hb => hno _ hid (by rw [hb]; rfl);simp only [View.pubp];rw [if_neg (fun x => hb x.1)]
  ·simp only [View.pubp];rw [if_pos ⟨trivial,by simpa using ho⟩]
  ·simp only [View.pubp];rw [if_neg (fun x => by have:=x.2; simp at this; omega)];exact himm o
 exact h _ _ a Q ⟨hc2,hat.tok.mono hle,hat.size⟩ fun ae e E' V'' a' s' hk => hQ ae e E' V'' a' s' ((⟨hle,rfl,rfl,rfl,rfl⟩ : Kept E _ V (V.pubp (E.blk id) cs (fun o => decide (o < l.length))) a a).trans hk)
end
section
variable {lv : Bool} {P : Program} {r : Option Nat} {s : AS}
theorem zq9 {nt : Nat} {α : Type} {lt : α -> α -> Prop} (wf : WellFounded lt) {c : Code} {Φ : AEx -> AS -> Prop} (V : α -> List (Nat × AV)) (Hf : α -> List AObj) (ok : α -> Prop) (m0 : α)
  (hkeys : ∀ m m',(V m).map (·.1) = (V m').map (·.1)) (hV0 : ∀ p ∈ V m0,∃ b,look s.T p.1 = some b /\ Wk b p.2) (hH0 : Hf m0 = s.H) (hl : ∀ m,ok m -> s.H.length <= (Hf m).length) (hm : ok m0)
  (h : HOk s.H -> (∀ t a,look s.T t = some a -> Lt s.H.length a) -> ∀ m,ok m -> ∀ R : AS -> Prop,(∀ s',(∃ m',lt m' m /\ ok m' /\ zmY s.T (V m) (V m') (Hf m') s') -> R s') -> AWP lv P r nt c ⟨V m ++ s.T,Hf m⟩ (AEx.then R Φ)) : AWP lv P r nt (.loop c) s Φ:=by
 have same : ∀ m m' t,look (V m) t = none -> look (V m') t = none:=fun m m' t h => zgw fun p hp e => by
  have h1 : p.1 ∈ (V m').map (·.1):=List.mem_map.2 ⟨p,hp,rfl⟩;rw [hkeys m' m] at h1;obtain ⟨q,hq,e'⟩:=List.mem_map.1 h1;have h2 : ((V m).any fun x => x.1 == t) = true:=List.any_eq_true.2 ⟨q,hq,by simp [e',e]⟩;obtain ⟨a,ha⟩:=zky h2;rw [h] at ha; cases ha
 intro E V0 a Q hat hQ;have hlt : ∀ t a,look s.T t = some a -> Lt s.H.length a:=fun t x e => by rw [<- hat.conc.n]; exact (hat.tok t x e).2.lt
 have h0 : s.Sub ⟨V m0 ++ s.T,Hf m0⟩:=⟨fun t x e => by
  rw [zby] at e;cases hl : look (V m0) t with
  | none => rw [hl] at e; exact ⟨x,e,Wk.refl x⟩
  | some y => rw [hl] at e; cases e; exact hV0 (t,x) (zbB hl),hH0.symm⟩
 refine zpD wf (s:=s) (fun m => ⟨V m ++ s.T,Hf m⟩) ok m0 h0 hm hl (fun m hok => ?_) E V0 a Q hat hQ;refine (h hat.conc.hok hlt m hok _ fun _ h => h).mono fun e s' hΦ => ?_;cases e with
 | normal =>
  obtain ⟨m',q1,q2,hk,hv,G,hG,hend⟩:=hΦ;have tok : ∀ t x,look (V m' ++ s.T) t = some x -> ∃ b,look s'.T t = some b /\ Wk b x /\ (look (V m') t = some x \/ look s.T t = some x):=fun t x e => by
   rw [zby] at e;cases hl : look (V m') t with
   | none =>
    rw [hl] at e;have hb : look (V m ++ s.T) t = some x:=(by rw [zby,same m' m t hl]; exact e);exact ⟨x,hk.look hb hl,Wk.refl x,.inr e⟩
   | some y =>
    rw [hl] at e; cases e;obtain ⟨b,h1,h2⟩:=hv (t,x) (zbB hl);exact ⟨b,h1,h2,.inl rfl⟩
  refine ⟨m',q1,q2,?_⟩;rcases hend with rfl | ⟨hok',hltv⟩
  ·exact .inl ⟨fun t x e => by obtain ⟨b,h1,h2,_⟩:=tok t x e; exact ⟨b,h1,h2⟩,by rw [hG,List.append_nil]⟩
  ·refine .inr ⟨fun t x e => ?_,⟨G,hG⟩,hok'⟩;obtain ⟨b,h1,h2,h3⟩:=tok t x e;refine ⟨b,h1,h2,?_⟩;rcases h3 with h3 | h3
   ·exact hltv (t,x) (zbB h3)
   ·show Lt (Hf m').length x;exact (hlt t x h3).mono (hl m' q2)
 | _ => exact hΦ
theorem zqx {nt : Nat} {c : Code} {Φ : AEx -> AS -> Prop} (n : Nat) (V : Nat -> List (Nat × AV)) (Hf : Nat -> List AObj) (ok : Nat -> Prop)
  (hkeys : ∀ m m',(V m).map (·.1) = (V m').map (·.1)) (hV0 : ∀ p ∈ V 0,∃ b,look s.T p.1 = some b /\ Wk b p.2) (hH0 : Hf 0 = s.H) (hl : ∀ m,m <= n -> ok m -> s.H.length <= (Hf m).length) (hm : ok 0)
  (h : HOk s.H -> (∀ t a,look s.T t = some a -> Lt s.H.length a) -> ∀ m,m <= n -> ok m -> ∀ R : AS -> Prop,(∀ s',(m < n /\ ok (m + 1) /\ zmY s.T (V m) (V (m + 1)) (Hf (m + 1)) s') -> R s') -> AWP lv P r nt c ⟨V m ++ s.T,Hf m⟩ (AEx.then R Φ)) : AWP lv P r nt (.loop c) s Φ:=by
 refine zq9 (measure fun i => n - i).wf V Hf (fun i => i <= n /\ ok i) 0 hkeys hV0 hH0 (fun m h => hl m h.1 h.2) ⟨Nat.zero_le _,hm⟩ (fun h1 h2 m hok R hR => ?_);exact h h1 h2 m hok.1 hok.2 R fun s' ⟨q1,q2,q3⟩ => hR s' ⟨m + 1,(by show n - (m + 1) < n - m; omega),⟨q1,q2⟩,q3⟩
theorem zpC {nt sz : Nat} {el : TypeId} {c : Code} {T : List (Nat × AV)} {Φ : AEx -> AS -> Prop} : ∀ (ks : List (List AV)) (P0 Q0 : List AObj),AWP lv P r nt c ⟨T,P0 ++ (ks.map (fun l => AObj.part l.length l el) ++ Q0)⟩ Φ -> AWP lv P r nt c ⟨T,P0 ++ (ks.map (fun l => AObj.own sz l el) ++ Q0)⟩ Φ
 | [],_,_,h => h
 | l :: ks,P0,Q0,h => by
  refine zpX (id:=P0.length) (sz:=sz) (l:=l) (el:=el) (by simp) ?_;have e : (P0 ++ ((l :: ks).map (fun l => AObj.own sz l el) ++ Q0)).set P0.length (.part l.length l el) = (P0 ++ [.part l.length l el]) ++ (ks.map (fun l => AObj.own sz l el) ++ Q0):=by simp
  show AWP lv P r nt c ⟨T,(P0 ++ ((l :: ks).map (fun l => AObj.own sz l el) ++ Q0)).set P0.length (.part l.length l el)⟩ Φ;rw [e];refine zpC ks _ _ ?_;simpa using h
end
def kAV (b : Nat) : List Key -> List AV
 | [] => []
 | y :: ks => .osl b 0 y.cuts.length 0 :: iv y.wear.min :: iv y.wear.max :: kAV (b + 1) ks
def lAV (b : Nat) : List (List Band) -> List AV
 | [] => []
 | l :: ls => .osl b 0 l.length 0 :: lAV (b + 1) ls
def oK (y : Key) : AObj:=.own 1 (y.cuts.map iv) 3
def oL (l : List Band) : AObj:=.own 2 (l.flatMap Band.l) 63
theorem zqq (y : Key) : ∀ (ks : List Key) (b : Nat),kAV b (ks ++ [y]) = kAV b ks ++ [.osl (b + ks.length) 0 y.cuts.length 0,iv y.wear.min,iv y.wear.max]
 | [],b => rfl
 | z :: ks,b => by
  show _ :: _ :: _ :: kAV (b + 1) (ks ++ [y]) = _;rw [zqq y ks (b + 1),show b + 1 + ks.length = b + (z :: ks).length by simp; omega]; rfl
theorem zqo (y : List Band) : ∀ (ks : List (List Band)) (b : Nat),lAV b (ks ++ [y]) = lAV b ks ++ [.osl (b + ks.length) 0 y.length 0]
 | [],b => rfl
 | z :: ks,b => by
  show _ :: lAV (b + 1) (ks ++ [y]) = _;rw [zqo y ks (b + 1),show b + 1 + ks.length = b + (z :: ks).length by simp; omega]; rfl
theorem zpx : ∀ (ks : List Key) (b : Nat),(kAV b ks).length = ks.length * 3
 | [],_ => rfl
 | y :: ks,b => by simp [kAV,zpx ks (b + 1)]; omega
theorem zqa : ∀ (ks : List (List Band)) (b : Nat),(lAV b ks).length = ks.length
 | [],_ => rfl
 | y :: ks,b => by simp [lAV,zqa ks (b + 1)]
theorem zqr : ∀ (ks : List Key) (b i : Nat),(kAV b ks).drop (i * 3) = kAV (b + i) (ks.drop i)
 | ks,b,0 => by simp
 | [],b,i + 1 => by simp [kAV]
 | y :: ks,b,i + 1 => by
  have e : (i + 1) * 3 = i * 3 + 3:=by omega
  rw [e,kAV,List.drop_succ_cons,show i * 3 + 2 = (i * 3 + 1) + 1 from rfl,List.drop_succ_cons,List.drop_succ_cons,zqr ks (b + 1) i,List.drop_succ_cons,show b + 1 + i = b + (i + 1) by omega]
theorem zqp : ∀ (ks : List (List Band)) (b i : Nat),(lAV b ks).drop i = lAV (b + i) (ks.drop i)
 | ks,b,0 => by simp
 | [],b,i + 1 => by simp [lAV]
 | y :: ks,b,i + 1 => by
  rw [lAV,List.drop_succ_cons,zqp ks (b + 1) i,List.drop_succ_cons,show b + 1 + i = b + (i + 1) by omega]
section
variable {lv : Bool} {H : List AObj} {k kp : AV -> List AObj -> Prop}
theorem f50_w {xs : List Int} {e : End} {j : Nat} (h0 : 0 < xs.length) (hl : xs.length <= 2 ^ 30) (hj : H.length = j) (hk : k (.osl j 0 xs.length 0) (H ++ [.own 1 (xs.map iv) 3])) : FnC lv Tryz.prog 50 H [.sl xs.length (xs.map iv) e] k kp:=by
 refine zlA (rs:=[.tmp 2]) (nt:=6) Tryz.f50 fun hH hA => ?_;simp only [zlV,Nat.reduceAdd];subst hj;have hlen : (xs.map iv).length = xs.length:=by simp
 have htake : (xs.map iv).take xs.length = xs.map iv:=List.take_of_length_le (by omega);refine zfK ?_;(repeat apply zaa);refine zo1 (by kernel_rfl) ?_;refine ⟨rfl,AStep.sound ?_⟩;(try simp only [seval]);refine ⟨rfl,AStep.sound ?_⟩;(try simp only [seval]);refine ⟨rfl,znS (n:=0) (m:=xs.length) (l:=[]) (l':=xs.map iv) rfl rfl rfl rfl F.AppOf_30_30 (by simp only [seval] <;> rfl) (by simp only [seval] <;> rfl) (by simp only [seval,htake]) rfl (by simp) (by omega) h0 ?_⟩;(try simp only [seval]);refine ⟨rfl,AStep.sound ?_⟩;(try simp only [seval,SOps]);refine zlz ?_;exact zao hk
theorem f59_w {xs : List Band} {e : End} {j : Nat} (h0 : 0 < xs.length) (hl : xs.length <= 2 ^ 30) (hj : H.length = j) (hk : k (.osl j 0 xs.length 0) (H ++ [oL xs])) : FnC lv Tryz.prog 59 H [.sl xs.length (xs.flatMap Band.l) e] k kp:=by
 refine zlA (rs:=[.tmp 2]) (nt:=6) Tryz.f59 fun hH hA => ?_;simp only [zlV,Nat.reduceAdd];subst hj;have hlen : (xs.flatMap Band.l).length = xs.length * 2:=zld xs;have htake : (xs.flatMap Band.l).take (xs.length * 2) = xs.flatMap Band.l:=List.take_of_length_le (by omega);refine zfK ?_;(repeat apply zaa);refine zo1 (by kernel_rfl) ?_;refine ⟨rfl,AStep.sound ?_⟩;(try simp only [seval]);refine ⟨rfl,AStep.sound ?_⟩;(try simp only [seval]);refine ⟨rfl,znS (n:=0) (m:=xs.length) (l:=[]) (l':=xs.flatMap Band.l) rfl rfl rfl rfl F.AppOf_29_29 (by simp only [seval] <;> rfl) (by simp only [seval] <;> rfl) (by simp only [seval,htake]) rfl hlen (by omega) h0 ?_⟩;(try simp only [seval]);refine ⟨rfl,AStep.sound ?_⟩;(try simp only [seval,SOps]);refine zlz ?_;exact zao hk
theorem zun (y : Key) : AObj.own 1 (y.cuts.map iv) 3 = oK y:=rfl
theorem f28_o {x : Ring} (hx : x.Ok) (hk : k (.agg [iv x.cuts,.sl x.keys.length (kAV (H.length + 5) x.keys) (.opn (H.length + 3)),.sl x.locks.length (lAV (H.length + 5 + x.keys.length) x.locks) (.opn (H.length + 4)),zmg x.tries]) (H ++ (krO H.length x (.cells [iv x.cuts,.sl x.keys.length (kAV (H.length + 5) x.keys) (.opn (H.length + 3)),.sl x.locks.length (lAV (H.length + 5 + x.keys.length) x.locks) (.opn (H.length + 4)),zmg x.tries] 26) x.keys.length (kAV (H.length + 5) x.keys) x.keys.length x.locks.length (lAV (H.length + 5 + x.keys.length) x.locks) x.locks.length ++ (x.keys.map oK ++ x.locks.map oL)))) : FnC lv Tryz.prog 28 H [x.av] k kp:=by
 refine zlA (rs:=[.cell 2 26]) (nt:=58) Tryz.f28 fun hH hA => ?_;simp only [zlV,Nat.reduceAdd,Ring.av];have hs:=hx.small;have hcu:=hx.cuts;have htln:=zf5 x.tries;have htake : (x.tries.flatMap Try.l).take (x.tries.length * 3) = x.tries.flatMap Try.l:=List.take_of_length_le (by omega);refine zl5 ?_;simp only [seval,Ring.l];refine zmC [7,8] [0,1,2,3,4,5,6,7,8] [⟨0,false,[],[([7],[7])]⟩,⟨1,false,[],[([7],[7])]⟩,⟨2,false,[],[([7],[7])]⟩,⟨3,false,[],[([7],[7])]⟩,⟨4,false,[],[([7],[7])]⟩,⟨5,false,[],[([7],[7])]⟩,⟨6,false,[],[([7],[7])]⟩,⟨7,true,[7],[]⟩,⟨8,true,[7,8],[]⟩] (fun D => H ++ (.cells [iv x.cuts,zmq x.keys,zmb x.locks,zmg x.tries] 26 :: .cells [iv 0,.sl 0 [] .exact,.sl 0 [] .exact,.sl 0 [] .exact] 26 :: (bif zml 8 D then [.cells [iv x.cuts,.sl 0 [] .exact,.sl 0 [] .exact,zmg x.tries] 26] else bif zml 7 D then [.cells [iv 0,.sl 0 [] .exact,.sl 0 [] .exact,.sl 0 [] .exact] 26] else []))) ?_;simp only [seval,htake,htln,zmg];have hts:=hs.tries;refine ⟨by omega,by omega,?_⟩
 (repeat apply zaa); refine zdw (id:=H.length + 2) (j:=1) (sz:=3) (el':=65) (by simp only [seval] <;> rfl) rfl ?_
 try simp only [seval]
 (repeat apply zaa); refine zdw (id:=H.length + 2) (j:=2) (sz:=1) (el':=29) (by simp only [seval] <;> rfl) rfl ?_
 (try simp only [seval]);refine zfK ?_;have hks:=hx.keys;have hls:=hx.locks;have w1 : ∀ i : Nat,i <= 2 ^ 31 -> IntKind.i64.wrap ((i : Int) + 1) = i + 1:=fun i _ => zau _ (by omega);refine zlC ?_;refine zqx x.keys.length (fun i : Nat => [(4,iv i)]) (fun i => H ++ (krO H.length x (.cells [iv 0,.sl 0 [] .exact,.sl 0 [] .exact,.sl 0 [] .exact] 26) i (kAV (H.length + 5) (x.keys.take i)) i 0 [] 0 ++ (x.keys.take i).map oK)) (fun _ => True) (fun _ _ => rfl) (by simp only [seval]; simp [zaf,Wk.refl]) rfl (fun _ _ _ => by simp [krO]) trivial (fun hHs hLt i hin hi R hR => ?_);clear hHs hLt;refine zl5 ?_;simp only [seval,zmq,krO,Ring.l];refine zlu ?_;refine ⟨fun h => ?_,fun h => ?_⟩
 ·have hil : i < x.keys.length:=by omega
  obtain ⟨y,hy⟩:=zaE hil;obtain ⟨hyc,hyb,_⟩:=hx.key y (zas hy);have hwi:=w1 i (by omega);have htk : (x.keys.take i).length = i:=by rw [List.length_take]; omega
  have hsu : x.keys.take (i + 1) = x.keys.take i ++ [y]:=by rw [List.take_add_one,hy]; rfl
  have hkl : (kAV (H.length + 5) (x.keys.take i)).length = i * 3:=by rw [zpx,htk]
  have hsk:=zqq y (x.keys.take i) (H.length + 5);rw [htk] at hsk;rw [hsu,hsk] at hR;generalize x.keys.take i = ks at htk hkl hR ⊢;generalize kAV (H.length + 5) ks = kl at hkl hR ⊢;refine zly ?_;refine zlC ?_;refine zmC [8,17,19] [0,1,2,3,4,5,6,7,8,9,10,11,12,13,14,15,16,17,18,19] [⟨0,false,[],[([8],[8])]⟩,⟨1,false,[],[([8],[8])]⟩,⟨2,false,[],[]⟩,⟨3,false,[],[]⟩,⟨4,false,[],[]⟩,⟨5,false,[],[]⟩,⟨6,false,[],[]⟩,⟨7,false,[],[]⟩,⟨8,true,[8],[]⟩,⟨9,false,[8],[([],[])]⟩,⟨10,false,[8],[([],[])]⟩,⟨11,false,[8],[([],[])]⟩,⟨12,false,[8],[([],[])]⟩,⟨13,false,[8],[([],[])]⟩,⟨14,false,[8],[([],[])]⟩,⟨15,false,[8],[]⟩,⟨16,false,[8],[]⟩,⟨17,true,[8,17],[]⟩,⟨18,false,[8,17],[]⟩,⟨19,true,[8,17,19],[]⟩] (fun D => H ++ (.cells [iv x.cuts,.sl x.keys.length (x.keys.flatMap Key.l) .shut,zmb x.locks,zmg x.tries] 26 :: .cells [iv 0,.sl 0 [] .exact,.sl 0 [] .exact,.sl 0 [] .exact] 26 :: .cells [iv x.cuts,bif zml 19 D then .sl (i + 1) (kl ++ [.osl (H.length + 5 + i) 0 y.cuts.length 0,iv y.wear.min,iv y.wear.max]) (.opn (H.length + 3)) else .sl i kl (.opn (H.length + 3)),.sl 0 [] (.opn (H.length + 4)),zmg x.tries] 26 :: .tail (bif zml 17 D then i + 1 else i) 3 65 :: .tail 0 1 29 :: (ks.map oK ++ (bif zml 8 D then [oK y] else [])))) ?_;simp only [seval,zc2 hy,zaz hil,hkl,zk3,zd5,aInts,zmq];refine zoD _ _ (zl4 (f50_w (xs:=y.cuts) (j:=H.length + 5 + i) (by omega) (by omega) (by simp; omega) ⟨rfl,rfl⟩)) ?_;(try simp only [seval,zc2 hy,zaz hil,hkl,zk3,zd5,aInts,zmq,List.append_assoc,zun]);refine ⟨by omega,?_⟩;refine zl5 ?_;simp only [seval,hwi];refine hR _ ⟨hil,trivial,?_⟩;simp only [krO,List.map_append,List.map_cons,List.map_nil,List.cons_append,List.nil_append];exact zlK
 ·have hix : i = x.keys.length:=by omega
  subst hix;clear hR;rw [List.take_length];have hkl : (kAV (H.length + 5) x.keys).length = x.keys.length * 3:=zpx _ _;generalize kAV (H.length + 5) x.keys = kl at hkl hk ⊢;refine zlF ?_;refine zfK ?_;refine zlC ?_;refine zqx x.locks.length (fun i : Nat => [(5,iv i)]) (fun i => H ++ (krO H.length x (.cells [iv 0,.sl 0 [] .exact,.sl 0 [] .exact,.sl 0 [] .exact] 26) x.keys.length kl x.keys.length i (lAV (H.length + 5 + x.keys.length) (x.locks.take i)) i ++ (x.keys.map oK ++ (x.locks.take i).map oL))) (fun _ => True) (fun _ _ => rfl) (by simp only [seval]; simp [zaf,Wk.refl]) (by simp [krO,lAV]; rfl) (fun _ _ _ => by simp [krO]) trivial (fun hHs hLt i hin hi R hR => ?_);clear hHs hLt;refine zl5 ?_;simp only [seval,zmb,krO,Ring.l];refine zlu ?_;refine ⟨fun h => ?_,fun h => ?_⟩
  ·have hil : i < x.locks.length:=(by omega);obtain ⟨l,hl⟩:=zaE hil;obtain ⟨hlc,hlb⟩:=hx.lock l (zas hl);have hwi:=w1 i (by omega);have htk : (x.locks.take i).length = i:=(by rw [List.length_take]; omega);have hsu : x.locks.take (i + 1) = x.locks.take i ++ [l]:=(by rw [List.take_add_one,hl]; rfl);have hll : (lAV (H.length + 5 + x.keys.length) (x.locks.take i)).length = i:=(by rw [zqa,htk]);have hsk:=zqo l (x.locks.take i) (H.length + 5 + x.keys.length);have hzs1 : zmn (Value.slice none 0 0) 1 = [.sl 0 [] .exact]:=rfl;rw [htk] at hsk;rw [hsu,hsk] at hR;generalize x.locks.take i = ls at htk hll hR ⊢;generalize lAV (H.length + 5 + x.keys.length) ls = ll at hll hR ⊢;refine zly ?_;refine zlC ?_;refine zmC [7,9,11] [0,1,2,3,4,5,6,7,8,9,10,11] [⟨0,false,[],[([7],[7])]⟩,⟨1,false,[],[([7],[7])]⟩,⟨2,false,[],[]⟩,⟨3,false,[],[]⟩,⟨4,false,[],[]⟩,⟨5,false,[],[]⟩,⟨6,false,[],[]⟩,⟨7,true,[7],[]⟩,⟨8,false,[7],[]⟩,⟨9,true,[7,9],[]⟩,⟨10,false,[7,9],[]⟩,⟨11,true,[7,9,11],[]⟩] (fun D => H ++ (.cells [iv x.cuts,zmq x.keys,.sl x.locks.length (x.locks.map aBands) .shut,zmg x.tries] 26 :: .cells [iv 0,.sl 0 [] .exact,.sl 0 [] .exact,.sl 0 [] .exact] 26 :: .cells [iv x.cuts,.sl x.keys.length kl (.opn (H.length + 3)),bif zml 11 D then .sl (i + 1) (ll ++ [.osl (H.length + 5 + x.keys.length + i) 0 l.length 0]) (.opn (H.length + 4)) else .sl i ll (.opn (H.length + 4)),zmg x.tries] 26 :: .tail x.keys.length 3 65 :: .tail (bif zml 9 D then i + 1 else i) 1 29 :: (x.keys.map oK ++ (ls.map oL ++ (bif zml 7 D then [oL l] else []))))) ?_;simp only [seval,zfu hl,zaz hil,hll,hzs1,zhq,zho,aBands];refine zoD _ _ (zl4 (f59_w (xs:=l) (j:=H.length + 5 + x.keys.length + i) (by omega) (by omega) (by simp; omega) ⟨rfl,rfl⟩)) ?_;(try simp only [seval,zfu hl,zaz hil,hll,hzs1,zhq,zho,List.append_assoc]);refine ⟨by omega,?_⟩;refine zl5 ?_;simp only [seval,hwi];refine hR _ ⟨hil,trivial,?_⟩;simp only [krO,List.map_append,List.map_cons,List.map_nil,List.cons_append,List.nil_append];exact zlK
  ·have hix : i = x.locks.length:=(by omega);subst hix;clear hR;rw [List.take_length];refine zlF ?_;refine zl5 ?_;simp only [seval,krO,Ring.l];refine zlz ?_;exact zao hk
end
theorem sh_kAV {ks : List Key} {b i : Nat} {y : Key} (h : ks[i]? = some y) : AV.shift (i * 3) (.rp (kAV b ks)) = some (.rp (.osl (b + i) 0 y.cuts.length 0 :: iv y.wear.min :: iv y.wear.max :: kAV (b + i + 1) (ks.drop (i + 1)))):=by
 obtain ⟨hi,rfl⟩:=List.getElem?_eq_some_iff.1 h;rw [zd7 _ _ (by rw [zpx]; exact Nat.mul_le_mul_right _ (by omega)),zqr,List.drop_eq_getElem_cons hi]; rfl
theorem sh_lAV {ks : List (List Band)} {b i : Nat} {y : List Band} (h : ks[i]? = some y) : AV.shift i (.rp (lAV b ks)) = some (.rp (.osl (b + i) 0 y.length 0 :: lAV (b + i + 1) (ks.drop (i + 1)))):=by
 obtain ⟨hi,rfl⟩:=List.getElem?_eq_some_iff.1 h;rw [zd7 _ _ (by rw [zqa]; omega),zqp,List.drop_eq_getElem_cons hi]; rfl
def zn8 {α : Type} (f : α -> α) (l : List α) (i : Nat) : List α:=(l.take i).map f ++ l.drop i
section
variable {α : Type} {f : α -> α} {l : List α} {i : Nat} {y : α}
theorem zpi : zn8 f l 0 = l:=by simp [zn8]
theorem zpO : zn8 f l l.length = l.map f:=by simp [zn8]
theorem zoi (f : α -> α) (l : List α) (i : Nat) : (zn8 f l i).length = l.length:=by simp [zn8]; omega
theorem zqn (h : l[i]? = some y) : (zn8 f l i)[i]? = some y:=by
 have hi:=get_lt h;unfold zn8;rw [List.getElem?_append_right (by simp; omega),List.getElem?_drop];have e : i + (i - ((l.take i).map f).length) = i:=by simp; omega
 rw [e]; exact h
theorem zpN (h : l[i]? = some y) : (zn8 f l i).set i (f y) = zn8 f l (i + 1):=by
 obtain ⟨hi,rfl⟩:=List.getElem?_eq_some_iff.1 h;unfold zn8;rw [List.set_append_right _ _ (by simp; omega),List.drop_eq_getElem_cons hi,List.take_succ_eq_append_getElem hi];have e : i - ((l.take i).map f).length = 0:=by simp; omega
 rw [e,List.set_cons_zero,List.map_append,List.append_assoc]; rfl
def zmQ (l : List α) (i : Nat) : List α:=l.reverse.take i ++ l.drop i
theorem zpf : zmQ l 0 = l:=by simp [zmQ]
theorem zpK : zmQ l l.length = l.reverse:=by
 unfold zmQ;rw [List.take_of_length_le (by simp),List.drop_length,List.append_nil]
theorem zpJ (h : i <= l.length) : (zmQ l i).length = l.length:=by simp [zmQ]; omega
theorem zpI (hi : i < l.length) (h : l[l.length - 1 - i]? = some y) : (zmQ l i).set i y = zmQ l (i + 1):=by
 unfold zmQ;have h1 : (l.reverse.take i).length = i:=by simp; omega
 have h2 : l.reverse[i]? = some y:=by rw [List.getElem?_reverse hi]; exact h
 rw [List.set_append_right _ _ (by omega),h1,Nat.sub_self,List.drop_eq_getElem_cons hi,List.set_cons_zero,List.take_add_one,h2];simp
end
theorem zoM {α : Type} : ∀ {l : List α} {i : Nat} {a : α},l[i]? = some a -> l.set i a = l
 | [],_,_,h => by simp at h
 | b :: l,0,a,h => by cases h; rfl
 | b :: l,i + 1,a,h => by rw [List.set_cons_succ,zoM (by simpa using h)]
theorem zqN {xs : List Band} {i : Nat} {y : Band} (h : i < xs.length) : (xs.flatMap Band.l).take (i * 2) ++ [iv y.min,iv y.max] ++ (xs.flatMap Band.l).drop (i * 2 + 2) = (xs.set i y).flatMap Band.l:=by
 have h1 : ∀ (l : List Band) (n : Nat),(l.flatMap Band.l).take (n * 2) = (l.take n).flatMap Band.l:=fun l => by
  induction l with
  | nil => simp
  | cons b l ih => intro n; cases n with
   | zero => simp
   | succ n => rw [List.flatMap_cons,List.take_succ_cons,List.flatMap_cons,<- ih n,show (n + 1) * 2 = (n * 2) + 2 by omega]; rfl
 have h2 : ∀ (l : List Band) (n : Nat),(l.flatMap Band.l).drop (n * 2) = (l.drop n).flatMap Band.l:=fun l => by
  induction l with
  | nil => simp
  | cons b l ih => intro n; cases n with
   | zero => simp
   | succ n => rw [List.flatMap_cons,List.drop_succ_cons,<- ih n,show (n + 1) * 2 = (n * 2) + 2 by omega]; rfl
 rw [h1,show i * 2 + 2 = (i + 1) * 2 by omega,h2,List.set_eq_take_append_cons_drop,if_pos h,List.flatMap_append,List.flatMap_cons,List.append_assoc]; rfl
theorem zok {A K L : List AObj} {x : AObj} {j : Nat} (hj : j = A.length + K.length + L.length) : (A ++ (K ++ (L ++ [x])))[j]? = some x:=by
 subst hj;rw [List.getElem?_append_right (by omega),List.getElem?_append_right (by omega),List.getElem?_append_right (by omega)];rw [show A.length + K.length + L.length - A.length - K.length - L.length = 0 by omega]; rfl
theorem zoH {A K R : List AObj} {o : AObj} {i j : Nat} (h : K[i]? = some o) (hj : j = A.length + i) : (A ++ (K ++ R))[j]? = some o:=by
 subst hj;have hi:=get_lt h;rw [List.getElem?_append_right (by omega),show A.length + i - A.length = i by omega,List.getElem?_append_left hi]; exact h
theorem zqk {A K R : List AObj} {o : AObj} {i j : Nat} (hi : i < K.length) (hj : j = A.length + i) : (A ++ (K ++ R)).set j o = A ++ (K.set i o ++ R):=by
 subst hj;rw [List.set_append_right _ _ (by omega),show A.length + i - A.length = i by omega,List.set_append_left _ _ hi]
theorem zqj {A K L : List AObj} {x y : AObj} {j : Nat} (hj : j = A.length + K.length + L.length) : (A ++ (K ++ (L ++ [x]))).set j y = A ++ (K ++ (L ++ [y])):=by
 subst hj;rw [List.set_append_right _ _ (by omega),List.set_append_right _ _ (by omega),List.set_append_right _ _ (by omega),show A.length + K.length + L.length - A.length - K.length - L.length = 0 by omega]; rfl
theorem cons7 (a b c d e f g : AObj) (R : List AObj) : a :: b :: c :: d :: e :: f :: g :: R = [a,b,c,d,e,f,g] ++ R:=rfl
theorem gen7 {C : List AObj -> Prop} {H : List AObj} {a b c d e f g : AObj} (h : ∀ A : List AObj,H ++ [a,b,c,d,e,f,g] = A -> C A) : C (H ++ [a,b,c,d,e,f,g]):=h _ rfl
theorem oK_at {ks : List Key} {i : Nat} {y : Key} (h : ks[i]? = some y) : (ks.map oK)[i]? = some (oK y):=by rw [List.getElem?_map,h]; rfl
theorem oL_at {ks : List (List Band)} {i : Nat} {y : List Band} (h : ks[i]? = some y) : (ks.map oL)[i]? = some (oL y):=by rw [List.getElem?_map,h]; rfl
def pK (y : Key) : AObj:=.part (y.cuts.map iv).length (y.cuts.map iv) 3
def pL (l : List Band) : AObj:=.part (l.flatMap Band.l).length (l.flatMap Band.l) 63
theorem oK_map (ks : List Key) : ks.map oK = (ks.map fun y => y.cuts.map iv).map fun l => AObj.own 1 l 3:=by rw [List.map_map]; rfl
theorem pK_map (ks : List Key) : (ks.map fun y => y.cuts.map iv).map (fun l => AObj.part l.length l 3) = ks.map pK:=by rw [List.map_map]; rfl
theorem oL_map (ks : List (List Band)) : ks.map oL = (ks.map fun y => y.flatMap Band.l).map fun l => AObj.own 2 l 63:=by rw [List.map_map]; rfl
theorem pL_map (ks : List (List Band)) : (ks.map fun y => y.flatMap Band.l).map (fun l => AObj.part l.length l 63) = ks.map pL:=by rw [List.map_map]; rfl
inductive WkHs (H : List AObj) : List AV -> List AV -> Prop
 | nil : WkHs H [] []
 | cons {a b : AV} {l m : List AV} (h : WkH H a b) (t : WkHs H l m) : WkHs H (a :: l) (b :: m)
theorem WkHs.len {H : List AObj} {l m : List AV} (h : WkHs H l m) : l.length = m.length:=by
 induction h with
 | nil => rfl
 | cons _ _ ih => simp [ih]
theorem WkHs.at {H : List AObj} {l m : List AV} (h : WkHs H l m) : ∀ (i : Nat) (b a : AV),l[i]? = some b -> m[i]? = some a -> WkH H b a:=by
 induction h with
 | nil => intro i b a h; simp at h
 | cons h _ ih =>
  intro i b a h1 h2
  match i with
  | 0 => cases h1; cases h2; exact h
  | i + 1 => exact ih i b a h1 h2
theorem zpF {H : List AObj} : ∀ (ks : List Key) (b : Nat),(∀ (i : Nat) y,ks[i]? = some y -> H[b + i]? = some (.part (y.cuts.map iv).length (y.cuts.map iv) 3)) -> WkHs H (kAV b ks) (ks.flatMap Key.l)
 | [],_,_ => .nil
 | y :: ks,b,h => by
  refine .cons ?_ (.cons (.of (Wk.refl _)) (.cons (.of (Wk.refl _)) (zpF ks (b + 1) fun i z hz => ?_)))
  ·have h0:=h 0 y rfl;have e : aInts y.cuts = .sl y.cuts.length ((y.cuts.map iv).take (y.cuts.map iv).length) .shut:=(by rw [List.take_length]; rfl);rw [e];exact zqI h0 (Nat.le_refl _) (Nat.le_refl _)
  ·have:=h (i + 1) z hz;rwa [show b + (i + 1) = b + 1 + i by omega] at this
theorem zpb {H : List AObj} : ∀ (ks : List (List Band)) (b : Nat),(∀ (i : Nat) y,ks[i]? = some y -> H[b + i]? = some (.part (y.flatMap Band.l).length (y.flatMap Band.l) 63)) -> WkHs H (lAV b ks) (ks.map aBands)
 | [],_,_ => .nil
 | y :: ks,b,h => by
  refine .cons ?_ (zpb ks (b + 1) fun i z hz => ?_)
  ·have h0:=h 0 y rfl;have e : aBands y = .sl y.length ((y.flatMap Band.l).take (y.flatMap Band.l).length) .shut:=(by rw [List.take_length]; rfl);rw [e];exact zqI h0 (Nat.le_refl _) (Nat.le_refl _)
  ·have:=h (i + 1) z hz;rwa [show b + (i + 1) = b + 1 + i by omega] at this
theorem zqZ : ∀ (ks : List Key) (b : Nat),kAV b (ks.map Key.rev) = kAV b ks
 | [],_ => rfl
 | y :: ks,b => by rw [List.map_cons,kAV,kAV,zqZ ks]; simp [Key.rev]
theorem zqX : ∀ (ks : List (List Band)) (b : Nat),lAV b (ks.map List.reverse) = lAV b ks
 | [],_ => rfl
 | y :: ks,b => by rw [List.map_cons,lAV,lAV,zqX ks]; simp
section
variable {lv : Bool} {H : List AObj} {k kp : AV -> List AObj -> Prop}
theorem f79_c {x : Ring} (hx : x.Ok) (hk : k (x.rev).av H) : FnC lv Tryz.prog 79 H [x.av] k kp:=by
 refine zlA (rs:=[.cell 2 26]) (nt:=77) Tryz.f79 fun hH hA => ?_;simp only [zlV,Nat.reduceAdd,Ring.av];refine zl5 ?_;simp only [seval,Ring.l];refine zfK ?_;refine zl6 ((f28_o (x:=x) hx ?_));(try simp only [seval,krO,List.length_append,List.append_assoc]);rw [cons7,<- List.append_assoc];refine gen7 (C:=fun A => AWP _ _ _ _ _ ⟨_,A ++ _⟩ _) fun A hAe => ?_;have hAl : A.length = H.length + 7:=by rw [<- hAe]; simp
 have hA0 : ∀ R : List AObj,(A ++ R)[H.length]? = some (.cells [iv x.cuts,zmq x.keys,zmb x.locks,zmg x.tries] 26):=fun R => by rw [<- hAe]; simp
 have hjx : H.length + (x.keys.length + x.locks.length + 1 + 1 + 1 + 1 + 1 + 1 + 1) = A.length + x.keys.length + x.locks.length:=by omega
 have hjK : H.length + 2 + 5 = A.length:=by omega
 rw [hjx,hjK];generalize hop3 : End.opn (H.length + 2 + 3) = e3;generalize hop4 : End.opn (H.length + 2 + 4) = e4;have hcu:=hx.cuts;have hks:=hx.keys;have hls:=hx.locks;have w1 : ∀ i : Nat,i <= 1000 -> IntKind.i64.wrap ((i : Int) + 1) = i + 1:=fun i _ => zau _ (by omega);refine zfK ?_;refine zlC ?_;generalize hcx : AObj.cells [iv x.cuts,.sl x.keys.length (kAV A.length x.keys) e3,.sl x.locks.length (lAV (A.length + x.keys.length) x.locks) e4,zmg x.tries] 26 = cx;refine zaB x.keys.length (fun q : Nat => [(4,iv q)]) (fun q => A ++ ((zn8 Key.rev x.keys q).map oK ++ (x.locks.map oL ++ [cx]))) (fun _ => True) (fun _ _ => rfl) (by simp only [seval]; simp [zaf,Wk.refl]) (by rw [zpi]) (fun _ _ _ => by simp [zoi]) trivial (fun hHs hLt q hqn hqo R hR => ?_);clear hHs hLt;refine zl5 ?_;simp only [seval,zmq,hA0];refine zlu ?_;refine ⟨fun h => ?_,fun h => ?_⟩
 ·have hql : q < x.keys.length:=by omega
  obtain ⟨y,hy⟩:=zaE hql;obtain ⟨hyc,hyb,_⟩:=hx.key y (zas hy);have hwq:=w1 q (by omega);have hmy:=zqn (f:=Key.rev) hy;have hms:=zpN (f:=Key.rev) hy;have hml:=zoi Key.rev x.keys q;rw [<- hms] at hR;generalize zn8 Key.rev x.keys q = ks at hmy hml hR ⊢;refine zly ?_;refine zfK ?_;refine zlC ?_;refine zaB y.cuts.length (fun i : Nat => [(5,iv i)]) (fun i => A ++ ((ks.set q ⟨zmQ y.cuts i,y.wear⟩).map oK ++ (x.locks.map oL ++ [cx]))) (fun _ => True) (fun _ _ => rfl) (by simp only [seval]; simp [zaf,Wk.refl]) (by rw [zpf,zoM (show ks[q]? = some ⟨y.cuts,y.wear⟩ from hmy)]) (fun _ _ _ => by simp) trivial (fun hHs hLt i hin hi R2 hR2 => ?_);clear hHs hLt;refine zl5 ?_;simp only [seval,hA0];have hgx : ∀ K : List Key,K.length = x.keys.length -> (A ++ (K.map oK ++ (x.locks.map oL ++ [cx])))[A.length + x.keys.length + x.locks.length]? = some (.cells [iv x.cuts,.sl x.keys.length (kAV A.length x.keys) e3,.sl x.locks.length (lAV (A.length + x.keys.length) x.locks) e4,zmg x.tries] 26):=fun K hK => by
   rw [hcx]; exact zok (by simp [hK])
  refine zlu ?_;refine ⟨fun h2 => ?_,fun h2 => ?_⟩
  ·have hil : i < y.cuts.length:=(by omega);obtain ⟨v,hv⟩:=zaE (xs:=y.cuts) (i:=y.cuts.length - 1 - i) (by omega);have hwi:=w1 i (by omega);have hwc : IntKind.i64.wrap (x.cuts - 1) = x.cuts - 1:=zau _ (by omega);have hwr : IntKind.i64.wrap (x.cuts - 1 - (i : Int)) = ((y.cuts.length - 1 - i : Nat) : Int):=(by rw [zau _ (by omega)]; omega);have hrl:=zpJ (l:=y.cuts) (i:=i) (by omega);have hrs:=zpI hil hv;have h1:=hgx (ks.set q ⟨zmQ y.cuts i,y.wear⟩) (by rw [List.length_set,hml]);have hat : (ks.set q ⟨zmQ y.cuts i,y.wear⟩)[q]? = some ⟨zmQ y.cuts i,y.wear⟩:=(by simp [hml,hql]);have h3 : (A ++ ((ks.set q ⟨zmQ y.cuts i,y.wear⟩).map oK ++ (x.locks.map oL ++ [cx])))[A.length + q]? = some (.own 1 ((zmQ y.cuts i).map iv) 3):=zoH (oK_at hat) rfl;have h4 : (A ++ ((ks.set q ⟨zmQ y.cuts i,y.wear⟩).map oK ++ (x.locks.map oL ++ [cx]))).set (A.length + q) (.own 1 ((zmQ y.cuts (i + 1)).map iv) 3) = A ++ ((ks.set q ⟨zmQ y.cuts (i + 1),y.wear⟩).map oK ++ (x.locks.map oL ++ [cx])):=by
    rw [zqk (by simp [hml,hql]) rfl,List.map_set,List.map_set,List.set_set]; rfl
   have h5 : (i + 1 <= ((zmQ y.cuts i).map iv).length) = True:=(by simp; omega);have h6:=zfv (xs:=zmQ y.cuts i) (i:=i) (y:=v) (by omega);rw [hrs] at h6;refine zly ?_;refine zlC ?_;refine zl8 20 ?_;simp only [seval,hA0,h1,h3,h4,h5,h6,hwc,hwr,sh_kAV hy,zc2 hy,za2 hv,zaz hql,zaz hil,zaz (get_lt hv),aInts,zmq];refine ⟨by omega,?_⟩;refine zl5 ?_;simp only [seval,hwi];refine hR2 _ ⟨hil,trivial,zlK⟩
  ·have hix : i = y.cuts.length:=(by omega);subst hix;clear hR2;rw [zpK];refine zlF ?_;refine zl5 ?_;simp only [seval,hwq];refine hR _ ⟨hql,trivial,?_⟩;exact zlK
 ·have hqx : q = x.keys.length:=by omega
  subst hqx;clear hR;rw [zpO];refine zlF ?_;refine zfK ?_;refine zlC ?_;refine zaB x.locks.length (fun q : Nat => [(6,iv q)]) (fun q => A ++ ((x.keys.map Key.rev).map oK ++ ((zn8 List.reverse x.locks q).map oL ++ [cx]))) (fun _ => True) (fun _ _ => rfl) (by simp only [seval]; simp [zaf,Wk.refl]) (by rw [zpi]) (fun _ _ _ => by simp [zoi]) trivial (fun hHs hLt q hqn hqo R hR => ?_);clear hHs hLt;refine zl5 ?_;simp only [seval,zmb,hA0];refine zlu ?_;refine ⟨fun h => ?_,fun h => ?_⟩
  ·have hql : q < x.locks.length:=(by omega);obtain ⟨y,hy⟩:=zaE hql;obtain ⟨hyc,hyb⟩:=hx.lock y (zas hy);have hwq:=w1 q (by omega);have hmy:=zqn (f:=List.reverse) hy;have hms:=zpN (f:=List.reverse) hy;have hml:=zoi List.reverse x.locks q;rw [<- hms] at hR;generalize zn8 List.reverse x.locks q = ls at hmy hml hR ⊢;refine zly ?_;refine zfK ?_;refine zlC ?_;refine zaB y.length (fun i : Nat => [(7,iv i)]) (fun i => A ++ ((x.keys.map Key.rev).map oK ++ ((ls.set q (zmQ y i)).map oL ++ [cx]))) (fun _ => True) (fun _ _ => rfl) (by simp only [seval]; simp [zaf,Wk.refl]) (by rw [zpf,zoM hmy]) (fun _ _ _ => by simp) trivial (fun hHs hLt i hin hi R2 hR2 => ?_);clear hHs hLt;refine zl5 ?_;simp only [seval,hA0];have hgx : ∀ L : List (List Band),L.length = x.locks.length -> (A ++ ((x.keys.map Key.rev).map oK ++ (L.map oL ++ [cx])))[A.length + x.keys.length + x.locks.length]? = some (.cells [iv x.cuts,.sl x.keys.length (kAV A.length x.keys) e3,.sl x.locks.length (lAV (A.length + x.keys.length) x.locks) e4,zmg x.tries] 26):=fun L hL => by
    rw [hcx]; exact zok (by simp [hL])
   refine zlu ?_;refine ⟨fun h2 => ?_,fun h2 => ?_⟩
   ·have hil : i < y.length:=(by omega);obtain ⟨v,hv⟩:=zaE (xs:=y) (i:=y.length - 1 - i) (by omega);have hwi:=w1 i (by omega);have hwc : IntKind.i64.wrap (x.cuts - 1) = x.cuts - 1:=zau _ (by omega);have hwr : IntKind.i64.wrap (x.cuts - 1 - (i : Int)) = ((y.length - 1 - i : Nat) : Int):=(by rw [zau _ (by omega)]; omega);have hrl:=zpJ (l:=y) (i:=i) (by omega);have hrs:=zpI hil hv;have h1:=hgx (ls.set q (zmQ y i)) (by rw [List.length_set,hml]);have hat : (ls.set q (zmQ y i))[q]? = some (zmQ y i):=(by simp [hml,hql]);have h3 : (A ++ ((x.keys.map Key.rev).map oK ++ ((ls.set q (zmQ y i)).map oL ++ [cx])))[A.length + x.keys.length + q]? = some (.own 2 ((zmQ y i).flatMap Band.l) 63):=by
     rw [<- List.append_assoc]; exact zoH (oL_at hat) (by simp)
    have h4 : (A ++ ((x.keys.map Key.rev).map oK ++ ((ls.set q (zmQ y i)).map oL ++ [cx]))).set (A.length + x.keys.length + q) (.own 2 ((zmQ y (i + 1)).flatMap Band.l) 63) = A ++ ((x.keys.map Key.rev).map oK ++ ((ls.set q (zmQ y (i + 1))).map oL ++ [cx])):=by
     rw [<- List.append_assoc,zqk (i:=q) (by simp [hml,hql]) (by simp),List.map_set,List.map_set,List.set_set,List.append_assoc]; rfl
    have h5 : (i * 2 + 2 <= ((zmQ y i).flatMap Band.l).length) = True:=(by rw [zld,hrl]; simp; omega);have h6:=zqN (xs:=zmQ y i) (i:=i) (y:=v) (by omega);rw [hrs] at h6;refine zly ?_;refine zlC ?_;refine zl8 18 ?_;simp only [seval,hA0,h1,h3,h4,h5,h6,hwc,hwr,sh_lAV hy,zfu hy,zdh hv,zaz hql,zaz hil,zaz (get_lt hv),aBands,zmb];refine zl5 ?_;simp only [seval,hwi];refine hR2 _ ⟨hil,trivial,zlK⟩
   ·have hix : i = y.length:=(by omega);subst hix;clear hR2;rw [zpK];refine zlF ?_;refine zl5 ?_;simp only [seval,hwq];refine hR _ ⟨hql,trivial,?_⟩;exact zlK
  ·have hqx : q = x.locks.length:=(by omega);subst hqx;clear hR;rw [zpO];refine zlF ?_
   (repeat apply zaa)
   rw [oK_map];refine zpC _ A _ ?_;rw [pK_map,oL_map,<- List.append_assoc];refine zpC _ (A ++ (x.keys.map Key.rev).map pK) _ ?_;rw [pL_map,List.append_assoc];have eK : zmq x.rev.keys = .sl x.keys.length ((x.keys.map Key.rev).flatMap Key.l) .shut:=(by rw [zmq,zpu]; rfl);have eL : zmb x.rev.locks = .sl x.locks.length ((x.locks.map List.reverse).map aBands) .shut:=(by rw [zmb,zoO]; rfl);have hj : A.length + x.keys.length + x.locks.length = A.length + ((x.keys.map Key.rev).map pK).length + ((x.locks.map List.reverse).map pL).length:=(by simp);have hK : ∀ z : AObj,WkH (A ++ ((x.keys.map Key.rev).map pK ++ ((x.locks.map List.reverse).map pL ++ [z]))) (.sl x.keys.length (kAV A.length x.keys) e3) (zmq x.rev.keys):=fun z => by
    rw [eK,<- zqZ];have h:=zpF (H:=A ++ ((x.keys.map Key.rev).map pK ++ ((x.locks.map List.reverse).map pL ++ [z]))) (x.keys.map Key.rev) A.length fun i y hy => zoH (by rw [List.getElem?_map,hy]; rfl) rfl;exact ztm h.len h.at
   have hL : ∀ z : AObj,WkH (A ++ ((x.keys.map Key.rev).map pK ++ ((x.locks.map List.reverse).map pL ++ [z]))) (.sl x.locks.length (lAV (A.length + x.keys.length) x.locks) e4) (zmb x.rev.locks):=fun z => by
    rw [eL,<- zqX];have h:=zpb (H:=A ++ ((x.keys.map Key.rev).map pK ++ ((x.locks.map List.reverse).map pL ++ [z]))) (x.locks.map List.reverse) (A.length + x.keys.length) fun i y hy => by
     rw [<- List.append_assoc]; exact zoH (by rw [List.getElem?_map,hy]; rfl) (by simp)
    exact ztm h.len h.at
   rw [<- hcx];refine zqw (id:=A.length + x.keys.length + x.locks.length) (j:=1) (y:=zmq x.rev.keys) (zok hj) rfl (hK _) ?_;simp only [];rw [zqj hj];refine zqw (id:=A.length + x.keys.length + x.locks.length) (j:=2) (y:=zmb x.rev.locks) (zok hj) rfl (hL _) ?_;simp only [];rw [zqj hj];simp only [List.set_cons_succ,List.set_cons_zero];have hg : (A ++ ((x.keys.map Key.rev).map pK ++ ((x.locks.map List.reverse).map pL ++ [.cells [iv x.cuts,zmq x.rev.keys,zmb x.rev.locks,zmg x.tries] 26])))[A.length + x.keys.length + x.locks.length]? = some (.cells [iv x.cuts,zmq x.rev.keys,zmb x.rev.locks,zmg x.tries] 26):=zok hj;generalize (x.keys.map Key.rev).map pK ++ ((x.locks.map List.reverse).map pL ++ [AObj.cells [iv x.cuts,zmq x.rev.keys,zmb x.rev.locks,zmg x.tries] 26]) = G at hg ⊢;have hA1 : (A ++ G)[H.length + 1]? = some (.cells [iv 0,.sl 0 [] .exact,.sl 0 [] .exact,.sl 0 [] .exact] 26):=(by rw [<- hAe]; simp);have hA2 : ∀ z : AObj,(A ++ G).set (H.length + 1) z = H ++ (((A ++ G).drop H.length).set 1 z):=fun z => (by rw [<- hAe]; simp);have hA3 : ∀ z : AObj,(H ++ (((A ++ G).drop H.length).set 1 z))[H.length + 1]? = some z:=fun z => (by rw [<- hAe]; simp);refine zl5 ?_;simp only [seval,hg,hA1,hA2];refine zns ?_;simp only [seval,hA3];exact endA (b:=(x.rev).av) hH (Wk.refl _) (by rw [zfC]; trivial) hk
end
section
variable {H : List AObj} {k kp : AV -> List AObj -> Prop}
end
section
variable {H : List AObj} {k kp : AV -> List AObj -> Prop} {x : Ring}
theorem f53_r (hmain : H[0]? = some .main) (hx : x.Ok) (hk : k (.tup [iv (zom x : Nat),iv 0]) H) : FnC true Tryz.prog 53 H [x.rev.av] k kp:=f53_d hmain (zot hx).small (by rw [zqQ hx,(zoP hx).1]; exact hk)
theorem f38_r (hmain : H[0]? = some .main) (hx : x.Ok) (hk : k (.tup [aInts (fewG x false),iv (fewE x false)]) H) : FnC true Tryz.prog 38 H [x.rev.av] k kp:=f38_d hmain (zot hx).small (by rw [(zpv hx false).1,(zpv hx false).2]; exact hk)
theorem f42_r (hmain : H[0]? = some .main) (hx : x.Ok) (hk : k (.tup [aInts (fewG x true),iv (fewE x true)]) H) : FnC true Tryz.prog 42 H [x.rev.av] k kp:=f42_d hmain (zot hx).small (by rw [(zpv hx true).1,(zpv hx true).2]; exact hk)
theorem f40_r (hmain : H[0]? = some .main) (hx : x.Ok) (hk : k (.tup [aInts (zn5 x),iv (zm1 x true)]) H) : FnC true Tryz.prog 40 H [x.rev.av] k kp:=f40_d hmain (zot hx).small (by rw [zqR hx,zoQ hx]; exact hk)
theorem f76_r (hmain : H[0]? = some .main) (hx : x.Ok) (hk : k (.tup [aInts (masG x.rev),iv (masN x),iv (masE x)]) H) : FnC true Tryz.prog 76 H [x.rev.av] k kp:=f76_d hmain (zot hx).small (by rw [(zqP hx).1,(zqP hx).2]; exact hk)
theorem zqc (hx : x.Ok) : (zm1 x true == 0) = decide (0 < (zom x : Int)):=by
 have h:=zbH.2 hx;unfold zm1 zou zom;rw [h];cases ht : zmy x with
 | nil => rfl
 | cons a l => simp
theorem zsc (hx : x.Ok) : (masE x == 0) = true \/ ((masE x == 0) = false /\ (masE x == 11) = true):=by
 obtain ⟨_,h⟩:=zpw hx;rw [h];split
 ·exact .inr ⟨rfl,rfl⟩
 ·exact .inl rfl
set_option maxRecDepth 8000 in
set_option maxHeartbeats 4000000 in
theorem f22_c {nums : List Int} (hmain : H[0]? = some .main) (hn : nums.length <= 2 ^ 50) (hk : k (bv true) H) : FnC true Tryz.prog 22 H [aInts nums] k kp:=by
 have hmn : ∀ L : List AObj,(H ++ L)[0]? = some .main:=fun L => zay hmain;refine zlA (rs:=[.tmp 2]) (nt:=157) Tryz.f22 fun hH hA => ?_;simp only [zlV,Nat.reduceAdd];refine zfK ?_;refine zfK ?_;refine zl6 ((f26_c ?_));(try simp only [seval]);refine zl6 ((f49_c (K:=3) (L:=3) (T:=3) (wr:=true) (zjT H) (tinOk0 hn _) (by decide) (by decide) (by decide) (by decide) fun x ws τ hP hτ => ?_));(try simp only [seval,Ring.av,Ring.l]);have hx:=hP.ok (by decide) (by decide) (by decide);have hxs:=hx.small;have hbc:=zqc hx;clear hP hτ;refine zfK ?_;refine zl6 ((f79_c hx ?_));(try simp only [seval,Ring.av,Ring.l]);refine zfK ?_;refine zl6 ((f53_d (x:=x) (hmn _) hxs ?_));rw [zbH.2 hx];(try simp only [seval]);refine zfK ?_;refine zl6 ((f53_r (x:=x) (hmn _) hx ?_));(try simp only [seval]);refine zfK ?_;refine zl6 ((f38_d (x:=x) (hmn _) hxs ?_));(try simp only [seval]);refine zfK ?_;refine zl6 ((f38_r (x:=x) (hmn _) hx ?_));(try simp only [seval]);refine zfK ?_;refine zl6 ((f40_d (x:=x) (hmn _) hxs ?_));(try simp only [seval]);refine zfK ?_;refine zl6 ((f40_r (x:=x) (hmn _) hx ?_));(try simp only [seval]);refine zfK ?_;refine zl6 ((f42_d (x:=x) (hmn _) hxs ?_));(try simp only [seval]);refine zfK ?_;refine zl6 ((f42_r (x:=x) (hmn _) hx ?_));(try simp only [seval]);refine zfK ?_;refine zl6 ((f76_d (x:=x) (hmn _) hxs ?_));(try simp only [seval]);refine zfK ?_;refine zl6 ((f76_r (x:=x) (hmn _) hx ?_));(try simp only [seval]);have hl1:=zqt x false;have hl2:=zqt x true;have hl3:=zqH x;have hgt : decide ((zom x : Int) > 0) = (zm1 x true == 0):=hbc.symm;have hbb : ∀ b : Bool,(b == b) = true:=fun b => by cases b <;> rfl
 rcases zsc hx with hm | ⟨hm1,hm2⟩
 ·refine zl5 ?_;simp only [seval,List.append_eq,beq_self_eq_true,hgt,hbb,hm];refine zl6 ((f34_same (xs:=fewG x false) hl1 ?_));(try simp only [seval,List.append_eq,beq_self_eq_true,hgt,hbb,hm]);refine zl6 ((f34_same (xs:=zn5 x) hl3 ?_));(try simp only [seval,List.append_eq,beq_self_eq_true,hgt,hbb,hm]);refine zl6 ((f34_same (xs:=fewG x true) hl2 ?_));(try simp only [seval,List.append_eq,beq_self_eq_true,hgt,hbb,hm]);refine zl6 ((f25_c (hmn _) ?_));(try simp only [seval,List.append_eq,beq_self_eq_true,hgt,hbb,hm]);refine zlz ?_;exact endV hH hk
 ·refine zl5 ?_;simp only [seval,List.append_eq,beq_self_eq_true,hgt,hbb,hm1,hm2];refine zl6 ((f34_same (xs:=fewG x false) hl1 ?_));(try simp only [seval,List.append_eq,beq_self_eq_true,hgt,hbb,hm1,hm2]);refine zl6 ((f34_same (xs:=zn5 x) hl3 ?_));(try simp only [seval,List.append_eq,beq_self_eq_true,hgt,hbb,hm1,hm2]);refine zl6 ((f34_same (xs:=fewG x true) hl2 ?_));(try simp only [seval,List.append_eq,beq_self_eq_true,hgt,hbb,hm1,hm2]);refine zl6 ((f25_c (hmn _) ?_));(try simp only [seval,List.append_eq,beq_self_eq_true,hgt,hbb,hm1,hm2]);refine zlz ?_;exact endV hH hk
end
open Go.ChangeShapes Go.WideShapes Go.ChangeAt Go.RowKit
def zqK (W : World) : View:=⟨fun b o => W.cell? ⟨b,o,none⟩,fun _ => none,0,.plain⟩
def env0 (W : World) : Env:=⟨(zqK W).imm,1,fun _ => 0,fun _ _ => (none,0),fun _ => 0,fun _ => none,true⟩
theorem sat0 (W : World) : Sat (zqK W) W:=⟨fun _ _ _ h => h,fun _ _ h => by cases h⟩
theorem conc0 (W : World) : Conc (env0 W) (zqK W) [.main] where
 I:=rfl
 n:=rfl
 obj:=fun k x h => by
  match k,h with
  | 0,h => cases h; exact rfl
  | k + 1,h => cases h
 inj:=fun i j x y b hi hj h1 h2 => by
  match i,hi with
  | 0,hi => cases hi; cases h1
  | i + 1,hi => cases hi
 group:=fun g h => by cases h
 chan:=fun c h => by cases h
 top:=fun _ => ⟨rfl,rfl⟩
 fr:=fun b y h => by cases h
theorem zjf {f : FuncId} {W : World} {args : Array Value} {avs : List AV} {Q : Value -> Prop} (hi : Tryz.prog.inits.idxOf? f = none) (hd : Denl (env0 W) avs args) (h : FnC true Tryz.prog f [.main] avs (fun a _ => ∀ E v,Den E a v -> Q v) (fun _ _ => False)) :
  ∃ M last o w' t',runNT Tryz.prog (M + 1) (solo (G (Frame.enter Tryz.prog f args .normal) []) W) #[] = (.ended o w',t') /\ runN Tryz.prog M (solo (G (Frame.enter Tryz.prog f args .normal) []) W) = .next last /\ step Tryz.prog last = .ended o w' /\ Conc.Good Tryz.prog (fun v w => Q v /\ Left W.heap.size W w) last o w' t' :=
 zgE hi (V:=zqK W) rfl rfl rfl (sat0 W) (h (env0 W) (zqK W) args (conc0 W) hd) fun o V' r => by
  cases o with
  | ret v =>
   obtain ⟨av,E',H',_,hro,_,hden,_,hk⟩:=r;exact ⟨hro,v,rfl,fun w _ hl => ⟨hk _ _ hden,hl⟩⟩
  | panic ch =>
   obtain ⟨pv,v,E',H',_,_,_,_,_,_,hf⟩:=r;exact hf.elim
theorem zkY {W : World} {b o len cap : Nat} {zs : List Int} (hl : zs.length = len) (hc : len <= cap) (h : ∀ i,i < len -> W.cell? ⟨b,o + i,none⟩ = some (.int .i64 (zs.getD i 0))) : Den (env0 W) (aInts zs) (.slice (some ⟨b,o,none⟩) len cap):=by
 subst hl;refine .sl b o cap (fun i => .int .i64 (zs.getD i 0)) hc trivial (fun i hi => ?_) (fun i x hx => ?_)
 ·exact h i (by simpa using hi)
 ·rw [List.getElem?_map] at hx;obtain ⟨z,hz,rfl⟩:=Option.map_eq_some_iff.1 hx;rw [List.getD_eq_getElem?_getD,hz];exact .val _
theorem Left.below {W w : World} (h : Left W.heap.size W w) : Below W.heap.size W w:=⟨h.os,h.tape,h.out,h.size,h.old⟩
theorem Tz.own : ownKnob Tryz.prog.godebug = none:=by kernel_rfl
theorem Tz.laidOut : laidOutB Tryz.prog = true:=by kernel_rfl
theorem Tz.u30 : Tryz.prog.underlying 30 = some (.slice 3):=by kernel_rfl
theorem Tz.u3 : Tryz.prog.underlying 3 = some (.int .i64):=by kernel_rfl
theorem Tz.u4 : Tryz.prog.underlying 4 = some .bool:=by kernel_rfl
theorem Tz.c3 : Tryz.prog.cellsOf 3 = 1:=by kernel_rfl
theorem Tz.b3 : Tryz.prog.bytesOf 3 = 8:=by kernel_rfl
theorem Tz.r30 : Tryz.prog.readableRec 30 = true:=by kernel_rfl
theorem Tz.l30 : 30 < Tryz.prog.types.size:=of_decide_eq_true (by kernel_rfl)
def zvj (f : FuncId) : Prop:=∀ nums : List Int,nums.length <= 2 ^ 50 -> FnC true Tryz.prog f [.main] [aInts nums] (fun a _ => a = bv true) (fun _ _ => False)
set_option maxRecDepth 100000 in
theorem zhC {f : FuncId} {fn : Func} {s : ChangeSpec} (hf : Tryz.prog.funcs[f]? = some fn) (hp : fn.params = #[30]) (hr : fn.resultTypes = #[4]) (hv : s.vars = []) (hs : ∀ (H : Type) (d : DataW H),s.fn H [d] = { results:=[.lit (.bool true)],args:=[d] }) (hi : Tryz.prog.inits.idxOf? f = none) (hlaw : zvj f)
  (os : Os) (started : os.Started) (H : Type) (enc : TypeId × Value -> H)
  (hwit : ∃ (w : World) (tape : Tape) (i : Input),w.os = os /\ (w.forCall tape i).Shaped Tryz.checked.prog /\ i.vars = [] /\ Input.okWide Tryz.checked.prog (w.forCall tape i) .any w.heap.size f i /\
   s.pre6 enc Tryz.checked.prog fn [] false (w.forCall tape i).memory i.args /\ ({} : Assume).holds Tryz.checked.prog (lone (Frame.enter Tryz.checked.prog f i.args .normal) [] (w.forCall tape i))) :
  ReturnsInLeavingWide {} Tryz.checked os f .any (s.pre6 enc Tryz.prog fn [] false) (s.post enc Tryz.prog fn false true false false):=by
 refine returnsInLeavingWide_of_change_sized (C:=Tryz.checked) Tz.own started hf hwit ?_;intro W base args ds gs before hval0 hW _ hsz0 _;have hsz : (DataW.weightsEach Tryz.prog (fn.params.toList ++ s.plain.varTypes Tryz.prog) (ds ++ gs)).all (· <= reachBytes) = true:=hsz0;clear hsz0;have hval : ∀ (j : Nat) t v,fn.params[j]? = some t -> args[j]? = some v -> Value.okWide Tryz.prog W .any base t v:=hval0;have hW':=hW;obtain ⟨p,q,hA0,hV,rfl,_,_⟩:=hW;have hA : DataW.TrodAll enc Tryz.prog W 0 (fun _ => true) true fn.params.toList args.toList ds p:=hA0;rw [hp] at hA hval hsz;obtain ⟨v0,d0,rfl,rfl,h0⟩:=trodAll_one hA;rw [hv] at hV;obtain ⟨rfl,rfl⟩:=trodVars_none hV;have hok:=hval 0 30 v0 rfl rfl;obtain ⟨a0,len,cap,rfl⟩:=okWide_slice Tz.u30 hok;have h0k:=h0;obtain ⟨fuel,hfu⟩:=h0;clear hA0 hval0;simp only [List.append_nil] at hW';have hlt : ∀ x ∈ p,x.block < W.heap.size:=fun x hx => by simpa using hW'.lt x hx
 have hargs : ∀ (W' : World),Below W.heap.size W W' -> DataW.Trod enc Tryz.prog W' 0 (fun b => decide (b < W.heap.size)) true 30 (.slice a0 len cap) d0 p :=
  fun W' hn => Below.trod Tz.laidOut Tz.r30 Tz.l30 h0k hn hlt
 have close : ∀ nums : List Int,nums.length <= 2 ^ 50 -> Den (env0 W) (aInts nums) (.slice a0 len cap) ->
   ∃ M last o w' t',runNT Tryz.checked.prog (M + 1) (solo (G (Frame.enter Tryz.checked.prog f #[.slice a0 len cap] .normal) []) W) #[] = (.ended o w',t') /\
    runN Tryz.checked.prog M (solo (G (Frame.enter Tryz.checked.prog f #[.slice a0 len cap] .normal) []) W) = .next last /\ step Tryz.checked.prog last = .ended o w' /\
    Conc.Good Tryz.checked.prog (fun v W' => s.post enc Tryz.checked.prog fn false true false false W #[.slice a0 len cap] v W') last o w' t':=by
  intro nums hn hd;obtain ⟨M,last,o,w',t',h1,h2,h3,h4⟩:=zjf (Q:=fun v => v = .bool true) (args:=#[.slice a0 len cap]) (avs:=[aInts nums]) hi ⟨rfl,fun i a e => by
   match i,e with
   | 0,e => cases e; exact hd⟩ ((hlaw nums hn).mono (fun a H' e E v hden => by subst e; cases hden; rfl) fun _ _ h => h)
  refine ⟨M,last,o,w',t',h1,h2,h3,h4.mono fun v ⟨hQ,hL⟩ => ?_⟩;subst hQ;have hb:=hL.below;refine ⟨[d0],[],_,[],p,[],hW',?_,?_,by rw [hv]; exact (by rw [show ([d0] ++ [] : List (DataW H)) = [d0] from rfl,hs]; rfl),hb.frame _,fun h => by cases h⟩
  ·rw [show ([d0] ++ [] : List (DataW H)) = [d0] from rfl,hs,hr];exact trodAll_mk1 (shut_bool Tz.u4 true)
  ·rw [show ([d0] ++ [] : List (DataW H)) = [d0] from rfl,hs,hp];exact trodAll_mk1 (hargs _ hb)
 rcases open_ints Tz.u30 Tz.u3 Tz.c3 hfu with ⟨hcs,hx⟩ | ⟨a,len',cap',zs,hcs,_,hl,hm,hz,hx,hcell,hwz⟩
 ·simp [Value.cells] at hcs;obtain ⟨rfl,rfl,rfl⟩:=hcs;exact close [] (by simp) (.nil trivial)
 ·simp [Value.cells] at hcs;obtain ⟨rfl,rfl,rfl⟩:=hcs;simp only [Prod.mk.injEq] at hx;obtain ⟨rfl,rfl⟩:=hx;simp only [if_true] at hz;have hspot : a.spot = none:=by
   have:=hok;simp only [Value.okWide,Tz.u30,Cell.okWide,Cell.ok] at this;exact this.2.2.2.1
  have hreach : len * 8 <= 140737488355328:=by
   have:=sized_slice hsz (j:=0) (t:=30) (e:=3) rfl rfl Tz.u30;rw [Tz.b3] at this;simp only [lits,List.length_map,List.length_take,List.length_drop,reachBytes] at this;omega
  obtain ⟨bl,off,spot⟩:=a;simp only at hspot;subst hspot;have hzl : (zs.take len).length = len:=by rw [List.length_take]; omega
  refine close (zs.take len) (by rw [hzl]; omega) (zkY hzl hl fun i hi => ?_);have:=hcell i (by omega);rw [show (Addr.add ⟨bl,off,none⟩ i) = ⟨bl,off + i,none⟩ by simp [Addr.add]] at this;rw [this,List.getD_eq_getElem?_getD,List.getD_eq_getElem?_getD,List.getElem?_take_of_lt hi]
def ioNums : List (List Nat):=[99,117,116] :: [97,116] :: [[67,104,101,99,107,115],[67,111,118,101,114,115],[66,97,103,115],[87,111,114,110],[87,114,111,110,103],[65,115,107],[67,111,118,101,114],[65,108,105,107,101],[84,101,108,108],[66,97,103],[67,117,116],[78,117,109,98,101,114,101,100],[67,111,117,110,116,115],[65,108,108],[84,114,117,101],[65,115,107,115],[78,101,119,115],[77,97,115,116,101,114],[77,111,114,101],[84,117,114,110,101,100],[75,110,111,119,110]].map ([103,108,97,100,115,116,111,110,101,47,103,108,97,100,115,116,111,110,101,108,97,119,48,56,46,75,101,121] ++ ·)
def ioCodes : List Nat:=[104,97,114,110,101,115,115,32,99,51,50,57,53,49,56,50,100,99,53,57,97,55,97,98,51,48,51,102,54,57,97,97,100,57,54,56,102,52,99,57,49,98,53,97,48,49,101,51,101,101,55,53,50,49,99,100,54,56,54,49,50,99,48,52,54,49,101,48,97,49,50,98] ++ ioNums.flatMap (32 :: ·)
set_option maxRecDepth 100000 in
theorem ioL : Tryz.prog.initOrder.toList = ioCodes.map Char.ofNat:=by
 have h : Tryz.prog.initOrder = String.ofList (ioCodes.map Char.ofNat):=by kernel_rfl
 rw [h,String.toList_ofList]
def ioWords : List (List Char):=ioNums.map fun l => l.map Char.ofNat
set_option maxRecDepth 100000 in
theorem ioW : behindMainWord (wordsSigns Tryz.prog.initOrder.toList) = ioWords:=by
 rw [ioL]
 kernel_rfl
section
variable {P : Program} {c : List Char} {rest : List (List Char)}
theorem zhx (h : behindMainWord (wordsSigns P.initOrder.toList) = c :: rest) (hc : c = "cut".toList) (h1 : stripLifts liftWords (c :: rest) = ([], c :: rest)) (h2 : P.laysLater = false) (h3 : P.bearsReflect = false) (h4 : P.doorFits [] = true) : P.mayEnter = true := by
 unfold Program.mayEnter;rw [h];subst hc;simp only [h1,h2,h3,h4,List.head?_cons,beq_self_eq_true,List.contains_nil,Bool.not_false,Bool.false_or,Bool.or_true,Bool.and_self,Bool.true_and]
theorem zgB (h : behindMainWord (wordsSigns P.initOrder.toList) = c :: rest) (hc : c = "cut".toList) (h1 : stripLifts liftWords (c :: rest) = ([], c :: rest)) : P.headLifts = [] := by
 unfold Program.headLifts;rw [h];simp only [h1,ite_self]
theorem zsh (h : behindMainWord (wordsSigns P.initOrder.toList) = c :: rest) (hc : c = "cut".toList) (h1 : stripLifts liftWords (c :: rest) = ([], c :: rest)) : P.liftsFinal = false := by
 unfold Program.liftsFinal;rw [zgB h hc h1, h];subst hc;simp only [List.head?_cons, List.contains_nil, Bool.or_false];have : (some "cut".toList == some "carried".toList) = false := by decide +kernel
 rw [this,Bool.false_and]
theorem zup (h : behindMainWord (wordsSigns P.initOrder.toList) = c :: rest) (hc : c = "cut".toList) : P.make = some .cut := by
 unfold Program.make;rw [h];subst hc;have e1 : ("cut".toList == "gc".toList) = false := by decide +kernel
 have e2 : ("cut".toList == "spec".toList) = false := by decide +kernel
 simp only [e1,e2,Bool.or_self,Bool.false_eq_true,if_false,beq_self_eq_true,Bool.true_or,if_true]
end
def zqs : List Char:=ioWords.headD []
def zq0 : List (List Char):=ioWords.tail
theorem ioW2 : behindMainWord (wordsSigns Tryz.prog.initOrder.toList) = zqs :: zq0:=ioW.trans (by kernel_rfl)
theorem ioC : zqs = "cut".toList := by kernel_rfl
theorem ioS : stripLifts liftWords (zqs :: zq0) = ([],zqs :: zq0):=by kernel_rfl
theorem Tz.mayEnter : Tryz.prog.mayEnter = true:=zhx ioW2 ioC ioS (by kernel_rfl) (by kernel_rfl) (by kernel_rfl)
theorem Tz.lifts : Tryz.prog.liftsFinal = false:=zsh ioW2 ioC ioS
theorem Tz.make : Tryz.prog.make = some .cut:=zup ioW2 ioC
theorem zkH {P : Program} {f : FuncId} {fn : Func} {s : ChangeSpec} {c : OpenClaim}
  (k0 : (c.wf (OpenSpec.ofChange s)) = true)
  (k1 : (laidOutB P) = true)
  (k2 : (mapsRowed P) = true)
  (k3 : (fn.params.all (P.readableRec ·)) = true)
  (k4 : (namedTie P c.named s.vars) = true)
  (k5 : ((c.stops == [])) = true)
  (k6 : ((P.stops == [])) = true)
  (k7 : ((c.knobs == [])) = true)
  (k8 : ((P.stopKnobs == [])) = true)
  (k9 : ((c.inPlace == P.inPlace f)) = true)
  (k10 : ((c.unfollowed == P.unfollowed f)) = true)
  (k11 : ((c.recurses == P.recurses f)) = true)
  (k12 : ((c.named == P.varsNamed f)) = true)
  (k13 : ((c.maps == (fn.params.toList ++ s.plain.varTypes P).any (P.mapsRec ·))) = true)
  (k14 : ((c.ifaces == (fn.params.toList ++ s.plain.varTypes P).any (P.ifacesRec ·))) = true)
  (k15 : ((c.mapsOut == P.mapsAmong fn.resultTypes.toList)) = true)
  (k16 : ((c.loops == (fn.params.toList ++ s.plain.varTypes P).any (P.loopsFrom ·))) = true)
  (k17 : ((c.wideKeys == (fn.params.toList ++ s.plain.varTypes P ++ fn.resultTypes.toList).any (P.wideKeysFrom ·))) = true)
  (k18 : (s.vars.all (P.varReadable ·)) = true)
  (k19 : (fn.resultTypes.all (fun t => P.readableRec t && decide (t < P.types.size))) = true)
  (k20 : ((c.ifacesOut == fn.resultTypes.toList.any (P.ifacesRec ·))) = true)
  (k21 : ((c.loopsOut == fn.resultTypes.toList.any (P.loopsFrom ·))) = true)
  (k22 : ((c.plainKeys == P.plainKeys)) = true)
  (k23 : (c.shortTexts.isNone) = true)
  (k24 : (P.stopsHeard) = true)
  (k25 : (P.mayEnter) = true)
  (k26 : ((c.lifted == P.liftsFinal)) = true)
  (k27 : ((P.make == some c.make)) = true)
  (k28 : c.domain.isEmpty = true) (k28' : c.kinds = [])
  (k29 : ((c.pinned == c.pinnedBy)) = true)
  (k30 : ((c.veiled == (fn.params.toList ++ s.plain.varTypes P ++ fn.resultTypes.toList).any (P.veiledRec ·))) = true)
  (k31 : (c.veiledFits P fn.params.toList (fn.params.toList ++ s.plain.varTypes P ++ fn.resultTypes.toList)) = true) : joinedFacts P f fn s c = true:=by
 simp only [joinedFacts,k0,k1,k2,k3,k4,k5,k6,k7,k8,k9,k10,k11,k12,k13,k14,k15,k16,k17,k18,k19,k20,k21,k22,k23,k24,k25,k26,k27,k28,k28',if_true,beq_self_eq_true,k29,k30,k31,Bool.and_self]
theorem zkB {c : OpenClaim} (h : c.lifted = false) : (c.lifted == Tryz.prog.liftsFinal) = true:=by rw [Tz.lifts,h]; rfl
theorem zsd {c : OpenClaim} (h : c.make = .cut) : (Tryz.prog.make == some c.make) = true:=by rw [Tz.make,h]; rfl
end Go.Gg
namespace Go.Proofs.YtoaaoiipickclaaGreat
open Go.Conc Go.Proofs Go.Gg
theorem zuD : Tryz.prog.funcNamed Rows.keyTurnedRow.func = some 22:=by kernel_rfl
theorem zqY : joinedFacts Tryz.prog 22 Tryz.f22 Rows.keyTurnedSpec Rows.keyTurnedRow = true :=
 zkH (by kernel_rfl) Tz.laidOut (by kernel_rfl) (by kernel_rfl) (by kernel_rfl) (by kernel_rfl) (by kernel_rfl) (by kernel_rfl) (by kernel_rfl) (by kernel_rfl) (by kernel_rfl) (by kernel_rfl) (by kernel_rfl) (by kernel_rfl) (by kernel_rfl) (by kernel_rfl) (by kernel_rfl) (by kernel_rfl) (by kernel_rfl) (by kernel_rfl) (by kernel_rfl) (by kernel_rfl) (by kernel_rfl) (by kernel_rfl) (by kernel_rfl) Tz.mayEnter (zkB (by kernel_rfl)) (zsd (by kernel_rfl)) (by kernel_rfl) (by kernel_rfl) (by kernel_rfl) (by kernel_rfl) (by kernel_rfl)
theorem zuE : Tryz.f22.isInstance Tryz.prog Rows.keyTurnedRow.origin Rows.keyTurnedRow.targs:=of_decide_eq_true (by kernel_rfl)
theorem zuC : Tryz.f22.isWrapper Tryz.prog Rows.keyTurnedRow.wrapper Rows.keyTurnedRow.mainSum:=by unfold Func.isWrapper; first | (rw [if_pos (by decide +kernel)]; kernel_rfl) | (rw [if_neg (by decide +kernel)]; exact ⟨rfl,rfl⟩)
theorem zoA (os : Os) (started : os.Started) (H : Type) (enc : TypeId × Value -> H) :
  ReturnsInLeavingWide {} Tryz.checked os 22 .any (Rows.keyTurnedSpec.pre6 enc Tryz.prog Tryz.f22 Rows.keyTurnedRow.domain false) (Rows.keyTurnedSpec.post enc Tryz.prog Tryz.f22 false true false false) :=
 zhC (f:=22) (fn:=Tryz.f22) (s:=Rows.keyTurnedSpec) Tryz.func22 rfl rfl rfl (fun _ _ => rfl) (by kernel_rfl) (fun nums hn => f22_c rfl hn rfl) os started H enc
  (ChangeSpec.witness6 (enc:=enc) (C:=Tryz.checked) false ⟨#[],#[.slice none 0 0],[]⟩ 8 (by kernel_rfl) (by kernel_rfl) (by kernel_rfl) (by kernel_rfl))
theorem keyTurned_holds : Rows.KeyTurnedSaid :=
 OpenClaim.holds_of_wide_leaving 22 Tryz.f22 rfl rfl rfl rfl rfl rfl rfl ⟨rfl,rfl,rfl,rfl,rfl⟩ rfl rfl rfl rfl rfl zuD Tryz.func22 zqY zuE zuC
  (fun os started H enc _ => zoA os started H enc)
end Go.Proofs.YtoaaoiipickclaaGreat
