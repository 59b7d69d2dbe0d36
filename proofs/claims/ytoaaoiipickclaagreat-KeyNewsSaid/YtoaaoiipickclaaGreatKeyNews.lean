/- The law KeyNews answers true at every list of numbers, on every schedule. No condition. -/
import Derived.Test.YtoaaoiipickclaaGreatKeyNews3
import Derived.Conc.LeavingOf
import Derived.Conc.Holds
import Derived.ProofKit
import Derived.Test.YtoaaoiipickclaaGreatChecked
import Derived.Test.YtoaaoiipickclaaGreatRows
set_option linter.all false
set_option maxRecDepth 4000
set_option maxHeartbeats 1000000
namespace Go.Gg
open Go.Conc Go.Proofs
def zp3 (x : Ring) (t keys : List Int) : Bool:=(List.range x.locks.length).all fun b => (List.range b).all fun a => znV x t keys a b
def zpF (x : Ring) (ts : List (List Int × Nat)) (keys : List Int) : Bool:=ts.all fun y => zp3 x y.1 keys
def zpV (x : Ring) : Option (List Int):=zm2 x.keys.length (zpF x (zlj x []))
section
variable {lv : Bool} {H : List AObj} {k kp : AV -> List AObj -> Prop}
theorem f120_c {x : Ring} {keys : List Int} {e : End} {l r id ck : Nat} {ts : List (List Int × Nat)} (hl : H[l]? = some (.cells [.mp id] 118)) (hr : H[r]? = some (.cells [.rp (x.l ++ zlz x)] 100)) (hid : H[id]? = some (setObj ts ck)) (hb : ∀ y ∈ ts,y.2 < ck) (hnd : (ts.map (·.2)).Nodup) (hl4 : x.locks.length <= 4) (h4 : ∀ y ∈ ts,y.1.length = 4 /\ ∀ w ∈ y.1,0 <= w /\ w <= 2) (hkeys : ∀ q ∈ keys,0 <= q /\ q < 4) (hkl : keys.length < 2 ^ 30) (hk : k (bv (zpF x ts keys)) H) : FnC lv Tryz.prog 120 H [.sl keys.length (keys.map iv) e,.op l 0,.op r 0] k kp:=by
 refine zhQ (rs:=[.tmp 4]) (nt:=36) Tryz.f120 fun hH hA => ?_;simp only [zlx,Nat.reduceAdd];rw [setObj] at hid;refine zfK ?_;refine zl5 ?_;simp only [seval,hl,hid];have hid' : ∀ L : List AObj,(H ++ L)[id]? = some (AObj.obj (Obj.map (List.map zlu ts).toArray ck)):=fun L => zay hid;have hr' : ∀ L : List AObj,(H ++ L)[r]? = some (.cells [.rp (x.l ++ zlz x)] 100):=fun L => zay hr;have hall:=zcO ts ck hb;have hokI : ∀ sn,HOk (H ++ [AObj.iter id ck sn ck]):=fun sn z hz => by
  have hl:=get_lt hid;rcases List.mem_append.1 hz with h | h
  ·exact (hH z h).mono (by simp)
  ·rw [List.mem_singleton.1 h]; show id < _; simp; omega
 refine zhC ?_;refine za9 (measure fun vs : List (List Int × Nat) => ts.length - vs.length).wf (fun vs => []) (fun vs => H ++ [.iter id ck (vs.map (·.2)).toArray ck]) (fun vs => ((vs.map (·.2)).Nodup /\ ∀ y ∈ vs,y ∈ ts) /\ ∀ y ∈ vs,zp3 x y.1 keys = true) [] (fun _ _ => rfl) (by simp) (by simp) (fun _ _ => by simp) ⟨⟨by simp,by simp⟩,by simp⟩ (fun hHs hLt vs hok R hR => ?_);refine zl5 ?_;simp only [seval,hid'];refine ⟨hall.elim .inl (fun h => .inr (.inl h)),fun e he hn => ?_,fun hs => ?_⟩
 ·obtain ⟨y,hy,rfl⟩ : ∃ y ∈ ts,zlu y = e:=by simpa using he
  have hyn : y.2 ∉ vs.map (·.2):=by simpa [zlu] using hn
  have hok':=zdk hok.1 hy hyn;have hrel:=zdl hok';refine zf9 ?_;refine zgv ?_;refine zhC ?_;obtain ⟨h41,h42⟩:=h4 y hy;have hborn : (zlu y).born = y.2:=rfl;have hlen : (y.1.map iv).length = 4:=by simp [h41]
  have hdrop : List.drop 4 [AV.val (Value.int IntKind.i64 0),AV.val (Value.int IntKind.i64 0),AV.val (Value.int IntKind.i64 0),AV.val (Value.int IntKind.i64 0)] = []:=rfl;refine zl5 ?_;simp only [seval,hid',Array.back?_push,hborn,zcL hnd hy,zb7,h41,hlen,hdrop];rw [zdm];have hokC : HOk (H ++ [AObj.iter id ck ((vs ++ [y]).map (·.2)).toArray ck,.cells (y.1.map iv) 132]):=by
   have h1 : (H ++ [AObj.iter id ck ((vs ++ [y]).map (·.2)).toArray ck,.cells (y.1.map iv) 132]) = (H ++ [AObj.iter id ck ((vs ++ [y]).map (·.2)).toArray ck]) ++ [.cells (y.1.map iv) 132]:=(by simp);rw [h1];refine zc6 (hokI _) fun z hz n => ?_;rw [List.mem_singleton.1 hz];intro a ha;obtain ⟨w,_,rfl⟩:=List.mem_map.1 ha;exact .val _
  refine zl5 ?_;simp only [seval,hr',Ring.l,zlO];refine zhC ?_;refine zlI x.locks.length (fun b : Nat => [(20,iv b)]) (fun _ => H ++ [.iter id ck ((vs ++ [y]).map (·.2)).toArray ck,.cells (y.1.map iv) 132]) (fun b => ∀ b' < b,∀ a < b',znV x y.1 keys a b' = true) (fun b hb => by omega) (fun hHs2 hLt2 b hbn hbo R2 hR2 => ?_);refine zfK ?_;refine zf9 ?_;refine ⟨fun h => ?_,fun h => ?_⟩
  ·
   have hbl : b < x.locks.length:=(by omega);refine zgv ?_;refine zfK ?_;refine zfK ?_;refine zhC ?_;refine zlI b (fun a : Nat => [(24,iv a)]) (fun _ => H ++ [.iter id ck ((vs ++ [y]).map (·.2)).toArray ck,.cells (y.1.map iv) 132]) (fun a => ∀ a' < a,znV x y.1 keys a' b = true) (fun a ha => by omega) (fun hHs3 hLt3 a han hao R3 hR3 => ?_);refine zfK ?_;refine zf9 ?_;refine ⟨fun h2 => ?_,fun h2 => ?_⟩
   ·
    have hab : a < b:=(by omega);refine zgv ?_;refine zfK ?_;have htk : List.take 4 (y.1.map iv) = y.1.map iv:=List.take_of_length_le (by omega);refine zl5 ?_;simp only [seval,hr',hlen,htk];refine zl6 ((f117_c (x:=x) (by omega) h41 h42 hkeys hkl ?_));(try simp only [seval]);refine zf9 ?_;refine ⟨fun h3 => ?_,fun h3 => ?_⟩
    ·
     have hr : zpF x ts keys = false:=by
      apply Bool.eq_false_iff.2;intro hc;have h4:=List.all_eq_true.1 hc y hy;have h5:=List.all_eq_true.1 h4 b (List.mem_range.2 hbl);have h6:=List.all_eq_true.1 h5 a (List.mem_range.2 hab);rw [h6] at h3; simp at h3
     refine zfK ?_;refine zgX ?_;rw [hr] at hk;exact endV hH hk
    ·
     have ha1 : IntKind.i64.wrap ((a : Int) + 1) = ((a + 1 : Nat) : Int):=(by rw [zau _ (by omega)]; rfl);refine zgv ?_;refine zl5 ?_;simp only [seval,ha1];refine hR3 _ ⟨hab,fun a' ha' => ?_,?_⟩
     ·by_cases e3 : a' = a
      ·subst e3; simpa using h3
      ·exact hao a' (by omega)
     ·exact zli
   ·
    have hax : a = b:=(by omega);subst hax;refine zkY ?_;have hb1 : IntKind.i64.wrap ((a : Int) + 1) = ((a + 1 : Nat) : Int):=(by rw [zau _ (by omega)]; rfl);refine zl5 ?_;simp only [seval,hb1];refine hR2 _ ⟨hbl,fun b' hb' a' ha' => ?_,?_⟩
    ·by_cases e3 : b' = a
     ·subst e3; exact hao a' ha'
     ·exact hbo b' (by omega) a' ha'
    ·exact zli
  ·
   have hbx : b = x.locks.length:=(by omega);subst hbx;refine zkY ?_;have heq : zp3 x y.1 keys = true:=List.all_eq_true.2 fun b hb => List.all_eq_true.2 fun a ha => hbo b (List.mem_range.1 hb) a (List.mem_range.1 ha);refine hR _ ⟨vs ++ [y],hrel,⟨hok',fun z hz => ?_⟩,?_⟩
   ·rcases List.mem_append.1 hz with h | h
    ·exact hok.2 z h
    ·rw [List.mem_singleton.1 h]; exact heq
   ·exact zat (zam rfl rfl) (by simp) (hokI _) (by simp)
 ·have hp : vs.Perm ts:=zct hok.1.1 hnd hok.1.2 fun y hy => by
   have:=hs (zlu y) (by simp; exact ⟨y.1,y.2,hy,rfl⟩) (hb y hy);simpa [zlu] using this
  have hr : zpF x ts keys = true:=List.all_eq_true.2 fun y hy => hok.2 y (hp.mem_iff.2 hy);refine zf9 ?_;refine zkY ?_;refine zfK ?_;refine zgX ?_;rw [hr] at hk;exact endV hH hk
theorem zs8 {l r id ck : Nat} {x : Ring} {ts : List (List Int × Nat)} (hl : H[l]? = some (.cells [.mp id] 118)) (hr : H[r]? = some (.cells [.rp (x.l ++ zlz x)] 100)) (hid : H[id]? = some (setObj ts ck)) (hb : ∀ y ∈ ts,y.2 < ck) (hnd : (ts.map (·.2)).Nodup) (hl4 : x.locks.length <= 4) (h4 : ∀ y ∈ ts,y.1.length = 4 /\ ∀ w ∈ y.1,0 <= w /\ w <= 2) : SoC lv H (.fn (.func 120) [] [.op l 0,.op r 0]) (zpF x ts) (fun xs => (∀ q ∈ xs,0 <= q /\ q < 4) /\ xs.length <= 6):=fun L xs e k kp hp h =>
 zlH (f120_c (zay hl) (zay hr) (zay hid) hb hnd hl4 h4 hp.1 (Nat.lt_of_le_of_lt hp.2 (by decide)) h)
theorem f42_c {x : Ring} (hnr : zme lv) (hmain : H[0]? = some .main) (hs : x.Small) (h1 : zlG x none ≠ 0 -> k (.tup [.sl 0 [] .exact,iv (zlG x none)]) H) (h2 : zlG x none = 0 -> zpV x = none -> k (.tup [.sl 0 [] .exact,iv 11]) H) (h3 : zlG x none = 0 -> ∀ xs,zpV x = some xs -> k (.tup [aInts xs,iv 0]) H) : FnC lv Tryz.prog 42 H [x.av] k kp:=by
 have hmn : ∀ L : List AObj,(H ++ L)[0]? = some .main:=fun L => zay hmain;refine zhQ (rs:=[.tmp 2,.tmp 3]) (nt:=33) Tryz.f42 fun hH hA => ?_;simp only [zlx,Nat.reduceAdd,Ring.av];refine zl5 ?_;simp only [seval,Ring.l];refine zfK ?_;refine zl6 ((f99_c hnr (hmn _) hs zbA (fun hz => ?_) (fun hz => ?_)))
 ·(try simp only [seval]);refine zfK ?_;refine zf9 ?_;refine ⟨fun h => ?_,fun h => absurd (by simpa using h) hz⟩;refine zfK ?_;refine zgX ?_;exact endA hH (Wk.refl _) (by simp [zap,zaD,zbh]) (h1 hz)
 ·(try simp only [seval]);refine zfK ?_;obtain ⟨ho,hne⟩:=zaP.1 hz;have hx:=zbp ho;have hx4:=hx.keys;have hx5:=hx.locks;have hle:=zbl hx [];have hlk : x.l ++ zlz x = iv x.cuts :: zmd x.keys :: zlO x.locks :: zlT x.tries :: zlz x:=rfl;refine zf9 ?_;refine zgv ?_;refine zl5 ?_;simp only [seval,List.mapM_cons,List.mapM_nil,Option.pure_def,Option.bind_eq_bind,hlk,zmd];refine zl6 ((f115_c (by omega) ?_));(try simp only [seval]);refine zl6 ((f113_c (P:=fun xs => (∀ q ∈ xs,0 <= q /\ q < 4) /\ xs.length <= 6) (by omega) (zs8 (l:=H.length + 4) (r:=H.length + 3) (id:=H.length + 2) (by simp only [seval] <;> rfl) (by simp only [seval] <;> rfl) (by simp only [seval] <;> rfl) (zbm x []) (zba x []) hx5 (zbt hx [])) (keysP hx4) ?_));(try simp only [seval]);rw [show zm2 x.keys.length (zpF x (zlj x [])) = zpV x from rfl];refine zfK ?_;refine zf9 ?_;cases hm : zpV x with
  | none =>
   refine ⟨fun h => ?_,fun h => by simp at h⟩;refine zfK ?_;refine zgX ?_;exact endA hH (Wk.refl _) (by simp [zap,zaD,zbh]) (h2 hz hm)
  | some xs =>
   refine ⟨fun h => by simp at h,fun h => ?_⟩;refine zgv ?_;refine zfK ?_;refine zgX ?_;exact endA hH (Wk.refl _) (by simp [zap,zaD,zbi]) (h3 hz xs hm)
def zqP (x : Ring) (ts : List (List Int × Nat)) (keys : List Int) (a b : Nat) : Bool:=ts.all fun y => !znV x y.1 keys a b
def zmt (x : Ring) (ts : List (List Int × Nat)) (keys : List Int) : Nat -> List Int × Nat
 | 0 => ([],0)
 | b + 1 => match (List.range b).find? fun a => zqP x ts keys a b with
  | some a => ((zmt x ts keys b).1 ++ [(zmt x ts keys b).1.getD a 0],(zmt x ts keys b).2)
  | none => ((zmt x ts keys b).1 ++ [((zmt x ts keys b).2 : Int)],(zmt x ts keys b).2 + 1)
def zpy (x : Ring) : List Int:=(zmt x (zlj x []) (zna x.keys.length) x.locks.length).1
theorem zeV (x : Ring) (ts : List (List Int × Nat)) (keys : List Int) : ∀ b,(zmt x ts keys b).1.length = b
 | 0 => rfl
 | b + 1 => by
  unfold zmt;split <;> simp [zeV x ts keys b]
theorem zfi (x : Ring) (ts : List (List Int × Nat)) (keys : List Int) : ∀ b,(zmt x ts keys b).2 <= b
 | 0 => Nat.le_refl _
 | b + 1 => by
  have:=zfi x ts keys b;unfold zmt;split <;> simp <;> omega
theorem zjl {f : Nat -> Bool} {a b : Nat} (hab : a < b) (hf : f a = true) (h : ∀ a' < a,f a' = false) : (List.range b).find? f = some a :=
 zfN (j:=a) (by simp [hab]) hf fun y hy => by
  have : List.take a (List.range b) = List.range a:=by rw [List.take_range,Nat.min_eq_left (by omega)]
  rw [this] at hy;exact h y (List.mem_range.1 hy)
theorem zeF {f : Nat -> Bool} {b : Nat} (h : ∀ a' < b,f a' = false) : (List.range b).find? f = none:=zdt fun y hy => h y (List.mem_range.1 hy)
theorem f40_c {x : Ring} (hnr : zme lv) (hmain : H[0]? = some .main) (hs : x.Small) (h1 : zlG x none ≠ 0 -> k (.tup [.sl 0 [] .exact,iv (zlG x none)]) H) (h2 : zlG x none = 0 -> k (.tup [aInts (zpy x),iv 0]) H) : FnC lv Tryz.prog 40 H [x.av] k kp:=by
 have hmn : ∀ L : List AObj,(H ++ L)[0]? = some .main:=fun L => zay hmain;refine zhQ (rs:=[.tmp 2,.tmp 3]) (nt:=70) Tryz.f40 fun hH hA => ?_;simp only [zlx,Nat.reduceAdd,Ring.av];refine zl5 ?_;simp only [seval,Ring.l];(repeat apply zaa);refine zcb ?_;refine zfK ?_;refine zl6 ((f99_c hnr (hmn _) hs zbA (fun hz => ?_) (fun hz => ?_)))
 ·(try simp only [seval]);refine zfK ?_;refine zf9 ?_;refine ⟨fun h => ?_,fun h => absurd (by simpa using h) hz⟩;refine zfK ?_;refine zgX ?_;exact endA hH (Wk.refl _) (by simp [zap,zaD,zbh]) (h1 hz)
 ·(try simp only [seval]);refine zfK ?_;obtain ⟨ho,hne⟩:=zaP.1 hz;have hx:=zbp ho;have hx4:=hx.keys;have hx5:=hx.locks;have hle:=zbl hx [];have hlk : x.l ++ zlz x = iv x.cuts :: zmd x.keys :: zlO x.locks :: zlT x.tries :: zlz x:=rfl;have hkeys : ∀ q ∈ zna x.keys.length,0 <= q /\ q < 4:=fun q hq => by
   obtain ⟨m,hm,rfl⟩:=List.mem_map.1 hq;have:=List.mem_range.1 hm;omega
  refine zf9 ?_;refine zgv ?_;refine zl5 ?_;simp only [seval,hlk,zmd];refine zl6 ((f115_c (by omega) ?_));(try simp only [seval]);refine zfK ?_
  (repeat apply zaa); refine zbV (t:=8) (sz:=1) (el:=3) (by simp only [seval] <;> rfl) ?_
  refine zfK ?_;(repeat apply zaa);refine zbQ ?_;simp only [seval];refine zl5 ?_;simp only [seval,zlO];refine zhC ?_;let ts:=zlj x [];let keys:=zna x.keys.length;let al:=zmt x ts keys;have hal : ∀ b,(al b).1.length = b:=zeV x ts keys;have hb:=zbm x [];have hnd:=zba x [];have h4:=zbt hx [];have hall:=zcO (zlj x []) (zly x).length hb;refine zaB x.locks.length (fun b : Nat => [(8,.sl b ((al b).1.map iv) (.opn (H.length + 3))),(9,iv (al b).2),(35,iv b)]) (fun b => H ++ [.cells x.l 26,.cells x.l 26,setObj (zlj x []) (zly x).length,.tail b 1 3]) (fun _ => True) (fun _ _ => rfl) (by simp only [seval]; simp [zaf,Wk.refl]; first | exact Wk.refl _ | exact ⟨Wk.refl _,Wk.refl _⟩) rfl (fun _ _ _ => by simp) trivial (fun hHs hLt b hbn hbo R hR => ?_);refine zfK ?_;refine zf9 ?_;refine ⟨fun h => ?_,fun h => ?_⟩
  ·
   have hbl : b < x.locks.length:=(by omega);have hb1 : IntKind.i64.wrap ((b : Int) + 1) = ((b + 1 : Nat) : Int):=(by rw [zau _ (by omega)]; rfl);have hml : (al b).2 <= b:=zfi x ts keys b;have hm1 : IntKind.i64.wrap (((al b).2 : Int) + 1) = (((al b).2 + 1 : Nat) : Int):=(by rw [zau _ (by omega)]; rfl);refine zgv ?_;refine zfK ?_;(repeat apply zaa);refine zcb ?_;(repeat apply zaa);refine zbQ ?_;simp only [seval];refine zfK ?_;refine zhC ?_;refine zlI b (fun a : Nat => [(39,iv a)]) (fun _ => H ++ [.cells x.l 26,.cells x.l 26,setObj (zlj x []) (zly x).length,.tail b 1 3]) (fun a => ∀ a' < a,zqP x ts keys a' b = false) (fun a ha => by omega) (fun hHs2 hLt2 a han hao R2 hR2 => ?_);refine zfK ?_;refine zf9 ?_;refine ⟨fun h2 => ?_,fun h2 => ?_⟩
   ·
    have hab : a < b:=(by omega);have ha1 : IntKind.i64.wrap ((a : Int) + 1) = ((a + 1 : Nat) : Int):=(by rw [zau _ (by omega)]; rfl);have hokB : HOk (H ++ [AObj.cells x.l 26,.cells x.l 26,setObj (zlj x []) (zly x).length,.tail b 1 3]):=hHs2;have hokT : ∀ m,HOk (H ++ [AObj.cells x.l 26,.cells x.l 26,setObj (zlj x []) (zly x).length,.tail m 1 3]):=fun m => by
     have h1:=zec (H:=H ++ [AObj.cells x.l 26,.cells x.l 26,setObj (zlj x []) (zly x).length]) (L:=[]) (o:=.tail b 1 3) (o':=.tail m 1 3) (by simpa using hokB) (fun _ => trivial);simpa using h1
    have hokI : ∀ sn,HOk (H ++ [AObj.cells x.l 26,.cells x.l 26,setObj (zlj x []) (zly x).length,.tail b 1 3,.iter (H.length + 1 + 1) (zly x).length sn (zly x).length]):=fun sn => by
     have h1 : (H ++ [AObj.cells x.l 26,.cells x.l 26,setObj (zlj x []) (zly x).length,.tail b 1 3,.iter (H.length + 1 + 1) (zly x).length sn (zly x).length]) = (H ++ [AObj.cells x.l 26,.cells x.l 26,setObj (zlj x []) (zly x).length,.tail b 1 3]) ++ [.iter (H.length + 1 + 1) (zly x).length sn (zly x).length]:=(by simp);rw [h1];intro z hz;rcases List.mem_append.1 hz with h | h
     ·exact (hokB z h).mono (by simp)
     ·rw [List.mem_singleton.1 h]; show H.length + 1 + 1 < _; simp
    refine zgv ?_;refine zfK ?_;refine zl5 ?_;simp only [seval,zaL];refine zhC ?_;refine za9 (measure fun vs : List (List Int × Nat) => (zlj x []).length - vs.length).wf (fun vs => []) (fun vs => H ++ [.cells x.l 26,.cells x.l 26,setObj (zlj x []) (zly x).length,.tail b 1 3,.iter (H.length + 1 + 1) (zly x).length (vs.map (·.2)).toArray (zly x).length]) (fun vs => ((vs.map (·.2)).Nodup /\ ∀ y ∈ vs,y ∈ zlj x []) /\ ∀ y ∈ vs,znV x y.1 keys a b = false) [] (fun _ _ => rfl) (by simp) (by simp [zaL]) (fun _ _ => by simp) ⟨⟨by simp,by simp⟩,by simp⟩ (fun hHs3 hLt3 vs hok R3 hR3 => ?_);refine zl5 ?_;simp only [seval,zaL];refine ⟨hall.elim .inl (fun h => .inr (.inl h)),fun e he hn => ?_,fun hs => ?_⟩
    ·obtain ⟨y,hy,rfl⟩ : ∃ y ∈ zlj x [],zlu y = e:=(by simpa using he);have hyn : y.2 ∉ vs.map (·.2):=(by simpa [zlu] using hn);have hok':=zdk hok.1 hy hyn;have hrel:=zdl hok';refine zf9 ?_;refine zgv ?_;refine zhC ?_;obtain ⟨h41,h42⟩:=h4 y hy;have hborn : (zlu y).born = y.2:=rfl;have hlen : (y.1.map iv).length = 4:=(by simp [h41]);have hdrop : List.drop 4 [AV.val (Value.int IntKind.i64 0),AV.val (Value.int IntKind.i64 0),AV.val (Value.int IntKind.i64 0),AV.val (Value.int IntKind.i64 0)] = []:=rfl;have htk : List.take 4 (y.1.map iv) = y.1.map iv:=List.take_of_length_le (by omega);refine zl5 ?_;simp only [seval,zaL,Array.back?_push,hborn,zcL hnd hy,zb7,h41,hlen,hdrop];refine zl5 ?_;simp only [seval,hlen,htk];refine zl6 ((f117_c (x:=x) (t:=y.1) (keys:=zna x.keys.length) (e:=.shut) (a:=a) (b:=b) (by omega) h41 h42 hkeys (by rw [zca]; omega) ?_));(try simp only [seval]);refine zf9 ?_;refine ⟨fun h3 => ?_,fun h3 => ?_⟩
     ·
      refine zkY ?_;refine zl5 ?_;simp only [seval,ha1];have hf : zqP x ts keys a b = false:=by
       apply Bool.eq_false_iff.2;intro hc;have h5:=List.all_eq_true.1 hc y hy;have h6 : znV x y.1 keys a b = true:=h3;rw [h6] at h5; simp at h5
      refine hR2 _ ⟨hab,fun a' ha' => ?_,?_⟩
      ·by_cases e3 : a' = a
       ·subst e3; exact hf
       ·exact hao a' (by omega)
      ·exact zat (zam rfl rfl) (by simp only [seval]; simp [zaf,Wk.refl]) hokB (by simp [zap])
     ·
      refine zgv ?_;rw [zdm];refine hR3 _ ⟨vs ++ [y],hrel,⟨hok',fun z hz => ?_⟩,?_⟩
      ·rcases List.mem_append.1 hz with h | h
       ·exact hok.2 z h
       ·rw [List.mem_singleton.1 h]; exact h3
      ·exact zat (zam rfl rfl) (by simp) (hokI _) (by simp)
    ·have hp : vs.Perm (zlj x []):=zct hok.1.1 hnd hok.1.2 fun y hy => by
      have:=hs (zlu y) (by simp; exact ⟨y.1,y.2,hy,rfl⟩) (hb y hy);simpa [zlu] using this
     have hf : zqP x ts keys a b = true:=List.all_eq_true.2 fun y hy => by
      rw [hok.2 y (hp.mem_iff.2 hy)]; rfl
     have hfd:=zjl hab hf hao;have hsucc : al (b + 1) = ((al b).1 ++ [(al b).1.getD a 0],(al b).2):=by
      show zmt x ts keys (b + 1) = _;rw [zmt,hfd]
     obtain ⟨v,hv⟩:=zaE (xs:=(al b).1) (i:=a) (by rw [hal]; exact hab);have hgv:=u8z (al b).1 a hv;refine zf9 ?_;refine zkY ?_;refine zl5 ?_;simp only [seval,za2 hv,zaz hab,z1,zp2,hal];refine ⟨by omega,?_⟩;refine zkY ?_;refine zl5 ?_;simp only [seval,hb1];refine hR _ ⟨hbl,trivial,?_⟩;rw [hsucc,hgv,List.map_append];exact zat (zam rfl rfl) (by simp only [seval]; simp [zaf,Wk.refl]) (hokT (b + 1)) (by simp [zap,zdq]; rintro a (⟨w,_,rfl⟩ | rfl) <;> exact .val _)
   ·
    have hax : a = b:=(by omega);subst hax;refine zkY ?_;refine zl5 ?_;simp only [seval,z1,zp2,hal];refine ⟨by omega,?_⟩;refine zl5 ?_;simp only [seval,hm1];refine zl5 ?_;simp only [seval,hb1];have hfd:=zeF hao;have hsucc : al (a + 1) = ((al a).1 ++ [((al a).2 : Int)],(al a).2 + 1):=by
     show zmt x ts keys (a + 1) = _;rw [zmt,hfd]
    refine hR _ ⟨hbl,trivial,?_⟩;rw [hsucc,List.map_append];exact zli
  ·
   have hbx : b = x.locks.length:=(by omega);subst hbx;refine zkY ?_;refine zfK ?_;refine zgX ?_;have ea : aInts (zpy x) = .sl x.locks.length ((al x.locks.length).1.map iv) .shut:=by
    unfold aInts;rw [show (zpy x).length = x.locks.length from hal _]; rfl
   rw [ea] at h2;exact endA hH (zdC (zaK _ _ _) (Wk.refl _)) (by simp [zap,zaD,za3]) (h2 hz)
def zmD (x : Ring) (us : List Turn) : Option Int:=if us.length <= 6 then (if us.all fun u => inM u.key 0 (x.keys.length - 1) then none else some 0) else some 3
theorem zf3 {x : Ring} {us : List Turn} : zmD x us = none <-> us.length <= 6 /\ ∀ u ∈ us,0 <= u.key /\ u.key <= x.keys.length - 1:=by
 unfold zmD;split
 ·split
  ·rename_i h1 h2;simp only [true_iff];refine ⟨h1,fun u hu => zbU.1 (List.all_eq_true.1 h2 u hu)⟩
  ·rename_i h1 h2;simp only [reduceCtorEq,false_iff];intro h;exact h2 (List.all_eq_true.2 fun u hu => zbU.2 (h.2 u hu))
 ·rename_i h1;simp only [reduceCtorEq,false_iff];intro h; exact h1 h.1
theorem f121_c {r i : Nat} {x : Ring} {us : List Turn} (hx : x.Small) (hul : us.length < 2 ^ 30) (hr : H[r]? = some (.cells [zmp us] 50)) (hi : H[i]? = some (.cells x.l 26)) (hk : zmD x us = none -> k (.tup []) H) (hp : ∀ f,zmD x us = some f -> kp (.ifc 106 (iv f)) H) : FnC lv Tryz.prog 121 H [.op r 0,.op i 0] k kp:=by
 refine zhQ (rs:=[]) (nt:=20) Tryz.f121 fun hH hA => ?_;simp only [zlx,Nat.reduceAdd];have hi2:=hi;rw [Ring.l] at hi2;refine zl5 ?_;simp only [seval,hr,zmp];refine zl6 ((f90_c (fun h => ?_) (fun h => ?_)))
 ·have h5 : (us.length : Int) <= 6:=by simpa using h
  have h6 : us.length <= 6:=by omega
  (try simp only [seval]);refine zl5 ?_;simp only [seval,hr,zmp];refine zhC ?_;refine zlI us.length (fun i : Nat => [(10,iv i)]) (fun _ => H) (fun i => (us.take i).all (fun u => inM u.key 0 (x.keys.length - 1)) = true) (by simp) (fun hHs hLt j hjn hj R hR => ?_);refine zfK ?_;refine zf9 ?_;refine ⟨fun h2 => ?_,fun h2 => ?_⟩
  ·have hjl : j < us.length:=(by omega);obtain ⟨u,hu⟩:=zaE hjl;have hj1 : IntKind.i64.wrap ((j : Int) + 1) = ((j + 1 : Nat) : Int):=(by rw [zau _ (by omega)]; rfl);have htk : (us.take (j + 1)).all (fun u => inM u.key 0 (x.keys.length - 1)) = ((us.take j).all (fun u => inM u.key 0 (x.keys.length - 1)) && inM u.key 0 (x.keys.length - 1)):=by
    obtain ⟨hj',rfl⟩:=List.getElem?_eq_some_iff.1 hu;rw [List.take_succ_eq_append_getElem hj',List.all_append]; simp
   refine zgv ?_;refine zl5 ?_;simp only [seval,zh5 hu,zaz hjl];refine zl5 ?_;simp only [seval,zay hi2];refine zl6 ((f89_c (x:=x) ?_));(try simp only [seval]);refine zl6 ((f152_c hx (by simp only [seval] <;> rfl) (by simp only [seval] <;> rfl) (fun hin => ?_) (fun hin => ?_)))
   ·(try simp only [seval]);refine zl5 ?_;simp only [seval,hj1];refine hR _ ⟨hjl,by rw [htk,hj,hin]; rfl,?_⟩;exact (zmm hHs)
   ·(try simp only [seval]);have hw : zmD x us = some 0:=by
     unfold zmD;rw [if_pos h6,if_neg];intro hc;have:=List.all_eq_true.1 hc u (zas hu);rw [hin] at this; cases this
    exact zaJ (Wk.refl _) rfl (Nat.le_refl _) hH (by simp [zap,zey]) (hp 0 hw)
  ·have hjx : j = us.length:=(by omega);subst hjx;rw [List.take_length] at hj;refine zkY ?_;have hw : zmD x us = none:=by
    unfold zmD;rw [if_pos h6,if_pos hj]
   exact zao (hk hw)
 ·have h5 : ¬ (us.length : Int) <= 6:=by simpa using h
  have h6 : ¬ us.length <= 6:=by omega
  exact zao (hp 3 (by unfold zmD; rw [if_neg h6]))
theorem zlg {r i : Nat} {x : Ring} {us : List Turn} (hx : x.Small) (hul : us.length < 2 ^ 30) (hr : H[r]? = some (.cells [zmp us] 50)) (hi : H[i]? = some (.cells x.l 26)) : AskC lv H (.fn (.func 121) [] [.op r 0,.op i 0]) (zmD x us):=fun L k kp h1 h2 =>
 zlH (f121_c hx hul (zay hr) (zay hi) h1 h2)
def zok (x : Ring) (t : List Int) (n : Nat) (u : Turn) : Bool:=(zmM x t u.key.toNat).testBit n == u.opens
def bagB (x : Ring) (ts : List (List Int × Nat)) (us : List Turn) (n : Nat) : Bool:=ts.any fun y => us.all (zok x y.1 n)
def zml (x : Ring) (us : List Turn) (n : Nat) : List Int:=((List.range n).filter (bagB x (zlj x []) us)).map fun i : Nat => (i : Int)
def zsx (x : Ring) (us : List Turn) : List Int:=zml x us x.locks.length
theorem ziB (x : Ring) (us : List Turn) (n : Nat) : (zml x us n).length <= n:=by
 unfold zml;rw [List.length_map];have:=List.length_filter_le (bagB x (zlj x []) us) (List.range n);simpa using this
theorem zdS (x : Ring) (us : List Turn) (n : Nat) : zml x us (n + 1) = zml x us n ++ (if bagB x (zlj x []) us n then [(n : Int)] else []):=by
 unfold zml;rw [List.range_succ,List.filter_append,List.map_append];congr 1;by_cases h : bagB x (zlj x []) us n = true <;> simp [h]
theorem f46_c {x : Ring} {us : List Turn} (hnr : zme lv) (hmain : H[0]? = some .main) (hs : x.Small) (hul : us.length < 2 ^ 30) (h1 : zlG x (zmD x us) ≠ 0 -> k (.tup [.sl 0 [] .exact,iv (zlG x (zmD x us))]) H) (h2 : zlG x (zmD x us) = 0 -> k (.tup [aInts (zsx x us),iv 0]) H) : FnC lv Tryz.prog 46 H [x.av,zmp us] k kp:=by
 have hmn : ∀ L : List AObj,(H ++ L)[0]? = some .main:=fun L => zay hmain;refine zhQ (rs:=[.tmp 4,.tmp 5]) (nt:=81) Tryz.f46 fun hH hA => ?_;simp only [zlx,Nat.reduceAdd,Ring.av];refine zl5 ?_;simp only [seval,Ring.l,zmp];(repeat apply zaa);refine zcb ?_;refine zl5 ?_;simp only [seval,List.mapM_cons,List.mapM_nil,Option.pure_def,Option.bind_eq_bind];have hask : AskC lv (H ++ [.cells x.l 26,.cells [zmp us] 50]) _ (zmD x us):=zlg (r:=H.length + 1) (i:=H.length) hs hul (by simp only [seval]) (by simp only [seval]);refine zl6 ((f99_c hnr (hmn _) hs hask (fun hz => ?_) (fun hz => ?_)))
 ·(try simp only [seval]);refine zfK ?_;refine zf9 ?_;refine ⟨fun h => ?_,fun h => absurd (by simpa using h) hz⟩;refine zfK ?_;refine zgX ?_;exact endA hH (Wk.refl _) (by simp [zap,zaD,zbh]) (h1 hz)
 ·(try simp only [seval]);refine zfK ?_;obtain ⟨ho,hne⟩:=zaP.1 hz;have hx:=zbp ho;have hx4:=hx.keys;have hx5:=hx.locks;have hle:=zbl hx [];have hlk : x.l ++ zlz x = iv x.cuts :: zmd x.keys :: zlO x.locks :: zlT x.tries :: zlz x:=rfl;obtain ⟨hu6,hus⟩:=zf3.1 (zaN.1 ho).2;refine zf9 ?_;refine zgv ?_;refine zfK ?_
  (repeat apply zaa); refine zbV (t:=9) (sz:=1) (el:=3) (by simp only [seval] <;> rfl) ?_
  (repeat apply zaa);refine zbQ ?_;simp only [seval];refine zl5 ?_;simp only [seval,hlk,zlO];refine zhC ?_;have hb:=zbm x [];have hnd:=zba x [];have h4:=zbt hx [];have hall:=zcO (zlj x []) (zly x).length hb;have hg3 : ∀ L : List AObj,(H ++ L)[H.length + 2 + 1]? = L[3]?:=fun L => zbD H L 3;refine zaB x.locks.length (fun n : Nat => [(9,.sl (zml x us n).length ((zml x us n).map iv) (.opn (H.length + 4))),(31,iv n)]) (fun n => H ++ [AObj.cells x.l 26,.cells [zmp us] 50,.cells x.l 26,setObj (zlj x []) (zly x).length,.tail (zml x us n).length 1 3]) (fun _ => True) (fun _ _ => rfl) (by simp only [seval]; simp [zaf,Wk.refl]; first | exact Wk.refl _ | exact ⟨Wk.refl _,Wk.refl _⟩) rfl (fun _ _ _ => by simp) trivial (fun hHs hLt n hnn hno R hR => ?_);refine zfK ?_;refine zf9 ?_;refine ⟨fun h => ?_,fun h => ?_⟩
  ·
   have hnl : n < x.locks.length:=(by omega);have hn1 : IntKind.i64.wrap ((n : Int) + 1) = ((n + 1 : Nat) : Int):=(by rw [zau _ (by omega)]; rfl);have hwl:=ziB x us n;have hokB0 : HOk (H ++ [AObj.cells x.l 26,.cells [zmp us] 50,.cells x.l 26,setObj (zlj x []) (zly x).length,.tail 0 1 3]):=hHs;have hokB : ∀ m,HOk (H ++ [AObj.cells x.l 26,.cells [zmp us] 50,.cells x.l 26,setObj (zlj x []) (zly x).length,.tail m 1 3]):=fun m => by
    have h1:=zec (H:=H ++ [AObj.cells x.l 26,.cells [zmp us] 50,.cells x.l 26,setObj (zlj x []) (zly x).length]) (L:=[]) (o:=.tail 0 1 3) (o':=.tail m 1 3) (by simpa using hokB0) (fun _ => trivial);simpa using h1
   have hokI : ∀ m sn,HOk (H ++ [AObj.cells x.l 26,.cells [zmp us] 50,.cells x.l 26,setObj (zlj x []) (zly x).length,.tail m 1 3,.iter (H.length + 2 + 1) (zly x).length sn (zly x).length]):=fun m sn => by
    have h1 : (H ++ [AObj.cells x.l 26,.cells [zmp us] 50,.cells x.l 26,setObj (zlj x []) (zly x).length,.tail m 1 3,.iter (H.length + 2 + 1) (zly x).length sn (zly x).length]) = (H ++ [AObj.cells x.l 26,.cells [zmp us] 50,.cells x.l 26,setObj (zlj x []) (zly x).length,.tail m 1 3]) ++ [.iter (H.length + 2 + 1) (zly x).length sn (zly x).length]:=(by simp);rw [h1];intro z hz;rcases List.mem_append.1 hz with h | h
    ·exact (hokB m z h).mono (by simp)
    ·rw [List.mem_singleton.1 h]; show H.length + 2 + 1 < _; simp
   have hokC : ∀ m sn (t : List Int),HOk (H ++ [AObj.cells x.l 26,.cells [zmp us] 50,.cells x.l 26,setObj (zlj x []) (zly x).length,.tail m 1 3,.iter (H.length + 2 + 1) (zly x).length sn (zly x).length,.cells (t.map iv) 132]):=fun m sn t => by
    have h1 : (H ++ [AObj.cells x.l 26,.cells [zmp us] 50,.cells x.l 26,setObj (zlj x []) (zly x).length,.tail m 1 3,.iter (H.length + 2 + 1) (zly x).length sn (zly x).length,.cells (t.map iv) 132]) = (H ++ [AObj.cells x.l 26,.cells [zmp us] 50,.cells x.l 26,setObj (zlj x []) (zly x).length,.tail m 1 3,.iter (H.length + 2 + 1) (zly x).length sn (zly x).length]) ++ [.cells (t.map iv) 132]:=(by simp);rw [h1];refine zc6 (hokI m sn) fun z hz n => ?_;rw [List.mem_singleton.1 hz];intro a ha;obtain ⟨w,_,rfl⟩:=List.mem_map.1 ha;exact .val _
   refine zgv ?_;refine zfK ?_;(repeat apply zaa);refine zcb ?_;(repeat apply zaa);refine zbQ ?_;simp only [seval];refine zl5 ?_;simp only [seval,zaL,hg3];refine zhC ?_;refine za9 (measure fun vs : List (List Int × Nat) => (zlj x []).length - vs.length).wf (fun vs => []) (fun vs => H ++ [AObj.cells x.l 26,.cells [zmp us] 50,.cells x.l 26,setObj (zlj x []) (zly x).length,.tail (zml x us n).length 1 3,.iter (H.length + 2 + 1) (zly x).length (vs.map (·.2)).toArray (zly x).length]) (fun vs => ((vs.map (·.2)).Nodup /\ ∀ y ∈ vs,y ∈ zlj x []) /\ ∀ y ∈ vs,us.all (zok x y.1 n) = false) [] (fun _ _ => rfl) (by simp) (by simp [zaL,zmp]) (fun _ _ => by simp) ⟨⟨by simp,by simp⟩,by simp⟩ (fun hHs3 hLt3 vs hok R3 hR3 => ?_);refine zl5 ?_;simp only [seval,zaL,hg3];refine ⟨hall.elim .inl (fun h => .inr (.inl h)),fun e he hn => ?_,fun hs => ?_⟩
   ·obtain ⟨y,hy,rfl⟩ : ∃ y ∈ zlj x [],zlu y = e:=(by simpa using he);have hyn : y.2 ∉ vs.map (·.2):=(by simpa [zlu] using hn);have hok':=zdk hok.1 hy hyn;have hrel:=zdl hok';refine zf9 ?_;refine zgv ?_;refine zhC ?_;obtain ⟨h41,h42⟩:=h4 y hy;have hborn : (zlu y).born = y.2:=rfl;have hlen : (y.1.map iv).length = 4:=(by simp [h41]);have hdrop : List.drop 4 [AV.val (Value.int IntKind.i64 0),AV.val (Value.int IntKind.i64 0),AV.val (Value.int IntKind.i64 0),AV.val (Value.int IntKind.i64 0)] = []:=rfl;refine zl5 ?_;simp only [seval,zaL,hg3,Array.back?_push,hborn,zcL hnd hy,zb7,h41,hlen,hdrop];refine zl5 ?_;simp only [seval,zmp];refine zhC ?_;rw [zdm];refine zlI us.length (fun j : Nat => [(42,iv j)]) (fun _ => H ++ [AObj.cells x.l 26,.cells [zmp us] 50,.cells x.l 26,setObj (zlj x []) (zly x).length,.tail (zml x us n).length 1 3,.iter (H.length + 2 + 1) (zly x).length ((vs ++ [y]).map (·.2)).toArray (zly x).length,.cells (y.1.map iv) 132]) (fun j => (us.take j).all (zok x y.1 n) = true) (by simp) (fun hHs4 hLt4 j hjn hj R4 hR4 => ?_);refine zfK ?_;refine zf9 ?_;refine ⟨fun h2 => ?_,fun h2 => ?_⟩
    ·
     have hjl : j < us.length:=(by omega);obtain ⟨u,hu⟩:=zaE hjl;obtain ⟨hk0,hk1⟩:=hus u (zas hu);obtain ⟨uk,uo⟩:=u;simp only at hk0 hk1;obtain ⟨kn,rfl⟩ : ∃ m : Nat,uk = m:=⟨uk.toNat,by omega⟩;have hkn : kn < 4:=(by omega);have hj1 : IntKind.i64.wrap ((j : Int) + 1) = ((j + 1 : Nat) : Int):=(by rw [zau _ (by omega)]; rfl);have htk : (us.take (j + 1)).all (zok x y.1 n) = ((us.take j).all (zok x y.1 n) && zok x y.1 n ⟨kn,uo⟩):=by
      obtain ⟨hj',e5⟩:=List.getElem?_eq_some_iff.1 hu;rw [List.take_succ_eq_append_getElem hj',List.all_append,e5]; simp
     obtain ⟨w,hw⟩:=zaE (xs:=y.1) (i:=kn) (by omega);have hwb:=h42 w (zas hw);obtain ⟨wn,rfl⟩ : ∃ n : Nat,w = n:=⟨w.toNat,by omega⟩;have b4 : (0 <= (kn : Int) /\ (kn : Int) < 4) = True:=(by simp; omega);have b3 : (0 <= (wn : Int) /\ (wn : Int) < 3) = True:=(by simp; omega);have hm:=zdn (x:=x) (by omega) kn wn;have hfit : zok x y.1 n ⟨kn,uo⟩ = ((zlY x kn wn).testBit n == uo):=by
      unfold zok zmM;rw [Int.toNat_natCast,u8z y.1 kn hw]; rfl
     have hne0 : ((n : Int) != (n : Int)) = false:=(by simp);refine zgv ?_;refine zl5 ?_;simp only [seval,zh5 hu,zaz hjl];refine zfK ?_;refine zl6 ((f122_c ?_));(try simp only [seval]);refine zlw 23 ?_;simp only [seval,b4,b3,zbf hw,zcH x hkn,zb0 x hkn (show wn < 3 by omega),zfz,List.mapM_cons,List.mapM_nil,Option.pure_def,Option.bind_eq_bind];refine zmU (iv n) (zlH (f123_c ⟨rfl,rfl⟩)) ?_;(try simp only [seval,hne0,b4,b3,zbf hw,zcH x hkn,zb0 x hkn (show wn < 3 by omega),zfz,List.mapM_cons,List.mapM_nil,Option.pure_def,Option.bind_eq_bind]);refine qInv (bv ((zlY x kn wn).testBit n == uo)) (zii hm ⟨rfl,rfl⟩) ?_;(try simp only [seval]);refine zf9 ?_;refine ⟨fun h3 => ?_,fun h3 => ?_⟩
     ·
      have hff : zok x y.1 n ⟨kn,uo⟩ = false:=(by rw [hfit]; simpa using h3);have hf : us.all (zok x y.1 n) = false:=by
       apply Bool.eq_false_iff.2;intro hc;have h5:=List.all_eq_true.1 hc _ (zas hu);rw [hff] at h5; cases h5
      refine zkY ?_;refine hR3 _ ⟨vs ++ [y],hrel,⟨hok',fun z hz => ?_⟩,?_⟩
      ·rcases List.mem_append.1 hz with h | h
       ·exact hok.2 z h
       ·rw [List.mem_singleton.1 h]; exact hf
      ·exact zat (zam rfl rfl) (by simp) (hokI _ _) (by simp)
     ·
      have hff : zok x y.1 n ⟨kn,uo⟩ = true:=(by rw [hfit]; simpa using h3);refine zgv ?_;refine zl5 ?_;simp only [seval,hj1];refine hR4 _ ⟨hjl,by rw [htk,hj,hff]; rfl,?_⟩;exact zat (zam rfl rfl) (by simp only [seval]; simp [zaf,Wk.refl]) (hokC _ _ _) (by simp [zap])
    ·
     have hjx : j = us.length:=(by omega);subst hjx;rw [List.take_length] at hj;have hbag : bagB x (zlj x []) us n = true:=List.any_eq_true.2 ⟨y,hy,hj⟩;have hsucc : zml x us (n + 1) = zml x us n ++ [(n : Int)]:=(by rw [zdS,if_pos hbag]);have hsl : (zml x us n ++ [(n : Int)]).length = (zml x us n).length + 1:=(by simp);refine zkY ?_;refine zl5 ?_;simp only [seval,z1,zp2];refine ⟨by omega,?_⟩;refine zkY ?_;refine zl5 ?_;simp only [seval,hn1];refine hR _ ⟨hnl,trivial,?_⟩;rw [hsucc,hsl,List.map_append];exact zat (zam rfl rfl) (by simp only [seval]; simp [zaf,Wk.refl]) (hokB _) (by simp [zap,zdq]; rintro a (⟨w,_,rfl⟩ | rfl) <;> exact .val _)
   ·have hp : vs.Perm (zlj x []):=zct hok.1.1 hnd hok.1.2 fun y hy => by
     have:=hs (zlu y) (by simp; exact ⟨y.1,y.2,hy,rfl⟩) (hb y hy);simpa [zlu] using this
    have hbag : bagB x (zlj x []) us n = false:=by
     apply Bool.eq_false_iff.2;intro hc;obtain ⟨y,hy,hf⟩:=List.any_eq_true.1 hc;rw [hok.2 y (hp.mem_iff.2 hy)] at hf; cases hf
    have hsucc : zml x us (n + 1) = zml x us n:=(by rw [zdS,hbag]; simp);refine zf9 ?_;refine zkY ?_;refine zl5 ?_;simp only [seval,hn1];refine hR _ ⟨hnl,trivial,?_⟩;rw [hsucc];exact zat (zam rfl rfl) (by simp only [seval]; simp [zaf,Wk.refl]) (hokB _) (by simp [zap,zdq])
  ·
   have hnx : n = x.locks.length:=(by omega);subst hnx;refine zkY ?_;refine zfK ?_;refine zgX ?_;exact endA hH (zdC (zaK _ _ _) (Wk.refl _)) (by simp [zap,zaD,za3]) (h2 hz)
def digs (c j : Nat) : List Int:=(List.range 4).map fun p => if p < c then (((j / 4 ^ (c - 1 - p)) % 4 : Nat) : Int) else 0
def znn (c j t : Nat) : List Int:=(List.range 4).map fun p => if c - t <= p then 0 else (digs c j).getD p 0
def zoa (c j t : Nat) : Bool:=(List.range c).all fun p => p < c - t || (digs c j).getD p 0 == 3
theorem zdu (c j : Nat) : (digs c j).length = 4:=by simp [digs]
theorem zcC (c j t : Nat) : (znn c j t).length = 4:=by simp [znn]
theorem zjp : ∀ c,c < 5 -> ∀ j,j < 4 ^ c -> znn c j 0 = digs c j /\ (zoa c j c = true -> j + 1 = 4 ^ c) /\ (∀ w ∈ digs c j,0 <= w /\ w <= 3) /\ zoa c j 0 = true:=by decide +kernel
theorem zt9 : ∀ c,c < 5 -> ∀ j,j < 4 ^ c -> ∀ t,t < c -> (znn c j t)[c - 1 - t]? = some ((digs c j).getD (c - 1 - t) 0) /\ (znn c j t).set (c - 1 - t) 0 = znn c j (t + 1):=by decide +kernel
theorem zt8 : ∀ c,c < 5 -> ∀ j,j < 4 ^ c -> ∀ t,t < c -> zoa c j t = true -> (digs c j).getD (c - 1 - t) 0 = 3 -> zoa c j (t + 1) = true:=by decide +kernel
theorem zt7 : ∀ c,c < 5 -> ∀ j,j < 4 ^ c -> ∀ t,t < c -> zoa c j t = true -> (digs c j).getD (c - 1 - t) 0 = 3 \/ (znn c j t).set (c - 1 - t) ((digs c j).getD (c - 1 - t) 0 + 1) = digs c (j + 1):=by decide +kernel
theorem zt6 : ∀ c,c < 5 -> ∀ j,j < 4 ^ c -> ∀ t,t < c -> zoa c j t = true -> (digs c j).getD (c - 1 - t) 0 = 3 \/ j + 1 < 4 ^ c:=by decide +kernel
theorem zkT (c : Nat) : digs c 0 = [0,0,0,0]:=by simp [digs,List.range_succ]
def zm1 (c : Nat) (f : List Int -> Bool) : Option (List Int):=(((List.range (4 ^ c)).map (digs c)).find? f).map fun d => d.take c
theorem zh2 {T T' : List (Nat × AV)} (h : ∀ p ∈ T',∃ b,look T p.1 = some b /\ Wk b p.2) {t : Nat} {a : AV} (e : look T' t = some a) : ∃ b,look T t = some b /\ Wk b a:=h _ (zbB e)
def DoC (lv : Bool) (H : List AObj) (so : AV) (f : List Int -> Bool) : Prop:=∀ (L : List AObj) (ds : List Int) (k kp : AV -> List AObj -> Prop),ds.length = 4 -> (∀ w ∈ ds,0 <= w /\ w <= 3) -> k (bv (f ds)) (H ++ L) -> CallC lv Tryz.prog so (H ++ L) [.agg (ds.map iv)] k kp
def zoE (H : List AObj) (x : Ring) (so : AV) (c j : Nat) : AS:=⟨[(0,.rp (x.l ++ zlz x)),(1,so),(6,.op H.length 0)],H ++ [.cells ((digs c j).map iv) 108]⟩
theorem f137_c {x : Ring} {so : AV} {f : List Int -> Bool} (hx : x.Ok) (hso : DoC lv H so f) (hk : k (.tup [aInts ((zm1 x.cuts.toNat f).getD []),bv (zm1 x.cuts.toNat f).isSome]) H) : FnC lv Tryz.prog 137 H [.rp (x.l ++ zlz x),so] k kp:=by
 refine zhQ (rs:=[.tmp 4,.tmp 5]) (nt:=43) Tryz.f137 fun hH hA => ?_;simp only [zlx,Nat.reduceAdd];obtain ⟨hc1,hc4⟩:=hx.cuts;obtain ⟨c,hc⟩ : ∃ c : Nat,x.cuts = c:=⟨x.cuts.toNat,by omega⟩;have hcl : c < 5:=by omega
 have hp : 0 < 4 ^ c:=Nat.pow_pos (by decide);have hlk : x.l ++ zlz x = iv x.cuts :: zmd x.keys :: zlO x.locks :: zlT x.tries :: zlz x:=rfl;refine zfK ?_;(repeat apply zaa);refine zjB (fun m => zoE H x so c (4 ^ c - 1 - m)) (fun m => m < 4 ^ c /\ ∀ j < 4 ^ c - 1 - m,f (digs c j) = false) (l:=0) rfl (fun m hm => ?_) (fun hb => ⟨4 ^ c - 1,?_⟩)
 ·obtain ⟨hm,hbef⟩:=hm;generalize hj : 4 ^ c - 1 - m = j at hbef ⊢;have hjl : j < 4 ^ c:=by omega
  obtain ⟨hz0,hall3,hdb,ht0⟩:=zjp c hcl j hjl;have hdl : ((digs c j).map iv).length = 4:=by simp [zdu]
  have htk : List.take 4 ((digs c j).map iv) = (digs c j).map iv:=List.take_of_length_le (by omega);unfold zoE;refine zl5 ?_;simp only [seval,hdl,htk];refine zqk (hso _ _ _ _ (zdu c j) hdb ?_);(try simp only [seval]);refine zf9 ?_;refine ⟨fun h => ?_,fun h => ?_⟩
  ·
   have hcn : x.cuts.toNat = c:=(by omega);have hfi : zm1 x.cuts.toNat f = some ((digs c j).take c):=by
    rw [hcn];unfold zm1;rw [zfN (j:=j) (x:=digs c j) (by simp [hjl]) h fun y hy => by
     rw [<- List.map_take,List.take_range,Nat.min_eq_left (by omega)] at hy;obtain ⟨j',hj',rfl⟩:=List.mem_map.1 hy;exact hbef j' (List.mem_range.1 hj')]
    rfl
   refine zl5 ?_;simp only [seval,hlk];refine ⟨by omega,by omega,?_⟩;refine zl6 ((f94_o (xs:=(digs c j).take c) (by simp only [seval] <;> rfl) (by rw [List.length_take,zdu]; omega) (by rw [List.map_take,hcn]; rfl) (by rw [List.length_take,zdu]; omega) ?_));(try simp only [seval]);refine zgX ?_;rw [hfi] at hk;exact endA hH (Wk.refl _) (by simp [zap,zaD,zbi]) hk
  ·
   have hw1 : IntKind.i64.wrap (x.cuts - 1) = (c : Int) - 1:=(by rw [zau _ (by omega),hc]);refine zgv ?_;refine zl5 ?_;simp only [seval,hlk];refine zhC ?_;refine zaB c (fun t : Nat => [(7,iv ((c : Int) - 1 - (t : Int)))]) (fun t => H ++ [.cells ((znn c j t).map iv) 108]) (fun t => zoa c j t = true) (fun _ _ => rfl) (by simp only [seval]; simp [zaf,Wk.refl]; rw [hw1]; exact Wk.refl _) (by rw [hz0]) (fun _ _ _ => by simp) ht0 (fun hHs hLt t htn hto R hR => ?_);by_cases htc : t < c
   ·have hat : (c : Int) - 1 - (t : Int) = ((c - 1 - t : Nat) : Int):=(by omega);have hge : decide (((c - 1 - t : Nat) : Int) >= 0) = true:=(by simp);obtain ⟨hg,hset⟩:=zt9 c hcl j hjl t htc;have b4 : (0 <= ((c - 1 - t : Nat) : Int) /\ ((c - 1 - t : Nat) : Int) < 4) = True:=(by simp; omega);rw [hat];refine zl5 ?_;simp only [seval,hge,decide_false,b4,zbf hg];refine zf9 ?_;refine ⟨fun h2 => ?_,fun h2 => ?_⟩
    ·
     have h3 : (digs c j).getD (c - 1 - t) 0 = 3:=(by simpa using h2);have hl4 : ((znn c j t).map iv).length = 4:=(by simp [zcC]);have hlt4 : c - 1 - t < (znn c j t).length:=(by rw [zcC]; omega);have hoff : (c - 1 - t + 1 <= 4) = True:=(by simp; omega);have hw2 : IntKind.i64.wrap (((c - 1 - t : Nat) : Int) - 1) = (c : Int) - 1 - ((t + 1 : Nat) : Int):=(by rw [zau _ (by omega)]; omega);refine zgv ?_;refine zl5 ?_;simp only [seval,b4,hl4,hoff,zfv hlt4,hset];refine ⟨by omega,?_⟩;refine zl5 ?_;simp only [seval,hw2];refine hR _ ⟨htc,zt8 c hcl j hjl t htc hto h3,?_⟩;rw [<- hat];exact zli
    ·have h3 : ¬ (digs c j).getD (c - 1 - t) 0 = 3:=(by simpa using h2);have h4:=(zt7 c hcl j hjl t htc hto).resolve_left h3;have h5:=(zt6 c hcl j hjl t htc hto).resolve_left h3;have hl4 : ((znn c j t).map iv).length = 4:=(by simp [zcC]);have hlt4 : c - 1 - t < (znn c j t).length:=(by rw [zcC]; omega);have hoff : (c - 1 - t + 1 <= 4) = True:=(by simp; omega);have hdg : 0 <= (digs c j).getD (c - 1 - t) 0 /\ (digs c j).getD (c - 1 - t) 0 <= 3:=by
      obtain ⟨w,hw⟩:=zaE (xs:=digs c j) (i:=c - 1 - t) (by rw [zdu]; omega);rw [u8z _ _ hw]; exact hdb w (zas hw)
     have hw3 : IntKind.i64.wrap ((digs c j).getD (c - 1 - t) 0 + 1) = (digs c j).getD (c - 1 - t) 0 + 1:=zau _ (by omega);refine zkY ?_;refine zl5 ?_;simp only [seval,hge,decide_false];refine zf9 ?_;refine zl5 ?_;simp only [seval,b4,hl4,hoff,zbf hg,hw3,zfv hlt4,h4];refine zqn ?_;simp only [seval];refine ⟨rfl,m - 1,by omega,⟨by omega,fun j' hj' => ?_⟩,?_⟩
     ·by_cases e : j' = j
      ·rw [e]; exact h
      ·exact hbef j' (by omega)
     ·have e : 4 ^ c - 1 - (m - 1) = j + 1:=(by omega);show AS.Sub _ (zoE H x so c (4 ^ c - 1 - (m - 1)));rw [e];exact ⟨fun t' a e' => zh2 (by unfold zoE; simp only [seval]; simp [zaf,Wk.refl]; exact Wk.refl _) e',rfl⟩
   ·have htx : t = c:=(by omega);subst htx;have hat : (t : Int) - 1 - (t : Int) = -1:=(by omega);have hge : decide ((-1 : Int) >= 0) = false:=(by decide);rw [hat];refine zl5 ?_;simp only [seval,hge,decide_false];refine zf9 ?_;refine zkY ?_;refine zl5 ?_;simp only [seval,hge,decide_false];refine zf9 ?_;refine zgv ?_;refine zfK ?_;refine zgX ?_;have hje:=hall3 hto;have hcn : x.cuts.toNat = t:=(by omega);have hfi : zm1 x.cuts.toNat f = none:=by
     rw [hcn];unfold zm1;rw [zdt fun y hy => by
      obtain ⟨j',hj',rfl⟩:=List.mem_map.1 hy;have:=List.mem_range.1 hj';by_cases e : j' = j
      ·rw [e]; exact h
      ·exact hbef j' (by omega)]
     rfl
    rw [hfi] at hk;have hk : k (.tup [.sl 0 [] .shut,bv false]) H:=hk;exact endA hH (zdC (zaK _ _ _) (Wk.refl _)) (by simp [zap,zaD,za3]) hk
 ·refine zfK ?_;refine zfK ?_;(repeat apply zaa);refine zbQ ?_;simp only [seval];refine ziu ?_ (hb (4 ^ c - 1) ⟨by omega,fun j hj => by omega⟩);have e : 4 ^ c - 1 - (4 ^ c - 1) = 0:=by omega
  show AS.Sub _ (zoE H x so c (4 ^ c - 1 - (4 ^ c - 1)));rw [e];refine ⟨fun t' a e' => zh2 (by unfold zoE; simp only [seval]; simp [zaf,Wk.refl]) e',?_⟩;show _ = H ++ [AObj.cells ((digs c 0).map iv) 108];rw [zkT]; rfl
def cutS (x : Ring) : List Int -> Nat -> Nat × Option Int
 | [],due => (due,none)
 | n :: l,due => if inM n 0 (x.locks.length - 1) then (if due.testBit n.toNat then (due,some 2) else cutS x l (due ||| 2 ^ n.toNat)) else (due,some 1)
theorem zkZ {x : Ring} {l : List Int} {i : Nat} {n : Int} (h : l[i]? = some n) : ∀ due,cutS x (l.drop i) due = cutS x (n :: l.drop (i + 1)) due:=fun due => by
 obtain ⟨hj,rfl⟩:=List.getElem?_eq_some_iff.1 h;rw [List.drop_eq_getElem_cons hj]
theorem f138_c {r d : Nat} {x : Ring} {ds : List Int} {due : Nat} (hx : x.Ok) (hds : ds.length = 4) (hdue : due < 256) (hr : H[r]? = some (.cells [.rp (x.l ++ zlz x)] 100)) (hd : H[d]? = some (.cells [uv due] 110)) (hk : k (bv (zlP x.cuts ds x.locks x.locks.length == due)) H) : FnC lv Tryz.prog 138 H [.agg (ds.map iv),.op r 0,.op d 0] k kp:=by
 refine zhQ (rs:=[.tmp 4]) (nt:=10) Tryz.f138 fun hH hA => ?_;simp only [zlx,Nat.reduceAdd];have hdl : (ds.map iv).length = 4:=by simp [hds]
 have htk : List.take 4 (ds.map iv) = ds.map iv:=List.take_of_length_le (by omega);have hc:=hx.cuts;have hl:=hx.locks;refine zfK ?_;refine zlw 5 ?_;simp only [seval,zay hr,zay hd,hdl,htk];refine zmU (uv (zlP x.cuts ds x.locks x.locks.length)) (zlH (f139_c hds (by omega) hl (fun l hl => by have:=(hx.lock l hl).1; omega) ⟨rfl,rfl⟩)) ?_;(try simp only [seval]);refine zgX ?_;exact endA hH (Wk.refl _) (by simp [zap]) (by rw [show (((zlP x.cuts ds x.locks x.locks.length : Nat) : Int) == (due : Int)) = (zlP x.cuts ds x.locks x.locks.length == due) from by rw [Bool.eq_iff_iff]; simp only [beq_iff_eq]; omega]; exact hk)
def dueF (l : List Int) : Nat:=l.foldl (fun due n => due ||| 2 ^ n.toNat) 0
theorem zkO {l : List Int} {i : Nat} {n : Int} (h : l[i]? = some n) : dueF (l.take (i + 1)) = dueF (l.take i) ||| 2 ^ n.toNat:=by
 obtain ⟨hj,rfl⟩:=List.getElem?_eq_some_iff.1 h;unfold dueF;rw [List.take_succ_eq_append_getElem hj,List.foldl_append]; rfl
theorem f134_c {a b d : Nat} {x : Ring} {l : List Int} (hx : x.Ok) (hll : l.length < 2 ^ 30) (hl : H[a]? = some (.cells [aInts l] 30)) (hr : H[b]? = some (.cells x.l 26)) (hd : H[d]? = some (.cells [uv 0] 110)) (had : a ≠ d) (hbd : b ≠ d) (hk : (cutS x l 0).2 = none -> k (.tup []) (H.set d (.cells [uv (cutS x l 0).1] 110))) (hp : ∀ f,(cutS x l 0).2 = some f -> kp (.ifc 106 (iv f)) (H.set d (.cells [uv (cutS x l 0).1] 110))) : FnC lv Tryz.prog 134 H [.op a 0,.op b 0,.op d 0] k kp:=by
 refine zhQ (rs:=[]) (nt:=27) Tryz.f134 fun hH hA => ?_;simp only [zlx,Nat.reduceAdd];have hr2:=hr;rw [Ring.l] at hr2;have hx5:=hx.locks;have hw : IntKind.i64.wrap ((x.locks.length : Int) - 1) = x.locks.length - 1:=zau _ (by omega);have gx : ∀ z,(H.set d z)[b]? = some (.cells [iv x.cuts,zmd x.keys,zlO x.locks,zlT x.tries] 26):=fun z => by rw [List.getElem?_set_ne (Ne.symm hbd)]; exact hr2
 have gd : ∀ z,(H.set d z)[d]? = some z:=fun z => List.getElem?_set_self (get_lt hd);have gs : ∀ z z',(H.set d z).set d z' = H.set d z':=fun z z' => List.set_set ..;have hokb : ∀ m,HOk (H.set d (.cells [uv m] 110)):=fun m y hy => by
  rw [List.length_set];rcases List.mem_or_eq_of_mem_set hy with h | h
  ·exact hH y h
  ·rw [h]; intro a ha; simp at ha; subst ha; exact .val _
 refine zl5 ?_;simp only [seval,hl,aInts];refine zhC ?_;refine zaB l.length (fun i : Nat => [(7,iv i)]) (fun i => H.set d (.cells [uv (dueF (l.take i))] 110)) (fun i => cutS x l 0 = cutS x (l.drop i) (dueF (l.take i)) /\ dueF (l.take i) < 256) (fun _ _ => rfl) (by simp only [seval]; simp [zaf,Wk.refl]) (by exact zh7 hd) (fun _ _ _ => by simp) ⟨by simp [dueF],by simp [dueF]⟩ (fun hHs hLt i hin hi R hR => ?_);refine zfK ?_;refine zf9 ?_;refine ⟨fun h => ?_,fun h => ?_⟩
 ·have hil : i < l.length:=by omega
  obtain ⟨n,hn⟩:=zaE hil;have hi1 : IntKind.i64.wrap ((i : Int) + 1) = ((i + 1 : Nat) : Int):=by rw [zau _ (by omega)]; rfl
  refine zgv ?_;refine zl5 ?_;simp only [seval,za2 hn,zaz hil];refine zl5 ?_;simp only [seval,gx,zlO,hw];obtain ⟨hcut,hdl⟩:=hi;rw [zkZ hn] at hcut;refine zl6 ((f91_c ?_));(try simp only [seval]);refine zl6 ((f90_c (fun h2 => ?_) (fun h2 => ?_)))
  ·have h3 : inM n 0 (x.locks.length - 1) = true:=(by simpa [inM] using h2);obtain ⟨hn0,hn1⟩:=zbU.1 h3;obtain ⟨nn,rfl⟩ : ∃ m : Nat,n = m:=⟨n.toNat,by omega⟩;rw [cutS,if_pos h3,Int.toNat_natCast] at hcut;(try simp only [seval]);refine zl5 ?_;simp only [seval,gd];refine zl6 ((f135_c hdl ?_));(try simp only [seval]);refine zl6 ((f90_c (fun h4 => ?_) (fun h4 => ?_)))
   ·have h5 : (dueF (l.take i)).testBit nn = false:=(by simpa using h4);rw [h5] at hcut;simp only [Bool.false_eq_true,if_false] at hcut;(try simp only [seval]);refine zl5 ?_;simp only [seval,gd];refine zl6 ((f136_c hdl (by omega) ?_));(try simp only [seval,gd,gs]);refine zl5 ?_;simp only [seval,hi1];have hdt:=zkO hn;rw [Int.toNat_natCast] at hdt;refine hR _ ⟨hil,⟨by rw [hdt]; exact hcut,?_⟩,?_⟩
    ·rw [hdt]; exact Nat.or_lt_two_pow (n:=8) hdl (Nat.pow_lt_pow_right (by decide) (by omega))
    ·rw [hdt]; exact zli
   ·have h5 : (dueF (l.take i)).testBit nn = true:=(by simpa using h4);rw [h5,if_pos rfl] at hcut;have hp:=hp 2 (by rw [hcut]);rw [hcut] at hp;exact zaJ (H':=H.set d (.cells [uv (dueF (l.take i))] 110)) (G:=[]) (Wk.refl _) (by simp) (by simp) (hokb _) (by simp [zap,zey]) hp
  ·have h3 : ¬ inM n 0 (x.locks.length - 1) = true:=(by simpa [inM] using h2);rw [cutS,if_neg h3] at hcut;have hp:=hp 1 (by rw [hcut]);rw [hcut] at hp;exact zaJ (H':=H.set d (.cells [uv (dueF (l.take i))] 110)) (G:=[]) (Wk.refl _) (by simp) (by simp) (hokb _) (by simp [zap,zey]) hp
 ·have hix : i = l.length:=by omega
  subst hix;obtain ⟨hcut,hdl⟩:=hi;rw [List.drop_length,cutS,List.take_length] at hcut;refine zkY ?_;rw [List.take_length];have hk:=hk (by rw [hcut]);rw [hcut] at hk;exact zaJ (H':=H.set d (.cells [uv (dueF l)] 110)) (G:=[]) (Wk.refl _) (by simp) (by simp) (hokb _) (by simp [zaD]) hk
theorem zk0 {x : Ring} (hl : x.locks.length <= 4) : ∀ (l : List Int) (due : Nat),due < 256 -> (cutS x l due).1 < 256
 | [],due,h => h
 | n :: l,due,h => by
  rw [cutS];split
  ·rename_i h2;have:=zbU.1 h2;split
   ·exact h
   ·exact zk0 hl l _ (Nat.or_lt_two_pow (n:=8) h (Nat.pow_lt_pow_right (by decide) (by omega)))
  ·exact h
def znb (x : Ring) (l : List Int) : Option (List Int):=zm1 x.cuts.toNat fun ds => zlP x.cuts ds x.locks x.locks.length == (cutS x l 0).1
theorem zud {a b d : Nat} {x : Ring} {l : List Int} (hx : x.Ok) (hll : l.length < 2 ^ 30) (hl : H[a]? = some (.cells [aInts l] 30)) (hr : H[b]? = some (.cells x.l 26)) (hd : H[d]? = some (.cells [uv 0] 110)) (had : a ≠ d) (hbd : b ≠ d) : AskT lv H (H.set d (.cells [uv (cutS x l 0).1] 110)) (.fn (.func 134) [] [.op a 0,.op b 0,.op d 0]) (cutS x l 0).2:=fun L k kp h1 h2 => by
 have e : (H ++ L).set d (.cells [uv (cutS x l 0).1] 110) = H.set d (.cells [uv (cutS x l 0).1] 110) ++ L:=List.set_append_left _ _ (get_lt hd);rw [<- e] at h1 h2;exact zlH (f134_c hx hll (zay hl) (zay hr) (zay hd) had hbd h1 h2)
theorem so_cut {r d : Nat} {x : Ring} {due : Nat} (hx : x.Ok) (hdue : due < 256) (hr : H[r]? = some (.cells [.rp (x.l ++ zlz x)] 100)) (hd : H[d]? = some (.cells [uv due] 110)) : DoC lv H (.fn (.func 138) [] [.op r 0,.op d 0]) (fun ds => zlP x.cuts ds x.locks x.locks.length == due):=fun L ds k kp h1 h2 h =>
 zlH (f138_c hx h1 hdue (zay hr) (zay hd) h)
theorem f62_c {x : Ring} {l : List Int} (hnr : zme lv) (hmain : H[0]? = some .main) (hs : x.Small) (hll : l.length < 2 ^ 30) (h1 : zmb x (cutS x l 0).2 ≠ 0 -> k (.tup [.sl 0 [] .exact,iv (zmb x (cutS x l 0).2)]) H) (h2 : zmb x (cutS x l 0).2 = 0 -> znb x l = none -> k (.tup [.sl 0 [] .exact,iv 11]) H) (h3 : zmb x (cutS x l 0).2 = 0 -> ∀ xs,znb x l = some xs -> k (.tup [aInts xs,iv 0]) H) : FnC lv Tryz.prog 62 H [x.av,aInts l] k kp:=by
 have hmn : ∀ L : List AObj,(H ++ L)[0]? = some .main:=fun L => zay hmain;refine zhQ (rs:=[.tmp 4,.tmp 5]) (nt:=29) Tryz.f62 fun hH hA => ?_;simp only [zlx,Nat.reduceAdd,Ring.av];refine zl5 ?_;simp only [seval,Ring.l];refine zfK ?_;refine zl5 ?_;simp only [seval,List.mapM_cons,List.mapM_nil,Option.pure_def,Option.bind_eq_bind];have hask : zl4 x = 0 -> AskT lv (H ++ [.cells x.l 26,.cells [aInts l] 30,.cells [.val (.int .u8 0)] 110]) (H ++ [.cells x.l 26,.cells [aInts l] 30,.cells [uv (cutS x l 0).1] 110]) (.fn (.func 134) [] [.op (H.length + 1) 0,.op H.length 0,.op (H.length + 2) 0]) (cutS x l 0).2:=fun hc => by
  have h:=zud (lv:=lv) (H:=H ++ [.cells x.l 26,.cells [aInts l] 30,.cells [.val (.int .u8 0)] 110]) (a:=H.length + 1) (b:=H.length) (d:=H.length + 2) (zbH.1 hc) hll (by simp only [seval]) (by simp only [seval]) (by simp only [seval] <;> rfl) (by omega) (by omega);rwa [show (H ++ [AObj.cells x.l 26,.cells [aInts l] 30,.cells [.val (.int .u8 0)] 110]).set (H.length + 2) (.cells [uv (cutS x l 0).1] 110) = H ++ [.cells x.l 26,.cells [aInts l] 30,.cells [uv (cutS x l 0).1] 110] from zbR H _ 2 _] at h
 refine zl6 ((f87_t hnr (H':=H ++ [AObj.cells x.l 26,AObj.cells [aInts l] 30,AObj.cells [uv (cutS x l 0).1] 110]) (hmn _) (by simp) (fun h => zc6 hH ?_) hs hask (fun hc => ?_) (fun hc hz => ?_) (fun hz => ?_)))
 ·intro z hz n;simp only [List.mem_cons,List.not_mem_nil,or_false] at hz;rcases hz with rfl | rfl | rfl
  ·intro a ha;simp only [Ring.l,List.mem_cons,List.not_mem_nil,or_false] at ha;rcases ha with rfl | rfl | rfl | rfl
   ·exact .val _
   ·rw [zc5]; trivial
   ·rw [zci]; trivial
   ·rw [zch]; trivial
  ·intro a ha; simp at ha; subst ha; rw [zbi]; trivial
  ·intro a ha; simp at ha; subst ha; exact .val _
 ·(try simp only [seval]);refine zfK ?_;have hz : zmb x (cutS x l 0).2 ≠ 0:=fun e => hc (zaN.1 e).1;refine zf9 ?_;refine ⟨fun h => ?_,fun h => absurd (by simpa using h) hz⟩;refine zfK ?_;refine zgX ?_;exact endA hH (Wk.refl _) (by simp [zap,zaD,zbh]) (h1 hz)
 ·(try simp only [seval]);refine zfK ?_;refine zf9 ?_;refine ⟨fun h => ?_,fun h => absurd (by simpa using h) hz⟩;refine zfK ?_;refine zgX ?_;exact endA hH (Wk.refl _) (by simp [zap,zaD,zbh]) (h1 hz)
 ·(try simp only [seval]);refine zfK ?_;have hx:=zbp hz;refine zf9 ?_;refine zgv ?_;refine zl5 ?_;simp only [seval,List.mapM_cons,List.mapM_nil,Option.pure_def,Option.bind_eq_bind];refine zl6 ((f137_c hx (so_cut (r:=H.length + 3) (d:=H.length + 2) hx (zk0 hx.locks l 0 (by decide)) (by simp only [seval] <;> rfl) (by simp only [seval] <;> rfl)) ?_));(try simp only [seval]);rw [show zm1 x.cuts.toNat (fun ds => zlP x.cuts ds x.locks x.locks.length == (cutS x l 0).1) = znb x l from rfl];refine zfK ?_;refine zf9 ?_;cases hm : znb x l with
  | none =>
   refine ⟨fun h => ?_,fun h => by simp at h⟩;refine zfK ?_;refine zgX ?_;exact endA hH (Wk.refl _) (by simp [zap,zaD,zbh]) (h2 hz hm)
  | some xs =>
   refine ⟨fun h => by simp at h,fun h => ?_⟩;refine zgv ?_;refine zfK ?_;refine zgX ?_;exact endA hH (Wk.refl _) (by simp [zap,zaD,zbi]) (h3 hz xs hm)
end
def exR (ts : List Try) : Ring:=⟨2,[⟨[3,1],⟨0,1⟩⟩,⟨[2,2],⟨0,0⟩⟩,⟨[1,3],⟨0,2⟩⟩],[[⟨2,3⟩,⟨0,1⟩],[⟨2,2⟩,⟨1,2⟩],[⟨0,1⟩,⟨2,3⟩]],ts⟩
def exLast : Try:=⟨2,2,true⟩
def exNever : Try:=⟨1,1,false⟩
def exOne : Ring:=⟨2,[⟨[2,2],⟨0,0⟩⟩],[[⟨2,3⟩,⟨0,1⟩],[⟨2,2⟩,⟨1,2⟩],[⟨0,1⟩,⟨2,3⟩]],[]⟩
theorem zbq {ts : List Try} (h : ts.length < 2 ^ 30) : (exR ts).Small:=⟨by show 3 < 2 ^ 30; decide,by show 3 < 2 ^ 30; decide,h,fun x hx => by simp only [exR,List.mem_cons,List.not_mem_nil,or_false] at hx; rcases hx with rfl | rfl | rfl <;> decide,fun x hx => by simp only [exR,List.mem_cons,List.not_mem_nil,or_false] at hx; rcases hx with rfl | rfl | rfl <;> decide⟩
theorem zhI : exOne.Small:=⟨by decide,by decide,by decide,by decide,by decide⟩
section
variable {H : List AObj} {k kp : AV -> List AObj -> Prop}
theorem zt0 (hmain : H[0]? = some .main) (hk : k (.tup [aInts [0,1],iv 0]) H) : FnC true Tryz.prog 30 H [(exR []).av,iv 2,iv 2] k kp :=
 f30_c zaQ hmain (zbq (by decide)) (fun h => absurd (by decide +kernel) h) fun _ => by
  rw [show zpo (exR []) (2 : Int).toNat (2 : Int).toNat = [0,1] by decide +kernel]; exact hk
theorem zrG (hmain : H[0]? = some .main) (hk : k (.tup [iv 3,iv 0]) H) : FnC true Tryz.prog 32 H [(exR []).av,iv 2,iv 2] k kp :=
 f32_c zaQ hmain (zbq (by decide)) (fun h => absurd (by decide +kernel) h) fun _ => by
  rw [show znz (cntM (exR []) (2 : Int).toNat (2 : Int).toNat (zlj (exR []) [])) (zlj (exR []) []).length = 3 by decide +kernel]; exact hk
theorem zrI (hmain : H[0]? = some .main) (hk : k (.tup [iv 4,iv 0]) H) : FnC true Tryz.prog 53 H [(exR [exLast]).av] k kp :=
 f53_c zaQ hmain (zbq (by decide)) (fun h => absurd (by decide +kernel) h) fun _ => by
  rw [show (zlj (exR [exLast]) []).length = 4 by decide +kernel]; exact hk
theorem ex_ask (hmain : H[0]? = some .main) (hk : k (.tup [iv 2,iv 2,iv 4,iv 0]) H) : FnC true Tryz.prog 55 H [(exR []).av] k kp :=
 f55_c zaQ hmain (zbq (by decide)) (fun h => absurd (by decide +kernel) h) (fun _ h => absurd h (by decide +kernel)) fun _ a b c h => by
  rw [show askR (exR []) = some (2,2,4) by decide +kernel] at h; cases h; exact hk
theorem zrH (hmain : H[0]? = some .main) (hk : k (.tup [aInts [0,1,2],iv 0]) H) : FnC true Tryz.prog 38 H [(exR [exLast]).av] k kp :=
 f38_c zaQ hmain (zbq (by decide)) (fun h => absurd (by decide +kernel) h) (fun _ h => absurd h (by decide +kernel)) fun _ xs h => by
  rw [show zo4 (exR [exLast]) = some [0,1,2] by decide +kernel] at h; cases h; exact hk
theorem zrJ (hmain : H[0]? = some .main) (hk : k (.tup [aInts [0,1,0],iv 0]) H) : FnC true Tryz.prog 40 H [exOne.av] k kp :=
 f40_c zaQ hmain zhI (fun h => absurd (by decide +kernel) h) fun _ => by
  rw [show zpy exOne = [0,1,0] by decide +kernel]; exact hk
theorem zrF (hmain : H[0]? = some .main) (hk : k (.tup [aInts [1,2],iv 0]) H) : FnC true Tryz.prog 46 H [(exR []).av,zmp [⟨0,false⟩]] k kp :=
 f46_c zaQ hmain (zbq (by decide)) (by decide) (fun h => absurd (by decide +kernel) h) fun _ => by
  rw [show zsx (exR []) [⟨0,false⟩] = [1,2] by decide +kernel]; exact hk
theorem ex_cut (hmain : H[0]? = some .main) (hk : k (.tup [aInts [2,1],iv 0]) H) : FnC true Tryz.prog 62 H [(exR []).av,aInts [0,1]] k kp :=
 f62_c zaQ hmain (zbq (by decide)) (by decide) (fun h => absurd (by decide +kernel) h) (fun _ h => absurd h (by decide +kernel)) fun _ xs h => by
  rw [show znb (exR []) [0,1] = some [2,1] by decide +kernel] at h; cases h; exact hk
theorem zrE (hmain : H[0]? = some .main) (hk : k (.tup [aInts [0],iv 0]) H) : FnC true Tryz.prog 51 H [(exR [exNever]).av] k kp :=
 f51_c zaQ hmain (zbq (by decide)) (fun h => absurd (by decide +kernel) h) fun _ => by
  rw [show zsv (exR [exNever]) = [0] by decide +kernel]; exact hk
theorem zt1 (hmain : H[0]? = some .main) (hk : k (.tup [aInts [0,1],iv 0]) H) : FnC true Tryz.prog 42 H [(exR []).av] k kp :=
 f42_c zaQ hmain (zbq (by decide)) (fun h => absurd (by decide +kernel) h) (fun _ h => absurd h (by decide +kernel)) fun _ xs h => by
  rw [show zpV (exR []) = some [0,1] by decide +kernel] at h; cases h; exact hk
end
structure TinS where
 nums : List Int
 g : Int
 s : Int
def tinO (τ : TinS) : AObj:=.cells [aInts τ.nums,.val (.int .i64 τ.g),.val (.int .u64 τ.s)] 98
def xorU (a b : Int) : Int:=IntKind.u64.wrap (BitVec.ofInt IntKind.u64.bits a ^^^ BitVec.ofInt IntKind.u64.bits b).toNat
def word0 (g : Int) : Int:=IntKind.u64.wrap (IntKind.u64.wrap (IntKind.u64.wrap g * 15074714826142052245) + 11400714819323198485)
def zsU (τ : TinS) : Int:=match τ.nums[τ.g.toNat]? with
 | some x => xorU (word0 τ.g) (IntKind.u64.wrap (IntKind.u64.wrap x * 12620523164723586485))
 | none => word0 τ.g
def mix1 (s w : Int) : Int:=IntKind.u64.wrap (IntKind.u64.wrap (s + w) * 13787848793156543929)
def mix2 (s : Int) : Int:=xorU s (s.fdiv (2 ^ min 31 IntKind.u64.bits))
def out1 (s : Int) : Int:=(xorU s (s.fdiv (2 ^ min 27 IntKind.u64.bits))).fdiv (2 ^ min 9 IntKind.u64.bits)
def tick (τ : TinS) : TinS:=⟨τ.nums,τ.g + 1,mix2 (mix1 τ.s (zsU τ))⟩
def outT (τ : TinS) : Int:=out1 (IntKind.u64.wrap ((tick τ).s * 10723151780598845931))
theorem zsy (n : Int) (h0 : 0 <= n) (h : n < 2 ^ 64) : IntKind.u64.wrap n = n:=by
 have h1 : IntKind.u64.bits = 64:=rfl;have h2 : IntKind.u64.signed = false:=rfl;unfold IntKind.wrap;rw [h1,h2];simp;omega
theorem zjS (n : Int) : 0 <= IntKind.u64.wrap n /\ IntKind.u64.wrap n < 2 ^ 64:=by
 have h1 : IntKind.u64.bits = 64:=rfl;have h2 : IntKind.u64.signed = false:=rfl;unfold IntKind.wrap;rw [h1,h2];simp;omega
theorem ze9 (s : Int) : 0 <= out1 s /\ out1 s < 2 ^ 55:=by
 unfold out1 xorU;have h:=zjS (BitVec.ofInt IntKind.u64.bits s ^^^ BitVec.ofInt IntKind.u64.bits (s.fdiv (2 ^ min 27 IntKind.u64.bits))).toNat;have e : (2 : Int) ^ min 9 IntKind.u64.bits = 512:=by decide
 rw [e,Int.fdiv_eq_ediv_of_nonneg _ (show (0 : Int) <= 512 by decide)];omega
def zmz (τ : TinS) (n : Int) : Int:=if n < 1 then 0 else (outT τ).tmod (n + 1)
theorem zaX (τ : TinS) (n : Int) : 0 <= zmz τ n /\ (zmz τ n <= n \/ zmz τ n = 0):=by
 unfold zmz;split
 ·omega
 ·have h:=(ze9 (IntKind.u64.wrap ((tick τ).s * 10723151780598845931))).1;have h1:=Int.tmod_nonneg (n + 1) h;have h2:=Int.tmod_lt_of_pos (outT τ) (show 0 < n + 1 by omega);unfold outT at h2 ⊢;omega
def zmy (τ : TinS) (lo hi : Int) : Int:=lo + zmz τ (hi - lo)
theorem za1 (τ : TinS) {lo hi : Int} (h : lo <= hi) : lo <= zmy τ lo hi /\ zmy τ lo hi <= hi:=by
 have:=zaX τ (hi - lo);unfold zmy;omega
def znj (τ : TinS) (n : Int) : Bool:=zmz τ (n - 1) == 0
def znl (τ : TinS) (lo hi : Int) : Band:=⟨zmy τ lo hi,zmy (tick τ) (zmy τ lo hi) hi⟩
theorem zir (τ : TinS) {lo hi : Int} (h : lo <= hi) : lo <= (znl τ lo hi).min /\ (znl τ lo hi).min <= (znl τ lo hi).max /\ (znl τ lo hi).max <= hi:=by
 have h1:=za1 τ h;have h2:=za1 (tick τ) h1.2;exact ⟨h1.1,h2.1,h2.2⟩
structure TinAt (Gf : TinS -> List AObj) (t N : Nat) : Prop where
 len : ∀ τ,(Gf τ).length = N
 get : ∀ τ,(Gf τ)[t]? = some (tinO τ)
 set : ∀ τ τ',(Gf τ).set t (tinO τ') = Gf τ'
 ok : ∀ m τ τ',(∀ z ∈ Gf τ,OLt m z) -> ∀ z ∈ Gf τ',OLt m z
theorem TinAt.more {Gf : TinS -> List AObj} {t N : Nat} (h : TinAt Gf t N) (L : List AObj) : TinAt (fun τ => Gf τ ++ L) t (N + L.length) where
 len:=fun τ => by simp [h.len]
 get:=fun τ => zay (h.get τ)
 set:=fun τ τ' => by show (Gf τ ++ L).set t _ = _; rw [List.set_append_left _ _ (get_lt (h.get τ)),h.set]
 ok:=fun m τ τ' hk z hz => (List.mem_append.1 hz).elim (fun hz => h.ok m τ τ' (fun v hv => hk v (List.mem_append_left _ hv)) z hz) (fun hz => hk z (List.mem_append_right _ hz))
theorem TinAt.hok {Gf : TinS -> List AObj} {t N : Nat} (h : TinAt Gf t N) {τ : TinS} (hH : HOk (Gf τ)) (τ' : TinS) : HOk (Gf τ'):=fun z hz => by
 have:=h.ok N τ τ' (fun w hw => by have:=hH w hw; rwa [h.len] at this) z hz;rwa [h.len]
section
variable {Gf : TinS -> List AObj} {t N : Nat} (h : TinAt Gf t N)
include h
theorem TinAt.g0 (τ : TinS) (L : List AObj) : (Gf τ ++ L)[N]? = L[0]?:=by have:=zco (Gf τ) L 0; rwa [h.len] at this
theorem TinAt.g1 (τ : TinS) (L : List AObj) : (Gf τ ++ L)[N + 1]? = L[1]?:=by have:=zco (Gf τ) L 1; rwa [h.len] at this
theorem TinAt.g2 (τ : TinS) (L : List AObj) : (Gf τ ++ L)[N + 1 + 1]? = L[2]?:=by have:=zco (Gf τ) L 2; rwa [h.len] at this
theorem TinAt.g3 (τ : TinS) (L : List AObj) : (Gf τ ++ L)[N + 1 + 1 + 1]? = L[3]?:=by have:=zco (Gf τ) L 3; rwa [h.len] at this
theorem TinAt.h2 (τ : TinS) (L : List AObj) : (Gf τ ++ L)[N + 2]? = L[2]?:=h.g2 τ L
theorem TinAt.h3 (τ : TinS) (L : List AObj) : (Gf τ ++ L)[N + 3]? = L[3]?:=h.g3 τ L
theorem TinAt.s0 (τ : TinS) (L : List AObj) (x : AObj) : (Gf τ ++ L).set N x = Gf τ ++ L.set 0 x:=by have:=zbR (Gf τ) L 0 x; rwa [h.len] at this
theorem TinAt.s1 (τ : TinS) (L : List AObj) (x : AObj) : (Gf τ ++ L).set (N + 1) x = Gf τ ++ L.set 1 x:=by have:=zbR (Gf τ) L 1 x; rwa [h.len] at this
theorem TinAt.s2 (τ : TinS) (L : List AObj) (x : AObj) : (Gf τ ++ L).set (N + 1 + 1) x = Gf τ ++ L.set 2 x:=by have:=zbR (Gf τ) L 2 x; rwa [h.len] at this
theorem TinAt.s3 (τ : TinS) (L : List AObj) (x : AObj) : (Gf τ ++ L).set (N + 1 + 1 + 1) x = Gf τ ++ L.set 3 x:=by have:=zbR (Gf τ) L 3 x; rwa [h.len] at this
theorem TinAt.t2 (τ : TinS) (L : List AObj) (x : AObj) : (Gf τ ++ L).set (N + 2) x = Gf τ ++ L.set 2 x:=h.s2 τ L x
theorem TinAt.t3 (τ : TinS) (L : List AObj) (x : AObj) : (Gf τ ++ L).set (N + 3) x = Gf τ ++ L.set 3 x:=h.s3 τ L x
end
theorem TinAt.an {Gf : TinS -> List AObj} {t N : Nat} (h : TinAt Gf t N) : (type_of% h.len) /\ (type_of% h.g0) /\ (type_of% h.g1) /\ (type_of% h.g2) /\ (type_of% h.g3) /\ (type_of% h.h2) /\ (type_of% h.h3) /\ (type_of% h.s0) /\ (type_of% h.s1) /\ (type_of% h.s2) /\ (type_of% h.s3) /\ (type_of% h.t2) /\ (type_of% h.t3):=⟨h.len,h.g0,h.g1,h.g2,h.g3,h.h2,h.h3,h.s0,h.s1,h.s2,h.s3,h.t2,h.t3⟩
theorem ztz (m : Nat) (τ : TinS) : OLt m (tinO τ):=by
 intro a ha;simp only [List.mem_cons,List.not_mem_nil,or_false] at ha;rcases ha with rfl | rfl | rfl
 ·rw [zbi]; trivial
 ·exact .val _
 ·exact .val _
theorem zjT (H : List AObj) : TinAt (fun τ => H ++ [tinO τ]) H.length (H.length + 1) where
 len:=fun τ => by simp
 get:=fun τ => by simp
 set:=fun τ τ' => by simp
 ok:=fun m τ τ' hk z hz => by
  rcases List.mem_append.1 hz with hz | hz
  ·exact hk z (List.mem_append_left _ hz)
  ·rw [List.mem_singleton.1 hz]; exact ztz _ _
structure TinS.Ok (τ : TinS) (b : Int) : Prop where
 g0 : 0 <= τ.g
 g : τ.g <= b
 len : τ.nums.length <= 2 ^ 50
section
variable {lv : Bool} {H : List AObj} {k kp : AV -> List AObj -> Prop} {Gf : TinS -> List AObj} {t N : Nat} {τ : TinS} {b : Int}
theorem f26_c {nums : List Int} (hk : k (.op H.length 0) (H ++ [tinO ⟨nums,0,7640891576956012809⟩])) : FnC lv Tryz.prog 26 H [aInts nums] k kp:=by
 refine zhQ (rs:=[.tmp 2]) (nt:=6) Tryz.f26 fun hH hA => ?_;simp only [zlx,Nat.reduceAdd];refine zfK ?_;refine zfK ?_;refine zgX ?_;exact zao hk
theorem TinS.Ok.tick (h : τ.Ok b) : (tick τ).Ok (b + 1):=⟨by have:=h.g0; show 0 <= τ.g + 1; omega,by have:=h.g; show τ.g + 1 <= b + 1; omega,h.len⟩
theorem TinS.Ok.mono {b' : Int} (h : τ.Ok b) (hb : b <= b') : τ.Ok b':=⟨h.g0,by have:=h.g; omega,h.len⟩
theorem f86_c (hT : TinAt Gf t N) (hτ : τ.Ok b) (hb : b < 2 ^ 60) (hk : k (.val (.int .u64 (outT τ))) (Gf (tick τ))) : FnC lv Tryz.prog 86 (Gf τ) [.op t 0] k kp:=by
 obtain ⟨nums,g,s⟩:=τ;obtain ⟨hg0,hgb,hln⟩:=hτ;simp only at hg0 hgb hln;refine zhQ (rs:=[.tmp 2]) (nt:=76) Tryz.f86 fun hH hA => ?_;simp only [zlx,Nat.reduceAdd];have hg : ∀ τ,(Gf τ)[t]? = some (.cells [.sl τ.nums.length (τ.nums.map iv) .shut,.val (.int .i64 τ.g),.val (.int .u64 τ.s)] 98):=hT.get;have hs : ∀ τ (nums' : List Int) g' s',(Gf τ).set t (.cells [.sl nums'.length (nums'.map iv) .shut,.val (.int .i64 g'),.val (.int .u64 s')] 98) = Gf ⟨nums',g',s'⟩:=fun τ nums' g' s' => hT.set τ ⟨nums',g',s'⟩;obtain ⟨n,rfl⟩ : ∃ n : Nat,g = n:=⟨g.toNat,by omega⟩;have hw : IntKind.i64.wrap ((n : Int) + 1) = n + 1:=zau _ (by omega);refine zfK ?_;refine zl5 ?_;simp only [seval,hg];refine zlw 9 ?_;simp only [seval,hg];refine zf9 ?_;refine ⟨fun h => ?_,fun h => ?_⟩
 ·have hnl : n < nums.length:=by simpa using h
  obtain ⟨x,hx⟩:=zaE hnl;refine zlw 13 ?_;simp only [seval,hg,za2 hx,zaz hnl,zdy];refine zl5 ?_;simp only [seval,hg,hw,hs];refine zl5 ?_;simp only [seval,hg,hs];refine zlw 11 ?_;simp only [seval,hg,hs,zdz,zdy];refine zl5 ?_;simp only [seval,hg];refine zl5 ?_;simp only [seval,zdz,zdy];refine zgX ?_;refine zao ?_;unfold outT tick zsU at hk;simp only [Int.toNat_natCast,hx] at hk;exact hk
 ·have hnl : ¬ n < nums.length:=by simpa using h
  have hx : nums[n]? = none:=by rw [List.getElem?_eq_none]; omega
  refine zgv ?_;refine zl5 ?_;simp only [seval,hg,hw,hs];refine zl5 ?_;simp only [seval,hg,hs];refine zlw 11 ?_;simp only [seval,hg,hs,zdz,zdy];refine zl5 ?_;simp only [seval,hg];refine zl5 ?_;simp only [seval,zdz,zdy];refine zgX ?_;refine zao ?_;unfold outT tick zsU at hk;simp only [Int.toNat_natCast,hx] at hk;exact hk
theorem f29_c {n : Int} (hT : TinAt Gf t N) (hτ : τ.Ok b) (hb : b < 2 ^ 60) (hn : n < 2 ^ 60) (hk : k (iv (zmz τ n)) (Gf (tick τ))) : FnC lv Tryz.prog 29 (Gf τ) [.op t 0,iv n] k kp:=by
 refine zhQ (rs:=[.tmp 4]) (nt:=16) Tryz.f29 fun hH hA => ?_;simp only [zlx,Nat.reduceAdd];refine zfK ?_;refine zfK ?_;refine zl6 ((f86_c hT hτ hb ?_));(try simp only [seval]);refine zfK ?_;refine zf9 ?_;refine ⟨fun h => ?_,fun h => ?_⟩
 ·have h : n < 1:=by simpa using h
  refine zfK ?_;refine zgX ?_;rw [zmz,if_pos h] at hk;exact zao hk
 ·have h : ¬ n < 1:=by simpa using h
  have ho:=ze9 (IntKind.u64.wrap ((tick τ).s * 10723151780598845931));have hw1 : IntKind.u64.wrap n = n:=zsy n (by omega) (by omega);have hw2 : IntKind.u64.wrap (n + 1) = n + 1:=zsy _ (by omega) (by omega);have hn0 : n + 1 ≠ 0:=by omega
  have hr:=zaX τ n;rw [zmz,if_neg h] at hk hr;have hw3 : IntKind.i64.wrap ((outT τ).tmod (n + 1)) = (outT τ).tmod (n + 1):=zau _ (by omega);refine zgv ?_;refine zl5 ?_;simp only [seval,zsh,hw1,hw2,hw3,hn0];refine zgX ?_;exact zao hk
theorem f125_c {lo hi : Int} (hT : TinAt Gf t N) (hτ : τ.Ok b) (hb : b < 2 ^ 60) (hlo : 0 <= lo /\ lo < 2 ^ 20) (hhi : -1 <= hi /\ hi < 2 ^ 20) (hk : k (iv (zmy τ lo hi)) (Gf (tick τ))) : FnC lv Tryz.prog 125 (Gf τ) [.op t 0,iv lo,iv hi] k kp:=by
 refine zhQ (rs:=[.tmp 6]) (nt:=14) Tryz.f125 fun hH hA => ?_;simp only [zlx,Nat.reduceAdd];have hw1 : IntKind.i64.wrap (hi - lo) = hi - lo:=zau _ (by omega);have hr:=zaX τ (hi - lo);have hw2 : IntKind.i64.wrap (lo + zmz τ (hi - lo)) = lo + zmz τ (hi - lo):=zau _ (by omega);refine zfK ?_;refine zl5 ?_;simp only [seval,hw1];refine zl6 ((f29_c hT hτ hb (by omega) ?_));(try simp only [seval,hw2]);refine zgX ?_;exact zao hk
theorem f44_c {n : Int} (hT : TinAt Gf t N) (hτ : τ.Ok b) (hb : b < 2 ^ 60) (hn : 0 <= n /\ n < 2 ^ 20) (hk : k (bv (znj τ n)) (Gf (tick τ))) : FnC lv Tryz.prog 44 (Gf τ) [.op t 0,iv n] k kp:=by
 refine zhQ (rs:=[.tmp 4]) (nt:=10) Tryz.f44 fun hH hA => ?_;simp only [zlx,Nat.reduceAdd];have hw1 : IntKind.i64.wrap (n - 1) = n - 1:=zau _ (by omega);refine zfK ?_;refine zl5 ?_;simp only [seval,hw1];refine zl6 ((f29_c hT hτ hb (by omega) ?_));(try simp only [seval]);refine zgX ?_;exact zao hk
theorem f126_c {lo hi : Int} (hT : TinAt Gf t N) (hτ : τ.Ok b) (hb : b < 2 ^ 50) (hlo : 0 <= lo /\ lo <= hi) (hhi : hi < 2 ^ 20) (hk : k (znl τ lo hi).av (Gf (tick (tick τ)))) : FnC lv Tryz.prog 126 (Gf τ) [.op t 0,iv lo,iv hi] k kp:=by
 refine zhQ (rs:=[.cell 6 63]) (nt:=18) Tryz.f126 fun hH hA => ?_;simp only [zlx,Nat.reduceAdd];have hr:=za1 τ hlo.2;refine zl5 ?_;simp only [seval,hT.an];refine zl5 ?_;simp only [seval,hT.an];refine zl6 ((f125_c (hT.more _) hτ (by omega) (by omega) (by omega) ?_));(try simp only [seval,hT.an]);refine zl5 ?_;simp only [seval,hT.an];refine zl6 ((f125_c (hT.more _) hτ.tick (by omega) (by omega) (by omega) ?_));(try simp only [seval,hT.an]);refine znm ?_;simp only [seval,hT.an];rw [<- hT.len (tick (tick τ))];exact endA (b:=(znl τ lo hi).av) (hT.hok hH _) (Wk.refl _) (by simp [zap,zfa,Band.av,Band.l,iv]) hk
end
theorem zfA {xs : List Int} {i : Nat} {x : Int} (f : Int -> AV) (h : xs[i]? = some x) : (xs.take (i + 1)).map f = (xs.take i).map f ++ [f x]:=by
 obtain ⟨hj,rfl⟩:=List.getElem?_eq_some_iff.1 h;rw [List.take_succ_eq_append_getElem hj,List.map_append]; rfl
theorem zgb {xs ys : List Int} {i : Nat} {x y : Int} (hx : xs[i]? = some x) (hy : ys[i]? = some y) (h : xs.take i = ys.take i) (e : x = y) : xs.take (i + 1) = ys.take (i + 1):=by
 obtain ⟨hj,rfl⟩:=List.getElem?_eq_some_iff.1 hx;obtain ⟨hk,rfl⟩:=List.getElem?_eq_some_iff.1 hy;rw [List.take_succ_eq_append_getElem hj,List.take_succ_eq_append_getElem hk,h,e]
section
variable {lv : Bool} {H : List AObj} {k kp : AV -> List AObj -> Prop}
theorem f34_c {xs ys : List Int} {e e' : End} (hx : xs.length < 2 ^ 60) (hk : k (bv (decide (xs = ys))) H) : FnC lv Tryz.prog 34 H [.sl xs.length (xs.map iv) e,.sl ys.length (ys.map iv) e'] k kp:=by
 refine zhQ (rs:=[.tmp 4]) (nt:=26) Tryz.f34 fun hH hA => ?_;simp only [zlx,Nat.reduceAdd];refine zfK ?_;refine zfK ?_;refine zf9 ?_;refine ⟨fun h => ?_,fun h => ?_⟩
 ·have h : xs ≠ ys:=fun e => by subst e; simp at h
  refine zfK ?_;refine zgX ?_;rw [decide_eq_false h] at hk;exact zao hk
 ·have h : xs.length = ys.length:=by
   have h : (xs.length : Int) = ys.length:=(by simpa using h);omega
  refine zgv ?_;refine zfK ?_;refine zhC ?_;refine zlI xs.length (fun i : Nat => [(5,iv i)]) (fun _ => _) (fun i => xs.take i = ys.take i) (by simp) (fun hHs hLt i hin hi R hR => ?_);refine zfK ?_;refine zf9 ?_;refine ⟨fun h2 => ?_,fun h2 => ?_⟩
  ·have hlt : i < xs.length:=(by omega);obtain ⟨x,hx1⟩:=zaE hlt;obtain ⟨y,hy1⟩:=zaE (xs:=ys) (i:=i) (by omega);refine zgv ?_;refine zhC ?_;refine zlw 8 ?_;simp only [seval,za2 hx1,za2 hy1,zaz hlt,zaz (get_lt hy1)];refine zf9 ?_;refine ⟨fun h3 => ?_,fun h3 => ?_⟩
   ·have h3 : xs ≠ ys:=fun e => (by subst e; rw [hx1] at hy1; cases hy1; simp at h3);refine zfK ?_;refine zgX ?_;rw [decide_eq_false h3] at hk;exact zao hk
   ·have h3 : x = y:=(by simpa using h3);refine zgv ?_;refine zfK ?_;refine hR _ ⟨hlt,zgb hx1 hy1 hi h3,?_⟩;rw [zau _ (by omega)];exact zli
  ·have hix : i = xs.length:=(by omega);refine zkY ?_;refine zfK ?_;refine zgX ?_;have h3 : xs = ys:=by
    rw [hix,List.take_length] at hi;rw [hi,h,List.take_length]
   rw [decide_eq_true h3] at hk;exact zao hk
theorem f78_c {xs : List Int} {n : Int} (hb : ∀ x ∈ xs,0 <= x /\ x <= 3) (hn : 0 <= n /\ n <= 3) (hl : xs.length <= 2 ^ 20) (hk : k (aInts (zlJ n xs)) H) : FnC lv Tryz.prog 78 H [aInts xs,iv n] k kp:=by
 refine zhQ (rs:=[.tmp 4]) (nt:=24) Tryz.f78 fun hH hA => ?_;simp only [zlx,Nat.reduceAdd,aInts];refine zfK ?_;refine zfK ?_
 (repeat apply zaa); refine zbV (t:=5) (sz:=1) (el:=3) (by simp only [seval] <;> rfl) ?_
 refine zfK ?_;refine zhC ?_;refine zaB xs.length (fun i : Nat => [(5,.sl i ((zlJ n (xs.take i)).map iv) (.opn H.length)),(6,iv i)]) (fun i => H ++ [.tail i 1 3]) (fun i => True) (fun _ _ => rfl) (by simp only [seval]; simp [zaf,Wk.refl]; exact Wk.refl _) rfl (fun _ _ _ => by simp) trivial (fun hHs hLt i hin hi R hR => ?_);refine zfK ?_;refine zf9 ?_;refine ⟨fun h => ?_,fun h => ?_⟩
 ·have hlt : i < xs.length:=by omega
  obtain ⟨x,hx⟩:=zaE hlt;have hxb:=hb x (zas hx);have hw : IntKind.i64.wrap (x - n) = x - n:=zau _ (by omega);have hw2 : IntKind.i64.wrap ((i : Int) + 1) = i + 1:=zau _ (by omega);have hmax : (if 0 < x - n then x - n else 0) = max 0 (x - n):=by omega
  have hwl : ((zlJ n (xs.take i)).map iv).length = i:=by simp [zlJ]; omega
  have hnext : (zlJ n (xs.take (i + 1))).map iv = (zlJ n (xs.take i)).map iv ++ [.val (.int .i64 (max 0 (x - n)))]:=by
   unfold zlJ;rw [List.map_map,zfA _ hx,List.map_map]; rfl
  refine zgv ?_;refine zl5 ?_;simp only [seval,z1,za2 hx,zaz hlt,hw,hmax,hwl]
  first | refine ⟨by omega,by omega,?_⟩ | refine ⟨by omega,?_⟩
  refine zl5 ?_;simp only [seval,hw2];refine hR _ ⟨hlt,trivial,?_⟩;rw [hnext];exact zli
 ·have hix : i = xs.length:=by omega
  subst hix;refine zkY ?_;refine zfK ?_;refine zgX ?_;rw [List.take_length];have hwl : (zlJ n xs).length = xs.length:=by simp [zlJ]
  rw [aInts,hwl] at hk;exact endA hH (zaK _ _ _) (by simp [za3,zap]) hk
theorem f64_c {ds : List Int} {bs : List Band} (hlen : ds.length <= bs.length) (hsz : ds.length < 2 ^ 60) (hk : k (bv (zmg ds bs)) H) : FnC lv Tryz.prog 64 H [aInts ds,aBands bs] k kp:=by
 refine zhQ (rs:=[.tmp 4]) (nt:=34) Tryz.f64 fun hH hA => ?_;simp only [zlx,Nat.reduceAdd,aInts,aBands];refine zfK ?_;refine zfK ?_;refine zhC ?_;refine zlI ds.length (fun i : Nat => [(5,iv i)]) (fun _ => _) (fun i => zmg ds bs = zmg (ds.drop i) (bs.drop i)) rfl (fun hHs hLt i hin hi R hR => ?_);refine zfK ?_;refine zf9 ?_;refine ⟨fun h => ?_,fun h => ?_⟩
 ·have hlt : i < ds.length:=by omega
  obtain ⟨d,hd⟩:=zaE hlt;obtain ⟨b,hb⟩:=zaE (xs:=bs) (i:=i) (by omega);refine zgv ?_;refine zhC ?_;refine zlw 20 ?_;simp only [seval,za2 hd,zdh hb,zaz hlt,zaz (get_lt hb)];refine znS (fun h2 => ?_) (fun h2 => ?_)
  ·have h2 : b.min <= d:=(by simpa using h2);(try simp only [seval,za2 hd,zdh hb,zaz hlt,zaz (get_lt hb)]);refine zf9 ?_;refine ⟨fun h3 => ?_,fun h3 => ?_⟩
   ·have h3 : ¬ d <= b.max:=(by simpa using h3);refine zfK ?_;refine zgX ?_;rw [hi,zcK hd hb,decide_eq_false h3,Bool.and_false,Bool.false_and] at hk;exact zao hk
   ·have h3 : d <= b.max:=(by simpa using h3);refine zgv ?_;refine zfK ?_;refine hR _ ⟨hlt,?_,?_⟩
    ·rw [hi,zcK hd hb,decide_eq_true h2,decide_eq_true h3]; rfl
    ·rw [zau _ (by omega)];exact zli
  ·have h2 : ¬ b.min <= d:=(by simpa using h2);(try simp only [seval,za2 hd,zdh hb,zaz hlt,zaz (get_lt hb)]);refine zf9 ?_;refine zfK ?_;refine zgX ?_;rw [hi,zcK hd hb,decide_eq_false h2,Bool.false_and,Bool.false_and] at hk;exact zao hk
 ·have hix : i = ds.length:=by omega
  subst hix;refine zkY ?_;refine zfK ?_;refine zgX ?_;rw [hi,List.drop_length,zmg] at hk;exact zao hk
inductive Wks : List AV -> List AV -> Prop
 | nil : Wks [] []
 | cons {a b : AV} {l m : List AV} (h : Wk a b) (t : Wks l m) : Wks (a :: l) (b :: m)
theorem Wks.len {l m : List AV} (h : Wks l m) : l.length = m.length:=by
 induction h with
 | nil => rfl
 | cons _ _ ih => simp [ih]
theorem Wks.at {l m : List AV} (h : Wks l m) : ∀ (i : Nat) (a b : AV),m[i]? = some a -> l[i]? = some b -> Wk b a:=by
 induction h with
 | nil => intro i a b h; simp at h
 | cons h _ ih =>
  intro i a b h1 h2
  match i with
  | 0 => cases h1; cases h2; exact h
  | i + 1 => exact ih i a b h1 h2
theorem zhX {l l' : List AV} (h : Wks l l') : Wk (.agg l) (.agg l'):=fun E v hd => by
 cases hd with
 | agg hs h1 =>
  refine .agg (by rw [hs,h.len]) fun i x hx => ?_;obtain ⟨y,hy⟩:=zaE (xs:=l) (i:=i) (by rw [h.len]; exact get_lt hx);exact h.at i x y hx hy E _ (h1 i y hy)
theorem zqE {n : Nat} {l l' : List AV} {e : End} (h : Wks l l') : Wk (.sl n l e) (.sl n l' .shut):=zhW (zeg h.len h.at) (zaK _ _ _)
theorem zr2 : zlU (Value.int .i64 0) 2 = [iv 0,iv 0]:=rfl
theorem zr3 : zlU (Value.int .i64 0) 3 = [iv 0,iv 0,iv 0]:=rfl
theorem zk3 : zlU (.agg #[.slice none 0 0,.int .i64 0,.int .i64 0]) 3 = [.sl 0 [] .exact,iv 0,iv 0]:=rfl
theorem zk9 : zlU (.agg #[.slice none 0 0,.int .i64 0,.int .i64 0]) 9 = [.sl 0 [] .exact,iv 0,iv 0,.sl 0 [] .exact,iv 0,iv 0,.sl 0 [] .exact,iv 0,iv 0]:=rfl
theorem zb2 : zlU (.agg #[.int .i64 0,.int .i64 0]) 2 = [iv 0,iv 0]:=rfl
theorem zb4 : zlU (.agg #[.int .i64 0,.int .i64 0]) 4 = [iv 0,iv 0,iv 0,iv 0]:=rfl
theorem zs3 : zlU (Value.slice none 0 0) 3 = [.sl 0 [] .exact,.sl 0 [] .exact,.sl 0 [] .exact]:=rfl
theorem zt3 : zlU (.agg #[.int .i64 0,.int .i64 0,.bool false]) 3 = [iv 0,iv 0,bv false]:=rfl
theorem zu2 : zlU (.agg #[.int .i64 0,.bool false]) 2 = [iv 0,bv false]:=rfl
theorem zty : (4 <= 2 ^ 24) = True:=by simp
theorem p24_9 : (9 <= 2 ^ 24) = True:=by simp
theorem zhq : (1 <= 2 ^ 24) = True:=by simp
theorem zes : (2 <= 2 ^ 24) = True:=by simp
theorem zd5 : (3 <= 2 ^ 24) = True:=by simp
theorem p24_0 : (0 <= 2 ^ 24) = True:=by simp
theorem zkE (x : List Int) : (aInts x).leaf = true:=rfl
theorem zfd (x : List Band) : (aBands x).leaf = true:=rfl
theorem zkC (x : List Key) : (zmd x).leaf = true:=rfl
theorem zjd (x : List (List Band)) : (zlO x).leaf = true:=rfl
theorem zjc (x : List Try) : (zlT x).leaf = true:=rfl
attribute [seval] zkE zfd zkC zjd zjc
theorem zfC (n : Nat) (x : Ring) : Lt n x.av = True:=by simp [Ring.av,Ring.l,zfa,zc5,zci,zch,zap,iv]
theorem f81_c {lo hi : Int} (hk : k (Band.mk lo hi).av H) : FnC lv Tryz.prog 81 H [iv lo,iv hi] k kp:=by
 refine zhQ (rs:=[.cell 4 63]) (nt:=8) Tryz.f81 fun hH hA => ?_;simp only [zlx,Nat.reduceAdd];refine zfK ?_;refine zfK ?_;refine zgX ?_;exact endA (b:=(Band.mk lo hi).av) hH (Wk.refl _) (by simp [zap,zfa,Band.av,Band.l,iv]) hk
theorem f149_c {lo hi : Int} {xs : List Int} {e : End} (hk : k (Key.mk xs ⟨lo,hi⟩).av H) : FnC lv Tryz.prog 149 H [iv lo,iv hi,.sl xs.length (xs.map iv) e] k kp:=by
 refine zhQ (rs:=[.cell 6 65]) (nt:=12) Tryz.f149 fun hH hA => ?_;simp only [zlx,Nat.reduceAdd];refine zfK ?_;refine zfK ?_;refine zl6 ((f81_c ?_));(try simp only [seval,Band.av,Band.l]);refine zgX ?_;exact endA (b:=(Key.mk xs ⟨lo,hi⟩).av) hH (zhX (.cons (zaK _ _ _) (.cons (Wk.refl _) (.cons (Wk.refl _) .nil)))) (by simp [zap,zfa,Key.av,Key.l,iv,zbi]) hk
theorem f80_c {ts : List Try} {e : End} (hts : ts.length < 2 ^ 30) (hk : k (exR ts).av H) : FnC lv Tryz.prog 80 H [.sl ts.length (ts.flatMap Try.l) e] k kp:=by
 refine zhQ (rs:=[.cell 2 26]) (nt:=22) Tryz.f80 fun hH hA => ?_;simp only [zlx,Nat.reduceAdd];refine zfK ?_;refine zl5 ?_;simp only [seval,zr2,zes];refine zl6 ((f149_c (xs:=[3,1]) ?_));(try simp only [seval,Key.av,Key.l,zr2,zes]);refine zl6 ((f149_c (xs:=[2,2]) ?_));(try simp only [seval,Key.av,Key.l,zr2,zes]);refine zl6 ((f149_c (xs:=[1,3]) ?_));(try simp only [seval,Key.av,Key.l,zk9,p24_9]);refine zl6 ((f81_c ?_));(try simp only [seval,Band.av,Band.l]);refine zl6 ((f81_c ?_));(try simp only [seval,Band.av,Band.l,zb4,zty]);refine zl6 ((f81_c ?_));(try simp only [seval,Band.av,Band.l]);refine zl6 ((f81_c ?_));(try simp only [seval,Band.av,Band.l,zb4,zty]);refine zl6 ((f81_c ?_));(try simp only [seval,Band.av,Band.l]);refine zl6 ((f81_c ?_));(try simp only [seval,Band.av,Band.l,zb4,zs3,zty,zd5]);refine zgX ?_;exact endA (b:=(exR ts).av) hH (zhX (.cons (Wk.refl _) (.cons (zaK _ _ _) (.cons (zqE (.cons (zaK _ _ _) (.cons (zaK _ _ _) (.cons (zaK _ _ _) .nil)))) (.cons (zaK _ _ _) .nil))))) (by rw [zfC]; trivial) hk
theorem f82_c (hk : k exLast.av H) : FnC lv Tryz.prog 82 H [] k kp:=by
 refine zhQ (rs:=[.cell 0 28]) (nt:=2) Tryz.f82 fun hH hA => ?_;simp only [zlx,Nat.reduceAdd];refine zfK ?_;refine zfK ?_;refine zgX ?_;exact endA (b:=exLast.av) hH (Wk.refl _) (by simp [zap,zfa,Try.av,Try.l,exLast,iv,bv]) hk
theorem f83_c (hk : k exNever.av H) : FnC lv Tryz.prog 83 H [] k kp:=by
 refine zhQ (rs:=[.cell 0 28]) (nt:=2) Tryz.f83 fun hH hA => ?_;simp only [zlx,Nat.reduceAdd];refine zfK ?_;refine zfK ?_;refine zgX ?_;exact endA (b:=exNever.av) hH (Wk.refl _) (by simp [zap,zfa,Try.av,Try.l,exNever,iv,bv]) hk
theorem f34_same {xs : List Int} {e e' : End} (hx : xs.length < 2 ^ 60) (hk : k (bv true) H) : FnC lv Tryz.prog 34 H [.sl xs.length (xs.map iv) e,.sl xs.length (xs.map iv) e'] k kp :=
 f34_c hx (by rw [decide_eq_true rfl]; exact hk)
theorem f84_c (hk : k exOne.av H) : FnC lv Tryz.prog 84 H [] k kp:=by
 refine zhQ (rs:=[.cell 0 26]) (nt:=8) Tryz.f84 fun hH hA => ?_;simp only [zlx,Nat.reduceAdd];refine zfK ?_;refine zfK ?_;refine zl6 ((f80_c (ts:=[]) (by decide) ?_));(try simp only [seval,Ring.av,Ring.l,exR]);refine zl5 ?_;simp only [seval,zmd,List.flatMap_cons,List.flatMap_nil,Key.l,Bool.false_and,ite_self];refine zfK ?_;refine zgX ?_;exact endA (b:=exOne.av) hH (Wk.refl _) (by rw [zfC]; trivial) hk
end
def zn7 (sm : Bool) (p : List Band × TinS) (d : Int) : List Band × TinS :=
 if sm then (p.1 ++ [⟨zmz (tick (tick p.2)) d,zmy (tick (tick (tick p.2))) d 3⟩],tick (tick (tick (tick p.2)))) else (p.1 ++ [znl p.2 0 3],tick (tick p.2))
def zmF (sm : Bool) (τ : TinS) (ds : List Int) (i : Nat) : List Band × TinS:=(ds.take i).foldl (zn7 sm) ([],τ)
def zn4 (sm : Bool) (τ : TinS) (ds : List Int) : List Band × TinS:=ds.foldl (zn7 sm) ([],τ)
theorem zez {sm : Bool} {τ : TinS} {ds : List Int} {i : Nat} {d : Int} (h : ds[i]? = some d) : zmF sm τ ds (i + 1) = zn7 sm (zmF sm τ ds i) d:=by
 obtain ⟨hj,rfl⟩:=List.getElem?_eq_some_iff.1 h;unfold zmF;rw [List.take_succ_eq_append_getElem hj,List.foldl_append]; rfl
theorem zcw {sm : Bool} {τ : TinS} {ds : List Int} {b : Int} (hτ : τ.Ok b) (hds : ∀ d ∈ ds,0 <= d /\ d <= 3) : ∀ i,i <= ds.length -> (zmF sm τ ds i).1.length = i /\ (zmF sm τ ds i).2.Ok (b + 4 * i) /\ ∀ y ∈ (zmF sm τ ds i).1,y.Ok 3
 | 0,_ => ⟨rfl,by have:=hτ.mono (b':=b + 4 * (0 : Nat)) (by omega); exact this,by simp [zmF]⟩
 | i + 1,h => by
  obtain ⟨d,hd⟩:=zaE (xs:=ds) (i:=i) (by omega);obtain ⟨h1,h2,h3⟩:=zcw (sm:=sm) hτ hds i (by omega);obtain ⟨hd0,hd3⟩:=hds d (zas hd);rw [zez hd];unfold zn7;cases sm with
  | true =>
   simp only [if_true];refine ⟨by simp [h1],h2.tick.tick.tick.tick.mono (by omega),fun y hy => ?_⟩;rcases List.mem_append.1 hy with hy | hy
   ·exact h3 y hy
   ·rw [List.mem_singleton.1 hy];have e1:=zaX (tick (tick (zmF true τ ds i).2)) d;have e2:=za1 (tick (tick (tick (zmF true τ ds i).2))) hd3;exact ⟨e1.1,e2.2,by show zmz _ d <= zmy _ d 3; omega⟩
  | false =>
   simp only [Bool.false_eq_true,if_false];refine ⟨by simp [h1],h2.tick.tick.mono (by omega),fun y hy => ?_⟩;rcases List.mem_append.1 hy with hy | hy
   ·exact h3 y hy
   ·rw [List.mem_singleton.1 hy];have e:=zir (zmF false τ ds i).2 (show (0 : Int) <= 3 by decide);exact ⟨e.1,e.2.2,e.2.1⟩
theorem zld (bs : List Band) : (bs.flatMap Band.l).length = bs.length * 2:=by
 induction bs with
 | nil => rfl
 | cons b bs ih => rw [List.flatMap_cons,List.length_append,ih]; simp [Band.l]; omega
theorem zgH (bs : List Band) (b : Band) : (bs ++ [b]).flatMap Band.l = bs.flatMap Band.l ++ [iv b.min,iv b.max]:=by simp [Band.l]
theorem zkv (n m k : Nat) (bs : List Band) : Lt n (.sl m (bs.flatMap Band.l) (.opn k)) = (k < n):=by
 rw [zdq,eq_iff_iff];refine ⟨fun h => h.1,fun h => ⟨h,fun a ha => ?_⟩⟩;have:=zfD n bs;rw [aBands,za3] at this;exact this.mpr trivial a ha
section
variable {lv : Bool} {k kp : AV -> List AObj -> Prop} {Gf : TinS -> List AObj} {t N : Nat} {τ : TinS} {b : Int}
theorem f127_c {ds : List Int} {sm : Bool} (hT : TinAt Gf t N) (hτ : τ.Ok b) (hb : b < 2 ^ 40) (hds : ∀ d ∈ ds,0 <= d /\ d <= 3) (hl : ds.length <= 4) (hk : k (aBands (zn4 sm τ ds).1) (Gf (zn4 sm τ ds).2)) : FnC lv Tryz.prog 127 (Gf τ) [.op t 0,aInts ds,bv sm] k kp:=by
 refine zhQ (rs:=[.tmp 6]) (nt:=37) Tryz.f127 fun hH hA => ?_;simp only [zlx,Nat.reduceAdd,aInts];have hokT : ∀ τ' n,HOk (Gf τ' ++ [.tail n 2 63]):=fun τ' n => zc6 (hT.hok hH τ') fun z hz m => by rw [List.mem_singleton.1 hz]; trivial
 refine zfK ?_;refine zfK ?_
 (repeat apply zaa); refine zbV (t:=7) (sz:=2) (el:=63) (by simp only [seval] <;> rfl) ?_
 refine zl5 ?_;simp only [seval,hT.an];refine zhC ?_;refine zaB ds.length (fun i : Nat => [(7,.sl i ((zmF sm τ ds i).1.flatMap Band.l) (.opn N)),(8,iv i)]) (fun i => Gf (zmF sm τ ds i).2 ++ [.tail i 2 63]) (fun i => True) (fun _ _ => rfl) (by simp only [seval]; simp [zaf,Wk.refl]; exact Wk.refl _) rfl (fun _ _ _ => by simp [hT.len]) trivial (fun hHs hLt i hin hi R hR => ?_);obtain ⟨hpl,hpo,hpb⟩:=zcw (sm:=sm) hτ hds i hin;refine zfK ?_;refine zf9 ?_;refine ⟨fun h => ?_,fun h => ?_⟩
 ·have hlt : i < ds.length:=by omega
  obtain ⟨d,hd⟩:=zaE hlt;obtain ⟨hd0,hd3⟩:=hds d (zas hd);have hsucc:=zez (sm:=sm) (τ:=τ) hd;have hw2 : IntKind.i64.wrap ((i : Int) + 1) = i + 1:=zau _ (by omega);generalize zmF sm τ ds i = p at *;obtain ⟨bs,τ'⟩:=p;simp only at hpl hpo hpb;have hbl : (bs.flatMap Band.l).length = i * 2:=by rw [zld,hpl]
  refine zgv ?_;refine zl5 ?_;simp only [seval,hT.an];refine zl6 ((f126_c (hT.more _) hpo (by omega) (by omega) (by omega) ?_));(try simp only [seval,Band.av,Band.l,hT.an]);refine zl5 ?_;simp only [seval,hT.an];refine zf9 ?_;refine ⟨fun h2 => ?_,fun h2 => ?_⟩
  ·subst h2;refine zmo [5,11,13] [0,1,2,3,4,5,6,7,8,9,10,11,12,13] [⟨0,false,[],[]⟩,⟨1,false,[],[]⟩,⟨2,false,[],[]⟩,⟨3,false,[],[]⟩,⟨4,false,[],[]⟩,⟨5,true,[5],[]⟩,⟨6,false,[5],[([],[])]⟩,⟨7,false,[5],[([],[])]⟩,⟨8,false,[5],[([],[])]⟩,⟨9,false,[5],[([],[])]⟩,⟨10,false,[5],[([],[])]⟩,⟨11,true,[5,11],[]⟩,⟨12,false,[5,11],[]⟩,⟨13,true,[5,11,13],[]⟩] (fun D => bif zl9 13 D then Gf (tick (tick (tick (tick τ')))) ++ [.tail i 2 63,.cells [iv (zmz (tick (tick τ')) d),iv (zmy (tick (tick (tick τ'))) d 3)] 63] else bif zl9 11 D then Gf (tick (tick (tick (tick τ')))) ++ [.tail i 2 63,.cells [iv (znl τ' 0 3).min,iv (znl τ' 0 3).max] 63] else bif zl9 5 D then Gf (tick (tick (tick τ'))) ++ [.tail i 2 63,.cells [iv (znl τ' 0 3).min,iv (znl τ' 0 3).max] 63] else Gf (tick (tick τ')) ++ [.tail i 2 63,.cells [iv (znl τ' 0 3).min,iv (znl τ' 0 3).max] 63]) ?_;simp only [seval,za2 hd,zaz hlt,hT.an];refine zoy (iv (zmz (tick (tick τ')) d)) (Gf (tick (tick (tick τ'))) ++ [.tail i 2 63,.cells [iv (znl τ' 0 3).min,iv (znl τ' 0 3).max] 63]) (zlH (f29_c (hT.more _) hpo.tick.tick (by omega) (by omega) ⟨rfl,rfl⟩)) ?_;(try simp only [seval,za2 hd,zaz hlt,hT.an]);refine zoy (iv (zmy (tick (tick (tick τ'))) d 3)) (Gf (tick (tick (tick (tick τ')))) ++ [.tail i 2 63,.cells [iv (znl τ' 0 3).min,iv (znl τ' 0 3).max] 63]) (zlH (f125_c (hT.more _) hpo.tick.tick.tick (by omega) (by omega) (by omega) ⟨rfl,rfl⟩)) ?_;(try simp only [seval,za2 hd,zaz hlt,hT.an]);have hlk : zmF true τ ds (i + 1) = (bs ++ [⟨zmz (tick (tick τ')) d,zmy (tick (tick (tick τ'))) d 3⟩],tick (tick (tick (tick τ')))):=(by rw [hsucc]; rfl);refine zl5 ?_;simp only [seval,zb2,zes,hbl,hT.an];refine ⟨by omega,?_⟩;refine zl5 ?_;simp only [seval,hw2];refine hR _ ⟨hlt,trivial,?_⟩;rw [hlk];refine zat (zam rfl rfl) (by rw [zgH]; simp only [seval]; simp [zaf,Wk.refl]) (hokT _ _) (by simp only [List.forall_mem_cons,zap,zkv,iv]; simp [hT.len])
  ·have h2 : sm = false:=(by simpa using h2);subst h2;refine zgv ?_;have hlk : zmF false τ ds (i + 1) = (bs ++ [znl τ' 0 3],tick (tick τ')):=(by rw [hsucc]; rfl);refine zl5 ?_;simp only [seval,zb2,zes,hbl,hT.an];refine ⟨by omega,?_⟩;refine zl5 ?_;simp only [seval,hw2];refine hR _ ⟨hlt,trivial,?_⟩;rw [hlk];refine zat (zam rfl rfl) (by rw [zgH]; simp only [seval]; simp [zaf,Wk.refl]) (hokT _ _) (by simp only [List.forall_mem_cons,zap,zkv,iv]; simp [hT.len])
 ·have hix : i = ds.length:=by omega
  subst hix;refine zkY ?_;refine zfK ?_;refine zgX ?_;have e : zmF sm τ ds ds.length = zn4 sm τ ds:=by unfold zmF zn4; rw [List.take_length]
  rw [e] at hpl ⊢;rw [aBands,hpl] at hk;rw [<- hT.len (zn4 sm τ ds).2];exact endA (hT.hok hH _) (zaK _ _ _) (by rw [<- hpl,<- aBands.eq_1,zfD]; trivial) hk
end
section
variable {Gf : TinS -> List AObj} {t N : Nat} (h : TinAt Gf t N)
include h
theorem TinAt.hi (i : Nat) (τ : TinS) (L : List AObj) : (Gf τ ++ L)[N + i]? = L[i]?:=by have:=zco (Gf τ) L i; rwa [h.len] at this
theorem TinAt.ti (i : Nat) (τ : TinS) (L : List AObj) (x : AObj) : (Gf τ ++ L).set (N + i) x = Gf τ ++ L.set i x:=by have:=zbR (Gf τ) L i x; rwa [h.len] at this
theorem TinAt.h4 : type_of% (h.hi 4):=h.hi 4
theorem TinAt.h5 : type_of% (h.hi 5):=h.hi 5
theorem TinAt.h6 : type_of% (h.hi 6):=h.hi 6
theorem TinAt.h7 : type_of% (h.hi 7):=h.hi 7
theorem TinAt.h8 : type_of% (h.hi 8):=h.hi 8
theorem TinAt.t4 : type_of% (h.ti 4):=h.ti 4
theorem TinAt.t5 : type_of% (h.ti 5):=h.ti 5
theorem TinAt.t6 : type_of% (h.ti 6):=h.ti 6
theorem TinAt.t7 : type_of% (h.ti 7):=h.ti 7
theorem TinAt.t8 : type_of% (h.ti 8):=h.ti 8
end
theorem TinAt.am {Gf : TinS -> List AObj} {t N : Nat} (h : TinAt Gf t N) : (type_of% h.len) /\ (type_of% h.g0) /\ (type_of% h.g1) /\ (type_of% h.h2) /\ (type_of% h.h3) /\ (type_of% h.h4) /\ (type_of% h.h5) /\ (type_of% h.h6) /\ (type_of% h.h7) /\ (type_of% h.h8) /\ (type_of% h.s0) /\ (type_of% h.s1) /\ (type_of% h.t2) /\ (type_of% h.t3) /\ (type_of% h.t4) /\ (type_of% h.t5) /\ (type_of% h.t6) /\ (type_of% h.t7) /\ (type_of% h.t8):=⟨h.len,h.g0,h.g1,h.h2,h.h3,h.h4,h.h5,h.h6,h.h7,h.h8,h.s0,h.s1,h.t2,h.t3,h.t4,h.t5,h.t6,h.t7,h.t8⟩
theorem zho (bs : List Band) : (aBands bs).parts = some [aBands bs]:=rfl
structure KeysP (c : Int) (ks : List Key) (ws : List Int) : Prop where
 len : ws.length = ks.length
 key : ∀ y ∈ ks,(y.cuts.length : Int) = c /\ (∀ n ∈ y.cuts,0 <= n /\ n <= 3) /\ y.wear.Ok 2
 worn : ∀ (i : Nat) y w,ks[i]? = some y -> ws[i]? = some w -> y.wear.min <= w /\ w <= y.wear.max
theorem KeysP.snoc {c : Int} {ks : List Key} {ws : List Int} (h : KeysP c ks ws) {y : Key} {w : Int} (hc : (y.cuts.length : Int) = c) (hn : ∀ n ∈ y.cuts,0 <= n /\ n <= 3) (hb : y.wear.Ok 2) (hw : y.wear.min <= w /\ w <= y.wear.max) : KeysP c (ks ++ [y]) (ws ++ [w]) where
 len:=by simp [h.len]
 key:=fun z hz => by
  rcases List.mem_append.1 hz with hz | hz
  ·exact h.key z hz
  ·rw [List.mem_singleton.1 hz]; exact ⟨hc,hn,hb⟩
 worn:=fun i z v h1 h2 => by
  by_cases hi : i < ks.length
  ·rw [List.getElem?_append_left hi] at h1;rw [List.getElem?_append_left (by rw [h.len]; exact hi)] at h2;exact h.worn i z v h1 h2
  ·have hi2 : i = ks.length:=(by have:=get_lt h1; simp at this; omega);subst hi2;rw [List.getElem?_append_right (Nat.le_refl _)] at h1;rw [<- h.len,List.getElem?_append_right (Nat.le_refl _)] at h2;simp at h1 h2;subst h1 h2;exact hw
def zoY (ks : List Key) (ws : List Int) (ls : List (List Band)) (k l : Int) : Bool:=zmg (zlJ (ws.getD k.toNat 0) ((ks[k.toNat]?).map (·.cuts) |>.getD [])) (ls.getD l.toNat [])
structure RingP (K L T : Nat) (wr : Bool) (x : Ring) (ws : List Int) : Prop where
 cuts : 1 <= x.cuts /\ x.cuts <= 3
 keys : 1 <= x.keys.length /\ x.keys.length <= K
 kp : KeysP x.cuts x.keys ws
 locks : x.locks.length <= L
 lock : ∀ l ∈ x.locks,(l.length : Int) = x.cuts /\ ∀ b ∈ l,b.Ok 3
 tries : x.tries.length <= T
 tried : ∀ t ∈ x.tries,(0 <= t.key /\ t.key < x.keys.length) /\ 0 <= t.lock /\ t.lock < x.locks.length
 told : wr = false -> ∀ t ∈ x.tries,t.opens = zoY x.keys ws x.locks t.key t.lock
theorem zps (ks : List Key) : (ks.flatMap Key.l).length = ks.length * 3:=by
 induction ks with
 | nil => rfl
 | cons b bs ih => rw [List.flatMap_cons,List.length_append,ih]; simp [Key.l]; omega
theorem zf5 (ks : List Try) : (ks.flatMap Try.l).length = ks.length * 3:=by
 induction ks with
 | nil => rfl
 | cons b bs ih => rw [List.flatMap_cons,List.length_append,ih]; simp [Try.l]; omega
theorem ztI (n m k : Nat) (bs : List Key) : Lt n (.sl m (bs.flatMap Key.l) (.opn k)) = (k < n):=by
 rw [zdq,eq_iff_iff];refine ⟨fun h => h.1,fun h => ⟨h,fun a ha => ?_⟩⟩;have:=zc5 n bs;rw [zmd,za3] at this;exact this.mpr trivial a ha
theorem ztG (n m k : Nat) (bs : List Try) : Lt n (.sl m (bs.flatMap Try.l) (.opn k)) = (k < n):=by
 rw [zdq,eq_iff_iff];refine ⟨fun h => h.1,fun h => ⟨h,fun a ha => ?_⟩⟩;have:=zch n bs;rw [zlT,za3] at this;exact this.mpr trivial a ha
theorem ztH (n m k : Nat) (bs : List (List Band)) : Lt n (.sl m (bs.map aBands) (.opn k)) = (k < n):=by
 rw [zdq,eq_iff_iff];refine ⟨fun h => h.1,fun h => ⟨h,fun a ha => ?_⟩⟩;have:=zci n bs;rw [zlO,za3] at this;exact this.mpr trivial a ha
theorem ztJ (n m k : Nat) (bs : List Int) : Lt n (.sl m (bs.map iv) (.opn k)) = (k < n):=by
 rw [zdq,eq_iff_iff];refine ⟨fun h => h.1,fun h => ⟨h,fun a ha => ?_⟩⟩;have:=zbi n bs;rw [aInts,za3] at this;exact this.mpr trivial a ha
def roL (N : Nat) (c : Int) (ks : List Key) (ls : List (List Band)) (ts : List Try) : List AObj :=
 [.cells [iv 0,.sl 0 [] .exact,.sl 0 [] .exact,.sl 0 [] .exact] 26,.cells [iv c,.sl ks.length (ks.flatMap Key.l) (.opn (N + 2)),.sl ls.length (ls.map aBands) (.opn (N + 3)),.sl ts.length (ts.flatMap Try.l) (.opn (N + 4))] 26,.tail ks.length 3 65,.tail ls.length 1 29,.tail ts.length 3 28,.tail ks.length 1 3]
def roE (N : Nat) (c : Int) (ks : List Key) (ls : List (List Band)) (ts : List Try) : List AObj:=.cells [iv c,.sl ks.length (ks.flatMap Key.l) (.opn (N + 2)),.sl ls.length (ls.map aBands) (.opn (N + 3)),.sl ts.length (ts.flatMap Try.l) (.opn (N + 4))] 26 :: (roL N c ks ls ts).tail
def roK (N : Nat) (c : Int) (ks : List Key) (cs : List Int) : List AObj:=roL N c ks [] [] ++ [.cells [.sl cs.length (cs.map iv) (.opn (N + 7)),iv 0,iv 0] 65,.tail cs.length 1 3]
theorem zqS (N : Nat) (c : Int) (ks : List Key) (cs : List Int) (v : Int) : roK N c ks (cs ++ [v]) = roL N c ks [] [] ++ [.cells [.sl (cs.length + 1) (cs.map iv ++ [iv v]) (.opn (N + 7)),iv 0,iv 0] 65,.tail (cs.length + 1) 1 3]:=by simp [roK]
def roM (N : Nat) (c : Int) (nk : Nat) (kl : List AV) (n1 n2 : Nat) (cs : List Int) (bd : Band) : List AObj:=[.cells [iv 0,.sl 0 [] .exact,.sl 0 [] .exact,.sl 0 [] .exact] 26,.cells [iv c,.sl nk kl (.opn (N + 2)),.sl 0 [] (.opn (N + 3)),.sl 0 [] (.opn (N + 4))] 26,.tail n1 3 65,.tail 0 1 29,.tail 0 3 28,.tail n2 1 3,.cells [.sl cs.length (cs.map iv) .shut,iv bd.min,iv bd.max] 65,.tail cs.length 1 3]
def roP (N : Nat) (c : Int) (ks : List Key) (nl : Nat) (ll : List AV) (n1 : Nat) : List AObj:=[.cells [iv 0,.sl 0 [] .exact,.sl 0 [] .exact,.sl 0 [] .exact] 26,.cells [iv c,.sl ks.length (ks.flatMap Key.l) (.opn (N + 2)),.sl nl ll (.opn (N + 3)),.sl 0 [] (.opn (N + 4))] 26,.tail ks.length 3 65,.tail n1 1 29,.tail 0 3 28,.tail ks.length 1 3]
theorem zce {base Vi Vn T : List (Nat × AV)} {H H' : List AObj} (G : List AObj) (hk : Keeps T (Vi ++ base) Vn) (hv : ∀ p ∈ Vn,∃ b,look T p.1 = some b /\ Wk b p.2) (hok : HOk H) (hlt : ∀ p ∈ Vn,Lt H.length p.2) (hG : H' = H ++ G) : zmY base Vi Vn H ⟨T,H'⟩:=⟨hk,hv,G,hG,.inr ⟨hok,hlt⟩⟩
theorem zh9 {Gf : TinS -> List AObj} {t N : Nat} (h : TinAt Gf t N) {τ : TinS} (hH : HOk (Gf τ)) (τ' : TinS) (c : Int) (ks : List Key) (ls : List (List Band)) (ts : List Try) : HOk (Gf τ' ++ roL N c ks ls ts):=fun z hz => by
 rcases List.mem_append.1 hz with hz | hz
 ·exact (h.hok hH τ' z hz).mono (by simp)
 ·simp only [roL,List.mem_cons,List.not_mem_nil,or_false] at hz;have hl : (Gf τ' ++ roL N c ks ls ts).length = N + 6:=by simp [h.len,roL]
  rw [hl];rcases hz with rfl | rfl | rfl | rfl | rfl | rfl
  ·intro a ha; simp [iv] at ha; rcases ha with rfl | rfl <;> simp [zap,zbh]
  ·intro a ha;simp only [List.mem_cons,List.not_mem_nil,or_false] at ha;rcases ha with rfl | rfl | rfl | rfl
   ·exact .val _
   ·rw [ztI]; omega
   ·rw [ztH]; omega
   ·rw [ztG]; omega
  all_goals trivial
section
variable {lv : Bool} {k kp : AV -> List AObj -> Prop} {Gf : TinS -> List AObj} {t N : Nat} {τ : TinS} {b : Int}
set_option maxHeartbeats 2000000 in
theorem f49_g {K L T : Nat} {wr : Bool} (hT : TinAt Gf t N) (hτ : τ.Ok b) (hb : b < 2 ^ 30) (hK : 1 <= K /\ K <= 4) (hL : L <= 4) (hTn : T <= 6)
  (hk : ∀ x ws τ',RingP K L T wr x ws -> τ'.Ok (b + 1000) -> HOk (Gf τ') -> ws.length = x.keys.length -> zmu N (Gf τ' ++ roE N x.cuts x.keys x.locks x.tries) (.tup [.agg [iv x.cuts,.sl x.keys.length (x.keys.flatMap Key.l) (.opn (N + 2)),.sl x.locks.length (x.locks.map aBands) (.opn (N + 3)),.sl x.tries.length (x.tries.flatMap Try.l) (.opn (N + 4))],.sl x.keys.length (ws.map iv) (.opn (N + 5))]) k) : FnC lv Tryz.prog 49 (Gf τ) [.op t 0,iv K,iv L,iv T,bv wr] k kp:=by
 refine zhQ (rs:=[.cell 10 26,.tmp 11]) (nt:=162) Tryz.f49 fun hH hA => ?_;simp only [zlx,Nat.reduceAdd];refine zfK ?_;refine zl5 ?_;simp only [seval,hT.am];refine zl6 ((f125_c (hT.more _) hτ (by omega) (by omega) (by omega) ?_));try simp only [seval,hT.am]
 (repeat apply zaa); refine zdw (id:=N + 1) (j:=1) (sz:=3) (el':=65) (by simp only [seval,hT.am] <;> rfl) rfl ?_
 try simp only [seval,hT.am]
 (repeat apply zaa); refine zdw (id:=N + 1) (j:=2) (sz:=1) (el':=29) (by simp only [seval,hT.am] <;> rfl) rfl ?_
 try simp only [seval,hT.am]
 (repeat apply zaa); refine zdw (id:=N + 1) (j:=3) (sz:=3) (el':=28) (by simp only [seval,hT.am] <;> rfl) rfl ?_
 (try simp only [seval,hT.am]);refine zfK ?_
 (repeat apply zaa); refine zbV (t:=13) (sz:=1) (el:=3) (by simp only [seval] <;> rfl) ?_
 (try simp only [seval,hT.am]);have hc:=za1 τ (show (1 : Int) <= 3 by decide);generalize hcd : zmy τ 1 3 = c at hc ⊢;refine zl5 ?_;simp only [seval,hT.am];refine zl6 ((f125_c (hT.more _) hτ.tick (by omega) (by omega) (by omega) ?_));(try simp only [seval,hT.am]);have ht:=za1 (tick τ) (show (1 : Int) <= K by omega);generalize zmy (tick τ) 1 K = tot at ht;obtain ⟨tot,rfl⟩ : ∃ n : Nat,tot = n:=⟨tot.toNat,by omega⟩;refine zhC ?_;refine za9 (measure fun m : List Key × List Int × TinS => tot - m.1.length).wf (fun m => [(14,iv ((tot : Int) - m.1.length)),(13,.sl m.1.length (m.2.1.map iv) (.opn (N + 5)))]) (fun m => Gf m.2.2 ++ roL N c m.1 [] []) (fun m => KeysP c m.1 m.2.1 /\ m.1.length <= tot /\ m.2.2.Ok (b + 2 + 10 * m.1.length)) ([],[],tick (tick τ)) (fun _ _ => rfl) (by simp only [seval]; simp [zaf,Wk.refl]) rfl (fun _ _ => by simp [hT.len,roL]) ⟨⟨rfl,by simp,by simp⟩,by simp,hτ.tick.tick.mono (by simp only [List.length_nil]; omega)⟩ (fun hHs hLt m hok R hR => ?_);clear hHs hLt;obtain ⟨ks,ws,τ'⟩:=m;obtain ⟨hkp,hkt,hto⟩:=hok;simp only at hkp hkt hto;refine zl5 ?_;simp only [seval,roL,List.flatMap_nil,hT.am];refine zf9 ?_;refine ⟨fun h => ?_,fun h => ?_⟩
 ·have hlt : ks.length < tot:=by omega
  refine zgv ?_;refine zl5 ?_;simp only [seval,hT.am]
  (repeat apply zaa); refine zdw (id:=N + 6) (j:=0) (sz:=1) (el':=3) (by simp only [seval,hT.am] <;> rfl) rfl ?_
  (try simp only [seval,hT.am]);refine zl5 ?_;simp only [seval,hT.am];refine zhC ?_;refine za9 (measure fun m : List Int × TinS => c.toNat - m.1.length).wf (fun m => [(16,iv m.1.length)]) (fun m => Gf m.2 ++ roK N c ks m.1) (fun m => m.1.length <= c.toNat /\ (∀ n ∈ m.1,0 <= n /\ n <= 3) /\ m.2.Ok (b + 2 + 10 * ks.length + m.1.length)) ([],τ') (fun _ _ => rfl) (by simp only [seval]; simp [zaf,Wk.refl]) rfl (fun _ _ => by simp [hT.len,roK,roL]) ⟨by simp,by simp,hto.mono (by simp)⟩ (fun hHs2 hLt2 m2 hok2 R2 hR2 => ?_);clear hHs2 hLt2;obtain ⟨cs,τ''⟩:=m2;obtain ⟨hcl,hcb,hto2⟩:=hok2;simp only at hcl hcb hto2;refine zl5 ?_;simp only [seval,roK,roL,List.flatMap_nil,hT.am];refine zf9 ?_;refine ⟨fun h2 => ?_,fun h2 => ?_⟩
  ·have hw2 : IntKind.i64.wrap ((cs.length : Int) + 1) = cs.length + 1:=zau _ (by omega);have hv:=zaX τ'' 3;refine zgv ?_;refine zhC ?_;refine zmo [3,5,7] [0,1,2,3,4,5,6,7] [⟨0,false,[],[([3],[3])]⟩,⟨1,false,[],[([3],[3])]⟩,⟨2,false,[],[]⟩,⟨3,true,[3],[]⟩,⟨4,false,[3],[]⟩,⟨5,true,[3,5],[]⟩,⟨6,false,[3,5],[]⟩,⟨7,true,[3,5,7],[]⟩] (fun D => bif zl9 7 D then Gf (tick τ'') ++ (roL N c ks [] [] ++ [.cells [.sl (cs.length + 1) (cs.map iv ++ [iv (zmz τ'' 3)]) (.opn (N + 7)),iv 0,iv 0] 65,.tail (cs.length + 1) 1 3]) else bif zl9 5 D then Gf (tick τ'') ++ (roL N c ks [] [] ++ [.cells [.sl cs.length (cs.map iv) (.opn (N + 7)),iv 0,iv 0] 65,.tail (cs.length + 1) 1 3]) else bif zl9 3 D then Gf (tick τ'') ++ (roL N c ks [] [] ++ [.cells [.sl cs.length (cs.map iv) (.opn (N + 7)),iv 0,iv 0] 65,.tail cs.length 1 3]) else Gf τ'' ++ (roL N c ks [] [] ++ [.cells [.sl cs.length (cs.map iv) (.opn (N + 7)),iv 0,iv 0] 65,.tail cs.length 1 3])) ?_;simp only [seval,z1,zhq,roL,List.flatMap_nil,hT.am];refine zoy _ _ (zlH (f29_c (hT.more _) hto2 (by omega) (by omega) ⟨rfl,rfl⟩)) ?_;(try simp only [seval,z1,zhq,roL,List.flatMap_nil,hT.am]);refine ⟨by omega,?_⟩;refine zl5 ?_;simp only [seval,hw2];refine hR2 _ ⟨(cs ++ [zmz τ'' 3],tick τ''),by show c.toNat - (cs ++ [_]).length < c.toNat - cs.length; simp; omega,⟨by simp; omega,fun n hn => ?_,hto2.tick.mono (by simp; omega)⟩,?_⟩
   ·rcases List.mem_append.1 hn with hn | hn
    ·exact hcb n hn
    ·rw [List.mem_singleton.1 hn]; exact ⟨hv.1,hv.2.elim id fun h => by rw [h]; decide⟩
   ·simp only [zqS,List.length_append];exact zli
  ·have hcc : (cs.length : Int) = c:=(by omega);refine zkY ?_
   (repeat apply zaa); refine zuc (id:=N + 6) (j:=0) (by simp only [seval,hT.am] <;> rfl) rfl (zaK _ _ _) ?_
   (try simp only [seval,hT.am]);refine zl5 ?_;simp only [seval,hT.am];refine zl6 ((f126_c (hT.more _) hto2 (by omega) (by omega) (by omega) ?_));(try simp only [seval,Band.av,Band.l,hT.am]);have hbd:=zir τ'' (show (0 : Int) <= 2 by decide);have hto3:=hto2.tick.tick;generalize znl τ'' 0 2 = bd at hbd ⊢;generalize tick (tick τ'') = τ3 at hto3 ⊢;obtain ⟨hbd0,hbd1,hbd2⟩:=hbd;have hww:=za1 τ3 hbd1;have hkl:=zps ks;have hwl:=hkp.len;refine zmo [4,13,15,17] [0,1,2,3,4,5,6,7,8,9,10,11,12,13,14,15,16,17,18] [⟨0,false,[],[]⟩,⟨1,false,[],[]⟩,⟨2,false,[],[]⟩,⟨3,false,[],[]⟩,⟨4,true,[4],[]⟩,⟨5,false,[4],[([],[]),([4,13],[4,13])]⟩,⟨6,false,[4],[([],[])]⟩,⟨7,false,[4],[([],[])]⟩,⟨8,false,[4],[([],[])]⟩,⟨9,false,[4],[([],[])]⟩,⟨10,false,[4],[([],[])]⟩,⟨11,false,[4],[([],[])]⟩,⟨12,false,[4],[([],[])]⟩,⟨13,true,[4,13],[]⟩,⟨14,false,[4,13],[]⟩,⟨15,true,[4,13,15],[]⟩,⟨16,false,[4,13,15],[([4],[4]),([4,13],[4,13])]⟩,⟨17,true,[4,13,15,17],[]⟩,⟨18,false,[4,13,15,17],[]⟩] (fun D => bif zl9 17 D then Gf (tick τ3) ++ roM N c (ks.length + 1) (ks.flatMap Key.l ++ [.sl cs.length (cs.map iv) .shut,iv bd.min,iv bd.max]) (ks.length + 1) (ks.length + 1) cs bd else bif zl9 15 D then Gf (tick τ3) ++ roM N c ks.length (ks.flatMap Key.l) (ks.length + 1) (ks.length + 1) cs bd else bif zl9 13 D then Gf (tick τ3) ++ roM N c ks.length (ks.flatMap Key.l) (ks.length + 1) ks.length cs bd else bif zl9 4 D then Gf τ3 ++ roM N c ks.length (ks.flatMap Key.l) (ks.length + 1) ks.length cs bd else Gf τ3 ++ roM N c ks.length (ks.flatMap Key.l) ks.length ks.length cs bd) ?_;simp only [seval,z1,zk3,zhq,zd5,hkl,hwl,roM,hT.am];refine ⟨by omega,?_⟩;refine zoy _ _ (zlH (f125_c (hT.more _) hto3 (by omega) (by omega) (by omega) ⟨rfl,rfl⟩)) ?_;(try simp only [seval,z1,zk3,zhq,zd5,hkl,hwl,roM,hT.am]);have hw3 : IntKind.i64.wrap ((tot : Int) - ks.length - 1) = tot - (ks.length + 1):=(by rw [zau _ (by omega)]; omega);refine ⟨by omega,?_⟩;refine zl5 ?_;simp only [seval,hw3];refine hR _ ⟨(ks ++ [⟨cs,bd⟩],ws ++ [zmy τ3 bd.min bd.max],tick τ3),by show tot - (ks ++ [_]).length < tot - ks.length; simp; omega,⟨hkp.snoc hcc hcb ⟨hbd0,hbd2,hbd1⟩ hww,by simp; omega,hto3.tick.mono (by simp; omega)⟩,?_⟩;refine zce [.cells [.sl cs.length (cs.map iv) .shut,iv bd.min,iv bd.max] 65,.tail cs.length 1 3] (zam rfl rfl) (by simp only [seval,List.length_append,List.map_append]; simp [zaf,Wk.refl]) (zh9 hT hH _ _ _ _ _) (by simp only [List.forall_mem_cons,zap,ztJ,iv]; simp [hT.len,roL]) (by simp [roL,Key.l,aInts])
 ·have hkn : 1 <= ks.length /\ ks.length <= K:=by omega
  have hwl:=hkp.len;refine zkY ?_;refine zl5 ?_;simp only [seval,hT.am];refine zl6 ((f29_c (hT.more _) hto (by omega) (by omega) ?_));(try simp only [seval,hT.am]);have htl:=zaX τ' L;generalize zmz τ' L = totl at htl ⊢;obtain ⟨totl,rfl⟩ : ∃ n : Nat,totl = n:=⟨totl.toNat,by omega⟩;have htl2 : totl <= L:=by omega
  clear htl;have hto1:=hto.tick.mono (b':=b + 100) (by omega);generalize tick τ' = τ4 at hto1 ⊢;refine zhC ?_;refine za9 (measure fun m : List (List Band) × TinS => totl - m.1.length).wf (fun m => [(17,iv ((totl : Int) - m.1.length))]) (fun m => Gf m.2 ++ roL N c ks m.1 []) (fun m => (∀ l ∈ m.1,(l.length : Int) = c /\ ∀ b ∈ l,b.Ok 3) /\ m.1.length <= totl /\ m.2.Ok (b + 100 + 20 * m.1.length)) ([],τ4) (fun _ _ => rfl) (by simp only [seval]; simp [zaf,Wk.refl]) (by simp [roL]) (fun _ _ => by simp [hT.len,roL]) ⟨by simp,by simp,hto1.mono (by simp)⟩ (fun hHs hLt m hok R2 hR2 => ?_);clear hHs hLt hR hto1 hto;obtain ⟨ls,τ5⟩:=m;obtain ⟨hlk,hlt,hto⟩:=hok;simp only at hlk hlt hto;refine zl5 ?_;simp only [seval,roL,List.flatMap_nil,hT.am];refine zf9 ?_;refine ⟨fun h2 => ?_,fun h2 => ?_⟩
  ·have hllt : ls.length < totl:=(by omega);refine zgv ?_;refine zhC ?_;have hw4 : IntKind.i64.wrap ((ks.length : Int) - 1) = ks.length - 1:=zau _ (by omega);refine zl5 ?_;simp only [seval,hw4,hT.am];refine zl6 ((f29_c (hT.more _) hto (by omega) (by omega) ?_));(try simp only [seval,hT.am]);have hkr:=zaX τ5 ((ks.length : Int) - 1);generalize zmz τ5 ((ks.length : Int) - 1) = kx at hkr ⊢;obtain ⟨kn,rfl⟩ : ∃ n : Nat,kx = n:=⟨kx.toNat,by omega⟩;have hknl : kn < ks.length:=(by omega);obtain ⟨y,hy⟩:=zaE hknl;obtain ⟨w,hw⟩:=zaE (xs:=ws) (i:=kn) (by omega);obtain ⟨hyc,hyb,hyw⟩:=hkp.key y (zas hy);have hwb:=hkp.worn kn y w hy hw;have hw0:=hyw.min;have hw2':=hyw.max;have hto6:=hto.tick;generalize tick τ5 = τ6 at hto6 ⊢;have hds : ∀ d ∈ zlJ w y.cuts,0 <= d /\ d <= 3:=fun d hd => by
    unfold zlJ at hd;obtain ⟨x,hx,rfl⟩:=List.mem_map.1 hd;have:=hyb x hx;omega
   have hdl : (zlJ w y.cuts).length = y.cuts.length:=(by simp [zlJ]);obtain ⟨hf1,hf2,hf3⟩:=zcw (sm:=!znj τ6 3) hto6.tick hds _ (Nat.le_refl _);have hfe : zmF (!znj τ6 3) (tick τ6) (zlJ w y.cuts) (zlJ w y.cuts).length = zn4 (!znj τ6 3) (tick τ6) (zlJ w y.cuts):=(by unfold zmF zn4; rw [List.take_length]);rw [hfe] at hf1 hf2 hf3;have hml : (ls.map aBands).length = ls.length:=List.length_map ..;have hzs1 : zlU (Value.slice none 0 0) 1 = [.sl 0 [] .exact]:=rfl;refine zmo [15,17,19,21] [0,1,2,3,4,5,6,7,8,9,10,11,12,13,14,15,16,17,18,19,20,21] [⟨0,false,[],[([15],[15]),([15,17],[15,17])]⟩,⟨1,false,[],[([15],[15]),([15,17],[15,17])]⟩,⟨2,false,[],[([15],[15])]⟩,⟨3,false,[],[]⟩,⟨4,false,[],[]⟩,⟨5,false,[],[]⟩,⟨6,false,[],[]⟩,⟨7,false,[],[]⟩,⟨8,false,[],[]⟩,⟨9,false,[],[]⟩,⟨10,false,[],[]⟩,⟨11,false,[],[]⟩,⟨12,false,[],[]⟩,⟨13,false,[],[]⟩,⟨14,false,[],[]⟩,⟨15,true,[15],[]⟩,⟨16,false,[15],[]⟩,⟨17,true,[15,17],[]⟩,⟨18,false,[15,17],[]⟩,⟨19,true,[15,17,19],[]⟩,⟨20,false,[15,17,19],[]⟩,⟨21,true,[15,17,19,21],[]⟩] (fun D => bif zl9 21 D then Gf (zn4 (!znj τ6 3) (tick τ6) (zlJ w y.cuts)).2 ++ roP N c ks (ls.length + 1) (ls.map aBands ++ [aBands (zn4 (!znj τ6 3) (tick τ6) (zlJ w y.cuts)).1]) (ls.length + 1) else bif zl9 19 D then Gf (zn4 (!znj τ6 3) (tick τ6) (zlJ w y.cuts)).2 ++ roP N c ks ls.length (ls.map aBands) (ls.length + 1) else bif zl9 17 D then Gf (zn4 (!znj τ6 3) (tick τ6) (zlJ w y.cuts)).2 ++ roP N c ks ls.length (ls.map aBands) ls.length else bif zl9 15 D then Gf (tick τ6) ++ roP N c ks ls.length (ls.map aBands) ls.length else Gf τ6 ++ roP N c ks ls.length (ls.map aBands) ls.length) ?_;simp only [seval,zc2 hy,zaz hknl,za2 hw,zaz (get_lt hw),hwl,hml,hzs1,zhq,roP,hT.am];refine zmU _ (zlH (f78_c hyb ⟨by omega,by omega⟩ (by omega) ⟨rfl,rfl⟩)) ?_;refine zoy _ _ (zlH (f44_c (hT.more _) hto6 (by omega) (by omega) ⟨rfl,rfl⟩)) ?_;(try simp only [seval,hT.am]);refine zoy _ _ (zlH (f127_c (hT.more _) hto6.tick (by omega) hds (by omega) ⟨rfl,rfl⟩)) ?_;(try simp only [seval,hwl,hml,hzs1,zhq,roP,hT.am,zho]);generalize zn4 (!znj τ6 3) (tick τ6) (zlJ w y.cuts) = q at hf1 hf2 hf3 ⊢;obtain ⟨lk,τ7⟩:=q;simp only at hf1 hf2 hf3;have hw5 : IntKind.i64.wrap ((totl : Int) - ls.length - 1) = totl - (ls.length + 1):=(by rw [zau _ (by omega)]; omega);refine ⟨by omega,?_⟩;refine zl5 ?_;simp only [seval,hw5];refine hR2 _ ⟨(ls ++ [lk],τ7),by show totl - (ls ++ [_]).length < totl - ls.length; simp; omega,⟨fun l hl => ?_,by simp; omega,hf2.mono (by simp; omega)⟩,?_⟩
   ·rcases List.mem_append.1 hl with hl | hl
    ·exact hlk l hl
    ·rw [List.mem_singleton.1 hl]; exact ⟨by omega,hf3⟩
   ·have e : roL N c ks (ls ++ [lk]) [] = roP N c ks (ls.length + 1) (ls.map aBands ++ [aBands lk]) (ls.length + 1):=(by simp [roL,roP]);rw [e];simp only [roP];refine zax (zam rfl rfl) (by simp only [seval,List.length_append]; simp [zaf,Wk.refl])
  ·have hll : ls.length <= 4:=(by omega);refine zkY ?_;refine zl5 ?_;simp only [seval,hT.am];refine zl6 ((f29_c (hT.more _) hto (by omega) (by omega) ?_));(try simp only [seval,hT.am]);have htl:=zaX τ5 T;generalize zmz τ5 T = tott at htl ⊢;obtain ⟨tott,rfl⟩ : ∃ n : Nat,tott = n:=⟨tott.toNat,by omega⟩;have htl2 : tott <= T:=(by omega);clear htl;have hto1:=hto.tick.mono (b':=b + 200) (by omega);generalize tick τ5 = τ8 at hto1 ⊢;refine zhC ?_;refine za9 (measure fun m : List Try × TinS => tott - m.1.length).wf (fun m => [(19,iv ((tott : Int) - m.1.length))]) (fun m => Gf m.2 ++ roL N c ks ls m.1) (fun m => ((∀ t ∈ m.1,(0 <= t.key /\ t.key < ks.length) /\ 0 <= t.lock /\ t.lock < ls.length) /\ (wr = false -> ∀ t ∈ m.1,t.opens = zoY ks ws ls t.key t.lock)) /\ m.1.length <= tott /\ m.2.Ok (b + 200 + 20 * m.1.length)) ([],τ8) (fun _ _ => rfl) (by simp only [seval]; simp [zaf,Wk.refl]) (by simp [roL]) (fun _ _ => by simp [hT.len,roL]) ⟨by simp,by simp,hto1.mono (by simp)⟩ (fun hHs hLt m hok R hR => ?_);clear hHs hLt hR2 hto1 hto;obtain ⟨ts,τ9⟩:=m;obtain ⟨⟨htr,htd⟩,htl3,hto⟩:=hok;simp only at htr htd htl3 hto;have hend : zmu N (Gf τ9 ++ roE N c ks ls ts) (.tup [.agg [iv c,.sl ks.length (ks.flatMap Key.l) (.opn (N + 2)),.sl ls.length (ls.map aBands) (.opn (N + 3)),.sl ts.length (ts.flatMap Try.l) (.opn (N + 4))],.sl ks.length (ws.map iv) (.opn (N + 5))]) k:=hk ⟨c,ks,ls,ts⟩ ws τ9 ⟨hc,hkn,hkp,by show ls.length <= L; omega,hlk,by show ts.length <= T; omega,htr,htd⟩ (hto.mono (by omega)) (hT.hok hH _) hwl;refine zl5 ?_;simp only [seval,roL,hT.am];refine znS (fun h3 => ?_) (fun h3 => ?_)
   ·have htlt : ts.length < tott:=by
     have : (0 : Int) < tott - ts.length:=(by simpa using h3);omega
    (try simp only [seval,roL,hT.am]);refine zf9 ?_;refine ⟨fun h4 => ?_,fun h4 => ?_⟩
    ·have hll1 : 1 <= ls.length:=(by omega);refine zgv ?_;refine zhC ?_;have hw4 : IntKind.i64.wrap ((ks.length : Int) - 1) = ks.length - 1:=zau _ (by omega);have hw6 : IntKind.i64.wrap ((ls.length : Int) - 1) = ls.length - 1:=zau _ (by omega);have hkr:=zaX τ9 ((ks.length : Int) - 1);have hlr:=zaX (tick τ9) ((ls.length : Int) - 1);refine zmo [5,11,13,14] [0,1,2,3,4,5,6,7,8,9,10,11,12,13,14] [⟨0,false,[],[([13],[13])]⟩,⟨1,false,[],[([13],[13])]⟩,⟨2,false,[],[([13],[13])]⟩,⟨3,false,[],[([13],[13])]⟩,⟨4,false,[],[([13],[13])]⟩,⟨5,true,[5],[([13],[5,13])]⟩,⟨6,false,[5],[([],[]),([13],[13]),([5,13],[5,13])]⟩,⟨7,false,[5],[([],[]),([13],[13]),([5,13],[5,13])]⟩,⟨8,false,[5],[([],[]),([13],[13]),([5,13],[5,13])]⟩,⟨9,false,[5],[([],[]),([13],[13]),([5,13],[5,13])]⟩,⟨10,false,[5],[([],[]),([13],[13]),([5,13],[5,13])]⟩,⟨11,true,[5,11],[([5,13],[5,11,13])]⟩,⟨12,false,[5,11],[([5,11,13],[5,11,13])]⟩,⟨13,true,[5,11,13],[([],[13]),([5],[5,13])]⟩,⟨14,true,[5,11,13,14],[]⟩] (fun D => Gf (bif zl9 11 D then tick (tick τ9) else bif zl9 5 D then tick τ9 else τ9) ++ (roL N c ks ls ts ++ (bif zl9 14 D then [.cells [iv (zmz τ9 ((ks.length : Int) - 1)),iv (zmz (tick τ9) ((ls.length : Int) - 1)),bv false] 28] else bif zl9 13 D then [.cells [iv 0,iv 0,bv false] 28] else []))) ?_;simp only [seval,hw4,hw6,roL,hT.am];refine zoy _ _ (zlH (f29_c (hT.more _) hto (by omega) (by omega) ⟨rfl,rfl⟩)) ?_;(try simp only [seval,hw4,hw6,roL,hT.am]);refine ⟨zoy _ _ (zlH (f29_c (hT.more _) hto (by omega) (by omega) ⟨rfl,rfl⟩)) ⟨rfl,rfl⟩,?_⟩;refine zoy _ _ (zlH (f29_c (hT.more _) hto.tick (by omega) (by omega) ⟨rfl,rfl⟩)) ?_;(try simp only [seval,hw4,hw6,roL,hT.am]);refine ⟨zoy _ _ (zlH (f29_c (hT.more _) hto.tick (by omega) (by omega) ⟨rfl,rfl⟩)) ⟨rfl,rfl⟩,?_⟩;have hto3:=hto.tick.tick;generalize zmz τ9 ((ks.length : Int) - 1) = kx at hkr ⊢;generalize zmz (tick τ9) ((ls.length : Int) - 1) = lx at hlr ⊢;generalize tick (tick τ9) = τa at hto3 ⊢;obtain ⟨kn,rfl⟩ : ∃ n : Nat,kx = n:=⟨kx.toNat,by omega⟩;obtain ⟨ln,rfl⟩ : ∃ n : Nat,lx = n:=⟨lx.toNat,by omega⟩;have hknl : kn < ks.length:=(by omega);have hlnl : ln < ls.length:=(by omega);obtain ⟨y,hy⟩:=zaE hknl;obtain ⟨w,hw⟩:=zaE (xs:=ws) (i:=kn) (by omega);obtain ⟨l,hl⟩:=zaE hlnl;obtain ⟨hyc,hyb,hyw⟩:=hkp.key y (zas hy);obtain ⟨hlc,hlb⟩:=hlk l (zas hl);have hwb:=hkp.worn kn y w hy hw;have hw0:=hyw.min;have hw2':=hyw.max;have hdl : (zlJ w y.cuts).length = y.cuts.length:=(by simp [zlJ]);have how : zoY ks ws ls kn ln = zmg (zlJ w y.cuts) l:=by
      unfold zoY;simp only [Int.toNat_natCast,List.getD_eq_getElem?_getD,hy,hw,hl,Option.map_some,Option.getD_some]
     refine zlw 19 ?_;simp only [seval,zc2 hy,zaz hknl,za2 hw,zaz (get_lt hw),zfu hl,zaz hlnl,hwl,hT.am];refine zmU _ (zlH (f78_c hyb ⟨by omega,by omega⟩ (by omega) ⟨rfl,rfl⟩)) ?_;refine zl6 ((f64_c (by omega) (by omega) ?_));(try simp only [seval,hT.am]);have htln:=zf5 ts;have hw7 : IntKind.i64.wrap ((tott : Int) - ts.length - 1) = tott - (ts.length + 1):=(by rw [zau _ (by omega)]; omega);have hnew : ∀ (o : Bool) (τb : TinS),τb.Ok (b + 200 + 20 * ts.length + 3) -> (wr = false -> o = zmg (zlJ w y.cuts) l) -> ((∀ t : Try,t ∈ ts ++ [⟨kn,ln,o⟩] -> (0 <= t.key /\ t.key < (ks.length : Int)) /\ 0 <= t.lock /\ t.lock < (ls.length : Int)) /\ (wr = false -> ∀ t : Try,t ∈ ts ++ [⟨kn,ln,o⟩] -> t.opens = zoY ks ws ls t.key t.lock)) /\ (ts ++ [(⟨kn,ln,o⟩ : Try)]).length <= tott /\ τb.Ok (b + 200 + 20 * ((ts ++ [(⟨kn,ln,o⟩ : Try)]).length : Nat)):=fun o τb hok ho => by
      refine ⟨⟨fun t ht => ?_,fun hwr t ht => ?_⟩,by simp; omega,hok.mono (by simp; omega)⟩
      ·rcases List.mem_append.1 ht with ht | ht
       ·exact htr t ht
       ·rw [List.mem_singleton.1 ht]; exact ⟨⟨by show (0 : Int) <= kn; omega,by show (kn : Int) < _; omega⟩,by show (0 : Int) <= ln; omega,by show (ln : Int) < _; omega⟩
      ·rcases List.mem_append.1 ht with ht | ht
       ·exact htd hwr t ht
       ·rw [List.mem_singleton.1 ht]; exact (ho hwr).trans how.symm
     refine zl5 ?_;simp only [seval,hT.am];refine znS (fun h5 => ?_) (fun h5 => ?_)
     ·(try simp only [seval,hT.am]);refine zl6 ((f44_c (hT.more _) hto3 (by omega) (by omega) ?_));(try simp only [seval,hT.am]);refine zf9 ?_;refine ⟨fun h6 => ?_,fun h6 => ?_⟩
      ·refine zl5 ?_;simp only [seval,hT.am];refine zl5 ?_;simp only [seval,zt3,zd5,htln,hT.am];refine ⟨by omega,?_⟩;refine zl5 ?_;simp only [seval,hw7];refine hR _ ⟨(ts ++ [⟨kn,ln,!(zmg (zlJ w y.cuts) l)⟩],tick τa),by show tott - (ts ++ [_]).length < tott - ts.length; simp; omega,hnew _ _ (hto3.tick.mono (by omega)) (fun e => absurd (h5.symm.trans e) (by decide)),?_⟩;refine zce [.cells [iv kn,iv ln,bv (!(zmg (zlJ w y.cuts) l))] 28] (zam rfl rfl) (by simp only [seval,List.length_append]; simp [zaf,Wk.refl]) (zh9 hT hH _ _ _ _ _) (by simp only [List.forall_mem_cons,zap,iv]; simp) (by simp [roL,Try.l])
      ·refine zgv ?_;refine zl5 ?_;simp only [seval,zt3,zd5,htln,hT.am];refine ⟨by omega,?_⟩;refine zl5 ?_;simp only [seval,hw7];refine hR _ ⟨(ts ++ [⟨kn,ln,zmg (zlJ w y.cuts) l⟩],tick τa),by show tott - (ts ++ [_]).length < tott - ts.length; simp; omega,hnew _ _ (hto3.tick.mono (by omega)) (fun _ => rfl),?_⟩;refine zce [.cells [iv kn,iv ln,bv (zmg (zlJ w y.cuts) l)] 28] (zam rfl rfl) (by simp only [seval,List.length_append]; simp [zaf,Wk.refl]) (zh9 hT hH _ _ _ _ _) (by simp only [List.forall_mem_cons,zap,iv]; simp) (by simp [roL,Try.l])
     ·(try simp only [seval,hT.am]);refine zf9 ?_;refine zgv ?_;refine zl5 ?_;simp only [seval,zt3,zd5,htln,hT.am];refine ⟨by omega,?_⟩;refine zl5 ?_;simp only [seval,hw7];refine hR _ ⟨(ts ++ [⟨kn,ln,zmg (zlJ w y.cuts) l⟩],τa),by show tott - (ts ++ [_]).length < tott - ts.length; simp; omega,hnew _ _ (hto3.mono (by omega)) (fun _ => rfl),?_⟩;refine zce [.cells [iv kn,iv ln,bv (zmg (zlJ w y.cuts) l)] 28] (zam rfl rfl) (by simp only [seval,List.length_append]; simp [zaf,Wk.refl]) (zh9 hT hH _ _ _ _ _) (by simp only [List.forall_mem_cons,zap,iv]; simp) (by simp [roL,Try.l])
    ·refine zkY ?_;refine zl5 ?_;simp only [seval,hT.am];refine znm ?_;simp only [seval,hT.am];exact hend
   ·have h3 : ¬ (0 : Int) < tott - ts.length:=(by simpa using h3);(try simp only [seval,roL,hT.am]);refine zf9 ?_;refine zkY ?_;refine zl5 ?_;simp only [seval,hT.am];refine znm ?_;simp only [seval,hT.am];exact hend
theorem f49_c {K L T : Nat} {wr : Bool} (hT : TinAt Gf t N) (hτ : τ.Ok b) (hb : b < 2 ^ 30) (hK : 1 <= K /\ K <= 4) (hL : L <= 4) (hTn : T <= 6)
  (hk : ∀ x ws τ',RingP K L T wr x ws -> τ'.Ok (b + 1000) -> k (.tup [x.av,aInts ws]) (Gf τ')) : FnC lv Tryz.prog 49 (Gf τ) [.op t 0,iv K,iv L,iv T,bv wr] k kp :=
 f49_g hT hτ hb hK hL hTn fun x ws τ' hP hto hok hwl => by
  rw [<- hT.len τ'];exact endA (b:=.tup [x.av,aInts ws]) hok (zdC (zhX (.cons (Wk.refl _) (.cons (zaK _ _ _) (.cons (zaK _ _ _) (.cons (zaK _ _ _) .nil))))) (by rw [<- hwl]; exact zaK _ _ _)) (by simp only [zaD,List.forall_mem_cons,zfC,zbi]; simp) (hk x ws τ' hP hto)
end
def zpD (x : Ring) (t : Try) : Ring:=⟨x.cuts,x.keys,x.locks,x.tries ++ [t]⟩
theorem zpE (ts : List Try) (t : Try) : (ts ++ [t]).flatMap Try.l = ts.flatMap Try.l ++ [iv t.key,iv t.lock,bv t.opens]:=by simp [Try.l]
section
variable {lv : Bool} {H : List AObj} {k kp : AV -> List AObj -> Prop}
theorem f56_c {x : Ring} {t : Try} (hl : x.tries.length < 2 ^ 20) (hk : k (zpD x t).av H) : FnC lv Tryz.prog 56 H [x.av,t.av] k kp:=by
 refine zhQ (rs:=[.cell 4 26]) (nt:=14) Tryz.f56 fun hH hA => ?_;simp only [zlx,Nat.reduceAdd,Ring.av,Ring.l,Try.av,Try.l];have htl:=zf5 x.tries;have e0 : zlU (.agg #[.int .i64 0,.int .i64 0,.bool false]) 0 = []:=rfl;have htk : List.take (x.tries.length * 3) (x.tries.flatMap Try.l) = x.tries.flatMap Try.l:=List.take_of_length_le (by omega);refine zfK ?_;refine zmo [3,6,8] [0,1,2,3,4,5,6,7,8] [⟨0,false,[],[]⟩,⟨1,false,[],[]⟩,⟨2,false,[],[]⟩,⟨3,true,[3],[]⟩,⟨4,false,[3],[([],[])]⟩,⟨5,false,[3],[([],[])]⟩,⟨6,true,[3,6],[]⟩,⟨7,false,[3,6],[]⟩,⟨8,true,[3,6,8],[]⟩] (fun D => H ++ ([.cells [iv x.cuts,zmd x.keys,zlO x.locks,bif zl9 8 D then .sl (x.tries.length + 1) (x.tries.flatMap Try.l ++ [iv t.key,iv t.lock,bv t.opens]) (.opn (H.length + 3)) else zlT x.tries] 26,.cells [iv t.key,iv t.lock,bv t.opens] 28,.cells [iv 0,.sl 0 [] .exact,.sl 0 [] .exact,.sl 0 [] .exact] 26] ++ (bif zl9 6 D then [.tail (x.tries.length + 1) 3 28] else bif zl9 3 D then [.tail x.tries.length 3 28] else []))) ?_;simp only [seval,e0,zt3,p24_0,zd5,htl,htk,zlT];refine ⟨by omega,by omega,?_⟩;refine zfK ?_;refine zgX ?_;exact endA (b:=(zpD x t).av) hH (zhX (.cons (Wk.refl _) (.cons (Wk.refl _) (.cons (Wk.refl _) (.cons (by rw [show (zpD x t).tries = x.tries ++ [t] from rfl,zlT,zpE,List.length_append]; exact zaK _ _ _) .nil))))) (by rw [zfC]; trivial) hk
theorem tinOk0 {nums : List Int} (h : nums.length <= 2 ^ 50) (s : Int) : (⟨nums,0,s⟩ : TinS).Ok 0:=⟨Int.le_refl _,Int.le_refl _,h⟩
theorem RingP.ok {K L T : Nat} {wr : Bool} {x : Ring} {ws : List Int} (h : RingP K L T wr x ws) (hK : K <= 4) (hL : L <= 4) (hT : T <= 6) : x.Ok where
 cuts:=⟨h.cuts.1,by have:=h.cuts.2; omega⟩
 keys:=by have:=h.keys.2; omega
 key:=h.kp.key
 locks:=by have:=h.locks; omega
 lock:=h.lock
 tries:=by have:=h.tries; omega
 tried:=h.tried
theorem Ring.Ok.small {x : Ring} (h : x.Ok) : x.Small where
 keys:=by have:=h.keys; omega
 locks:=by have:=h.locks; omega
 tries:=by have:=h.tries; omega
 cuts:=fun y hy => by have:=(h.key y hy).1; have:=h.cuts; omega
 bands:=fun l hl => by have:=(h.lock l hl).1; have:=h.cuts; omega
theorem zsI {P : Program} {f : FuncId} {l l' : List AV} (h : Wks l l') (hf : FnC lv P f H l' k kp) : FnC lv P f H l k kp:=fun E V vs hc hd => by
 refine hf E V vs hc ⟨by rw [hd.1,h.len],fun i a ha => ?_⟩;obtain ⟨b,hb⟩:=zaE (xs:=l) (i:=i) (by rw [h.len]; exact get_lt ha);exact h.at i a b ha hb E _ (hd.2 i b hb)
theorem f25_c (hmain : H[0]? = some .main) (hk : k (bv true) H) : FnC true Tryz.prog 25 H [] k kp:=by
 refine zhQ (rs:=[.tmp 0]) (nt:=177) Tryz.f25 fun hH hA => ?_;simp only [zlx,Nat.reduceAdd];refine zfK ?_;refine zfK ?_;refine zl6 ((f80_c (ts:=[]) (by decide) ?_));(try simp only [seval]);refine zl6 ((zt0 hmain ?_));(try simp only [seval]);refine zfK ?_;refine zl6 ((f80_c (ts:=[]) (by decide) ?_));(try simp only [seval]);refine zl6 ((zrG hmain ?_));(try simp only [seval]);refine zfK ?_;refine zl6 ((f82_c ?_));(try simp only [seval,Try.av,Try.l,exLast,zt3,zd5]);refine zl6 ((f80_c (ts:=[exLast]) (by decide) ?_));(try simp only [seval]);refine zl6 ((zrI hmain ?_));(try simp only [seval]);refine zfK ?_;refine zl6 ((f80_c (ts:=[]) (by decide) ?_));(try simp only [seval]);refine zl6 ((ex_ask hmain ?_));(try simp only [seval]);refine zfK ?_;refine zl6 ((f82_c ?_));(try simp only [seval,Try.av,Try.l,exLast,zt3,zd5]);refine zl6 ((f80_c (ts:=[exLast]) (by decide) ?_));(try simp only [seval]);refine zl6 ((zrH hmain ?_));(try simp only [seval]);refine zfK ?_;refine zl6 ((f84_c ?_));(try simp only [seval]);refine zl6 ((zrJ hmain ?_));(try simp only [seval]);refine zfK ?_;refine zl6 ((f80_c (ts:=[]) (by decide) ?_));(try simp only [seval,zu2,zes]);refine zl6 ((zsI (.cons (Wk.refl _) (.cons (zaK _ _ _) .nil)) (zrF hmain ?_)));(try simp only [seval]);refine zfK ?_;refine zl6 ((f80_c (ts:=[]) (by decide) ?_));(try simp only [seval,zr2,zes]);refine zl6 ((zsI (.cons (Wk.refl _) (.cons (zaK _ _ _) .nil)) (ex_cut hmain ?_)));(try simp only [seval]);refine zfK ?_;refine zl6 ((f83_c ?_));(try simp only [seval,Try.av,Try.l,exNever,zt3,zd5]);refine zl6 ((f80_c (ts:=[exNever]) (by decide) ?_));(try simp only [seval]);refine zl6 ((zrE hmain ?_));(try simp only [seval]);refine zfK ?_;refine zl6 ((f80_c (ts:=[]) (by decide) ?_));(try simp only [seval]);refine zl6 ((zt1 hmain ?_));(try simp only [seval]);refine zl5 ?_;simp only [seval,List.append_eq,beq_self_eq_true,zr2,zes];refine zl6 ((f34_same (xs:=[0,1]) (by decide) ?_));(try simp only [seval,List.append_eq,beq_self_eq_true,zr3,zd5]);refine zl6 ((f34_same (xs:=[0,1,2]) (by decide) ?_));(try simp only [seval,List.append_eq,beq_self_eq_true,zr3,zd5]);refine zl6 ((f34_same (xs:=[0,1,0]) (by decide) ?_));(try simp only [seval,List.append_eq,beq_self_eq_true,zr2,zes]);refine zl6 ((f34_same (xs:=[1,2]) (by decide) ?_));(try simp only [seval,List.append_eq,beq_self_eq_true,zr2,zes]);refine zl6 ((f34_same (xs:=[2,1]) (by decide) ?_));(try simp only [seval,List.append_eq,beq_self_eq_true,z1,zhq]);refine zl6 ((f34_same (xs:=[0]) (by decide) ?_));(try simp only [seval,List.append_eq,beq_self_eq_true,zr2,zes]);refine zl6 ((f34_same (xs:=[0,1]) (by decide) ?_));(try simp only [seval]);refine zgX ?_;exact zao hk
theorem f155_c {n due : Int} (hk : k (iv (zmS n due)) H) : FnC lv Tryz.prog 155 H [iv n,iv due] k kp:=by
 refine zhQ (rs:=[.tmp 4]) (nt:=11) Tryz.f155 fun hH hA => ?_;simp only [zlx,Nat.reduceAdd];refine zfK ?_;refine zfK ?_;refine zf9 ?_;refine ⟨fun h => ?_,fun h => ?_⟩
 ·refine zfK ?_;refine zgX ?_;refine zao ?_;simpa [zmS,h] using hk
 ·refine zgv ?_;refine zfK ?_;refine zf9 ?_;refine ⟨fun h2 => ?_,fun h2 => ?_⟩
  ·refine zfK ?_;refine zgX ?_;refine zao ?_;simpa [zmS,h,h2] using hk
  ·refine zgv ?_;refine zfK ?_;refine zgX ?_;refine zao ?_;simpa [zmS,h,h2] using hk
theorem f97_i {n lo hi : Int} (hk : k (bv (inM n lo hi)) H) : FnC lv Tryz.prog 97 H [iv n,iv lo,iv hi] k kp:=f97_c hk
theorem f156_c {b : Band} {most : Int} (hk : k (iv (znv b most)) H) : FnC lv Tryz.prog 156 H [b.av,iv most] k kp:=by
 refine zhQ (rs:=[.tmp 4]) (nt:=22) Tryz.f156 fun hH hA => ?_;simp only [zlx,Nat.reduceAdd,Band.av,Band.l];refine zfK ?_;refine zfK ?_;refine zl6 ((f97_i ?_));(try simp only [seval]);unfold znv at hk;refine znS (fun h3 => ?_) (fun h3 => ?_)
 ·simp only [Bool.not_eq_false',Bool.not_eq_true',Bool.not_true,Bool.not_false] at h3;rw [h3] at hk;(try simp only [seval]);refine zl6 ((f97_i ?_));(try simp only [seval]);refine zf9 ?_;refine ⟨fun h => ?_,fun h => ?_⟩
  ·refine zfK ?_;refine zgX ?_;exact endV hH (by simpa [h] using hk)
  ·rw [h] at hk;refine zgv ?_;refine zfK ?_;refine zf9 ?_;refine ⟨fun h2 => ?_,fun h2 => ?_⟩
   ·refine zfK ?_;refine zgX ?_;exact endV hH (by simpa [h2] using hk)
   ·refine zgv ?_;refine zfK ?_;refine zgX ?_;exact endV hH (by simpa [h2] using hk)
 ·simp only [Bool.not_eq_false',Bool.not_eq_true',Bool.not_true,Bool.not_false] at h3;(try simp only [seval]);refine zf9 ?_;refine zfK ?_;refine zgX ?_;exact endV hH (by simpa [h3] using hk)
theorem f109_c {x : Ring} {y : Key} (hsz : y.cuts.length < 2 ^ 62) (hk : k (iv (keyM x.cuts y)) H) : FnC lv Tryz.prog 109 H [x.av,y.av] k kp:=by
 refine zhQ (rs:=[.tmp 4]) (nt:=33) Tryz.f109 fun hH hA => ?_;simp only [zlx,Nat.reduceAdd,Key.av,Key.l,aInts,Ring.av,Ring.l];refine zfK ?_;refine zfK ?_;refine zl6 ((f155_c ?_));(try simp only [seval]);refine zfK ?_;refine zf9 ?_;refine ⟨fun h => ?_,fun h => ?_⟩
 ·refine zfK ?_;refine zgX ?_;refine endV hH ?_;rw [keyM,if_neg h] at hk; exact hk
 ·refine zgv ?_;refine zfK ?_;refine zhC ?_;refine zlI y.cuts.length (fun i : Nat => [(6,iv i)]) (fun _ => _) (fun i => zlM cutM y.cuts = zlM cutM (y.cuts.drop i)) rfl (fun hHs hLt i hin hi R hR => ?_);refine zfK ?_;refine zf9 ?_;refine ⟨fun h2 => ?_,fun h2 => ?_⟩
  ·have hlt : i < y.cuts.length:=(by omega);obtain ⟨d,hd⟩:=zaE hlt;refine zgv ?_;refine zl5 ?_;simp only [seval,za2 hd,zaz hlt];refine zl6 ((f97_i ?_));(try simp only [seval]);refine zf9 ?_;refine ⟨fun h3 => ?_,fun h3 => ?_⟩
   ·refine zfK ?_;refine zgX ?_;refine endV hH ?_;rw [keyM,if_pos h,if_neg ?_] at hk
    ·exact hk
    ·rw [hi,zaZ hd]; simp [cutM,h3]
   ·refine zgv ?_;refine zfK ?_;refine hR _ ⟨hlt,?_,?_⟩
    ·rw [hi,zaZ hd]; simp [cutM,h3]
    ·rw [zau _ (by omega)];exact zli
  ·refine zkY ?_;refine zfK ?_;refine zl6 ((f156_c (b:=y.wear) ?_));(try simp only [seval]);refine zgX ?_;refine endV hH ?_;rw [keyM,if_pos h,if_pos ?_] at hk
   ·exact hk
   ·have : i = y.cuts.length:=(by omega);rw [hi,this]; simp [zlM]
theorem f110_c {x : Ring} {l : List Band} (hsz : l.length < 2 ^ 30) (hk : k (iv (zmV x.cuts l)) H) : FnC lv Tryz.prog 110 H [x.av,aBands l] k kp:=by
 refine zhQ (rs:=[.tmp 4]) (nt:=30) Tryz.f110 fun hH hA => ?_;simp only [zlx,Nat.reduceAdd,aBands,Ring.av,Ring.l];refine zfK ?_;refine zfK ?_;refine zl6 ((f155_c ?_));(try simp only [seval]);refine zfK ?_;refine zf9 ?_;refine ⟨fun h => ?_,fun h => ?_⟩
 ·refine zfK ?_;refine zgX ?_;refine endV hH ?_;rw [zmV,if_neg h] at hk; exact hk
 ·refine zgv ?_;refine zfK ?_;refine zhC ?_;refine zlI l.length (fun i : Nat => [(6,iv i)]) (fun _ => _) (fun i => zlM (znv · 3) l = zlM (znv · 3) (l.drop i)) rfl (fun hHs hLt i hin hi R hR => ?_);refine zfK ?_;refine zf9 ?_;refine ⟨fun h2 => ?_,fun h2 => ?_⟩
  ·have hlt : i < l.length:=(by omega);obtain ⟨d,hd⟩:=zaE hlt;refine zgv ?_;refine zl5 ?_;simp only [seval,zdh hd,zaz hlt];refine zl6 ((f156_c (b:=d) ?_));(try simp only [seval]);refine zfK ?_;refine zf9 ?_;refine ⟨fun h3 => ?_,fun h3 => ?_⟩
   ·refine zfK ?_;refine zgX ?_;refine endV hH ?_;have e : zlM (znv · 3) l = znv d 3:=(by rw [hi,zaZ hd,if_neg h3]);rw [zmV,if_pos h,e] at hk; exact hk
   ·refine zgv ?_;refine zfK ?_;refine hR _ ⟨hlt,?_,?_⟩
    ·rw [hi,zaZ hd,if_pos h3]
    ·rw [zau _ (by omega)];exact zli
  ·refine zkY ?_;refine zfK ?_;refine zgX ?_;refine endV hH ?_;have : i = l.length:=(by omega);rw [zmV,if_pos h,hi,this] at hk;simpa [zlM] using hk
theorem f96_c {x : Ring} {n : Int} (hs : x.keys.length < 2 ^ 60) (hk : k (bv (inM n 0 (x.keys.length - 1))) H) : FnC lv Tryz.prog 96 H [x.av,iv n] k kp:=by
 refine zhQ (rs:=[.tmp 4]) (nt:=11) Tryz.f96 fun hH hA => ?_;simp only [zlx,Nat.reduceAdd,Ring.av,Ring.l,zmd];have w1 : IntKind.i64.wrap ((x.keys.length : Int) - 1) = x.keys.length - 1:=zau _ (by omega);refine zfK ?_;refine zl5 ?_;simp only [seval,w1];refine zl6 ((f97_i ?_));(try simp only [seval]);refine zgX ?_;exact endV hH hk
theorem f104_c {x : Ring} {n : Int} (hs : x.locks.length < 2 ^ 60) (hk : k (bv (inM n 0 (x.locks.length - 1))) H) : FnC lv Tryz.prog 104 H [x.av,iv n] k kp:=by
 refine zhQ (rs:=[.tmp 4]) (nt:=11) Tryz.f104 fun hH hA => ?_;simp only [zlx,Nat.reduceAdd,Ring.av,Ring.l,zlO];have w1 : IntKind.i64.wrap ((x.locks.length : Int) - 1) = x.locks.length - 1:=zau _ (by omega);refine zfK ?_;refine zl5 ?_;simp only [seval,w1];refine zl6 ((f97_i ?_));(try simp only [seval]);refine zgX ?_;exact endV hH hk
theorem zoU {x : Ring} {t : Try} (h : (inM t.key 0 (x.keys.length - 1) && inM t.lock 0 (x.locks.length - 1)) = false) : tryM x t = 3:=by unfold tryM; rw [h]; rfl
theorem zpU {x : Ring} {t : Try} (h : (inM t.key 0 (x.keys.length - 1) && inM t.lock 0 (x.locks.length - 1)) = true) : tryM x t = 0:=by unfold tryM; rw [h]; rfl
theorem f36_c {x : Ring} (hs : x.Small) (hk : k (iv (zl4 x)) H) : FnC lv Tryz.prog 36 H [x.av] k kp:=by
 refine zhQ (rs:=[.tmp 2]) (nt:=85) Tryz.f36 fun hH hA => ?_;simp only [zlx,Nat.reduceAdd,Ring.av,Ring.l,zmd,zlO,zlT];have hks:=hs.keys;have hls:=hs.locks;have hts:=hs.tries;refine zfK ?_;refine zfK ?_;refine zl6 ((f97_i ?_));(try simp only [seval]);refine zf9 ?_;refine ⟨fun h => ?_,fun h => ?_⟩
 ·refine zfK ?_;refine zgX ?_;refine endV hH ?_;rw [zl4,if_pos h] at hk; exact hk
 ·rw [zl4,if_neg (by rw [h]; simp)] at hk;refine zgv ?_;refine zfK ?_;refine zf9 ?_;refine ⟨fun h => ?_,fun h => ?_⟩
  ·refine zfK ?_;refine zgX ?_;refine endV hH ?_;rw [if_pos (by omega)] at hk; exact hk
  ·rw [if_neg (by omega)] at hk;refine zgv ?_;refine zfK ?_;refine zhC ?_;refine zlI x.keys.length (fun i : Nat => [(3,iv i)]) (fun _ => _) (fun i => zlM (keyM x.cuts) x.keys = zlM (keyM x.cuts) (x.keys.drop i)) rfl (fun hHs hLt i hin hi R hR => ?_);refine zfK ?_;refine zf9 ?_;refine ⟨fun h2 => ?_,fun h2 => ?_⟩
   ·have hlt : i < x.keys.length:=(by omega);obtain ⟨y,hy⟩:=zaE hlt;refine zgv ?_;refine zhC ?_;refine zlw 6 ?_;simp only [seval,zc2 hy,zaz hlt,zh0,aInts];refine zl6 ((f109_c (x:=x) (y:=y) (Nat.lt_trans (hs.cuts y (zas hy)) (by decide)) ?_));(try simp only [seval]);refine zfK ?_;refine zf9 ?_;refine ⟨fun h3 => ?_,fun h3 => ?_⟩
    ·refine zfK ?_;refine zgX ?_;refine endV hH ?_;have e : zlM (keyM x.cuts) x.keys = keyM x.cuts y:=(by rw [hi,zaZ hy,if_neg h3]);rw [if_pos (by rw [e]; exact h3),e] at hk; exact hk
    ·refine zgv ?_;refine zfK ?_;refine hR _ ⟨hlt,?_,?_⟩
     ·rw [hi,zaZ hy,if_pos h3]
     ·rw [zau _ (by omega)];exact zli
   ·have hz : zlM (keyM x.cuts) x.keys = 0:=by
     have : i = x.keys.length:=(by omega);rw [hi,this]; simp [zlM]
    rw [if_neg (by rw [hz]; simp)] at hk;clear hR;refine zkY ?_;refine zfK ?_;refine zf9 ?_;refine ⟨fun h => ?_,fun h => ?_⟩
    ·refine zfK ?_;refine zgX ?_;refine endV hH ?_;rw [if_pos (by omega)] at hk; exact hk
    ·rw [if_neg (by omega)] at hk;refine zgv ?_;refine zfK ?_;refine zhC ?_;refine zlI x.locks.length (fun i : Nat => [(5,iv i)]) (fun _ => _) (fun i => zlM (zmV x.cuts) x.locks = zlM (zmV x.cuts) (x.locks.drop i)) rfl (fun hHs hLt i hin hi R hR => ?_);refine zfK ?_;refine zf9 ?_;refine ⟨fun h2 => ?_,fun h2 => ?_⟩
     ·have hlt : i < x.locks.length:=(by omega);obtain ⟨y,hy⟩:=zaE hlt;refine zgv ?_;refine zhC ?_;refine zlw 6 ?_;simp only [seval,zfu hy,zaz hlt];refine zl6 ((f110_c (x:=x) (l:=y) (hs.bands y (zas hy)) ?_));(try simp only [seval]);refine zfK ?_;refine zf9 ?_;refine ⟨fun h3 => ?_,fun h3 => ?_⟩
      ·refine zfK ?_;refine zgX ?_;refine endV hH ?_;have e : zlM (zmV x.cuts) x.locks = zmV x.cuts y:=(by rw [hi,zaZ hy,if_neg h3]);rw [if_pos (by rw [e]; exact h3),e] at hk; exact hk
      ·refine zgv ?_;refine zfK ?_;refine hR _ ⟨hlt,?_,?_⟩
       ·rw [hi,zaZ hy,if_pos h3]
       ·rw [zau _ (by omega)];exact zli
     ·have hz : zlM (zmV x.cuts) x.locks = 0:=by
       have : i = x.locks.length:=(by omega);rw [hi,this]; simp [zlM]
      rw [if_neg (by rw [hz]; simp)] at hk;clear hR;refine zkY ?_;refine zfK ?_;refine zf9 ?_;refine ⟨fun h => ?_,fun h => ?_⟩
      ·refine zfK ?_;refine zgX ?_;refine endV hH ?_;rw [if_pos (by omega)] at hk; exact hk
      ·rw [if_neg (by omega)] at hk;refine zgv ?_;refine zfK ?_;refine zhC ?_;refine zlI x.tries.length (fun i : Nat => [(7,iv i)]) (fun _ => _) (fun i => zlM (tryM x) x.tries = zlM (tryM x) (x.tries.drop i)) rfl (fun hHs hLt i hin hi R hR => ?_);refine zfK ?_;refine zf9 ?_;refine ⟨fun h2 => ?_,fun h2 => ?_⟩
       ·have hlt : i < x.tries.length:=(by omega);obtain ⟨y,hy⟩:=zaE hlt;have bad : ∀ {K : Prop},tryM x y = 3 -> (k (iv 3) H -> K) -> K:=fun e hK => hK (by
         rw [hi,zaZ hy,e,if_neg (by decide)] at hk; exact hk)
        refine zgv ?_;refine zhC ?_;refine zlw 17 ?_;simp only [seval,zh6 hy,zaz hlt];refine zmU _ (zlH (f96_c (x:=x) (by omega) ⟨rfl,rfl⟩)) ?_;(try simp only [seval]);refine znS (fun h3 => ?_) (fun h3 => ?_)
        ·simp only [Bool.not_eq_false',Bool.not_eq_true',Bool.not_true,Bool.not_false] at h3;(try simp only [seval,zh6 hy,zaz hlt]);refine zl6 ((f104_c (x:=x) (by omega) ?_));(try simp only [seval]);refine zf9 ?_;refine ⟨fun h4 => ?_,fun h4 => ?_⟩
         ·refine zfK ?_;refine zgX ?_;exact endV hH (bad (zoU (by rw [h3,h4]; rfl)) id)
         ·refine zgv ?_;refine zfK ?_;refine hR _ ⟨hlt,?_,?_⟩
          ·rw [hi,zaZ hy,if_pos (zpU (by rw [h3,h4]; rfl))]
          ·rw [zau _ (by omega)];exact zli
        ·simp only [Bool.not_eq_false',Bool.not_eq_true',Bool.not_true,Bool.not_false] at h3;(try simp only [seval]);refine zf9 ?_;refine zfK ?_;refine zgX ?_;exact endV hH (bad (zoU (by rw [h3]; rfl)) id)
       ·clear hR;refine zkY ?_;refine zfK ?_;refine zgX ?_;refine endV hH ?_;have : i = x.tries.length:=(by omega);rw [hi,this] at hk;simpa [zlM] using hk
theorem zoQ {xs : List Int} {i : Nat} {x n : Int} (h : xs[i]? = some x) : (xs.take (i + 1)).contains n = ((xs.take i).contains n || n == x):=by
 obtain ⟨hj,rfl⟩:=List.getElem?_eq_some_iff.1 h;rw [List.take_succ_eq_append_getElem hj,List.contains_eq_any_beq,List.contains_eq_any_beq,List.any_append];simp
theorem f131_c {xs : List Int} {n : Int} {e : End} (hx : xs.length < 2 ^ 60) (hk : k (bv (xs.contains n)) H) : FnC lv Tryz.prog 131 H [.sl xs.length (xs.map iv) e,iv n] k kp:=by
 refine zhQ (rs:=[.tmp 4]) (nt:=18) Tryz.f131 fun hH hA => ?_;simp only [zlx,Nat.reduceAdd];refine zfK ?_;refine zfK ?_;refine zhC ?_;refine zlI xs.length (fun i : Nat => [(5,iv i)]) (fun _ => _) (fun i => (xs.take i).contains n = false) (by simp) (fun hHs hLt i hin hi R hR => ?_);refine zfK ?_;refine zf9 ?_;refine ⟨fun h2 => ?_,fun h2 => ?_⟩
 ·have hlt : i < xs.length:=by omega
  obtain ⟨x,hx1⟩:=zaE hlt;have hct:=zoQ (n:=n) hx1;refine zgv ?_;refine zl5 ?_;simp only [seval,za2 hx1,zaz hlt];refine zf9 ?_;refine ⟨fun h3 => ?_,fun h3 => ?_⟩
  ·have h3 : x = n:=(by simpa using h3);refine zfK ?_;refine zgX ?_;have : xs.contains n = true:=(by rw [List.contains_iff_mem]; rw [<- h3]; exact zas hx1);rw [this] at hk;exact zao hk
  ·have h3 : ¬ x = n:=(by simpa using h3);refine zgv ?_;refine zfK ?_;refine hR _ ⟨hlt,by rw [hct,hi]; simp; omega,?_⟩;rw [zau _ (by omega)];exact zli
 ·have hix : i = xs.length:=by omega
  subst hix;rw [List.take_length] at hi;rw [hi] at hk;refine zkY ?_;refine zfK ?_;refine zgX ?_;exact zao hk
end
theorem zlW {l : List AV} {a b : AV} (h : Wk a b) : Wks (l ++ [a]) (l ++ [b]):=by
 induction l with
 | nil => exact .cons h .nil
 | cons x l ih => exact .cons (Wk.refl _) ih
theorem zlZ (n m k : Nat) (bs : List (List Int)) : Lt n (.sl m (bs.map aInts) (.opn k)) = (k < n):=by
 rw [zdq,eq_iff_iff];refine ⟨fun h => h.1,fun h => ⟨h,fun a ha => ?_⟩⟩;have:=zlv n bs;rw [znX,za3] at this;exact this.mpr trivial a ha
theorem zs1 : zlU (Value.slice none 0 0) 1 = [.sl 0 [] .exact]:=rfl
theorem zlC {α β : Type} {xs : List α} {i : Nat} {x : α} (f : α -> β) (h : xs[i]? = some x) : (xs.take (i + 1)).map f = (xs.take i).map f ++ [f x]:=by
 obtain ⟨hj,rfl⟩:=List.getElem?_eq_some_iff.1 h;rw [List.take_succ_eq_append_getElem hj,List.map_append]; rfl
theorem zlX {H : List AObj} (hH : HOk H) (n sz : Nat) (el : TypeId) : HOk (H ++ [.tail n sz el]):=zc6 hH fun z hz m => by rw [List.mem_singleton.1 hz]; trivial
section
variable {lv : Bool}
end
section
variable {lv : Bool} {H : List AObj} {k kp : AV -> List AObj -> Prop}
end
def zl1 (n : Nat) : Nat -> List (List Int)
 | 0 => [[]]
 | k + 1 => (List.range n).flatMap fun i : Nat => (zl1 n k).map ((i : Int) :: ·)
def zov (n kk j : Nat) : List (List Int):=(List.range j).flatMap fun i : Nat => (zl1 n kk).map ((i : Int) :: ·)
theorem zlA (n kk j : Nat) : zov n kk (j + 1) = zov n kk j ++ (zl1 n kk).map ((j : Int) :: ·):=by
 unfold zov;rw [List.range_succ,List.flatMap_append]; simp
theorem zeh : ∀ n,n <= 4 -> ∀ k,k <= 4 -> (zl1 n k).length <= 256 /\ ∀ r ∈ zl1 n k,r.length = k /\ ∀ i ∈ r,0 <= i /\ i < n:=by decide +kernel
theorem zlF (n kk : Nat) (h : (zl1 n kk).length <= 256) : ∀ j,(zov n kk j).length <= 256 * j
 | 0 => by simp [zov]
 | j + 1 => by
  have h1:=zlF n kk h j;rw [zlA,List.length_append,List.length_map]; omega
section
variable {lv : Bool}
end
section
variable {lv : Bool} {H : List AObj} {k kp : AV -> List AObj -> Prop}
theorem ziC (cuts : Int) (ds : List Int) (ls : List (List Band)) (j : Nat) : ∀ i,(zlP cuts ds ls i).testBit j = (decide (j < i) && (match ls[j]? with | some l => zmg (ds.take cuts.toNat) l | none => false))
 | 0 => by simp [zlP]
 | i + 1 => by
  have ih:=ziC cuts ds ls j i;have hlt:=zb5 cuts ds ls i;have hhi : (zlP cuts ds ls i).testBit i = false:=Nat.testBit_lt_two_pow hlt;unfold zlP;by_cases hji : j = i
  ·subst hji;cases hl : ls[j]? with
   | none => simp [hhi]
   | some l =>
    simp only;split
    ·rename_i hf; simp [Nat.testBit_or,Nat.testBit_two_pow_self,hf]
    ·rename_i hf; simp [hhi,hf]
  ·have hd : decide (j < i + 1) = decide (j < i):=(by congr 1; simp; omega);rw [hd];cases hl : ls[i]? with
   | none => exact ih
   | some l =>
    simp only;split
    ·rw [Nat.testBit_or,ih,Nat.testBit_two_pow_of_ne (Ne.symm hji),Bool.or_false]
    ·exact ih
end
theorem zlD {α : Type} {l : List α} {i : Nat} {a : α} (f : α -> Bool) (h : l[i]? = some a) : (l.take (i + 1)).all f = ((l.take i).all f && f a):=by
 obtain ⟨hj,rfl⟩:=List.getElem?_eq_some_iff.1 h;rw [List.take_succ_eq_append_getElem hj,List.all_append]; simp
section
variable {H : List AObj} {k kp : AV -> List AObj -> Prop}
end
section
variable {lv : Bool} {H : List AObj} {k kp : AV -> List AObj -> Prop}
end
section
variable {H : List AObj} {k kp : AV -> List AObj -> Prop}
end
section
variable {lv : Bool} {H : List AObj} {k kp : AV -> List AObj -> Prop}
theorem f98_c {xs : List Int} {n : Int} (hb : ∀ x ∈ xs,0 <= x /\ x <= 3) (hn : 0 <= n /\ n <= 3) (hl : xs.length <= 2 ^ 20) (hk : k (aInts (zlJ n xs)) H) : FnC lv Tryz.prog 98 H [aInts xs,iv n] k kp:=by
 refine zhQ (rs:=[.tmp 4]) (nt:=24) Tryz.f98 fun hH hA => ?_;simp only [zlx,Nat.reduceAdd,aInts];refine zfK ?_;refine zfK ?_
 (repeat apply zaa); refine zbV (t:=5) (sz:=1) (el:=3) (by simp only [seval] <;> rfl) ?_
 refine zfK ?_;refine zhC ?_;refine zaB xs.length (fun i : Nat => [(5,.sl i ((zlJ n (xs.take i)).map iv) (.opn H.length)),(6,iv i)]) (fun i => H ++ [.tail i 1 3]) (fun i => True) (fun _ _ => rfl) (by simp only [seval]; simp [zaf,Wk.refl]; exact Wk.refl _) rfl (fun _ _ _ => by simp) trivial (fun hHs hLt i hin hi R hR => ?_);refine zfK ?_;refine zf9 ?_;refine ⟨fun h => ?_,fun h => ?_⟩
 ·have hlt : i < xs.length:=by omega
  obtain ⟨x,hx⟩:=zaE hlt;have hxb:=hb x (zas hx);have hw : IntKind.i64.wrap (x - n) = x - n:=zau _ (by omega);have hw2 : IntKind.i64.wrap ((i : Int) + 1) = i + 1:=zau _ (by omega);have hmax : (if 0 < x - n then x - n else 0) = max 0 (x - n):=by omega
  have hwl : ((zlJ n (xs.take i)).map iv).length = i:=by simp [zlJ]; omega
  have hnext : (zlJ n (xs.take (i + 1))).map iv = (zlJ n (xs.take i)).map iv ++ [.val (.int .i64 (max 0 (x - n)))]:=by
   unfold zlJ;rw [List.map_map,zfA _ hx,List.map_map]; rfl
  refine zgv ?_;refine zl5 ?_;simp only [seval,z1,za2 hx,zaz hlt,hw,hmax,hwl]
  first | refine ⟨by omega,by omega,?_⟩ | refine ⟨by omega,?_⟩
  refine zl5 ?_;simp only [seval,hw2];refine hR _ ⟨hlt,trivial,?_⟩;rw [hnext];exact zli
 ·have hix : i = xs.length:=by omega
  subst hix;refine zkY ?_;refine zfK ?_;refine zgX ?_;rw [List.take_length];have hwl : (zlJ n xs).length = xs.length:=by simp [zlJ]
  rw [aInts,hwl] at hk;exact endA hH (zaK _ _ _) (by simp [za3,zap]) hk
end
section
variable {lv : Bool}
end
def zow (x : Ring) (m : Nat) (ds : List Int) : Bool:=(List.range (m + 1)).all fun n : Nat => zlP x.cuts (zlJ n ds) x.locks x.locks.length == 2 ^ x.locks.length - 1
def zmc (x : Ring) : Nat -> Option (List Int × Nat)
 | 0 => none
 | m + 1 => match zm1 x.cuts.toNat (zow x m) with
  | some d => some (d,m)
  | none => zmc x m
section
variable {lv : Bool} {H : List AObj} {k kp : AV -> List AObj -> Prop}
theorem f147_c {a r d : Nat} {x : Ring} {ds : List Int} {m : Nat} (hx : x.Ok) (hds : ds.length = 4) (hdb : ∀ w ∈ ds,0 <= w /\ w <= 3) (hm : m <= 2) (ha : H[a]? = some (.cells [iv m] 3)) (hr : H[r]? = some (.cells [.rp (x.l ++ zlz x)] 100)) (hd : H[d]? = some (.cells [uv (2 ^ x.locks.length - 1 : Nat)] 110)) (hk : k (bv (zow x m ds)) H) : FnC lv Tryz.prog 147 H [.agg (ds.map iv),.op a 0,.op r 0,.op d 0] k kp:=by
 refine zhQ (rs:=[.tmp 5]) (nt:=20) Tryz.f147 fun hH hA => ?_;simp only [zlx,Nat.reduceAdd];have hdl : (ds.map iv).length = 4:=by simp [hds]
 have htk : List.take 4 (ds.map iv) = ds.map iv:=List.take_of_length_le (by omega);have hc:=hx.cuts;have hl:=hx.locks;have hw : IntKind.i64.wrap ((m : Int) + 1) = m + 1:=zau _ (by omega);refine zfK ?_;refine zl5 ?_;simp only [seval,zay ha,hw];refine zhC ?_;refine zlI (m + 1) (fun i : Nat => [(9,iv i)]) (fun _ => _) (fun i => ((List.range i).all fun n : Nat => zlP x.cuts (zlJ n ds) x.locks x.locks.length == 2 ^ x.locks.length - 1) = true) rfl (fun hHs hLt i hin hi R hR => ?_);refine zfK ?_;refine zf9 ?_;refine ⟨fun h => ?_,fun h => ?_⟩
 ·have him : i < m + 1:=by omega
  have hwi : IntKind.i64.wrap ((i : Int) + 1) = i + 1:=zau _ (by omega);have hwl : (zlJ i ds).length = 4:=by simp [zlJ,hds]
  refine zgv ?_;refine zfK ?_;refine zlw 6 ?_;simp only [seval,zay hr,zay hd,hdl,htk];refine zmU (.agg ((zlJ i ds).map iv)) (zlH (f93_c hds hdb (by omega) ⟨rfl,rfl⟩)) ?_;refine zmU (uv (zlP x.cuts (zlJ i ds) x.locks x.locks.length)) (zlH (f139_c hwl (by omega) hl (fun l hl => by have:=(hx.lock l hl).1; omega) ⟨rfl,rfl⟩)) ?_;(try simp only [seval,zay hr,zay hd,hdl,htk]);refine zf9 ?_;refine ⟨fun h2 => ?_,fun h2 => ?_⟩
  ·refine zfK ?_;refine zgX ?_;have h3 : zow x m ds = false:=by
    refine Bool.eq_false_iff.2 fun e => ?_;have:=(List.all_eq_true.1 e) i (List.mem_range.2 him);rw [beq_iff_eq] at this;rw [this] at h2;simp at h2
   rw [h3] at hk;exact endA hH (Wk.refl _) (by simp [zap]) hk
  ·refine zgv ?_;refine zl5 ?_;simp only [seval,hwi];refine hR _ ⟨him,?_,zli⟩;rw [List.range_succ,List.all_append,hi,Bool.true_and];have h3 : ((zlP x.cuts (zlJ i ds) x.locks x.locks.length : Nat) : Int) = ((2 ^ x.locks.length - 1 : Nat) : Int):=(by simpa using h2);have h4:=Int.ofNat_inj.1 h3;simp [h4]
 ·have hie : i = m + 1:=by omega
  subst hie;refine zkY ?_;refine zfK ?_;refine zgX ?_;have h3 : zow x m ds = true:=hi;rw [h3] at hk;exact endA hH (Wk.refl _) (by simp [zap]) hk
theorem zpX {a r d : Nat} {x : Ring} {m : Nat} (hx : x.Ok) (hm : m <= 2) (ha : H[a]? = some (.cells [iv m] 3)) (hr : H[r]? = some (.cells [.rp (x.l ++ zlz x)] 100)) (hd : H[d]? = some (.cells [uv (2 ^ x.locks.length - 1 : Nat)] 110)) : DoC lv H (.fn (.func 147) [] [.op a 0,.op r 0,.op d 0]) (zow x m):=fun L ds k kp h1 h2 h =>
 zlH (f147_c hx h1 h2 hm (zay ha) (zay hr) (zay hd) h)
def zof (i : Nat) : List AObj:=(List.range i).map fun j : Nat => .cells [iv (2 - (j : Int))] 3
def zmK (H : List AObj) (x : Ring) (i : Nat) : List AObj:=(H ++ [.cells x.l 26,.cells [.rp (x.l ++ zlz x)] 100,.cells [uv (2 ^ x.locks.length - 1 : Nat)] 110]) ++ zof i
def zod (H : List AObj) (x : Ring) (i : Nat) : AS:=⟨[(5,.op (H.length + 1) 0),(7,.op (H.length + 2) 0),(8,.op (H.length + 3 + i) 0)],zmK H x i ++ [.cells [iv (2 - (i : Int))] 3]⟩
theorem zoe (H : List AObj) (x : Ring) (i : Nat) : (zmK H x i).length = H.length + 3 + i:=by simp [zmK,zof]; omega
theorem zoZ (H : List AObj) (x : Ring) (i : Nat) : zmK H x (i + 1) = zmK H x i ++ [.cells [iv (2 - (i : Int))] 3]:=by
 unfold zmK zof; rw [List.range_succ,List.map_append,List.append_assoc,List.append_assoc]; simp
theorem f76_c {x : Ring} (hnr : zme lv) (hmain : H[0]? = some .main) (hs : x.Small) (h1 : zmb x none ≠ 0 -> k (.tup [.sl 0 [] .exact,iv 0,iv (zmb x none)]) H) (h2 : zmb x none = 0 -> zmc x 3 = none -> k (.tup [.sl 0 [] .exact,iv 0,iv 11]) H) (h3 : zmb x none = 0 -> ∀ d m,zmc x 3 = some (d,m) -> k (.tup [aInts d,iv m,iv 0]) H) : FnC lv Tryz.prog 76 H [x.av] k kp:=by
 have hmn : ∀ L : List AObj,(H ++ L)[0]? = some .main:=fun L => zay hmain;refine zhQ (rs:=[.tmp 2,.tmp 3,.tmp 4]) (nt:=41) Tryz.f76 fun hH hA => ?_;simp only [zlx,Nat.reduceAdd,Ring.av];refine zl5 ?_;simp only [seval,Ring.l];refine zfK ?_;refine zl6 ((f87_c hnr (hmn _) hs zbA (fun hz => ?_) (fun hz => ?_)))
 ·(try simp only [seval]);refine zfK ?_;refine zf9 ?_;refine ⟨fun h => ?_,fun h => absurd (by simpa using h) hz⟩;refine zfK ?_;refine zgX ?_;exact endA hH (Wk.refl _) (by simp [zap,zaD,zbh]) (h1 hz)
 ·(try simp only [seval]);refine zfK ?_;have hx:=zbp hz;have h2:=h2 hz;have h3:=h3 hz;have hl4:=hx.locks;have hlk : x.l ++ zlz x = iv x.cuts :: zmd x.keys :: zlO x.locks :: zlT x.tries :: zlz x:=rfl;refine zf9 ?_;refine zgv ?_;refine zl5 ?_;simp only [seval,hlk,zlO,ziv,zp5 hl4];refine zfK ?_;refine zhC ?_;refine zpx (measure fun i => 4 - i).wf (zod H x) (fun i => i <= 3 /\ zmc x 3 = zmc x (3 - i)) 0 ⟨fun t' a e => zh2 (by unfold zod; simp only [seval]; simp [zaf,Wk.refl]) e,by simp [zod,zmK,zof,Ring.l,zlO]⟩ ⟨by omega,rfl⟩ (fun i _ => by simp only [zod,List.length_append,zoe]; simp) (fun i hok => ?_);obtain ⟨hi3,hmt⟩:=hok;have hsuc:=zoZ H x i;have hE : ∀ G : List AObj,∃ G',zmK H x i ++ G = H ++ G':=fun G => ⟨[.cells x.l 26,.cells [.rp (x.l ++ zlz x)] 100,.cells [uv (2 ^ x.locks.length - 1 : Nat)] 110] ++ zof i ++ G,by simp [zmK]⟩;have hKl:=zoe H x i;have g1 : (zmK H x i)[H.length + 1]? = some (.cells [.rp (x.l ++ zlz x)] 100):=zay (zbD H _ 1);have g2 : (zmK H x i)[H.length + 2]? = some (.cells [uv (2 ^ x.locks.length - 1 : Nat)] 110):=zay (zbD H _ 2);unfold zod;generalize zmK H x i = K at hKl g1 g2 hsuc hE ⊢;rw [<- hKl];refine zfK ?_;refine zf9 ?_;refine ⟨fun h => ?_,fun h => ?_⟩
  ·have hi2 : i <= 2:=by
    have : (0 : Int) <= 2 - i:=(by simpa using h);omega
   have hm : (2 : Int) - i = ((2 - i : Nat) : Int):=(by omega);have hm1 : IntKind.i64.wrap (((2 - i : Nat) : Int) - 1) = 2 - ((i + 1 : Nat) : Int):=(by rw [zau _ (by omega)]; omega);have h3i : 3 - i = (2 - i) + 1:=(by omega);have hmt:=hmt.trans (show zmc x (3 - i) = match zm1 x.cuts.toNat (zow x (2 - i)) with
    | some d => some (d,2 - i)
    | none => zmc x (2 - i) from by rw [h3i]; rfl)
   rw [hm];refine zgv ?_;refine zl5 ?_;simp only [seval,zay g1,List.mapM_cons,List.mapM_nil,Option.pure_def,Option.bind_eq_bind];refine zl6 ((f137_c hx (zpX (a:=K.length) (r:=H.length + 1) (d:=H.length + 2) (m:=2 - i) hx (by omega) (by simp only [seval] <;> rfl) (zay g1) (zay g2)) ?_));(try simp only [seval]);refine zfK ?_;refine zf9 ?_;cases hf : zm1 x.cuts.toNat (zow x (2 - i)) with
   | some d =>
    rw [hf] at hmt;refine ⟨fun h4 => ?_,fun h4 => by simp at h4⟩;refine zlw 3 ?_;simp only [seval];refine zgX ?_;obtain ⟨G,hG⟩:=hE [.cells [iv ((2 - i : Nat) : Int)] 3];simp only [iv] at hG;rw [hG];exact endA hH (Wk.refl _) (by simp [zap,zaD,zbi]) (h3 d (2 - i) hmt)
   | none =>
    rw [hf] at hmt;refine ⟨fun h4 => by simp at h4,fun h4 => ?_⟩;refine zgv ?_;refine zfK ?_;refine zfK ?_;refine zl5 ?_;simp only [seval,hm1];have h8 : H.length + 3 + (i + 1) = K.length + 1:=(by omega);refine ⟨i + 1,by show 4 - (i + 1) < 4 - i; omega,⟨by omega,hmt.trans (by rw [show 3 - (i + 1) = 2 - i by omega])⟩,.inl ⟨fun t' a e => zh2 (T':=[(5,.op (H.length + 1) 0),(7,.op (H.length + 2) 0),(8,.op (H.length + 3 + (i + 1)) 0)]) (by rw [h8]; simp only [seval]; simp [zaf,Wk.refl]) e,?_⟩⟩;show _ = zmK H x (i + 1) ++ [.cells [iv (2 - ((i + 1 : Nat) : Int))] 3];rw [hsuc,hm];simp
  ·have hi2 : i = 3:=by
    have : ¬ (0 : Int) <= 2 - i:=(by simpa using h);omega
   subst hi2;refine zkY ?_;refine zfK ?_;refine zgX ?_;obtain ⟨G,hG⟩:=hE [.cells [iv (-1)] 3];simp only [iv] at hG;rw [hG];exact endA hH (Wk.refl _) (by simp [zap,zaD,zbh]) (h2 hmt)
end
def allW (x : Ring) (t : List Int) (w : Nat) : Bool:=x.locks.all fun l => zmg (zlJ w t) l
def zmL (x : Ring) (t : List Int) : Nat -> Int
 | 0 => -1
 | w + 1 => if zmL x t w = (w : Int) - 1 /\ allW x t w = true then w else zmL x t w
theorem zn8 (x : Ring) (t : List Int) : zmL x t 3 = if allW x t 0 then (if allW x t 1 then (if allW x t 2 then 2 else 1) else 0) else -1:=by
 simp only [zmL];by_cases h0 : allW x t 0 = true <;> by_cases h1 : allW x t 1 = true <;> by_cases h2 : allW x t 2 = true <;> simp [h0,h1,h2]
theorem zpe (cuts : Int) (ds : List Int) (ls : List (List Band)) : (zlP cuts ds ls ls.length == 2 ^ ls.length - 1) = ls.all fun l => zmg (ds.take cuts.toNat) l:=by
 rw [Bool.eq_iff_iff,beq_iff_eq,List.all_eq_true];refine ⟨fun e l hl => ?_,fun h => Nat.eq_of_testBit_eq fun j => ?_⟩
 ·obtain ⟨j,hj⟩:=List.mem_iff_getElem?.1 hl;have hjl:=get_lt hj;have:=ziC cuts ds ls j ls.length;rw [e,Nat.testBit_two_pow_sub_one,hj] at this;simpa [hjl] using this
 ·rw [ziC,Nat.testBit_two_pow_sub_one];by_cases hjl : j < ls.length
  ·obtain ⟨l,hl⟩:=zaE hjl;rw [hl]; simp [hjl,h l (zas hl)]
  ·simp [hjl]
theorem zpP : ∀ c,c <= 4 -> ((List.range (4 ^ c)).map (digs c)).map (·.take c) = zl1 4 c:=by decide +kernel
theorem zn1 {c : Nat} (hc : c <= 4) (g : List Int -> Bool) : zm1 c (fun d => g (d.take c)) = (zl1 4 c).find? g:=by
 unfold zm1; rw [<- zpP c hc,List.find?_map (f:=fun d : List Int => d.take c)]; rfl
theorem zrw {x : Ring} {m : Nat} (hm : m <= 2) (ds : List Int) : zow x m ds = decide ((m : Int) <= zmL x (ds.take x.cuts.toNat) 3):=by
 have h : ∀ n : Nat,(zlP x.cuts (zlJ n ds) x.locks x.locks.length == 2 ^ x.locks.length - 1) = allW x (ds.take x.cuts.toNat) n:=fun n => by
  rw [zpe];unfold allW;congr 1;funext l;unfold zlJ;rw [List.map_take]
 unfold zow;simp only [h];rw [zn8];have : m = 0 \/ m = 1 \/ m = 2:=by omega
 rcases this with rfl | rfl | rfl <;> simp only [List.range_succ,List.range_zero,List.nil_append,List.cons_append,List.all_cons,List.all_nil,Bool.and_true] <;> generalize ds.take x.cuts.toNat = t <;> by_cases h0 : allW x t 0 = true <;> by_cases h1 : allW x t 1 = true <;> by_cases h2 : allW x t 2 = true <;> simp [h0,h1,h2]
theorem zoh {x : Ring} (hc : x.cuts.toNat <= 4) {m : Nat} (hm : m <= 2) : zm1 x.cuts.toNat (zow x m) = (zl1 4 x.cuts.toNat).find? fun t => decide ((m : Int) <= zmL x t 3):=by
 rw [<- zn1 hc];congr 1;funext ds;exact zrw hm ds
def zms (x : Ring) (L : List (List Int)) : Nat -> Int × Int
 | 0 => (-1,-1)
 | i + 1 => if (zms x L i).2 < zmL x (L.getD i []) 3 then ((i : Int),zmL x (L.getD i []) 3) else zms x L i
theorem zog (x : Ring) (t : List Int) : -1 <= zmL x t 3 /\ zmL x t 3 <= 2:=by
 rw [zn8]; by_cases h0 : allW x t 0 = true <;> by_cases h1 : allW x t 1 = true <;> by_cases h2 : allW x t 2 = true <;> simp [h0,h1,h2]
theorem znL (x : Ring) (L : List (List Int)) : ∀ i,(∀ j < i,zmL x (L.getD j []) 3 <= (zms x L i).2) /\ (((zms x L i).1 = -1 /\ (zms x L i).2 = -1) \/ ∃ n : Nat,(zms x L i).1 = n /\ n < i /\ (zms x L i).2 = zmL x (L.getD n []) 3 /\ 0 <= (zms x L i).2 /\ ∀ j < n,zmL x (L.getD j []) 3 < (zms x L i).2)
 | 0 => ⟨fun j h => absurd h (Nat.not_lt_zero _),.inl ⟨rfl,rfl⟩⟩
 | i + 1 => by
  obtain ⟨h1,h2⟩:=znL x L i;have hr:=zog x (L.getD i []);unfold zms;by_cases h : (zms x L i).2 < zmL x (L.getD i []) 3
  ·rw [if_pos h];simp only;have hb : -1 <= (zms x L i).2:=by
    rcases h2 with ⟨_,h3⟩ | ⟨n,_,_,_,h3,_⟩ <;> omega
   refine ⟨fun j hj => ?_,.inr ⟨i,rfl,by omega,rfl,by omega,fun j hj => ?_⟩⟩
   ·by_cases e : j = i
    ·rw [e]; exact Int.le_refl _
    ·have:=h1 j (by omega); omega
   ·have:=h1 j hj; omega
  ·rw [if_neg h];refine ⟨fun j hj => ?_,h2.imp id fun ⟨n,q1,q2,q3⟩ => ⟨n,q1,by omega,q3⟩⟩;by_cases e : j = i
   ·rw [e]; omega
   ·exact h1 j (by omega)
theorem zmJ {x : Ring} (hc : x.cuts.toNat <= 4) {m : Nat} (hm : m <= 2) (h : ∀ t ∈ zl1 4 x.cuts.toNat,zmL x t 3 < m) : zmc x (m + 1) = zmc x m:=by
 rw [zmc,zoh hc hm,zdt fun t ht => by have:=h t ht; simp; omega]
theorem zpL {x : Ring} (hc : x.cuts.toNat <= 4) {m n : Nat} {t : List Int} (hm : m <= 2) (ht : (zl1 4 x.cuts.toNat)[n]? = some t) (h1 : (m : Int) <= zmL x t 3) (h2 : ∀ j < n,zmL x ((zl1 4 x.cuts.toNat).getD j []) 3 < m) : zmc x (m + 1) = some (t,m):=by
 rw [zmc,zoh hc hm,zfN (j:=n) (x:=t) ht (by simpa using h1) fun y hy => ?_];obtain ⟨j,hj⟩:=List.mem_iff_getElem?.1 hy;rw [List.getElem?_take] at hj;split at hj
 ·rename_i hjn;have:=h2 j hjn;rw [List.getD_eq_getElem?_getD,hj,Option.getD_some] at this;simp; omega
 ·cases hj
theorem zoD {x : Ring} (hc : x.cuts.toNat <= 4) {b m : Int} (hb : zms x (zl1 4 x.cuts.toNat) (zl1 4 x.cuts.toNat).length = (b,m)) : (b < 0 -> zmc x 3 = none) /\ (0 <= b -> ∃ (n k : Nat) (t : List Int),b = n /\ m = k /\ (zl1 4 x.cuts.toNat)[n]? = some t /\ zmc x 3 = some (t,k)):=by
 obtain ⟨h1,h2⟩:=znL x (zl1 4 x.cuts.toNat) (zl1 4 x.cuts.toNat).length;rw [hb] at h1 h2;simp only at h1 h2;have hall : ∀ t ∈ zl1 4 x.cuts.toNat,zmL x t 3 <= m:=fun t ht => by
  obtain ⟨j,hj⟩:=List.mem_iff_getElem?.1 ht;have:=h1 j (get_lt hj);rwa [List.getD_eq_getElem?_getD,hj,Option.getD_some] at this
 refine ⟨fun hn => ?_,fun hn => ?_⟩
 ·rcases h2 with ⟨_,rfl⟩ | ⟨n,rfl,_⟩
  ·rw [zmJ hc (by omega) fun t ht => by have:=hall t ht; omega,zmJ hc (by omega) fun t ht => by have:=hall t ht; omega,zmJ hc (by omega) fun t ht => by have:=hall t ht; omega];rfl
  ·omega
 ·rcases h2 with ⟨rfl,_⟩ | ⟨n,rfl,hnl,hm,hm0,hlt⟩
  ·omega
  ·obtain ⟨t,ht⟩:=zaE hnl;rw [List.getD_eq_getElem?_getD,ht,Option.getD_some] at hm;have hr:=zog x t;obtain ⟨k,rfl⟩ : ∃ k : Nat,m = k:=⟨m.toNat,by omega⟩;refine ⟨n,k,t,rfl,rfl,ht,?_⟩;have hhit:=zpL hc (m:=k) (by omega) ht (by omega) hlt;have : k = 0 \/ k = 1 \/ k = 2:=(by omega);rcases this with rfl | rfl | rfl
   ·rw [zmJ hc (by omega) fun t ht => by have:=hall t ht; omega,zmJ hc (by omega) fun t ht => by have:=hall t ht; omega,hhit]
   ·rw [zmJ hc (by omega) fun t ht => by have:=hall t ht; omega,hhit]
   ·exact hhit
theorem zpj {x : Ring} : ∀ (l : List Int) (due : Nat),(∀ v ∈ l,0 <= v /\ v < x.locks.length) -> l.Nodup -> (∀ v ∈ l,due.testBit v.toNat = false) -> (cutS x l due).2 = none /\ ∀ j : Nat,(cutS x l due).1.testBit j = (due.testBit j || decide ((j : Int) ∈ l))
 | [],due,_,_,_ => ⟨rfl,fun j => by simp [cutS]⟩
 | n :: l,due,h1,h2,h3 => by
  obtain ⟨hn0,hn1⟩:=h1 n List.mem_cons_self;obtain ⟨hnl,hl⟩:=List.nodup_cons.1 h2;have hin : inM n 0 (x.locks.length - 1) = true:=zbU.2 ⟨hn0,by omega⟩;rw [cutS,if_pos hin,h3 n List.mem_cons_self];simp only [Bool.false_eq_true,if_false];obtain ⟨q1,q2⟩:=zpj l (due ||| 2 ^ n.toNat) (fun v hv => h1 v (List.mem_cons_of_mem _ hv)) hl fun v hv => by
   have hv0:=(h1 v (List.mem_cons_of_mem _ hv)).1;have hne : n.toNat ≠ v.toNat:=fun e => hnl ((show n = v by omega) ▸ hv);rw [Nat.testBit_or,h3 v (List.mem_cons_of_mem _ hv),Nat.testBit_two_pow_of_ne hne]; rfl
  refine ⟨q1,fun j => ?_⟩;rw [q2,Nat.testBit_or,Bool.or_assoc];congr 1;by_cases e : n.toNat = j
  ·subst e;have : ((n.toNat : Nat) : Int) = n:=(by omega);rw [Nat.testBit_two_pow_self,this]; simp
  ·have : ¬ ((j : Int) = n):=(by omega);rw [Nat.testBit_two_pow_of_ne e]; simp [this]
def zqb (x : Ring) (l t : List Int) : Bool:=(List.range x.locks.length).all fun j : Nat => zmg t (x.locks.getD j []) == decide ((j : Int) ∈ l)
theorem zrx {x : Ring} {l ds : List Int} (h1 : ∀ v ∈ l,0 <= v /\ v < x.locks.length) (h2 : l.Nodup) : (zlP x.cuts ds x.locks x.locks.length == (cutS x l 0).1) = zqb x l (ds.take x.cuts.toNat):=by
 have hb:=(zpj (x:=x) l 0 h1 h2 fun v _ => Nat.zero_testBit _).2;simp only [Nat.zero_testBit,Bool.false_or] at hb;unfold zqb;rw [Bool.eq_iff_iff,beq_iff_eq,List.all_eq_true];refine ⟨fun e j hj => ?_,fun h => Nat.eq_of_testBit_eq fun j => ?_⟩
 ·have hjl:=List.mem_range.1 hj;obtain ⟨lk,hlk⟩:=zaE hjl;have:=ziC x.cuts ds x.locks j x.locks.length;rw [e,hb,hlk] at this;rw [List.getD_eq_getElem?_getD,hlk,Option.getD_some,this];simp [hjl]
 ·rw [ziC,hb];by_cases hjl : j < x.locks.length
  ·obtain ⟨lk,hlk⟩:=zaE hjl;have:=h j (List.mem_range.2 hjl);rw [List.getD_eq_getElem?_getD,hlk,Option.getD_some,beq_iff_eq] at this;rw [hlk,<- this]; simp [hjl]
  ·have : ¬ ((j : Int) ∈ l):=fun hm => (by have:=h1 _ hm; omega);simp [hjl,this]
theorem zpK {x : Ring} {l : List Int} (hc : x.cuts.toNat <= 4) (h1 : ∀ v ∈ l,0 <= v /\ v < x.locks.length) (h2 : l.Nodup) : znb x l = (zl1 4 x.cuts.toNat).find? (zqb x l):=by
 unfold znb;rw [<- zn1 hc];congr 1;funext ds;exact zrx h1 h2
section
variable {H : List AObj} {k kp : AV -> List AObj -> Prop}
end
section
variable {lv : Bool} {H : List AObj} {k kp : AV -> List AObj -> Prop}
theorem f59_c {xs : List Band} {e : End} (hl : xs.length <= 2 ^ 30) (hk : k (aBands xs) H) : FnC lv Tryz.prog 59 H [.sl xs.length (xs.flatMap Band.l) e] k kp:=by
 refine zhQ (rs:=[.tmp 2]) (nt:=6) Tryz.f59 fun hH hA => ?_;simp only [zlx,Nat.reduceAdd];have hlen : (xs.flatMap Band.l).length = xs.length * 2:=zld xs;have htake : (xs.flatMap Band.l).take (xs.length * 2) = xs.flatMap Band.l:=List.take_of_length_le (by omega);refine zfK ?_;refine zl5 ?_;simp only [seval,htake,hlen];refine ⟨hl,?_⟩;refine zgX ?_;exact endA (b:=aBands xs) hH (zaK _ _ _) (by rw [zfD]; trivial) hk
theorem zoO {ks : List Key} {i : Nat} {y : Key} (h : ks[i]? = some y) : (ks.take (i + 1)).flatMap Key.l = (ks.take i).flatMap Key.l ++ y.l:=by
 obtain ⟨hj,rfl⟩:=List.getElem?_eq_some_iff.1 h;rw [List.take_succ_eq_append_getElem hj,List.flatMap_append]; simp
theorem zou {ls : List (List Band)} {i : Nat} {l : List Band} (h : ls[i]? = some l) : (ls.take (i + 1)).map aBands = (ls.take i).map aBands ++ [aBands l]:=by
 obtain ⟨hj,rfl⟩:=List.getElem?_eq_some_iff.1 h;rw [List.take_succ_eq_append_getElem hj,List.map_append]; simp
def krO (N : Nat) (x : Ring) (z : AObj) (nk : Nat) (kl : List AV) (tk nl : Nat) (ll : List AV) (tl : Nat) : List AObj:=[.cells x.l 26,z,.cells [iv x.cuts,.sl nk kl (.opn (N + 3)),.sl nl ll (.opn (N + 4)),zlT x.tries] 26,.tail tk 3 65,.tail tl 1 29]
theorem f50_c {xs : List Int} {e : End} (hl : xs.length <= 2 ^ 30) (hk : k (aInts xs) H) : FnC lv Tryz.prog 50 H [.sl xs.length (xs.map iv) e] k kp:=by
 refine zhQ (rs:=[.tmp 2]) (nt:=6) Tryz.f50 fun hH hA => ?_;simp only [zlx,Nat.reduceAdd];have hlen : (xs.map iv).length = xs.length:=by simp
 have htake : (xs.map iv).take xs.length = xs.map iv:=List.take_of_length_le (by omega);refine zfK ?_;refine zl5 ?_;simp only [seval,htake,hlen];refine ⟨hl,?_⟩;refine zgX ?_;exact endA (b:=aInts xs) hH (zaK _ _ _) (by rw [zbi]; trivial) hk
theorem f28_g {x : Ring} (hs : x.Small) (hk : HOk H -> zmu H.length (H ++ krO H.length x (.cells [iv x.cuts,.sl x.keys.length (x.keys.flatMap Key.l) (.opn (H.length + 3)),.sl x.locks.length (x.locks.map aBands) (.opn (H.length + 4)),zlT x.tries] 26) x.keys.length (x.keys.flatMap Key.l) x.keys.length x.locks.length (x.locks.map aBands) x.locks.length) (.agg [iv x.cuts,.sl x.keys.length (x.keys.flatMap Key.l) (.opn (H.length + 3)),.sl x.locks.length (x.locks.map aBands) (.opn (H.length + 4)),zlT x.tries]) k) : FnC lv Tryz.prog 28 H [x.av] k kp:=by
 refine zhQ (rs:=[.cell 2 26]) (nt:=58) Tryz.f28 fun hH hA => ?_;simp only [zlx,Nat.reduceAdd,Ring.av];have hk:=hk hH;have htln:=zf5 x.tries;have htake : (x.tries.flatMap Try.l).take (x.tries.length * 3) = x.tries.flatMap Try.l:=List.take_of_length_le (by omega);refine zl5 ?_;simp only [seval,Ring.l];refine zmo [7,8] [0,1,2,3,4,5,6,7,8] [⟨0,false,[],[([7],[7])]⟩,⟨1,false,[],[([7],[7])]⟩,⟨2,false,[],[([7],[7])]⟩,⟨3,false,[],[([7],[7])]⟩,⟨4,false,[],[([7],[7])]⟩,⟨5,false,[],[([7],[7])]⟩,⟨6,false,[],[([7],[7])]⟩,⟨7,true,[7],[]⟩,⟨8,true,[7,8],[]⟩] (fun D => H ++ (.cells [iv x.cuts,zmd x.keys,zlO x.locks,zlT x.tries] 26 :: .cells [iv 0,.sl 0 [] .exact,.sl 0 [] .exact,.sl 0 [] .exact] 26 :: (bif zl9 8 D then [.cells [iv x.cuts,.sl 0 [] .exact,.sl 0 [] .exact,zlT x.tries] 26] else bif zl9 7 D then [.cells [iv 0,.sl 0 [] .exact,.sl 0 [] .exact,.sl 0 [] .exact] 26] else []))) ?_;simp only [seval,htake,htln,zlT];have hts:=hs.tries;refine ⟨by omega,by omega,?_⟩
 (repeat apply zaa); refine zdw (id:=H.length + 2) (j:=1) (sz:=3) (el':=65) (by simp only [seval] <;> rfl) rfl ?_
 try simp only [seval]
 (repeat apply zaa); refine zdw (id:=H.length + 2) (j:=2) (sz:=1) (el':=29) (by simp only [seval] <;> rfl) rfl ?_
 (try simp only [seval]);refine zfK ?_;have hks:=hs.keys;have hls:=hs.locks;have w1 : ∀ i : Nat,i <= 2 ^ 31 -> IntKind.i64.wrap ((i : Int) + 1) = i + 1:=fun i _ => zau _ (by omega);refine zhC ?_;refine zaB x.keys.length (fun i : Nat => [(4,iv i)]) (fun i => H ++ krO H.length x (.cells [iv 0,.sl 0 [] .exact,.sl 0 [] .exact,.sl 0 [] .exact] 26) i ((x.keys.take i).flatMap Key.l) i 0 [] 0) (fun _ => True) (fun _ _ => rfl) (by simp only [seval]; simp [zaf,Wk.refl]) rfl (fun _ _ _ => by simp [krO]) trivial (fun hHs hLt i hin hi R hR => ?_);clear hHs hLt;refine zl5 ?_;simp only [seval,zmd,krO,Ring.l];refine zf9 ?_;refine ⟨fun h => ?_,fun h => ?_⟩
 ·have hil : i < x.keys.length:=by omega
  obtain ⟨y,hy⟩:=zaE hil;have hyc:=hs.cuts y (zas hy);have hwi:=w1 i (by omega);have hkl : ((x.keys.take i).flatMap Key.l).length = i * 3:=by rw [zps,List.length_take]; omega
  have hsu:=zoO hy;refine zgv ?_;refine zhC ?_;refine zlw 17 ?_;simp only [seval,zc2 hy,zaz hil,hkl,zk3,zd5,aInts];refine zmU (aInts y.cuts) (zlH (f50_c (xs:=y.cuts) (by omega) ⟨rfl,rfl⟩)) ?_;(try simp only [seval,zc2 hy,zaz hil,hkl,zk3,zd5,aInts]);refine ⟨by omega,?_⟩;refine zl5 ?_;simp only [seval,hwi];refine hR _ ⟨hil,trivial,?_⟩;rw [hsu];exact zli
 ·have hix : i = x.keys.length:=by omega
  subst hix;clear hR;rw [List.take_length];refine zkY ?_;refine zfK ?_;refine zhC ?_;refine zaB x.locks.length (fun i : Nat => [(5,iv i)]) (fun i => H ++ krO H.length x (.cells [iv 0,.sl 0 [] .exact,.sl 0 [] .exact,.sl 0 [] .exact] 26) x.keys.length (x.keys.flatMap Key.l) x.keys.length i ((x.locks.take i).map aBands) i) (fun _ => True) (fun _ _ => rfl) (by simp only [seval]; simp [zaf,Wk.refl]) rfl (fun _ _ _ => by simp [krO]) trivial (fun hHs hLt i hin hi R hR => ?_);clear hHs hLt;refine zl5 ?_;simp only [seval,zlO,krO,Ring.l];refine zf9 ?_;refine ⟨fun h => ?_,fun h => ?_⟩
  ·have hil : i < x.locks.length:=(by omega);obtain ⟨l,hl⟩:=zaE hil;have hlb:=hs.bands l (zas hl);have hwi:=w1 i (by omega);have hml : ((x.locks.take i).map aBands).length = i:=(by rw [List.length_map,List.length_take]; omega);have hzs1 : zlU (Value.slice none 0 0) 1 = [.sl 0 [] .exact]:=rfl;have hsu:=zou hl;refine zgv ?_;refine zhC ?_;refine zlw 9 ?_;simp only [seval,zfu hl,zaz hil,hml,hzs1,zhq];refine zmU (aBands l) (zlH (f59_c (xs:=l) (by omega) ⟨rfl,rfl⟩)) ?_;(try simp only [seval,zfu hl,zaz hil,hml,hzs1,zhq,zho]);refine ⟨by omega,?_⟩;refine zl5 ?_;simp only [seval,hwi];refine hR _ ⟨hil,trivial,?_⟩;rw [hsu];exact zli
  ·have hix : i = x.locks.length:=(by omega);subst hix;clear hR;rw [List.take_length];refine zkY ?_;refine zl5 ?_;simp only [seval,krO,Ring.l];refine zgX ?_;exact hk
theorem f28_l {x : Ring} (hs : x.Small) (hk : k (.agg [iv x.cuts,zmd x.keys,.sl x.locks.length (x.locks.map aBands) (.opn (H.length + 4)),zlT x.tries]) (H ++ krO H.length x (.cells [iv x.cuts,.sl x.keys.length (x.keys.flatMap Key.l) (.opn (H.length + 3)),.sl x.locks.length (x.locks.map aBands) (.opn (H.length + 4)),zlT x.tries] 26) x.keys.length (x.keys.flatMap Key.l) x.keys.length x.locks.length (x.locks.map aBands) x.locks.length)) : FnC lv Tryz.prog 28 H [x.av] k kp :=
 f28_g hs fun _ => ⟨_,zhX (.cons (Wk.refl _) (.cons (zaK _ _ _) (.cons (Wk.refl _) (.cons (Wk.refl _) .nil)))),.inl hk⟩
def zot (x : Ring) : Bool:=decide (20 < x.keys.length) || decide (20 < x.locks.length) || decide (20 < x.tries.length) || (x.keys.any fun y => decide (20 < y.cuts.length)) || x.locks.any fun l => decide (20 < l.length)
theorem zpg {x : Ring} (h : zot x = false) : x.Small /\ x.keys.length <= 20 /\ x.locks.length <= 20 /\ x.tries.length <= 20 /\ (∀ y ∈ x.keys,y.cuts.length <= 20) /\ ∀ l ∈ x.locks,l.length <= 20:=by
 unfold zot at h;simp only [Bool.or_eq_false_iff,decide_eq_false_iff_not,List.any_eq_false,decide_eq_true_iff] at h;obtain ⟨⟨⟨⟨h1,h2⟩,h3⟩,h4⟩,h5⟩:=h;exact ⟨⟨by omega,by omega,by omega,fun y hy => by have:=h4 y hy; omega,fun y hy => by have:=h5 y hy; omega⟩,by omega,by omega,by omega,fun y hy => by have:=h4 y hy; omega,fun y hy => by have:=h5 y hy; omega⟩
theorem zqp {α : Type} {p : α -> Bool} {l : List α} {i : Nat} {a : α} (h : l[i]? = some a) (hp : p a = true) : l.any p = true:=List.any_eq_true.2 ⟨a,zas h,hp⟩
theorem zo9 {y : Ring} {r : Try} (h : y.Small) (ht : y.tries.length <= 20) : (zpD y r).Small:=⟨h.keys,h.locks,by show (y.tries ++ [r]).length < _; simp; omega,h.cuts,h.bands⟩
theorem zoT {y : Ring} {l : List Band} (h : y.Small) (ht : y.locks.length <= 20) (hl : l.length < 2 ^ 30) : (Ring.mk y.cuts y.keys (y.locks ++ [l]) y.tries).Small:=⟨h.keys,by show (y.locks ++ [l]).length < _; simp; omega,h.tries,h.cuts,fun z hz => by
 rcases List.mem_append.1 hz with hz | hz
 ·exact h.bands z hz
 ·rw [List.mem_singleton.1 hz]; exact hl⟩
theorem f24_c {x : Ring} (hk : k (bv (zot x)) H) : FnC lv Tryz.prog 24 H [x.av] k kp:=by
 refine zhQ (rs:=[.tmp 2]) (nt:=50) Tryz.f24 fun hH hA => ?_;simp only [zlx,Nat.reduceAdd,Ring.av,Ring.l,zmd,zlO,zlT];have d1 : decide ((20 : Int) < x.keys.length) = decide (20 < x.keys.length):=by rw [decide_eq_decide]; omega
 have d2 : decide ((20 : Int) < x.locks.length) = decide (20 < x.locks.length):=by rw [decide_eq_decide]; omega
 have d3 : decide ((20 : Int) < x.tries.length) = decide (20 < x.tries.length):=by rw [decide_eq_decide]; omega
 have hyes : ∀ {L : List AObj},zot x = true -> zmu H.length (H ++ L) (.val (.bool true)) k:=fun h => endV hH (by rw [h] at hk; exact hk);refine zfK ?_;cases hb1 : decide (20 < x.keys.length) with
 | true =>
  refine zl5 ?_;simp only [seval,d1,hb1];refine zf9 ?_;refine zfK ?_;refine zgX ?_;exact hyes (by unfold zot; rw [hb1]; rfl)
 | false =>
  cases hb2 : decide (20 < x.locks.length) with
  | true =>
   refine zl5 ?_;simp only [seval,d1,hb1,d2,hb2];refine zf9 ?_;refine zfK ?_;refine zgX ?_;exact hyes (by unfold zot; rw [hb1,hb2]; rfl)
  | false =>
   cases hb3 : decide (20 < x.tries.length) with
   | true =>
    refine zl5 ?_;simp only [seval,d1,hb1,d2,hb2,d3,hb3];refine zf9 ?_;refine zfK ?_;refine zgX ?_;exact hyes (by unfold zot; rw [hb1,hb2,hb3]; rfl)
   | false =>
    have e0 : zot x = ((x.keys.any fun y => decide (20 < y.cuts.length)) || x.locks.any fun l => decide (20 < l.length)):=(by unfold zot; rw [hb1,hb2,hb3]; rfl);have hkl : ¬ 20 < x.keys.length:=(by simpa using hb1);have hll : ¬ 20 < x.locks.length:=(by simpa using hb2);refine zl5 ?_;simp only [seval,d1,hb1,d2,hb2,d3,hb3];refine zf9 ?_;refine zgv ?_;refine zfK ?_;refine zhC ?_;refine zlI x.keys.length (fun i : Nat => [(3,iv i)]) (fun _ => _) (fun i => ((x.keys.take i).any fun y => decide (20 < y.cuts.length)) = false) rfl (fun hHs hLt i hin hi R hR => ?_);refine zfK ?_;refine zf9 ?_;refine ⟨fun h => ?_,fun h => ?_⟩
    ·have hil : i < x.keys.length:=(by omega);obtain ⟨y,hy⟩:=zaE hil;have hw1 : IntKind.i64.wrap ((i : Int) + 1) = i + 1:=zau _ (by omega);refine zgv ?_;refine zl5 ?_;simp only [seval,zc2 hy,zaz hil,aInts];refine zf9 ?_;refine ⟨fun h2 => ?_,fun h2 => ?_⟩
     ·refine zfK ?_;refine zgX ?_;refine hyes ?_;rw [e0,zqp hy (by rw [decide_eq_true_iff]; omega)]; rfl
     ·refine zgv ?_;refine zl5 ?_;simp only [seval,hw1];refine hR _ ⟨hil,?_,zli⟩;rw [zoR hy,hi,Bool.false_or,decide_eq_false_iff_not]; omega
    ·have hix : i = x.keys.length:=(by omega);subst hix;clear hR;rw [List.take_length] at hi;refine zkY ?_;refine zfK ?_;refine zhC ?_;refine zlI x.locks.length (fun i : Nat => [(4,iv i)]) (fun _ => _) (fun i => ((x.locks.take i).any fun y => decide (20 < y.length)) = false) rfl (fun hHs hLt j hjn hj R hR => ?_);refine zfK ?_;refine zf9 ?_;refine ⟨fun h => ?_,fun h => ?_⟩
     ·have hjl : j < x.locks.length:=(by omega);obtain ⟨y,hy⟩:=zaE hjl;have hw1 : IntKind.i64.wrap ((j : Int) + 1) = j + 1:=zau _ (by omega);refine zgv ?_;refine zl5 ?_;simp only [seval,zfu hy,zaz hjl,aBands];refine zf9 ?_;refine ⟨fun h2 => ?_,fun h2 => ?_⟩
      ·refine zfK ?_;refine zgX ?_;refine hyes ?_;rw [e0,zqp (l:=x.locks) hy (by rw [decide_eq_true_iff]; omega),Bool.or_true]
      ·refine zgv ?_;refine zl5 ?_;simp only [seval,hw1];refine hR _ ⟨hjl,?_,zli⟩;rw [zoR hy,hj,Bool.false_or,decide_eq_false_iff_not]; omega
     ·have hjx : j = x.locks.length:=(by omega);subst hjx;rw [List.take_length] at hj;refine zkY ?_;refine zfK ?_;refine zgX ?_;rw [e0,hi,hj] at hk;exact endV hH hk
end
theorem zr12 : zlU (.agg #[.int .i64 0,.slice none 0 0,.slice none 0 0,.slice none 0 0]) 12 = [iv 0,.sl 0 [] .exact,.sl 0 [] .exact,.sl 0 [] .exact,iv 0,.sl 0 [] .exact,.sl 0 [] .exact,.sl 0 [] .exact,iv 0,.sl 0 [] .exact,.sl 0 [] .exact,.sl 0 [] .exact]:=rfl
theorem zsF : (12 <= 2 ^ 24) = True:=by simp
section
variable {lv : Bool} {k kp : AV -> List AObj -> Prop} {Gf : TinS -> List AObj} {t N : Nat} {τ : TinS} {b : Int}
set_option maxRecDepth 4000 in
theorem f27_c {x : Ring} {r : Try} {l : List Band} (hT : TinAt Gf t N) (hτ : τ.Ok b) (hb : b < 2 ^ 29) (hs : x.Small) (hl : l.length < 2 ^ 20) (hk : ∀ (y z : Ring) ws τ',RingP 3 3 3 true y ws -> z.Small -> τ'.Ok (b + 1001) -> k (.sl 3 (x.l ++ y.l ++ z.l) .shut) (Gf τ')) : FnC lv Tryz.prog 27 (Gf τ) [x.av,r.av,aBands l,.op t 0] k kp:=by
 refine zhQ (rs:=[.tmp 8]) (nt:=35) Tryz.f27 fun hH hA => ?_;simp only [zlx,Nat.reduceAdd,Ring.av,Try.av,hT.len];refine zl5 ?_;simp only [seval,Ring.l,Try.l,hT.am];refine zl5 ?_;simp only [seval,hT.am];refine zl6 ((f49_c (K:=3) (L:=3) (T:=3) (wr:=true) (hT.more _) hτ (by omega) (by decide) (by decide) (by decide) fun y ws τ' hP hto => ?_));(try simp only [seval,Ring.av,Ring.l,hT.am]);have hy:=hP.ok (by decide) (by decide) (by decide);have hyl:=hP.locks;have hyt:=hP.tries;refine zl5 ?_;simp only [seval,hT.am];refine zl6 ((f56_c (x:=y) (t:=r) (by omega) ?_));(try simp only [seval,Ring.av,Ring.l,zpD,hT.am]);refine zl5 ?_;simp only [seval,hT.am];refine zl6 ((f44_c (hT.more _) hto (by omega) (by decide) ?_));(try simp only [seval,hT.am]);have hto1:=hto.tick;generalize tick τ' = τ2 at hto1 ⊢;have hys:=hy.small;have hgen : ∀ (z : Ring) (L : List AObj) (e : AV),z.Small -> Wk e (.sl 3 (x.l ++ y.l ++ z.l) .shut) -> zmu N (Gf τ2 ++ L) e k:=fun z L e hz hw => by
  rw [<- hT.len τ2];exact endA (b:=.sl 3 (x.l ++ y.l ++ z.l) .shut) (hT.hok hH τ2) hw (by rw [za3]; simp [Ring.l,zap,iv,zc5,zci,zch]) (hk y z ws τ2 hP hz (hto1.mono (by omega)))
 refine zf9 ?_;refine ⟨fun h => ?_,fun h => ?_⟩
 ·refine zl5 ?_;simp only [seval,hT.am];refine zl6 ((f28_l hys ?_));(try simp only [seval,krO,Nat.add_assoc,hT.am]);have hml : (y.locks.map aBands).length = y.locks.length:=List.length_map ..;refine zlw 5 ?_;simp only [seval,zs1,zhq,hml,hT.am];refine zmU (aBands l) (zlH (f59_c (xs:=l) (by omega) ⟨rfl,rfl⟩)) ?_;(try simp only [seval,zs1,zhq,hml,zho,hT.am]);refine ⟨by omega,?_⟩;refine zl5 ?_;simp only [seval,zr12,zsF,hT.am];refine zgX ?_;refine hgen ⟨y.cuts,y.keys,y.locks ++ [l],y.tries⟩ _ _ (zoT hys (by omega) (by omega)) ?_;refine zqE (.cons (Wk.refl _) (.cons (Wk.refl _) (.cons (Wk.refl _) (.cons (Wk.refl _) (.cons (Wk.refl _) (.cons (Wk.refl _) (.cons (Wk.refl _) (.cons (Wk.refl _) (.cons (Wk.refl _) (.cons (Wk.refl _) (.cons ?_ (.cons (Wk.refl _) .nil))))))))))));have e : zlO (y.locks ++ [l]) = .sl (y.locks.length + 1) (y.locks.map aBands ++ [aBands l]) .shut:=by simp [zlO]
  show Wk _ (zlO (y.locks ++ [l]));rw [e];exact zaK _ _ _
 ·refine zgv ?_;refine zl5 ?_;simp only [seval,zr12,zsF,hT.am];refine zgX ?_;exact hgen (zpD y r) _ _ (zo9 hys (by omega)) (zaK _ _ _)
end
def zqi (P : Program) (fs : Array Field) (ks : List Bool) : Bool:=fs.toList.all fun f => match P.underlying f.type,ks[f.offset]? with
 | some (.int _),some true => true
 | some .bool,some false => true
 | _,_ => false
theorem zpW {P : Program} {ι : Type} {body : ι -> Option Bool × Unit -> Sem (ForInStep (Option Bool × Unit))} (l : List ι) (h : ∀ i ∈ l,Sure P (body i (none,())) (.yield (none,()))) : Sure P (forIn l (none,()) body) (none,()):=by
 have:=zh1 (P:=P) (p:=fun _ => true) l (by simpa using h);simpa using this
theorem zob {P : Program} {t : TypeId} {fs : Array Field} {xs : Array Value} {ks : List Bool} {d : Nat} (ht : P.underlying t = some (.struct fs)) (hp : P.stoodInHeld t = false) (hs : zqi P fs ks = true) (h1 : ∀ i : Nat,ks[i]? = some true -> ∃ k z,xs[i]? = some (.int k z)) (h2 : ∀ i : Nat,ks[i]? = some false -> ∃ b,xs[i]? = some (.bool b)) : Sure P (Op.equalIn (d + 2) t (.agg xs) (.agg xs)) true:=by
 rw [Op.equalIn];refine zaR ht ?_;dsimp only;refine zgd ?_;rw [hp];simp only [Bool.false_eq_true,if_false];rw [<- Array.forIn_toList];refine za0 (a:=(none,())) (zpW _ fun f hf => ?_) (zaH _);have hsf:=(List.all_eq_true.1 hs) f hf;split
 ·split at hsf
  ·rename_i k hu hk;obtain ⟨j,z,hv⟩:=h1 _ hk;refine zej hu rfl hv (zej hu rfl hv (za0 (zpq hu) ?_));simp only [beq_self_eq_true,Bool.not_true,Bool.false_eq_true,if_false];exact zaH _
  ·rename_i hu hk;obtain ⟨b,hv⟩:=h2 _ hk;refine zej hu rfl hv (zej hu rfl hv (za0 (zjZ hu) ?_));simp only [beq_self_eq_true,Bool.not_true,Bool.false_eq_true,if_false];exact zaH _
  ·cases hsf
 ·exact zaH _
def znO (P : Program) (t : TypeId) (ks : List Bool) : Bool:=match P.underlying t with
 | some (.struct fs) => zqi P fs ks && !P.stoodInHeld t
 | _ => false
theorem zni {P : Program} {t : TypeId} {xs : Array Value} {ks : List Bool} {d : Nat} (h : znO P t ks = true) (h1 : ∀ i : Nat,ks[i]? = some true -> ∃ k z,xs[i]? = some (.int k z)) (h2 : ∀ i : Nat,ks[i]? = some false -> ∃ b,xs[i]? = some (.bool b)) : Sure P (Op.equalIn (d + 2) t (.agg xs) (.agg xs)) true:=by
 unfold znO at h;split at h
 ·rename_i fs hu;rw [Bool.and_eq_true,Bool.not_eq_true'] at h;exact zob hu h.2 h.1 h1 h2
 ·cases h
theorem F.sh63 : znO Tryz.prog 63 [true,true] = true:=by kernel_rfl
theorem F.sh28 : znO Tryz.prog 28 [true,true,false] = true:=by kernel_rfl
theorem F.g63 : Tryz.prog.eqGuardType Tryz.prog.depth 63 = false:=by kernel_rfl
theorem F.g28 : Tryz.prog.eqGuardType Tryz.prog.depth 28 = false:=by kernel_rfl
theorem sure63 (a b : Int) : Sure Tryz.prog (Op.equal 63 (.agg #[.int .i64 a,.int .i64 b]) (.agg #[.int .i64 a,.int .i64 b])) true :=
 zni (d:=9998) F.sh63 (fun i h => match i,h with
  | 0,_ => ⟨_,_,rfl⟩
  | 1,_ => ⟨_,_,rfl⟩
  | _ + 2,h => by cases h) (fun i h => match i,h with
  | 0,h => by cases h
  | 1,h => by cases h
  | _ + 2,h => by cases h)
theorem sure28 (a b : Int) (c : Bool) : Sure Tryz.prog (Op.equal 28 (.agg #[.int .i64 a,.int .i64 b,.bool c]) (.agg #[.int .i64 a,.int .i64 b,.bool c])) true :=
 zni (d:=9998) F.sh28 (fun i h => match i,h with
  | 0,_ => ⟨_,_,rfl⟩
  | 1,_ => ⟨_,_,rfl⟩
  | 2,h => by cases h
  | _ + 3,h => by cases h) (fun i h => match i,h with
  | 0,h => by cases h
  | 1,h => by cases h
  | 2,_ => ⟨_,rfl⟩
  | _ + 3,h => by cases h)
theorem zop {t : TypeId} {l : List AV} {V : Value} (hr : AV.raw (.agg l) = some V) (hk : zn2 V V = true) (hg : Tryz.prog.eqGuardType Tryz.prog.depth t = false) (hs : Sure Tryz.prog (Op.equal t V V) true) (k : AV -> Prop) : ABin Tryz.prog .neq t (.agg l) (.agg l) k = k (bv false):=by
 have e : ABin Tryz.prog .neq t (.agg l) (.agg l) k = ((BinOp.neq = .eql \/ BinOp.neq = .neq) /\ one1 (AV.raw (.agg l)) fun X => one1 (AV.raw (.agg l)) fun Y => zn2 X Y = true /\ Tryz.prog.eqGuardType Tryz.prog.depth t = false /\ ∃ e,Sure Tryz.prog (Op.equal t X Y) e /\ k (.val (.bool (if BinOp.neq == .neq then !e else e)))):=rfl;rw [e,hr,zet,zet];apply propext;constructor
 ·rintro ⟨_,_,_,b,h1,h2⟩
  have:=hs.uniq h1;subst this;exact h2
 ·intro h;exact ⟨.inr rfl,hk,hg,true,hs,h⟩
theorem B63.same (a b : Int) (k : AV -> Prop) : ABin Tryz.prog .neq 63 (.agg [.val (.int .i64 a),.val (.int .i64 b)]) (.agg [.val (.int .i64 a),.val (.int .i64 b)]) k = k (.val (.bool false)):=zop (V:=.agg #[.int .i64 a,.int .i64 b]) rfl rfl F.g63 (sure63 a b) k
theorem B28.same (a b : Int) (c : Bool) (k : AV -> Prop) : ABin Tryz.prog .neq 28 (.agg [.val (.int .i64 a),.val (.int .i64 b),.val (.bool c)]) (.agg [.val (.int .i64 a),.val (.int .i64 b),.val (.bool c)]) k = k (.val (.bool false)):=zop (V:=.agg #[.int .i64 a,.int .i64 b,.bool c]) rfl rfl F.g28 (sure28 a b c) k
attribute [seval] B63.same B28.same
section
variable {lv : Bool} {H : List AObj} {k kp : AV -> List AObj -> Prop}
theorem f111_same {xs : List Band} {e e' : End} (hl : xs.length < 2 ^ 30) (hk : k (bv true) H) : FnC lv Tryz.prog 111 H [.sl xs.length (xs.flatMap Band.l) e,.sl xs.length (xs.flatMap Band.l) e'] k kp:=by
 refine zhQ (rs:=[.tmp 4]) (nt:=26) Tryz.f111 fun hH hA => ?_;simp only [zlx,Nat.reduceAdd];refine zfK ?_;refine zl5 ?_;simp only [seval,bne_self_eq_false];refine zf9 ?_;refine zgv ?_;refine zfK ?_;refine zhC ?_;refine zlI xs.length (fun i : Nat => [(5,iv i)]) (fun _ => _) (fun _ => True) trivial (fun hHs hLt i hin hi R hR => ?_);refine zfK ?_;refine zf9 ?_;refine ⟨fun h => ?_,fun h => ?_⟩
 ·have hil : i < xs.length:=by omega
  obtain ⟨y,hy⟩:=zaE hil;have hw : IntKind.i64.wrap ((i : Int) + 1) = i + 1:=zau _ (by omega);refine zgv ?_;refine zhC ?_;refine zlw 8 ?_;simp only [seval,zdh hy,zaz hil];refine zf9 ?_;refine zgv ?_;refine zl5 ?_;simp only [seval,hw];refine hR _ ⟨hil,trivial,zli⟩
 ·clear hR;refine zkY ?_;refine zfK ?_;refine zgX ?_;exact zao hk
theorem f37_same {x : Ring} (hs : x.Small) (hk : k (bv true) H) : FnC lv Tryz.prog 37 H [x.av,x.av] k kp:=by
 refine zhQ (rs:=[.tmp 4]) (nt:=113) Tryz.f37 fun hH hA => ?_;simp only [zlx,Nat.reduceAdd,Ring.av];have hs1:=hs.keys;have hs2:=hs.locks;have hs3:=hs.tries;refine zl5 ?_;simp only [seval,Ring.l];refine zl5 ?_;simp only [seval,bne_self_eq_false,zmd,zlO,zlT];refine zf9 ?_;refine zgv ?_;refine zfK ?_;refine zhC ?_;refine zlI x.keys.length (fun i : Nat => [(5,iv i)]) (fun _ => _) (fun _ => True) trivial (fun hHs hLt i hin hi R hR => ?_);clear hHs hLt;refine zl5 ?_;simp only [seval,zmd];refine zf9 ?_;refine ⟨fun h => ?_,fun h => ?_⟩
 ·have hil : i < x.keys.length:=by omega
  obtain ⟨y,hy⟩:=zaE hil;have hyc:=hs.cuts y (zas hy);have hw : IntKind.i64.wrap ((i : Int) + 1) = i + 1:=zau _ (by omega);refine zgv ?_;refine zhC ?_;refine zlw 27 ?_;simp only [seval,zc2 hy,zaz hil,zmd,aInts];refine zmU (bv true) (zlH (f34_same (xs:=y.cuts) (by omega) ⟨rfl,rfl⟩)) ?_;(try simp only [seval,zc2 hy,zaz hil,zmd,aInts]);refine zf9 ?_;refine zgv ?_;refine zl5 ?_;simp only [seval,hw];refine hR _ ⟨hil,trivial,zli⟩
 ·clear hR;refine zkY ?_;refine zfK ?_;refine zhC ?_;refine zlI x.locks.length (fun i : Nat => [(6,iv i)]) (fun _ => _) (fun _ => True) trivial (fun hHs hLt i hin hi R hR => ?_);clear hHs hLt;refine zl5 ?_;simp only [seval,zlO];refine zf9 ?_;refine ⟨fun h => ?_,fun h => ?_⟩
  ·have hil : i < x.locks.length:=(by omega);obtain ⟨y,hy⟩:=zaE hil;have hyc:=hs.bands y (zas hy);have hw : IntKind.i64.wrap ((i : Int) + 1) = i + 1:=zau _ (by omega);refine zgv ?_;refine zhC ?_;refine zlw 10 ?_;simp only [seval,zfu hy,zaz hil,zlO];refine zl6 ((f111_same (xs:=y) (by omega) ?_));(try simp only [seval]);refine zf9 ?_;refine zgv ?_;refine zl5 ?_;simp only [seval,hw];refine hR _ ⟨hil,trivial,zli⟩
  ·clear hR;refine zkY ?_;refine zfK ?_;refine zhC ?_;refine zlI x.tries.length (fun i : Nat => [(7,iv i)]) (fun _ => _) (fun _ => True) trivial (fun hHs hLt i hin hi R hR => ?_);clear hHs hLt;refine zl5 ?_;simp only [seval,zlT];refine zf9 ?_;refine ⟨fun h => ?_,fun h => ?_⟩
   ·have hil : i < x.tries.length:=(by omega);obtain ⟨y,hy⟩:=zaE hil;have hw : IntKind.i64.wrap ((i : Int) + 1) = i + 1:=zau _ (by omega);refine zgv ?_;refine zhC ?_;refine zlw 10 ?_;simp only [seval,zh6 hy,zaz hil,zlT];refine zf9 ?_;refine zgv ?_;refine zl5 ?_;simp only [seval,hw];refine hR _ ⟨hil,trivial,zli⟩
   ·clear hR;refine zkY ?_;refine zfK ?_;refine zgX ?_;exact endA hH (Wk.refl _) (by simp [zap]) hk
end
theorem zqg {lv : Bool} {P : Program} {f : FuncId} {H : List AObj} {args : List AV} {k kp : AV -> List AObj -> Prop} (h : FnC lv P f H args (fun a H' => ∃ b,Wk a b /\ k b H') kp) : FnC lv P f H args k kp:=fun E V vs hc hd =>
 (h E V vs hc hd).mono fun o V' r => by
  cases o with
  | ret v =>
   obtain ⟨av,E',H',q1,q2,q3,q4,q5,b,hw,hk⟩:=r;exact ⟨b,E',H',q1,q2,q3,hw _ _ q4,q5,hk⟩
  | panic ch => exact r
section
variable {H : List AObj} {k kp : AV -> List AObj -> Prop}
theorem f28_c {lv : Bool} {x : Ring} (hs : x.Small) (hk : k x.av H) : FnC lv Tryz.prog 28 H [x.av] k kp :=
 f28_g hs fun hH => endA (b:=x.av) hH (zhX (.cons (Wk.refl _) (.cons (zaK _ _ _) (.cons (zaK _ _ _) (.cons (Wk.refl _) .nil))))) (by rw [zfC]; trivial) hk
theorem Ring.len (x : Ring) : x.l.length = 4:=rfl
theorem znB {xs : List Ring} {x : Ring} {i : Nat} (h : xs[i]? = some x) : AV.shift (i * 4) (.rp (xs.flatMap Ring.l)) = some (.rp (iv x.cuts :: zmd x.keys :: zlO x.locks :: zlT x.tries :: (xs.drop (i + 1)).flatMap Ring.l)):=zcG Ring.len h
theorem znW (x : Ring) : zmb x none = zl4 x:=by
 unfold zmb flE;split
 ·rfl
 ·rename_i h; rw [Classical.not_not] at h; exact h.symm
end
section
variable {lv : Bool} {H : List AObj} {k kp : AV -> List AObj -> Prop}
end
section
variable {H : List AObj} {k kp : AV -> List AObj -> Prop}
end
section
variable {lv : Bool} {H : List AObj} {k kp : AV -> List AObj -> Prop}
end
structure Kept3 (X Y Z : Prop) : Type where
 n : Nat
def UG (a : AV) (want : Bool) (X Y Z : Prop) (_t : Kept3 X Y Z) : Prop:=(∃ b,a = .val (.bool b) /\ (b = want -> X) /\ (b = !want -> Y)) \/ (a = .val undef /\ Z)
theorem ug_b {b want : Bool} {X Y Z : Prop} {t : Kept3 X Y Z} : UG (.val (.bool b)) want X Y Z t = ((b = want -> X) /\ (b = !want -> Y)):=by
 unfold UG;refine propext ⟨fun h => ?_,fun h => .inl ⟨b,rfl,h⟩⟩;rcases h with ⟨b',e,h⟩ | ⟨e,_⟩
 ·cases e; exact h
 ·cases e
theorem ug_tt (X Y Z : Prop) (t : Kept3 X Y Z) : UG (.val (.bool true)) true X Y Z t = X:=by rw [ug_b]; simp
theorem ug_tf (X Y Z : Prop) (t : Kept3 X Y Z) : UG (.val (.bool true)) false X Y Z t = Y:=by rw [ug_b]; simp
theorem ug_ft (X Y Z : Prop) (t : Kept3 X Y Z) : UG (.val (.bool false)) true X Y Z t = Y:=by rw [ug_b]; simp
theorem ug_ff (X Y Z : Prop) (t : Kept3 X Y Z) : UG (.val (.bool false)) false X Y Z t = X:=by rw [ug_b]; simp
theorem ug_u (want : Bool) (X Y Z : Prop) (t : Kept3 X Y Z) : UG (.val undef) want X Y Z t = Z:=by
 unfold UG;refine propext ⟨fun h => ?_,fun h => .inr ⟨rfl,h⟩⟩;rcases h with ⟨b',e,_⟩ | ⟨_,h⟩
 ·cases e
 ·exact h
section
variable (lv : Bool) (P : Program)
def UOps (all : Array Oper) : List Oper -> AS -> (AS -> Prop) -> (AV -> AS -> Prop) -> Prop
 | [],s,next,_ => next s
 | o :: rest,s,next,bad => match o.guard with
  | none => AStep lv P s o (fun s' => UOps all rest s' next bad) bad
  | some (j,want) => one1 ((all[j]?).bind (·.dst)) fun d => one1 (look s.T d) fun a => UG a want (AStep lv P ⟨(d,.val (.bool want)) :: s.T,s.H⟩ o (fun s' => UOps all rest s' next bad) bad) (UOps all rest ((⟨(d,.val (.bool !want)) :: s.T,s.H⟩ : AS).put o.dst (.val undef)) next bad) (UOps all rest (s.put o.dst (.val undef)) next bad) ⟨0⟩
end
theorem uOps_n : type_of% @UOps.eq_1:=by intros; rw [UOps.eq_1]
theorem uOps_c : type_of% @UOps.eq_2:=by intros; rw [UOps.eq_2]
@[congr] theorem uOps_congr {lv : Bool} {P : Program} {s s' : AS} {all : Array Oper} {l : List Oper} {next : AS -> Prop} {bad : AV -> AS -> Prop} (h : s = s') : UOps lv P all l s next bad = UOps lv P all l s' next bad:=by rw [h]
attribute [seval] uOps_n uOps_c ug_tt ug_tf ug_ft ug_ff ug_u
section
variable {lv : Bool} {P : Program} {r : Option Nat} {s : AS}
end
section
variable (lv : Bool) (P : Program)
def QUOps (all : Array Oper) : List Oper -> AS -> (AS -> Prop) -> Prop
 | [],s,K => K s
 | o :: rest,s,K => match o.guard with
  | none => AQ lv P s o fun av => QUOps all rest (s.put o.dst av) K
  | some (j,want) => one1 ((all[j]?).bind (·.dst)) fun d => one1 (look s.T d) fun a => UG a want (AQ lv P ⟨(d,.val (.bool want)) :: s.T,s.H⟩ o fun av => QUOps all rest ((⟨(d,.val (.bool want)) :: s.T,s.H⟩ : AS).put o.dst av) K) (QUOps all rest ((⟨(d,.val (.bool !want)) :: s.T,s.H⟩ : AS).put o.dst (.val undef)) K) (QUOps all rest (s.put o.dst (.val undef)) K) ⟨0⟩
end
theorem ztk : type_of% @QUOps.eq_1:=by intros; rw [QUOps.eq_1]
theorem ztl : type_of% @QUOps.eq_2:=by intros; rw [QUOps.eq_2]
@[congr] theorem quOps_congr {lv : Bool} {P : Program} {s s' : AS} {all : Array Oper} {l l' : List Oper} {K : AS -> Prop} (hl : l = l') (h : s = s') : QUOps lv P all l s K = QUOps lv P all l' s' K:=by rw [hl,h]
attribute [seval] ztk ztl
section
variable {lv : Bool} {P : Program} {r : Option Nat} {s : AS} {ops : Array Oper} {nt p : Nat}
end
section
variable {lv : Bool} {H : List AObj} {k kp : AV -> List AObj -> Prop}
end
section
variable {H : List AObj} {k kp : AV -> List AObj -> Prop}
end
section
variable {lv : Bool}
theorem f145_c : ∀ (kk : Nat) {H : List AObj} {k kp : AV -> List AObj -> Prop},kk <= 4 -> k (znX (zl1 4 kk)) H -> FnC lv Tryz.prog 145 H [iv kk] k kp
 | 0,H,k,kp,hkk,hk => by
  refine zhQ (rs:=[.tmp 2]) (nt:=34) Tryz.f145 fun hH hA => ?_;simp only [zlx,Nat.reduceAdd];refine zfK ?_;refine zl5 ?_;simp only [seval,beq_self_eq_true];refine zf9 ?_;refine zl5 ?_;simp only [seval,zs1,zhq];refine zgX ?_;exact zaJ (b:=znX [[]]) (H':=H) (G:=[]) (zqE (.cons (zaK _ _ _) .nil)) (by simp) (Nat.le_refl _) hH (by rw [zlv]; trivial) hk
 | kk + 1,H,k,kp,hkk,hk => by
  refine zhQ (rs:=[.tmp 2]) (nt:=34) Tryz.f145 fun hH hA => ?_;simp only [zlx,Nat.reduceAdd];have hz : (((kk : Int) + 1) == 0) = false:=by simp; omega
  have hw3 : IntKind.i64.wrap ((kk : Int) + 1 - 1) = kk:=by rw [zau _ (by omega)]; omega
  refine zfK ?_;refine zl5 ?_;simp only [seval,hz];refine zf9 ?_;refine zgv ?_;refine zfK ?_
  (repeat apply zaa); refine zbV (t:=3) (sz:=1) (el:=30) (by simp only [seval] <;> rfl) ?_
  refine zl5 ?_;simp only [seval,hw3];refine zl6 ((f145_c kk (by omega) ?_));(try simp only [seval,znX]);have hfa:=zeh 4 (by omega) kk (by omega);have hlen:=zlF 4 kk hfa.1;have hsuc:=zlA 4 kk;have hall : zov 4 kk 4 = zl1 4 (kk + 1):=rfl;generalize zl1 4 kk = l at hfa hsuc ⊢;obtain ⟨hl20,hlr⟩:=hfa;refine zfK ?_;refine zhC ?_;refine zaB 4 (fun j : Nat => [(3,.sl (zov 4 kk j).length ((zov 4 kk j).map aInts) (.opn H.length)),(5,iv j)]) (fun j => H ++ [.tail (zov 4 kk j).length 1 30]) (fun i => True) (fun _ _ => rfl) (by simp only [seval]; simp [zaf,Wk.refl]; exact Wk.refl _) rfl (fun _ _ _ => by simp) trivial (fun hHs hLt j hjn hj R hR => ?_);clear hHs hLt;refine zfK ?_;refine zf9 ?_;refine ⟨fun h => ?_,fun h => ?_⟩
  ·have hjl : j < 4:=(by omega);have hw2 : IntKind.i64.wrap ((j : Int) + 1) = j + 1:=zau _ (by omega);have hsucc:=hsuc j;have hll:=hlen j;generalize zov 4 kk j = o at hsucc hll hR ⊢;refine zgv ?_;refine zfK ?_;refine zhC ?_;refine zaB l.length (fun x : Nat => [(3,.sl (o.length + x) ((o ++ (l.take x).map ((j : Int) :: ·)).map aInts) (.opn H.length)),(6,iv x)]) (fun x => H ++ [.tail (o.length + x) 1 30]) (fun i => True) (fun _ _ => rfl) (by simp only [seval]; simp [zaf,Wk.refl]) (by simp) (fun _ _ _ => by simp) trivial (fun hHs hLt x hxn hx R2 hR2 => ?_);clear hHs hLt;refine zfK ?_;refine zf9 ?_;refine ⟨fun h2 => ?_,fun h2 => ?_⟩
   ·have hxl : x < l.length:=(by omega);obtain ⟨r,hr⟩:=zaE hxl;have hrl:=(hlr r (zas hr)).1;have hw4 : IntKind.i64.wrap ((x : Int) + 1) = x + 1:=zau _ (by omega);have hol : ((o ++ (l.take x).map ((j : Int) :: ·)).map aInts).length = o.length + x:=(by simp; omega);have hnx : (o ++ (l.take (x + 1)).map ((j : Int) :: ·)).map aInts = (o ++ (l.take x).map ((j : Int) :: ·)).map aInts ++ [aInts ((j : Int) :: r)]:=by
     rw [zlC _ hr,<- List.append_assoc,List.map_append]; rfl
    have hri : (r.map iv).length = r.length:=List.length_map ..;refine zgv ?_;refine zl5 ?_;simp only [seval,z1,zs1,zhq,zlB hr,zaz hxl,hol,hri,aInts]
    first | refine ⟨by omega,by simp; omega,by omega,?_⟩ | refine ⟨by omega,by omega,?_⟩
    refine zl5 ?_;simp only [seval,hw4];refine hR2 _ ⟨hxl,trivial,?_⟩;rw [hnx];refine zce [.tail (1 + r.length) 1 3] (zam rfl rfl) ?_ (zlX hH _ _ _) ?_ (by simp [Nat.add_assoc])
    ·(try simp only [seval]);exact ⟨⟨_,rfl,have h:=zlW (l:=(o ++ (l.take x).map ((j : Int) :: ·)).map aInts) (show Wk (.sl (1 + r.length) (iv (j : Int) :: r.map iv) (.opn (H.length + 1))) (aInts ((j : Int) :: r)) by rw [aInts,Nat.add_comm]; exact zaK _ _ _); zeg h.len h.at⟩,_,rfl,Wk.refl _⟩
    ·rw [<- hnx];simp only [List.forall_mem_cons,zap,zlZ,iv]; simp
   ·have hxx : x = l.length:=(by omega);subst hxx;refine zkY ?_;refine zl5 ?_;simp only [seval,hw2];refine hR _ ⟨hjl,trivial,?_⟩;rw [hsucc];simp only [List.take_length,List.length_append,List.length_map];exact zli
  ·have hjx : j = 4:=(by omega);subst hjx;refine zkY ?_;refine zfK ?_;refine zgX ?_;rw [hall];exact endA (b:=znX (zl1 4 (kk + 1))) hH (zaK _ _ _) (by rw [zlv]; trivial) hk
theorem zpM {x : Ring} {t : List Int} {n : Nat} (hn : n < 3) (h : ∀ w < n,allW x t w = true) (h2 : allW x t n = false) : zmL x t 3 = (n : Int) - 1:=by
 rw [zn8];have : n = 0 \/ n = 1 \/ n = 2:=by omega
 rcases this with rfl | rfl | rfl
 ·rw [h2]; rfl
 ·rw [h 0 (by omega),h2]; rfl
 ·rw [h 0 (by omega),h 1 (by omega),h2]; rfl
theorem zpN {x : Ring} {t : List Int} (h : ∀ w < 3,allW x t w = true) : zmL x t 3 = 2:=by
 rw [zn8,h 0 (by omega),h 1 (by omega),h 2 (by omega)]; rfl
section
variable {H : List AObj} {k kp : AV -> List AObj -> Prop}
theorem f148_c {x : Ring} {t : List Int} (hx : x.Ok) (htl : (t.length : Int) = x.cuts) (htb : ∀ v ∈ t,0 <= v /\ v <= 3) (hk : k (iv (zmL x t 3)) H) : FnC lv Tryz.prog 148 H [x.av,aInts t] k kp:=by
 refine zhQ (rs:=[.tmp 4]) (nt:=30) Tryz.f148 fun hH hA => ?_;simp only [zlx,Nat.reduceAdd,Ring.av,Ring.l];have hx5:=hx.locks;have hcu:=hx.cuts;refine zfK ?_;refine zfK ?_;refine zhC ?_;refine zlI 3 (fun n : Nat => [(5,iv n)]) (fun _ => _) (fun n => ∀ w < n,allW x t w = true) (by simp) (fun hHs hLt n hnn hno R hR => ?_);clear hHs hLt;refine zfK ?_;refine zf9 ?_;refine ⟨fun h => ?_,fun h => ?_⟩
 ·have hn3 : n < 3:=by omega
  have hw1 : IntKind.i64.wrap ((n : Int) + 1) = n + 1:=zau _ (by omega);have hw2 : IntKind.i64.wrap ((n : Int) - 1) = n - 1:=zau _ (by omega);have hal : allW x t n = x.locks.all fun l => zmg (zlJ n t) l:=rfl;have hwl : (zlJ n t).length = t.length:=by simp [zlJ]
  refine zgv ?_;refine zfK ?_;refine zhC ?_;refine zlI x.locks.length (fun i : Nat => [(6,iv i)]) (fun _ => _) (fun i => ((x.locks.take i).all fun l => zmg (zlJ n t) l) = true) (by simp) (fun hHs hLt i hin hi R2 hR2 => ?_);clear hHs hLt;refine zl5 ?_;simp only [seval,zlO];refine zf9 ?_;refine ⟨fun h2 => ?_,fun h2 => ?_⟩
  ·have hil : i < x.locks.length:=(by omega);obtain ⟨lk,hlk⟩:=zaE hil;have hlc:=(hx.lock lk (zas hlk)).1;have hw3 : IntKind.i64.wrap ((i : Int) + 1) = i + 1:=zau _ (by omega);have hsn:=zlD (fun l => zmg (zlJ n t) l) hlk;refine zgv ?_;refine zhC ?_;refine zlw 9 ?_;simp only [seval,zfu hlk,zaz hil,zlO];refine zmU _ (zlH (f98_c (xs:=t) htb (by omega) (by omega) ⟨rfl,rfl⟩)) ?_;refine zmU _ (zlH (f146_c (ds:=zlJ n t) (bs:=lk) (by omega) (by omega) ⟨rfl,rfl⟩)) ?_;(try simp only [seval]);refine zf9 ?_;refine ⟨fun h3 => ?_,fun h3 => ?_⟩
   ·have h3 : zmg (zlJ n t) lk = false:=(by simpa using h3);have hf : allW x t n = false:=(by rw [hal,List.all_eq_false]; exact ⟨lk,zas hlk,by simp [h3]⟩);rw [zpM hn3 hno hf] at hk;refine zl5 ?_;simp only [seval,hw2];refine zgX ?_;exact endV hH hk
   ·have h3 : zmg (zlJ n t) lk = true:=(by simpa using h3);refine zgv ?_;refine zl5 ?_;simp only [seval,hw3];refine hR2 _ ⟨hil,by rw [hsn,hi,h3]; rfl,zli⟩
  ·have hix : i = x.locks.length:=(by omega);subst hix;rw [List.take_length,<- hal] at hi;clear hR2;refine zkY ?_;refine zl5 ?_;simp only [seval,hw1];refine hR _ ⟨hn3,fun w hw => ?_,zli⟩;by_cases e : w = n
   ·subst e; exact hi
   ·exact hno w (by omega)
 ·have hnx : n = 3:=by omega
  subst hnx;rw [zpN hno] at hk;clear hR;refine zkY ?_;refine zfK ?_;refine zgX ?_;exact endV hH hk
end
end
theorem zpp {l l' : List AV} (h : Wks l l') : Wk (.tup l) (.tup l'):=fun E v hd => by
 cases hd with
 | tup hs h1 =>
  refine .tup (by rw [hs,h.len]) fun i x hx => ?_;obtain ⟨y,hy⟩:=zaE (xs:=l) (i:=i) (by rw [h.len]; exact get_lt hx);exact h.at i x y hx hy E _ (h1 i y hy)
def zpR (x : Ring) (L : List (List Int)) (i : Nat) : List Int:=if (zms x L i).1 < 0 then [] else L.getD (zms x L i).1.toNat []
theorem zpQ (x : Ring) {L : List (List Int)} {i : Nat} {t : List Int} (ht : L[i]? = some t) : (zms x L (i + 1)).2 = (if (zms x L i).2 < zmL x t 3 then zmL x t 3 else (zms x L i).2) /\ zpR x L (i + 1) = (if (zms x L i).2 < zmL x t 3 then t else zpR x L i):=by
 have e : L.getD i [] = t:=by rw [List.getD_eq_getElem?_getD,ht]; rfl
 unfold zpR;rw [zms,e];by_cases h : (zms x L i).2 < zmL x t 3
 ·rw [if_pos h,if_pos h,if_pos h,if_neg (by simp only; omega)];exact ⟨rfl,e⟩
 ·rw [if_neg h,if_neg h,if_neg h]; exact ⟨rfl,rfl⟩
def masG (x : Ring) : List Int:=if zl4 x ≠ 0 then [] else ((zmc x 3).map (·.1)).getD []
def masN (x : Ring) : Int:=if zl4 x ≠ 0 then 0 else ((zmc x 3).map (fun p => (p.2 : Int))).getD 0
def masE (x : Ring) : Int:=if zl4 x ≠ 0 then zl4 x else if zmc x 3 = none then 11 else 0
def cutG (x : Ring) (l : List Int) : List Int:=if zmb x (cutS x l 0).2 ≠ 0 then [] else (znb x l).getD []
def cutE (x : Ring) (l : List Int) : Int:=if zmb x (cutS x l 0).2 ≠ 0 then zmb x (cutS x l 0).2 else if znb x l = none then 11 else 0
section
variable {H : List AObj} {k kp : AV -> List AObj -> Prop}
theorem f76_d {x : Ring} (hmain : H[0]? = some .main) (hs : x.Small) (hk : k (.tup [aInts (masG x),iv (masN x),iv (masE x)]) H) : FnC true Tryz.prog 76 H [x.av] k kp:=by
 unfold masG masN masE at hk;refine zqg (f76_c zaQ hmain hs (fun h => ⟨_,zpp (.cons (zaK _ _ _) (.cons (Wk.refl _) (.cons (Wk.refl _) .nil))),?_⟩) (fun h h2 => ⟨_,zpp (.cons (zaK _ _ _) (.cons (Wk.refl _) (.cons (Wk.refl _) .nil))),?_⟩) fun h d m h2 => ⟨_,Wk.refl _,?_⟩)
 ·rw [znW] at h ⊢;rw [if_pos h,if_pos h,if_pos h] at hk; exact hk
 ·rw [znW] at h;rw [if_neg (by simpa using h),if_neg (by simpa using h),if_neg (by simpa using h),h2] at hk; exact hk
 ·rw [znW] at h;rw [if_neg (by simpa using h),if_neg (by simpa using h),if_neg (by simpa using h),h2] at hk; exact hk
theorem f62_d {x : Ring} {l : List Int} (hmain : H[0]? = some .main) (hs : x.Small) (hll : l.length < 2 ^ 30) (hk : k (.tup [aInts (cutG x l),iv (cutE x l)]) H) : FnC true Tryz.prog 62 H [x.av,aInts l] k kp:=by
 unfold cutG cutE at hk;refine zqg (f62_c zaQ hmain hs hll (fun h => ⟨_,zdC (zaK _ _ _) (Wk.refl _),?_⟩) (fun h h2 => ⟨_,zdC (zaK _ _ _) (Wk.refl _),?_⟩) fun h d h2 => ⟨_,Wk.refl _,?_⟩)
 ·rw [if_pos h,if_pos h] at hk; exact hk
 ·rw [if_neg (by simpa using h),if_neg (by simpa using h),h2] at hk; exact hk
 ·rw [if_neg (by simpa using h),if_neg (by simpa using h),h2] at hk; exact hk
end
section
variable {lv : Bool} {H : List AObj} {k kp : AV -> List AObj -> Prop}
theorem f145_d {x : Ring} (hx : x.Ok) (hk : k (znX (zl1 4 x.cuts.toNat)) H) : FnC lv Tryz.prog 145 H [iv x.cuts] k kp:=by
 have hcu:=hx.cuts;have e : iv x.cuts = iv (x.cuts.toNat : Nat):=by rw [show ((x.cuts.toNat : Nat) : Int) = x.cuts by omega]
 rw [e];exact f145_c _ (by omega) hk
theorem f77_c {x : Ring} (hs : x.Small) (hk : k (.tup [aInts (masG x),iv (masN x),iv (masE x)]) H) : FnC lv Tryz.prog 77 H [x.av] k kp:=by
 refine zhQ (rs:=[.tmp 2,.tmp 3,.tmp 4]) (nt:=43) Tryz.f77 fun hH hA => ?_;simp only [zlx,Nat.reduceAdd,Ring.av,Ring.l];unfold masG masN masE at hk;refine zfK ?_;refine zfK ?_;refine zl6 ((f36_c (x:=x) hs ?_));(try simp only [seval]);refine zfK ?_;refine zf9 ?_;refine ⟨fun h => ?_,fun h => ?_⟩
 ·have h : zl4 x ≠ 0:=by simpa using h
  rw [if_pos h,if_pos h,if_pos h] at hk;refine zfK ?_;refine zgX ?_;exact endA (b:=.tup [aInts [],iv 0,iv (zl4 x)]) hH (zpp (.cons (zaK _ _ _) (.cons (Wk.refl _) (.cons (Wk.refl _) .nil)))) (by simp [zaD,zap,iv,zbi]) hk
 ·have h : zl4 x = 0:=by simpa using h
  rw [if_neg (by simpa using h),if_neg (by simpa using h),if_neg (by simpa using h)] at hk;have hx:=zbH.1 h;have hcu:=hx.cuts;obtain ⟨c,hc⟩ : ∃ c : Nat,x.cuts = c:=⟨x.cuts.toNat,by omega⟩;have hc4 : c <= 4:=by omega
  have hct : x.cuts.toNat = c:=by omega
  refine zgv ?_;refine zfK ?_;refine zfK ?_;refine zfK ?_;refine zl6 ((f145_d hx ?_));rw [hct];(try simp only [seval,znX]);have hfa:=zeh 4 (by omega) c hc4;have hml:=zoD (x:=x) (by omega) (b:=(zms x (zl1 4 c) (zl1 4 c).length).1) (m:=(zms x (zl1 4 c) (zl1 4 c).length).2) (by rw [hct]);rw [hct] at hml;generalize zl1 4 c = L at hfa hml ⊢;obtain ⟨hl20,hlr⟩:=hfa;refine zfK ?_;refine zhC ?_;refine zaB L.length (fun i : Nat => [(6,aInts (zpR x L i)),(7,iv (zms x L i).2),(9,iv i)]) (fun _ => _) (fun i => True) (fun _ _ => rfl) (by simp only [seval]; simp [zaf,Wk.refl]; exact ⟨zaK _ _ _,Wk.refl _⟩) rfl (fun _ _ _ => rfl) trivial (fun hHs hLt i hin hi R hR => ?_);refine zfK ?_;refine zf9 ?_;refine ⟨fun h2 => ?_,fun h2 => ?_⟩
  ·have hil : i < L.length:=(by omega);obtain ⟨t,ht⟩:=zaE hil;obtain ⟨htl,htb⟩:=hlr t (zas ht);have hw1 : IntKind.i64.wrap ((i : Int) + 1) = i + 1:=zau _ (by omega);obtain ⟨hs1,hs2⟩:=zpQ x ht;refine zgv ?_;refine zhC ?_;refine zlw 5 ?_;simp only [seval,zlB ht,zaz hil];refine zl6 ((f148_c (x:=x) (t:=t) hx (by omega) (fun v hv => by have:=htb v hv; omega) ?_));(try simp only [seval]);refine zfK ?_;refine zf9 ?_;refine ⟨fun h3 => ?_,fun h3 => ?_⟩
   ·have h3 : (zms x L i).2 < zmL x t 3:=(by simpa using h3);rw [if_pos h3] at hs1 hs2;refine zl5 ?_;simp only [seval,zlB ht,zaz hil];refine zl5 ?_;simp only [seval,hw1];refine hR _ ⟨hil,trivial,?_⟩;rw [hs1,hs2];exact zli
   ·have h3 : ¬ (zms x L i).2 < zmL x t 3:=(by simpa using h3);rw [if_neg h3] at hs1 hs2;refine zgv ?_;refine zl5 ?_;simp only [seval,hw1];refine hR _ ⟨hil,trivial,?_⟩;rw [hs1,hs2];exact zli
  ·have hix : i = L.length:=(by omega);subst hix;clear hR;refine zkY ?_;refine zfK ?_;obtain ⟨hf1,hf2⟩:=znL x L L.length;refine zf9 ?_;refine ⟨fun h3 => ?_,fun h3 => ?_⟩
   ·have h3 : (zms x L L.length).2 < 0:=(by simpa using h3);have hb : (zms x L L.length).1 < 0:=by
     rcases hf2 with ⟨h4,_⟩ | ⟨n,h4,_,_,h5,_⟩ <;> omega
    rw [hml.1 hb] at hk;refine zfK ?_;refine zgX ?_;exact endA (b:=.tup [aInts [],iv 0,iv 11]) hH (zpp (.cons (zaK _ _ _) (.cons (Wk.refl _) (.cons (Wk.refl _) .nil)))) (by simp [zaD,zap,iv,zbi]) hk
   ·have h3 : ¬ (zms x L L.length).2 < 0:=(by simpa using h3);have hb : 0 <= (zms x L L.length).1:=by
     rcases hf2 with ⟨_,h4⟩ | ⟨n,h4,_⟩ <;> omega
    obtain ⟨n,m,t,e1,e2,ht,e3⟩:=hml.2 hb;have hbl : zpR x L L.length = t:=by
     unfold zpR;rw [if_neg (by omega),e1,Int.toNat_natCast,List.getD_eq_getElem?_getD,ht]; rfl
    rw [e3] at hk;rw [hbl,e2];refine zgv ?_;refine zfK ?_;refine zgX ?_;exact endA (b:=.tup [aInts t,iv m,iv 0]) hH (Wk.refl _) (by simp [zaD,zap,iv,zbi]) hk
theorem zpw {x : Ring} : ∀ (p q : List Int) (due : Nat),(∀ v ∈ p,0 <= v /\ v < x.locks.length) -> p.Nodup -> (∀ v ∈ p,due.testBit v.toNat = false) -> ∃ due',cutS x (p ++ q) due = cutS x q due' /\ ∀ j : Nat,due'.testBit j = (due.testBit j || decide ((j : Int) ∈ p))
 | [],q,due,_,_,_ => ⟨due,rfl,fun j => by simp⟩
 | n :: p,q,due,h1,h2,h3 => by
  obtain ⟨hn0,hn1⟩:=h1 n List.mem_cons_self;obtain ⟨hnl,hl⟩:=List.nodup_cons.1 h2;have hin : inM n 0 (x.locks.length - 1) = true:=zbU.2 ⟨hn0,by omega⟩;rw [List.cons_append,cutS,if_pos hin,h3 n List.mem_cons_self];simp only [Bool.false_eq_true,if_false];obtain ⟨due',q1,q2⟩:=zpw p q (due ||| 2 ^ n.toNat) (fun v hv => h1 v (List.mem_cons_of_mem _ hv)) hl fun v hv => by
   have hv0:=(h1 v (List.mem_cons_of_mem _ hv)).1;have hne : n.toNat ≠ v.toNat:=fun e => hnl ((show n = v by omega) ▸ hv);rw [Nat.testBit_or,h3 v (List.mem_cons_of_mem _ hv),Nat.testBit_two_pow_of_ne hne]; rfl
  refine ⟨due',q1,fun j => ?_⟩;rw [q2,Nat.testBit_or,Bool.or_assoc];congr 1;by_cases e : n.toNat = j
  ·subst e;have : ((n.toNat : Nat) : Int) = n:=(by omega);rw [Nat.testBit_two_pow_self,this]; simp
  ·have : ¬ ((j : Int) = n):=(by omega);rw [Nat.testBit_two_pow_of_ne e]; simp [this]
theorem zrU {x : Ring} {l : List Int} {i : Nat} {n : Int} (hn : l[i]? = some n) (h1 : ∀ v ∈ l.take i,0 <= v /\ v < x.locks.length) (h2 : (l.take i).Nodup) : (inM n 0 (x.locks.length - 1) = false -> (cutS x l 0).2 = some 1) /\ (inM n 0 (x.locks.length - 1) = true -> n ∈ l.take i -> (cutS x l 0).2 = some 2):=by
 obtain ⟨due,q1,q2⟩:=zpw (x:=x) (l.take i) (l.drop i) 0 h1 h2 fun v _ => Nat.zero_testBit _;obtain ⟨hj,rfl⟩:=List.getElem?_eq_some_iff.1 hn;rw [List.take_append_drop,List.drop_eq_getElem_cons hj] at q1;rw [q1,cutS];refine ⟨fun h => by rw [h]; rfl,fun h hm => ?_⟩;have hr:=zbU.1 h;rw [h,if_pos rfl,q2,Nat.zero_testBit,Bool.false_or,show ((l[i].toNat : Nat) : Int) = l[i] by omega,decide_eq_true hm]; rfl
theorem zqa {x : Ring} {l t : List Int} {i : Nat} {lk : List Band} (h : x.locks[i]? = some lk) : ((List.range (i + 1)).all fun j : Nat => zmg t (x.locks.getD j []) == decide ((j : Int) ∈ l)) = (((List.range i).all fun j : Nat => zmg t (x.locks.getD j []) == decide ((j : Int) ∈ l)) && (zmg t lk == l.contains (i : Int))):=by
 rw [List.range_succ,List.all_append,List.all_cons,List.all_nil,Bool.and_true,List.getD_eq_getElem?_getD,h,Option.getD_some];congr 2;rw [Bool.eq_iff_iff]; simp
theorem f131_t {l : List Int} {i : Nat} {n : Int} {e : End} (h : i <= l.length) (hl : l.length < 2 ^ 60) (hk : k (bv ((l.take i).contains n)) H) : FnC lv Tryz.prog 131 H [.sl i ((l.map iv).take i) e,iv n] k kp:=by
 have h1 : (l.take i).length = i:=by rw [List.length_take]; omega
 have:=f131_c (lv:=lv) (H:=H) (k:=k) (kp:=kp) (xs:=l.take i) (n:=n) (e:=e) (by omega) hk;rwa [h1,List.map_take] at this
theorem f75_c {x : Ring} {l : List Int} (hs : x.Small) (hll : l.length < 2 ^ 30) (hk : k (.tup [aInts (cutG x l),iv (cutE x l)]) H) : FnC lv Tryz.prog 75 H [x.av,aInts l] k kp:=by
 refine zhQ (rs:=[.tmp 4,.tmp 5]) (nt:=76) Tryz.f75 fun hH hA => ?_;simp only [zlx,Nat.reduceAdd,Ring.av,Ring.l];unfold cutG cutE at hk;refine zfK ?_;refine zfK ?_;refine zl6 ((f36_c (x:=x) hs ?_));(try simp only [seval]);refine zfK ?_;refine zf9 ?_;refine ⟨fun h => ?_,fun h => ?_⟩
 ·have h : zl4 x ≠ 0:=by simpa using h
  have ho : zmb x (cutS x l 0).2 = zl4 x:=by unfold zmb; rw [if_pos h]
  rw [ho,if_pos h,if_pos h] at hk;refine zfK ?_;refine zgX ?_;exact endA (b:=.tup [aInts [],iv (zl4 x)]) hH (zdC (zaK _ _ _) (Wk.refl _)) (by simp [zaD,zap,iv,zbi]) hk
 ·have h : zl4 x = 0:=by simpa using h
  have ho : zmb x (cutS x l 0).2 = flE (cutS x l 0).2:=by unfold zmb; rw [if_neg (by simpa using h)]
  rw [ho] at hk;have hx:=zbH.1 h;have hcu:=hx.cuts;have hx5:=hx.locks;obtain ⟨c,hc⟩ : ∃ c : Nat,x.cuts = c:=⟨x.cuts.toNat,by omega⟩;have hc4 : c <= 4:=by omega
  have hct : x.cuts.toNat = c:=by omega
  refine zgv ?_;refine zfK ?_;refine zhC ?_;refine zlI l.length (fun i : Nat => [(7,iv i)]) (fun _ => _) (fun i => (∀ v ∈ l.take i,0 <= v /\ v < x.locks.length) /\ (l.take i).Nodup) (by simp) (fun hHs hLt i hin hi R hR => ?_);refine zl5 ?_;simp only [seval,aInts];refine zf9 ?_;refine ⟨fun h2 => ?_,fun h2 => ?_⟩
  ·have hil : i < l.length:=(by omega);obtain ⟨n,hn⟩:=zaE hil;have hw1 : IntKind.i64.wrap ((i : Int) + 1) = i + 1:=zau _ (by omega);obtain ⟨hb1,hb2⟩:=zrU hn hi.1 hi.2;refine zgv ?_;refine zhC ?_;refine zlw 5 ?_;simp only [seval,za2 hn,zaz hil];refine zl6 ((f104_c (x:=x) (n:=n) (by omega) ?_));(try simp only [seval]);refine zf9 ?_;refine ⟨fun h3 => ?_,fun h3 => ?_⟩
   ·have h3 : inM n 0 (x.locks.length - 1) = false:=(by simpa using h3);rw [hb1 h3] at hk;refine zfK ?_;refine zgX ?_;exact endA (b:=.tup [aInts [],iv 3]) hH (zdC (zaK _ _ _) (Wk.refl _)) (by simp [zaD,zap,iv,zbi]) hk
   ·have h3 : inM n 0 (x.locks.length - 1) = true:=(by simpa using h3);have hr:=zbU.1 h3;refine zgv ?_;refine zlw 7 ?_;simp only [seval,za2 hn,zaz hil];refine ⟨by omega,by omega,?_⟩;refine zl6 ((f131_t (l:=l) (i:=i) (n:=n) (by omega) (by omega) ?_));(try simp only [seval]);refine zf9 ?_;refine ⟨fun h4 => ?_,fun h4 => ?_⟩
    ·have h4 : n ∈ l.take i:=(by simpa using h4);rw [hb2 h3 h4] at hk;refine zfK ?_;refine zgX ?_;exact endA (b:=.tup [aInts [],iv 4]) hH (zdC (zaK _ _ _) (Wk.refl _)) (by simp [zaD,zap,iv,zbi]) hk
    ·have h4 : n ∉ l.take i:=(by simpa using h4);refine zgv ?_;refine zl5 ?_;simp only [seval,hw1];refine hR _ ⟨hil,⟨fun v hv => ?_,?_⟩,zli⟩
     ·rw [List.take_add_one,hn] at hv;rcases List.mem_append.1 hv with hv | hv
      ·exact hi.1 v hv
      ·simp at hv; subst hv; omega
     ·rw [List.take_add_one,hn];exact List.nodup_append.2 ⟨hi.2,by simp,fun a ha b hb e => h4 (by simp at hb; subst hb; subst e; exact ha)⟩
  ·have hix : i = l.length:=(by omega);subst hix;rw [List.take_length] at hi;have hnone:=(zpj (x:=x) l 0 hi.1 hi.2 fun v _ => Nat.zero_testBit _).1;have hz : flE (cutS x l 0).2 = 0:=(by rw [hnone]; rfl);rw [hz,if_neg (by simp),if_neg (by simp),zpK (by omega) hi.1 hi.2,hct] at hk;clear hR;refine zkY ?_;refine zfK ?_;refine zl6 ((f145_d hx ?_));rw [hct];(try simp only [seval,znX]);have hfa:=zeh 4 (by omega) c hc4;generalize zl1 4 c = L at hfa hk ⊢;obtain ⟨hl20,hlr⟩:=hfa;refine zfK ?_;refine zhC ?_;refine zlI L.length (fun i : Nat => [(9,iv i)]) (fun _ => _) (fun i => ∀ t ∈ L.take i,zqb x l t = false) (by simp) (fun hHs hLt i hin hno R hR => ?_);refine zfK ?_;refine zf9 ?_;refine ⟨fun h2 => ?_,fun h2 => ?_⟩
   ·have hil : i < L.length:=(by omega);obtain ⟨t,ht⟩:=zaE hil;obtain ⟨htl,htb⟩:=hlr t (zas ht);have hw1 : IntKind.i64.wrap ((i : Int) + 1) = i + 1:=zau _ (by omega);refine zgv ?_;refine zfK ?_;refine zfK ?_;refine zhC ?_;refine zlI x.locks.length (fun j : Nat => [(10,bv ((List.range j).all fun j : Nat => zmg t (x.locks.getD j []) == decide ((j : Int) ∈ l))),(11,iv j)]) (fun _ => _) (fun i => True) trivial (fun hHs hLt j hjn hj R2 hR2 => ?_);clear hHs hLt;refine zl5 ?_;simp only [seval,zlO];refine zf9 ?_;refine ⟨fun h3 => ?_,fun h3 => ?_⟩
    ·have hjl : j < x.locks.length:=(by omega);obtain ⟨lk,hlk⟩:=zaE hjl;have hlc:=(hx.lock lk (zas hlk)).1;have hsu:=zqa (l:=l) (t:=t) hlk;have hw2 : IntKind.i64.wrap ((j : Int) + 1) = j + 1:=zau _ (by omega);refine zgv ?_;refine zhC ?_;generalize ((List.range j).all fun j : Nat => zmg t (x.locks.getD j []) == decide ((j : Int) ∈ l)) = bb at hsu hR2 ⊢;cases bb with
     | false =>
      refine zlw 14 ?_;simp only [seval];refine zl5 ?_;simp only [seval,hw2];refine hR2 _ ⟨hjl,trivial,?_⟩;rw [hsu,Bool.false_and];exact zli
     | true =>
      refine zlw 14 ?_;simp only [seval,zlB ht,zaz hil,zfu hlk,zaz hjl];refine zmU (bv (zmg t lk)) (zlH (f146_c (ds:=t) (bs:=lk) (by omega) (by omega) ⟨rfl,rfl⟩)) ?_;(try simp only [seval]);refine zl6 ((f131_c (xs:=l) (n:=(j : Int)) (by omega) ?_));(try simp only [seval]);refine zl5 ?_;simp only [seval,hw2];refine hR2 _ ⟨hjl,trivial,?_⟩;rw [hsu,Bool.true_and];exact zli
    ·have hjx : j = x.locks.length:=(by omega);subst hjx;clear hR2;have hju : ((List.range x.locks.length).all fun j : Nat => zmg t (x.locks.getD j []) == decide ((j : Int) ∈ l)) = zqb x l t:=rfl;rw [hju];refine zkY ?_;refine zfK ?_;refine zf9 ?_;refine ⟨fun h4 => ?_,fun h4 => ?_⟩
     ·rw [zfN (j:=i) (x:=t) ht h4 fun y hy => hno y hy] at hk;refine zl5 ?_;simp only [seval,zlB ht,zaz hil];refine zgX ?_;exact endA (b:=.tup [aInts t,iv 0]) hH (Wk.refl _) (by simp [zaD,zap,iv,zbi]) hk
     ·refine zgv ?_;refine zl5 ?_;simp only [seval,hw1];refine hR _ ⟨hil,fun y hy => ?_,zli⟩;rw [List.take_add_one,ht] at hy;rcases List.mem_append.1 hy with hy | hy
      ·exact hno y hy
      ·simp at hy; subst hy; exact h4
   ·have hix : i = L.length:=(by omega);subst hix;rw [List.take_length] at hno;rw [zdt hno] at hk;clear hR;refine zkY ?_;refine zfK ?_;refine zgX ?_;exact endA (b:=.tup [aInts [],iv 11]) hH (zdC (zaK _ _ _) (Wk.refl _)) (by simp [zaD,zap,iv,zbi]) hk
end
section
variable {lv : Bool} {P : Program} {r : Option Nat} {o : Oper} {s : AS} {next : AS -> Prop} {bad : AV -> AS -> Prop}
end
section
variable (lv : Bool) (P : Program) (r : Option Nat)
end
section
variable {lv : Bool} {P : Program} {r : Option Nat} {s : AS}
end
section
variable {lv : Bool} {P : Program} {r : Option Nat} {o : Oper} {s : AS} {next : AS -> Prop} {bad : AV -> AS -> Prop}
theorem zpl {nt id : Nat} {c : Code} {l : List AV} {el : TypeId} {Φ : AEx -> AS -> Prop} (hid : s.H[id]? = some (.cells l el)) (h : AWP lv P r nt c ⟨s.T,s.H.set id (.part l.length l el)⟩ Φ) : AWP lv P r nt c s Φ:=fun E V a Q hat hQ => by
 have hc:=hat.conc;obtain ⟨⟨cs,hown,hd⟩,himm⟩:=hc.obj id _ hid;have g : Ghost V (V.pubp (E.blk id) cs (fun o => decide (o < l.length))):=zb9 hown (fun o _ => himm o);refine WP.ghost g ?_;have hI : ∀ b o v,E.I b o = some v -> (V.pubp (E.blk id) cs (fun o => decide (o < l.length))).imm b o = some v:=fun b o v e => by
  rw [hc.I] at e;have hb : b ≠ E.blk id:=fun hb => by rw [hb,himm] at e; cases e
  simp only [View.pubp];rw [if_neg (fun x => hb x.1)]; exact e
 have hle : E.Le { E with I:=(V.pubp (E.blk id) cs (fun o => decide (o < l.length))).imm }:=⟨hI,Nat.le_refl _,fun _ _ => rfl,fun _ _ => Nat.le_refl _,fun _ _ _ _ => rfl,rfl,rfl⟩;have hc2 : Conc { E with I:=(V.pubp (E.blk id) cs (fun o => decide (o < l.length))).imm } (V.pubp (E.blk id) cs (fun o => decide (o < l.length))) (s.H.set id (.part l.length l el)):=by
  refine hc.turn id _ hle rfl (by rw [List.length_set]; exact hc.n) zaF rfl (fun _ _ _ => rfl) (fun b y hno hy => ⟨hy,fun o => ?_⟩) ⟨⟨cs,hown,(hd.mono hle).p,fun o ho => ?_⟩,fun o ho => ?_⟩ (fun b hb => .inl ⟨_,hid,hb⟩)
  ·have hb : b ≠ E.blk id:=fun hb => hno _ hid (by rw [hb]; rfl);simp only [View.pubp];rw [if_neg (fun x => hb x.1)]
  ·simp only [View.pubp];rw [if_pos ⟨trivial,by simpa using ho⟩]
  ·simp only [View.pubp];rw [if_neg (fun x => by have:=x.2; simp at this; omega)];exact himm o
 exact h _ _ a Q ⟨hc2,hat.tok.mono hle,hat.size⟩ fun ae e E' V'' a' s' hk => hQ ae e E' V'' a' s' ((⟨hle,rfl,rfl,rfl,rfl⟩ : Kept E _ V (V.pubp (E.blk id) cs (fun o => decide (o < l.length))) a a).trans hk)
def WkH (H : List AObj) (b a : AV) : Prop:=∀ E V v,Conc E V H -> Den E b v -> Den E a v
theorem WkH.of {H : List AObj} {b a : AV} (h : Wk b a) : WkH H b a:=fun E _ v _ d => h E v d
theorem zsW {H : List AObj} {id n cap m p : Nat} {l : List AV} {el : TypeId} (hid : H[id]? = some (.part p l el)) (hm : m <= p) (hp : p <= l.length) : WkH H (.osl id 0 n cap) (.sl n (l.take m) .shut):=fun E V v hc hd => by
 cases hd with
 | osl hi hcap =>
  rename_i cap';obtain ⟨⟨cs,ho,hdl,hi2⟩,_⟩:=hc.obj id _ hid;refine .sl (E.blk id) 0 cap' (fun i => cs.getD i undef) hcap.1 trivial (fun i hi' => ?_) (fun i x hx => ?_)
  ·rw [List.length_take] at hi';have hlt : i < cs.size:=(by have:=hdl.1; omega);rw [hc.I,Nat.zero_add,hi2 i (by omega),Array.getD_eq_getD_getElem?,Array.getElem?_eq_getElem hlt]; rfl
  ·rw [List.getElem?_take] at hx;split at hx
   ·exact hdl.2 i x hx
   ·cases hx
theorem zrZ {nt t : Nat} {c : Code} {x y : AV} {Φ : AEx -> AS -> Prop} (ht : look s.T t = some x) (hw : WkH s.H x y) (h : AWP lv P r nt c ⟨(t,y) :: s.T,s.H⟩ Φ) : AWP lv P r nt c s Φ:=fun E V a Q hat hQ => by
 refine h E V a Q ⟨hat.conc,fun t' b e => ?_,hat.size⟩ hQ;simp only [look] at e;split at e
 ·rename_i e'; subst e'; cases e;exact ⟨(hat.tok t x ht).1,hw E V _ hat.conc (hat.tok t x ht).2⟩
 ·exact hat.tok t' b e
end
def mixT (τ : TinS) (n : Nat) : Nat -> List Int × TinS
 | 0 => (List.replicate n 0,τ)
 | i + 1 => (((mixT τ n i).1.set i ((mixT τ n i).1.getD (zmz (mixT τ n i).2 i).toNat 0)).set (zmz (mixT τ n i).2 i).toNat i,tick (mixT τ n i).2)
theorem zn6 (τ : TinS) (n : Nat) : ∀ i,(mixT τ n i).1.length = n
 | 0 => List.length_replicate
 | i + 1 => by rw [mixT,List.length_set,List.length_set,zn6 τ n i]
theorem zpf {τ : TinS} {b : Int} (h : τ.Ok b) (n : Nat) : ∀ i : Nat,(mixT τ n i).2.Ok (b + i)
 | 0 => h.mono (by simp)
 | i + 1 => (zpf h n i).tick.mono (by simp; omega)
theorem zpC (n : Nat) : zlU (Value.int .i64 0) n = (List.replicate n (0 : Int)).map iv:=by
 have h : ∀ i ∈ List.range n,AV.of1 ((Value.int IntKind.i64 0).cells[i % (Value.int IntKind.i64 0).cells.size]!) = iv 0:=fun i _ => by
  rw [show (Value.int IntKind.i64 0).cells.size = 1 from rfl,Nat.mod_one]; rfl
 rw [List.map_replicate];unfold zlU;rw [List.map_congr_left h,List.map_const',List.length_range]
section
variable {lv : Bool} {k kp : AV -> List AObj -> Prop} {Gf : TinS -> List AObj} {t N : Nat} {τ : TinS} {b : Int}
theorem f66_c {n : Nat} (hT : TinAt Gf t N) (hτ : τ.Ok b) (hb : b < 2 ^ 30) (hn : n <= 2 ^ 20) (hk : k (aInts (mixT τ n n).1) (Gf (mixT τ n n).2)) : FnC lv Tryz.prog 66 (Gf τ) [.op t 0,iv n] k kp:=by
 refine zhQ (rs:=[.tmp 4]) (nt:=30) Tryz.f66 fun hH hA => ?_;simp only [zlx,Nat.reduceAdd];have hT1 : ∀ o : AObj,TinAt (fun τ => Gf τ ++ [o]) t (N + 1):=fun o => hT.more [o];refine zfK ?_;refine zl5 ?_;simp only [seval,zpC,hT.len];refine ⟨by omega,by omega,?_⟩;refine zfK ?_;refine zhC ?_;refine zaB n (fun i : Nat => [(6,iv i)]) (fun i => Gf (mixT τ n i).2 ++ [.cells ((mixT τ n i).1.map iv) 3]) (fun _ => True) (fun _ _ => rfl) (by simp only [seval]; simp [zaf,Wk.refl]) rfl (fun _ _ _ => by simp [hT.len]) trivial (fun hHs hLt i hin hi R hR => ?_);clear hHs hLt;refine zfK ?_;refine zf9 ?_;refine ⟨fun h => ?_,fun h => ?_⟩
 ·have hil : i < n:=by omega
  have hok:=zpf hτ n i;have hlen:=zn6 τ n i;have hwi : IntKind.i64.wrap ((i : Int) + 1) = i + 1:=zau _ (by omega);have hsu : mixT τ n (i + 1) = (((mixT τ n i).1.set i ((mixT τ n i).1.getD (zmz (mixT τ n i).2 i).toNat 0)).set (zmz (mixT τ n i).2 i).toNat i,tick (mixT τ n i).2):=rfl;generalize mixT τ n i = m at hok hlen hsu ⊢;obtain ⟨l,σ⟩:=m;simp only at hok hlen hsu;have hr:=zaX σ i;refine zgv ?_;refine zfK ?_;refine zl6 ((f29_c (hT1 _) hok (by omega) (by omega) ?_));(try simp only [seval]);generalize zmz σ i = u at hr hsu ⊢;obtain ⟨u,rfl⟩ : ∃ w : Nat,u = w:=⟨u.toNat,by omega⟩;rw [Int.toNat_natCast] at hsu;have hul : u < n:=by omega
  obtain ⟨a,ha⟩:=zaE (xs:=l) (i:=u) (by omega);have hga : l.getD u 0 = a:=by rw [List.getD_eq_getElem?_getD,ha]; rfl
  rw [hga] at hsu;obtain ⟨a2,ha2⟩:=zaE (xs:=l) (i:=i) (by omega);have hoi : (i + 1 <= l.length) = True:=by simp; omega
  have hou : (u + 1 <= (l.set i a).length) = True:=by simp; omega
  refine zl5 ?_;simp only [seval,zaz hil,zaz hul,hT.an,zbf ha,List.length_map,hoi,zfv (y:=a) (show i < l.length by omega)];refine zl5 ?_;simp only [seval,zaz hul,hT.an,List.length_map,hou,zfv (xs:=l.set i a) (y:=i) (show u < (l.set i a).length by simp; omega)];refine zl5 ?_;simp only [seval,hwi];refine hR _ ⟨hil,trivial,?_⟩;rw [hsu];exact zli
 ·have hix : i = n:=by omega
  subst hix;clear hR;refine zkY ?_;have hlen:=zn6 τ i i;generalize mixT τ i i = m at hlen hk ⊢;obtain ⟨l,σ⟩:=m;simp only at hlen hk
  (repeat apply zaa); refine zpl (id:=N) (by simp only [seval,hT.an] <;> rfl) ?_
  try simp only [seval,hT.an]
  (repeat apply zaa); refine zrZ (t:=5) (y:=aInts l) (by simp only [seval] <;> rfl) ?_ ?_
  ·have e : aInts l = .sl i ((l.map iv).take i) .shut:=by
    rw [List.take_of_length_le (by simp; omega),aInts,hlen]
   rw [e];exact zsW (p:=l.length) (by simp only [seval,hT.an] <;> rfl) (by omega) (by simp)
  refine zfK ?_;refine zgX ?_;exact zaJ (b:=aInts l) (H':=Gf σ) (G:=[.part l.length (l.map iv) 3]) (Wk.refl _) rfl (by simp [hT.len]) (hT.hok hH σ) (by rw [zbi]; trivial) hk
end
section
variable {H : List AObj} {k kp : AV -> List AObj -> Prop}
theorem zql {lv : Bool} {P : Program} {r : Option Nat} {nt : Nat} {c : Code} {s : AS} {Φ : AEx -> AS -> Prop} (t : Nat) {x : AV} (y : AV) (ht : look s.T t = some x) (hw : Wk x y) (h : AWP lv P r nt c ⟨(t,y) :: s.T,s.H⟩ Φ) : AWP lv P r nt c s Φ:=by
 refine ziu (s':=⟨(t,y) :: s.T,s.H⟩) ⟨fun t' a e => ?_,rfl⟩ h;by_cases htt : t = t'
 ·subst htt;have e : look ((t,y) :: s.T) t = some a:=e;rw [zpr] at e; cases e;exact ⟨x,ht,hw⟩
 ·have e : look ((t,y) :: s.T) t' = some a:=e;rw [zkx _ _ _ _ (by simpa using htt)] at e;exact ⟨a,e,Wk.refl _⟩
end
section
variable {lv : Bool} {H : List AObj} {k kp : AV -> List AObj -> Prop}
theorem F.sh52 : znO Tryz.prog 52 [true,false] = true:=by kernel_rfl
theorem F.g52 : Tryz.prog.eqGuardType Tryz.prog.depth 52 = false:=by kernel_rfl
theorem sure52 (a : Int) (c : Bool) : Sure Tryz.prog (Op.equal 52 (.agg #[.int .i64 a,.bool c]) (.agg #[.int .i64 a,.bool c])) true :=
 zni (d:=9998) F.sh52 (fun i h => match i,h with
  | 0,_ => ⟨_,_,rfl⟩
  | 1,h => by cases h
  | _ + 2,h => by cases h) (fun i h => match i,h with
  | 0,h => by cases h
  | 1,_ => ⟨_,rfl⟩
  | _ + 2,h => by cases h)
theorem B52.same (a : Int) (c : Bool) (k : AV -> Prop) : ABin Tryz.prog .neq 52 (.agg [.val (.int .i64 a),.val (.bool c)]) (.agg [.val (.int .i64 a),.val (.bool c)]) k = k (.val (.bool false)):=zop (V:=.agg #[.int .i64 a,.bool c]) rfl rfl F.g52 (sure52 a c) k
attribute [seval] B52.same
theorem f50_t {xs : List Int} {e : End} (hl : xs.length <= 2 ^ 30) (hk : k (.sl xs.length (xs.map iv) (.opn H.length)) (H ++ [.tail xs.length 1 3])) : FnC lv Tryz.prog 50 H [.sl xs.length (xs.map iv) e] k kp:=by
 refine zhQ (rs:=[.tmp 2]) (nt:=6) Tryz.f50 fun hH hA => ?_;simp only [zlx,Nat.reduceAdd];have hlen : (xs.map iv).length = xs.length:=List.length_map ..;have htake : (xs.map iv).take xs.length = xs.map iv:=List.take_of_length_le (by omega);refine zfK ?_;refine zl5 ?_;simp only [seval,htake,hlen];refine ⟨hl,?_⟩;refine zgX ?_;exact zao hk
end
theorem zrj (x : Ring) : (masG x).length < 2 ^ 60:=by
 unfold masG;split
 ·simp
 ·rename_i h;have hx:=zbH.1 (by simpa using h : zl4 x = 0);have hcu:=hx.cuts;cases hm : zmc x 3 with
  | none => simp
  | some p =>
   obtain ⟨d,m⟩:=p;have hml:=zoD (x:=x) (by omega) (b:=(zms x (zl1 4 x.cuts.toNat) (zl1 4 x.cuts.toNat).length).1) (m:=(zms x (zl1 4 x.cuts.toNat) (zl1 4 x.cuts.toNat).length).2) rfl;rcases Int.lt_or_le (zms x (zl1 4 x.cuts.toNat) (zl1 4 x.cuts.toNat).length).1 0 with h0 | h0
   ·rw [hml.1 h0] at hm; cases hm
   ·obtain ⟨n,j,t,_,_,ht,e⟩:=hml.2 h0;rw [e] at hm;cases hm;have:=((zeh 4 (by omega) x.cuts.toNat (by omega)).2 d (zas ht)).1;show d.length < _;omega
theorem zrV (x : Ring) (l : List Int) : (cutG x l).length < 2 ^ 60:=by
 unfold cutG;split
 ·simp
 ·rename_i h;have hx:=zbp (x:=x) (fl:=(cutS x l 0).2) (by simpa using h);have hcu:=hx.cuts;unfold znb;rw [zm1];cases ((List.range (4 ^ x.cuts.toNat)).map (digs x.cuts.toNat)).find? (fun ds => zlP x.cuts ds x.locks x.locks.length == (cutS x l 0).1) with
  | none => simp
  | some d => simp; omega
section
variable {H : List AObj} {k kp : AV -> List AObj -> Prop}
set_option maxRecDepth 4000 in
set_option maxHeartbeats 1000000 in
theorem f19_c {x0 : Ring} {t0 : Try} {l0 : List Band} {li : List Int} {nn : Int} {nums : List Int} (hmain : H[0]? = some .main) (hn : nums.length <= 2 ^ 50) (hk : k (bv true) H) : FnC true Tryz.prog 19 H [x0.av,t0.av,aBands l0,aInts li,iv nn,aInts nums] k kp:=by
 have hmn : ∀ L : List AObj,(H ++ L)[0]? = some .main:=fun L => zay hmain;refine zhQ (rs:=[.tmp 12]) (nt:=171) Tryz.f19 fun hH hA => ?_;simp only [zlx,Nat.reduceAdd,Ring.av,Ring.l,Try.av,Try.l];have d1 : decide ((l0.length : Int) > 20) = decide (20 < l0.length):=by rw [decide_eq_decide]; omega
 have d2 : decide ((li.length : Int) > 20) = decide (20 < li.length):=by rw [decide_eq_decide]; omega
 refine zl5 ?_;simp only [seval,Ring.l,Try.l];cases hb1 : zot x0 with
 | true =>
  refine zfK ?_;refine zl6 ((f24_c (x:=x0) ?_));(try simp only [seval,hb1]);refine zf9 ?_;refine zfK ?_;refine zl6 ((f25_c (hmn _) ?_));(try simp only [seval]);refine zgX ?_;exact endV hH hk
 | false =>
  cases hb2 : decide (20 < l0.length) with
  | true =>
   refine zfK ?_;refine zl6 ((f24_c (x:=x0) ?_));(try simp only [seval,hb1,aBands,aInts,d1,d2,hb2]);refine zf9 ?_;refine zfK ?_;refine zl6 ((f25_c (hmn _) ?_));(try simp only [seval]);refine zgX ?_;exact endV hH hk
  | false =>
   obtain ⟨hs0,_⟩:=zpg hb1;have hl0 : ¬ 20 < l0.length:=(by simpa using hb2);cases hb3 : decide (20 < li.length) with
   | true =>
    refine zfK ?_;refine zl6 ((f24_c (x:=x0) ?_));(try simp only [seval,hb1,aBands,aInts,d1,d2,hb2,hb3]);refine zf9 ?_;refine zfK ?_;refine zl6 ((f25_c (hmn _) ?_));(try simp only [seval]);refine zgX ?_;exact endV hH hk
   | false =>
    have hli : ¬ 20 < li.length:=(by simpa using hb3);refine zfK ?_;refine zl6 ((f24_c (x:=x0) ?_));(try simp only [seval,hb1,aBands,aInts,d1,d2,hb2,hb3]);refine zf9 ?_;refine zgv ?_;refine zfK ?_;refine zl6 ((f26_c ?_));(try simp only [seval]);refine zfK ?_;generalize hc1 : AObj.cells [AV.val (Value.int IntKind.i64 x0.cuts),zmd x0.keys,zlO x0.locks,zlT x0.tries] 26 = c1;generalize hc2 : AObj.cells [AV.val (Value.int IntKind.i64 t0.key),AV.val (Value.int IntKind.i64 t0.lock),AV.val (Value.bool t0.opens)] 28 = c2;have hT : TinAt (fun τ => H ++ [c1,c2,tinO τ]) (H.length + 2) (H.length + 3):=by
     have:=zjT (H ++ [c1,c2]);simpa using this
    have hT4 : ∀ o : AObj,TinAt (fun τ => H ++ [c1,c2,tinO τ,o]) (H.length + 2) (H.length + 4):=fun o => by
     have:=hT.more [o];simpa using this
    refine zl6 ((f27_c (x:=x0) (r:=t0) (l:=l0) hT (tinOk0 hn _) (by decide) hs0 (by omega) fun y z ws τ hP hz hto => ?_));have hy:=hP.ok (by decide) (by decide) (by decide);have hRS : x0.l ++ y.l ++ z.l = ([x0,y,z] : List Ring).flatMap Ring.l:=(by simp);have hRn : ([x0,y,z] : List Ring).length = 3:=rfl;have hRs : ∀ r ∈ ([x0,y,z] : List Ring),r.Small:=fun r hr => by
     simp only [List.mem_cons,List.not_mem_nil,or_false] at hr;rcases hr with rfl | rfl | rfl
     ·exact hs0
     ·exact hy.small
     ·exact hz
    rw [hRS];generalize ([x0,y,z] : List Ring) = RS at hRn hRs ⊢;clear hRS hP hz hy;have hto:=hto.mono (b':=2000) (by decide);(try simp only [seval]);have w1 : ∀ i : Nat,i <= 1000 -> IntKind.i64.wrap ((i : Int) + 1) = i + 1:=fun i _ => zau _ (by omega);refine zfK ?_;refine zhC ?_;refine za9 (measure fun m : Nat × TinS => 3 - m.1).wf (fun m => [(15,iv m.1)]) (fun m => H ++ [c1,c2,tinO m.2]) (fun m => m.1 <= 3 /\ m.2.Ok (2000 + 10 * m.1)) (0,τ) (fun _ _ => rfl) (by simp only [seval]; simp [zaf,Wk.refl]) rfl (fun _ _ => by simp) ⟨by simp,hto.mono (by simp)⟩ (fun hHs hLt m hok R hR => ?_);clear hLt;obtain ⟨i,τ⟩:=m;obtain ⟨hi3,hto⟩:=hok;simp only at hi3 hto;refine zfK ?_;refine zf9 ?_;refine ⟨fun h => ?_,fun h => ?_⟩
    ·have hil : i < RS.length:=(by omega);obtain ⟨x,hx⟩:=zaE hil;have hxs:=hRs x (zas hx);have hb3 : (0 <= (i : Int) /\ (i : Int) < 3) = True:=(by simp; omega);refine zgv ?_;refine zl5 ?_;simp only [seval,znB hx,hb3];refine zl6 ((f28_c (x:=x) hxs ?_));(try simp only [seval,Ring.av,Ring.l]);obtain ⟨q,hq⟩ : ∃ q : Nat,(if 4 < (x.locks.length : Int) then (4 : Int) else (x.locks.length : Int)) = q:=⟨min x.locks.length 4,by split <;> omega⟩;have hq4 : q <= 4:=(by split at hq <;> omega);refine zl5 ?_;simp only [seval,znB hx,hb3,zlO,hq];refine zl6 ((f66_c (n:=q) (hT4 _) hto (by omega) (by omega) ?_));have hpl:=zn6 τ q q;have hpo:=zpf hto q q;generalize mixT τ q q = m at hpl hpo ⊢;obtain ⟨p,σ⟩:=m;simp only at hpl hpo;(try simp only [seval]);have hsl : aInts p = .sl p.length (p.map iv) .shut:=rfl;refine zl5 ?_;simp only [seval,hsl];refine zl6 ((f29_c (hT4 _) hpo (by omega) (by omega) ?_));have hur:=zaX σ p.length;generalize zmz σ p.length = u at hur ⊢;obtain ⟨u,rfl⟩ : ∃ w : Nat,u = w:=⟨u.toNat,by omega⟩;have hso:=hpo.tick;generalize tick σ = σ at hso ⊢;(try simp only [seval]);refine ⟨by omega,by omega,?_⟩
     (repeat apply zaa); refine zql 17 (aInts (p.take u)) (by simp only [seval] <;> rfl) ?_ ?_
     ·have h1 : (p.take u).length = u:=(by rw [List.length_take]; omega);rw [aInts,h1,List.map_take];exact zaK _ _ _
     have hml : (p.take u).length <= 4:=(by rw [List.length_take]; omega);generalize p.take u = made at hml ⊢;have hsm : aInts made = .sl made.length (made.map iv) .shut:=rfl;have hmm : (made.map iv).length = made.length:=List.length_map ..;refine zl5 ?_;simp only [seval,hsm];refine zl6 ((f50_t (xs:=made) (by omega) ?_));(try simp only [seval,z1,zs3,zhq,zd5,hmm]);refine ⟨by omega,?_⟩
     (repeat apply zaa); refine zql 18 (.sl 3 (([li,made,made ++ [nn]] : List (List Int)).map aInts) .shut) (by simp only [seval] <;> rfl) ?_ ?_
     ·refine zqE (.cons (Wk.refl _) (.cons (Wk.refl _) (.cons ?_ .nil)));have e : aInts (made ++ [nn]) = .sl (made.length + 1) (made.map iv ++ [iv nn]) .shut:=(by simp [aInts]);rw [e];exact zaK _ _ _
     have hLn : ([li,made,made ++ [nn]] : List (List Int)).length = 3:=rfl;have hLb : ∀ u ∈ ([li,made,made ++ [nn]] : List (List Int)),u.length <= 20:=fun u hu => by
      simp only [List.mem_cons,List.not_mem_nil,or_false] at hu;rcases hu with rfl | rfl | rfl
      ·omega
      ·omega
      ·simp; omega
     generalize ([li,made,made ++ [nn]] : List (List Int)) = LS at hLn hLb ⊢;generalize hc6 : AObj.tail (made.length + 1) 1 3 = c6;generalize hc4 : tinO σ = c4;refine zfK ?_;refine zhC ?_;refine zlI 3 (fun j : Nat => [(19,iv j)]) (fun _ => _) (fun _ => True) trivial (fun hHs2 hLt j hjn hjo R2 hR2 => ?_);clear hLt;refine zfK ?_;refine zf9 ?_;refine ⟨fun h2 => ?_,fun h2 => ?_⟩
     ·have hjl : j < LS.length:=(by omega);obtain ⟨v,hv⟩:=zaE hjl;have hvl:=hLb v (zas hv);have hbj : (0 <= (j : Int) /\ (j : Int) < 3) = True:=(by simp; omega);refine zgv ?_;refine zl5 ?_;simp only [seval,zlB hv,hbj];refine zl6 ((f50_c (xs:=v) (by omega) ?_));(try simp only [seval]);refine zfK ?_;refine zl6 ((f62_d (x:=x) (l:=v) (hmn _) hxs (by omega) ?_));(try simp only [seval]);refine zlw 13 ?_;simp only [seval,znB hx,hb3,zlB hv,hbj];refine zmU _ (zlH (f75_c (x:=x) (l:=v) hxs (by omega) ⟨rfl,rfl⟩)) ?_;(try simp only [seval]);refine zl5 ?_;simp only [seval,bne_self_eq_false];refine zl6 ((f34_same (xs:=cutG x v) (zrV x v) ?_));(try simp only [seval,zlB hv,hbj]);refine zl6 ((f34_same (xs:=v) (by omega) ?_));(try simp only [seval]);refine zf9 ?_;refine zgv ?_;refine zl5 ?_;simp only [seval,w1 j (by omega)];refine hR2 _ ⟨by omega,trivial,zli⟩
     ·have hjx : j = 3:=(by omega);clear hR2;refine zkY ?_;refine zfK ?_;refine zl6 ((f76_d (x:=x) (hmn _) hxs ?_));(try simp only [seval]);refine zl5 ?_;simp only [seval,znB hx,hb3];refine zl6 ((f77_c (x:=x) hxs ?_));(try simp only [seval]);refine zlw 20 ?_;simp only [seval,znB hx,hb3,bne_self_eq_false];refine zmU _ (zlH (f34_same (xs:=masG x) (zrj x) ⟨rfl,rfl⟩)) ?_;(try simp only [seval,znB hx,hb3,bne_self_eq_false]);refine zl6 ((f37_same (x:=x) hxs ?_));(try simp only [seval]);refine zf9 ?_;refine zgv ?_;refine zl5 ?_;simp only [seval,w1 i (by omega)];subst hc4;refine hR _ ⟨(i + 1,σ),by show 3 - (i + 1) < 3 - i; omega,⟨by show i + 1 <= 3; omega,hso.mono (by simp; omega)⟩,?_⟩;exact zat (L:=[c1,c2,tinO σ]) (zam rfl rfl) (by simp only [seval]; simp [zaf,Wk.refl]) (hT.hok hHs σ) (by simp [zap])
    ·clear hR;refine zkY ?_;refine zfK ?_;refine zl6 ((f25_c (hmn _) ?_));(try simp only [seval]);refine zgX ?_;exact endV hH hk
end
open Go.ChangeShapes Go.WideShapes Go.ChangeAt Go.RowKit
def zpT (W : World) : View:=⟨fun b o => W.cell? ⟨b,o,none⟩,fun _ => none,0,.plain⟩
def env0 (W : World) : Env:=⟨(zpT W).imm,1,fun _ => 0,fun _ _ => (none,0),fun _ => 0,fun _ => none,true⟩
theorem sat0 (W : World) : Sat (zpT W) W:=⟨fun _ _ _ h => h,fun _ _ h => by cases h⟩
theorem conc0 (W : World) : Conc (env0 W) (zpT W) [.main] where
 I:=rfl
 n:=rfl
 obj:=fun k x h => by
  match k,h with
  | 0,h => cases h; exact rfl
  | k + 1,h => cases h
 inj:=fun i j x y b hi hj h1 h2 => by
  match i,hi with
  | 0,hi => cases hi; cases h1
  | i + 1,hi => cases hi
 group:=fun g h => by cases h
 chan:=fun c h => by cases h
 top:=fun _ => ⟨rfl,rfl⟩
 fr:=fun b y h => by cases h
theorem zjf {f : FuncId} {W : World} {args : Array Value} {avs : List AV} {Q : Value -> Prop} (hi : Tryz.prog.inits.idxOf? f = none) (hd : Denl (env0 W) avs args) (h : FnC true Tryz.prog f [.main] avs (fun a _ => ∀ E v,Den E a v -> Q v) (fun _ _ => False)) :
  ∃ M last o w' t',runNT Tryz.prog (M + 1) (solo (G (Frame.enter Tryz.prog f args .normal) []) W) #[] = (.ended o w',t') /\ runN Tryz.prog M (solo (G (Frame.enter Tryz.prog f args .normal) []) W) = .next last /\ step Tryz.prog last = .ended o w' /\ Conc.Good Tryz.prog (fun v w => Q v /\ Left W.heap.size W w) last o w' t' :=
 zgE hi (V:=zpT W) rfl rfl rfl (sat0 W) (h (env0 W) (zpT W) args (conc0 W) hd) fun o V' r => by
  cases o with
  | ret v =>
   obtain ⟨av,E',H',_,hro,_,hden,_,hk⟩:=r;exact ⟨hro,v,rfl,fun w _ hl => ⟨hk _ _ hden,hl⟩⟩
  | panic ch =>
   obtain ⟨pv,v,E',H',_,_,_,_,_,_,hf⟩:=r;exact hf.elim
theorem Left.below {W w : World} (h : Left W.heap.size W w) : Below W.heap.size W w:=⟨h.os,h.tape,h.out,h.size,h.old⟩
theorem Tz.own : ownKnob Tryz.prog.godebug = none:=by kernel_rfl
theorem Tz.laidOut : laidOutB Tryz.prog = true:=by kernel_rfl
theorem Tz.u30 : Tryz.prog.underlying 30 = some (.slice 3):=by kernel_rfl
theorem Tz.u3 : Tryz.prog.underlying 3 = some (.int .i64):=by kernel_rfl
theorem Tz.u4 : Tryz.prog.underlying 4 = some .bool:=by kernel_rfl
theorem Tz.c3 : Tryz.prog.cellsOf 3 = 1:=by kernel_rfl
theorem Tz.b3 : Tryz.prog.bytesOf 3 = 8:=by kernel_rfl
structure Rd (W : World) (e : TypeId) {α : Type} (f : α -> List AV) (n : Nat) : Prop where
 cells : Tryz.prog.cellsOf e = n
 len : ∀ a,(f a).length = n
 rd : ∀ {H : Type} {enc : TypeId × Value -> H} {fuel : Nat} {cs : List Value} {x : DataW H × List MemPlace},DataW.trod enc Tryz.prog W 0 (fun _ => true) true fuel e cs = some x -> ∃ a,Denl (env0 W) (f a) cs.toArray
section
variable {W : World}
theorem znT {E : Env} {a : AV} {v : Value} (h : Den E a v) : Denl E [a] [v].toArray:=⟨rfl,fun i x e => by
 match i,e with
 | 0,e => cases e; exact h⟩
theorem znD {E : Env} {l m : List AV} {xs ys : List Value} (h : Denl E l xs.toArray) (k : Denl E m ys.toArray) : Denl E (l ++ m) (xs ++ ys).toArray:=by
 have:=zcN h k;simpa using this
theorem rd_int {e : TypeId} {k : IntKind} (hu : Tryz.prog.underlying e = some (.int k)) (hc : Tryz.prog.cellsOf e = 1) : Rd W e (fun z : Int => [AV.val (.int k z)]) 1 where
 cells:=hc
 len:=fun _ => rfl
 rd:=fun h => by
  obtain ⟨n,rfl,_,_⟩:=DataW.trod_int hu h;exact ⟨n,znT (.val _)⟩
theorem zth {e : TypeId} (hu : Tryz.prog.underlying e = some .bool) (hc : Tryz.prog.cellsOf e = 1) : Rd W e (fun z : Bool => [bv z]) 1 where
 cells:=hc
 len:=fun _ => rfl
 rd:=fun h => by
  obtain ⟨n,rfl,_⟩:=DataW.trod_bool hu h;exact ⟨n,znT (.val _)⟩
theorem zp6 {α : Type} {Q : Nat -> α -> Prop} : ∀ n,(∀ i,i < n -> ∃ a,Q i a) -> ∃ l : List α,l.length = n /\ ∀ (i : Nat) a,l[i]? = some a -> Q i a
 | 0,_ => ⟨[],rfl,fun i a e => by simp at e⟩
 | n + 1,h => by
  obtain ⟨l,hl,hq⟩:=zp6 n fun i hi => h i (by omega);obtain ⟨a,ha⟩:=h n (by omega);refine ⟨l ++ [a],by simp [hl],fun i b e => ?_⟩;by_cases hi : i < n
  ·rw [List.getElem?_append_left (by omega)] at e; exact hq i b e
  ·have hi2 : i = n:=(by have:=get_lt e; simp at this; omega);subst hi2;rw [List.getElem?_append_right (by omega),hl,Nat.sub_self] at e;cases e; exact ha
theorem zpv {α : Type} {f : α -> List AV} {n : Nat} (hf : ∀ a,(f a).length = n) : ∀ (l : List α) (q r : Nat),r < n -> (l.flatMap f)[q * n + r]? = (l[q]?).bind fun a => (f a)[r]?
 | [],q,r,_ => by simp
 | a :: l,0,r,h => by
  rw [List.flatMap_cons,Nat.zero_mul,Nat.zero_add,List.getElem?_append_left (by rw [hf]; exact h)]; rfl
 | a :: l,q + 1,r,h => by
  rw [List.flatMap_cons,List.getElem?_append_right (by rw [hf,Nat.succ_mul]; omega),hf,List.getElem?_cons_succ,<- zpv hf l q r h];congr 1;rw [Nat.succ_mul]; omega
theorem zpu {α : Type} {f : α -> List AV} {n : Nat} (hf : ∀ a,(f a).length = n) : ∀ l : List α,(l.flatMap f).length = l.length * n
 | [] => by simp
 | a :: l => by rw [List.flatMap_cons,List.length_append,hf,zpu hf l,List.length_cons,Nat.succ_mul]; omega
theorem zqj {a : Addr} {v : Value} (h : W.cell? a = some v) : a.spot = none:=by
 unfold World.cell? at h;split at h
 ·split at h
  ·cases h
  ·rename_i hs; simpa using hs
 ·cases h
theorem add_zero (a : Addr) : a.add 0 = a:=by unfold Addr.add; simp
theorem znQ {α : Type} {t e : TypeId} {f : α -> List AV} {n : Nat} (hu : Tryz.prog.underlying t = some (.slice e)) (hc : Tryz.prog.cellsOf t = 1) (hR : Rd W e f n) (hn : 0 < n) : Rd W t (fun l : List α => [AV.sl l.length (l.flatMap f) .shut]) 1 where
 cells:=hc
 len:=fun _ => rfl
 rd:=fun {H enc fuel cs x} h => by
  rcases DataW.trod_slice hu h with ⟨rfl,_⟩ | ⟨a,len,cap,elems,rest,m,_,rfl,_,_,hl,_,hlen,hel,hsp,_⟩
  ·exact ⟨[],znT (.nil trivial)⟩
  ·have hrest:=(hsp rfl).2;have hrl:=(hsp rfl).1;have each : ∀ i,i < len -> ∃ y cs',W.cells? 0 (a.add (i * n)) n = some cs' /\ Denl (env0 W) (f y) cs'.toArray:=fun i hi => by
    have h1:=hel i hi;rw [hR.cells] at h1;obtain ⟨z,hz⟩:=zaE (xs:=elems) (i:=i) (by omega);rw [hz] at h1;obtain ⟨cs',hcs,hy⟩:=Option.bind_eq_some_iff.1 h1;obtain ⟨y,hd⟩:=hR.rd hy;exact ⟨y,cs',hcs,hd⟩
   by_cases hcap : cap = 0
   ·subst hcap;have : len = 0:=(by omega);subst this;exact ⟨[],znT (.nil trivial)⟩
   ·have hspot : a.spot = none:=by
     have one : ∀ cs',W.cells? 0 a n = some cs' -> a.spot = none:=fun cs' hcs => by
      obtain ⟨_,hcl,hcell⟩:=World.cells?_some hcs;obtain ⟨v,hv⟩:=zaE (xs:=cs') (i:=0) (by omega);have:=hcell 0 hn;rw [hv,add_zero] at this;exact zqj this
     by_cases hz : len = 0
     ·have h1:=hrest 0 (by omega);rw [hR.cells,hz,Nat.zero_add,Nat.zero_mul,add_zero] at h1;obtain ⟨z,hz⟩:=zaE (xs:=rest) (i:=0) (by omega);rw [hz] at h1;obtain ⟨cs',hcs,_⟩:=Option.bind_eq_some_iff.1 h1;exact one cs' hcs
     ·obtain ⟨y,cs',hcs,_⟩:=each 0 (by omega);rw [Nat.zero_mul,add_zero] at hcs;exact one cs' hcs
    obtain ⟨b,o,sp⟩:=a;simp only at hspot;subst hspot;obtain ⟨l,hll,hq⟩:=zp6 (Q:=fun i y => ∃ cs',W.cells? 0 ((⟨b,o,none⟩ : Addr).add (i * n)) n = some cs' /\ Denl (env0 W) (f y) cs'.toArray) len each;have at2 : ∀ (q r : Nat),q < len -> r < n -> ∃ (y : α) (cs' : List Value),l[q]? = some y /\ cs'.length = n /\ Denl (env0 W) (f y) cs'.toArray /\ W.cell? ⟨b,o + (q * n + r),none⟩ = cs'[r]?:=fun q r hq1 hr => by
     obtain ⟨y,hy⟩:=zaE (xs:=l) (i:=q) (by omega);obtain ⟨cs',hcs,hd⟩:=hq q y hy;obtain ⟨_,hcl,hcell⟩:=World.cells?_some hcs;refine ⟨y,cs',hy,hcl,hd,?_⟩;have:=hcell r hr;rw [zbr,zbr,Nat.add_assoc] at this;exact this
    refine ⟨l,znT ?_⟩;have hfl:=zpu hR.len l;have hdiv : ∀ i,i < len * n -> i / n < len /\ i % n < n /\ i / n * n + i % n = i:=fun i hi => ⟨by rw [Nat.div_lt_iff_lt_mul hn]; exact hi,Nat.mod_lt _ hn,by rw [Nat.mul_comm]; exact Nat.div_add_mod i n⟩;rw [hll] at hfl ⊢;refine .sl b o cap (fun i => (W.cell? ⟨b,o + i,none⟩).getD undef) hl trivial (fun i hi => ?_) fun i x hx => ?_
    ·rw [hfl] at hi;obtain ⟨h1,h2,h3⟩:=hdiv i hi;obtain ⟨y,cs',_,hcl,_,hcell⟩:=at2 _ _ h1 h2;rw [h3] at hcell;obtain ⟨v,hv⟩:=zaE (xs:=cs') (i:=i % n) (by omega);rw [hv] at hcell;show W.cell? ⟨b,o + i,none⟩ = _;rw [hcell]; rfl
    ·have hi:=get_lt hx;rw [hfl] at hi;obtain ⟨h1,h2,h3⟩:=hdiv i hi;obtain ⟨y,cs',hy,hcl,hd,hcell⟩:=at2 _ _ h1 h2;rw [<- h3,zpv hR.len l _ _ h2,hy] at hx;have hx : (f y)[i % n]? = some x:=hx;rw [h3] at hcell;obtain ⟨v,hv⟩:=zaE (xs:=cs') (i:=i % n) (by omega);rw [hv] at hcell;rw [hcell];have:=hd.2 _ x hx;rw [Array.getD_eq_getD_getElem?] at this;simpa [hv] using this
def fieldAt (P : Program) (t i : Nat) : Option (TypeId × Nat):=match P.underlying t with
 | some (.struct fs) => (fs[i]?).map fun f => (f.type,f.offset)
 | _ => none
theorem zmn {H : Type} {enc : TypeId × Value -> H} {t i ft off fuel : Nat} {cs : List Value} {x : DataW H × List MemPlace} (hf : fieldAt Tryz.prog t i = some (ft,off)) (h : DataW.trod enc Tryz.prog W 0 (fun _ => true) true fuel t cs = some x) : cs.length = Tryz.prog.cellsOf t /\ ∃ m y,DataW.trod enc Tryz.prog W 0 (fun _ => true) true m ft ((cs.drop off).take (Tryz.prog.cellsOf ft)) = some y:=by
 unfold fieldAt at hf;split at hf
 ·rename_i fs hu;obtain ⟨xs,n,_,_,hl,hxl,hfs⟩:=DataW.trod_struct hu h;obtain ⟨fd,hfd,e⟩:=Option.map_eq_some_iff.1 hf;cases e;refine ⟨hl,n,?_⟩;have:=hfs i fd hfd;obtain ⟨y,hy⟩:=zaE (xs:=xs) (i:=i) (by rw [hxl]; exact (Array.getElem?_eq_some_iff.1 hfd).1);exact ⟨y,by rw [this,hy]⟩
 ·cases hf
theorem zsC {α β γ : Type} {t ta tb na nb : Nat} {f : α -> List AV} {g : β -> List AV} {h : γ -> List AV} (fa : fieldAt Tryz.prog t 0 = some (ta,0)) (fb : fieldAt Tryz.prog t 1 = some (tb,na)) (hc : Tryz.prog.cellsOf t = na + nb) (ha : Rd W ta f na) (hb : Rd W tb g nb) (mk : α -> β -> γ) (hmk : ∀ a b,h (mk a b) = f a ++ g b) (hl : ∀ c,(h c).length = na + nb) : Rd W t h (na + nb) where
 cells:=hc
 len:=hl
 rd:=fun {H enc fuel cs x} hd => by
  obtain ⟨hcl,m,y,hy⟩:=zmn fa hd;obtain ⟨_,m2,y2,hy2⟩:=zmn fb hd;rw [ha.cells,List.drop_zero] at hy;rw [hb.cells] at hy2;obtain ⟨a,hda⟩:=ha.rd hy;obtain ⟨b,hdb⟩:=hb.rd hy2;refine ⟨mk a b,?_⟩;rw [hmk];have e : cs = cs.take na ++ (cs.drop na).take nb:=by
   rw [List.take_of_length_le (l:=cs.drop na) (by rw [List.length_drop,hcl,hc]; omega),List.take_append_drop]
  rw [e];exact znD hda hdb
theorem zqZ {α β γ δ : Type} {t ta tb tc na nb nc : Nat} {f : α -> List AV} {g : β -> List AV} {g3 : γ -> List AV} {h : δ -> List AV} (fa : fieldAt Tryz.prog t 0 = some (ta,0)) (fb : fieldAt Tryz.prog t 1 = some (tb,na)) (fc : fieldAt Tryz.prog t 2 = some (tc,na + nb)) (hc : Tryz.prog.cellsOf t = na + nb + nc) (ha : Rd W ta f na) (hb : Rd W tb g nb) (hc3 : Rd W tc g3 nc) (mk : α -> β -> γ -> δ) (hmk : ∀ a b c,h (mk a b c) = f a ++ g b ++ g3 c) (hl : ∀ c,(h c).length = na + nb + nc) : Rd W t h (na + nb + nc) where
 cells:=hc
 len:=hl
 rd:=fun {H enc fuel cs x} hd => by
  obtain ⟨hcl,m,y,hy⟩:=zmn fa hd;obtain ⟨_,m2,y2,hy2⟩:=zmn fb hd;obtain ⟨_,m3,y3,hy3⟩:=zmn fc hd;rw [ha.cells,List.drop_zero] at hy;rw [hb.cells] at hy2;rw [hc3.cells] at hy3;obtain ⟨a,hda⟩:=ha.rd hy;obtain ⟨b,hdb⟩:=hb.rd hy2;obtain ⟨c,hdc⟩:=hc3.rd hy3;refine ⟨mk a b c,?_⟩;rw [hmk];have e : cs = cs.take na ++ (cs.drop na).take nb ++ (cs.drop (na + nb)).take nc:=by
   rw [List.take_of_length_le (l:=cs.drop (na + nb)) (by rw [List.length_drop,hcl,hc]; omega),List.append_assoc,<- List.drop_drop,List.take_append_drop,List.take_append_drop]
  rw [e];exact znD (znD hda hdb) hdc
theorem ztg {α β γ γ' δ : Type} {t ta tb tc td na nb nc nd : Nat} {f : α -> List AV} {g : β -> List AV} {g3 : γ -> List AV} {g4 : γ' -> List AV} {h : δ -> List AV} (fa : fieldAt Tryz.prog t 0 = some (ta,0)) (fb : fieldAt Tryz.prog t 1 = some (tb,na)) (fc : fieldAt Tryz.prog t 2 = some (tc,na + nb)) (fd : fieldAt Tryz.prog t 3 = some (td,na + nb + nc)) (hc : Tryz.prog.cellsOf t = na + nb + nc + nd) (ha : Rd W ta f na) (hb : Rd W tb g nb) (hc3 : Rd W tc g3 nc) (hd4 : Rd W td g4 nd) (mk : α -> β -> γ -> γ' -> δ) (hmk : ∀ a b c d,h (mk a b c d) = f a ++ g b ++ g3 c ++ g4 d) (hl : ∀ c,(h c).length = na + nb + nc + nd) : Rd W t h (na + nb + nc + nd) where
 cells:=hc
 len:=hl
 rd:=fun {H enc fuel cs x} hd => by
  obtain ⟨hcl,m,y,hy⟩:=zmn fa hd;obtain ⟨_,m2,y2,hy2⟩:=zmn fb hd;obtain ⟨_,m3,y3,hy3⟩:=zmn fc hd;obtain ⟨_,m4,y4,hy4⟩:=zmn fd hd;rw [ha.cells,List.drop_zero] at hy;rw [hb.cells] at hy2;rw [hc3.cells] at hy3;rw [hd4.cells] at hy4;obtain ⟨a,hda⟩:=ha.rd hy;obtain ⟨b,hdb⟩:=hb.rd hy2;obtain ⟨c,hdc⟩:=hc3.rd hy3;obtain ⟨d,hdd⟩:=hd4.rd hy4;refine ⟨mk a b c d,?_⟩;rw [hmk];have e : cs = cs.take na ++ (cs.drop na).take nb ++ (cs.drop (na + nb)).take nc ++ (cs.drop (na + nb + nc)).take nd:=by
   rw [List.take_of_length_le (l:=cs.drop (na + nb + nc)) (by rw [List.length_drop,hcl,hc]; omega),List.append_assoc,List.append_assoc,<- List.drop_drop (i:=nc),List.take_append_drop,<- List.drop_drop,List.take_append_drop,List.take_append_drop]
  rw [e];exact znD (znD (znD hda hdb) hdc) hdd
end
theorem zo5 {H : Type} {enc : TypeId × Value -> H} {W W' : World} (hb : Below W.heap.size W W') : ∀ (ts : List TypeId) (vs : List Value) (ds : List (DataW H)) (ps : List MemPlace),(∀ t ∈ ts,Tryz.prog.readableRec t = true /\ t < Tryz.prog.types.size) -> DataW.TrodAll enc Tryz.prog W 0 (fun _ => true) true ts vs ds ps -> (∀ x ∈ ps,x.block < W.heap.size) ->
  DataW.TrodAll enc Tryz.prog W' 0 (fun b => decide (b < W.heap.size)) true ts vs ds ps
 | [],vs,ds,ps,_,h,_ => by
  obtain ⟨rfl,rfl,rfl⟩:=trodAll_nil h;exact trodAll_mk0
 | t :: ts,vs,ds,ps,ht,h,hlt => by
  obtain ⟨v,vs',d,ds',p,q,rfl,rfl,rfl,h1,h2⟩:=trodAll_cons h;have h0:=ht t List.mem_cons_self;exact ⟨p,q,Below.trod Tz.laidOut h0.1 h0.2 h1 hb fun x hx => hlt x (List.mem_append_left _ hx),zo5 hb ts vs' ds' q (fun t h => ht t (List.mem_cons_of_mem _ h)) h2 fun x hx => hlt x (List.mem_append_right _ hx),rfl⟩
theorem zoK {H : Type} {enc : TypeId × Value -> H} {W : World} : ∀ (ts : List TypeId) (vs : List Value) (ds : List (DataW H)) (ps : List MemPlace),DataW.TrodAll enc Tryz.prog W 0 (fun _ => true) true ts vs ds ps -> ds.length = ts.length
 | [],vs,ds,ps,h => by obtain ⟨rfl,rfl,rfl⟩:=trodAll_nil h; rfl
 | t :: ts,vs,ds,ps,h => by
  obtain ⟨v,vs',d,ds',p,q,rfl,rfl,rfl,h1,h2⟩:=trodAll_cons h;rw [List.length_cons,List.length_cons,zoK ts vs' ds' q h2]
def zqt (f : FuncId) (ts : List TypeId) : Prop:=∀ (W : World) {H : Type} (enc : TypeId × Value -> H) (args : Array Value) (ds : List (DataW H)) (ps : List MemPlace) (base : Nat) (ws : List TypeId),(∀ (j : Nat) t v,ts[j]? = some t -> args[j]? = some v -> Value.okWide Tryz.prog W .any base t v) ->
 DataW.TrodAll enc Tryz.prog W 0 (fun _ => true) true ts args.toList ds ps -> (DataW.weightsEach Tryz.prog (ts ++ ws) ds).all (· <= reachBytes) = true -> ∃ avs,Denl (env0 W) avs args /\ FnC true Tryz.prog f [.main] avs (fun a _ => a = bv true) (fun _ _ => False)
set_option maxRecDepth 100000 in
theorem zpm {f : FuncId} {fn : Func} {s : ChangeSpec} {ts : List TypeId} (hf : Tryz.prog.funcs[f]? = some fn) (hp : fn.params = ts.toArray) (hr : fn.resultTypes = #[4]) (hv : s.vars = []) (hs : ∀ (H : Type) (ds : List (DataW H)),ds.length = ts.length -> s.fn H ds = { results:=[.lit (.bool true)],args:=ds }) (hi : Tryz.prog.inits.idxOf? f = none)
  (hread : ∀ t ∈ ts,Tryz.prog.readableRec t = true /\ t < Tryz.prog.types.size) (hlaw : zqt f ts)
  (os : Os) (started : os.Started) (H : Type) (enc : TypeId × Value -> H)
  (hwit : ∃ (w : World) (tape : Tape) (i : Input),w.os = os /\ (w.forCall tape i).Shaped Tryz.checked.prog /\ i.vars = [] /\ Input.okWide Tryz.checked.prog (w.forCall tape i) .any w.heap.size f i /\
   s.pre6 enc Tryz.checked.prog fn [] false (w.forCall tape i).memory i.args /\ ({} : Assume).holds Tryz.checked.prog (lone (Frame.enter Tryz.checked.prog f i.args .normal) [] (w.forCall tape i))) :
  ReturnsInLeavingWide {} Tryz.checked os f .any (s.pre6 enc Tryz.prog fn [] false) (s.post enc Tryz.prog fn false true false false):=by
 refine returnsInLeavingWide_of_change_sized (C:=Tryz.checked) Tz.own started hf hwit ?_;intro W base args ds gs before hval0 hW _ hsz0 _;have hval : ∀ (j : Nat) t v,ts[j]? = some t -> args[j]? = some v -> Value.okWide Tryz.prog W .any base t v:=fun j t v e => hval0 j t v (by rw [hp]; simpa using e);have hW':=hW;obtain ⟨p,q,hA0,hV,rfl,_,_⟩:=hW;have hA : DataW.TrodAll enc Tryz.prog W 0 (fun _ => true) true ts args.toList ds p:=by
  have : DataW.TrodAll enc Tryz.prog W 0 (fun _ => true) true fn.params.toList args.toList ds p:=hA0;rw [hp] at this;simpa using this
 have hdl:=zoK _ _ _ _ hA;rw [hv] at hV;obtain ⟨rfl,rfl⟩:=trodVars_none hV;have hsz : (DataW.weightsEach Tryz.prog (ts ++ s.plain.varTypes Tryz.prog) ds).all (· <= reachBytes) = true:=by
  have h : (DataW.weightsEach Tryz.prog (fn.params.toList ++ s.plain.varTypes Tryz.prog) (ds ++ [])).all (· <= reachBytes) = true:=hsz0;rw [List.append_nil,hp] at h;simpa using h
 simp only [List.append_nil] at hW';have hlt : ∀ x ∈ p,x.block < W.heap.size:=fun x hx => by simpa using hW'.lt x hx
 obtain ⟨avs,hden,hfn⟩:=hlaw W enc args ds p base _ hval hA hsz;obtain ⟨M,last,o,w',t',h1,h2,h3,h4⟩:=zjf (Q:=fun v => v = .bool true) (args:=args) (avs:=avs) hi hden (hfn.mono (fun a H' e E v hden => by subst e; cases hden; rfl) fun _ _ h => h);refine ⟨M,last,o,w',t',h1,h2,h3,h4.mono fun v ⟨hQ,hL⟩ => ?_⟩;subst hQ;have hb:=hL.below;refine ⟨ds,[],_,[],p,[],hW',?_,?_,by rw [hv]; exact (by rw [List.append_nil,hs H ds hdl]; rfl),hb.frame _,fun h => by cases h⟩
 ·rw [List.append_nil,hs H ds hdl,hr];exact trodAll_mk1 (shut_bool Tz.u4 true)
 ·rw [List.append_nil,hs H ds hdl,hp];have e : ts.toArray.toList = ts:=by simp
  rw [e];exact zo5 hb ts _ _ _ hread hA hlt
end Go.Gg
set_option maxRecDepth 100000
namespace Go.Gg
open Go.Conc Go.Proofs Go.ChangeShapes Go.WideShapes Go.ChangeAt Go.RowKit
theorem Rd.as {W : World} {e : TypeId} {α : Type} {f g : α -> List AV} {n : Nat} (h : Rd W e f n) (he : ∀ a,f a = g a) : Rd W e g n:=by
 have : f = g:=funext he;subst this; exact h
section
variable {W : World}
theorem zpJ : Rd W 3 (fun z : Int => [iv z]) 1:=rd_int (by kernel_rfl) (by kernel_rfl)
theorem rdBool : Rd W 4 (fun z : Bool => [bv z]) 1:=zth (by kernel_rfl) (by kernel_rfl)
theorem zqh (xs : List Int) : (xs.flatMap fun z => [iv z]) = xs.map iv:=by
 induction xs with
 | nil => rfl
 | cons x xs ih => rw [List.flatMap_cons,ih]; rfl
theorem zpO (ls : List (List Band)) : (ls.flatMap fun l => [aBands l]) = ls.map aBands:=by
 induction ls with
 | nil => rfl
 | cons x xs ih => rw [List.flatMap_cons,ih]; rfl
theorem zpZ : Rd W 30 (fun xs : List Int => [aInts xs]) 1:=(znQ (by kernel_rfl) (by kernel_rfl) zpJ (by decide)).as fun xs => by rw [zqh]; rfl
theorem zsD : Rd W 63 Band.l 2:=zsC (na:=1) (nb:=1) (by kernel_rfl) (by kernel_rfl) (by kernel_rfl) zpJ zpJ Band.mk (fun _ _ => rfl) (fun _ => rfl)
theorem zp0 : Rd W 29 (fun xs : List Band => [aBands xs]) 1:=znQ (by kernel_rfl) (by kernel_rfl) zsD (by decide)
theorem rdKey : Rd W 65 Key.l 3:=zsC (na:=1) (nb:=2) (by kernel_rfl) (by kernel_rfl) (by kernel_rfl) zpZ zsD Key.mk (fun _ _ => rfl) (fun _ => rfl)
theorem rdTry : Rd W 28 Try.l 3:=zqZ (na:=1) (nb:=1) (nc:=1) (by kernel_rfl) (by kernel_rfl) (by kernel_rfl) (by kernel_rfl) zpJ zpJ rdBool Try.mk (fun _ _ _ => rfl) (fun _ => rfl)
theorem rdKeys : Rd W 22 (fun xs : List Key => [zmd xs]) 1:=znQ (by kernel_rfl) (by kernel_rfl) rdKey (by decide)
theorem ztj : Rd W 23 (fun xs : List (List Band) => [zlO xs]) 1:=(znQ (by kernel_rfl) (by kernel_rfl) zp0 (by decide)).as fun xs => by rw [zpO]; rfl
theorem zti : Rd W 24 (fun xs : List Try => [zlT xs]) 1:=znQ (by kernel_rfl) (by kernel_rfl) rdTry (by decide)
theorem rdRing : Rd W 26 Ring.l 4:=ztg (na:=1) (nb:=1) (nc:=1) (nd:=1) (by kernel_rfl) (by kernel_rfl) (by kernel_rfl) (by kernel_rfl) (by kernel_rfl) zpJ rdKeys ztj zti Ring.mk (fun _ _ _ _ => rfl) (fun _ => rfl)
section
variable {H : Type} {enc : TypeId × Value -> H} {base : Nat} {t : TypeId} {v : Value} {d : DataW H} {p : List MemPlace}
theorem zuj (hok : Value.okWide Tryz.prog W .any base 3 v) : ∃ z,Den (env0 W) (iv z) v:=by
 obtain ⟨n,rfl⟩:=okWide_int Tz.u3 hok;exact ⟨n,.val _⟩
theorem zoo {α : Type} {e : TypeId} {f : α -> AV} (hu : Tryz.prog.underlying t = some (.slice e)) (hR : Rd W t (fun a => [f a]) 1) (hok : Value.okWide Tryz.prog W .any base t v) (h : DataW.Trod enc Tryz.prog W 0 (fun _ => true) true t v d p) : ∃ a,Den (env0 W) (f a) v:=by
 obtain ⟨a,len,cap,rfl⟩:=okWide_slice hu hok;obtain ⟨fuel,h⟩:=h;obtain ⟨x,hx⟩:=hR.rd h;exact ⟨x,hx.2 0 _ rfl⟩
theorem zoJ {α : Type} {fs : Array Field} {f : α -> List AV} {n : Nat} (hu : Tryz.prog.underlying t = some (.struct fs)) (hR : Rd W t f n) (hok : Value.okWide Tryz.prog W .any base t v) (h : DataW.Trod enc Tryz.prog W 0 (fun _ => true) true t v d p) : ∃ a,Den (env0 W) (.agg (f a)) v:=by
 obtain ⟨cs,rfl,_⟩:=okWide_struct hu hok;obtain ⟨fuel,h⟩:=h;obtain ⟨x,hx⟩:=hR.rd h;exact ⟨x,.agg (by simpa [Value.cells] using hx.1) fun i a e => by simpa [Value.cells] using hx.2 i a e⟩
def isStruct (P : Program) (t : TypeId) : Bool:=match P.underlying t with
 | some (.struct _) => true
 | _ => false
theorem isStruct.out {P : Program} {t : TypeId} (h : isStruct P t = true) : ∃ fs,P.underlying t = some (.struct fs):=by
 unfold isStruct at h;split at h
 ·exact ⟨_,by assumption⟩
 ·cases h
theorem zr6 (hok : Value.okWide Tryz.prog W .any base 26 v) (h : DataW.Trod enc Tryz.prog W 0 (fun _ => true) true 26 v d p) : ∃ x : Ring,Den (env0 W) x.av v:=by
 obtain ⟨fs,hu⟩:=isStruct.out (P:=Tryz.prog) (t:=26) (by kernel_rfl);exact zoJ hu rdRing hok h
theorem zui (hok : Value.okWide Tryz.prog W .any base 28 v) (h : DataW.Trod enc Tryz.prog W 0 (fun _ => true) true 28 v d p) : ∃ x : Try,Den (env0 W) x.av v:=by
 obtain ⟨fs,hu⟩:=isStruct.out (P:=Tryz.prog) (t:=28) (by kernel_rfl);exact zoJ hu rdTry hok h
theorem zr7 {ds : List (DataW H)} {ts : List TypeId} {j : Nat} (hok : Value.okWide Tryz.prog W .any base 30 v) (h : DataW.Trod enc Tryz.prog W 0 (fun _ => true) true 30 v d p) (hsz : (DataW.weightsEach Tryz.prog ts ds).all (· <= reachBytes) = true) (ht : ts[j]? = some 30) (hd : ds[j]? = some d) : ∃ zs,zs.length <= 2 ^ 50 /\ Den (env0 W) (aInts zs) v:=by
 obtain ⟨zs,hz⟩:=zoo Tz.u30 zpZ hok h;refine ⟨zs,?_,hz⟩;obtain ⟨a,len,cap,rfl⟩:=okWide_slice Tz.u30 hok;have hzl : zs.length = len:=by
  unfold aInts at hz;generalize zs.length = m at hz ⊢;generalize zs.map iv = l at hz;cases hz with
  | sl => rfl
  | nil => rfl
 obtain ⟨fuel,h⟩:=h;rcases DataW.trod_slice Tz.u30 h with ⟨e,_⟩ | ⟨a',len',cap',elems,rest,n,_,e,ex,_,_,_,hlen,_⟩
 ·simp [Value.cells] at e;obtain ⟨_,rfl,_⟩:=e;rw [hzl]; exact Nat.zero_le _
 ·simp [Value.cells] at e;obtain ⟨_,rfl,_⟩:=e;simp only [Prod.mk.injEq] at ex;obtain ⟨rfl,_⟩:=ex;have:=sized_slice hsz ht hd Tz.u30;rw [Tz.b3] at this;simp only [List.length_map,reachBytes] at this;omega
end
end
def ioNums : List (List Nat):=[99,117,116] :: [97,116] :: [[67,104,101,99,107,115],[67,111,118,101,114,115],[66,97,103,115],[87,111,114,110],[87,114,111,110,103],[65,115,107],[67,111,118,101,114],[65,108,105,107,101],[84,101,108,108],[66,97,103],[67,117,116],[78,117,109,98,101,114,101,100],[67,111,117,110,116,115],[65,108,108],[84,114,117,101],[65,115,107,115],[78,101,119,115],[77,97,115,116,101,114],[77,111,114,101],[84,117,114,110,101,100],[75,110,111,119,110]].map ([103,108,97,100,115,116,111,110,101,47,103,108,97,100,115,116,111,110,101,108,97,119,48,56,46,75,101,121] ++ ·)
def ioCodes : List Nat:=[104,97,114,110,101,115,115,32,99,51,50,57,53,49,56,50,100,99,53,57,97,55,97,98,51,48,51,102,54,57,97,97,100,57,54,56,102,52,99,57,49,98,53,97,48,49,101,51,101,101,55,53,50,49,99,100,54,56,54,49,50,99,48,52,54,49,101,48,97,49,50,98] ++ ioNums.flatMap (32 :: ·)
set_option maxRecDepth 100000 in
theorem ioL : Tryz.prog.initOrder.toList = ioCodes.map Char.ofNat:=by
 have h : Tryz.prog.initOrder = String.ofList (ioCodes.map Char.ofNat):=by kernel_rfl
 rw [h,String.toList_ofList]
def ioWords : List (List Char):=ioNums.map fun l => l.map Char.ofNat
set_option maxRecDepth 100000 in
theorem ioW : behindMainWord (wordsSigns Tryz.prog.initOrder.toList) = ioWords:=by
 rw [ioL]
 kernel_rfl
section
variable {P : Program} {c : List Char} {rest : List (List Char)}
theorem zhx (h : behindMainWord (wordsSigns P.initOrder.toList) = c :: rest) (hc : c = "cut".toList) (h1 : stripLifts liftWords (c :: rest) = ([], c :: rest)) (h2 : P.laysLater = false) (h3 : P.bearsReflect = false) (h4 : P.doorFits [] = true) : P.mayEnter = true := by
 unfold Program.mayEnter;rw [h];subst hc;simp only [h1,h2,h3,h4,List.head?_cons,beq_self_eq_true,List.contains_nil,Bool.not_false,Bool.false_or,Bool.or_true,Bool.and_self,Bool.true_and]
theorem zgB (h : behindMainWord (wordsSigns P.initOrder.toList) = c :: rest) (hc : c = "cut".toList) (h1 : stripLifts liftWords (c :: rest) = ([], c :: rest)) : P.headLifts = [] := by
 unfold Program.headLifts;rw [h];simp only [h1,ite_self]
theorem zrn (h : behindMainWord (wordsSigns P.initOrder.toList) = c :: rest) (hc : c = "cut".toList) (h1 : stripLifts liftWords (c :: rest) = ([], c :: rest)) : P.liftsFinal = false := by
 unfold Program.liftsFinal;rw [zgB h hc h1, h];subst hc;simp only [List.head?_cons, List.contains_nil, Bool.or_false];have : (some "cut".toList == some "carried".toList) = false := by decide +kernel
 rw [this,Bool.false_and]
theorem ztF (h : behindMainWord (wordsSigns P.initOrder.toList) = c :: rest) (hc : c = "cut".toList) : P.make = some .cut := by
 unfold Program.make;rw [h];subst hc;have e1 : ("cut".toList == "gc".toList) = false := by decide +kernel
 have e2 : ("cut".toList == "spec".toList) = false := by decide +kernel
 simp only [e1,e2,Bool.or_self,Bool.false_eq_true,if_false,beq_self_eq_true,Bool.true_or,if_true]
end
def zpt : List Char:=ioWords.headD []
def zqc : List (List Char):=ioWords.tail
theorem ioW2 : behindMainWord (wordsSigns Tryz.prog.initOrder.toList) = zpt :: zqc:=ioW.trans (by kernel_rfl)
theorem ioC : zpt = "cut".toList := by kernel_rfl
theorem ioS : stripLifts liftWords (zpt :: zqc) = ([],zpt :: zqc):=by kernel_rfl
theorem Tz.mayEnter : Tryz.prog.mayEnter = true:=zhx ioW2 ioC ioS (by kernel_rfl) (by kernel_rfl) (by kernel_rfl)
theorem Tz.lifts : Tryz.prog.liftsFinal = false:=zrn ioW2 ioC ioS
theorem Tz.make : Tryz.prog.make = some .cut:=ztF ioW2 ioC
theorem zkH {P : Program} {f : FuncId} {fn : Func} {s : ChangeSpec} {c : OpenClaim}
  (k0 : (c.wf (OpenSpec.ofChange s)) = true)
  (k1 : (laidOutB P) = true)
  (k2 : (mapsRowed P) = true)
  (k3 : (fn.params.all (P.readableRec ·)) = true)
  (k4 : (namedTie P c.named s.vars) = true)
  (k5 : ((c.stops == [])) = true)
  (k6 : ((P.stops == [])) = true)
  (k7 : ((c.knobs == [])) = true)
  (k8 : ((P.stopKnobs == [])) = true)
  (k9 : ((c.inPlace == P.inPlace f)) = true)
  (k10 : ((c.unfollowed == P.unfollowed f)) = true)
  (k11 : ((c.recurses == P.recurses f)) = true)
  (k12 : ((c.named == P.varsNamed f)) = true)
  (k13 : ((c.maps == (fn.params.toList ++ s.plain.varTypes P).any (P.mapsRec ·))) = true)
  (k14 : ((c.ifaces == (fn.params.toList ++ s.plain.varTypes P).any (P.ifacesRec ·))) = true)
  (k15 : ((c.mapsOut == P.mapsAmong fn.resultTypes.toList)) = true)
  (k16 : ((c.loops == (fn.params.toList ++ s.plain.varTypes P).any (P.loopsFrom ·))) = true)
  (k17 : ((c.wideKeys == (fn.params.toList ++ s.plain.varTypes P ++ fn.resultTypes.toList).any (P.wideKeysFrom ·))) = true)
  (k18 : (s.vars.all (P.varReadable ·)) = true)
  (k19 : (fn.resultTypes.all (fun t => P.readableRec t && decide (t < P.types.size))) = true)
  (k20 : ((c.ifacesOut == fn.resultTypes.toList.any (P.ifacesRec ·))) = true)
  (k21 : ((c.loopsOut == fn.resultTypes.toList.any (P.loopsFrom ·))) = true)
  (k22 : ((c.plainKeys == P.plainKeys)) = true)
  (k23 : (c.shortTexts.isNone) = true)
  (k24 : (P.stopsHeard) = true)
  (k25 : (P.mayEnter) = true)
  (k26 : ((c.lifted == P.liftsFinal)) = true)
  (k27 : ((P.make == some c.make)) = true)
  (k28 : c.domain.isEmpty = true) (k28' : c.kinds = [])
  (k29 : ((c.pinned == c.pinnedBy)) = true)
  (k30 : ((c.veiled == (fn.params.toList ++ s.plain.varTypes P ++ fn.resultTypes.toList).any (P.veiledRec ·))) = true)
  (k31 : (c.veiledFits P fn.params.toList (fn.params.toList ++ s.plain.varTypes P ++ fn.resultTypes.toList)) = true) : joinedFacts P f fn s c = true:=by
 simp only [joinedFacts,k0,k1,k2,k3,k4,k5,k6,k7,k8,k9,k10,k11,k12,k13,k14,k15,k16,k17,k18,k19,k20,k21,k22,k23,k24,k25,k26,k27,k28,k28',if_true,beq_self_eq_true,k29,k30,k31,Bool.and_self]
theorem zkB {c : OpenClaim} (h : c.lifted = false) : (c.lifted == Tryz.prog.liftsFinal) = true:=by rw [Tz.lifts,h]; rfl
theorem zrk {c : OpenClaim} (h : c.make = .cut) : (Tryz.prog.make == some c.make) = true:=by rw [Tz.make,h]; rfl
end Go.Gg
namespace Go.Proofs.YtoaaoiipickclaaGreat
open Go.Conc Go.Proofs Go.Gg Go.ChangeShapes
theorem zp8 : Tryz.prog.funcNamed Rows.keyNewsRow.func = some 19:=by kernel_rfl
theorem zph : joinedFacts Tryz.prog 19 Tryz.f19 Rows.keyNewsSpec Rows.keyNewsRow = true :=
 zkH (by kernel_rfl) Tz.laidOut (by kernel_rfl) (by kernel_rfl) (by kernel_rfl) (by kernel_rfl) (by kernel_rfl) (by kernel_rfl) (by kernel_rfl) (by kernel_rfl) (by kernel_rfl) (by kernel_rfl) (by kernel_rfl) (by kernel_rfl) (by kernel_rfl) (by kernel_rfl) (by kernel_rfl) (by kernel_rfl) (by kernel_rfl) (by kernel_rfl) (by kernel_rfl) (by kernel_rfl) (by kernel_rfl) (by kernel_rfl) (by kernel_rfl) Tz.mayEnter (zkB (by kernel_rfl)) (zrk (by kernel_rfl)) (by kernel_rfl) (by kernel_rfl) (by kernel_rfl) (by kernel_rfl) (by kernel_rfl)
theorem zp9 : Tryz.f19.isInstance Tryz.prog Rows.keyNewsRow.origin Rows.keyNewsRow.targs:=of_decide_eq_true (by kernel_rfl)
theorem zp7 : Tryz.f19.isWrapper Tryz.prog Rows.keyNewsRow.wrapper Rows.keyNewsRow.mainSum:=by unfold Func.isWrapper; first | (rw [if_pos (by decide +kernel)]; kernel_rfl) | (rw [if_neg (by decide +kernel)]; exact ⟨rfl,rfl⟩)
theorem zpi : zqt 19 [26,28,29,30,3,30]:=fun W {H} enc args ds ps base ws hval hA hsz => by
 obtain ⟨v0,r0,d0,e0,p0,q0,ha,rfl,rfl,h0,hA⟩:=trodAll_cons hA;obtain ⟨v1,r1,d1,e1,p1,q1,rfl,rfl,rfl,h1,hA⟩:=trodAll_cons hA;obtain ⟨v2,r2,d2,e2,p2,q2,rfl,rfl,rfl,h2,hA⟩:=trodAll_cons hA;obtain ⟨v3,r3,d3,e3,p3,q3,rfl,rfl,rfl,h3,hA⟩:=trodAll_cons hA;obtain ⟨v4,r4,d4,e4,p4,q4,rfl,rfl,rfl,h4,hA⟩:=trodAll_cons hA;obtain ⟨v5,r5,d5,e5,p5,q5,rfl,rfl,rfl,h5,hA⟩:=trodAll_cons hA;obtain ⟨rfl,rfl,rfl⟩:=trodAll_nil hA;have hargs : args = #[v0,v1,v2,v3,v4,v5]:=by
  have:=congrArg List.toArray ha;simpa using this
 subst hargs;obtain ⟨x0,g0⟩:=zr6 (hval 0 26 v0 rfl rfl) h0;obtain ⟨x1,g1⟩:=zui (hval 1 28 v1 rfl rfl) h1;obtain ⟨x2,g2⟩:=zoo (t:=29) (e:=63) (by kernel_rfl) zp0 (hval 2 29 v2 rfl rfl) h2;obtain ⟨x3,g3⟩:=zoo Tz.u30 zpZ (hval 3 30 v3 rfl rfl) h3;obtain ⟨x4,g4⟩:=zuj (hval 4 3 v4 rfl rfl);obtain ⟨x5,hn,g5⟩:=zr7 (j:=5) (hval 5 30 v5 rfl rfl) h5 hsz rfl rfl;refine ⟨[x0.av,x1.av,aBands x2,aInts x3,iv x4,aInts x5],⟨rfl,fun i a e => ?_⟩,f19_c rfl hn rfl⟩
 match i,e with
 | 0,e => cases e; exact g0
 | 1,e => cases e; exact g1
 | 2,e => cases e; exact g2
 | 3,e => cases e; exact g3
 | 4,e => cases e; exact g4
 | 5,e => cases e; exact g5
theorem zox (os : Os) (started : os.Started) (H : Type) (enc : TypeId × Value -> H) :
  ReturnsInLeavingWide {} Tryz.checked os 19 .any (Rows.keyNewsSpec.pre6 enc Tryz.prog Tryz.f19 Rows.keyNewsRow.domain false) (Rows.keyNewsSpec.post enc Tryz.prog Tryz.f19 false true false false) :=
 zpm (f:=19) (fn:=Tryz.f19) (s:=Rows.keyNewsSpec) (ts:=[26,28,29,30,3,30]) Tryz.func19 rfl rfl rfl (fun H ds h => by
   match ds,h with
   | [a,b,c,d,e,f],_ => rfl) (by kernel_rfl) (fun t ht => ⟨List.all_eq_true.1 (by kernel_rfl : [26,28,29,30,3].all Tryz.prog.readableRec = true) t (by simp only [List.mem_cons,List.not_mem_nil,or_false] at ht; rcases ht with h | h | h | h | h | h <;> subst h <;> simp),of_decide_eq_true (List.all_eq_true.1 (by kernel_rfl : [26,28,29,30,3].all (fun t => decide (t < Tryz.prog.types.size)) = true) t (by simp only [List.mem_cons,List.not_mem_nil,or_false] at ht; rcases ht with h | h | h | h | h | h <;> subst h <;> simp))⟩) zpi os started H enc
  (ChangeSpec.witness6 (enc:=enc) (C:=Tryz.checked) false ⟨#[],#[.agg #[.int .i64 0,.slice none 0 0,.slice none 0 0,.slice none 0 0],.agg #[.int .i64 0,.int .i64 0,.bool false],.slice none 0 0,.slice none 0 0,.int .i64 0,.slice none 0 0],[]⟩ 8 (by kernel_rfl) (by kernel_rfl) (by kernel_rfl) (by kernel_rfl))
theorem keyNews_holds : Rows.KeyNewsSaid :=
 OpenClaim.holds_of_wide_leaving 19 Tryz.f19 rfl rfl rfl rfl rfl rfl rfl ⟨rfl,rfl,rfl,rfl,rfl⟩ rfl rfl rfl rfl rfl zp8 Tryz.func19 zph zp9 zp7
  (fun os started H enc _ => zox os started H enc)
end Go.Proofs.YtoaaoiipickclaaGreat
