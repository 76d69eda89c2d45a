import PyProof.Rows.All
import Wide.All
import OpenK.AllK
import Wide.FinOn
import HandS.ForMost
import HandS.Exc
import HandS.ExcOwn
import HandS.ExcInit
import HandS.ExcCtx
import HandS.ExcField
import HandS.Hot
import HandS.HotCalls
import HandS.SuiteRaise
import HandS.List
import HandS.Wide
import HandS.Dict
import HandS.Text
import HandS.StrSplit
import HandS.Iter
import HandS.Zip
import HandS.Comp
import HandS.CallSlots
import HandS.RaiseMore
import HandS.IsInst
import KE.KUnpackStar
import HandS.NoneIn
import HandS.Style
import HandS.Rev
import HandS.More
import HandS.Deep
import PyProof.StrLawsTight
import HandS.FStr
import HandS.FStrTup
import HandS.Defaults
import HandS.MakeKw
import HandS.Words
import HandS.HeadHook3
import HandS.TupLe
import HandS.HeadHook4
import HandS.ExcIs
import HandS.MakeKwOnly
import KE.KExcIs
import HandS.HeadHook1
import HandS.HeadHook2
import HandS.HeadEnd
import HandS.Head0
import HandS.Head1
import HandS.Head2
import PySem.Challenge.RW_latecopy_k90_error_classes
/-! The plain side: data, cells, results. No machine in sight. -/
namespace Lc
/-- a text: its code points -/
abbrev T := List Nat
/-- data that stays as it is, all the way down -/
inductive D where
  | non | bl (b : Bool) | int (i : Int) | str (t : T)
  | lst (ds : List D) | tup (ds : List D) | dct (ks vs : List D) | obj (c : Nat) (ds : List D) | exc (c : Nat) (ds : List D)
  deriving Inhabited
/-- what a name stands for: data, or the i-th cell -/
inductive R where
  | d (d : D) | ref (i : Nat)
  deriving Inhabited
/-- what may change; or a thing that will not change any more -/
inductive Cell where
  | lst (rs : List R) | tup (rs : List R) | dct (ks : List D) (rs : List R) | obj (c : Nat) (rs : List R) | frz (d : D)
abbrev Mem := List Cell
abbrev Env := List (Option R)
/-- an exception in flight: its class's number, its fields -/
structure Xn where
  c : Nat
  ds : List D
inductive Ro (α : Type) where
  | ok (a : α) (m : Mem) | ex (x : Xn) (m : Mem) | no
def Ro.bind {α β : Type} (r : Ro α) (k : α → Mem → Ro β) : Ro β := match r with
  | .ok a m => k a m
  | .ex x m => .ex x m
  | .no => .no
@[simp] theorem Ro.bind_ok {α β : Type} (a : α) (m : Mem) (k : α → Mem → Ro β) : (Ro.ok a m).bind k = k a m := rfl
@[simp] theorem Ro.bind_ex {α β : Type} (x : Xn) (m : Mem) (k : α → Mem → Ro β) : (Ro.ex x m : Ro α).bind k = .ex x m := rfl
@[simp] theorem Ro.bind_no {α β : Type} (k : α → Mem → Ro β) : (Ro.no : Ro α).bind k = .no := rfl
/-- an option's value, the cells as they are -/
def Ro.of {α : Type} (o : Option α) (m : Mem) : Ro α := match o with
  | some a => .ok a m
  | none => .no
@[simp] theorem Ro.of_some {α : Type} (a : α) (m : Mem) : Ro.of (some a) m = .ok a m := rfl
@[simp] theorem Ro.of_none {α : Type} (m : Mem) : (Ro.of none m : Ro α) = .no := rfl
inductive RS where
  | nx (env : Env) (m : Mem) | rt (r : R) (m : Mem) | bk (env : Env) (m : Mem) | ct (env : Env) (m : Mem) | ex (x : Xn) (env : Env) (m : Mem) | no
abbrev E := Env → Mem → Ro R
abbrev Es := Env → Mem → Ro (List R)
abbrev B := Env → Mem → Ro Bool
abbrev S := Env → Mem → RS
abbrev Fn := List R → Mem → Ro R
/-- what one sees of a thing -/
inductive Vw where
  | non | bl (b : Bool) | int (i : Int) | str (t : T) | lst (rs : List R) | tup (rs : List R) | dct (ks : List D) (rs : List R) | obj (c : Nat) (rs : List R) | no
def vwD : D → Vw
  | .non => .non
  | .bl b => .bl b
  | .int i => .int i
  | .str t => .str t
  | .lst ds => .lst (ds.map .d)
  | .tup ds => .tup (ds.map .d)
  | .dct ks vs => .dct ks (vs.map .d)
  | .obj c ds => .obj c (ds.map .d)
  | .exc _ _ => .no
def vwC : Cell → Vw
  | .lst rs => .lst rs
  | .tup rs => .tup rs
  | .dct ks rs => .dct ks rs
  | .obj c rs => .obj c rs
  | .frz d => vwD d
def vw (M : Mem) : R → Vw
  | .d d => vwD d
  | .ref i => match M[i]? with
    | some c => vwC c
    | none => .no
/-- the longest text, list, that is looked at -/
def SL : Nat := 16777216
end Lc
set_option Elab.async false
set_option linter.all false
set_option maxRecDepth 100000
set_option maxHeartbeats 4000000
/-! Data, cells and names as they stand in the machine. -/
namespace Lc
open PySem L2
/-- a text as the machine has it -/
def st (t : T) : Str := ⟨t.toArray⟩
theorem st_inj {a b : T} (h : st a = st b) : a = b := by
  have e : a.toArray = b.toArray := congrArg Str.cps h
  simpa using e
theorem st_len (t : T) : (st t).length = t.length := by simp [st, Str.length]
theorem st_of (s : Str) : st s.cps.toList = s := by
  obtain ⟨c⟩ := s
  simp [st]
/-- what of the program's text the relation leans on -/
structure Tx where
  K : PySem.W.Frag
  cad : Nat → Addr
  cfn : Nat → List Str
  xad : Nat → Addr
  xfn : Nat → List Str
def keyD : Key → D
  | .inl i => .int i
  | .inr s => .str s.cps.toList
/-- a text that one may look at -/
def tOk (s : T) : Prop := s.length ≤ SL ∧ ∀ c ∈ s, c < 0x110000
def keyOk : Key → Prop
  | .inl _ => True
  | .inr s => tOk s.cps.toList
mutual
/-- the value v is the data d; F is what will not change -/
def Is (t : Tx) (F : Hp) : D → V → Prop
  | .non, v => v = .non
  | .bl b, v => v = .bl b
  | .int i, v => v = .int i
  | .str s, v => v = .str (st s) ∧ tOk s
  | .lst ds, v => ∃ a vs, v = .ref a ∧ Rd F a (.lst vs) ∧ IsL t F ds vs
  | .tup ds, v => ∃ a vs, v = .ref a ∧ SqT t.K F a vs ∧ IsL t F ds vs
  | .dct ks vs, v => ∃ a kvs, v = .ref a ∧ Rd F a (.dK kvs) ∧ (∀ k ∈ kvs, keyOk k.1) ∧ ks = kvs.map (fun k => keyD k.1) ∧ IsL t F vs (kvs.map (·.2))
  | .obj c ds, v => ∃ a dx vs, v = .ref a ∧ F a = some (.ins (t.cad c) dx ((t.cfn c).zip vs)) ∧ vs.length ≤ (t.cfn c).length ∧ IsL t F ds vs
  | .exc c ds, v => ∃ a dd vs, v = .ref a ∧ F a = some (exo a (t.xad c) dd) ∧ (t.xfn c).length = ds.length ∧ (dd = none ∨ ∃ d fs, dd = some d ∧ F d = some (exd d fs)) ∧ (∀ (i : Nat) f u, (t.xfn c)[i]? = some f → vs[i]? = some u → ∃ d fs, dd = some d ∧ F d = some (exd d fs) ∧ fs.lookup f = some u) ∧ IsL t F ds vs
def IsL (t : Tx) (F : Hp) : List D → List V → Prop
  | [], vs => vs = []
  | d :: ds, vs => ∃ v r, vs = v :: r ∧ Is t F d v ∧ IsL t F ds r
end
/-- .. or a cell; ads: where the cells stand -/
def IsR (t : Tx) (F : Hp) (ads : List Addr) (r : R) (v : V) : Prop := match r with
  | .d d => Is t F d v
  | .ref i => ∃ a, ads[i]? = some a ∧ v = .ref a
abbrev IsRs (t : Tx) (F : Hp) (ads : List Addr) : List R → List V → Prop := Paired (IsR t F ads)
section
variable {t : Tx} {F F' : Hp} {ads ads' : List Addr}
theorem isL_iff : ∀ {ds : List D} {vs : List V}, IsL t F ds vs ↔ Paired (Is t F) ds vs
  | [], vs => by
    unfold IsL
    constructor
    · rintro rfl; exact .nil
    · rintro ⟨⟩; rfl
  | d :: ds, vs => by
    unfold IsL
    constructor
    · rintro ⟨v, r, rfl, h, hr⟩
      exact .cons h (isL_iff.mp hr)
    · rintro (_ | ⟨h, hr⟩)
      exact ⟨_, _, rfl, h, isL_iff.mpr hr⟩
theorem isRs_map : ∀ {ds : List D} {vs : List V}, IsRs t F ads (ds.map .d) vs ↔ Paired (Is t F) ds vs
  | [], vs => by
    constructor
    · rintro ⟨⟩; exact .nil
    · rintro ⟨⟩; exact .nil
  | d :: ds, vs => by
    constructor
    · rintro (_ | ⟨h, hr⟩)
      exact .cons h (isRs_map.mp hr)
    · rintro (_ | ⟨h, hr⟩)
      exact .cons h (isRs_map.mpr hr)
theorem isRs_of {ds : List D} {vs : List V} (h : IsL t F ds vs) : IsRs t F ads (ds.map .d) vs := isRs_map.mpr (isL_iff.mp h)
section
variable {α β : Type} {P : α → β → Prop}
theorem pair_get : ∀ {xs : List α} {ys : List β} {i : Nat} {x : α}, Paired P xs ys → xs[i]? = some x → ∃ y, ys[i]? = some y ∧ P x y
  | _, _, _, _, .nil, e => by simp at e
  | _, _, 0, _, .cons r _, e => by simp at e; subst e; exact ⟨_, rfl, r⟩
  | _, _, i + 1, x, .cons _ t, e => by
    obtain ⟨u, h1, h2⟩ := pair_get (i := i) (x := x) t (by simpa using e)
    exact ⟨u, by simpa using h1, h2⟩
theorem pair_getV : ∀ {xs : List α} {ys : List β} {i : Nat} {y : β}, Paired P xs ys → ys[i]? = some y → ∃ x, xs[i]? = some x ∧ P x y
  | _, _, _, _, .nil, e => by simp at e
  | _, _, 0, _, .cons r _, e => by simp at e; subst e; exact ⟨_, rfl, r⟩
  | _, _, i + 1, x, .cons _ t, e => by
    obtain ⟨u, h1, h2⟩ := pair_getV (i := i) (y := x) t (by simpa using e)
    exact ⟨u, by simpa using h1, h2⟩
theorem pair_set {x : α} {u : β} (r : P x u) : ∀ {xs : List α} {us : List β} (i : Nat), Paired P xs us → Paired P (xs.set i x) (us.set i u)
  | _, _, _, .nil => .nil
  | _, _, 0, .cons _ t => .cons r t
  | _, _, i + 1, .cons q t => .cons q (pair_set r i t)
theorem pair_append : ∀ {xs ys : List α} {us ws : List β}, Paired P xs us → Paired P ys ws → Paired P (xs ++ ys) (us ++ ws)
  | _, _, _, _, .nil, s => s
  | _, _, _, _, .cons r t, s => .cons r (pair_append t s)
theorem pair_take : ∀ {xs : List α} {us : List β} (n : Nat), Paired P xs us → Paired P (xs.take n) (us.take n)
  | _, _, 0, _ => .nil
  | _, _, _ + 1, .nil => .nil
  | _, _, n + 1, .cons r t => .cons r (pair_take n t)
theorem pair_drop : ∀ {xs : List α} {us : List β} (n : Nat), Paired P xs us → Paired P (xs.drop n) (us.drop n)
  | _, _, 0, r => r
  | _, _, _ + 1, .nil => .nil
  | _, _, n + 1, .cons _ t => pair_drop n t
theorem pair_rev : ∀ {xs : List α} {us : List β}, Paired P xs us → Paired P xs.reverse us.reverse
  | _, _, .nil => .nil
  | _, _, .cons r t => by
    simp only [List.reverse_cons]
    exact pair_append (pair_rev t) (.cons r .nil)
theorem pair_erase : ∀ {xs : List α} {us : List β} (n : Nat), Paired P xs us → Paired P (xs.eraseIdx n) (us.eraseIdx n)
  | _, _, _, .nil => by simp; exact .nil
  | _, _, 0, .cons _ t => by simpa using t
  | _, _, n + 1, .cons r t => by
    simp only [List.eraseIdx_cons_succ]
    exact .cons r (pair_erase n t)
theorem pair_dropLast {xs : List α} {us : List β} (h : Paired P xs us) : Paired P xs.dropLast us.dropLast := by
  rw [List.dropLast_eq_take, List.dropLast_eq_take, Paired.length h]
  exact pair_take _ h
theorem pair_imp {Q : α → β → Prop} (f : ∀ a b, P a b → Q a b) : ∀ {xs : List α} {us : List β}, Paired P xs us → Paired Q xs us
  | _, _, .nil => .nil
  | _, _, .cons r t => .cons (f _ _ r) (pair_imp f t)
end
/-- what is fixed stays -/
def Fx (F F' : Hp) : Prop := ∀ a o, F a = some o → F' a = some o
theorem rd_mon {a : Addr} {u : HO} (m : Fx F F') (h : Rd F a u) : Rd F' a u := by
  rcases h with h | ⟨o, h⟩
  · exact .inl (m _ _ h)
  · exact .inr ⟨o, m _ _ h⟩
theorem sql_mon {K : PySem.W.Frag} {a : Addr} {xs : List V} (m : Fx F F') (h : SqL K F a xs) : SqL K F' a xs := by
  rcases h with h | h
  · exact .inl (rd_mon m h)
  · exact .inr h
theorem sqt_mon {K : PySem.W.Frag} {a : Addr} {xs : List V} (m : Fx F F') (h : SqT K F a xs) : SqT K F' a xs := by
  rcases h with h | h
  · exact .inl (rd_mon m h)
  · exact .inr h
mutual
theorem Is.mono (m : Fx F F') : ∀ (d : D) {v : V}, Is t F d v → Is t F' d v
  | .non, v, h => by unfold Is at h ⊢; exact h
  | .bl b, v, h => by unfold Is at h ⊢; exact h
  | .int i, v, h => by unfold Is at h ⊢; exact h
  | .str s, v, h => by unfold Is at h ⊢; exact h
  | .lst ds, v, h => by
    unfold Is at h ⊢
    obtain ⟨a, vs, e, hs, hl⟩ := h
    exact ⟨a, vs, e, rd_mon m hs, IsL.mono m ds hl⟩
  | .tup ds, v, h => by
    unfold Is at h ⊢
    obtain ⟨a, vs, e, hs, hl⟩ := h
    exact ⟨a, vs, e, sqt_mon m hs, IsL.mono m ds hl⟩
  | .dct ks vs, v, h => by
    unfold Is at h ⊢
    obtain ⟨a, kvs, e, hs, hk, hk2, hl⟩ := h
    exact ⟨a, kvs, e, rd_mon m hs, hk, hk2, IsL.mono m vs hl⟩
  | .obj c ds, v, h => by
    unfold Is at h ⊢
    obtain ⟨a, dx, vs, e, hs, hn, hl⟩ := h
    exact ⟨a, dx, vs, e, m _ _ hs, hn, IsL.mono m ds hl⟩
  | .exc c ds, v, h => by
    unfold Is at h ⊢
    obtain ⟨a, dd, vs, e, h1, h2, h3, h4, h5⟩ := h
    refine ⟨a, dd, vs, e, m _ _ h1, h2, ?_, fun i f u e1 e2 => ?_, IsL.mono m ds h5⟩
    · rcases h3 with h3 | ⟨d, fs, z1, z2⟩
      · exact .inl h3
      · exact .inr ⟨d, fs, z1, m _ _ z2⟩
    · obtain ⟨d, fs, z1, z2, z3⟩ := h4 i f u e1 e2
      exact ⟨d, fs, z1, m _ _ z2, z3⟩
theorem IsL.mono (m : Fx F F') : ∀ (ds : List D) {vs : List V}, IsL t F ds vs → IsL t F' ds vs
  | [], vs, h => by unfold IsL at h ⊢; exact h
  | d :: ds, vs, h => by
    unfold IsL at h ⊢
    obtain ⟨v, r, e, h1, hr⟩ := h
    exact ⟨v, r, e, Is.mono m d h1, IsL.mono m ds hr⟩
end
/-- what is fixed stays, the cells' places stay -/
structure Mon (F F' : Hp) (ads ads' : List Addr) : Prop where
  ex : Fx F F'
  ad : ∃ n, ads' = ads ++ n
theorem Mon.refl : Mon F F ads ads := ⟨fun _ _ h => h, [], by simp⟩
theorem Mon.trans {F2 : Hp} {ads2 : List Addr} (a : Mon F F' ads ads') (b : Mon F' F2 ads' ads2) : Mon F F2 ads ads2 := ⟨fun x o h => b.ex x o (a.ex x o h), by
  obtain ⟨n, e⟩ := a.ad
  obtain ⟨m, e2⟩ := b.ad
  exact ⟨n ++ m, by rw [e2, e, List.append_assoc]⟩⟩
theorem Mon.at {i : Nat} {a : Addr} (m : Mon F F' ads ads') (h : ads[i]? = some a) : ads'[i]? = some a := by
  obtain ⟨n, e⟩ := m.ad
  rw [e, List.getElem?_append_left (List.getElem?_eq_some_iff.mp h).1]
  exact h
theorem IsR.mono (m : Mon F F' ads ads') {r : R} {v : V} (h : IsR t F ads r v) : IsR t F' ads' r v := by
  cases r with
  | d d => exact Is.mono m.ex d h
  | ref i =>
    obtain ⟨a, e, h2⟩ := h
    exact ⟨a, m.at e, h2⟩
theorem IsRs.mono (m : Mon F F' ads ads') {rs : List R} {vs : List V} (h : IsRs t F ads rs vs) : IsRs t F' ads' rs vs := pair_imp (fun _ _ z => z.mono m) h
end
/-- a cell as it stands at a -/
def CellOk (t : Tx) (F : Hp) (ads : List Addr) (H : Hp) (a : Addr) : Cell → Prop
  | .lst rs => F a = none ∧ ∃ vs, H a = some (.lst vs) ∧ IsRs t F ads rs vs
  | .tup rs => F a = none ∧ ∃ vs, H a = some (.tup vs) ∧ IsRs t F ads rs vs
  | .dct ks rs => F a = none ∧ ∃ kvs, H a = some (.dK kvs) ∧ (∀ k ∈ kvs, keyOk k.1) ∧ ks = kvs.map (fun k => keyD k.1) ∧ IsRs t F ads rs (kvs.map (·.2))
  | .obj c rs => F a = none ∧ ∃ dx vs, H a = some (.ins (t.cad c) dx ((t.cfn c).zip vs)) ∧ vs.length ≤ (t.cfn c).length ∧ IsRs t F ads rs vs
  | .frz d => Is t F d (.ref a)
/-- the cells M stand in the heap H, F is fixed in it -/
structure Rel (t : Tx) (ads : List Addr) (F : Hp) (M : Mem) (H : Hp) : Prop where
  ex : Fx F H
  nd : ads.Nodup
  ln : ads.length = M.length
  th : ∀ a ∈ ads, H a ≠ none
  ok : ∀ (i : Nat) c a, M[i]? = some c → ads[i]? = some a → CellOk t F ads H a c
def EnvR (t : Tx) (F : Hp) (ads : List Addr) (env : Env) (σ : L2.St) : Prop :=
  env.length = σ.length ∧ ∀ (i : Nat) r, env[i]? = some (some r) → ∃ v, σ[i]? = some (some v) ∧ IsR t F ads r v
/-- what a step leaves -/
structure Stp (ads : List Addr) (F H : Hp) (ads' : List Addr) (F' H' : Hp) : Prop where
  ex : Fx F F'
  ad : ∃ n, ads' = ads ++ n ∧ ∀ a ∈ n, H a = none
  nw : ∀ a, F a = none → F' a ≠ none → H a = none ∨ a ∈ ads
  fr : ∀ a o, H a = some o → a ∉ ads → H' a = some o
  th : ∀ a, H' a = none → H a = none
section
variable {t : Tx} {F F' F2 H H' H2 : Hp} {ads ads' ads2 : List Addr} {M M' : Mem} {env : Env} {σ : L2.St}
theorem Stp.mon (s : Stp ads F H ads' F' H') : Mon F F' ads ads' := ⟨s.ex, let ⟨n, e, _⟩ := s.ad; ⟨n, e⟩⟩
theorem Stp.refl : Stp ads F H ads F H := ⟨fun _ _ h => h, ⟨[], by simp, by simp⟩, fun _ h g => absurd h g, fun _ _ h _ => h, fun _ h => h⟩
theorem Stp.trans (a : Stp ads F H ads' F' H') (b : Stp ads' F' H' ads2 F2 H2) : Stp ads F H ads2 F2 H2 := by
  obtain ⟨n, e, hn⟩ := a.ad
  obtain ⟨m, e2, hm⟩ := b.ad
  have notin : ∀ x o, H x = some o → x ∉ ads → x ∉ ads' := fun x o h hx hx' => by
    rw [e] at hx'
    rcases List.mem_append.mp hx' with z | z
    · exact hx z
    · rw [hn x z] at h
      cases h
  refine ⟨fun x o h => b.ex x o (a.ex x o h), ⟨n ++ m, by rw [e2, e, List.append_assoc], fun x hx => ?_⟩, fun x h g => ?_, fun x o h hx => b.fr x o (a.fr x o h hx) (notin x o h hx), fun x h => a.th x (b.th x h)⟩
  · rcases List.mem_append.mp hx with z | z
    · exact hn x z
    · exact a.th x (hm x z)
  · cases q : F' x with
    | none =>
      rcases b.nw x q g with z | z
      · exact .inl (a.th x z)
      · rw [e] at z
        rcases List.mem_append.mp z with z | z
        · exact .inr z
        · exact .inl (hn x z)
    | some o => exact a.nw x h (by rw [q]; exact fun z => by cases z)
theorem EnvR.mono (m : Mon F F' ads ads') (h : EnvR t F ads env σ) : EnvR t F' ads' env σ := ⟨h.1, fun i r e => by
  obtain ⟨v, e1, h1⟩ := h.2 i r e
  exact ⟨v, e1, h1.mono m⟩⟩
theorem EnvR.get {i : Nat} {r : R} (h : EnvR t F ads env σ) (e : env[i]? = some (some r)) : ∃ v, σ[i]? = some (some v) ∧ IsR t F ads r v := h.2 i r e
theorem EnvR.put {i : Nat} {o : Option R} {u : Option V} (h : EnvR t F ads env σ) (hd : ∀ r, o = some r → ∃ v, u = some v ∧ IsR t F ads r v) : EnvR t F ads (env.set i o) (σ.set i u) := by
  refine ⟨by simp [h.1], fun j x e => ?_⟩
  by_cases hj : i = j
  · subst hj
    by_cases hl : i < env.length
    · rw [List.getElem?_set_self hl] at e
      obtain ⟨v, e2, q⟩ := hd x (Option.some.inj e)
      rw [List.getElem?_set_self (by rw [← h.1]; exact hl)]
      exact ⟨v, by rw [e2], q⟩
    · rw [List.getElem?_eq_none (by simpa using hl)] at e
      cases e
  · rw [List.getElem?_set_ne hj] at e
    rw [List.getElem?_set_ne hj]
    exact h.2 j x e
theorem EnvR.set {i : Nat} {r : R} {v : V} (h : EnvR t F ads env σ) (hd : IsR t F ads r v) : EnvR t F ads (env.set i (some r)) (σ.set i (some v)) := h.put fun _ e => by cases e; exact ⟨v, rfl, hd⟩
theorem EnvR.unset {i : Nat} {u : Option V} (h : EnvR t F ads env σ) : EnvR t F ads (env.set i none) (σ.set i u) := h.put fun _ e => by cases e
theorem Rel.cell {i : Nat} {c : Cell} (R : Rel t ads F M H) (h : M[i]? = some c) : ∃ a, ads[i]? = some a ∧ CellOk t F ads H a c := by
  have hi : i < ads.length := by
    rw [R.ln]
    exact (List.getElem?_eq_some_iff.mp h).1
  exact ⟨_, List.getElem?_eq_getElem hi, R.ok i c _ h (List.getElem?_eq_getElem hi)⟩
/-- what is seen of a value -/
def Sees (t : Tx) (F : Hp) (ads : List Addr) (H : Hp) (v : V) : Vw → Prop
  | .non => v = .non
  | .bl b => v = .bl b
  | .int i => v = .int i
  | .str s => v = .str (st s) ∧ tOk s
  | .lst rs => ∃ a vs, v = .ref a ∧ Rd H a (.lst vs) ∧ IsRs t F ads rs vs
  | .tup rs => ∃ a vs, v = .ref a ∧ SqT t.K H a vs ∧ IsRs t F ads rs vs
  | .dct ks rs => ∃ a kvs, v = .ref a ∧ Rd H a (.dK kvs) ∧ (∀ k ∈ kvs, keyOk k.1) ∧ ks = kvs.map (fun k => keyD k.1) ∧ IsRs t F ads rs (kvs.map (·.2))
  | .obj c rs => ∃ a dx vs, v = .ref a ∧ H a = some (.ins (t.cad c) dx ((t.cfn c).zip vs)) ∧ vs.length ≤ (t.cfn c).length ∧ IsRs t F ads rs vs
  | .no => True
theorem Is.sees (m : Fx F H) {d : D} {v : V} (h : Is t F d v) : Sees t F ads H v (vwD d) := by
  cases d <;> unfold Is at h <;> unfold vwD <;> unfold Sees
  · exact h
  · exact h
  · exact h
  · exact h
  · obtain ⟨a, vs, e, h1, h2⟩ := h
    exact ⟨a, vs, e, rd_mon m h1, isRs_of h2⟩
  · obtain ⟨a, vs, e, h1, h2⟩ := h
    exact ⟨a, vs, e, sqt_mon m h1, isRs_of h2⟩
  · obtain ⟨a, kvs, e, h1, h2, h3, h4⟩ := h
    exact ⟨a, kvs, e, rd_mon m h1, h2, h3, isRs_of h4⟩
  · obtain ⟨a, dx, vs, e, h1, h2, h3⟩ := h
    exact ⟨a, dx, vs, e, m _ _ h1, h2, isRs_of h3⟩
  · trivial
/-- a value seen through the cells -/
theorem Rel.view (Rr : Rel t ads F M H) {r : R} {v : V} (h : IsR t F ads r v) : Sees t F ads H v (vw M r) := by
  cases r with
  | d d => exact Is.sees Rr.ex h
  | ref i =>
    obtain ⟨a, ha, hv⟩ := h
    cases hM : M[i]? with
    | none =>
      rw [show vw M (.ref i) = .no from by simp [vw, hM]]
      trivial
    | some c =>
      have hc := Rr.ok i c a hM ha
      rw [show vw M (.ref i) = vwC c from by simp [vw, hM]]
      subst hv
      cases c with
      | lst rs =>
        obtain ⟨_, vs, h1, h2⟩ := hc
        exact ⟨a, vs, rfl, .inl h1, h2⟩
      | tup rs =>
        obtain ⟨_, vs, h1, h2⟩ := hc
        exact ⟨a, vs, rfl, SqT.of h1, h2⟩
      | dct ks rs =>
        obtain ⟨_, kvs, h1, h2, h3, h4⟩ := hc
        exact ⟨a, kvs, rfl, .inl h1, h2, h3, h4⟩
      | obj c rs =>
        obtain ⟨_, dx, vs, h1, h2, h3⟩ := hc
        exact ⟨a, dx, vs, rfl, h1, h2, h3⟩
      | frz d => exact Is.sees Rr.ex hc
/-- a fresh thing, frozen -/
theorem Rel.newF (Rr : Rel t ads F M H) {a : Addr} {o : HO} (hn : H a = none) : Rel t ads (upd F a o) M (upd H a o) ∧ Stp ads F H ads (upd F a o) (upd H a o) := by
  have fa : F a = none := by
    cases q : F a with
    | none => rfl
    | some u =>
      have z := Rr.ex _ _ q
      rw [hn] at z
      cases z
  have fx : Fx F (upd F a o) := fun b u e => by
    rw [upd_ne (ne_of_none e fa)]
    exact e
  have m : Mon F (upd F a o) ads ads := ⟨fx, [], by simp⟩
  refine ⟨⟨fun b u e => ?_, Rr.nd, Rr.ln, fun b hb z => ?_, fun i c b e1 e2 => ?_⟩, fx, ⟨[], by simp, by simp⟩, fun b h1 h2 => ?_, fun b u e _ => ?_, fun b e => ?_⟩
  · by_cases hb : b = a
    · subst hb
      rw [upd_same] at e ⊢
      exact e
    · rw [upd_ne hb] at e ⊢
      exact Rr.ex _ _ e
  · by_cases hb2 : b = a
    · rw [hb2, upd_same] at z
      cases z
    · rw [upd_ne hb2] at z
      exact Rr.th b hb z
  · have z := Rr.ok i c b e1 e2
    have keepH : ∀ u, H b = some u → upd H a o b = some u := fun u e => by
      rw [upd_ne (ne_of_none e hn)]
      exact e
    have keepF : ∀ u, H b = some u → F b = none → upd F a o b = none := fun u e e3 => by
      rw [upd_ne (ne_of_none e hn)]
      exact e3
    cases c <;> unfold CellOk at z ⊢
    · obtain ⟨z0, vs, z1, z2⟩ := z
      exact ⟨keepF _ z1 z0, vs, keepH _ z1, z2.mono m⟩
    · obtain ⟨z0, vs, z1, z2⟩ := z
      exact ⟨keepF _ z1 z0, vs, keepH _ z1, z2.mono m⟩
    · obtain ⟨z0, kvs, z1, z2, z3, z4⟩ := z
      exact ⟨keepF _ z1 z0, kvs, keepH _ z1, z2, z3, z4.mono m⟩
    · obtain ⟨z0, dx, vs, z1, z2, z3⟩ := z
      exact ⟨keepF _ z1 z0, dx, vs, keepH _ z1, z2, z3.mono m⟩
    · exact Is.mono fx _ z
  · by_cases hb : b = a
    · subst hb
      exact .inl hn
    · rw [upd_ne hb] at h2
      exact absurd h1 h2
  · rw [upd_ne (ne_of_none e hn)]
    exact e
  · by_cases hb : b = a
    · subst hb
      exact hn
    · rw [upd_ne hb] at e
      exact e
end
end Lc
set_option Elab.async false
set_option linter.all false
set_option maxRecDepth 100000
set_option maxHeartbeats 4000000
/-! Exceptions that fly with the chain of their contexts: so a suite may raise, and the suite of a further try may raise again. -/
namespace LcX
open PySem PySem.Spec PyProof.Rows L2
/-- the contexts behind an exception, as they lie in the ground B, out of reach of what H tracks -/
inductive Chn (B : Heap) (H : Hp) : Value → List (Addr × Obj) → Prop where
  | nil : Chn B H .none []
  | cons {x : Addr} {o : Obj} {vs : Array Value} {v : Value} {r : List (Addr × Obj)} (h1 : B.get? x = some o) (h2 : H x = none) (h3 : o.data = .fields vs) (h4 : vs[2]? = some v) (h5 : Chn B H v r) : Chn B H (.ref x) ((x, o) :: r)
def CtxK (B : Heap) (H : Hp) (o : Obj) : Prop := ∀ vs : Array Value, o.data = .fields vs → ∃ v r, vs[2]? = some v ∧ Chn B H v r
def Zk (B : Heap) (H : Hp) (cls : Value) (d : Option Addr) : Obj → Prop := fun o => o.cls = cls ∧ o.dict = d ∧ CtxK B H o
theorem ctxK_steady {B : Heap} {H : Hp} : PXN.Steady1 (CtxK B H) := fun o v h => by
  obtain ⟨c, d, dt, sl⟩ := o
  cases dt with
  | fields ws =>
    intro vs e
    have q1 : ws.setIfInBounds 1 v = vs := Data.fields.inj e
    have q2 : (ws.setIfInBounds 1 v)[2]? = ws[2]? := by simp [Array.getElem?_setIfInBounds]
    obtain ⟨u, r, g1, g2⟩ := h ws rfl
    exact ⟨u, r, by rw [← q1, q2]; exact g1, g2⟩
  | _ =>
    intro vs e
    cases e
theorem zk_steady {B : Heap} {H : Hp} {cls : Value} {d : Option Addr} : PXN.Steady1 (Zk B H cls d) := fun o v h =>
  ⟨PXN.steady_cls o v h.1, PXN.steady_dict o v h.2.1, ctxK_steady o v h.2.2⟩
theorem zk_zc {B : Heap} {H : Hp} {cls : Value} {d : Option Addr} {o : Obj} (h : Zk B H cls d o) : Zc cls d o := ⟨h.1, h.2.1⟩

/-- an exception in the air of X -/
def Air (X : Cx) (W : WX) (u : Value) (sx : Shared) : Prop :=
  ∃ (a : Addr) (B : Heap) (si : Shared) (pins : List (Addr × Obj)) (σ : L2.St) (H : Hp) (cls : Value) (d : Option Addr),
    u = .ref a ∧ Inv X pins σ H si ∧ (∀ b o, si.heap.get? b = some o → b ∉ frs X.stack → B.get? b = some o) ∧ si.heap.UpToSlots sx.heap ∧
      Sky B X.stack a (Zk B H cls d) X.env.locals sx.heap ∧ H a = none ∧ sx.os = si.os ∧ AllBare sx.gens ∧ W cls d σ H
def Tak (X : Cx) (W : WX) : Prop := ∀ u sx, Air X W u sx → X.xe u sx
theorem Tak.imp {X : Cx} {W W' : WX} (t : Tak X W) (h : ∀ c d σ H, W' c d σ H → W c d σ H) : Tak X W' := fun u sx q => by
  obtain ⟨a, B, si, pins, σ, H, cls, d, e, I, g1, g2, g3, g4, g5, g6, w⟩ := q
  exact t u sx ⟨a, B, si, pins, σ, H, cls, d, e, I, g1, g2, g3, g4, g5, g6, h _ _ _ _ w⟩
/-- behind a call that let one out -/
def CX (P : Program) (w : World) (outer : List Env) (H : Hp) (s : Shared) (E : XK) (u : Value) (sx : Shared) : Prop :=
  ∃ (a : Addr) (B : Heap) (Hx : Hp) (cls : Value) (d : Option Addr), u = .ref a ∧ HandSPX.FlyingZ B outer a (Zk B Hx cls d) sx.heap ∧ HOk P w Hx B ∧ UB (frs outer) H Hx s.heap B sx.heap ∧ Hx a = none ∧ sx.os = s.os ∧ AllBare sx.gens ∧ E cls d Hx
section
variable {X : Cx} {pins : List (Addr × Obj)} {σ : L2.St} {H : Hp} {si s sx : Shared} {B : Heap} {W : WX} {E : XK}
theorem Air.of_call (I : Inv X pins σ H s) (hW : ∀ cls d Hx, E cls d Hx → W cls d σ Hx) {u : Value} (c : CX X.prog X.w X.stack H s E u sx) : Air X W u sx := by
  obtain ⟨a, B, Hx, cls, d, rfl, fl, hok, ub, na, os, ag, hE⟩ := c
  obtain ⟨G, gin, gout⟩ := restrict sx.heap fun b => (B.get? b).isSome || decide (b ∈ frs X.stack)
  have stays : B.StaysIn sx.heap := fl.1
  have BG : ∀ b o, B.get? b = some o → G.get? b = some o := fun b o e => by
    rw [gin b (by simp [e])]
    exact stays b o e
  have FG : ∀ b, b ∈ frs X.stack → G.get? b = sx.heap.get? b := fun b hb => gin b (by simp [hb])
  have GO : ∀ b o, G.get? b = some o → sx.heap.get? b = some o ∧ ((B.get? b).isSome = true ∨ b ∈ frs X.stack) := fun b o e => by
    cases q : ((B.get? b).isSome || decide (b ∈ frs X.stack)) with
    | false =>
      rw [gout b q] at e
      cases e
    | true =>
      rw [gin b q] at e
      exact ⟨e, by simpa [Bool.or_eq_true] using q⟩
  have un : Un (frs X.stack) [] H Hx s.heap G :=
    { keep := fun b o e n hb _ => BG b o (ub.keep b o e n hb)
      slot := fun b o e _ hb _ => by
        obtain ⟨sl, q⟩ := ub.slot b o e hb
        exact ⟨sl, (FG b hb).trans q⟩
      free := fun b o e n _ => ub.free b o e n
      there := fun b o e _ => by
        by_cases hb : b ∈ frs X.stack
        · obtain ⟨sl, q⟩ := ub.slot b o e hb
          exact ⟨_, (FG b hb).trans q⟩
        · obtain ⟨o2, q⟩ := ub.there b o e hb
          exact ⟨o2, BG b o2 q⟩
      tups := ub.tups
      frzs := ub.frzs
      tbls := ub.tbls }
  refine ⟨a, B, { s with heap := G, gens := sx.gens, drawn := sx.drawn, toks := sx.toks }, pins, σ, Hx, cls, d, rfl, I.call (ch := []) un (hok.kept BG) ag (fun _ z => nomatch z), fun b o e hb => ?_, Heap.UpToSlots.of_keeps fun b o e => (GO b o e).1, .inr (.inl fl), na, os, ag, hW _ _ _ hE⟩
  obtain ⟨e2, h | h⟩ := GO b o e
  · obtain ⟨o2, q⟩ := Option.isSome_iff_exists.mp h
    have z := stays b o2 q
    rw [e2] at z
    cases z
    exact q
  · exact absurd h hb
/-- one just raised -/
theorem Air.new {a : Addr} {oe : Obj} {vs : Array Value} {cls : Value} {d : Option Addr} (I : Inv X pins σ H si) (k : ∀ b o, si.heap.get? b = some o → sx.heap.get? b = some o) (hne : si.heap.get? a = none) (he : sx.heap.get? a = some oe)
    (hz : Zk (PySem.W.hideAll si.heap (frs X.stack)) H cls d oe) (hd : oe.data = .fields vs) (h1 : vs[1]? = some .none) (na : H a = none) (os : sx.os = si.os) (ag : AllBare sx.gens) (w : W cls d σ H) : Air X W (.ref a) sx := by
  have fresh : (PySem.W.hideAll si.heap (frs X.stack)).get? a = none := by
    cases q : (PySem.W.hideAll si.heap (frs X.stack)).get? a with
    | none => rfl
    | some o =>
      have z := PySem.W.of_hideAll _ q
      rw [hne] at z
      cases z
  have ff : sx.heap.FunFrames (PySem.W.hideAll si.heap (frs X.stack)) X.stack :=
    Heap.FunFrames.of_keeps (fun b o e _ => ⟨o, k b o e, rfl⟩) (funFrames_none I.stack fun b hb => PySem.W.hideAll_none _ hb)
  exact ⟨a, PySem.W.hideAll si.heap (frs X.stack), si, pins, σ, H, cls, d, rfl, I, fun b o e hb => PySem.W.hideAll_get _ e hb, Heap.UpToSlots.of_keeps k,
    .inl ⟨fun b o e => k b o (PySem.W.of_hideAll _ e), fresh, ff, oe, vs, he, hz, hd, h1⟩, na, os, ag, w⟩
/-- it leaves the def -/
theorem Air.leave (hs : X.stack = X.env :: X.outer) (hf : X.env.frame = some X.env.locals) (hex : X.ex = []) {E1 : Value → Shared → Prop} (hW : ∀ cls d σ H, W cls d σ H → E cls d H) {u : Value} (x : Air X W u sx) :
    wpAny (model X.prog X.w) X.A (leaving X.env u) (fun _ s2 => CX X.prog X.w X.outer X.H_0 X.s_0 E u s2) E1 sx := by
  obtain ⟨a, B, si, pins, σ, H, cls, d, rfl, I, nb, up, sky, na, os, ag, w⟩ := x
  have hfr : X.A.frames = some (X.env :: X.outer) := by rw [I.ok.frames, hs]
  have out : ∀ b o, X.s_0.heap.get? b = some o → b ∉ X.fs → b ∉ frs X.stack := fun b o e hb hm => by
    rcases List.mem_cons.mp (I.stkSub b hm) with z | z
    · have q1 := Heap.lt_size e
      have q2 := I.ok.above
      rw [z] at q1
      exact absurd (Nat.lt_of_lt_of_le q1 q2) (Nat.lt_irrefl _)
    · exact hb z
  have hex2 : ∀ b, b ∉ X.ex := fun b hb => by
    rw [hex] at hb
    cases hb
  have fin : ∀ h2, HandSPX.FlyingZ B X.outer a (Zk B H cls d) h2 → sx.heap.UpToSlots h2 → CX X.prog X.w X.outer X.H_0 X.s_0 E (.ref a) { sx with heap := h2 } := fun h2 fl up2 =>
    ⟨a, B, H, cls, d, rfl, fl, I.inGround nb,
      { keep := fun b o e n hb => nb b o (I.base.keep b o e n hb (hex2 b)) (out b o e hb)
        slot := fun b o e hb => by
          obtain ⟨_, o0, e0, hnf⟩ := I.ok.funs.mem hb
          rw [e] at e0
          cases e0
          obtain ⟨sl, e1⟩ := I.base.slot b o e (I.ok.frf b hb) hb (hex2 b)
          obtain ⟨sl2, e2⟩ := up b _ e1 hnf
          obtain ⟨sl3, e3⟩ := up2 b _ e2 hnf
          exact ⟨sl3, e3⟩
        free := fun b o e n => I.base.free b o e n (hex2 b)
        there := fun b o e hb => by
          obtain ⟨o2, e1⟩ := I.base.there b o e (hex2 b)
          exact ⟨o2, nb b o2 e1 (out b o e hb)⟩
        tups := I.base.tups
        frzs := I.base.frzs
        tbls := I.base.tbls },
      na, os.trans I.os, ag, hW _ _ _ _ w⟩
  rw [hs] at sky
  rcases sky with ⟨g1, g2, g3, oe, vs, g4, g5, g6, g7⟩ | fl | hd
  · exact PXN.leaving_firstZ zk_steady hfr g3 hf g4 g1 g2 g6 g7 g5 fin
  · exact PXN.leaves_onZ zk_steady hfr hf fl fin
  · exact HandSPX.leaves_heldZ hf hd fin
theorem tak_of (hs : X.stack = X.env :: X.outer) (hf : X.env.frame = some X.env.locals) (hex : X.ex = []) {E1 : Value → Shared → Prop}
    (hx : X.xe = fun e sx => wpAny (model X.prog X.w) X.A (leaving X.env e) (fun _ s2 => CX X.prog X.w X.outer X.H_0 X.s_0 E e s2) E1 sx) : Tak X (fun cls d _ H => E cls d H) := fun u sx x => by
  rw [hx]
  exact Air.leave (W := fun cls d _ H => E cls d H) (E := E) hs hf hex (fun _ _ _ _ h => h) x
theorem passT (tk : Tak X W) (σ : L2.St) : PassesAt (CX X.prog X.w) X σ (WE W σ) := fun _ _ _ e sx I c => tk e sx (Air.of_call I (fun _ _ _ h => h) c)
end

/-! ### raise -/
/-- what is handled is pinned with its contexts -/
inductive PCh (pn : List (Addr × Obj)) : Value → Prop where
  | nil : PCh pn .none
  | cons {x : Addr} {o : Obj} {vs : Array Value} {v : Value} (h1 : (x, o) ∈ pn) (h3 : o.data = .fields vs) (h4 : vs[2]? = some v) (h5 : PCh pn v) : PCh pn (.ref x)
def HotK (X : Cx) : Prop := ∃ a, X.A.handled = some (.ref a) ∧ PCh X.pn (.ref a)
/-- contexts as they lie in a heap, none of them at a -/
inductive HCh (h : Heap) (a : Addr) : Value → Prop where
  | nil : HCh h a .none
  | cons {x : Addr} {o : Obj} {vs : Array Value} {v : Value} (h0 : x ≠ a) (h1 : h.get? x = some o) (h3 : o.data = .fields vs) (h4 : vs[2]? = some v) (h5 : HCh h a v) : HCh h a (.ref x)
/-- from y one comes to z -/
inductive Rch (h : Heap) : Value → Value → Prop where
  | refl (v : Value) : Rch h v v
  | step {x : Addr} {o : Obj} {vs : Array Value} {v z : Value} (h1 : h.get? x = some o) (h3 : o.data = .fields vs) (h4 : vs[2]? = some v) (h5 : Rch h v z) : Rch h (.ref x) z
theorem Rch.snoc {h : Heap} {y z : Value} (r : Rch h y z) : ∀ {x : Addr} {o : Obj} {vs : Array Value} {v : Value}, z = .ref x → h.get? x = some o → o.data = .fields vs → vs[2]? = some v → Rch h y v := by
  induction r with
  | refl u =>
    intro x o vs v e h1 h3 h4
    subst e
    exact .step h1 h3 h4 (.refl v)
  | step g1 g3 g4 _ ih =>
    intro x o vs v e h1 h3 h4
    exact .step g1 g3 g4 (ih e h1 h3 h4)
section
variable {prog : Program} {w : World} {E : Value → Shared → Prop} {s : Shared}
theorem unchain_run {a : Addr} {R : Result → Shared → Prop} (hR : R (.ok (.ret .none)) s) {c : Value} (hc : HCh s.heap a c) :
    ∀ (slow : Value) (tg : Bool) (A : Around), c ≠ .none → Rch s.heap slow c → codeAny (model prog w) A (.builtin "proto.unchain" ⟨[.ref a, c, slow, .bool tg], []⟩) R s := by
  induction hc with
  | nil => intro slow tg A h; exact absurd rfl h
  | @cons x o vs v h0 h1 h3 h4 h5 ih =>
    intro slow tg A _ hr
    refine codeAny_builtin HotX.entry_unchain ?_
    show wpAny _ _ (field (.ref x) 2 >>= _) _ _ s
    refine wpAny_bind (wpAny_field h1 h3 h4 ?_)
    by_cases hv : v = .none
    · subst hv
      rw [if_pos (show (Value.none == Value.none) = true from rfl)]
      first
      | exact wpAny_bind (wpAny_pure (wpAny_pure hR))
      | exact wpAny_pure hR
    · have hb : (v == Value.none) = false := by simpa using hv
      rw [if_neg (by rw [hb]; exact Bool.false_ne_true)]
      have hva : (v == Value.ref a) = false := by
        cases h5 with
        | nil => rfl
        | cons k0 _ _ _ _ => simpa using k0
      have goOn : ∀ sl' : Value, Rch s.heap sl' v → wpAny (model prog w) (A.under (.builtin "proto.unchain" ⟨[.ref a, .ref x, slow, .bool tg], []⟩)) (again (.builtin "proto.unchain" ⟨[.ref a, v, sl', .bool !tg], []⟩) : Sem Fin)
          (fun fin s' => match fin with | .done f => R (.ok f) s' | .again c' => c'.quiet = true ∧ codeAny (model prog w) A c' R s') (fun e s' => R (.error e) s') s := fun sl' r' =>
        wpAny_pure ⟨Code.quiet_builtin _ (by decide +kernel), ih sl' (!tg) A hv r'⟩
      have rv : Rch s.heap slow v := hr.snoc rfl h1 h3 h4
      have rest : wpAny (model prog w) (A.under (.builtin "proto.unchain" ⟨[.ref a, .ref x, slow, .bool tg], []⟩)) (do
          let slow ← if tg then field slow 2 else pure slow
          again (.builtin "proto.unchain" ⟨[.ref a, v, slow, .bool !tg], []⟩) : Sem Fin)
          (fun fin s' => match fin with | .done f => R (.ok f) s' | .again c' => c'.quiet = true ∧ codeAny (model prog w) A c' R s') (fun e s' => R (.error e) s') s := by
        cases tg with
        | false => exact wpAny_bind (wpAny_pure (goOn slow rv))
        | true =>
          cases hr with
          | refl _ => exact wpAny_bind (wpAny_field h1 h3 h4 (goOn v (.refl v)))
          | step g1 g3 g4 g5 => exact wpAny_bind (wpAny_field g1 g3 g4 (goOn _ (g5.snoc rfl h1 h3 h4)))
      dsimp only
      rw [if_neg (show ¬ (v == Value.ref a) = true by rw [hva]; exact Bool.false_ne_true)]
      by_cases hs : (v == slow) = true
      · rw [if_pos hs]
        exact wpAny_bind (wpAny_rule (wpAny_pure hR))
      · rw [if_neg hs]
        exact rest
theorem raiseNew_k {A : Around} {α : Type} {a x1 : Addr} {oe : Obj} {vs : Array Value} {Q : α → Shared → Prop} (hh : A.handled = some (.ref x1)) (hc : HCh s.heap a (.ref x1)) (ha : s.heap.get? a = some oe) (da : oe.data = .fields vs) (hi : 2 < vs.size)
    (hE : E (.ref a) { s with heap := s.heap.update a (Obj.mapFields (·.setIfInBounds 2 (.ref x1))) }) : wpAny (model prog w) A (raiseNew (.ref a) : Sem α) Q E s := by
  have ne : x1 ≠ a := by
    cases hc with
    | cons k0 _ _ _ _ => exact k0
  have un : ∀ {Q2 : Value → Shared → Prop}, Q2 .none s → wpAny (model prog w) A (holding [Value.ref a] (runValue (.builtin "proto.unchain" ⟨[.ref a, .ref x1, .ref x1, .bool false], []⟩))) Q2 E s := fun {Q2} q =>
    wpAny_holding (wpAny_runValue (unchain_run (R := _) q hc (.ref x1) false _ (fun z => nomatch z) (.refl _)))
  have up : ∀ {Q2 : Unit → Shared → Prop}, Q2 () { s with heap := s.heap.update a (Obj.mapFields (·.setIfInBounds 2 (.ref x1))) } → wpAny (model prog w) A (updateField a 2 (.ref x1)) Q2 E s := fun {Q2} q => HotX.chained ha da hi q
  unfold raiseNew
  refine wpAny_bind (wpAny_handled ?_)
  rw [hh]
  dsimp only
  rw [if_pos (HotX.ref_bne ne)]
  exact wpAny_bind (un (wpAny_bind (up (wpAny_throw hE))))
theorem raise_made_k {A : Around} {env : Env} {x : Sem Value} {Q : Flow → Shared → Prop} {x1 : Addr} (hh : A.handled = some (.ref x1))
    (h : wpAny (model prog w) A x (fun v t => ∃ a oe vs cls, v = .ref a ∧ t.heap.get? a = some oe ∧ oe.cls = cls ∧ oe.data = .fields vs ∧ vs[1]? = some .none ∧ 2 < vs.size ∧ HCh t.heap a (.ref x1) ∧
      PySem.W.Looks (model prog w) t.heap (isSubtype cls (.type "BaseException")) true ∧ PySem.W.Looks (model prog w) t.heap (typeOf cls) (.type "type") ∧ E (.ref a) { t with heap := t.heap.update a (Obj.mapFields (·.setIfInBounds 2 (.ref x1))) }) E s) :
    wpAny (model prog w) A (raiseStmt env (some x) none) Q E s := by
  unfold raiseStmt
  dsimp only
  refine wpAny_bind (wpAny_mono h (fun v t hv => ?_) fun _ _ z => z)
  obtain ⟨a, oe, vs, cls, rfl, ha, hcls, hd, h1, hi, hot, K1, K3, hE⟩ := hv
  have KT : PySem.W.Looks (model prog w) t.heap (typeOf (.ref a)) cls := fun A Q E s k q => wpAny_typeOf_ref (k _ _ ha) (by rw [hcls]; exact q)
  have KI : PySem.W.Looks (model prog w) t.heap (isInstance (.ref a) (.type "BaseException")) true := KT.andThen K1
  have nty : ∀ {Q2 : Bool → Shared → Prop}, Q2 false t → wpAny (model prog w) A (isType (.ref a)) Q2 E t := by
    intro Q2 q
    simp only [isType, loadHead]
    refine wpAny_bind (wpAny_loadPart ha ?_)
    rw [hd]
    exact wpAny_pure q
  refine wpAny_bind (wpAny_pure ?_)
  dsimp only
  refine wpAny_bind (wpAny_holding ?_)
  unfold excFromValue isExcClass
  refine wpAny_bind (wpAny_bind (nty ?_))
  simp only [Bool.false_eq_true, if_false]
  refine wpAny_pure ?_
  simp only [Bool.false_eq_true, if_false]
  refine wpAny_bind (KI.here ?_)
  simp only [if_true]
  refine wpAny_pure ?_
  refine wpAny_bind (nty ?_)
  simp only [Bool.false_eq_true, if_false]
  unfold raisedInstance
  refine wpAny_bind (wpAny_bind (KT.here (wpAny_bind (K3.here ?_))))
  rw [if_pos (beq_self_eq_true _)]
  refine wpAny_pure ?_
  unfold setFlight
  refine wpAny_bind (wpAny_bind (wpAny_field ha hd h1 ?_))
  rw [if_neg (by decide)]
  refine wpAny_pure ?_
  exact raiseNew_k hh hot ha hd hi hE
end
section
variable {X : Cx} {W : WX} {e : Expr} {t : L2.St → Hp → XK → Prop} {pos : Pos}
/-- raise where nothing is handled -/
theorem ps_raiseC (hc : X.calm = true) (tk : Tak X W) (he : L2N.PMk X e t) : PS X (.Raise (some e) none pos) (fun _ σ H => t σ H fun cls d Hx => W cls d σ Hx) := by
  refine ⟨fun pins s σ H D I h => ?_⟩
  show wpAny _ _ (do standAt pos; raiseStmt X.env (some (do let v ← eval e X.env; standAt pos; pure v)) none) _ _ _
  refine wpAny_bind (wpAny_standAt (raise_made (I.ok.hd hc) (wpAny_bind (wpAny_mono (he pins s σ H _ I h) (fun u s1 hu => wpAny_bind (wpAny_standAt (wpAny_pure ?_))) fun _ _ z => z))))
  obtain ⟨a, oe, vs, si, Hx, cls, d, rfl, J, k, hne, ha, hz, hd, h1, na, os, ag, r, q⟩ := hu
  obtain ⟨r1, r2⟩ := r (model X.prog X.w) s1.heap (J.kIn.keeps k)
  exact ⟨a, oe, vs, cls, rfl, ha, hz.1, hd, h1, r1, r2, tk _ _ (Air.new J k hne ha ⟨hz.1, hz.2.1, fun ws e => ⟨.none, [], hz.2.2 ws e, .nil⟩⟩ hd h1 na os ag q)⟩
theorem pch_heap {pn : List (Addr × Obj)} {h : Heap} {a : Addr} (hp : ∀ p ∈ pn, h.get? p.1 = some p.2 ∧ p.1 ≠ a) : ∀ {v : Value}, PCh pn v → HCh h a v := by
  intro v c
  induction c with
  | nil => exact .nil
  | cons h1 h3 h4 _ ih => exact .cons (hp _ h1).2 (hp _ h1).1 h3 h4 ih
theorem pch_chn {pn : List (Addr × Obj)} {B : Heap} {H : Hp} (hp : ∀ p ∈ pn, B.get? p.1 = some p.2 ∧ H p.1 = none) : ∀ {v : Value}, PCh pn v → ∃ r, Chn B H v r := by
  intro v c
  induction c with
  | nil => exact ⟨[], .nil⟩
  | cons h1 h3 h4 _ ih =>
    obtain ⟨r, q⟩ := ih
    exact ⟨_, .cons (hp _ h1).1 (hp _ h1).2 h3 h4 q⟩
/-- raise in a suite -/
theorem ps_raiseK (hc : HotK X) (tk : Tak X W) (he : L2N.PMk X e t) : PS X (.Raise (some e) none pos) (fun _ σ H => t σ H fun cls d Hx => W cls d σ Hx) := by
  refine ⟨fun pins s σ H D I h => ?_⟩
  obtain ⟨x1, hh, pc⟩ := hc
  show wpAny _ _ (do standAt pos; raiseStmt X.env (some (do let v ← eval e X.env; standAt pos; pure v)) none) _ _ _
  refine wpAny_bind (wpAny_standAt (raise_made_k hh (wpAny_bind (wpAny_mono (he pins s σ H _ I h) (fun u s1 hu => wpAny_bind (wpAny_standAt (wpAny_pure ?_))) fun _ _ z => z))))
  obtain ⟨a, oe, vs, si, Hx, cls, d, rfl, J, k, hne, ha, hz, hd, h1, na, os, ag, r, q⟩ := hu
  obtain ⟨r1, r2⟩ := r (model X.prog X.w) s1.heap (J.kIn.keeps k)
  have pinA : ∀ p ∈ X.pn, s1.heap.get? p.1 = some p.2 ∧ p.1 ≠ a := fun p hp => by
    have g := (J.pin p (List.mem_append_left _ hp)).1
    exact ⟨k _ _ g, fun z => by rw [z, hne] at g; cases g⟩
  have pinB : ∀ p ∈ X.pn, (PySem.W.hideAll si.heap (frs X.stack)).get? p.1 = some p.2 ∧ Hx p.1 = none := fun p hp => by
    obtain ⟨g1, g2, g3, g4, _⟩ := J.pin p (List.mem_append_left _ hp)
    exact ⟨PySem.W.hideAll_get _ g1 fun hm => (List.mem_cons.mp (J.stkSub p.1 hm)).elim g3 g4, g2⟩
  have hi : 2 < vs.size := (Array.getElem?_eq_some_iff.mp (hz.2.2 vs hd)).1
  have f1 : (vs.setIfInBounds 2 (Value.ref x1))[1]? = some Value.none := by
    rw [← h1]
    simp [Array.getElem?_setIfInBounds]
  have f2 : (vs.setIfInBounds 2 (Value.ref x1))[2]? = some (Value.ref x1) := by simp [hi]
  obtain ⟨rr, ch⟩ := pch_chn pinB pc
  have hd2 : (oe.mapFields (·.setIfInBounds 2 (Value.ref x1))).data = .fields (vs.setIfInBounds 2 (Value.ref x1)) := Obj.data_mapFields hd _
  refine ⟨a, oe, vs, cls, rfl, ha, hz.1, hd, h1, hi, pch_heap pinA pc, r1, r2, tk _ _ (Air.new J (fun b u z => ?_) hne (Heap.get?_update_self _ ha (Obj.isFreed_of_fields hd2)) ⟨(Obj.cls_mapFields ..).trans hz.1, (HandSPX.dict_mapFields ..).trans hz.2.1, fun ws ew => ?_⟩ hd2 f1 na os ag q)⟩
  · have nab : a ≠ b := fun y => by
      rw [← y, hne] at z
      cases z
    show (s1.heap.update a _).get? b = some u
    rw [Heap.get?_update_other _ _ nab]
    exact k b u z
  · rw [hd2] at ew
    cases ew
    exact ⟨_, rr, f2, ch⟩
end

/-! ### try -/
/-- the context of a suite that may raise -/
abbrev Sx (X : Cx) (a : Addr) (pn : List (Addr × Obj)) : Cx := { X with A := X.A.mark (some (.ref a)), calm := false, pn := pn }
section
variable {X : Cx} {pins : List (Addr × Obj)} {σ : L2.St} {H : Hp} {s si sx : Shared} {B : Heap} {W : WX} {a : Addr} {cls : Value} {d : Option Addr}
theorem sx_ok (ok : X.Ok) (a : Addr) (pn : List (Addr × Obj)) : (Sx X a pn).Ok :=
  ⟨ok.mod, ok.kind, ok.glob, ok.blt, ok.above, ok.inj, ok.has, ok.cab, (fun z => absurd (show false = true from z) Bool.false_ne_true), ok.frames, ok.stk, ok.exf, ok.bs, ok.bsz, ok.noex, ok.exfs, ok.funs, ok.frf⟩
theorem leave_suite {q : Addr × Obj} {ch pn2 : List (Addr × Obj)} (I : Inv (Sx X a (q :: (ch ++ (X.pn ++ pins)))) pn2 σ H s) (ok : X.Ok) : Inv X pins σ H s :=
  ⟨ok, I.os, I.bare, I.base, I.loc, I.cell, I.free, I.freeC, fun p hp => I.pin p (List.mem_append_left _ (List.mem_cons_of_mem _ (List.mem_append_right _ hp))), I.hok, I.len⟩
theorem tak_suite {q : Addr × Obj} {ch : List (Addr × Obj)} (tk : Tak X W) (ok : X.Ok) : Tak (Sx X a (q :: (ch ++ (X.pn ++ pins)))) W := fun u2 s2 x2 => by
  obtain ⟨a2, B2, si2, pn2, σ2, H2, cls2, d2, e2, I2, g1, g2, g3, g4, g5, g6, w2⟩ := x2
  exact tk u2 s2 ⟨a2, B2, si2, pins, σ2, H2, cls2, d2, e2, leave_suite I2 ok, g1, g2, g3, g4, g5, g6, w2⟩
/-- the class that a clause names is looked up -/
theorem named_at {x : Str} {c : Value} {np : Pos} {Q : Value → Shared → Prop} {E : Value → Shared → Prop} (I : Inv X pins σ H s) (hc : Names X x c) (hd : Option Value) (q : Q c s) : wpAny (model X.prog X.w) (X.A.mark hd) (eval (.Name x np) X.env) Q E s := by
  obtain ⟨hg, hdbg, hm⟩ := hc
  rcases hm with hm | ⟨hm, hv, hnn⟩
  · exact Calls.Name_function_global I.ok.kind hg (Calls.loadGlobal_global (by rw [I.ok.glob]; exact I.mod.glob.keeps I.bk) hm q) hdbg
  · obtain ⟨mb, k1, k2⟩ := I.mod.blt
    exact Calls.Name_function_global I.ok.kind hg (Calls.loadGlobal_builtin (by rw [I.ok.glob]; exact I.mod.glob.keeps I.bk) hm (by rw [I.ok.blt]; exact k1.keeps I.bk) ((k2 x hnn).trans hv) q) hdbg
/-- noted and laid down -/
theorem caught (hs : X.stack = X.env :: X.outer) (hf : X.env.frame = some X.env.locals) (J : Inv X pins σ H si) (nb : ∀ b o, si.heap.get? b = some o → b ∉ frs X.stack → B.get? b = some o) (up : si.heap.UpToSlots sx.heap)
    (sky : Sky B X.stack a (Zk B H cls d) X.env.locals sx.heap) (na : H a = none) (os : sx.os = si.os) (ag : AllBare sx.gens) {Q : Unit → Shared → Prop} {E : Value → Shared → Prop}
    (k : ∀ h3, sx.heap.UpToSlots h3 → HandSPX.FlyingZ B (X.env :: X.outer) a (Zk B H cls d) h3 → Inv X pins σ H { sx with heap := h3 } → Q () { sx with heap := h3 }) :
    wpAny (model X.prog X.w) X.A (noteFrame (.ref a) X.env) (fun _ s2 => wpAny (model X.prog X.w) X.A (setFlight (.ref a) none) Q E s2) E sx := by
  have hfr : X.A.frames = some (X.env :: X.outer) := by rw [J.ok.frames, hs]
  rw [hs] at sky
  exact L2N.Sky.land zk_steady hfr hf sky fun h3 fl3 up3 => k h3 up3 fl3 (J.landed nb fl3.1 (up.trans up3) os ag)
/-- the state at a suite's entry: the exception and its contexts are pinned -/
theorem enter {h4 : Heap} {oe : Obj} {vs : Array Value} (hs : X.stack = X.env :: X.outer) (hf : X.env.frame = some X.env.locals) (J : Inv X pins σ H { sx with heap := h4 }) (fl : HandSPX.FlyingZ B (X.env :: X.outer) a (Zk B H cls d) h4)
    (he : h4.get? a = some oe) (hz : Zk B H cls d oe) (hd : oe.data = .fields vs) (na : H a = none) :
    ∃ ch, Inv (Sx X a ((a, oe) :: (ch ++ (X.pn ++ pins)))) [] σ H { sx with heap := h4 } ∧ HotK (Sx X a ((a, oe) :: (ch ++ (X.pn ++ pins)))) := by
  obtain ⟨v, ch, hv, hch⟩ := hz.2.2 vs hd
  have notFr : ∀ {x : Addr} {o : Obj} {ws : Array Value}, h4.get? x = some o → o.data = .fields ws → x ∉ frs (X.env :: X.outer) := fun {x o ws} e dd hm => by
    obtain ⟨_, o2, e2, hnf⟩ := fl.2.2.1.mem hm
    rw [e] at e2
    cases e2
    exact hnf _ dd
  have far : ∀ {x : Addr}, x ∉ frs (X.env :: X.outer) → x ≠ X.env.locals ∧ x ∉ X.fs := fun {x} hn => ⟨fun z => hn (List.mem_filterMap.mpr ⟨X.env, List.mem_cons_self, by rw [hf, z]⟩), fun hm => by
    obtain ⟨e, he2, q⟩ := List.mem_filterMap.mp hm
    exact hn (List.mem_filterMap.mpr ⟨e, List.mem_cons_of_mem _ he2, q⟩)⟩
  have each : ∀ {u : Value} {l : List (Addr × Obj)}, Chn B H u l → (∀ p ∈ l, h4.get? p.1 = some p.2 ∧ H p.1 = none ∧ ∃ ws, p.2.data = .fields ws) := fun {u l} c => by
    induction c with
    | nil => intro p hp; cases hp
    | cons h1 h2 h3 h5 _ ih =>
      intro p hp
      rcases List.mem_cons.mp hp with e | hp
      · subst e
        exact ⟨fl.1 _ _ h1, h2, _, h3⟩
      · exact ih p hp
  have pc : ∀ {u : Value} {l pn : List (Addr × Obj)}, Chn B H u l → (∀ p ∈ l, p ∈ pn) → PCh pn u := fun {u l pn} c => by
    induction c with
    | nil => intro _; exact .nil
    | cons h1 h2 h3 h5 _ ih => exact fun hp => .cons (hp _ List.mem_cons_self) h3 h5 (ih fun p q => hp p (List.mem_cons_of_mem _ q))
  refine ⟨ch, ⟨sx_ok J.ok _ _, J.os, J.bare, J.base, J.loc, J.cell, J.free, J.freeC, fun p hp => ?_, J.hok, J.len⟩, a, rfl, .cons List.mem_cons_self hd hv (pc hch fun p hp => List.mem_cons_of_mem _ (List.mem_append_left _ hp))⟩
  have hp2 : p ∈ (a, oe) :: (ch ++ (X.pn ++ pins)) := by
    rw [List.append_nil] at hp
    exact hp
  have lay : ∀ (q : Addr × Obj) (ws : Array Value), h4.get? q.1 = some q.2 → H q.1 = none → q.2.data = .fields ws →
      h4.get? q.1 = some q.2 ∧ H q.1 = none ∧ q.1 ≠ X.env.locals ∧ q.1 ∉ X.fs ∧ ∀ v, q.2.data ≠ .cell v := fun q ws g1 g2 g3 =>
    ⟨g1, g2, (far (notFr g1 g3)).1, (far (notFr g1 g3)).2, fun v z => by rw [g3] at z; cases z⟩
  rcases List.mem_cons.mp hp2 with e | hp3
  · rw [e]
    exact lay (a, oe) vs he na hd
  · rcases List.mem_append.mp hp3 with q | q
    · obtain ⟨g1, g2, ws, g3⟩ := each hch p q
      exact lay p ws g1 g2 g3
    · exact J.pin p q
/-- no clause names it -/
theorem fly_on {h3 : Heap} {D : Ends} (hs : X.stack = X.env :: X.outer) (hf : X.env.frame = some X.env.locals) (tk : Tak X W) (J : Inv X pins σ H si) (nb : ∀ b o, si.heap.get? b = some o → b ∉ frs X.stack → B.get? b = some o) (up : si.heap.UpToSlots h3)
    (fl : HandSPX.FlyingZ B (X.env :: X.outer) a (Zk B H cls d) h3) (na : H a = none) (os : sx.os = si.os) (ag : AllBare sx.gens) (w : W cls d σ H) : wpAny (model X.prog X.w) X.A (handleBy (.ref a) X.env []) (SP X pins D) X.xe { sx with heap := h3 } := by
  refine wpAny_handleBy_nil ?_
  obtain ⟨_, _, _, oe, vs, T, oT, ts, he, hz, hd, h1, hr⟩ := id fl
  unfold PySem.passOn
  refine wpAny_bind (wpAny_field he hd h1 ?_)
  rw [if_neg (show ¬ ((Value.ref T == Value.none) = true) from by simp)]
  have fin : wpAny (model X.prog X.w) X.A (setFlight (.ref a) X.env.frame) (fun _ s4 => wpAny (model X.prog X.w) X.A (throw (.ref a) : Sem Flow) (SP X pins D) X.xe s4) X.xe { sx with heap := h3 } := by
    rw [hf]
    refine HandSPX.setFlight_upZ fl fun h4 hh4 up4 => wpAny_throw (tk _ _ ?_)
    exact ⟨a, B, si, pins, σ, H, cls, d, rfl, J, nb, up.trans up4, .inr (.inr (by rw [hs]; exact hh4)), na, os, ag, w⟩
  exact wpAny_bind fin
/-- the body came through -/
theorem tried {xe : Value → Shared → Prop} {D : Ends} {f : Flow} (hsp : SP (X.tr (X.pn ++ pins) xe) [] D f s) (ok : X.Ok) : (match f with
    | .next => wpAny (model X.prog X.w) X.A (execs [] X.env) (SP X pins D) X.xe s
    | f => SP X pins D f s) := by
  cases f with
  | next =>
    obtain ⟨σ2, H2, J2, q⟩ := hsp
    exact wpAny_execs_nil ⟨σ2, H2, J2.ofTry ok, q⟩
  | brk =>
    obtain ⟨σ2, H2, J2, q⟩ := hsp
    exact ⟨σ2, H2, J2.ofTry ok, q⟩
  | cont =>
    obtain ⟨σ2, H2, J2, q⟩ := hsp
    exact ⟨σ2, H2, J2.ofTry ok, q⟩
  | ret u =>
    obtain ⟨v, σ2, H2, J2, r, q⟩ := hsp
    exact ⟨v, σ2, H2, J2.ofTry ok, r, q⟩
end
/-! ### a named clause's suite raises: its name goes while the exception is in the air -/
section
variable {X : Cx} {pins pins2 : List (Addr × Obj)} {σ : L2.St} {H : Hp} {s si sx : Shared} {B : Heap} {W : WX} {a a2 : Addr} {cls : Value} {d : Option Addr} {q : Addr × Obj} {ch : List (Addr × Obj)} {G0 : Value → Shared → Prop}
abbrev SxG (X : Cx) (a : Addr) (pn : List (Addr × Obj)) (G : Value → Shared → Prop) : Cx := { X with A := X.A.mark (some (.ref a)), calm := false, pn := pn, xe := G }
theorem gone2 {M : Model} {A : Around} {E : Value → Shared → Prop} {i : Nat} {n : Str} {pos : Pos} {Q : Unit → Shared → Prop} (I : Inv X pins σ H s) (hN : X.N.Nodup) (hi : X.N[i]? = some n) (hl : X.env.kindOf n = some .local)
    (h : ∀ h2, Inv X pins (σ.set i none) H { s with heap := h2, toks := s.toks + 1 } → Heap.SameBut X.env.locals s.heap h2 → (∃ o, h2.get? X.env.locals = some o ∧ ∀ vs, o.data ≠ .fields vs) → Q () { s with heap := h2, toks := s.toks + 1 }) : wpAny M A (do bindName X.env n .none; unbindBehindTheSuite X.env n pos) Q E s := by
  obtain ⟨m, hn, hlk⟩ := id I.loc
  have hcls : (X.env.scope.kind == .class || (X.env.scope.kind == .module && X.env.locals != X.env.globals)) = false := by
    rw [I.ok.kind]
    rfl
  refine wpAny_nameGoes_keeps hl hn hcls fun h2 v hn2 hs2 => h h2 ?_ hs2 ?_
  · obtain ⟨oL, _, _, hoL, _⟩ := id hn
    have neL : ∀ b o, X.s_0.heap.get? b = some o → b ≠ X.env.locals := fun b o e => Nat.ne_of_lt (Nat.lt_of_lt_of_le (Heap.lt_size e) I.ok.above)
    have bs : Un X.fs X.ex X.H_0 H X.s_0.heap h2 :=
      { keep := fun b o e nn hb hx => (hs2.2 b (neL b o e)).trans (I.base.keep b o e nn hb hx)
        slot := fun b o e nn hb hx => by
          obtain ⟨sl, e1⟩ := I.base.slot b o e nn hb hx
          exact ⟨sl, (hs2.2 b (neL b o e)).trans e1⟩
        free := I.base.free
        there := fun b o e hx => by
          obtain ⟨o2, e1⟩ := I.base.there b o e hx
          exact ⟨o2, (hs2.2 b (neL b o e)).trans e1⟩
        tups := I.base.tups
        frzs := I.base.frzs
        tbls := I.base.tbls }
    refine ⟨I.ok, I.os, I.bare, bs, ⟨_, hn2, fun j y v2 e1 e2 e3 => ?_⟩, fun y c e => ?_, I.free, I.freeC, fun p hp => ?_, fun b ob e => ?_, by simpa using I.len⟩
    · by_cases hj : j = i
      · subst hj
        by_cases hlt : j < σ.length
        · rw [List.getElem?_set_self hlt] at e2
          cases e2
        · rw [List.getElem?_eq_none (by simpa using hlt)] at e2
          cases e2
      · rw [List.getElem?_set_ne (Ne.symm hj)] at e2
        obtain ⟨u2, r2, lk⟩ := hlk j y v2 e1 e2 e3
        refine ⟨u2, r2, ?_⟩
        rcases lk with ⟨k, e⟩ | ⟨k, c, e, z⟩
        · exact .inl ⟨k, (if_neg (show y ≠ n from fun z => hj (nodup_ix hN e1 (z ▸ hi)))).trans e⟩
        · exact .inr ⟨k, c, e, z.sameBut hs2 (I.cne y c e)⟩
    · obtain ⟨w2, z⟩ := I.cell y c e
      exact ⟨w2, z.sameBut hs2 (I.cne y c e)⟩
    · obtain ⟨e, g2, g3, g4, g5⟩ := I.pin p hp
      exact ⟨(hs2.2 p.1 g3).trans e, g2, g3, g4, g5⟩
    · refine (I.hok b ob e).stay (fun c w2 hc z => (hs2.2 c ?_).trans z) (fun _ z => z) fun _ _ z => z
      intro z
      subst z
      rcases hc with hc | hc
      · rw [← hc, I.free] at e
        cases e
      · rw [I.free] at hc
        cases hc
  · obtain ⟨o, es, ep, ho, hd, _⟩ := hn2
    exact ⟨o, ho, fun vs z => by rw [hd] at z; cases z⟩
/-- the state without the exception, the name gone -/
theorem part {h7 : Heap} {σ7 : L2.St} {g7 : Array GenState} {d7 : Drawn} {t7 : Nat} {o7 : OsState} (hs : X.stack = X.env :: X.outer) (hf : X.env.frame = some X.env.locals) (I : Inv X pins σ H si) (nb : ∀ b o, si.heap.get? b = some o → b ∉ frs X.stack → B.get? b = some o) (st7 : B.StaysIn h7)
    (J : Inv X pins σ7 H ⟨h7, g7, d7, t7, o7⟩) : ∃ G : Heap, Inv X pins σ7 H ⟨G, g7, d7, t7, o7⟩ ∧ (∀ b o, G.get? b = some o → h7.get? b = some o) ∧ ∀ b o, G.get? b = some o → b ∉ frs X.stack → B.get? b = some o := by
  obtain ⟨G, gin, gout⟩ := restrict h7 fun b => (B.get? b).isSome || decide (b ∈ frs X.stack)
  have BG : ∀ b o, B.get? b = some o → G.get? b = some o := fun b o e => by
    rw [gin b (by simp [e])]
    exact st7 b o e
  have FG : ∀ b, b ∈ frs X.stack → G.get? b = h7.get? b := fun b hb => gin b (by simp [hb])
  have old : ∀ b o, si.heap.get? b = some o → G.get? b = h7.get? b := fun b o e => by
    by_cases hb : b ∈ frs X.stack
    · exact FG b hb
    · exact gin b (by simp [nb b o e hb])
  have GO : ∀ b o, G.get? b = some o → h7.get? b = some o ∧ ((B.get? b).isSome = true ∨ b ∈ frs X.stack) := fun b o e => by
    cases z : ((B.get? b).isSome || decide (b ∈ frs X.stack)) with
    | false =>
      rw [gout b z] at e
      cases e
    | true =>
      rw [gin b z] at e
      exact ⟨e, by simpa [Bool.or_eq_true] using z⟩
  have inL : X.env.locals ∈ frs X.stack := by
    rw [hs]
    exact List.mem_filterMap.mpr ⟨X.env, List.mem_cons_self, hf⟩
  have known : ∀ b o, X.s_0.heap.get? b = some o → b ∉ X.ex → ∃ o2, si.heap.get? b = some o2 := fun b o e hx => I.base.there b o e hx
  refine ⟨G, ⟨J.ok, J.os, J.bare,
    { keep := fun b o e n hb hx => by
        obtain ⟨o2, q⟩ := known b o e hx
        rw [old b o2 q]
        exact J.base.keep b o e n hb hx
      slot := fun b o e n hb hx => by
        obtain ⟨o2, q⟩ := known b o e hx
        rw [old b o2 q]
        exact J.base.slot b o e n hb hx
      free := J.base.free
      there := fun b o e hx => by
        obtain ⟨o2, q⟩ := known b o e hx
        rw [old b o2 q]
        exact J.base.there b o e hx
      tups := J.base.tups
      frzs := J.base.frzs
      tbls := J.base.tbls }, ?_, ?_, J.free, J.freeC, ?_, (I.inGround nb).kept BG, J.len⟩, fun b o e => (GO b o e).1, fun b o e hb => ?_⟩
  · have cellK : ∀ x c, X.env.cells.lookup x = some c → ∀ v, h7.IsCell c v → G.IsCell c v := fun x c e v ⟨o, ho, hd⟩ => by
      obtain ⟨v0, o0, ho0, _⟩ := I.cell x c e
      exact ⟨o, by rw [old c o0 ho0]; exact ho, hd⟩
    obtain ⟨m, ⟨o, es, ep, ho, hr⟩, hl⟩ := J.loc
    refine ⟨m, ⟨o, es, ep, (FG _ inL).trans ho, hr⟩, fun i x v e1 e2 e3 => ?_⟩
    obtain ⟨u, r, l⟩ := hl i x v e1 e2 e3
    refine ⟨u, r, ?_⟩
    rcases l with l | ⟨k, c, e, z⟩
    · exact .inl l
    · exact .inr ⟨k, c, e, cellK x c e _ z⟩
  · intro x c e
    obtain ⟨v, o, ho, hd⟩ := J.cell x c e
    obtain ⟨v0, o0, ho0, _⟩ := I.cell x c e
    exact ⟨v, o, by show G.get? c = some o; rw [old c o0 ho0]; exact ho, hd⟩
  · intro p hp
    obtain ⟨g1, g2, g3, g4, g5⟩ := J.pin p hp
    have e1 := (I.pin p hp).1
    exact ⟨by show G.get? p.1 = some p.2; rw [old p.1 _ e1]; exact g1, g2, g3, g4, g5⟩
  · obtain ⟨e2, h | h⟩ := GO b o e
    · obtain ⟨o2, q⟩ := Option.isSome_iff_exists.mp h
      have z := st7 b o2 q
      rw [e2] at z
      cases z
      exact q
    · exact absurd h hb
theorem leave_suiteG {pn2 : List (Addr × Obj)} (I : Inv (SxG X a (q :: (ch ++ (X.pn ++ pins))) G0) pn2 σ H s) (ok : X.Ok) : Inv X pins σ H s :=
  ⟨ok, I.os, I.bare, I.base, I.loc, I.cell, I.free, I.freeC, fun p hp => I.pin p (List.mem_append_left _ (List.mem_cons_of_mem _ (List.mem_append_right _ hp))), I.hok, I.len⟩
theorem sky_held {A : Around} {env : Env} {outer : List Env} {L : Addr} {Z : Obj → Prop} {Q : Unit → Shared → Prop} {E1 : Value → Shared → Prop} {M : Model} (hZ : PXN.Steady1 Z) (hfr : A.frames = some (env :: outer)) (hf : env.frame = some L)
    (x : Sky B (env :: outer) a2 Z L s.heap) (hQ : ∀ h1, HandSPX.HeldZ B (env :: outer) a2 Z L h1 → s.heap.UpToSlots h1 → Q () { s with heap := h1 }) : wpAny M A (noteFrame (.ref a2) env) Q E1 s := by
  rcases x with ⟨g1, g2, g3, oe, vs, g4, g5, g6, g7⟩ | fl | hh
  · exact PXN.look_newZ hZ hfr g3 hf g4 g1 g2 g6 g7 g5 hQ
  · exact PXN.looks_onZ hZ hfr hf fl hQ
  · exact HandSPX.againZ hf hh.2.2.2 (hQ s.heap hh (Heap.UpToSlots.refl _))
/-- what follows where a named clause's suite lets an exception out -/
def Outs (X : Cx) (a : Addr) (n : Str) (pos : Pos) (u : Value) (sx : Shared) : Prop :=
  wpAny (model X.prog X.w) (X.A.mark (some (.ref a))) (noteFrame u X.env) (fun _ s3 => wpAny (model X.prog X.w) (X.A.mark (some (.ref a))) (do bindName X.env n .none; unbindBehindTheSuite X.env n pos)
    (fun _ s4 => wpAny (model X.prog X.w) (X.A.mark (some (.ref a))) (PySem.passOn "try.except-as" u X.env : Sem Flow) (fun _ _ => False) (notedBy (model X.prog X.w) (X.A.mark (some (.ref a))) X.env (cameBackBy (model X.prog X.w) X.A X.env X.xe)) s4)
    (fun y s4 => wpAny (model X.prog X.w) (X.A.mark (some (.ref a))) (setFlight u none) (fun _ s5 => (notedBy (model X.prog X.w) (X.A.mark (some (.ref a))) X.env (cameBackBy (model X.prog X.w) X.A X.env X.xe)) y s5) (notedBy (model X.prog X.w) (X.A.mark (some (.ref a))) X.env (cameBackBy (model X.prog X.w) X.A X.env X.xe)) s4) s3)
    (notedBy (model X.prog X.w) (X.A.mark (some (.ref a))) X.env (cameBackBy (model X.prog X.w) X.A X.env X.xe)) sx
theorem tak_suiteG {i : Nat} {n : Str} {pos : Pos} (hs : X.stack = X.env :: X.outer) (hf : X.env.frame = some X.env.locals) (hN : X.N.Nodup) (hi : X.N[i]? = some n) (hl : X.env.kindOf n = some .local) (ok : X.Ok) (tk : Tak X W) (hW : ∀ cls d σ H, W cls d σ H → W cls d (σ.set i none) H) :
    Tak (SxG X a (q :: (ch ++ (X.pn ++ pins))) (Outs X a n pos)) W := fun u sx xx => by
  obtain ⟨a2, B, si, pn2, σ2, H2, cls, d, rfl, I2, nb, up, sky, na, os, ag, w⟩ := xx
  have I : Inv X pins σ2 H2 si := leave_suiteG I2 ok
  have hfr : (X.A.mark (some (.ref a))).frames = some (X.env :: X.outer) := by
    have z := ok.frames
    rw [hs] at z
    exact z
  have sky2 : Sky B (X.env :: X.outer) a2 (Zk B H2 cls d) X.env.locals sx.heap := by
    rw [← hs]
    exact sky
  show wpAny _ _ (noteFrame (.ref a2) X.env) _ _ sx
  refine sky_held zk_steady hfr hf sky2 fun h1 hh up1 => ?_
  have J1 : Inv X pins σ2 H2 { sx with heap := h1 } := I.landed nb hh.1 (up.trans up1) os ag
  refine gone2 J1 hN hi hl fun h7 J7 sb oL => ?_
  have inL : X.env.locals ∈ frs (X.env :: X.outer) := List.mem_filterMap.mpr ⟨X.env, List.mem_cons_self, hf⟩
  have BL : B.get? X.env.locals = none := (hh.2.2.1.mem inL).1
  have st7 : B.StaysIn h7 := fun b o e => (sb.2 b (fun z => by rw [z, BL] at e; cases e)).trans (hh.1 b o e)
  have ff7 : ∀ l : List Env, h1.FunFrames B l → h7.FunFrames B l := fun l => by
    induction l with
    | nil => intro _; trivial
    | cons e r ih =>
      intro hl2
      obtain ⟨k1, ⟨L, o, k2, k3, k4, k5⟩, k6⟩ := hl2
      by_cases z : L = X.env.locals
      · obtain ⟨o2, k7, k8⟩ := oL
        exact ⟨k1, ⟨L, o2, k2, k3, by rw [z]; exact k7, k8⟩, ih k6⟩
      · exact ⟨k1, ⟨L, o, k2, k3, (sb.2 L z).trans k4, k5⟩, ih k6⟩
  have held7 : HandSPX.HeldZ B (X.env :: X.outer) a2 (Zk B H2 cls d) X.env.locals h7 := by
    obtain ⟨_, g2, g3, oe, vs, T, oT, ts, ge, gz, gd, g1, gn, gne, gT, gdT, g33⟩ := hh
    have noF : ∀ {x : Addr} {o : Obj} {ws : Array Value}, h1.get? x = some o → o.data = .fields ws → x ≠ X.env.locals := fun {x o ws} e dd z => by
      obtain ⟨_, o2, e2, hnf⟩ := g3.mem inL
      rw [z, e2] at e
      cases e
      exact hnf _ dd
    exact ⟨st7, g2, ff7 _ g3, oe, vs, T, oT, ts, (sb.2 a2 (noF ge gd)).trans ge, gz, gd, g1, gn, gne, (sb.2 T (noF gT gdT)).trans gT, gdT, g33⟩
  obtain ⟨G, IG, GO, GB⟩ := part hs hf I nb st7 J7
  -- passed on, noted again, back
  have flight : ∀ {A : Around} {E1 : Value → Shared → Prop} {Q : Unit → Shared → Prop} {h : Heap} {tk0 : Nat}, HandSPX.HeldZ B (X.env :: X.outer) a2 (Zk B H2 cls d) X.env.locals h → (∀ h2, HandSPX.HeldZ B (X.env :: X.outer) a2 (Zk B H2 cls d) X.env.locals h2 → h.UpToSlots h2 → Q () { sx with heap := h2, toks := tk0 }) →
      wpAny (model X.prog X.w) A (setFlight (.ref a2) X.env.frame) Q E1 { sx with heap := h, toks := tk0 } := fun {A E1 Q h tk0} hd k => by
    rw [hf]
    exact HandSPX.setFlight_onZ hd fun h2 h2d up2 => k h2 h2d up2
  have tb : ∀ {h : Heap}, HandSPX.HeldZ B (X.env :: X.outer) a2 (Zk B H2 cls d) X.env.locals h → ∃ oe vs T, h.get? a2 = some oe ∧ oe.data = .fields vs ∧ vs[1]? = some (.ref T) := fun {h} hd => by
    obtain ⟨_, _, _, oe, vs, T, oT, ts, ge, gz, gd, g1, _⟩ := hd
    exact ⟨oe, vs, T, ge, gd, g1⟩
  unfold PySem.passOn
  obtain ⟨oe, vs, T, ge, gd, g1⟩ := tb held7
  refine wpAny_bind (wpAny_field ge gd g1 ?_)
  rw [if_neg (show ¬ ((Value.ref T == Value.none) = true) from by simp)]
  refine wpAny_bind (flight held7 fun h8 held8 up8 => wpAny_throw ?_)
  show wpAny _ _ (noteFrame (.ref a2) X.env) _ _ _
  refine HandSPX.againZ hf held8.2.2.2 ?_
  show wpAny _ _ _ _ _ _
  obtain ⟨oe8, vs8, T8, ge8, gd8, g18⟩ := tb held8
  refine wpAny_bind (wpAny_field ge8 gd8 g18 ?_)
  rw [if_neg (show ¬ ((Value.ref T8 == Value.none) = true) from by simp)]
  refine flight held8 fun h9 held9 up9 => tk _ _ ?_
  refine ⟨a2, B, ⟨G, sx.gens, sx.drawn, sx.toks + 1, sx.os⟩, pins, σ2.set i none, H2, cls, d, rfl, IG, GB, ?_, .inr (.inr (by rw [hs]; exact held9)), na, rfl, ag, hW _ _ _ _ w⟩
  exact (Heap.UpToSlots.of_keeps GO).trans (up8.trans up9)
/-- the same state at a named clause's entry -/
theorem enterG {pn : List (Addr × Obj)} (S : Inv (Sx X a pn) [] σ H s) : Inv (SxG X a pn G0) [] σ H s :=
  ⟨⟨S.ok.mod, S.ok.kind, S.ok.glob, S.ok.blt, S.ok.above, S.ok.inj, S.ok.has, S.ok.cab, S.ok.hd, S.ok.frames, S.ok.stk, S.ok.exf, S.ok.bs, S.ok.bsz, S.ok.noex, S.ok.exfs, S.ok.funs, S.ok.frf⟩, S.os, S.bare, S.base, S.loc, S.cell, S.free, S.freeC, S.pin, S.hok, S.len⟩
end
section
variable {X : Cx} {x n : Str} {c : Value} {i : Nat} {body suite : List Stmt} {b0 : Stmt} {np pos pos' : Pos} {tb : WX → TS} {ts : Addr → Value → Option Addr → TS} {Wout : WX}
theorem ps_tryO (hs : X.stack = X.env :: X.outer) (hf : X.env.frame = some X.env.locals) (hc : Names X x c) (hpa : ∀ hd : Option Value, PassesOwnAt (model X.prog X.w) (X.A.mark hd) X.A X.env X.xe) (tk : Tak X Wout)
    (hb : ∀ (W : WX) (pn : List (Addr × Obj)) (xe : Value → Shared → Prop), Tak (X.tr pn xe) W → PassesOwn (model X.prog X.w) X.A X.env xe → PSs (X.tr pn xe) body (tb W))
    (hsu : ∀ (a : Addr) (oe : Obj) (cls : Value) (d : Option Addr) (pn : List (Addr × Obj)), Zc cls d oe → (∃ vs, oe.data = .fields vs) → (a, oe) ∈ pn → Tak (Sx X a pn) Wout → HotK (Sx X a pn) → PSs (Sx X a pn) (b0 :: suite) (ts a cls d)) :
    PS X (.Try body [.ExceptHandler (some (.Name x np)) (none) (b0 :: suite) pos'] [] [] pos) (fun D σ H => tb (wOnly X.K c ts Wout D) D σ H) := by
  refine ⟨fun pins s σ H D I h => ?_⟩
  have ok := I.ok
  refine wpAny_Try_except ?_
  refine wpAny_mono ((hb (wOnly X.K c ts Wout D) (X.pn ++ pins) (fun e s1 => wpAny (model X.prog X.w) X.A (noteFrame e X.env) (fun _ s2 => wpAny (model X.prog X.w) X.A (setFlight e none) (fun _ s3 =>
    wpAny (model X.prog X.w) X.A (handleBy e X.env [.ExceptHandler (some (.Name x np)) (none) (b0 :: suite) pos']) (SP X pins D) X.xe s3) X.xe s2) X.xe s1) (fun u sx xx => ?_) PassesOwn.looking).run [] s σ H D (I.toTry _) h) (fun f s1 hsp => ?_) (fun e s1 he => he)
  · obtain ⟨a, B, si, pins2, σ2, H2, cls, d, rfl, J2, nb, up, sky, na, os, ag, b, hb1, hyes, hno⟩ := xx
    have J : Inv X pins σ2 H2 si := J2.ofTry ok
    refine caught hs hf (J := J) nb up sky na os ag fun h3 up3 fl3 J3 => ?_
    obtain ⟨oe3, vs3, he3, hz3, hd3⟩ := fl3.there
    refine wpAny_handleBy_cons (codeAny_handlers_test ?_) (by intro q; cases q)
    have LT : PySem.W.Looks (model X.prog X.w) h3 (typeOf (.ref a)) cls := fun A Q E s k q => wpAny_typeOf_ref (k _ _ he3) (by rw [hz3.1]; exact q)
    have LM := PySem.W.exm_one (M := model X.prog X.w) (J3.kIn) LT hb1
    refine named_at J3 hc _ (LM.here ?_)
    cases b with
    | true =>
      refine codeAny_handlers_suite ?_
      refine HandSPX.lands_againZ fl3 fun h4 fl4 up4 => ?_
      have J4 : Inv X pins σ2 H2 { sx with heap := h4 } := J.landed nb fl4.1 ((up.trans up3).trans up4) os ag
      obtain ⟨oe4, vs4, he4, hz4, hd4⟩ := fl4.there
      obtain ⟨ch, S4, hot⟩ := enter hs hf J4 fl4 he4 hz4 hd4 na
      have tkS : Tak (Sx X a ((a, oe4) :: (ch ++ (X.pn ++ pins)))) Wout := tak_suite tk ok
      refine wpAny_mono ((hsu a oe4 cls d _ (zk_zc hz4) ⟨_, hd4⟩ List.mem_cons_self tkS hot).run [] _ _ H2 _ S4 (hyes rfl a na)) (fun f s6 hsp => ?_) (fun e6 s6 z => hpa (some (.ref a)) e6 s6 z)
      cases f with
      | next =>
        obtain ⟨σ6, H6, S6, q6⟩ := hsp
        exact ⟨_, _, leave_suite S6 ok, q6⟩
      | brk =>
        obtain ⟨σ6, H6, S6, q6⟩ := hsp
        exact ⟨_, _, leave_suite S6 ok, q6⟩
      | cont =>
        obtain ⟨σ6, H6, S6, q6⟩ := hsp
        exact ⟨_, _, leave_suite S6 ok, q6⟩
      | ret u =>
        obtain ⟨v6, σ6, H6, S6, r6, q6⟩ := hsp
        exact ⟨_, _, _, leave_suite S6 ok, r6, q6⟩
    | false => exact fly_on hs hf tk J nb (up.trans up3) fl3 na os ag (hno rfl)
  · cases f <;> exact tried hsp ok
theorem ps_tryA (hs : X.stack = X.env :: X.outer) (hf : X.env.frame = some X.env.locals) (hN : X.N.Nodup) (hi : X.N[i]? = some n) (hln : X.env.kindOf n = some .local) (hc : Names X x c) (tk : Tak X Wout) (hW : ∀ cls d σ H, Wout cls d σ H → Wout cls d (σ.set i none) H)
    (hb : ∀ (W : WX) (pn : List (Addr × Obj)) (xe : Value → Shared → Prop), Tak (X.tr pn xe) W → PassesOwn (model X.prog X.w) X.A X.env xe → PSs (X.tr pn xe) body (tb W))
    (hsu : ∀ (a : Addr) (oe : Obj) (cls : Value) (d : Option Addr) (pn : List (Addr × Obj)), Zc cls d oe → (∃ vs, oe.data = .fields vs) → (a, oe) ∈ pn → Tak (SxG X a pn (Outs X a n pos')) Wout → HotK (SxG X a pn (Outs X a n pos')) → PSs (SxG X a pn (Outs X a n pos')) (b0 :: suite) (ts a cls d)) :
    PS X (.Try body [.ExceptHandler (some (.Name x np)) (some n) (b0 :: suite) pos'] [] [] pos) (fun D σ H => tb (wAs X.K c i ts Wout D) D σ H) := by
  refine ⟨fun pins s σ H D I h => ?_⟩
  have ok := I.ok
  refine wpAny_Try_except ?_
  refine wpAny_mono ((hb (wAs X.K c i ts Wout D) (X.pn ++ pins) (fun e s1 => wpAny (model X.prog X.w) X.A (noteFrame e X.env) (fun _ s2 => wpAny (model X.prog X.w) X.A (setFlight e none) (fun _ s3 =>
    wpAny (model X.prog X.w) X.A (handleBy e X.env [.ExceptHandler (some (.Name x np)) (some n) (b0 :: suite) pos']) (SP X pins D) X.xe s3) X.xe s2) X.xe s1) (fun u sx xx => ?_) PassesOwn.looking).run [] s σ H D (I.toTry _) h) (fun f s1 hsp => ?_) (fun e s1 he => he)
  · obtain ⟨a, B, si, pins2, σ2, H2, cls, d, rfl, J2, nb, up, sky, na, os, ag, b, hb1, hyes, hno⟩ := xx
    have J : Inv X pins σ2 H2 si := J2.ofTry ok
    refine caught hs hf (J := J) nb up sky na os ag fun h3 up3 fl3 J3 => ?_
    obtain ⟨oe3, vs3, he3, hz3, hd3⟩ := fl3.there
    refine wpAny_handleBy_cons (codeAny_handlers_test ?_) (by intro q; cases q)
    have LT : PySem.W.Looks (model X.prog X.w) h3 (typeOf (.ref a)) cls := fun A Q E s k q => wpAny_typeOf_ref (k _ _ he3) (by rw [hz3.1]; exact q)
    have LM := PySem.W.exm_one (M := model X.prog X.w) (J3.kIn) LT hb1
    refine named_at J3 hc _ (LM.here ?_)
    cases b with
    | true =>
      refine codeAny_handlers_suite_as ?_
      refine HandSPX.lands_againZ fl3 fun h4 fl4 up4 => ?_
      have J4 : Inv X pins σ2 H2 { sx with heap := h4 } := J.landed nb fl4.1 ((up.trans up3).trans up4) os ag
      obtain ⟨oe4, vs4, he4, hz4, hd4⟩ := fl4.there
      obtain ⟨ch, S4, hot⟩ := enter hs hf J4 fl4 he4 hz4 hd4 na
      have tkS : Tak (SxG X a ((a, oe4) :: (ch ++ (X.pn ++ pins))) (Outs X a n pos')) Wout := tak_suiteG hs hf hN hi hln ok tk hW
      refine store_ok (X := SxG X a ((a, oe4) :: (ch ++ (X.pn ++ pins))) (Outs X a n pos')) (v := .ref a) (enterG S4) hN hi (.inl hln) rfl (fun s5 S5 => ?_) (.inr hln)
      refine wpAny_mono ((hsu a oe4 cls d _ (zk_zc hz4) ⟨_, hd4⟩ List.mem_cons_self tkS hot).run [] s5 _ H2 _ S5 (hyes rfl a na)) (fun f s6 hsp => ?_) (fun e6 s6 z => z)
      have ending : ∀ {σ6 : L2.St} {H6 : Hp} {Q : Shared → Prop}, Inv (SxG X a ((a, oe4) :: (ch ++ (X.pn ++ pins))) (Outs X a n pos')) [] σ6 H6 s6 → (∀ s7, Inv X pins (σ6.set i none) H6 s7 → Q s7) →
          wpAny (model X.prog X.w) X.A (do bindName X.env n .none; unbindBehindTheSuite X.env n pos') (fun _ s7 => Q s7) X.xe s6 := fun {σ6 H6 Q} S6 hq => gone_ok (leave_suiteG S6 ok) hN hi hln hq
      cases f with
      | next =>
        obtain ⟨σ6, H6, S6, q6⟩ := hsp
        exact ending S6 fun s7 J7 => ⟨_, _, J7, q6⟩
      | brk =>
        obtain ⟨σ6, H6, S6, q6⟩ := hsp
        exact ending S6 fun s7 J7 => ⟨_, _, J7, q6⟩
      | cont =>
        obtain ⟨σ6, H6, S6, q6⟩ := hsp
        exact ending S6 fun s7 J7 => ⟨_, _, J7, q6⟩
      | ret u =>
        obtain ⟨v6, σ6, H6, S6, r6, q6⟩ := hsp
        exact ending S6 fun s7 J7 => ⟨_, _, _, J7, r6, q6⟩
    | false => exact fly_on hs hf tk J nb (up.trans up3) fl3 na os ag (hno rfl)
  · cases f <;> exact tried hsp ok
end
end LcX
set_option Elab.async false
set_option linter.all false
set_option maxRecDepth 100000
set_option maxHeartbeats 4000000
/-! Expressions: what the plain mirror says is what the machine does. -/
namespace Lc
open PySem PySem.Spec PyProof.Rows L2 LcX
/-- an exception in the air is the plain one -/
def XIs (t : Tx) (F : Hp) (ads : List Addr) (H : Hp) (x : Xn) (cls : Value) (dd : Option Addr) : Prop :=
  cls = .ref (t.xad x.c) ∧ (t.xfn x.c).length = x.ds.length ∧ (x.ds = [] ∨ ∃ d fs vs, dd = some d ∧ H d = some (.xd fs) ∧ d ∉ ads ∧ IsL t F x.ds vs ∧ ∀ (i : Nat) f v, (t.xfn x.c)[i]? = some f → vs[i]? = some v → fs.lookup f = some v)
/-- what follows a result -/
def Kg {α β : Type} (t : Tx) (P : Hp → List Addr → α → β → Prop) (W : XK) (ads : List Addr) (F H : Hp) (r : Ro α) (Q : β → Hp → Prop) : Prop := match r with
  | .ok a M' => ∀ ads' F' H' b, Stp ads F H ads' F' H' → Rel t ads' F' M' H' → P F' ads' a b → Q b H'
  | .ex x M' => ∀ ads' F' H' cls dd, Stp ads F H ads' F' H' → Rel t ads' F' M' H' → XIs t F' ads' H' x cls dd → (∀ d, dd = some d → H d = none) → W cls dd H'
  | .no => False
abbrev Kt (t : Tx) := Kg (α := R) (β := V) t (IsR t)
abbrev Kl (t : Tx) := Kg (α := List R) (β := List V) t (IsRs t)
abbrev Kb (t : Tx) := Kg (α := Bool) (β := Bool) t (fun _ _ a b => a = b)
section
variable {t : Tx} {W : XK} {F F' H H' : Hp} {ads ads' : List Addr} {α β α' β' : Type} {P : Hp → List Addr → α → β → Prop} {P' : Hp → List Addr → α' → β' → Prop} {M : Mem}
theorem Kg.mono {r : Ro α} {Q Q' : β → Hp → Prop} (h : Kg t P W ads F H r Q) (hq : ∀ b H', Q b H' → Q' b H') : Kg t P W ads F H r Q' := by
  cases r with
  | ok a M => exact fun _ _ _ _ s R p => hq _ _ (h _ _ _ _ s R p)
  | ex x M => exact h
  | no => exact h
theorem Kg.step {r : Ro α} {Q : β → Hp → Prop} (s : Stp ads F H ads' F' H') (h : Kg t P W ads F H r Q) : Kg t P W ads' F' H' r Q := by
  cases r with
  | ok a M => exact fun _ _ _ _ s2 R p => h _ _ _ _ (s.trans s2) R p
  | ex x M => exact fun _ _ _ _ _ s2 R p hd => h _ _ _ _ _ (s.trans s2) R p fun d e => s.th d (hd d e)
  | no => exact h
/-- where a step has come to -/
def At (t : Tx) (P' : Hp → List Addr → α' → β' → Prop) (ads : List Addr) (F H : Hp) (b : β') (H1 : Hp) (Z : List Addr → Hp → Mem → α' → Prop) : Prop :=
  ∃ ads1 F1 a M1, Stp ads F H ads1 F1 H1 ∧ Rel t ads1 F1 M1 H1 ∧ P' F1 ads1 a b ∧ Z ads1 F1 M1 a
theorem Kg.split {r : Ro α'} {k : α' → Mem → Ro α} {Q : β → Hp → Prop} (h : Kg t P W ads F H (r.bind k) Q) :
    Kg t P' W ads F H r (fun b H1 => At t P' ads F H b H1 fun ads1 F1 M1 a => Kg t P W ads1 F1 H1 (k a M1) Q) := by
  cases r with
  | ok a M => exact fun ads1 F1 H1 b s R p => ⟨ads1, F1, a, M, s, R, p, Kg.step s h⟩
  | ex x M => exact h
  | no => exact h
theorem Kg.ok {a : α} {b : β} {Q : β → Hp → Prop} (h : Kg t P W ads F H (.ok a M) Q) (R : Rel t ads F M H) (p : P F ads a b) : Q b H := h _ _ _ _ .refl R p
end
/-! ### the judgements' readings -/
/-- what stands in the hidden slots -/
def Hid (hs : List (Nat × V)) (σ : L2.St) : Prop := ∀ p ∈ hs, σ[p.1]? = some (some p.2)
/-- a caught exception: its slot, its place, its dict, what it is -/
structure Xf where
  i : Nat
  a : Addr
  d : Addr
  x : Xn
/-- what is wished of exceptions; what is caught here -/
structure Wk where
  w : WX
  xs : List Xf := []
def XfOk (t : Tx) (F : Hp) (σ : L2.St) (p : Xf) : Prop := σ[p.i]? = some (some (.ref p.a)) ∧ ∃ fs vs, F p.d = some (.xd fs) ∧ IsL t F p.x.ds vs ∧ ∀ (j : Nat) f v, (t.xfn p.x.c)[j]? = some f → vs[j]? = some v → fs.lookup f = some v
theorem XfOk.mono {t : Tx} {F F' : Hp} {σ : L2.St} {p : Xf} (m : Fx F F') (h : XfOk t F σ p) : XfOk t F' σ p := by
  obtain ⟨h1, fs, vs, h2, h3, h4⟩ := h
  exact ⟨h1, fs, vs, m _ _ h2, IsL.mono m _ h3, h4⟩
structure Fr (t : Tx) (W : Wk) (σ : L2.St) (H : Hp) (ads : List Addr) (F : Hp) (env : Env) (M : Mem) : Prop where
  rel : Rel t ads F M H
  env : EnvR t F ads env σ
  xt : ∀ p ∈ W.xs, XfOk t F σ p
def tG {α β : Type} (t : Tx) (W : Wk) (P : Hp → List Addr → α → β → Prop) (f : Env → Mem → Ro α) : L2.St → Hp → (β → Hp → Prop) → Prop := fun σ H Q =>
  ∃ ads F env M, Fr t W σ H ads F env M ∧ Kg t P (WE W.w σ) ads F H (f env M) Q
abbrev tE (t : Tx) (W : Wk) (f : E) : TE := tG t W (IsR t) f
abbrev tEs (t : Tx) (W : Wk) (f : Es) : TA := tG t W (IsRs t) f
abbrev tBo (t : Tx) (W : Wk) (f : B) : TT := tG t W (fun _ _ a b => a = b) f
theorem PE.imp {X : Cx} {e : Expr} {t t' : TE} (h : PE X e t) (f : ∀ σ H Q, t' σ H Q → t σ H Q) : PE X e t' := ⟨fun pins s σ H Q I q => h.run pins s σ H Q I (f _ _ _ q)⟩
theorem PT.imp {X : Cx} {e : Expr} {t t' : TT} (h : PT X e t) (f : ∀ σ H Q, t' σ H Q → t σ H Q) : PT X e t' := ⟨fun pins s σ H Q I q => h.run pins s σ H Q I (f _ _ _ q)⟩
theorem PW.imp {X : Cx} {e : Expr} {t t' : TT} (h : PW X e t) (f : ∀ σ H Q, t' σ H Q → t σ H Q) : PW X e t' := ⟨fun wh pins s σ H Q I q => h.run wh pins s σ H Q I (f _ _ _ q)⟩
theorem PA.imp {X : Cx} {es : List Expr} {t t' : TA} (h : PA X es t) (f : ∀ σ H Q, t' σ H Q → t σ H Q) : PA X es t' := ⟨fun pos pins s σ H Q I q => h.run pos pins s σ H Q I (f _ _ _ q)⟩
theorem PS.imp {X : Cx} {e : Stmt} {t t' : TS} (h : PS X e t) (f : ∀ D σ H, t' D σ H → t D σ H) : PS X e t' := ⟨fun pins s σ H D I q => h.run pins s σ H D I (f _ _ _ q)⟩
theorem PSs.imp {X : Cx} {e : List Stmt} {t t' : TS} (h : PSs X e t) (f : ∀ D σ H, t' D σ H → t D σ H) : PSs X e t' := ⟨fun pins s σ H D I q => h.run pins s σ H D I (f _ _ _ q)⟩
section
variable {t : Tx} {W : Wk} {σ : L2.St} {H : Hp} {α β α' β' : Type} {P : Hp → List Addr → α → β → Prop} {P' : Hp → List Addr → α' → β' → Prop}
theorem Fr.step {H H1 : Hp} {ads ads1 : List Addr} {F F1 : Hp} {env : Env} {M M1 : Mem} (f : Fr t W σ H ads F env M) (s : Stp ads F H ads1 F1 H1) (r : Rel t ads1 F1 M1 H1) : Fr t W σ H1 ads1 F1 env M1 := ⟨r, f.env.mono s.mon, fun p hp => (f.xt p hp).mono s.ex⟩
/-- from a bind to the first part, then the rest from there -/
theorem Fr.bind {ads : List Addr} {F : Hp} {env : Env} {M : Mem} {f : Env → Mem → Ro α'} {k : α' → Mem → Ro α} {Q : β → Hp → Prop} (fr : Fr t W σ H ads F env M) (h : Kg t P (WE W.w σ) ads F H ((f env M).bind k) Q) {Q1 : β' → Hp → Prop}
    (hq : ∀ ads1 F1 M1 b H1, Fr t W σ H1 ads1 F1 env M1 → Mon F F1 ads ads1 → ∀ a, P' F1 ads1 a b → Kg t P (WE W.w σ) ads1 F1 H1 (k a M1) Q → Q1 b H1) : tG t W P' f σ H Q1 := by
  refine ⟨ads, F, env, M, fr, Kg.mono (Kg.split (P' := P') h) fun b H1 z => ?_⟩
  obtain ⟨ads1, F1, a, M1, s, r, p, z⟩ := z
  exact hq ads1 F1 M1 b H1 (fr.step s r) s.mon a p z
theorem tG.of {f : Env → Mem → Ro α} {Q : β → Hp → Prop} {ads : List Addr} {F : Hp} {env : Env} {M : Mem} (fr : Fr t W σ H ads F env M) (h : Kg t P (WE W.w σ) ads F H (f env M) Q) : tG t W P f σ H Q := ⟨ads, F, env, M, fr, h⟩
end
/-! ### fresh things -/
def pureR : R → Option D
  | .d d => some d
  | .ref _ => none
def pureRs : List R → Option (List D)
  | [] => some []
  | r :: rs => match pureR r, pureRs rs with
    | some d, some ds => some (d :: ds)
    | _, _ => none
@[simp] theorem pureRs_nil : pureRs [] = some [] := rfl
@[simp] theorem pureRs_cons (d : D) (rs : List R) : pureRs (.d d :: rs) = (pureRs rs).map (d :: ·) := by
  show (match some d, pureRs rs with
    | some d, some ds => some (d :: ds)
    | _, _ => none) = _
  cases pureRs rs <;> rfl
@[simp] theorem pureRs_map (ds : List D) : pureRs (ds.map .d) = some ds := by
  induction ds with
  | nil => rfl
  | cons d ds ih => simp [ih]
@[simp] theorem pureRs_ref (i : Nat) (rs : List R) : pureRs (.ref i :: rs) = none := rfl
theorem pureRs_some : ∀ {rs : List R} {ds : List D}, pureRs rs = some ds → rs = ds.map .d
  | [], ds, h => by cases h; rfl
  | .ref i :: rs, ds, h => by cases h
  | .d d :: rs, ds, h => by
    rw [pureRs_cons] at h
    cases q : pureRs rs with
    | none => rw [q] at h; cases h
    | some l =>
      rw [q] at h
      cases h
      rw [pureRs_some q]
      rfl
def pureC : Cell → Option D
  | .lst rs => (pureRs rs).map .lst
  | .tup rs => (pureRs rs).map .tup
  | .dct ks rs => (pureRs rs).map (.dct ks)
  | .obj c rs => (pureRs rs).map (.obj c)
  | .frz d => some d
/-- a new thing: a cell if it is to change or holds cells, else data -/
def mk (cell : Bool) (c : Cell) (M : Mem) : Ro R := if cell then .ok (.ref M.length) (M ++ [c]) else match pureC c with
  | some d => .ok (.d d) M
  | none => .ok (.ref M.length) (M ++ [c])
@[simp] theorem mk_cell (c : Cell) (M : Mem) : mk true c M = .ok (.ref M.length) (M ++ [c]) := rfl
@[simp] theorem mk_lst (ds : List D) (M : Mem) : mk false (.lst (ds.map .d)) M = .ok (.d (.lst ds)) M := by simp [mk, pureC]
@[simp] theorem mk_tup (ds : List D) (M : Mem) : mk false (.tup (ds.map .d)) M = .ok (.d (.tup ds)) M := by simp [mk, pureC]
/-- the heap's object for a new cell -/
def New (t : Tx) (F : Hp) (ads : List Addr) : Cell → HO → Prop
  | .lst rs, o => ∃ vs, o = .lst vs ∧ IsRs t F ads rs vs
  | .tup rs, o => ∃ vs, o = .tup vs ∧ IsRs t F ads rs vs
  | .dct ks rs, o => ∃ kvs, o = .dK kvs ∧ (∀ k ∈ kvs, keyOk k.1) ∧ ks = kvs.map (fun k => keyD k.1) ∧ IsRs t F ads rs (kvs.map (·.2))
  | _, _ => False
section
variable {t : Tx} {F H : Hp} {ads : List Addr} {M : Mem} {c : Cell} {o : HO} {p : Addr}
theorem Rel.noF (Rr : Rel t ads F M H) (hn : H p = none) : F p = none := by
  cases q : F p with
  | none => rfl
  | some u =>
    have z := Rr.ex _ _ q
    rw [hn] at z
    cases z
theorem CellOk.there {a : Addr} (h : CellOk t F ads H a c) (m : Fx F H) : H a ≠ none ∨ ∃ d, c = .frz d := by
  cases c with
  | frz d => exact .inr ⟨d, rfl⟩
  | lst rs => obtain ⟨_, vs, e, _⟩ := h; exact .inl (by rw [e]; exact fun z => by cases z)
  | tup rs => obtain ⟨_, vs, e, _⟩ := h; exact .inl (by rw [e]; exact fun z => by cases z)
  | dct ks rs => obtain ⟨_, vs, e, _⟩ := h; exact .inl (by rw [e]; exact fun z => by cases z)
  | obj k rs => obtain ⟨_, dx, vs, e, _⟩ := h; exact .inl (by rw [e]; exact fun z => by cases z)
/-- every cell's place is taken, or it is one of the module's own things -/
theorem CellOk.keep {a : Addr} {H' F' : Hp} {ads' : List Addr} (h : CellOk t F ads H a c) (m : Mon F F' ads ads') (k : ∀ u, H a = some u → H' a = some u) (kf : F a = none → ∀ u, H a = some u → F' a = none) : CellOk t F' ads' H' a c := by
  cases c with
  | frz d => exact Is.mono m.ex d h
  | lst rs => obtain ⟨z0, vs, z1, z2⟩ := h; exact ⟨kf z0 _ z1, vs, k _ z1, z2.mono m⟩
  | tup rs => obtain ⟨z0, vs, z1, z2⟩ := h; exact ⟨kf z0 _ z1, vs, k _ z1, z2.mono m⟩
  | dct ks rs => obtain ⟨z0, kvs, z1, z2, z3, z4⟩ := h; exact ⟨kf z0 _ z1, kvs, k _ z1, z2, z3, z4.mono m⟩
  | obj k2 rs => obtain ⟨z0, dx, vs, z1, z2, z3⟩ := h; exact ⟨kf z0 _ z1, dx, vs, k _ z1, z2, z3.mono m⟩
/-- a fresh thing as a cell -/
theorem Rel.newC (Rr : Rel t ads F M H) (hn : H p = none) (hc : CellOk t F (ads ++ [p]) (upd H p o) p c) : Rel t (ads ++ [p]) F (M ++ [c]) (upd H p o) ∧ Stp ads F H (ads ++ [p]) F (upd H p o) := by
  have m : Mon F F ads (ads ++ [p]) := ⟨fun _ _ z => z, [p], rfl⟩
  have hp : p ∉ ads := fun z => Rr.th p z hn
  refine ⟨⟨fun b u e => ?_, ?_, by simp [Rr.ln], fun b hb => ?_, fun i c' b e1 e2 => ?_⟩, fun _ _ z => z, ⟨[p], rfl, fun a ha => by cases (List.mem_singleton.mp ha); exact hn⟩, fun b h1 h2 => absurd h1 h2, fun b u e _ => ?_, fun b e => ?_⟩
  · have z := Rr.ex _ _ e
    rw [upd_ne (ne_of_none z hn)]
    exact z
  · refine List.nodup_append.mpr ⟨Rr.nd, by simp, fun a ha b hb => ?_⟩
    cases (List.mem_singleton.mp hb)
    exact fun z => hp (z ▸ ha)
  · rcases List.mem_append.mp hb with z | z
    · rw [upd_ne (fun (y : b = p) => hp (by rw [← y]; exact z))]
      exact Rr.th b z
    · cases (List.mem_singleton.mp z)
      rw [upd_same]
      exact fun z => by cases z
  · by_cases hi : i < M.length
    · rw [List.getElem?_append_left hi] at e1
      rw [List.getElem?_append_left (by rw [Rr.ln]; exact hi)] at e2
      exact (Rr.ok i c' b e1 e2).keep m (fun u e => by rw [upd_ne (ne_of_none e hn)]; exact e) fun z _ _ => z
    · have h1 : i = M.length := by
        have q := (List.getElem?_eq_some_iff.mp e1).1
        simp at q
        omega
      subst h1
      rw [List.getElem?_append_right (Nat.le_refl _)] at e1
      rw [← Rr.ln, List.getElem?_append_right (Nat.le_refl _)] at e2
      simp at e1 e2
      subst e1 e2
      exact hc
  · rw [upd_ne (ne_of_none e hn)]
    exact e
  · by_cases hb : b = p
    · subst hb; exact hn
    · rw [upd_ne hb] at e; exact e
theorem New.ok {c : Cell} (fp : F p = none) (h : New t F ads c o) (hn : H p = none) : CellOk t F (ads ++ [p]) (upd H p o) p c := by
  have m : Mon F F ads (ads ++ [p]) := ⟨fun _ _ z => z, [p], rfl⟩
  cases c with
  | lst rs => obtain ⟨vs, rfl, h⟩ := h; exact ⟨fp, vs, upd_same, h.mono m⟩
  | tup rs => obtain ⟨vs, rfl, h⟩ := h; exact ⟨fp, vs, upd_same, h.mono m⟩
  | dct ks rs => obtain ⟨kvs, rfl, h1, h2, h⟩ := h; exact ⟨fp, kvs, upd_same, h1, h2, h.mono m⟩
  | obj k rs => exact h.elim
  | frz d => exact h.elim
theorem New.pure {c : Cell} {d : D} (h : New t F ads c o) (hd : pureC c = some d) (fp : F p = none) : Is t (upd F p o) d (.ref p) := by
  have fx : Fx F (upd F p o) := fun b u e => by rw [upd_ne (ne_of_none e fp)]; exact e
  have go : ∀ {rs : List R} {ds : List D} {vs : List V}, pureRs rs = some ds → IsRs t F ads rs vs → IsL t (upd F p o) ds vs := fun {rs ds vs} e q => by
    rw [pureRs_some e] at q
    exact IsL.mono fx _ (isL_iff.mpr (isRs_map.mp q))
  cases c with
  | lst rs =>
    obtain ⟨vs, rfl, h⟩ := h
    cases q : pureRs rs with
    | none => simp [pureC, q] at hd
    | some ds =>
      simp [pureC, q] at hd
      subst hd
      unfold Is
      exact ⟨p, vs, rfl, .inl upd_same, go q h⟩
  | tup rs =>
    obtain ⟨vs, rfl, h⟩ := h
    cases q : pureRs rs with
    | none => simp [pureC, q] at hd
    | some ds =>
      simp [pureC, q] at hd
      subst hd
      unfold Is
      exact ⟨p, vs, rfl, SqT.of upd_same, go q h⟩
  | dct ks rs =>
    obtain ⟨kvs, rfl, h1, h2, h⟩ := h
    cases q : pureRs rs with
    | none => simp [pureC, q] at hd
    | some ds =>
      simp [pureC, q] at hd
      subst hd
      unfold Is
      exact ⟨p, kvs, rfl, .inl upd_same, h1, h2, go q h⟩
  | obj k rs => exact h.elim
  | frz d => exact h.elim
theorem Kg.made {W : XK} {cell : Bool} {Q : VK} (Rr : Rel t ads F M H) (hn : H p = none) (h : New t F ads c o) (k : Kt t W ads F H (mk cell c M) Q) : Q (.ref p) (upd H p o) := by
  have fp := Rr.noF hn
  have viaCell : Kt t W ads F H (.ok (.ref M.length) (M ++ [c])) Q → Q (.ref p) (upd H p o) := fun k => by
    obtain ⟨r, s⟩ := Rr.newC hn (h.ok fp hn)
    refine k _ _ _ _ s r ⟨p, ?_, rfl⟩
    rw [← Rr.ln, List.getElem?_append_right (Nat.le_refl _)]
    simp
  cases cell with
  | true => exact viaCell k
  | false =>
    cases q : pureC c with
    | none =>
      rw [show mk false c M = .ok (.ref M.length) (M ++ [c]) from by simp [mk, q]] at k
      exact viaCell k
    | some d =>
      rw [show mk false c M = .ok (.d d) M from by simp [mk, q]] at k
      obtain ⟨r, s⟩ := Rr.newF (o := o) hn
      exact k _ _ _ _ s r (h.pure q fp)
end
end Lc
set_option Elab.async false
set_option linter.all false
set_option maxRecDepth 100000
set_option maxHeartbeats 4000000
/-! Operators, subscripts, tests. -/
namespace Lc
open PySem PySem.Spec PyProof.Rows L2 LcX
theorem SL_eq : SL = sizeLine := by rw [sizeLine_eq]; rfl
/-! ### equality of data -/
mutual
def eqD : D → D → Bool
  | .non, .non => true
  | .bl a, .bl b => a == b
  | .bl a, .int j => (if a then 1 else 0) == j
  | .int i, .bl b => i == (if b then 1 else 0)
  | .int i, .int j => i == j
  | .str x, .str y => x == y
  | .lst xs, .lst ys => eqDs xs ys
  | .tup xs, .tup ys => eqDs xs ys
  | _, _ => false
def eqDs : List D → List D → Bool
  | [], [] => true
  | x :: xs, y :: ys => eqD x y && eqDs xs ys
  | _, _ => false
end
mutual
/-- none, bools, ints, texts, lists and tuples of these -/
def plain : D → Bool
  | .non => true
  | .bl _ => true
  | .int _ => true
  | .str _ => true
  | .lst ds => plains ds
  | .tup ds => plains ds
  | _ => false
def plains : List D → Bool
  | [] => true
  | d :: ds => plain d && plains ds
end
mutual
def dep : D → Nat
  | .lst ds => deps ds + 1
  | .tup ds => deps ds + 1
  | _ => 0
def deps : List D → Nat
  | [] => 0
  | d :: ds => max (dep d) (deps ds)
end
mutual
def toP : D → PyData
  | .non => .none
  | .bl b => .bool b
  | .int i => .int i
  | .str s => .str (st s)
  | .lst ds => .list (toPs ds)
  | .tup ds => .tuple (toPs ds)
  | _ => .none
def toPs : List D → List PyData
  | [] => []
  | d :: ds => toP d :: toPs ds
end
section
variable {t : Tx} {F : Hp}
mutual
theorem Is.dp (m : ∀ a xs, Rd F a (.lst xs) → SqL t.K F a xs) : ∀ (d : D) {v : V}, plain d = true → Is t F d v → Dp t.K F v (toP d)
  | .non, v, _, h => by unfold Is at h; subst h; exact .non
  | .bl b, v, _, h => by unfold Is at h; subst h; exact .bl b
  | .int i, v, _, h => by unfold Is at h; subst h; exact .int i
  | .str s, v, _, h => by unfold Is at h; rw [h.1]; exact .str _
  | .lst ds, v, p, h => by
    unfold Is at h
    obtain ⟨a, vs, rfl, h1, h2⟩ := h
    exact .lst (m _ _ h1) (IsL.dp m ds (by simpa [plain] using p) h2)
  | .tup ds, v, p, h => by
    unfold Is at h
    obtain ⟨a, vs, rfl, h1, h2⟩ := h
    exact .tup h1 (IsL.dp m ds (by simpa [plain] using p) h2)
  | .dct ks vs, v, p, h => by simp [plain] at p
  | .obj c ds, v, p, h => by simp [plain] at p
  | .exc c ds, v, p, h => by simp [plain] at p
theorem IsL.dp (m : ∀ a xs, Rd F a (.lst xs) → SqL t.K F a xs) : ∀ (ds : List D) {vs : List V}, plains ds = true → IsL t F ds vs → DpAll t.K F vs (toPs ds)
  | [], vs, _, h => by unfold IsL at h; subst h; exact .nil
  | d :: ds, vs, p, h => by
    unfold IsL at h
    obtain ⟨v, r, rfl, h1, h2⟩ := h
    have p2 : plain d = true ∧ plains ds = true := by simpa [plains] using p
    exact .cons (Is.dp m d p2.1 h1) (IsL.dp m ds p2.2 h2)
end
mutual
theorem Is.lay : ∀ (d : D) {v : V}, plain d = true → Is t F d v → (toP d).canLay0 = true ∧ (toP d).depth = dep d
  | .non, v, _, h => by simp [toP, PyData.canLay0, PyData.depth, dep]
  | .bl b, v, _, h => by simp [toP, PyData.canLay0, PyData.depth, dep]
  | .int i, v, _, h => by simp [toP, PyData.canLay0, PyData.depth, dep]
  | .str s, v, _, h => by
    unfold Is at h
    have := h.2.2
    refine ⟨?_, by simp [toP, PyData.depth, dep]⟩
    simp [toP, PyData.canLay0, PyData.strOk, st]
    exact this
  | .lst ds, v, p, h => by
    unfold Is at h
    obtain ⟨a, vs, rfl, h1, h2⟩ := h
    obtain ⟨x, y⟩ := IsL.lay ds (by simpa [plain] using p) h2
    simp [toP, PyData.canLay0, PyData.depth, dep, x, y]
  | .tup ds, v, p, h => by
    unfold Is at h
    obtain ⟨a, vs, rfl, h1, h2⟩ := h
    obtain ⟨x, y⟩ := IsL.lay ds (by simpa [plain] using p) h2
    simp [toP, PyData.canLay0, PyData.depth, dep, x, y]
  | .dct ks vs, v, p, h => by simp [plain] at p
  | .obj c ds, v, p, h => by simp [plain] at p
  | .exc c ds, v, p, h => by simp [plain] at p
theorem IsL.lay : ∀ (ds : List D) {vs : List V}, plains ds = true → IsL t F ds vs → PyData.canLayAll0 (toPs ds) = true ∧ PyData.depthAll (toPs ds) = deps ds
  | [], vs, _, h => by simp [toPs, PyData.canLayAll0, PyData.depthAll, deps]
  | d :: ds, vs, p, h => by
    unfold IsL at h
    obtain ⟨v, r, rfl, h1, h2⟩ := h
    have p2 : plain d = true ∧ plains ds = true := by simpa [plains] using p
    obtain ⟨x, y⟩ := Is.lay d p2.1 h1
    obtain ⟨x2, y2⟩ := IsL.lay ds p2.2 h2
    simp [toPs, PyData.canLayAll0, PyData.depthAll, deps, x, y, x2, y2]
end
end
theorem beq_st (a b : T) : (st a == st b) = (a == b) := by
  rw [Bool.eq_iff_iff]
  simp only [beq_iff_eq]
  exact ⟨st_inj, fun e => by rw [e]⟩
mutual
theorem eqv_toP : ∀ (a b : D), plain a = true → plain b = true → PyData.eqv (toP a) (toP b) = eqD a b
  | .lst xs, b, pa, pb => by
    cases b <;> first
      | (simp [plain] at pb; done)
      | (simp only [toP, PyData.eqv, eqD]; done)
      | (simp only [toP, PyData.eqv, eqD]; exact eqvAll_toP xs _ (by simpa [plain] using pa) (by simpa [plain] using pb))
  | .tup xs, b, pa, pb => by
    cases b <;> first
      | (simp [plain] at pb; done)
      | (simp only [toP, PyData.eqv, eqD]; done)
      | (simp only [toP, PyData.eqv, eqD]; exact eqvAll_toP xs _ (by simpa [plain] using pa) (by simpa [plain] using pb))
  | .non, b, pa, pb => by cases b <;> first | (simp [plain] at pb; done) | simp [toP, PyData.eqv, eqD]
  | .bl x, b, pa, pb => by cases b <;> first | (simp [plain] at pb; done) | simp [toP, PyData.eqv, eqD]
  | .int i, b, pa, pb => by cases b <;> first | (simp [plain] at pb; done) | simp [toP, PyData.eqv, eqD]
  | .str s, b, pa, pb => by cases b <;> first | (simp [plain] at pb; done) | simp [toP, PyData.eqv, eqD, beq_st]
  | .dct ks vs, b, pa, pb => by simp [plain] at pa
  | .obj c ds, b, pa, pb => by simp [plain] at pa
  | .exc c ds, b, pa, pb => by simp [plain] at pa
theorem eqvAll_toP : ∀ (xs ys : List D), plains xs = true → plains ys = true → PyData.eqvAll (toPs xs) (toPs ys) = eqDs xs ys
  | [], [], _, _ => by simp [toPs, PyData.eqvAll, eqDs]
  | [], y :: ys, _, _ => by simp [toPs, PyData.eqvAll, eqDs]
  | x :: xs, [], _, _ => by simp [toPs, PyData.eqvAll, eqDs]
  | x :: xs, y :: ys, pa, pb => by
    have p1 : plain x = true ∧ plains xs = true := by simpa [plains] using pa
    have p2 : plain y = true ∧ plains ys = true := by simpa [plains] using pb
    simp [toPs, PyData.eqvAll, eqDs, eqv_toP x y p1.1 p2.1, eqvAll_toP xs ys p1.2 p2.2]
end
/-! ### operators -/
/-- the data of a value -/
def pv (M : Mem) : R → Option D
  | .d d => some d
  | .ref i => match M[i]? with
    | some c => pureC c
    | none => none
@[simp] theorem pv_d (M : Mem) (d : D) : pv M (.d d) = some d := rfl
section
variable {t : Tx} {F H : Hp} {ads : List Addr} {M : Mem}
theorem pureRs_is (m : Fx F H) {rs : List R} {ds : List D} {vs : List V} (e : pureRs rs = some ds) (q : IsRs t F ads rs vs) : IsL t H ds vs := by
  rw [pureRs_some e] at q
  exact IsL.mono m _ (isL_iff.mpr (isRs_map.mp q))
theorem Rel.pv (Rr : Rel t ads F M H) {r : R} {d : D} {v : V} (h : IsR t F ads r v) (e : pv M r = some d) : Is t H d v := by
  cases r with
  | d d' => cases e; exact Is.mono Rr.ex _ h
  | ref i =>
    obtain ⟨a, ha, rfl⟩ := h
    cases hM : M[i]? with
    | none => simp [Lc.pv, hM] at e
    | some c =>
      have e : pureC c = some d := by simpa [Lc.pv, hM] using e
      have hc := Rr.ok i c a hM ha
      cases c with
      | frz d' => cases e; exact Is.mono Rr.ex _ hc
      | lst rs =>
        obtain ⟨_, vs, h1, h2⟩ := hc
        cases q : pureRs rs with
        | none => simp [pureC, q] at e
        | some ds =>
          simp [pureC, q] at e
          subst e
          unfold Is
          exact ⟨a, vs, rfl, .inl h1, pureRs_is Rr.ex q h2⟩
      | tup rs =>
        obtain ⟨_, vs, h1, h2⟩ := hc
        cases q : pureRs rs with
        | none => simp [pureC, q] at e
        | some ds =>
          simp [pureC, q] at e
          subst e
          unfold Is
          exact ⟨a, vs, rfl, SqT.of h1, pureRs_is Rr.ex q h2⟩
      | dct ks rs =>
        obtain ⟨_, kvs, h1, h2, h3, h4⟩ := hc
        cases q : pureRs rs with
        | none => simp [pureC, q] at e
        | some ds =>
          simp [pureC, q] at e
          subst e
          unfold Is
          exact ⟨a, kvs, rfl, .inl h1, h2, h3, pureRs_is Rr.ex q h4⟩
      | obj c rs =>
        obtain ⟨_, dx, vs, h1, h2, h3⟩ := hc
        cases q : pureRs rs with
        | none => simp [pureC, q] at e
        | some ds =>
          simp [pureC, q] at e
          subst e
          unfold Is
          exact ⟨a, dx, vs, rfl, h1, h2, pureRs_is Rr.ex q h3⟩
end
/-- an operator by its mirror -/
def rD (t : Tx) (g : R → R → Mem → Ro R) : R2 := fun vx vy H Q => ∃ W ads F M x y, Rel t ads F M H ∧ IsR t F ads x vx ∧ IsR t F ads y vy ∧ Kt t W ads F H (g x y M) Q
/-- .. of any arguments -/
def rDs (t : Tx) (g : List R → Mem → Ro R) : List V → Hp → VK → Prop := fun vs H Q => ∃ W ads F M rs, Rel t ads F M H ∧ IsRs t F ads rs vs ∧ Kt t W ads F H (g rs M) Q
def eBin (g : R → R → Mem → Ro R) (fa fb : E) : E := fun env M => (fa env M).bind fun x M1 => (fb env M1).bind fun y M2 => g x y M2
section
variable {t : Tx} {W : Wk} {σ : L2.St} {H : Hp} {Q : VK}
theorem tOp_D {g : R → R → Mem → Ro R} {fa fb : E} (h : tE t W (eBin g fa fb) σ H Q) : tOp (rD t g) (tE t W fa) (tE t W fb) σ H Q := by
  obtain ⟨ads, F, env, M, fr, h⟩ := h
  exact Fr.bind fr h fun ads1 F1 M1 b1 H1 fr1 _ x px h1 => Fr.bind fr1 h1 fun ads2 F2 M2 b2 H2 fr2 m y py h2 => ⟨_, ads2, F2, M2, x, y, fr2.rel, px.mono m, py, h2⟩
end
def gI (p : Int → Int → Bool) (g : Int → Int → D) : R → R → Mem → Ro R := fun x y M => match vw M x, vw M y with
  | .int i, .int j => if p i j then .ok (.d (g i j)) M else .no
  | _, _ => .no
section
variable {t : Tx} {X : Cx}
theorem opD_I {f : Value → Value → Sem Value} {C : Int → Int → Prop} {gv : Int → Int → V} {p : Int → Int → Bool} {g : Int → Int → D} (ho : OpR X f (rI C gv)) (hp : ∀ i j, p i j = true → C i j) (hg : ∀ F i j, Is t F (g i j) (gv i j)) : OpR X f (rD t (gI p g)) := by
  intro pins s σ H vx vy v u Q I rx ry q
  obtain ⟨W, ads, F, M, x, y, Rr, hx, hy, k⟩ := q
  have sx := Rr.view hx
  have sy := Rr.view hy
  unfold gI at k
  split at k
  · rename_i i j ex ey
    rw [ex] at sx
    rw [ey] at sy
    split at k
    · rename_i c
      exact ho pins s σ H vx vy v u Q I rx ry ⟨i, j, sx, sy, hp i j c, k.ok Rr (hg F i j)⟩
    · exact k.elim
  · exact k.elim
def divOk (_ j : Int) : Bool := (j != 0 && decide (j.natAbs < 1073741824)) || (decide (0 < j) && decide (j.natAbs.log2 < 9000))
def oSub := gI (fun _ _ => true) fun i j => .int (i - j)
def oDiv := gI divOk fun i j => .int (i.fdiv j)
def oMod := gI (fun _ j => j != 0) fun i j => .int (i.fmod j)
def oPow := gI (fun i j => decide (0 ≤ j) && decide (j ≤ 1000000) && decide (i.natAbs < 2 ^ 64)) fun i j => .int (i ^ j.toNat)
def oLt := gI (fun _ _ => true) fun i j => .bl (decide (i < j))
def oLe := gI (fun _ _ => true) fun i j => .bl (decide (i ≤ j))
def oGt := gI (fun _ _ => true) fun i j => .bl (decide (j < i))
def oGe := gI (fun _ _ => true) fun i j => .bl (decide (j ≤ i))
theorem isI (F : Hp) (i : Int) : Is t F (.int i) (.int i) := by unfold Is; rfl
theorem isB (F : Hp) (b : Bool) : Is t F (.bl b) (.bl b) := by unfold Is; rfl
theorem isN (F : Hp) : Is t F .non .non := by unfold Is; rfl
theorem isS (F : Hp) {s : T} (h : tOk s) : Is t F (.str s) (.str (st s)) := by unfold Is; exact ⟨rfl, h⟩
section
variable {W : XK} {ads : List Addr} {F H : Hp} {M : Mem} {Q : VK}
theorem okB {b : Bool} (Rr : Rel t ads F M H) (k : Kt t W ads F H (.ok (.d (.bl b)) M) Q) : Q (.bl b) H := k _ _ _ _ .refl Rr (isB (t := t) F b)
theorem okI {b : Int} (Rr : Rel t ads F M H) (k : Kt t W ads F H (.ok (.d (.int b)) M) Q) : Q (.int b) H := k _ _ _ _ .refl Rr (isI (t := t) F b)
theorem okN (Rr : Rel t ads F M H) (k : Kt t W ads F H (.ok (.d .non) M) Q) : Q .non H := k _ _ _ _ .refl Rr (isN (t := t) F)
theorem okS {s : T} (Rr : Rel t ads F M H) (h : tOk s) (k : Kt t W ads F H (.ok (.d (.str s)) M) Q) : Q (.str (st s)) H := k _ _ _ _ .refl Rr (isS (t := t) F h)
theorem okR {r : R} {v : V} (Rr : Rel t ads F M H) (h : IsR t F ads r v) (k : Kt t W ads F H (.ok r M) Q) : Q v H := k _ _ _ _ .refl Rr h
end
theorem OpR.w {f : Value → Value → Sem Value} {gv : Int → Int → V} (h : OpR X f (rI0 gv)) : OpR X f (rI (fun _ _ => True) gv) := fun pins s σ H x y v u Q I rx ry ⟨i, j, e1, e2, _, q⟩ => h pins s σ H x y v u Q I rx ry ⟨i, j, e1, e2, q⟩
theorem d_sub : OpR X (binaryOp .Sub) (rD t oSub) := opD_I (OpR.w op_sub) (fun _ _ _ => trivial) fun F i j => isI F _
theorem d_mod : OpR X (binaryOp .Mod) (rD t oMod) := opD_I op_modN (fun _ _ h => by simpa using h) fun F i j => isI F _
theorem d_pow : OpR X (binaryOp .Pow) (rD t oPow) := opD_I op_pow (fun _ _ h => by simpa [CPow, and_assoc] using h) fun F i j => isI F _
theorem op_fdivA : OpR X (binaryOp .FloorDiv) (rI (fun i j => divOk i j = true) fun i j => .int (i.fdiv j)) := by
  intro pins s σ H x y v u Q I rx ry h
  obtain ⟨i, j, e1, e2, c, q⟩ := h
  unfold divOk at c
  rcases Bool.or_eq_true _ _ ▸ c with c | c
  · simp at c
    exact op_fdivN pins s σ H x y v u Q I rx ry ⟨i, j, e1, e2, ⟨c.1, c.2⟩, q⟩
  · simp at c
    refine op_fdivW pins s σ H x y v u Q I rx ry ⟨i, j, e1, e2, ⟨c.1, c.2⟩, ?_⟩
    have q2 : Q (.int (i.fdiv j)) H := q
    rw [Int.fdiv_eq_ediv_of_nonneg i (by omega)] at q2
    exact q2
theorem d_div : OpR X (binaryOp .FloorDiv) (rD t oDiv) := opD_I op_fdivA (fun _ _ h => h) fun F i j => isI F _
theorem d_lt : OpR X (compareOp .Lt) (rD t oLt) := opD_I (OpR.w op_lt) (fun _ _ _ => trivial) fun F i j => isB F _
theorem d_le : OpR X (compareOp .LtE) (rD t oLe) := opD_I (OpR.w op_le) (fun _ _ _ => trivial) fun F i j => isB F _
theorem d_gt : OpR X (compareOp .Gt) (rD t oGt) := opD_I (OpR.w op_gt) (fun _ _ _ => trivial) fun F i j => isB F _
theorem d_ge : OpR X (compareOp .GtE) (rD t oGe) := opD_I (OpR.w op_ge) (fun _ _ _ => trivial) fun F i j => isB F _
end
/-! == and != -/
def oEqW (neg : Bool) : R → R → Mem → Ro R := fun x y M => match pv M x, pv M y with
  | some a, some b => if plain a && plain b && decide (dep a ≤ 64) && decide (dep b ≤ 64) then .ok (.d (.bl (if neg then !eqD a b else eqD a b))) M else .no
  | _, _ => .no
def oEq := oEqW false
def oNe := oEqW true
section
variable {t : Tx} {X : Cx}
theorem d_eqW {neg : Bool} {f : Value → Value → Sem Value} (ht : t.K = X.K) (ho : OpR X f (fun x y H Q => ∃ d e, Dp X.K H x d ∧ Dp X.K H y e ∧ SeqAt.shaped d = true ∧ SeqAt.shaped e = true ∧ Q (.bl (if neg then !PyData.eqv d e else PyData.eqv d e)) H)) : OpR X f (rD t (oEqW neg)) := by
  intro pins s σ H vx vy v u Q I rx ry q
  obtain ⟨W, ads, F, M, x, y, Rr, hx, hy, k⟩ := q
  unfold oEqW at k
  split at k
  · rename_i a b ea eb
    have sx := Rr.pv hx ea
    have sy := Rr.pv hy eb
    split at k
    · rename_i c
      simp only [Bool.and_eq_true, decide_eq_true_eq] at c
      obtain ⟨⟨⟨c1, c2⟩, c3⟩, c4⟩ := c
      have m : ∀ p xs, Rd H p (.lst xs) → SqL t.K H p xs := fun _ _ z => .inl z
      have x1 := Is.dp m a c1 sx
      have y1 := Is.dp m b c2 sy
      rw [ht] at x1 y1
      have x2 := Is.lay a c1 sx
      have y2 := Is.lay b c2 sy
      refine ho pins s σ H vx vy v u Q I rx ry ⟨_, _, x1, y1, ?_, ?_, ?_⟩
      · simp [SeqAt.shaped, x2, c3]
      · simp [SeqAt.shaped, y2, c4]
      · rw [eqv_toP a b c1 c2]
        exact okB Rr k
    · exact k.elim
  · exact k.elim
theorem d_eq (ht : t.K = X.K) (hu : X.A.units + 64 < cLine) : OpR X (compareOp .Eq) (rD t oEq) := d_eqW (neg := false) ht (op_eqD hu)
theorem d_ne (ht : t.K = X.K) (hu : X.A.units + 64 < cLine) : OpR X (compareOp .NotEq) (rD t oNe) := d_eqW (neg := true) ht (op_neD hu)
/-! is None -/
def isNon (M : Mem) (x : R) : Option Bool := match vw M x with
  | .non => some true
  | .no => none
  | _ => some false
def oIsW (neg : Bool) : R → R → Mem → Ro R := fun x y M => match vw M y with
  | .non => match isNon M x with
    | some b => .ok (.d (.bl (if neg then !b else b))) M
    | none => .no
  | _ => .no
def oIs := oIsW false
def oIsNot := oIsW true
theorem isNon_ok {F H : Hp} {ads : List Addr} {M : Mem} {x : R} {v : V} {b : Bool} (Rr : Rel t ads F M H) (h : IsR t F ads x v) (e : isNon M x = some b) : decide (v = .non) = b := by
  have s := Rr.view h
  unfold isNon at e
  split at e
  · rename_i e1
    cases e
    rw [e1] at s
    have : v = .non := s
    simp [this]
  · cases e
  · rename_i n1 n2
    cases e
    cases q : vw M x with
    | non => exact absurd q n1
    | no => exact absurd q n2
    | bl b => rw [q] at s; have : v = .bl b := s; simp [this]
    | int b => rw [q] at s; have : v = .int b := s; simp [this]
    | str b => rw [q] at s; have : v = .str (st b) := s.1; simp [this]
    | lst rs => rw [q] at s; obtain ⟨a, _, e, _⟩ := s; simp [e]
    | tup rs => rw [q] at s; obtain ⟨a, _, e, _⟩ := s; simp [e]
    | dct ks rs => rw [q] at s; obtain ⟨a, _, e, _⟩ := s; simp [e]
    | obj c rs => rw [q] at s; obtain ⟨a, _, _, e, _⟩ := s; simp [e]
theorem d_isW {neg : Bool} {f : Value → Value → Sem Value} (ho : OpR X f (fun x y H Q => y = .non ∧ Q (.bl (if neg then !decide (x = .non) else decide (x = .non))) H)) : OpR X f (rD t (oIsW neg)) := by
  intro pins s σ H vx vy v u Q I rx ry q
  obtain ⟨W, ads, F, M, x, y, Rr, hx, hy, k⟩ := q
  have sy := Rr.view hy
  unfold oIsW at k
  split at k
  · rename_i ey
    rw [ey] at sy
    split at k
    · rename_i b eb
      refine ho pins s σ H vx vy v u Q I rx ry ⟨sy, ?_⟩
      rw [isNon_ok Rr hx eb]
      exact okB Rr k
    · exact k.elim
  · exact k.elim
theorem d_is : OpR X (compareOp .Is) (rD t oIs) := d_isW (neg := false) op_isN
theorem d_isnot : OpR X (compareOp .IsNot) (rD t oIsNot) := d_isW (neg := true) op_notN
end
end Lc
set_option Elab.async false
set_option linter.all false
set_option maxRecDepth 100000
set_option maxHeartbeats 4000000
/-! Operators on lists, tuples and texts; subscripts; tests. -/
namespace Lc
open PySem PySem.Spec PyProof.Rows L2 LcX
section
variable {X : Cx} {pins : List (Addr × Obj)} {σ : L2.St} {H : Hp} {s : Shared} {l : Addr} {xs ys : List V}
theorem lstR (I : Inv X pins σ H s) (h : Rd H l (.lst xs)) : xs.length ≤ sizeLine ∧ ∃ (its : List Value) (n : Nat), Vals xs its ∧ xs.length = its.length ∧ s.heap.get? l = some { cls := .type "list", data := .seq its.toArray n } := by
  obtain ⟨z, its, n, r, e⟩ := h.ok I.hok
  exact ⟨z, its, n, r, r.length, e⟩
/-- lists, put together -/
def rCatL : R2 := fun x y H Q => ∃ l b xs zs, x = .ref l ∧ y = .ref b ∧ Rd H l (.lst xs) ∧ Rd H b (.lst zs) ∧ xs.length + zs.length ≤ sizeLine ∧ ∀ p, H p = none → Q (.ref p) (upd H p (.lst (xs ++ zs)))
theorem op_catL : OpR X (binaryOp .Add) rCatL := by
  intro pins s σ H x y v u Q I rx ry h
  obtain ⟨l, b, xs, zs, rfl, rfl, hH, hB, hz, q⟩ := h
  cases rx
  cases ry
  obtain ⟨z, its, n, r, hl, e⟩ := lstR I hH
  obtain ⟨z2, its2, n2, r2, hl2, e2⟩ := lstR I hB
  refine PySem.P.add_list e e2 ?_ (by rw [List.size_toArray, List.size_toArray]; omega)
  have ea : its.toArray ++ its2.toArray = (its ++ its2).toArray := by simp
  rw [ea]
  exact ⟨.ref _, _, I.lnew (t' := s.toks) (r.append r2) (by rw [List.length_append]; omega), rfl, q _ I.fresh⟩
def rRepL : R2 := fun x y H Q => ∃ l k xs, x = .ref l ∧ y = .int k ∧ Rd H l (.lst xs) ∧ -(2 ^ 63) ≤ k ∧ k < 2 ^ 63 ∧ xs.length * k.toNat ≤ sizeLine ∧
  ∀ p, H p = none → Q (.ref p) (upd H p (.lst (List.replicate k.toNat xs).flatten))
theorem op_repL : OpR X (binaryOp .Mult) rRepL := by
  intro pins s σ H x y v u Q I rx ry h
  obtain ⟨l, k, xs, rfl, rfl, hH, h1, h2, hz, q⟩ := h
  cases rx
  obtain ⟨t, rfl⟩ := ry
  obtain ⟨z, its, n, r, hl, e⟩ := lstR I hH
  have hlen : its.toArray.size * k.toNat ≤ sizeLine := by rw [List.size_toArray, ← hl]; exact hz
  have hcap : ¬ its.toArray.size * k.toNat > (2 ^ 63 - 1) / 8 := by
    have : (sizeLine : Nat) ≤ (2 ^ 63 - 1) / 8 := by decide
    omega
  have hfit : ¬ (!Builtin.List.listFitsIndex k) = true := by
    rw [fitsIndex_both h1 h2]
    exact Bool.false_ne_true
  have hlong : ¬ Builtin.List.listTooLong (its.toArray.size * k.toNat) = true := by
    rw [notLongL hlen]
    exact Bool.false_ne_true
  have hnew : List.foldl (fun x1 x2 => x1 ++ x2) #[] (List.replicate (if its.toArray.isEmpty = true then 0 else k.toNat) its.toArray) = (List.replicate k.toNat its).flatten.toArray := by
    have f0 : ∀ m : Nat, List.foldl (fun x1 x2 => x1 ++ x2) #[] (List.replicate m its.toArray) = (List.replicate m its).flatten.toArray := fun m => by
      have := foldl_rep its m []
      rw [List.nil_append] at this
      exact this
    rw [f0]
    cases its with
    | nil => simp
    | cons a r' => rw [if_neg (by simp)]
  refine wpAny_binaryOp_repeat_ref (T := "list") (U := "int") (by decide) ⟨_, e, rfl⟩ (fun s' => typeIs_int s' k t) noFill_list_mul F.fills_int_mul F.slot_int_rmul repeat_list F.slot_int_index.lookup
    (call_meets F.slot_int_rmul (typeIs_int s k t) F.entry_int_rmul (F.args_int_rmul_2 _ _) (int___rmul___int_list k t l its.toArray n)
      ⟨e, rfl, ⟨_, e, rfl⟩, call_meets F.slot_list_mul ⟨_, e, rfl⟩ F.entry_list_mul (F.args_list_mul_2 _ _) (AutoListH.list___mul___list_int_3 l its.toArray n k t hfit hcap hlong) ⟨e, ?_⟩⟩)
  rw [hnew]
  exact ⟨.ref _, _, I.lnew (t' := s.toks) (r.rep k.toNat) (by rw [PyProof.Rows.lm_len_rep_flat, Nat.mul_comm]; exact hz), rfl, q _ I.fresh⟩
/-- tuples, put together -/
def rCatU (K : PySem.W.Frag) : R2 := fun x y H Q => ∃ a b xs ys, x = .ref a ∧ y = .ref b ∧ SqT K H a xs ∧ SqT K H b ys ∧ xs.length + ys.length ≤ sizeLine ∧
  (xs = [] → Q (.ref b) H) ∧ (xs ≠ [] → ys = [] → Q (.ref a) H) ∧ (xs ≠ [] → ys ≠ [] → ∀ p, H p = none → Q (.ref p) (upd H p (.tup (xs ++ ys))))
theorem op_catU : OpR X (binaryOp .Add) (rCatU X.K) := by
  intro pins s σ H x y v u Q I rx ry h
  obtain ⟨a, b, xs, ys, rfl, rfl, ha, hb, hz, q0, q1, q2⟩ := h
  cases rx
  cases ry
  obtain ⟨its, r1, p1, _⟩ := I.tuple ha
  obtain ⟨its2, r2, p2, _⟩ := I.tuple hb
  by_cases hx : xs = []
  · obtain ⟨⟨cls, dd, data, sl⟩, ho, hc, n, hd⟩ := id p1
    obtain ⟨⟨cls2, dd2, data2, sl2⟩, ho2, hc2, n2, hd2⟩ := id p2
    simp only at hc hd hc2 hd2
    subst hc hd hc2 hd2
    have e0 : its = [] := r1.nil_iff.mpr hx
    exact concat_meets ⟨_, ho, rfl⟩ ⟨_, ho2, rfl⟩ noFill_tuple_add seq_tuple_add PySem.F.slot_tuple_add PySem.F.entry_tuple_add (PySem.F.args_tuple_add_2 _ _)
      (tuple_addW0 a b its.toArray its2.toArray n n2 dd dd2 sl sl2 (by simp [e0])) ⟨ho, ho2, ⟨.ref b, H, I, rfl, q0 hx⟩⟩
  · exact op_catT pins s σ H (.ref a) (.ref b) (.ref a) (.ref b) Q I rfl rfl ⟨a, b, xs, ys, rfl, rfl, ha, hb, hx, hz, q1 hx, fun z => q2 hx z⟩
end
section
variable {t : Tx} {F : Hp} {ads : List Addr} {rs : List R} {vs : List V}
theorem newL (h : IsRs t F ads rs vs) : New t F ads (.lst rs) (.lst vs) := ⟨vs, rfl, h⟩
theorem newT (h : IsRs t F ads rs vs) : New t F ads (.tup rs) (.tup vs) := ⟨vs, rfl, h⟩
end
theorem tOk_append {a b : T} (ha : tOk a) (hb : tOk b) (h : a.length + b.length ≤ SL) : tOk (a ++ b) := ⟨by rw [List.length_append]; exact h, fun c hc => (List.mem_append.mp hc).elim (ha.2 c) (hb.2 c)⟩
theorem st_append (a b : T) : st a ++ st b = st (a ++ b) := by
  show Str.mk _ = Str.mk _
  congr 1
  simp [st]
/-- + -/
def oAdd (cell : Bool) : R → R → Mem → Ro R := fun x y M => match vw M x, vw M y with
  | .int i, .int j => .ok (.d (.int (i + j))) M
  | .str a, .str b => if a.length + b.length ≤ SL then .ok (.d (.str (a ++ b))) M else .no
  | .lst a, .lst b => if a.length + b.length ≤ SL then mk cell (.lst (a ++ b)) M else .no
  | .tup a, .tup b => if a.length + b.length ≤ SL then (if a.isEmpty then .ok y M else if b.isEmpty then .ok x M else mk false (.tup (a ++ b)) M) else .no
  | _, _ => .no
section
variable {t : Tx} {X : Cx}
theorem d_add {cell : Bool} (ht : t.K = X.K) : OpR X (binaryOp .Add) (rD t (oAdd cell)) := by
  intro pins s σ H vx vy v u Q I rx ry q
  obtain ⟨W, ads, F, M, x, y, Rr, hx, hy, k⟩ := q
  have sx := Rr.view hx
  have sy := Rr.view hy
  unfold oAdd at k
  split at k
  · rename_i i j ex ey
    rw [ex] at sx
    rw [ey] at sy
    exact op_add pins s σ H vx vy v u Q I rx ry ⟨i, j, sx, sy, okI Rr k⟩
  · rename_i a b ex ey
    rw [ex] at sx
    rw [ey] at sy
    split at k
    · rename_i c
      refine op_add_str pins s σ H vx vy v u Q I rx ry ⟨st a, st b, sx.1, sy.1, by rw [st_len, st_len, ← SL_eq]; exact c, ?_⟩
      rw [st_append]
      exact okS Rr (tOk_append sx.2 sy.2 c) k
    · exact k.elim
  · rename_i a b ex ey
    rw [ex] at sx
    rw [ey] at sy
    split at k
    · rename_i c
      obtain ⟨p, vs, e1, h1, g1⟩ := sx
      obtain ⟨q, ws, e2, h2, g2⟩ := sy
      have l1 := Paired.length g1
      have l2 := Paired.length g2
      refine op_catL pins s σ H vx vy v u Q I rx ry ⟨p, q, vs, ws, e1, e2, h1, h2, by rw [← l1, ← l2, ← SL_eq]; exact c, fun p hp => ?_⟩
      exact Kg.made Rr hp (newL (pair_append g1 g2)) k
    · exact k.elim
  · rename_i a b ex ey
    rw [ex] at sx
    rw [ey] at sy
    split at k
    · rename_i c
      obtain ⟨p, vs, e1, h1, g1⟩ := sx
      obtain ⟨q, ws, e2, h2, g2⟩ := sy
      have l1 := Paired.length g1
      have l2 := Paired.length g2
      rw [ht] at h1 h2
      refine op_catU pins s σ H vx vy v u Q I rx ry ⟨p, q, vs, ws, e1, e2, h1, h2, by rw [← l1, ← l2, ← SL_eq]; exact c, fun z => ?_, fun z1 z2 => ?_, fun z1 z2 p2 hp => ?_⟩
      · have z' : a = [] := by
          subst z
          exact List.length_eq_zero_iff.mp l1
        subst z'
        simp only [List.isEmpty_nil, if_true] at k
        rw [← e2]
        exact okR Rr hy k
      · have z' : a ≠ [] := fun y => z1 (by subst y; exact List.length_eq_zero_iff.mp l1.symm)
        have z2' : b = [] := by
          subst z2
          exact List.length_eq_zero_iff.mp l2
        subst z2'
        rw [if_neg (by simpa using z')] at k
        simp only [List.isEmpty_nil, if_true] at k
        rw [← e1]
        exact okR Rr hx k
      · have z' : a ≠ [] := fun y => z1 (by subst y; exact List.length_eq_zero_iff.mp l1.symm)
        have z2' : b ≠ [] := fun y => z2 (by subst y; exact List.length_eq_zero_iff.mp l2.symm)
        rw [if_neg (by simpa using z'), if_neg (by simpa using z2')] at k
        exact Kg.made Rr hp (newT (pair_append g1 g2)) k
    · exact k.elim
  · exact k.elim
end
/-- * -/
def mulOk (i j : Int) : Bool := decide (i.natAbs < 2 ^ 64) || decide (j.natAbs < 2 ^ 64) || decide (i.natAbs.log2 + j.natAbs.log2 < 1000000)
def oMul (cell : Bool) : R → R → Mem → Ro R := fun x y M => match vw M x, vw M y with
  | .int i, .int j => if mulOk i j then .ok (.d (.int (i * j))) M else .no
  | .lst a, .int k => if k ≤ 16777216 && a.length * k.toNat ≤ SL && -16777216 ≤ k then mk cell (.lst (List.replicate k.toNat a).flatten) M else .no
  | _, _ => .no
theorem pair_rep {α β : Type} {P : α → β → Prop} {xs : List α} {us : List β} (h : Paired P xs us) : ∀ k : Nat, Paired P (List.replicate k xs).flatten (List.replicate k us).flatten
  | 0 => .nil
  | k + 1 => by
    rw [List.replicate_succ, List.replicate_succ, List.flatten_cons, List.flatten_cons]
    exact pair_append h (pair_rep h k)
section
variable {t : Tx} {X : Cx}
theorem d_mul {cell : Bool} : OpR X (binaryOp .Mult) (rD t (oMul cell)) := by
  intro pins s σ H vx vy v u Q I rx ry q
  obtain ⟨W, ads, F, M, x, y, Rr, hx, hy, k⟩ := q
  have sx := Rr.view hx
  have sy := Rr.view hy
  unfold oMul at k
  split at k
  · rename_i i j ex ey
    rw [ex] at sx
    rw [ey] at sy
    split at k
    · rename_i c
      unfold mulOk at c
      simp only [Bool.or_eq_true, decide_eq_true_eq] at c
      rcases c with (c | c) | c
      · exact op_mul pins s σ H vx vy v u Q I rx ry ⟨i, j, sx, sy, .inl (by omega), okI Rr k⟩
      · exact op_mul pins s σ H vx vy v u Q I rx ry ⟨i, j, sx, sy, .inr (by omega), okI Rr k⟩
      · exact op_mulW pins s σ H vx vy v u Q I rx ry ⟨i, j, sx, sy, c, okI Rr k⟩
    · exact k.elim
  · rename_i a n ex ey
    rw [ex] at sx
    rw [ey] at sy
    split at k
    · rename_i c
      simp only [Bool.and_eq_true, decide_eq_true_eq] at c
      obtain ⟨p, vs, e1, h1, g1⟩ := sx
      have l1 := Paired.length g1
      refine op_repL pins s σ H vx vy v u Q I rx ry ⟨p, n, vs, e1, sy, h1, by omega, by omega, by rw [← l1, ← SL_eq]; exact c.1.2, fun p hp => ?_⟩
      exact Kg.made Rr hp (newL (pair_rep g1 _)) k
    · exact k.elim
  · exact k.elim
end
/-! ### dicts -/
def keq : D → D → Bool
  | .int i, .int j => i == j
  | .str a, .str b => a == b
  | _, _ => false
def dget : List D → List R → D → Option R
  | k :: ks, r :: rs, x => if keq k x then some r else dget ks rs x
  | _, _, _ => none
/-- is the key there -/
def dhas (ks : List D) (x : D) : Bool := ks.any fun k => keq k x
def dputR (ks : List D) (rs : List R) (x : D) (y : R) : List R := if dhas ks x then List.zipWith (fun k r => if keq k x then y else r) ks rs else rs ++ [y]
def dputK (ks : List D) (x : D) : List D := if dhas ks x then ks else ks ++ [x]
/-- a key -/
def dkey (M : Mem) (y : R) : Option D := match vw M y with
  | .int i => some (.int i)
  | .str s => some (.str s)
  | _ => none
theorem keq_D (a b : Key) : keq (keyD a) (keyD b) = decide (a = b) := by
  cases a with
  | inl i =>
    cases b with
    | inl j => simp [keyD, keq]; rw [Bool.eq_iff_iff]; simp
    | inr y => simp [keyD, keq]
  | inr x =>
    cases b with
    | inl j => simp [keyD, keq]
    | inr y =>
      simp only [keyD, keq]
      rw [Bool.eq_iff_iff]
      simp only [beq_iff_eq, decide_eq_true_eq]
      constructor
      · intro e
        rw [← st_of x, ← st_of y, e]
      · intro e
        cases e
        rfl
section
variable {t : Tx} {F H : Hp} {ads : List Addr} {M : Mem}
theorem dget_ok {k : Key} : ∀ {kvs : List (Key × V)} {rs : List R}, IsRs t F ads rs (kvs.map (·.2)) →
    match dget (kvs.map fun k => keyD k.1) rs (keyD k), valV kvs k with
    | some r, some v => IsR t F ads r v
    | none, none => True
    | _, _ => False
  | [], rs, h => by
    cases h
    simp [dget, valV_nil]
  | p :: kvs, rs, h => by
    cases h with
    | @cons r _ rs _ h1 h2 =>
      show match (if keq (keyD p.1) (keyD k) then some r else dget (kvs.map fun k => keyD k.1) rs (keyD k)), valV (p :: kvs) k with
        | some r, some v => IsR t F ads r v
        | none, none => True
        | _, _ => False
      rw [keq_D]
      by_cases e : p.1 = k
      · rw [if_pos (by simpa using e), valV_pos e]
        exact h1
      · rw [if_neg (by simpa using e), valV_neg e]
        exact dget_ok h2
theorem dkey_ok (Rr : Rel t ads F M H) {y : R} {v : V} {d : D} (h : IsR t F ads y v) (e : dkey M y = some d) : ∃ k : Key, v = kV k ∧ d = keyD k ∧ keyOk k := by
  have sy := Rr.view h
  unfold dkey at e
  split at e
  · rename_i i ey
    rw [ey] at sy
    cases e
    exact ⟨.inl i, sy, rfl, trivial⟩
  · rename_i s ey
    rw [ey] at sy
    cases e
    exact ⟨.inr (st s), sy.1, by simp [keyD, st], by simpa [keyOk, st] using sy.2⟩
  · cases e
theorem DGet.r {a : Addr} {kvs : List (Key × V)} {k : Key} (e : Rd H a (.dK kvs)) : DGet H a (kV k) (valV kvs k) := .inl ⟨kvs, k, e, rfl, rfl⟩
end
/-! ### what may be subscripted -/
def oIx : R → R → Mem → Ro R := fun x y M => match vw M x with
  | .lst rs => match vw M y with
    | .int i => Ro.of (atI rs i) M
    | _ => .no
  | .tup rs => match vw M y with
    | .int i => Ro.of (atI rs i) M
    | _ => .no
  | .str s => match vw M y with
    | .int i => match atI s i with
      | some c => .ok (.d (.str [c])) M
      | none => .no
    | _ => .no
  | .dct ks rs => match dkey M y with
    | some k => Ro.of (dget ks rs k) M
    | none => .no
  | _ => .no
theorem pair_atI {α β : Type} {P : α → β → Prop} {xs : List α} {ys : List β} {i : Int} {x : α} (h : Paired P xs ys) (e : atI xs i = some x) : ∃ y, atI ys i = some y ∧ P x y := by
  unfold atI at e ⊢
  rw [← Paired.length h]
  cases q : ixN xs.length i with
  | none => rw [q] at e; cases e
  | some j =>
    rw [q] at e
    exact pair_get h e
theorem tOk_one {s : T} {c : Nat} (h : tOk s) (hc : c ∈ s) : tOk [c] := ⟨by show 1 ≤ SL; decide, fun d hd => by cases (List.mem_singleton.mp hd); exact h.2 c hc⟩
theorem mem_atI {α : Type} {xs : List α} {i : Int} {x : α} (e : atI xs i = some x) : x ∈ xs := by
  unfold atI at e
  cases q : ixN xs.length i with
  | none => rw [q] at e; cases e
  | some j => rw [q] at e; exact List.mem_of_getElem? e
section
variable {t : Tx} {X : Cx}
def rIxDK : R2 := fun x y H Q => ∃ a v, x = .ref a ∧ DGet H a y (some v) ∧ Q v H
theorem ix_dK (hu : X.A.units + 1 < cLine) : IxR X rIxDK := by
  intro value slice pins s σ H x y v u Q I rx ry h hs
  obtain ⟨a, v0, rfl, g, q⟩ := h
  cases rx
  have z := dict_typeIs I g
  exact tail_any (ops := [.ref a, u]) z slot_dict_getitem.lookup (d_getItem hu I g ry fun w' s' J r => ⟨v0, H, J, r, q⟩) hs
theorem d_ix (ht : t.K = X.K) (hu : X.A.units + 1 < cLine) : IxR X (rD t oIx) := by
  intro value slice pins s σ H vx vy v u Q I rx ry q hs
  obtain ⟨W, ads, F, M, x, y, Rr, hx, hy, k⟩ := q
  have sx := Rr.view hx
  have sy := Rr.view hy
  unfold oIx at k
  split at k
  · rename_i rs ex
    rw [ex] at sx
    split at k
    · rename_i i ey
      rw [ey] at sy
      obtain ⟨p, vs, e1, h1, g1⟩ := sx
      cases e : atI rs i with
      | none => rw [e] at k; exact k.elim
      | some r =>
        rw [e] at k
        obtain ⟨w, e2, h2⟩ := pair_atI g1 e
        exact ix_list value slice pins s σ H vx vy v u Q I rx ry ⟨p, vs, i, w, e1, sy, .inl h1, e2, okR Rr h2 k⟩ hs
    · exact k.elim
  · rename_i rs ex
    rw [ex] at sx
    split at k
    · rename_i i ey
      rw [ey] at sy
      obtain ⟨p, vs, e1, h1, g1⟩ := sx
      rw [ht] at h1
      cases e : atI rs i with
      | none => rw [e] at k; exact k.elim
      | some r =>
        rw [e] at k
        obtain ⟨w, e2, h2⟩ := pair_atI g1 e
        exact ix_tup value slice pins s σ H vx vy v u Q I rx ry ⟨p, vs, i, w, e1, sy, h1, e2, okR Rr h2 k⟩ hs
    · exact k.elim
  · rename_i s0 ex
    rw [ex] at sx
    split at k
    · rename_i i ey
      rw [ey] at sy
      split at k
      · rename_i c e
        refine ix_str value slice pins s σ H vx vy v u Q I rx ry ⟨st s0, i, c, sx.1, sy, by rw [st_len, ← SL_eq]; exact sx.2.1, by simpa [st] using e, ?_⟩ hs
        exact okS (s := [c]) Rr (tOk_one sx.2 (mem_atI e)) k
      · exact k.elim
    · exact k.elim
  · rename_i ks rs ex
    rw [ex] at sx
    split at k
    · rename_i d ed
      obtain ⟨a, kvs, e1, h1, h2, h3, h4⟩ := sx
      obtain ⟨kk, ev, ekd, _⟩ := dkey_ok Rr hy ed
      subst ekd h3
      have z := dget_ok (k := kk) h4
      cases e : dget (kvs.map fun k => keyD k.1) rs (keyD kk) with
      | none => rw [e] at k; exact k.elim
      | some r =>
        rw [e] at k z
        cases e2 : valV kvs kk with
        | none => rw [e2] at z; exact z.elim
        | some w =>
          rw [e2] at z
          refine ix_dK hu value slice pins s σ H vx vy v u Q I rx ry ⟨a, w, e1, ?_, okR Rr z k⟩ hs
          rw [ev, ← e2]
          exact DGet.r h1
    · exact k.elim
  · exact k.elim
end
/-! ### slices -/
/-- xs[lo:hi] -/
def cut {α : Type} (xs : List α) (lo hi : Option Int) : List α := (xs.drop (HT.sIx xs.length 0 lo)).take (HT.sIx xs.length xs.length hi - HT.sIx xs.length 0 lo)
def oSl (cell : Bool) : R → Option Int → Option Int → Mem → Ro R := fun x lo hi M => match vw M x with
  | .lst rs => mk cell (.lst (cut rs lo hi)) M
  | .tup rs => if HT.sIx rs.length 0 lo == 0 && HT.sIx rs.length rs.length hi == rs.length then .ok x M else mk false (.tup (cut rs lo hi)) M
  | .str s => .ok (.d (.str (cut s lo hi))) M
  | _ => .no
section
variable {t : Tx} {X : Cx}
theorem tupleIsExact_ {prog : Program} {w : World} {A : Around} {E : Value → Shared → Prop} {s : Shared} {a : Addr} {items : Array Value} {Q : Bool → Shared → Prop} (ht : IsTup s.heap a items) (h : Q true s) : wpAny (model prog w) A (Builtin.Tuple.tupleIsExact (.ref a)) Q E s := by
  unfold Builtin.Tuple.tupleIsExact
  exact wpAny_bind (wpAny_typeOf ht.typeIs (wpAny_pure h))
theorem getItem_tuple_whole {prog : Program} {w : World} {A : Around} {E : Value → Shared → Prop} {s : Shared} {a sl : Addr} {items : Array Value} {vl vu : Value} {lo hi : Option Int} {Q : Value → Shared → Prop} (ht : IsTup s.heap a items) (hs : s.heap.IsSliceOf sl vl vu .none) (pl : IsPart vl lo) (pu : IsPart vu hi)
    (hw : HT.sIx items.size 0 lo = 0 ∧ HT.sIx items.size items.size hi = items.size) (h : Q (.ref a) s) : wpAny (model prog w) A (getItem (.ref a) (.ref sl)) Q E s := by
  obtain ⟨os, hos, hcs, hds⟩ := id hs
  have hTs : s.TypeIs (.ref sl) "slice" := ⟨os, hos, hcs⟩
  unfold getItem
  try with_reducible refine wpAny_holding ?_
  first | refine wpAny_bind (wpAny_pure ?_) | skip
  refine wpAny_bind (wpAny_sequenceKey ht.typeIs (by decide) ?_)
  refine wpAny_bind (wpAny_callSpecial?_slot (name := Str.ofString "__getitem__") ht.typeIs PyProof.Rows.slot_tuple_getitem
    (wpAny_call_entry PyProof.Rows.slot_tuple_getitem ht.typeIs entry_tuple_getitem ?_ (args_tuple_getitem _ _)))
  show wpAny _ _ (Builtin.Tuple.tupleItemsOf (.ref a) >>= _) _ _ s
  refine wpAny_bind (tupleItemsOf_ ht ?_)
  refine wpAny_bind (wpAny_typeOf hTs ?_)
  rw [if_pos (by decide)]
  refine wpAny_bind (HT.sliceApplied_gen hs pl pu ?_)
  have hyes : ((((HT.sIx items.size 0 lo : Nat) : Int) == 0 && (1 : Int) == 1 && (HT.sIx items.size items.size hi - HT.sIx items.size 0 lo) == items.size) = true) := by
    rw [hw.1, hw.2]
    simp
  show wpAny _ _ (if (((HT.sIx items.size 0 lo : Nat) : Int) == 0 && (1 : Int) == 1 && (HT.sIx items.size items.size hi - HT.sIx items.size 0 lo) == items.size) = true then _ else _) _ _ s
  rw [if_pos hyes]
  refine wpAny_bind (tupleIsExact_ ht ?_)
  rw [if_pos rfl]
  first
    | exact wpAny_bind (wpAny_rule (wpAny_bind (wpAny_pure (wpAny_pure ⟨_, rfl, wpAny_pure h⟩))))
    | exact wpAny_bind (wpAny_rule (wpAny_bind (wpAny_pure ⟨_, rfl, wpAny_pure h⟩)))
    | exact wpAny_bind (wpAny_rule (wpAny_pure ⟨_, rfl, wpAny_pure h⟩))
    | exact wpAny_rule (wpAny_pure ⟨_, rfl, wpAny_pure h⟩)
def rSlW (K : PySem.W.Frag) : V → Option Int → Option Int → Hp → VK → Prop := fun x lo hi H Q => ∃ a xs, x = .ref a ∧ SqT K H a xs ∧ (HT.sIx xs.length 0 lo = 0 ∧ HT.sIx xs.length xs.length hi = xs.length) ∧ Q (.ref a) H
theorem sl_tupW : SlR X (rSlW X.K) := by
  intro pins s σ H x v vl vu lo hi sl Q I rx hs pl pu h
  obtain ⟨a, xs, rfl, hx, hw, q⟩ := h
  cases rx
  obtain ⟨its, r, ht, hz⟩ := I.tuple hx
  have hlen : its.toArray.size = xs.length := by rw [List.size_toArray]; exact r.length.symm
  refine ⟨"tuple", _, PyProof.Rows.slot_tuple_getitem.lookup, ht.typeIs, ?_⟩
  exact getItem_tuple_whole ht hs pl pu (by rw [hlen]; exact hw) ⟨.ref a, H, I, rfl, q⟩
/-- a slice by its mirror -/
def rSD (t : Tx) (g : R → Option Int → Option Int → Mem → Ro R) : V → Option Int → Option Int → Hp → VK → Prop := fun v lo hi H Q => ∃ W ads F M x, Rel t ads F M H ∧ IsR t F ads x v ∧ Kt t W ads F H (g x lo hi M) Q
theorem d_sl {cell : Bool} (ht : t.K = X.K) : SlR X (rSD t (oSl cell)) := by
  intro pins s σ H vx v vl vu lo hi sl Q I rx hs pl pu q
  obtain ⟨W, ads, F, M, x, Rr, hx, k⟩ := q
  have sx := Rr.view hx
  unfold oSl at k
  split at k
  · rename_i rs ex
    rw [ex] at sx
    obtain ⟨p, vs, e1, h1, g1⟩ := sx
    refine sl_list pins s σ H vx v vl vu lo hi sl Q I rx hs pl pu ⟨p, vs, e1, .inl h1, fun p hp => ?_⟩
    refine Kg.made Rr hp (newL ?_) k
    unfold cut cutV
    rw [Paired.length g1]
    exact pair_take _ (pair_drop _ g1)
  · rename_i rs ex
    rw [ex] at sx
    obtain ⟨p, vs, e1, h1, g1⟩ := sx
    rw [ht] at h1
    split at k
    · rename_i c
      simp only [Bool.and_eq_true, beq_iff_eq] at c
      rw [Paired.length g1] at c
      refine sl_tupW pins s σ H vx v vl vu lo hi sl Q I rx hs pl pu ⟨p, vs, e1, h1, c, ?_⟩
      rw [← e1]
      exact okR Rr hx k
    · rename_i c
      simp only [Bool.and_eq_true, beq_iff_eq] at c
      rw [Paired.length g1] at c
      refine sl_tup pins s σ H vx v vl vu lo hi sl Q I rx hs pl pu ⟨p, vs, e1, h1, c, fun p hp => ?_⟩
      refine Kg.made Rr hp (newT ?_) k
      unfold cut cutV
      rw [Paired.length g1]
      exact pair_take _ (pair_drop _ g1)
  · rename_i s0 ex
    rw [ex] at sx
    have e : cutS (st s0) lo hi = st (cut s0 lo hi) := by
      unfold cutS cut
      rw [st_len]
      simp [st]
    refine sl_str pins s σ H vx v vl vu lo hi sl Q I rx hs pl pu ⟨st s0, sx.1, by rw [st_len, ← SL_eq]; exact sx.2.1, ?_⟩
    rw [e]
    refine okS Rr ⟨?_, fun c hc => sx.2.2 c ?_⟩ k
    · unfold cut
      refine Nat.le_trans ?_ sx.2.1
      rw [List.length_take, List.length_drop]
      omega
    · unfold cut at hc
      exact List.mem_of_mem_drop (List.mem_of_mem_take hc)
  · exact k.elim
end
/-! ### tests -/
def tru (v : Vw) : Option Bool := match v with
  | .non => some false
  | .bl b => some b
  | .int i => some (i != 0)
  | .str s => some (!s.isEmpty)
  | .lst rs => some (!rs.isEmpty)
  | .tup rs => some (!rs.isEmpty)
  | .dct ks _ => some (!ks.isEmpty)
  | _ => none
section
variable {t : Tx} {X : Cx}
theorem pair_empty {α β : Type} {P : α → β → Prop} {xs : List α} {ys : List β} (h : Paired P xs ys) : xs.isEmpty = ys.isEmpty := by cases h <;> rfl
/-- truth, dicts that stand still too -/
theorem tru_D (ht : t.K = X.K) {pins : List (Addr × Obj)} {s : Shared} {σ : L2.St} {H : Hp} {v : V} {u : Value} {F : Hp} {ads : List Addr} {M : Mem} {r : R} {b : Bool} {Q : Bool → Shared → Prop} (I : Inv X pins σ H s) (rv : RelV v u) (Rr : Rel t ads F M H) (hr : IsR t F ads r v) (e : tru (vw M r) = some b)
    (h : ∀ s', Inv X pins σ H s' → Q b s') : wpAny (model X.prog X.w) X.A (truthy u) Q X.xe s := by
  have sx := Rr.view hr
  have go : ∀ k, TruV X.K v H k → k = b → wpAny (model X.prog X.w) X.A (truthy u) Q X.xe s := fun k hk ek => by
    refine wpAny_mono (tru_ok pins s σ H v u (fun c H' => c = b ∧ H' = H) I rv ⟨k, hk, ek, rfl⟩) (fun c s' hc => ?_) fun _ _ z => z
    obtain ⟨H', J, rfl, rfl⟩ := hc
    exact h s' J
  cases q : vw M r with
  | non => rw [q] at sx e; cases e; rw [show v = .non from sx] at go; exact go false rfl rfl
  | bl c => rw [q] at sx e; rw [show v = .bl c from sx] at go; exact go c rfl (Option.some.inj e)
  | int i => rw [q] at sx e; cases e; rw [show v = .int i from sx] at go; exact go _ rfl rfl
  | str x =>
    rw [q] at sx e
    cases e
    rw [sx.1] at go
    refine go (((st x).length : Int) != 0) ⟨by rw [st_len, ← SL_eq]; exact sx.2.1, rfl⟩ ?_
    rw [st_len]
    cases x with
    | nil => rfl
    | cons c r => simp; omega
  | lst rs =>
    rw [q] at sx e
    cases e
    obtain ⟨p, vs, e1, h1, g1⟩ := sx
    rw [e1] at go
    exact go (!vs.isEmpty) (.inl ⟨vs, .inl h1, rfl⟩) (by rw [pair_empty g1])
  | tup rs =>
    rw [q] at sx e
    cases e
    obtain ⟨p, vs, e1, h1, g1⟩ := sx
    rw [ht] at h1
    rw [e1] at go
    exact go (!vs.isEmpty) (.inr (.inl ⟨vs, h1, rfl⟩)) (by rw [pair_empty g1])
  | dct ks rs =>
    rw [q] at sx e
    cases e
    obtain ⟨a, kvs, e1, h1, h2, h3, h4⟩ := sx
    subst e1
    cases rv
    refine d_truth I h1 fun s' J => ?_
    have ee : kvs.isEmpty = ks.isEmpty := by rw [h3]; cases kvs <;> rfl
    rw [ee]
    exact h s' J
  | obj c rs => rw [q] at e; cases e
  | no => rw [q] at e; cases e
end
/-- the truth of a value -/
def bOf (f : E) : B := fun env M => (f env M).bind fun r M1 => Ro.of (tru (vw M1 r)) M1
section
variable {t : Tx} {W : Wk} {X : Cx} {e : Expr} {f : E}
theorem b_core (ht : t.K = X.K) (h : PE X e (tE t W f)) {pins : List (Addr × Obj)} {s : Shared} {σ : L2.St} {H : Hp} {Q : Bool → Hp → Prop} (I : Inv X pins σ H s) (hw : tBo t W (bOf f) σ H Q) :
    wpAny (model X.prog X.w) X.A (eval e X.env) (fun v s1 => wpAny (model X.prog X.w) X.A (truthy v) (TP X pins σ Q) X.xe s1) X.xe s := by
  obtain ⟨ads, F, env, M, fr, hw⟩ := hw
  refine thn (h.run pins s σ H (fun v H1 => ∃ b, Q b H1 ∧ ∃ ads F M r, Rel t ads F M H1 ∧ IsR t F ads r v ∧ tru (vw M r) = some b) I (Fr.bind fr hw fun ads1 F1 M1 b1 H1 fr1 _ r pr k => ?_)) fun u s1 hu => ?_
  · cases q : tru (vw M1 r) with
    | none => rw [q] at k; exact k.elim
    | some b =>
      rw [q] at k
      exact ⟨b, k.ok fr1.rel rfl, ads1, F1, M1, r, fr1.rel, pr, q⟩
  · obtain ⟨v, H1, J, rv, b, qb, ads1, F1, M1, r, Rr, hr, q⟩ := hu
    exact tru_D ht J rv Rr hr q fun s' J' => ⟨H1, J', qb⟩
theorem pt_of (ht : t.K = X.K) (h : PE X e (tE t W f)) (he : ∀ whole, isTrue e X.env whole = (do let v ← whole; standAt e.pos; holding [v] (truthy v)) := by intro _; rfl) : PT X e (tBo t W (bOf f)) := by
  refine ⟨fun pins s σ H Q I hw => ?_⟩
  exact isTrue_plain (b_core ht h I hw) (he _)
end
section
variable {t : Tx} {W : Wk} {X : Cx} {a b : Expr} {fa fb : E} {pos : Pos} {g : R → R → Mem → Ro R}
theorem pe_bin {op : Operator} (ho : OpR X (binaryOp op) (rD t g)) (ha : PE X a (tE t W fa)) (hb : PE X b (tE t W fb)) : PE X (.BinOp a op b pos) (tE t W (eBin g fa fb)) := PE.imp (pe_op ho ha hb) fun _ _ _ h => tOp_D h
theorem pe_cmpD {op : CmpOp} (ho : OpR X (compareOp op) (rD t g)) (ha : PE X a (tE t W fa)) (hb : PE X b (tE t W fb)) (hm : behindInMarks op b = false) : PE X (.Compare a [op] [b] pos) (tE t W (eBin g fa fb)) := PE.imp (pe_cmpR ho ha hb hm) fun _ _ _ h => tOp_D h
/-- an answer that is a bool -/
def bCmp (f : E) : B := fun env M => (f env M).bind fun r M1 => match vw M1 r with
  | .bl b => .ok b M1
  | _ => .no
theorem pt_cmpD {op : CmpOp} (ho : OpR X (compareOp op) (rD t g)) (ha : PE X a (tE t W fa)) (hb : PE X b (tE t W fb)) (hm : behindInMarks op b = false) : PT X (.Compare a [op] [b] pos) (tBo t W (bCmp (eBin g fa fb))) := by
  refine PT.imp (pt_cmpR ho ha hb hm) fun σ H Q h => ?_
  refine tOp_D (t := t) (W := W) ?_
  obtain ⟨ads, F, env, M, fr, h⟩ := h
  refine Fr.bind fr h fun ads1 F1 M1 b1 H1 fr1 _ r pr k => ?_
  have sx := fr1.rel.view pr
  split at k
  · rename_i c e
    rw [e] at sx
    exact ⟨c, sx, k.ok fr1.rel rfl⟩
  · exact k.elim
theorem pe_ixD (hr : IxR X (rD t g)) (ha : PE X a (tE t W fa)) (hb : PE X b (tE t W fb)) (hs : PlainIx b) : PE X (.Subscript a b pos) (tE t W (eBin g fa fb)) := PE.imp (pe_ix hr ha hb hs) fun _ _ _ h => tOp_D h
/-! names and constants -/
def eVar (i : Nat) : E := fun env M => match env[i]? with
  | some (some r) => .ok r M
  | _ => .no
def eLit (d : D) : E := fun _ M => .ok (.d d) M
theorem pe_v {i : Nat} {x : Str} (hN : X.N[i]? = some x) (hv : Vis X.env.scope x) (hd : (x == ("__debug__" : Str)) = false := by decide) (hcd : (x == ("__classdict__" : Str)) = false := by decide) : PE X (.Name x pos) (tE t W (eVar i)) := by
  refine PE.imp (pe_var hN hv hd hcd) fun σ H Q h => ?_
  obtain ⟨ads, F, env, M, fr, h⟩ := h
  unfold eVar at h
  split at h
  · rename_i r e
    obtain ⟨v, e2, p⟩ := fr.env.get e
    exact ⟨v, e2, okR fr.rel p h⟩
  · exact h.elim
theorem lit_of {d : D} {v : V} (hi : ∀ F, Is t F d v) {e : Expr} (h : PE X e (tC v)) : PE X e (tE t W (eLit d)) := PE.imp h fun σ H Q k => by
  obtain ⟨ads, F, env, M, fr, k⟩ := k
  exact okR (r := .d d) fr.rel (hi F) k
theorem pe_i {i : Int} {j : Nat} : PE X (.Constant (.int i) j pos) (tE t W (eLit (.int i))) := lit_of (fun F => isI F i) pe_int
theorem pe_b {i : Bool} {j : Nat} : PE X (.Constant (.bool i) j pos) (tE t W (eLit (.bl i))) := lit_of (fun F => isB F i) pe_bl
theorem pe_n {j : Nat} : PE X (.Constant .none j pos) (tE t W (eLit .non)) := lit_of (fun F => isN F) pe_non
theorem pe_s {i : Str} {j : Nat} {s : T} (e : i = st s) (h : s.length ≤ SL ∧ s.all (fun c => decide (c < 0x110000)) = true) : PE X (.Constant (.str i) j pos) (tE t W (eLit (.str s))) := by
  subst e
  have hk : tOk s := ⟨h.1, by
    intro c hc
    have z := List.all_eq_true.mp h.2 c hc
    simpa using z⟩
  exact lit_of (fun F => isS F hk) pe_str
end
end Lc
set_option Elab.async false
set_option linter.all false
set_option maxRecDepth 100000
set_option maxHeartbeats 4000000
/-! Statements. -/
namespace Lc
open PySem PySem.Spec PyProof.Rows L2 LcX
/-- what follows a statement's result -/
def Ks (t : Tx) (W : Wk) (hs : List (Nat × V)) (ads : List Addr) (F H : Hp) (r : RS) (D : Ends) : Prop := match r with
  | .nx env' M' => ∀ ads' F' H' σ', Stp ads F H ads' F' H' → Fr t W σ' H' ads' F' env' M' → Hid hs σ' → D.nx σ' H'
  | .bk env' M' => ∀ ads' F' H' σ', Stp ads F H ads' F' H' → Fr t W σ' H' ads' F' env' M' → Hid hs σ' → D.bk σ' H'
  | .ct env' M' => ∀ ads' F' H' σ', Stp ads F H ads' F' H' → Fr t W σ' H' ads' F' env' M' → Hid hs σ' → D.ct σ' H'
  | .rt r M' => ∀ ads' F' H' v, Stp ads F H ads' F' H' → Rel t ads' F' M' H' → IsR t F' ads' r v → D.rt v H'
  | .ex x env' M' => ∀ ads' F' H' σ' cls dd, Stp ads F H ads' F' H' → Fr t W σ' H' ads' F' env' M' → Hid hs σ' → XIs t F' ads' H' x cls dd → (∀ d, dd = some d → H d = none) → W.w cls dd σ' H'
  | .no => False
def tS (t : Tx) (W : Wk) (hs : List (Nat × V)) (f : S) : TS := fun D σ H => ∃ ads F env M, Fr t W σ H ads F env M ∧ Hid hs σ ∧ Ks t W hs ads F H (f env M) D
section
variable {t : Tx} {W : Wk} {hs : List (Nat × V)} {F F' H H' : Hp} {ads ads' : List Addr} {σ : L2.St} {env : Env} {M : Mem} {D : Ends} {r : RS}
theorem Ks.step (s : Stp ads F H ads' F' H') (h : Ks t W hs ads F H r D) : Ks t W hs ads' F' H' r D := by
  cases r with
  | nx e m => exact fun _ _ _ _ s2 => h _ _ _ _ (s.trans s2)
  | bk e m => exact fun _ _ _ _ s2 => h _ _ _ _ (s.trans s2)
  | ct e m => exact fun _ _ _ _ s2 => h _ _ _ _ (s.trans s2)
  | rt v m => exact fun _ _ _ _ s2 => h _ _ _ _ (s.trans s2)
  | ex x e m => exact fun _ _ _ _ _ _ s2 f i p hd => h _ _ _ _ _ _ (s.trans s2) f i p fun d e => s.th d (hd d e)
  | no => exact h
theorem Ks.imp {D' : Ends} (h : Ks t W hs ads F H r D) (n : ∀ σ H, D.nx σ H → D'.nx σ H) (b : ∀ σ H, D.bk σ H → D'.bk σ H) (c : ∀ σ H, D.ct σ H → D'.ct σ H) (v : ∀ u H, D.rt u H → D'.rt u H) : Ks t W hs ads F H r D' := by
  cases r with
  | nx e m => exact fun _ _ _ _ s f x => n _ _ (h _ _ _ _ s f x)
  | bk e m => exact fun _ _ _ _ s f x => b _ _ (h _ _ _ _ s f x)
  | ct e m => exact fun _ _ _ _ s f x => c _ _ (h _ _ _ _ s f x)
  | rt u m => exact fun _ _ _ _ s f x => v _ _ (h _ _ _ _ s f x)
  | ex x e m => exact h
  | no => exact h
theorem tS.of {f : S} (fr : Fr t W σ H ads F env M) (hi : Hid hs σ) (h : Ks t W hs ads F H (f env M) D) : tS t W hs f D σ H := ⟨ads, F, env, M, fr, hi, h⟩
/-- an expression first -/
def sLift {α : Type} (f : Env → Mem → Ro α) (k : α → S) : S := fun env M => match f env M with
  | .ok a M1 => k a env M1
  | .ex x M1 => .ex x env M1
  | .no => .no
theorem Fr.lift {α β : Type} {P : Hp → List Addr → α → β → Prop} {f : Env → Mem → Ro α} {k : α → S} (fr : Fr t W σ H ads F env M) (hi : Hid hs σ) (h : Ks t W hs ads F H (sLift f k env M) D) {Q1 : β → Hp → Prop}
    (hq : ∀ ads1 F1 M1 b H1, Fr t W σ H1 ads1 F1 env M1 → Mon F F1 ads ads1 → ∀ a, P F1 ads1 a b → Ks t W hs ads1 F1 H1 (k a env M1) D → Q1 b H1) : tG t W P f σ H Q1 := by
  refine ⟨ads, F, env, M, fr, ?_⟩
  unfold sLift at h
  cases q : f env M with
  | ok a M1 =>
    rw [q] at h
    exact fun ads1 F1 H1 b s R p => hq ads1 F1 M1 b H1 (fr.step s R) s.mon a p (Ks.step s h)
  | ex x M1 =>
    rw [q] at h
    exact fun ads1 F1 H1 cls dd s R p hd => h ads1 F1 H1 σ cls dd s (fr.step s R) hi p hd
  | no => rw [q] at h; exact h.elim
end
/-! ### blocks -/
def sSeq (f g : S) : S := fun env M => match f env M with
  | .nx e m => g e m
  | r => r
def sNil : S := fun env M => .nx env M
def sDrop (f : E) : S := sLift f fun _ => sNil
def sRet (f : E) : S := sLift f fun r _ M => .rt r M
def sRetN : S := fun _ M => .rt (.d .non) M
def sIf (c : B) (f g : S) : S := sLift c fun b => if b then f else g
def sBrk : S := fun env M => .bk env M
def sCont : S := fun env M => .ct env M
def sSet (i : Nat) (f : E) : S := sLift f fun r env M => .nx (env.set i (some r)) M
def sNo : S := fun _ _ => .no
section
variable {t : Tx} {W : Wk} {hs : List (Nat × V)} {X : Cx} {st : Stmt} {rest : List Stmt} {f g : S} {e : Expr} {fe : E} {fb : B} {pos : Pos}
theorem b_nil : PSs X [] (tS t W hs sNil) := PSs.imp pss_nil fun D σ H h => by
  obtain ⟨ads, F, env, M, fr, hi, h⟩ := h
  exact h _ _ _ _ .refl fr hi
theorem b_cons (h1 : PS X st (tS t W hs f)) (h2 : PSs X rest (tS t W hs g)) : PSs X (st :: rest) (tS t W hs (sSeq f g)) := PSs.imp (pss_cons h1 h2) fun D σ H h => by
  obtain ⟨ads, F, env, M, fr, hi, h⟩ := h
  refine ⟨ads, F, env, M, fr, hi, ?_⟩
  unfold sSeq at h
  cases q : f env M with
  | nx e m =>
    rw [q] at h
    exact fun ads' F' H' σ' s fr' hi' => ⟨ads', F', e, m, fr', hi', Ks.step s h⟩
  | bk e m => rw [q] at h; exact h
  | ct e m => rw [q] at h; exact h
  | rt v m => rw [q] at h; exact h
  | ex x e m => rw [q] at h; exact h
  | no => rw [q] at h; exact h
theorem b_one (h1 : PS X st (tS t W hs f)) : PSs X [st] (tS t W hs f) := pss_one h1
theorem s_pass : PS X (.Pass pos) (tS t W hs sNil) := PS.imp ps_pass fun D σ H h => by
  obtain ⟨ads, F, env, M, fr, hi, h⟩ := h
  exact h _ _ _ _ .refl fr hi
theorem s_doc {x j pos'} : PS X (.Expr (.Constant (.str x) j pos) pos') (tS t W hs sNil) := PS.imp ps_doc fun D σ H h => by
  obtain ⟨ads, F, env, M, fr, hi, h⟩ := h
  exact h _ _ _ _ .refl fr hi
theorem s_brk : PS X (.Break pos) (tS t W hs sBrk) := PS.imp ps_break fun D σ H h => by
  obtain ⟨ads, F, env, M, fr, hi, h⟩ := h
  exact h _ _ _ _ .refl fr hi
theorem s_cont : PS X (.Continue pos) (tS t W hs sCont) := PS.imp ps_continue fun D σ H h => by
  obtain ⟨ads, F, env, M, fr, hi, h⟩ := h
  exact h _ _ _ _ .refl fr hi
theorem s_no {sts : List Stmt} : PSs X sts (tS t W hs sNo) := PSs.imp pss_never fun D σ H h => by
  obtain ⟨ads, F, env, M, fr, hi, h⟩ := h
  exact h.elim
theorem s_expr (he : PE X e (tE t W fe)) (hsw : swapsWith e none pos.line X.env = pure false := by rfl) : PS X (.Expr e pos) (tS t W hs (sDrop fe)) := PS.imp (ps_expr he hsw) fun D σ H h => by
  obtain ⟨ads, F, env, M, fr, hi, h⟩ := h
  exact Fr.lift fr hi h fun ads1 F1 M1 b H1 fr1 _ a p k => k _ _ _ _ .refl fr1 hi
theorem s_ret (he : PE X e (tE t W fe)) : PS X (.Return (some e) pos) (tS t W hs (sRet fe)) := PS.imp (ps_ret he) fun D σ H h => by
  obtain ⟨ads, F, env, M, fr, hi, h⟩ := h
  exact Fr.lift fr hi h fun ads1 F1 M1 b H1 fr1 _ a p k => k _ _ _ _ .refl fr1.rel p
theorem s_retN : PS X (.Return none pos) (tS t W hs sRetN) := PS.imp ps_retN fun D σ H h => by
  obtain ⟨ads, F, env, M, fr, hi, h⟩ := h
  exact h _ _ _ _ .refl fr.rel (isN (t := t) F)
theorem s_if {c : Expr} {a b : List Stmt} (hc : PT X c (tBo t W fb)) (ha : PSs X a (tS t W hs f)) (hb : PSs X b (tS t W hs g)) : PS X (.If c a b pos) (tS t W hs (sIf fb f g)) := PS.imp (ps_if hc ha hb) fun D σ H h => by
  obtain ⟨ads, F, env, M, fr, hi, h⟩ := h
  refine Fr.lift fr hi h fun ads1 F1 M1 b H1 fr1 _ a p k => ?_
  subst p
  cases a with
  | true => exact ⟨ads1, F1, env, M1, fr1, hi, k⟩
  | false => exact ⟨ads1, F1, env, M1, fr1, hi, k⟩
theorem Hid.set {σ : L2.St} {i : Nat} {u : Option V} (h : Hid hs σ) (hn : i ∉ hs.map (·.1)) : Hid hs (σ.set i u) := fun p hp => by
  have ne : i ≠ p.1 := fun z => hn (by rw [z]; exact List.mem_map_of_mem hp)
  rw [List.getElem?_set_ne ne]
  exact h p hp
theorem Fr.set {σ : L2.St} {H : Hp} {ads : List Addr} {F : Hp} {env : Env} {M : Mem} {i : Nat} {r : R} {v : V} (fr : Fr t W σ H ads F env M) (hx : ∀ p ∈ W.xs, p.i ≠ i) (h : IsR t F ads r v) : Fr t W (σ.set i (some v)) H ads F (env.set i (some r)) M := ⟨fr.rel, fr.env.set h, fun p hp => by
  obtain ⟨h1, h2⟩ := fr.xt p hp
  exact ⟨by rw [List.getElem?_set_ne (fun z => hx p hp z.symm)]; exact h1, h2⟩⟩
theorem s_set {i : Nat} {x : Str} {pos' : Pos} (hN : X.N.Nodup) (hi : X.N[i]? = some x) (hx : Loc X.env.scope x) (hn : i ∉ hs.map (·.1) ∧ ∀ p ∈ W.xs, p.i ≠ i) (he : PE X e (tE t W fe)) (hsw : swapsWith e (some (.Name x pos')) pos.line X.env = pure false := by rfl)
    (hf : X.fn x = true ∨ X.env.scope.names.lookup x = some .local := by first | exact .inl rfl | exact .inr rfl | assumption) : PS X (.Assign [.Name x pos'] e pos) (tS t W hs (sSet i fe)) := PS.imp (ps_set hN hi hx he hsw hf) fun D σ H h => by
  obtain ⟨ads, F, env, M, fr, hid, h⟩ := h
  exact Fr.lift fr hid h fun ads1 F1 M1 b H1 fr1 _ a p k => k _ _ _ _ .refl (fr1.set hn.2 p) (hid.set hn.1)
end
/-! ### targets -/
/-- a target's mirror -/
abbrev Tg := R → S
/-- only the slots sl may differ -/
def Same (sl : List Nat) (σ σ' : L2.St) : Prop := σ'.length = σ.length ∧ ∀ j, j ∉ sl → σ'[j]? = σ[j]?
theorem Same.refl (sl : List Nat) (σ : L2.St) : Same sl σ σ := ⟨rfl, fun _ _ => rfl⟩
theorem Same.trans {a b : List Nat} {σ σ1 σ2 : L2.St} (h : Same a σ σ1) (k : Same b σ1 σ2) : Same (a ++ b) σ σ2 := ⟨k.1.trans h.1, fun j hj => (k.2 j fun z => hj (List.mem_append_right _ z)).trans (h.2 j fun z => hj (List.mem_append_left _ z))⟩
theorem Same.set {σ : L2.St} {i : Nat} {u : Option V} : Same [i] σ (σ.set i u) := ⟨by simp, fun j hj => by
  rw [List.getElem?_set_ne (fun z => hj (by simp [z]))]⟩
structure PGd (t : Tx) (W : Wk) (hs : List (Nat × V)) (X : Cx) (e : Expr) (sl : List Nat) (g : TG) (f : Tg) : Prop where
  pg : PG X e g
  run : ∀ (σ : L2.St) (H : Hp) (ads : List Addr) (F : Hp) (env : Env) (M : Mem) (r : R) (v : V) (D : Ends), Fr t W σ H ads F env M → Hid hs σ → IsR t F ads r v → Ks t W hs ads F H (f r env M) D → g v σ H (fun σ' H' => Same sl σ σ' ∧ D.nx σ' H')
/-- .. of several, from the left -/
structure PGs' (t : Tx) (W : Wk) (hs : List (Nat × V)) (X : Cx) (es : List Expr) (sl : List Nat) (g : TGs) (f : List R → S) : Prop where
  pg : PGs X es g
  run : ∀ (σ : L2.St) (H : Hp) (ads : List Addr) (F : Hp) (env : Env) (M : Mem) (rs : List R) (vs : List V) (D : Ends), Fr t W σ H ads F env M → Hid hs σ → IsRs t F ads rs vs → Ks t W hs ads F H (f rs env M) D → g vs σ H (fun σ' H' => Same sl σ σ' ∧ D.nx σ' H')
/-- a weaker end -/
def gW (g : TG) : TG := fun v σ H Q => ∃ P : L2.St → Hp → Prop, (∀ σ' H', P σ' H' → Q σ' H') ∧ g v σ H P
theorem pg_weak {X : Cx} {e : Expr} {g : TG} (h : PG X e g) : PG X e (gW g) := ⟨fun pins s σ H v u Q I r k => by
  obtain ⟨P, hp, k⟩ := k
  exact thn (h.run pins s σ H v u P I r k) fun _ _ ⟨σ', H', J, q⟩ => ⟨σ', H', J, hp _ _ q⟩⟩
def gWs (g : TGs) : TGs := fun v σ H Q => ∃ P : L2.St → Hp → Prop, (∀ σ' H', P σ' H' → Q σ' H') ∧ g v σ H P
theorem pgs_weak {X : Cx} {e : List Expr} {g : TGs} (h : PGs X e g) : PGs X e (gWs g) := ⟨fun pins s σ H v u Q I r k => by
  obtain ⟨P, hp, k⟩ := k
  exact thn (h.run pins s σ H v u P I r k) fun _ _ ⟨σ', H', J, q⟩ => ⟨σ', H', J, hp _ _ q⟩⟩
def gSet (i : Nat) : Tg := fun r env M => .nx (env.set i (some r)) M
def gNone : List R → S := fun rs env M => match rs with
  | [] => .nx env M
  | _ => .no
/-- the next of several: only what goes on straight -/
def gMore (f : Tg) (g : List R → S) : List R → S := fun rs env M => match rs with
  | r :: rs => match f r env M with
    | .nx e m => g rs e m
    | _ => .no
  | [] => .no
def gTupD (n : Nat) (f : List R → S) : Tg := fun r env M => match vw M r with
  | .tup rs => if rs.length = n then f rs env M else .no
  | _ => .no
section
variable {t : Tx} {W : Wk} {hs : List (Nat × V)} {X : Cx} {e : Expr} {es : List Expr} {pos : Pos} {f : Tg} {g : List R → S} {sl sl2 : List Nat} {tg : TG} {tgs : TGs}
theorem g_name {i : Nat} {x : Str} (hN : X.N.Nodup) (hi : X.N[i]? = some x) (hx : Loc X.env.scope x) (hn : i ∉ hs.map (·.1) ∧ ∀ p ∈ W.xs, p.i ≠ i) (hf : X.fn x = true ∨ X.env.scope.names.lookup x = some .local := by first | exact .inl rfl | exact .inr rfl | assumption) : PGd t W hs X (.Name x pos) [i] (gName i) (gSet i) :=
  ⟨pg_name hN hi hx hf, fun σ H ads F env M r v D fr hid p k => ⟨.set, k _ _ _ _ .refl (fr.set hn.2 p) (hid.set hn.1)⟩⟩
theorem g_nil : PGs' t W hs X [] [] gNil gNone := ⟨pgs_nil, fun σ H ads F env M rs vs D fr hid p k => by
  cases p with
  | nil => exact ⟨rfl, .refl _ _, k _ _ _ _ .refl fr hid⟩
  | cons _ _ => exact k.elim⟩
theorem gWs_imp {vs : List V} {σ : L2.St} {H : Hp} {Q Q' : L2.St → Hp → Prop} (h : gWs tgs vs σ H Q) (k : ∀ σ' H', Q σ' H' → Q' σ' H') : gWs tgs vs σ H Q' := by
  obtain ⟨P, hp, z⟩ := h
  exact ⟨P, fun σ' H' q => k _ _ (hp _ _ q), z⟩
theorem g_cons (h1 : PGd t W hs X e sl tg f) (h2 : PGs' t W hs X es sl2 tgs g) (hss : (assignEach (e :: es) X.env).map (·.2) = assign e X.env :: (assignEach es X.env).map (·.2) := by rfl) : PGs' t W hs X (e :: es) (sl ++ sl2) (gCons (gW tg) (gWs tgs)) (gMore f g) := by
  refine ⟨pgs_cons (pg_weak h1.pg) (pgs_weak h2.pg) hss, fun σ H ads F env M rs vs D fr hid p k => ?_⟩
  cases p with
  | nil => exact k.elim
  | @cons r v rs vs hr hrs =>
    unfold gMore at k
    simp only at k
    cases q : f r env M with
    | nx e1 m =>
      rw [q] at k
      have z := h1.run σ H ads F env M r v { D with nx := fun σ' H' => gWs tgs vs σ' H' fun σ2 H2 => Same sl2 σ' σ2 ∧ D.nx σ2 H2 } fr hid hr (by
        rw [q]
        exact fun ads' F' H' σ' s fr' hid' => ⟨_, fun _ _ q => q, h2.run σ' H' ads' F' e1 m rs vs D fr' hid' (IsRs.mono s.mon hrs) (Ks.step s k)⟩)
      exact ⟨v, vs, rfl, _, fun σ' H' hp => gWs_imp hp.2 fun σ2 H2 q => ⟨hp.1.trans q.1, q.2⟩, z⟩
    | bk _ _ => rw [q] at k; exact k.elim
    | ct _ _ => rw [q] at k; exact k.elim
    | rt _ _ => rw [q] at k; exact k.elim
    | ex _ _ _ => rw [q] at k; exact k.elim
    | no => rw [q] at k; exact k.elim
theorem g_tup {n j : Nat} (ht : t.K = X.K) (hc : X.calm = true) (h : PGs' t W hs X es sl tgs g) (hn : (assignEach es X.env).length = n := by rfl) (hst : (assignEach es X.env).findIdx? (·.1) = none := by rfl) : PGd t W hs X (.Tuple es j pos) sl (gTup X.K n tgs) (gTupD n g) := by
  refine ⟨pg_tup hc h.pg hn hst, fun σ H ads F env M r v D fr hid p k => ?_⟩
  have sx := fr.rel.view p
  unfold gTupD at k
  split at k
  · rename_i rs ex
    rw [ex] at sx
    obtain ⟨a, vs, e1, h1, h2⟩ := sx
    split at k
    · rename_i c
      exact ⟨a, vs, e1, by rw [← ht]; exact h1, by rw [← Paired.length h2]; exact c, h.run σ H ads F env M rs vs D fr hid h2 k⟩
    · exact k.elim
  · exact k.elim
def sAsg (f : E) (g : Tg) : S := sLift f g
theorem s_asg {fe : E} {tge : Expr} (he : PE X e (tE t W fe)) (hg : PGd t W hs X tge sl tg f) (hsw : swapsWithSole [tge] e pos.line X.env = pure false := by rfl) (hw : swappedStores [tge] e X.env = pure none := by rfl)
    (h1 : (assignEach [tge] X.env).map (·.2) = [assign tge X.env] := by rfl) : PS X (.Assign [tge] e pos) (tS t W hs (sAsg fe f)) := by
  refine PS.imp (ps_asg he (pg_weak hg.pg) hsw hw h1) fun D σ H h => ?_
  obtain ⟨ads, F, env, M, fr, hid, h⟩ := h
  exact Fr.lift fr hid h fun ads1 F1 M1 b H1 fr1 _ a pa k => ⟨_, fun _ _ q => q.2, hg.run σ H1 ads1 F1 env M1 a b D fr1 hid pa k⟩
end
/-! ### while -/
def sWhile (c : B) (body : S) : Nat → S
  | 0 => fun _ _ => .no
  | n + 1 => sLift c fun b => if b then fun env M => match body env M with
      | .nx e m => sWhile c body n e m
      | .ct e m => sWhile c body n e m
      | .bk e m => .nx e m
      | .rt v m => .rt v m
      | .ex x e m => .ex x e m
      | .no => .no
    else sNil
section
variable {t : Tx} {W : Wk} {hs : List (Nat × V)} {X : Cx} {pos : Pos} {c : Expr} {fc : B} {body : List Stmt} {fb : S}
theorem s_while {n : Nat} (hp : PassesOwn (model X.prog X.w) X.A X.env X.xe) (hc : PT X c (tBo t W fc)) (hb : PSs X body (tS t W hs fb)) : PS X (.While c body [] pos) (tS t W hs (sWhile fc fb n)) := PS.imp (ps_while hp hc hb) fun D σ H h => by
  obtain ⟨ads, F, env, M, fr, hid, h⟩ := h
  refine ⟨fun m σ H => ∃ ads F env M, Fr t W σ H ads F env M ∧ Hid hs σ ∧ Ks t W hs ads F H (sWhile fc fb m env M) D, ⟨n, ads, F, env, M, fr, hid, h⟩, ?_⟩
  rintro m σ H ⟨ads, F, env, M, fr, hid, h⟩
  cases m with
  | zero => exact h.elim
  | succ m =>
    refine Fr.lift fr hid h fun ads1 F1 M1 b H1 fr1 _ a p k => ?_
    subst p
    cases a with
    | false => exact k _ _ _ _ .refl fr1 hid
    | true =>
      refine ⟨fun σ' H' => ∃ ads F env M, Fr t W σ' H' ads F env M ∧ Hid hs σ' ∧ Ks t W hs ads F H' (sWhile fc fb m env M) D, fun σ' H' hN => ⟨m, Nat.lt_succ_self _, hN⟩, ads1, F1, env, M1, fr1, hid, ?_⟩
      simp only [if_true] at k
      cases q : fb env M1 with
      | nx e m2 => rw [q] at k; exact fun ads' F' H' σ' s fr' hid' => ⟨ads', F', e, m2, fr', hid', Ks.step s k⟩
      | ct e m2 => rw [q] at k; exact fun ads' F' H' σ' s fr' hid' => ⟨ads', F', e, m2, fr', hid', Ks.step s k⟩
      | bk e m2 => rw [q] at k; exact k
      | rt v m2 => rw [q] at k; exact k
      | ex x e m2 => rw [q] at k; exact k
      | no => rw [q] at k; exact k
end
/-! ### for -/
def sFor {α : Type} (tg : α → S) (body : S) : List α → S
  | [] => sNil
  | a :: as => fun env M => match tg a env M with
    | .nx e m => match body e m with
      | .nx e m => sFor tg body as e m
      | .ct e m => sFor tg body as e m
      | .bk e m => .nx e m
      | .rt v m => .rt v m
      | .ex x e m => .ex x e m
      | .no => .no
    | _ => .no
section
variable {t : Tx} {W : Wk} {hs : List (Nat × V)} {X : Cx} {pos : Pos} {g : TG} {fb : S} {α : Type} {J : It} {items : List α} {tg : α → S} {D : Ends} {σ : L2.St} {H : Hp} {ads : List Addr} {F : Hp} {env : Env} {M : Mem}
theorem for_ok (Per : List Addr → Hp → Prop) (pm : ∀ ads ads' F F', Mon F F' ads ads' → Per ads F → Per ads' F') (stop : ∀ ads F H, Fx F H → Per ads F → J.stop items.length H) (go : ∀ i ads F H, i < items.length → Fx F H → Per ads F → J.go i H)
    (step : ∀ i a ads F env M σ H x H' D1, items[i]? = some a → Fr t W σ H ads F env M → Hid hs σ → Per ads F → J.yld i H x H' → Ks t W hs ads F H (tg a env M) D1 → g x σ H' D1.nx)
    (fr : Fr t W σ H ads F env M) (hid : Hid hs σ) (per : Per ads F) (h : Ks t W hs ads F H (sFor tg fb items env M) D) :
    ∃ Wv : Nat → Nat → L2.St → Hp → Prop, (∃ m, Wv 0 m σ H) ∧ ∀ i m σ H, Wv i m σ H →
      (J.stop i H ∧ D.nx σ H) ∨ (J.go i H ∧ ∃ N : L2.St → Hp → Prop, (∀ σ' H', N σ' H' → ∃ m', m' < m ∧ Wv (i + 1) m' σ' H') ∧ ∀ x H', J.yld i H x H' → g x σ H' fun σ2 H2 => tS t W hs fb { D with nx := N, ct := N, bk := D.nx } σ2 H2) := by
  refine ⟨fun i m σ H => i ≤ items.length ∧ m = items.length - i ∧ ∃ ads F env M, Fr t W σ H ads F env M ∧ Hid hs σ ∧ Per ads F ∧ Ks t W hs ads F H (sFor tg fb (items.drop i) env M) D, ⟨_, Nat.zero_le _, rfl, ads, F, env, M, fr, hid, per, h⟩, ?_⟩
  rintro i m σ H ⟨hi, rfl, ads, F, env, M, fr, hid, per, h⟩
  by_cases hl : i < items.length
  · rw [List.drop_eq_getElem_cons hl] at h
    refine .inr ⟨go i ads F H hl fr.rel.ex per, fun σ' H' => ∃ ads F env M, Fr t W σ' H' ads F env M ∧ Hid hs σ' ∧ Per ads F ∧ Ks t W hs ads F H' (sFor tg fb (items.drop (i + 1)) env M) D, fun σ' H' hN => ⟨_, by omega, hl, rfl, hN⟩, fun x H' y => ?_⟩
    refine step i items[i] ads F env M σ H x H' { D with nx := fun σ2 H2 => tS t W hs fb { D with nx := fun σ' H' => ∃ ads F env M, Fr t W σ' H' ads F env M ∧ Hid hs σ' ∧ Per ads F ∧ Ks t W hs ads F H' (sFor tg fb (items.drop (i + 1)) env M) D, ct := fun σ' H' => ∃ ads F env M, Fr t W σ' H' ads F env M ∧ Hid hs σ' ∧ Per ads F ∧ Ks t W hs ads F H' (sFor tg fb (items.drop (i + 1)) env M) D, bk := D.nx } σ2 H2 } (List.getElem?_eq_getElem hl) fr hid per y ?_
    unfold sFor at h
    cases q : tg items[i] env M with
    | nx e m =>
      rw [q] at h
      intro ads1 F1 H1 σ1 s1 fr1 hid1
      have per1 := pm _ _ _ _ s1.mon per
      refine ⟨ads1, F1, e, m, fr1, hid1, ?_⟩
      have h1 := Ks.step s1 h
      simp only at h1
      cases q2 : fb e m with
      | nx e2 m2 => rw [q2] at h1; exact fun ads' F' H' σ' s fr' hid' => ⟨ads', F', e2, m2, fr', hid', pm _ _ _ _ s.mon per1, Ks.step s h1⟩
      | ct e2 m2 => rw [q2] at h1; exact fun ads' F' H' σ' s fr' hid' => ⟨ads', F', e2, m2, fr', hid', pm _ _ _ _ s.mon per1, Ks.step s h1⟩
      | bk e2 m2 => rw [q2] at h1; exact h1
      | rt v m2 => rw [q2] at h1; exact h1
      | ex x e2 m2 => rw [q2] at h1; exact h1
      | no => rw [q2] at h1; exact h1
    | bk _ _ => rw [q] at h; exact h.elim
    | ct _ _ => rw [q] at h; exact h.elim
    | rt _ _ => rw [q] at h; exact h.elim
    | ex _ _ _ => rw [q] at h; exact h.elim
    | no => rw [q] at h; exact h.elim
  · have e : i = items.length := by omega
    subst e
    rw [List.drop_length] at h
    exact .inl ⟨stop ads F H fr.rel.ex per, h _ _ _ _ .refl fr hid⟩
end
end Lc
set_option Elab.async false
set_option linter.all false
set_option maxRecDepth 100000
set_option maxHeartbeats 4000000
/-! Walks: for, comprehensions. -/
namespace Lc
open PySem PySem.Spec PyProof.Rows L2 LcX
section
variable {t : Tx} {F H : Hp} {ads : List Addr} {M : Mem} {i : Nat} {c : Cell} {d : D}
/-- a cell that changes no more -/
theorem Rel.freeze (Rr : Rel t ads F M H) (hM : M[i]? = some c) (hd : pureC c = some d) : ∃ F', Rel t ads F' (M.set i (.frz d)) H ∧ Stp ads F H ads F' H := by
  obtain ⟨a, ha, hc⟩ := Rr.cell hM
  have hia : a ∈ ads := List.mem_of_getElem? ha
  have go : ∀ o, H a = some o → F a = none → Is t (upd F a o) d (.ref a) → ∃ F', Rel t ads F' (M.set i (.frz d)) H ∧ Stp ads F H ads F' H := fun o ho hf hi => by
    have fx : Fx F (upd F a o) := fun b u e => by rw [upd_ne (ne_of_none e hf)]; exact e
    have m : Mon F (upd F a o) ads ads := ⟨fx, [], by simp⟩
    refine ⟨upd F a o, ⟨fun b u e => ?_, Rr.nd, by simp [Rr.ln], Rr.th, fun j c' b e1 e2 => ?_⟩, fx, ⟨[], by simp, by simp⟩, fun b h1 h2 => ?_, fun _ _ e _ => e, fun _ e => e⟩
    · by_cases hb : b = a
      · subst hb
        rw [upd_same] at e
        rw [ho]
        exact e
      · rw [upd_ne hb] at e
        exact Rr.ex _ _ e
    · by_cases hj : i = j
      · subst hj
        have hl : i < M.length := (List.getElem?_eq_some_iff.mp hM).1
        rw [List.getElem?_set_self hl] at e1
        cases e1
        rw [ha] at e2
        cases e2
        exact hi
      · rw [List.getElem?_set_ne hj] at e1
        refine (Rr.ok j c' b e1 e2).keep m (fun _ e => e) fun z _ _ => ?_
        have nb : b ≠ a := fun z => hj ((List.getElem?_inj (List.getElem?_eq_some_iff.mp ha).1 Rr.nd).mp (by rw [ha, e2, z]))
        rw [upd_ne nb]
        exact z
    · by_cases hb : b = a
      · subst hb
        exact .inr hia
      · rw [upd_ne hb] at h2
        exact absurd h1 h2
  cases c with
  | frz d' =>
    cases hd
    refine ⟨F, ⟨Rr.ex, Rr.nd, by simp [Rr.ln], Rr.th, fun j c' b e1 e2 => ?_⟩, .refl⟩
    by_cases hj : i = j
    · subst hj
      have hl : i < M.length := (List.getElem?_eq_some_iff.mp hM).1
      rw [List.getElem?_set_self hl] at e1
      cases e1
      rw [ha] at e2
      cases e2
      exact hc
    · rw [List.getElem?_set_ne hj] at e1
      exact Rr.ok j c' b e1 e2
  | lst rs =>
    obtain ⟨hf, vs, h1, h2⟩ := hc
    exact go _ h1 hf (New.pure (c := .lst rs) ⟨vs, rfl, h2⟩ hd hf)
  | tup rs =>
    obtain ⟨hf, vs, h1, h2⟩ := hc
    exact go _ h1 hf (New.pure (c := .tup rs) ⟨vs, rfl, h2⟩ hd hf)
  | dct ks rs =>
    obtain ⟨hf, kvs, h1, h2, h3, h4⟩ := hc
    exact go _ h1 hf (New.pure (c := .dct ks rs) ⟨kvs, rfl, h2, h3, h4⟩ hd hf)
  | obj k rs =>
    obtain ⟨hf, dx, vs, h1, h2, h3⟩ := hc
    refine go _ h1 hf ?_
    cases q : pureRs rs with
    | none => simp [pureC, q] at hd
    | some ds =>
      simp [pureC, q] at hd
      subst hd
      unfold Is
      have fx : Fx F (upd F a (.ins (t.cad k) dx ((t.cfn k).zip vs))) := fun b u e => by rw [upd_ne (ne_of_none e hf)]; exact e
      refine ⟨a, dx, vs, rfl, upd_same, h2, ?_⟩
      rw [pureRs_some q] at h3
      exact IsL.mono fx _ (isL_iff.mpr (isRs_map.mp h3))
end
/-- what one walks along: data; a list in a cell is frozen -/
def seqOf : D → Option (List D)
  | .lst ds => some ds
  | .tup ds => some ds
  | .str s => some (s.map fun c => .str [c])
  | _ => none
def seqR (r : R) (M : Mem) : Ro (List R) := match r with
  | .d d => match seqOf d with
    | some ds => .ok (ds.map .d) M
    | none => .no
  | .ref i => match M[i]? with
    | some c => match pureC c with
      | some d => match seqOf d with
        | some ds => .ok (ds.map .d) (M.set i (.frz d))
        | none => .no
      | none => .no
    | none => .no
/-- the walk J yields the items, one after another -/
structure Walk (t : Tx) (W : Wk) (hs : List (Nat × V)) (g : TG) (sl : List Nat) {α : Type} (tg : α → S) (items : List α) (J : It) (Per : List Addr → Hp → Prop) : Prop where
  mono : ∀ ads ads' F F', Mon F F' ads ads' → Per ads F → Per ads' F'
  stop : ∀ ads F H, Fx F H → Per ads F → J.stop items.length H
  go : ∀ i ads F H, i < items.length → Fx F H → Per ads F → J.go i H
  step : ∀ i a ads F env M σ H x H' D1, items[i]? = some a → Fr t W σ H ads F env M → Hid hs σ → Per ads F → J.yld i H x H' → Ks t W hs ads F H (tg a env M) D1 → g x σ H' (fun σ' H' => Same sl σ σ' ∧ D1.nx σ' H')
def tI (t : Tx) (W W2 : Wk) (hs : List (Nat × V)) (g : TG) (sl : List Nat) {α : Type} (src : Env → Mem → Ro (List α)) (tg : α → S) : TI := fun σ H R => ∃ ads F env M, Fr t W σ H ads F env M ∧ match src env M with
  | .ok as M1 => ∀ ads1 F1 H1 J Per, Stp ads F H ads1 F1 H1 → Fr t W σ H1 ads1 F1 env M1 → Walk t W2 hs g sl tg as J Per → Per ads1 F1 → R J H1
  | .ex x M1 => ∀ ads1 F1 H1 cls dd, Stp ads F H ads1 F1 H1 → Rel t ads1 F1 M1 H1 → XIs t F1 ads1 H1 x cls dd → (∀ d, dd = some d → H d = none) → W.w cls dd σ H1
  | .no => False
theorem PI.imp {X : Cx} {tg iter : Expr} {w w' : TI} (h : PI X tg iter w) (k : ∀ σ H R, w' σ H R → w σ H R) : PI X tg iter w' := ⟨fun pins s σ H R I q => h.run pins s σ H R I (k _ _ _ q)⟩
/-- from the source's value on -/
theorem tI.src {t : Tx} {W W2 : Wk} {hs : List (Nat × V)} {g : TG} {sl : List Nat} {α γ δ : Type} {P : Hp → List Addr → γ → δ → Prop} {f : Env → Mem → Ro γ} {k : γ → Mem → Ro (List α)} {tg : α → S} {σ : L2.St} {H : Hp} {R : It → Hp → Prop}
    (h : tI t W W2 hs g sl (fun env M => (f env M).bind k) tg σ H R) {Q1 : δ → Hp → Prop}
    (hq : ∀ ads1 F1 env M1 b H1, Fr t W σ H1 ads1 F1 env M1 → ∀ a, P F1 ads1 a b → (match k a M1 with
      | .ok as M2 => ∀ ads2 F2 H2 J Per, Stp ads1 F1 H1 ads2 F2 H2 → Fr t W σ H2 ads2 F2 env M2 → Walk t W2 hs g sl tg as J Per → Per ads2 F2 → R J H2
      | .ex x M2 => ∀ ads2 F2 H2 cls dd, Stp ads1 F1 H1 ads2 F2 H2 → Rel t ads2 F2 M2 H2 → XIs t F2 ads2 H2 x cls dd → (∀ d, dd = some d → H1 d = none) → W.w cls dd σ H2
      | .no => False) → Q1 b H1) : tG t W P f σ H Q1 := by
  obtain ⟨ads, F, env, M, fr, h⟩ := h
  refine ⟨ads, F, env, M, fr, ?_⟩
  dsimp only at h
  cases q : f env M with
  | ok a M1 =>
    rw [q] at h
    simp only [Ro.bind_ok] at h
    refine fun ads1 F1 H1 b s R p => hq ads1 F1 env M1 b H1 (fr.step s R) a p ?_
    cases q2 : k a M1 with
    | ok as M2 => rw [q2] at h; exact fun ads2 F2 H2 J Per s2 fr2 => h ads2 F2 H2 J Per (s.trans s2) fr2
    | ex x M2 => rw [q2] at h; exact fun ads2 F2 H2 cls dd s2 R2 p2 hd => h ads2 F2 H2 cls dd (s.trans s2) R2 p2 fun d e => s.th d (hd d e)
    | no => rw [q2] at h; exact h
  | ex x M1 => rw [q] at h; exact h
  | no => rw [q] at h; exact h.elim
section
variable {t : Tx} {W W2 : Wk} {hs : List (Nat × V)} {X : Cx} {tg l : Expr} {g : TG} {sl : List Nat} {f : E} {fg : Tg}
/-- a target for any one value -/
abbrev TgOk (t : Tx) (W : Wk) (hs : List (Nat × V)) (sl : List Nat) (g : TG) (f : Tg) : Prop := ∀ (σ : L2.St) (H : Hp) (ads : List Addr) (F : Hp) (env : Env) (M : Mem) (r : R) (v : V) (D : Ends), Fr t W σ H ads F env M → Hid hs σ → IsR t F ads r v → Ks t W hs ads F H (f r env M) D → g v σ H (fun σ' H' => Same sl σ σ' ∧ D.nx σ' H')
theorem pi_any {tl : TE} (hl : PE X l tl) : PI X tg l (fun σ H R => tl σ H fun x H1 => (∃ a, x = .ref a ∧ (∃ xs, SqL X.K H1 a xs) ∧ R (Itl X.K a) H1) ∨ (∃ a, x = .ref a ∧ (∃ xs, SqT X.K H1 a xs) ∧ R (Itt X.K a) H1) ∨ ∃ x', x = .str x' ∧ R (Its x') H1) := by
  refine ⟨fun pins s σ H R I h => ?_⟩
  refine thn (hl.run pins s σ H _ I h) fun v s1 ⟨x, H1, I1, r1, q1⟩ => ?_
  rcases q1 with ⟨a, rfl, ⟨xs, hq⟩, q⟩ | ⟨a, rfl, ⟨xs, hq⟩, q⟩ | ⟨x', rfl, q⟩
  · cases r1
    obtain ⟨its, rv, p, hz⟩ := I1.list hq
    refine wpAny_pyIter_list p.isList ?_
    exact pi_one (tk := s1.toks) I1 _ (turn_list a _) ⟨_, Heap.get?_push_size _ rfl, rfl, rfl⟩ q
  · cases r1
    obtain ⟨its, rv, p, hz⟩ := I1.tuple hq
    refine wpAny_pyIter_tuple (show s1.heap.IsTuple a its.toArray from p) ?_
    exact pi_one (tk := s1.toks) I1 _ (turn_tuple a _) ⟨_, Heap.get?_push_size _ rfl, rfl, rfl⟩ q
  · obtain ⟨t, rfl⟩ := r1
    cases ha : x'.cps.all (· < 128)
    · exact wpAny_pyIter_wide ha (pi_one (tk := s1.toks) I1 _ (turn_str _ x' t "str_iterator" (.inr rfl)) ⟨_, Heap.get?_push_size _ rfl, rfl, rfl⟩ q)
    · exact wpAny_pyIter_ascii ha (pi_one (tk := s1.toks) I1 _ (turn_str _ x' t "str_ascii_iterator" (.inl rfl)) ⟨_, Heap.get?_push_size _ rfl, rfl, rfl⟩ q)
theorem rd_inj {K : PySem.W.Frag} {F H : Hp} {a : Addr} {xs : List V} (m : Fx F H) (h : Rd F a (.lst xs)) : SqL K H a xs := .inl (rd_mon m h)
/-- a list that stands still -/
theorem walk_list {ds : List D} {a : Addr} {vs : List V} (hg : TgOk t W2 hs sl g fg) : Walk t W2 hs g sl fg (ds.map .d) (Itl t.K a) (fun _ F => Rd F a (.lst vs) ∧ IsL t F ds vs) where
  mono := fun ads ads' F F' m p => ⟨rd_mon m.ex p.1, IsL.mono m.ex _ p.2⟩
  stop := fun ads F H m p => ⟨vs, rd_inj m p.1, by rw [List.length_map, Paired.length (isL_iff.mp p.2)]; exact Nat.le_refl _⟩
  go := fun i ads F H hi m p => by
    have hl := Paired.length (isL_iff.mp p.2)
    rw [List.length_map] at hi
    exact ⟨vs, vs[i]'(by omega), rd_inj m p.1, List.getElem?_eq_getElem (by omega)⟩
  step := fun i r ads F env M σ H x H' D1 e fr hid p y k => by
    obtain ⟨rfl, y⟩ := y
    have hv := y vs (rd_inj fr.rel.ex p.1)
    rw [List.getElem?_map] at e
    cases q : ds[i]? with
    | none => rw [q] at e; cases e
    | some d =>
      rw [q] at e
      cases e
      obtain ⟨v, e2, hd⟩ := pair_get (isL_iff.mp p.2) q
      rw [hv] at e2
      cases e2
      exact hg σ _ ads F env M (.d d) x D1 fr hid hd k
theorem walk_tup {ds : List D} {a : Addr} {vs : List V} (hg : TgOk t W2 hs sl g fg) : Walk t W2 hs g sl fg (ds.map .d) (Itt t.K a) (fun _ F => SqT t.K F a vs ∧ IsL t F ds vs) where
  mono := fun ads ads' F F' m p => ⟨sqt_mon m.ex p.1, IsL.mono m.ex _ p.2⟩
  stop := fun ads F H m p => ⟨vs, sqt_mon m p.1, by rw [List.length_map, Paired.length (isL_iff.mp p.2)]; exact Nat.le_refl _⟩
  go := fun i ads F H hi m p => by
    have hl := Paired.length (isL_iff.mp p.2)
    rw [List.length_map] at hi
    exact ⟨vs, vs[i]'(by omega), sqt_mon m p.1, List.getElem?_eq_getElem (by omega)⟩
  step := fun i r ads F env M σ H x H' D1 e fr hid p y k => by
    obtain ⟨rfl, y⟩ := y
    have hv := y vs (sqt_mon fr.rel.ex p.1)
    rw [List.getElem?_map] at e
    cases q : ds[i]? with
    | none => rw [q] at e; cases e
    | some d =>
      rw [q] at e
      cases e
      obtain ⟨v, e2, hd⟩ := pair_get (isL_iff.mp p.2) q
      rw [hv] at e2
      cases e2
      exact hg σ _ ads F env M (.d d) x D1 fr hid hd k
end
section
variable {t : Tx} {W W2 : Wk} {hs : List (Nat × V)} {X : Cx} {tg l : Expr} {g : TG} {sl : List Nat} {f : E} {fg : Tg}
def srcSeq (f : E) : Env → Mem → Ro (List R) := fun env M => (f env M).bind seqR
/-- data is walked -/
theorem walk_D {ads : List Addr} {F H : Hp} {M : Mem} {σ : L2.St} {env : Env} {d : D} {ds : List D} {v : V} {R : It → Hp → Prop} (ht : t.K = X.K) (hg : TgOk t W2 hs sl g fg) (fr : Fr t W σ H ads F env M) (h : Is t F d v) (e : seqOf d = some ds)
    (k : ∀ J Per, Walk t W2 hs g sl fg (ds.map .d) J Per → Per ads F → R J H) :
    (∃ a, v = .ref a ∧ (∃ xs, SqL X.K H a xs) ∧ R (Itl X.K a) H) ∨ (∃ a, v = .ref a ∧ (∃ xs, SqT X.K H a xs) ∧ R (Itt X.K a) H) ∨ ∃ x', v = .str x' ∧ R (Its x') H := by
  cases d with
  | lst ds' =>
    cases e
    unfold Is at h
    obtain ⟨a, vs, rfl, h1, h2⟩ := h
    exact .inl ⟨a, rfl, ⟨vs, rd_inj fr.rel.ex h1⟩, ht ▸ k _ _ (walk_list (vs := vs) hg) ⟨h1, h2⟩⟩
  | tup ds' =>
    cases e
    unfold Is at h
    obtain ⟨a, vs, rfl, h1, h2⟩ := h
    exact .inr (.inl ⟨a, rfl, ⟨vs, ht ▸ sqt_mon fr.rel.ex h1⟩, ht ▸ k _ _ (walk_tup (vs := vs) hg) ⟨h1, h2⟩⟩)
  | str s =>
    cases e
    unfold Is at h
    obtain ⟨rfl, h2⟩ := h
    refine .inr (.inr ⟨_, rfl, k _ (fun _ _ => True) ⟨fun _ _ _ _ _ _ => trivial, fun _ _ _ _ _ => ?_, fun i _ _ _ hi _ _ => ?_, fun i r ads F env M σ H x H' D1 e fr hid p y k => ?_⟩ trivial⟩)
    · show (st s).cps.size ≤ _
      simp [st]
    · show i < (st s).cps.size
      simpa [st] using hi
    · obtain ⟨rfl, c, hc, rfl⟩ := y
      have hc2 : s[i]? = some c := by simpa [st] using hc
      rw [List.getElem?_map, List.getElem?_map, hc2] at e
      cases e
      exact hg σ _ ads F env M (.d (.str [c])) _ D1 fr hid (isS (t := t) F (s := [c]) (tOk_one h2 (List.mem_of_getElem? hc2))) k
  | _ => cases e
theorem i_seq (ht : t.K = X.K) (hl : PE X l (tE t W f)) (hg : TgOk t W2 hs sl g fg) : PI X tg l (tI t W W2 hs g sl (srcSeq f) fg) := PI.imp (pi_any hl) fun σ H R h => by
  refine tI.src (P := IsR t) h fun ads1 F1 env M1 v H1 fr r pr k => ?_
  cases r with
  | d d =>
    unfold seqR at k
    cases e : seqOf d with
    | none => simp only [e] at k
    | some ds =>
      simp only [e] at k
      exact walk_D ht hg fr pr e fun J Per w p => k _ _ _ J Per .refl fr w p
  | ref i =>
    unfold seqR at k
    cases e1 : M1[i]? with
    | none => simp only [e1] at k
    | some c =>
      simp only [e1] at k
      cases e2 : pureC c with
      | none => simp only [e2] at k
      | some d =>
        simp only [e2] at k
        cases e3 : seqOf d with
        | none => simp only [e3] at k
        | some ds =>
          simp only [e3] at k
          obtain ⟨F2, R2, s2⟩ := fr.rel.freeze e1 e2
          have fr2 := fr.step s2 R2
          obtain ⟨a, ha, ev⟩ := pr
          have hd : Is t F2 d v := by
            have hl : i < M1.length := (List.getElem?_eq_some_iff.mp e1).1
            have z := R2.ok i (.frz d) a (List.getElem?_set_self hl) ha
            rw [ev]
            exact z
          exact walk_D ht hg fr2 hd e3 fun J Per w p => k _ _ _ J Per s2 fr2 w p
/-! ranges -/
def rgOk (i : Int) : Bool := decide (-(2 ^ 62) ≤ i) && decide (i < 2 ^ 62)
def rngL (lo : Int) (n : Nat) : List R := (List.range n).map fun (k : Nat) => R.d (D.int (lo + (k : Int)))
theorem walk_rng {lo : Int} {n : Nat} (hg : TgOk t W2 hs sl g fg) : Walk t W2 hs g sl fg (rngL lo n) (Itr lo n) (fun _ _ => True) where
  mono := fun _ _ _ _ _ _ => trivial
  stop := fun _ _ _ _ _ => by simp [rngL, Itr]
  go := fun i _ _ _ hi _ _ => by simpa [rngL, Itr] using hi
  step := fun i r ads F env M σ H x H' D1 e fr hid p y k => by
    obtain ⟨rfl, rfl⟩ := y
    unfold rngL at e
    rw [List.getElem?_map] at e
    cases q : (List.range n)[i]? with
    | none => rw [q] at e; cases e
    | some j =>
      rw [q] at e
      cases e
      have hj : j = i := by
        have := List.getElem?_eq_some_iff.mp q
        obtain ⟨h1, h2⟩ := this
        simpa using h2.symm
      subst hj
      exact hg σ _ ads F env M (.d (.int (lo + ((j : Nat) : Int)))) _ D1 fr hid (isI (t := t) F _) k
/-- written arguments, from the left -/
def esNil : Es := fun _ M => .ok [] M
def esCons (f : E) (g : Es) : Es := fun env M => (f env M).bind fun x M1 => (g env M1).bind fun xs M2 => .ok (x :: xs) M2
theorem a_nil : PA X [] (tEs t W esNil) := PA.imp pa_nil fun σ H Q h => by
  obtain ⟨ads, F, env, M, fr, h⟩ := h
  exact h _ _ _ _ .refl fr.rel .nil
theorem a_cons {e : Expr} {es : List Expr} {fs : Es} (h1 : PE X e (tE t W f)) (h2 : PA X es (tEs t W fs)) (hs : starEach (e :: es) X.env = (false, eval e X.env) :: starEach es X.env := by rfl) : PA X (e :: es) (tEs t W (esCons f fs)) := PA.imp (pa_cons h1 h2 hs) fun σ H Q h => by
  obtain ⟨ads, F, env, M, fr, h⟩ := h
  refine Fr.bind fr h fun ads1 F1 M1 b1 H1 fr1 _ x px h1 => ?_
  refine Fr.bind fr1 h1 fun ads2 F2 M2 b2 H2 fr2 m xs pxs h2 => ?_
  exact h2.ok fr2.rel (.cons (px.mono m) pxs)
def one : List R → Option R
  | [x] => some x
  | _ => none
def two : List R → Option (R × R)
  | [x, y] => some (x, y)
  | _ => none
theorem one_eq {rs : List R} {x : R} (h : one rs = some x) : rs = [x] := by
  unfold one at h
  split at h
  · cases h; rfl
  · cases h
theorem two_eq {rs : List R} {x y : R} (h : two rs = some (x, y)) : rs = [x, y] := by
  unfold two at h
  split at h
  · cases h; rfl
  · cases h
/-- a source: the arguments, then what they give -/
def srcOf {α : Type} (fs : Es) (k : List R → Mem → Ro (List α)) : Env → Mem → Ro (List α) := fun env M => (fs env M).bind k
def kR1 : List R → Mem → Ro (List R) := fun rs M => match one rs with
  | some x => match vw M x with
    | .int j => if rgOk j then .ok (rngL 0 j.toNat) M else .no
    | _ => .no
  | none => .no
def kR2 : List R → Mem → Ro (List R) := fun rs M => match two rs with
  | some (x, y) => match vw M x, vw M y with
    | .int i, .int j => if rgOk i && rgOk j then .ok (rngL i (j - i).toNat) M else .no
    | _, _ => .no
  | none => .no
theorem i_rng1 {a : Expr} {fs : Es} {p pos : Pos} (hgl : Gl X "range") (hm : X.mg "range" = none) (ha : PA X [a] (tEs t W fs)) (hg : TgOk t W2 hs sl g fg) (hs' : starEach [a] X.env = [(false, eval a X.env)] := by rfl) : PI X tg (.Call (.Name "range" p) [a] [] pos) (tI t W W2 hs g sl (srcOf fs kR1) fg) :=
  PI.imp (pi_range1 hgl hm ha hs') fun σ H R h => by
    refine tI.src (P := IsRs t) h fun ads1 F1 env M1 vs H1 fr rs pr k => ?_
    unfold kR1 at k
    cases q1 : one rs with
    | none => simp only [q1] at k
    | some x =>
      simp only [q1] at k
      cases one_eq q1
      cases pr with
      | @cons _ v _ _ px pn =>
        cases pn
        have sx := fr.rel.view px
        cases q : vw M1 x with
        | int j =>
          simp only [q] at k sx
          by_cases c : rgOk j = true
          · simp only [c, if_true] at k
            unfold rgOk at c
            simp only [Bool.and_eq_true, decide_eq_true_eq] at c
            exact ⟨j, by rw [show v = .int j from sx], c.1, c.2, k _ _ _ _ (fun _ _ => True) .refl fr (walk_rng hg) trivial⟩
          · simp only [c] at k
            exact k.elim
        | _ => simp only [q] at k
theorem i_rng2 {a b : Expr} {fs : Es} {p pos : Pos} (hgl : Gl X "range") (hm : X.mg "range" = none) (ha : PA X [a, b] (tEs t W fs)) (hg : TgOk t W2 hs sl g fg) (hs' : starEach [a, b] X.env = [(false, eval a X.env), (false, eval b X.env)] := by rfl) (hs2 : starEach [b] X.env = [(false, eval b X.env)] := by rfl) :
    PI X tg (.Call (.Name "range" p) [a, b] [] pos) (tI t W W2 hs g sl (srcOf fs kR2) fg) :=
  PI.imp (pi_range2 hgl hm ha hs' hs2) fun σ H R h => by
    refine tI.src (P := IsRs t) h fun ads1 F1 env M1 vs H1 fr rs pr k => ?_
    unfold kR2 at k
    cases q1 : two rs with
    | none => simp only [q1] at k
    | some xy =>
      obtain ⟨x, y⟩ := xy
      simp only [q1] at k
      cases two_eq q1
      cases pr with
      | @cons _ v _ _ px pn =>
        cases pn with
        | @cons _ w _ _ py pn =>
          cases pn
          have sx := fr.rel.view px
          have sy := fr.rel.view py
          cases q : vw M1 x with
          | int i =>
            simp only [q] at k sx
            cases q2 : vw M1 y with
            | int j =>
              simp only [q2] at k sy
              by_cases c : (rgOk i && rgOk j) = true
              · simp only [c, if_true] at k
                unfold rgOk at c
                simp only [Bool.and_eq_true, decide_eq_true_eq] at c
                exact ⟨i, j, by rw [show v = .int i from sx, show w = .int j from sy], ⟨c.1.1, c.1.2, c.2.1, c.2.2⟩, k _ _ _ _ (fun _ _ => True) .refl fr (walk_rng hg) trivial⟩
              · simp only [c] at k
                exact k.elim
            | _ => simp only [q2] at k
          | _ => simp only [q] at k
/-! enumerate, zip: the target is a written tuple -/
abbrev TgsOk (t : Tx) (W : Wk) (hs : List (Nat × V)) (sl : List Nat) (g : TGs) (f : List R → S) : Prop := ∀ (σ : L2.St) (H : Hp) (ads : List Addr) (F : Hp) (env : Env) (M : Mem) (rs : List R) (vs : List V) (D : Ends), Fr t W σ H ads F env M → Hid hs σ → IsRs t F ads rs vs → Ks t W hs ads F H (f rs env M) D → g vs σ H (fun σ' H' => Same sl σ σ' ∧ D.nx σ' H')
/-- a pair made anew is taken apart -/
theorem pair_step {tgs : TGs} {fgs : List R → S} {σ : L2.St} {H : Hp} {ads : List Addr} {F : Hp} {env : Env} {M : Mem} {rs : List R} {vs : List V} {T : Addr} {n : Nat} {D1 : Ends} (hg : TgsOk t W2 hs sl tgs fgs) (fr : Fr t W2 σ H ads F env M) (hid : Hid hs σ) (hT : H T = none) (p : IsRs t F ads rs vs) (hn : vs.length = n)
    (k : Ks t W2 hs ads F H (fgs rs env M) D1) : gTup t.K n tgs (.ref T) σ (upd H T (.tup vs)) (fun σ' H' => Same sl σ σ' ∧ D1.nx σ' H') := by
  obtain ⟨r2, s2⟩ := fr.rel.newF (o := .tup vs) hT
  exact ⟨T, vs, rfl, SqT.of upd_same, hn, hg σ _ ads _ env M rs vs D1 (fr.step s2 r2) hid (IsRs.mono s2.mon p) (Ks.step s2 k)⟩
def enumL (ds : List D) : List (List R) := ds.zipIdx.map fun p => [.d (.int (p.2 : Nat)), .d p.1]
def lstR' (r : R) (M : Mem) : Ro (List D) := match r with
  | .d (.lst ds) => .ok ds M
  | .d _ => .no
  | .ref i => match M[i]? with
    | some (.frz (.lst ds)) => .ok ds M
    | some (.lst rs) => match pureRs rs with
      | some ds => .ok ds (M.set i (.frz (.lst ds)))
      | none => .no
    | _ => .no
/-- a list that from now on stands still -/
theorem lst_still {σ : L2.St} {H : Hp} {ads : List Addr} {F : Hp} {env : Env} {M : Mem} {r : R} {v : V} {α : Type} {kk : List D → Mem → Ro α} {Z : Prop} (fr : Fr t W σ H ads F env M) (h : IsR t F ads r v) {rr : Ro α} (e : (lstR' r M).bind kk = rr)
    (go : ∀ ds F' M' a vs, Stp ads F H ads F' H → Fr t W σ H ads F' env M' → v = .ref a → Rd F' a (.lst vs) → IsL t F' ds vs → kk ds M' = rr → Z) (no : rr = .no → Z) : Z := by
  cases r with
  | d d =>
    cases d with
    | lst ds =>
      have h : Is t F (.lst ds) v := h
      unfold Is at h
      obtain ⟨a, vs, ev, h1, h2⟩ := h
      exact go ds F M a vs .refl fr ev h1 h2 e
    | _ => exact no e.symm
  | ref i =>
    obtain ⟨a, ha, ev⟩ := h
    unfold lstR' at e
    cases q : M[i]? with
    | none => simp only [q] at e; exact no e.symm
    | some c =>
      simp only [q] at e
      cases c with
      | frz d =>
        cases d with
        | lst ds =>
          have hc : Is t F (.lst ds) (.ref a) := fr.rel.ok i _ a q ha
          unfold Is at hc
          obtain ⟨a', vs, e2, h1, h2⟩ := hc
          cases e2
          exact go ds F M a vs .refl fr ev h1 h2 e
        | _ => exact no e.symm
      | lst rs =>
        dsimp only at e
        cases q2 : pureRs rs with
        | none => simp only [q2] at e; exact no e.symm
        | some ds =>
          simp only [q2] at e
          obtain ⟨F2, R2, s2⟩ := fr.rel.freeze (c := .lst rs) (d := .lst ds) q (by simp [pureC, q2])
          have hl : i < M.length := (List.getElem?_eq_some_iff.mp q).1
          have hc : Is t F2 (.lst ds) (.ref a) := R2.ok i (.frz (.lst ds)) a (List.getElem?_set_self hl) ha
          unfold Is at hc
          obtain ⟨a', vs, e2, h1, h2⟩ := hc
          cases e2
          exact go ds F2 _ a vs s2 (fr.step s2 R2) ev h1 h2 e
      | _ => exact no e.symm
end
section
variable {t : Tx} {W W2 : Wk} {hs : List (Nat × V)} {X : Cx} {sl : List Nat} {tgs : TGs} {fgs : List R → S}
def kEnum : List R → Mem → Ro (List (List R)) := fun rs M => match one rs with
  | some x => (lstR' x M).bind fun ds M1 => .ok (enumL ds) M1
  | none => .no
theorem enumL_get {ds : List D} {i : Nat} {rs : List R} (h : (enumL ds)[i]? = some rs) : ∃ d, ds[i]? = some d ∧ rs = [.d (.int (i : Nat)), .d d] := by
  unfold enumL at h
  rw [List.getElem?_map] at h
  cases q : ds.zipIdx[i]? with
  | none => rw [q] at h; cases h
  | some p =>
    rw [q] at h
    cases h
    rw [List.getElem?_zipIdx] at q
    cases q2 : ds[i]? with
    | none => rw [q2] at q; cases q
    | some d =>
      rw [q2] at q
      cases q
      exact ⟨d, rfl, by simp⟩
theorem enumL_len (ds : List D) : (enumL ds).length = ds.length := by simp [enumL]
theorem walk_enum {ds : List D} {a : Addr} {vs : List V} (hg : TgsOk t W2 hs sl tgs fgs) : Walk t W2 hs (gTup t.K 2 tgs) sl fgs (enumL ds) (Ite t.K a) (fun _ F => Rd F a (.lst vs) ∧ IsL t F ds vs) where
  mono := fun ads ads' F F' m p => ⟨rd_mon m.ex p.1, IsL.mono m.ex _ p.2⟩
  stop := fun ads F H m p => ⟨vs, rd_inj m p.1, by rw [enumL_len, Paired.length (isL_iff.mp p.2)]; exact Nat.le_refl _⟩
  go := fun i ads F H hi m p => by
    have hl := Paired.length (isL_iff.mp p.2)
    rw [enumL_len] at hi
    exact ⟨vs, vs[i]'(by omega), rd_inj m p.1, List.getElem?_eq_getElem (by omega)⟩
  step := fun i r ads F env M σ H x H' D1 e fr hid p y k => by
    obtain ⟨T, v, rfl, hT, rfl, y⟩ := y
    have hv := y vs (rd_inj fr.rel.ex p.1)
    obtain ⟨d, hd, rfl⟩ := enumL_get e
    obtain ⟨v', e2, hd⟩ := pair_get (isL_iff.mp p.2) hd
    rw [hv] at e2
    cases e2
    exact pair_step hg fr hid hT (rs := [.d (.int (i : Nat)), .d d]) (vs := [.int (i : Nat), v]) (.cons (isI (t := t) F _) (.cons hd .nil)) rfl k
theorem i_enum {a : Expr} {fs : Es} {p pos tpos : Pos} {elts : List Expr} {kk : Nat} (ht : t.K = X.K) (hgl : Gl X "enumerate") (hm : X.mg "enumerate" = none) (ha : PA X [a] (tEs t W fs)) (hg : TgsOk t W2 hs sl tgs fgs) (hs' : starEach [a] X.env = [(false, eval a X.env)] := by rfl) :
    PI X (.Tuple elts kk tpos) (.Call (.Name "enumerate" p) [a] [] pos) (tI t W W2 hs (gTup t.K 2 tgs) sl (srcOf fs kEnum) fgs) :=
  PI.imp (pi_enum hgl hm ha hs') fun σ H R h => by
    refine tI.src (P := IsRs t) h fun ads1 F1 env M1 vs H1 fr rs pr k => ?_
    unfold kEnum at k
    cases q1 : one rs with
    | none => simp only [q1] at k
    | some x =>
      simp only [q1] at k
      cases one_eq q1
      cases pr with
      | @cons _ v _ _ px pn =>
        cases pn
        refine lst_still fr px (rr := (lstR' x M1).bind fun ds M1 => .ok (enumL ds) M1) rfl (fun ds F' M' a vs s fr' ev h1 h2 e => ?_) fun e => ?_
        · rw [← e] at k
          exact ⟨a, vs, by rw [ev], ht ▸ rd_inj fr'.rel.ex h1, ht ▸ k _ _ _ _ _ s fr' (walk_enum (vs := vs) hg) ⟨h1, h2⟩⟩
        · rw [e] at k
          exact k.elim
/-! zip of two lists, of two tuples -/
def sqR (r : R) (M : Mem) : Ro (Bool × List D) := match r with
  | .d (.tup ds) => .ok (false, ds) M
  | r => (lstR' r M).bind fun ds M1 => .ok (true, ds) M1
def zipL (as bs : List D) : List (List R) := (as.zip bs).map fun p => [.d p.1, .d p.2]
def kZip : List R → Mem → Ro (List (List R)) := fun rs M => match two rs with
  | some (x, y) => match x, y with
    | .d (.tup as), .d (.tup bs) => .ok (zipL as bs) M
    | x, y => (lstR' x M).bind fun as M1 => (lstR' y M1).bind fun bs M2 => .ok (zipL as bs) M2
  | none => .no
theorem zipL_get {as bs : List D} {i : Nat} {rs : List R} (h : (zipL as bs)[i]? = some rs) : ∃ a b, as[i]? = some a ∧ bs[i]? = some b ∧ rs = [.d a, .d b] := by
  unfold zipL at h
  rw [List.getElem?_map] at h
  cases q : (as.zip bs)[i]? with
  | none => rw [q] at h; cases h
  | some p =>
    rw [q] at h
    cases h
    rw [List.getElem?_zip_eq_some] at q
    exact ⟨p.1, p.2, q.1, q.2, rfl⟩
theorem zipL_len (as bs : List D) : (zipL as bs).length = min as.length bs.length := by simp [zipL]
theorem walk_zipL {as bs : List D} {a b : Addr} {vs ws : List V} (hg : TgsOk t W2 hs sl tgs fgs) : Walk t W2 hs (gTup t.K 2 tgs) sl fgs (zipL as bs) (Itz t.K a b) (fun _ F => Rd F a (.lst vs) ∧ IsL t F as vs ∧ Rd F b (.lst ws) ∧ IsL t F bs ws) where
  mono := fun ads ads' F F' m p => ⟨rd_mon m.ex p.1, IsL.mono m.ex _ p.2.1, rd_mon m.ex p.2.2.1, IsL.mono m.ex _ p.2.2.2⟩
  stop := fun ads F H m p => by
    have h1 := Paired.length (isL_iff.mp p.2.1)
    have h2 := Paired.length (isL_iff.mp p.2.2.2)
    refine ⟨vs, ws, rd_inj m p.1, rd_inj m p.2.2.1, ?_⟩
    rw [zipL_len]
    omega
  go := fun i ads F H hi m p => by
    have h1 := Paired.length (isL_iff.mp p.2.1)
    have h2 := Paired.length (isL_iff.mp p.2.2.2)
    rw [zipL_len] at hi
    exact ⟨vs, ws, vs[i]'(by omega), ws[i]'(by omega), rd_inj m p.1, rd_inj m p.2.2.1, List.getElem?_eq_getElem (by omega), List.getElem?_eq_getElem (by omega)⟩
  step := fun i r ads F env M σ H x H' D1 e fr hid p y k => by
    obtain ⟨T, v, w, rfl, hT, rfl, y1, y2⟩ := y
    have hv := y1 vs (rd_inj fr.rel.ex p.1)
    have hw := y2 ws (rd_inj fr.rel.ex p.2.2.1)
    obtain ⟨d, d2, hd, hd2, rfl⟩ := zipL_get e
    obtain ⟨v', e2, hd⟩ := pair_get (isL_iff.mp p.2.1) hd
    obtain ⟨w', e3, hd2⟩ := pair_get (isL_iff.mp p.2.2.2) hd2
    rw [hv] at e2
    rw [hw] at e3
    cases e2
    cases e3
    exact pair_step hg fr hid hT (rs := [.d d, .d d2]) (vs := [v, w]) (.cons hd (.cons hd2 .nil)) rfl k
theorem walk_zipT {as bs : List D} {a b : Addr} {vs ws : List V} (hg : TgsOk t W2 hs sl tgs fgs) : Walk t W2 hs (gTup t.K 2 tgs) sl fgs (zipL as bs) (RZ.ItzT t.K a b) (fun _ F => SqT t.K F a vs ∧ IsL t F as vs ∧ SqT t.K F b ws ∧ IsL t F bs ws) where
  mono := fun ads ads' F F' m p => ⟨sqt_mon m.ex p.1, IsL.mono m.ex _ p.2.1, sqt_mon m.ex p.2.2.1, IsL.mono m.ex _ p.2.2.2⟩
  stop := fun ads F H m p => by
    have h1 := Paired.length (isL_iff.mp p.2.1)
    have h2 := Paired.length (isL_iff.mp p.2.2.2)
    refine ⟨vs, ws, sqt_mon m p.1, sqt_mon m p.2.2.1, ?_⟩
    rw [zipL_len]
    omega
  go := fun i ads F H hi m p => by
    have h1 := Paired.length (isL_iff.mp p.2.1)
    have h2 := Paired.length (isL_iff.mp p.2.2.2)
    rw [zipL_len] at hi
    exact ⟨vs, ws, vs[i]'(by omega), ws[i]'(by omega), sqt_mon m p.1, sqt_mon m p.2.2.1, List.getElem?_eq_getElem (by omega), List.getElem?_eq_getElem (by omega)⟩
  step := fun i r ads F env M σ H x H' D1 e fr hid p y k => by
    obtain ⟨T, v, w, rfl, hT, rfl, y1, y2⟩ := y
    have hv := y1 vs (sqt_mon fr.rel.ex p.1)
    have hw := y2 ws (sqt_mon fr.rel.ex p.2.2.1)
    obtain ⟨d, d2, hd, hd2, rfl⟩ := zipL_get e
    obtain ⟨v', e2, hd⟩ := pair_get (isL_iff.mp p.2.1) hd
    obtain ⟨w', e3, hd2⟩ := pair_get (isL_iff.mp p.2.2.2) hd2
    rw [hv] at e2
    rw [hw] at e3
    cases e2
    cases e3
    exact pair_step hg fr hid hT (rs := [.d d, .d d2]) (vs := [v, w]) (.cons hd (.cons hd2 .nil)) rfl k
theorem i_zip {a b : Expr} {fs : Es} {p pos tpos : Pos} {elts : List Expr} {kk : Nat} (ht : t.K = X.K) (hgl : Gl X "zip") (hm : X.mg "zip" = none) (ha : PA X [a, b] (tEs t W fs)) (hg : TgsOk t W2 hs sl tgs fgs)
    (hs' : starEach [a, b] X.env = (false, eval a X.env) :: starEach [b] X.env := by rfl) (hpl : (backTo pos (starEach [b] X.env)).any (·.1) = false := by rfl) :
    PI X (.Tuple elts kk tpos) (.Call (.Name "zip" p) [a, b] [] pos) (tI t W W2 hs (gTup t.K 2 tgs) sl (srcOf fs kZip) fgs) :=
  PI.imp (RZ.pi_zipA hgl hm ha hs' hpl) fun σ H R h => by
    refine tI.src (P := IsRs t) h fun ads1 F1 env M1 vs H1 fr rs pr k => ?_
    unfold kZip at k
    cases q1 : two rs with
    | none => simp only [q1] at k
    | some xy =>
      obtain ⟨x, y⟩ := xy
      simp only [q1] at k
      cases two_eq q1
      cases pr with
      | @cons _ v _ _ px pn =>
        cases pn with
        | @cons _ w _ _ py pn =>
          cases pn
          split at k
          · rename_i as' M' e1
            split at e1
            · rename_i as bs
              cases e1
              have px : Is t F1 (.tup as) v := px
              have py : Is t F1 (.tup bs) w := py
              unfold Is at px py
              obtain ⟨a1, vs1, rfl, h1, h2⟩ := px
              obtain ⟨a2, vs2, rfl, h3, h4⟩ := py
              exact ⟨a1, a2, vs1, vs2, rfl, .inr ⟨ht ▸ sqt_mon fr.rel.ex h1, ht ▸ sqt_mon fr.rel.ex h3, ht ▸ k _ _ _ _ _ .refl fr (walk_zipT (vs := vs1) (ws := vs2) hg) ⟨h1, h2, h3, h4⟩⟩⟩
            · refine lst_still fr px e1 (fun as F' M' a1 vs1 s fr' ev h1 h2 e => ?_) fun e => by cases e
              refine lst_still fr' (py.mono s.mon) e (fun bs F2 M2 a2 vs2 s2 fr2 ev2 h3 h4 e => ?_) fun e => by cases e
              cases e
              exact ⟨a1, a2, vs1, vs2, by rw [ev, ev2], .inl ⟨ht ▸ rd_inj fr2.rel.ex (rd_mon s2.ex h1), ht ▸ rd_inj fr2.rel.ex h3, ht ▸ k _ _ _ _ _ (s.trans s2) fr2 (walk_zipL (vs := vs1) (ws := vs2) hg) ⟨rd_mon s2.ex h1, IsL.mono s2.ex _ h2, h3, h4⟩⟩⟩
          · rename_i e1
            exfalso
            split at e1
            · cases e1
            · refine lst_still fr px e1 (fun as F' M' a1 vs1 s fr' ev h1 h2 e => ?_) fun e => by cases e
              exact lst_still fr' (py.mono s.mon) e (fun bs F2 M2 a2 vs2 s2 fr2 ev2 h3 h4 e => by cases e) fun e => by cases e
          · exact k.elim
end
/-! ### for -/
def sForI {α : Type} (src : Env → Mem → Ro (List α)) (tg : α → S) (body : S) : S := sLift src fun as => sFor tg body as
section
variable {t : Tx} {W : Wk} {hs : List (Nat × V)} {X : Cx} {tge iter : Expr} {g : TG} {sl : List Nat} {α : Type} {src : Env → Mem → Ro (List α)} {tg : α → S} {body : List Stmt} {fb : S} {pos : Pos}
theorem s_for (hp : PassesOwn (model X.prog X.w) X.A X.env X.xe) (hc : X.calm = true) (hi : PI X tge iter (tI t W W hs g sl src tg)) (hg : PG X tge g) (hb : PSs X body (tS t W hs fb))
    (hss : ∀ x, foldedSetIterable iter X.env x = pure x := by intro _; rfl) : PS X (.For tge iter body [] pos) (tS t W hs (sForI src tg fb)) := PS.imp (ps_for hp hc hi (pg_weak hg) hb hss) fun D σ H h => by
  obtain ⟨ads, F, env, M, fr, hid, h⟩ := h
  refine ⟨ads, F, env, M, fr, ?_⟩
  unfold sForI sLift at h
  cases q : src env M with
  | ok as M1 =>
    rw [q] at h
    intro ads1 F1 H1 J Per s fr1 w per
    exact for_ok Per w.mono w.stop w.go (fun i a ads F env M σ H x H' D1 e fr hid p y k => ⟨_, fun _ _ z => z.2, w.step i a ads F env M σ H x H' D1 e fr hid p y k⟩) fr1 hid per (Ks.step s h)
  | ex x M1 =>
    rw [q] at h
    exact fun ads1 F1 H1 cls dd s R p hd => h ads1 F1 H1 σ cls dd s (fr.step s R) hid p hd
  | no => rw [q] at h; exact h.elim
end
end Lc
set_option Elab.async false
set_option linter.all false
set_option maxRecDepth 100000
set_option maxHeartbeats 4000000
/-! List comprehensions. -/
namespace Lc
open PySem PySem.Spec PyProof.Rows L2 LcX
section
variable {t : Tx} {F F0 H H0 : Hp} {ads ads0 : List Addr} {M : Mem} {D : Addr} {o : HO} {c : Cell}
/-- a thing that stands in the heap, untracked by now, becomes a cell -/
theorem Rel.adoptC (Rr : Rel t ads F M H) (hD : H D = some o) (hp : D ∉ ads) (hc : CellOk t F (ads ++ [D]) H D c) : Rel t (ads ++ [D]) F (M ++ [c]) H := by
  have m : Mon F F ads (ads ++ [D]) := ⟨fun _ _ z => z, [D], rfl⟩
  refine ⟨Rr.ex, ?_, by simp [Rr.ln], fun b hb => ?_, fun i c' b e1 e2 => ?_⟩
  · refine List.nodup_append.mpr ⟨Rr.nd, by simp, fun a ha b hb => ?_⟩
    cases (List.mem_singleton.mp hb)
    exact fun z => hp (by rw [← z]; exact ha)
  · rcases List.mem_append.mp hb with z | z
    · exact Rr.th b z
    · cases (List.mem_singleton.mp z)
      rw [hD]
      exact fun z => by cases z
  · by_cases hi : i < M.length
    · rw [List.getElem?_append_left hi] at e1
      rw [List.getElem?_append_left (by rw [Rr.ln]; exact hi)] at e2
      exact (Rr.ok i c' b e1 e2).keep m (fun u e => e) fun z _ _ => z
    · have h1 : i = M.length := by
        have q := (List.getElem?_eq_some_iff.mp e1).1
        simp at q
        omega
      subst h1
      rw [List.getElem?_append_right (Nat.le_refl _)] at e1
      rw [← Rr.ln, List.getElem?_append_right (Nat.le_refl _)] at e2
      simp at e1 e2
      subst e1 e2
      exact hc
theorem Rel.adoptF (Rr : Rel t ads F M H) (hD : H D = some o) (hp : D ∉ ads) (hf : F D = none) : Rel t ads (upd F D o) M H := by
  have fx : Fx F (upd F D o) := fun b u e => by rw [upd_ne (ne_of_none e hf)]; exact e
  have m : Mon F (upd F D o) ads ads := ⟨fx, [], by simp⟩
  refine ⟨fun b u e => ?_, Rr.nd, Rr.ln, Rr.th, fun i c' b e1 e2 => ?_⟩
  · by_cases hb : b = D
    · subst hb
      rw [upd_same] at e
      rw [hD]
      exact e
    · rw [upd_ne hb] at e
      exact Rr.ex _ _ e
  · refine (Rr.ok i c' b e1 e2).keep m (fun u e => e) fun z _ _ => ?_
    have nb : b ≠ D := fun z => hp (by rw [← z]; exact List.mem_of_getElem? e2)
    rw [upd_ne nb]
    exact z
theorem Kg.adopt {W : XK} {cell : Bool} {Q : VK} (s : Stp ads0 F0 H0 ads F H) (Rr : Rel t ads F M H) (h0 : H0 D = none) (hD : H D = some o) (hp : D ∉ ads) (hf : F D = none) (h : New t F ads c o) (k : Kt t W ads0 F0 H0 (mk cell c M) Q) : Q (.ref D) H := by
  obtain ⟨n, en, hn⟩ := s.ad
  have hu : upd H D o = H := by
    funext b
    by_cases hb : b = D
    · subst hb
      rw [upd_same, hD]
    · rw [upd_ne hb]
  have viaCell : Kt t W ads0 F0 H0 (.ok (.ref M.length) (M ++ [c])) Q → Q (.ref D) H := fun k => by
    have m : Mon F F ads (ads ++ [D]) := ⟨fun _ _ z => z, [D], rfl⟩
    have hc : CellOk t F (ads ++ [D]) H D c := by
      cases c with
      | lst rs => obtain ⟨vs, rfl, h⟩ := h; exact ⟨hf, vs, hD, h.mono m⟩
      | tup rs => obtain ⟨vs, rfl, h⟩ := h; exact ⟨hf, vs, hD, h.mono m⟩
      | dct ks rs => obtain ⟨kvs, rfl, h1, h2, h⟩ := h; exact ⟨hf, kvs, hD, h1, h2, h.mono m⟩
      | obj k rs => exact h.elim
      | frz d => exact h.elim
    refine k (ads ++ [D]) F H _ ⟨s.ex, ⟨n ++ [D], by rw [en, List.append_assoc], fun a ha => ?_⟩, s.nw, s.fr, s.th⟩ (Rr.adoptC hD hp hc) ⟨D, ?_, rfl⟩
    · rcases List.mem_append.mp ha with z | z
      · exact hn a z
      · cases (List.mem_singleton.mp z)
        exact h0
    · rw [← Rr.ln, List.getElem?_append_right (Nat.le_refl _)]
      simp
  cases cell with
  | true => exact viaCell k
  | false =>
    cases q : pureC c with
    | none =>
      rw [show mk false c M = .ok (.ref M.length) (M ++ [c]) from by simp [mk, q]] at k
      exact viaCell k
    | some d =>
      rw [show mk false c M = .ok (.d d) M from by simp [mk, q]] at k
      refine k ads (upd F D o) H _ ⟨fun b u e => ?_, s.ad, fun b h1 h2 => ?_, s.fr, s.th⟩ (Rr.adoptF hD hp hf) (h.pure q hf)
      · have z := s.ex b u e
        rw [upd_ne (ne_of_none z hf)]
        exact z
      · by_cases hb : b = D
        · subst hb
          exact .inl h0
        · rw [upd_ne hb] at h2
          exact s.nw b h1 h2
/-- the new list grows -/
theorem Rel.poke {o' : HO} (Rr : Rel t ads F M H) (hp : D ∉ ads) (hf : F D = none) : Rel t ads F M (upd H D o') := by
  refine ⟨fun b u e => ?_, Rr.nd, Rr.ln, fun b hb => ?_, fun i c' b e1 e2 => ?_⟩
  · rw [upd_ne (ne_of_none e hf)]
    exact Rr.ex _ _ e
  · rw [upd_ne (fun z => hp (by rw [← z]; exact hb))]
    exact Rr.th b hb
  · have nb : b ≠ D := fun z => hp (by rw [← z]; exact List.mem_of_getElem? e2)
    exact (Rr.ok i c' b e1 e2).keep .refl (fun u e => by rw [upd_ne nb]; exact e) fun z _ _ => z
theorem Stp.poke {o' : HO} (s : Stp ads0 F0 H0 ads F H) (h0 : H0 D = none) : Stp ads0 F0 H0 ads F (upd H D o') := by
  refine ⟨s.ex, s.ad, s.nw, fun b u e hb => ?_, fun b e => ?_⟩
  · rw [upd_ne (ne_of_none e h0)]
    exact s.fr b u e hb
  · by_cases hb : b = D
    · subst hb
      exact h0
    · rw [upd_ne hb] at e
      exact s.th b e
/-- what is untracked stays so -/
theorem Stp.keeps {ads' : List Addr} {F' H' : Hp} (s : Stp ads F H ads' F' H') (hD : H D = some o) (hp : D ∉ ads) (hf : F D = none) : H' D = some o ∧ D ∉ ads' ∧ F' D = none := by
  obtain ⟨n, en, hn⟩ := s.ad
  refine ⟨s.fr D o hD hp, fun z => ?_, ?_⟩
  · rw [en] at z
    rcases List.mem_append.mp z with z | z
    · exact hp z
    · rw [hn D z] at hD
      cases hD
  · cases q : F' D with
    | none => rfl
    | some u =>
      rcases s.nw D hf (by rw [q]; exact fun z => by cases z) with z | z
      · rw [hD] at z
        cases z
      · exact absurd z hp
end
/-! ### the names of a comprehension -/
def wipeE (env : Env) : List Nat → Env
  | [] => env
  | v :: vs => (wipeE env vs).set v none
theorem wipe_get {j : Nat} {σ : L2.St} : ∀ {vs : List Nat}, (wipe σ vs)[j]? = if j ∈ vs then σ[j]?.map (fun _ => none) else σ[j]?
  | [] => by simp [wipe]
  | i :: vs => by
    show ((wipe σ vs).set i none)[j]? = _
    by_cases e : i = j
    · subst e
      rw [if_pos List.mem_cons_self]
      by_cases q : i < σ.length
      · rw [List.getElem?_set_self (by rw [wipe_length]; exact q), List.getElem?_eq_getElem q]
        rfl
      · rw [List.getElem?_eq_none (by rw [List.length_set, wipe_length]; omega), List.getElem?_eq_none (by omega)]
        rfl
    · rw [List.getElem?_set_ne e, wipe_get]
      by_cases h1 : j ∈ vs
      · rw [if_pos h1, if_pos (List.mem_cons_of_mem _ h1)]
      · rw [if_neg h1, if_neg (fun z => (List.mem_cons.mp z).elim (fun y => e y.symm) h1)]
theorem wipe_same {sl vs : List Nat} {σ σ2 : L2.St} (h : Same sl (wipe σ vs) σ2) (hs : ∀ j ∈ sl, j ∈ vs) : wipe σ2 vs = wipe σ vs := by
  apply List.ext_getElem?
  intro j
  rw [wipe_get, wipe_get]
  have hl : σ2.length = σ.length := by rw [h.1, wipe_length]
  by_cases hj : j ∈ vs
  · rw [if_pos hj, if_pos hj]
    by_cases q : j < σ.length
    · rw [List.getElem?_eq_getElem q, List.getElem?_eq_getElem (by omega)]
      rfl
    · rw [List.getElem?_eq_none (by omega), List.getElem?_eq_none (by omega)]
  · rw [if_neg hj, if_neg hj, h.2 j fun z => hj (hs j z), wipe_get, if_neg hj]
theorem EnvR.wipe {t : Tx} {F : Hp} {ads : List Addr} {env : Env} {σ : L2.St} (h : EnvR t F ads env σ) : ∀ {vs : List Nat}, EnvR t F ads (wipeE env vs) (L2.wipe σ vs)
  | [] => h
  | i :: vs => (EnvR.wipe h (vs := vs)).unset
def compL {α : Type} (tg : α → S) (tst : B) (elt : E) (env : Env) : List α → List R → Mem → Ro (List R)
  | [], acc, M => .ok acc M
  | a :: as, acc, M => match tg a env M with
    | .nx e m => match tst e m with
      | .ok true m2 => match elt e m2 with
        | .ok r m3 => if acc.length < SL then compL tg tst elt env as (acc ++ [r]) m3 else .no
        | _ => .no
      | .ok false m2 => compL tg tst elt env as acc m2
      | _ => .no
    | _ => .no
def bYes : B := fun _ M => .ok true M
def eComp {α : Type} (src : Env → Mem → Ro (List α)) (tg : α → S) (tst : B) (elt : E) (vs : List Nat) (cell : Bool) : E := fun env M => (src env M).bind fun as M1 => (compL tg tst elt (wipeE env vs) as [] M1).bind fun rs M2 => mk cell (.lst rs) M2
/-- nothing is let out -/
def Wn : Wk := { w := fun _ _ _ _ => False }
section
variable {t : Tx} {W : Wk} {X : Cx} {elt tge iter : Expr} {ifs : List Expr} {scope : Scope} {own : List (Str × Nat)} {pos : Pos} {g : TG} {sl : List Nat} {α : Type} {src : Env → Mem → Ro (List α)} {tg : α → S} {fb : B} {fe : E} {cell : Bool}
theorem pts_yes : PTs X [] (tBo t W bYes) := ⟨fun pins s σ H Q I h => pts_nil.run pins s σ H Q I (by
  obtain ⟨ads, F, env, M, fr, h⟩ := h
  exact h.ok fr.rel rfl)⟩
theorem pts_if {c : Expr} (h : PT X c (tBo t W fb)) : PTs X [c] (tBo t W fb) := pts_one h
theorem lc_read (hsl : ∀ j ∈ sl, j ∈ own.map (·.2)) {σ : L2.St} {H : Hp} {Q : VK} (h : tE t W (eComp src tg fb fe (own.map (·.2)) cell) σ H Q) : tLc (tI t W Wn [] g sl src tg) (gW g) (tBo t Wn fb) (tE t Wn fe) (own.map (·.2)) σ H Q := by
  obtain ⟨ads, F, env, M, fr, h⟩ := h
  refine ⟨ads, F, env, M, fr, ?_⟩
  unfold eComp at h
  cases q : src env M with
  | ex x M1 =>
    rw [q] at h
    exact h
  | no => rw [q] at h; exact h.elim
  | ok as M1 =>
    rw [q] at h
    simp only [Ro.bind_ok] at h
    intro ads1 F1 H1 J Per s1 fr1 w per D hD
    have h := Kg.step s1 h
    have hD1 : D ∉ ads1 := fun z => fr1.rel.th D z hD
    have fD1 := fr1.rel.noF hD
    refine ⟨fun i m H => i ≤ as.length ∧ m = as.length - i ∧ ∃ ads F M acc accV, Stp ads1 F1 H1 ads F H ∧ Fr t Wn (wipe σ (own.map (·.2))) H ads F (wipeE env (own.map (·.2))) M ∧ Per ads F ∧ H D = some (.lst accV) ∧ IsRs t F ads acc accV ∧ D ∉ ads ∧ F D = none ∧
      Kt t (WE W.w σ) ads1 F1 H1 ((compL tg fb fe (wipeE env (own.map (·.2))) (as.drop i) acc M).bind fun rs M2 => mk cell (.lst rs) M2) Q,
      ⟨_, Nat.zero_le _, rfl, ads1, F1, M1, [], [], Stp.refl.poke hD, ⟨fr1.rel.poke hD1 fD1, fr1.env.wipe, (fun p hp => by cases hp)⟩, per, upd_same, .nil, hD1, fD1, h⟩, ?_⟩
    rintro i m H ⟨hi, rfl, ads, F, M, acc, accV, s, fr, per, hDa, ha, hp, hf, k⟩
    by_cases hl : i < as.length
    · rw [List.drop_eq_getElem_cons hl] at k
      refine .inr ⟨w.go i ads F H hl fr.rel.ex per, fun H' => ∃ ads F M acc accV, Stp ads1 F1 H1 ads F H' ∧ Fr t Wn (wipe σ (own.map (·.2))) H' ads F (wipeE env (own.map (·.2))) M ∧ Per ads F ∧ H' D = some (.lst accV) ∧ IsRs t F ads acc accV ∧ D ∉ ads ∧ F D = none ∧
        Kt t (WE W.w σ) ads1 F1 H1 ((compL tg fb fe (wipeE env (own.map (·.2))) (as.drop (i + 1)) acc M).bind fun rs M2 => mk cell (.lst rs) M2) Q, fun H' hN => ⟨_, by omega, hl, rfl, hN⟩, fun x H' y => ?_⟩
      unfold compL at k
      cases q1 : tg as[i] (wipeE env (own.map (·.2))) M with
      | nx e m =>
        simp only [q1] at k
        let D1 : Ends := { nx := fun σ2 H2 => tBo t Wn fb σ2 H2 fun b H3 => if b = true then tE t Wn fe σ2 H3 fun y H4 => ∃ acc, H4 D = some (.lst acc) ∧ acc.length < sizeLine ∧
          (∃ ads F M acc' accV, Stp ads1 F1 H1 ads F (upd H4 D (.lst (acc ++ [y]))) ∧ Fr t Wn (wipe σ (own.map (·.2))) (upd H4 D (.lst (acc ++ [y]))) ads F (wipeE env (own.map (·.2))) M ∧ Per ads F ∧ (upd H4 D (.lst (acc ++ [y]))) D = some (.lst accV) ∧ IsRs t F ads acc' accV ∧ D ∉ ads ∧ F D = none ∧
            Kt t (WE W.w σ) ads1 F1 H1 ((compL tg fb fe (wipeE env (own.map (·.2))) (as.drop (i + 1)) acc' M).bind fun rs M2 => mk cell (.lst rs) M2) Q)
          else (∃ ads F M acc accV, Stp ads1 F1 H1 ads F H3 ∧ Fr t Wn (wipe σ (own.map (·.2))) H3 ads F (wipeE env (own.map (·.2))) M ∧ Per ads F ∧ H3 D = some (.lst accV) ∧ IsRs t F ads acc accV ∧ D ∉ ads ∧ F D = none ∧
            Kt t (WE W.w σ) ads1 F1 H1 ((compL tg fb fe (wipeE env (own.map (·.2))) (as.drop (i + 1)) acc M).bind fun rs M2 => mk cell (.lst rs) M2) Q), rt := fun _ _ => True }
        have z := w.step i as[i] ads F (wipeE env (own.map (·.2))) M (wipe σ (own.map (·.2))) H x H' D1 (List.getElem?_eq_getElem hl) fr (fun p hp => by cases hp) per y (by
          rw [q1]
          intro ads2 F2 H2 σ2 s2 fr2 _
          refine ⟨ads2, F2, e, m, fr2, ?_⟩
          cases q2 : fb e m with
          | ok b m2 =>
            simp only [q2] at k
            intro ads3 F3 H3 b' s3 r3 eb
            subst eb
            have s23 := s2.trans s3
            obtain ⟨d1, d2, d3⟩ := s23.keeps hDa hp hf
            cases b with
            | false =>
              rw [if_neg Bool.false_ne_true]
              exact ⟨ads3, F3, m2, acc, accV, s.trans s23, ⟨r3, fr.env.mono s23.mon, (fun p hp => by cases hp)⟩, w.mono _ _ _ _ s23.mon per, d1, IsRs.mono s23.mon ha, d2, d3, k⟩
            | true =>
              rw [if_pos rfl]
              refine ⟨ads3, F3, e, m2, fr2.step s3 r3, ?_⟩
              dsimp only at k
              cases q3 : fe e m2 with
              | ok r m3 =>
                simp only [q3] at k
                intro ads4 F4 H4 yv s4 r4 hr
                by_cases c : acc.length < SL
                · simp only [c, if_true] at k
                  have s234 := s23.trans s4
                  obtain ⟨e1, e2, e3⟩ := s234.keeps hDa hp hf
                  exact ⟨accV, e1, by rw [← Paired.length ha, ← SL_eq]; exact c, ads4, F4, m3, acc ++ [r], accV ++ [yv], (s.trans s234).poke hD, ⟨r4.poke e2 e3, fr.env.mono s234.mon, (fun p hp => by cases hp)⟩, w.mono _ _ _ _ s234.mon per, upd_same, pair_append (IsRs.mono s234.mon ha) (.cons hr .nil), e2, e3, k⟩
                · simp only [c] at k
                  exact k.elim
              | ex _ _ => simp only [q3] at k; exact k.elim
              | no => simp only [q3] at k; exact k.elim
          | ex _ _ => simp only [q2] at k; exact k.elim
          | no => simp only [q2] at k; exact k.elim)
        exact ⟨_, fun σ2 H2 hz => ⟨wipe_same hz.1 hsl, hz.2⟩, z⟩
      | bk _ _ => simp only [q1] at k; exact k.elim
      | ct _ _ => simp only [q1] at k; exact k.elim
      | rt _ _ => simp only [q1] at k; exact k.elim
      | ex _ _ _ => simp only [q1] at k; exact k.elim
      | no => simp only [q1] at k; exact k.elim
    · have e : i = as.length := by omega
      subst e
      rw [List.drop_length] at k
      exact .inl ⟨w.stop ads F H fr.rel.ex per, Kg.adopt s fr.rel hD hDa hp hf (newL ha) k⟩
/-- [elt for tge in iter if ..] -/
theorem c_list (hc : X.calm = true) (hN : X.N.Nodup) (hi : PI X tge iter (tI t W Wn [] g sl src tg)) (ok : BlkOk X.N X.env.scope scope own) (hsl : ∀ j ∈ sl, j ∈ own.map (·.2))
    (hg : ∀ (s : Shared) (H : Hp) (C : Addr) (cl : List (Str × Addr)) (fp : List Addr), PG (X.blk s H scope (compEnvC scope cl C X.env) fp) tge g) (ht : ∀ (s : Shared) (H : Hp) (C : Addr) (cl : List (Str × Addr)) (fp : List Addr), PTs (X.blk s H scope (compEnvC scope cl C X.env) fp) ifs (tBo t Wn fb))
    (he : ∀ (s : Shared) (H : Hp) (C : Addr) (cl : List (Str × Addr)) (fp : List Addr), PE (X.blk s H scope (compEnvC scope cl C X.env) fp) elt (tE t Wn fe)) (hs : ∀ x, foldedSetIterable iter X.env x = pure x := by intro _; rfl) :
    PE X (.ListComp elt [⟨tge, iter, ifs, 0⟩] scope pos) (tE t W (eComp src tg fb fe (own.map (·.2)) cell)) :=
  PE.imp (pe_lc hc hN hi ok (fun s H C cl fp => pg_weak (hg s H C cl fp)) ht he hs) fun σ H Q h => lc_read hsl h
/-- name = [..] on one line -/
theorem s_setLc {hs : List (Nat × V)} {i : Nat} {y : Str} {py spos : Pos} (hc : X.calm = true) (hN : X.N.Nodup) (hy : X.N[i]? = some y) (hyl : X.env.scope.names.lookup y = some .local) (hn : i ∉ hs.map (·.1) ∧ ∀ p ∈ W.xs, p.i ≠ i)
    (hsw : swapsWith (.ListComp elt [⟨tge, iter, ifs, 0⟩] scope pos) (some (.Name y py)) spos.line X.env = pure true) (hi : PI X tge iter (tI t W Wn [] g sl src tg)) (ok : BlkOk X.N X.env.scope scope own) (hsl : ∀ j ∈ sl, j ∈ own.map (·.2))
    (hg : ∀ (s : Shared) (H : Hp) (C : Addr) (cl : List (Str × Addr)) (fp : List Addr), PG (X.blk s H scope (compEnvC scope cl C X.env) fp) tge g) (ht : ∀ (s : Shared) (H : Hp) (C : Addr) (cl : List (Str × Addr)) (fp : List Addr), PTs (X.blk s H scope (compEnvC scope cl C X.env) fp) ifs (tBo t Wn fb))
    (he : ∀ (s : Shared) (H : Hp) (C : Addr) (cl : List (Str × Addr)) (fp : List Addr), PE (X.blk s H scope (compEnvC scope cl C X.env) fp) elt (tE t Wn fe)) (hss : ∀ x, foldedSetIterable iter X.env x = pure x := by intro _; rfl) :
    PS X (.Assign [.Name y py] (.ListComp elt [⟨tge, iter, ifs, 0⟩] scope pos) spos) (tS t W hs (sSet i (eComp src tg fb fe (own.map (·.2)) cell))) :=
  PS.imp (ps_setLc hc hN hy hyl hsw hi ok (fun s H C cl fp => pg_weak (hg s H C cl fp)) ht he hss) fun D σ H h => by
    obtain ⟨ads, F, env, M, fr, hid, h⟩ := h
    refine lc_read (cell := cell) hsl ?_
    exact Fr.lift fr hid h fun ads1 F1 M1 b H1 fr1 _ a p k => k _ _ _ _ .refl (fr1.set hn.2 p) (hid.set hn.1)
end
end Lc
set_option Elab.async false
set_option linter.all false
set_option maxRecDepth 100000
set_option maxHeartbeats 4000000
/-! Calls: a def sees only the cells that its arguments lead to; what it leaves behind is frozen. -/
namespace Lc
open PySem PySem.Spec PyProof.Rows L2 LcX
/-! ### which cells -/
def refsR : R → List Nat
  | .d _ => []
  | .ref i => [i]
def refsRs : List R → List Nat
  | [] => []
  | r :: rs => refsR r ++ refsRs rs
def refsC : Cell → List Nat
  | .lst rs => refsRs rs
  | .tup rs => refsRs rs
  | .dct _ rs => refsRs rs
  | .obj _ rs => refsRs rs
  | .frz _ => []
@[simp] theorem refsRs_map (ds : List D) : refsRs (ds.map .d) = [] := by
  induction ds with
  | nil => rfl
  | cons d ds ih => simpa [refsRs, refsR] using ih
/-- from these on, in the order in which one comes to them -/
def reach (M : Mem) : Nat → List Nat → List Nat → List Nat
  | 0, _, seen => seen
  | _ + 1, [], seen => seen
  | n + 1, i :: todo, seen => if i ∈ seen then reach M n todo seen else match M[i]? with
    | some c => reach M n (refsC c ++ todo) (seen ++ [i])
    | none => reach M n todo seen
theorem reach_ok (M : Mem) : ∀ (n : Nat) (todo seen : List Nat), seen.Nodup → (∀ i ∈ seen, i < M.length) → (reach M n todo seen).Nodup ∧ ∀ i ∈ reach M n todo seen, i < M.length
  | 0, _, seen, h, k => ⟨h, k⟩
  | _ + 1, [], seen, h, k => ⟨h, k⟩
  | n + 1, i :: todo, seen, h, k => by
    unfold reach
    split
    · exact reach_ok M n todo seen h k
    · rename_i hi
      split
      · rename_i c e
        refine reach_ok M n _ _ (List.nodup_append.mpr ⟨h, by simp, fun a ha b hb => ?_⟩) fun j hj => ?_
        · cases (List.mem_singleton.mp hb)
          exact fun z => hi (by rw [← z]; exact ha)
        · rcases List.mem_append.mp hj with z | z
          · exact k j z
          · cases (List.mem_singleton.mp z)
            exact (List.getElem?_eq_some_iff.mp e).1
      · exact reach_ok M n todo seen h k
/-- where i stands in is -/
def place (is : List Nat) (i : Nat) : Option Nat := is.findIdx? (· == i)
theorem place_some {is : List Nat} {i k : Nat} (h : place is i = some k) : is[k]? = some i := by
  unfold place at h
  rw [List.findIdx?_eq_some_iff_getElem] at h
  obtain ⟨hk, h1, _⟩ := h
  rw [List.getElem?_eq_getElem hk]
  simpa using h1
def subR (is : List Nat) : R → Option R
  | .d d => some (.d d)
  | .ref i => match place is i with
    | some k => some (.ref k)
    | none => none
def subRs (is : List Nat) : List R → Option (List R)
  | [] => some []
  | r :: rs => match subR is r, subRs is rs with
    | some a, some as => some (a :: as)
    | _, _ => none
def subC (is : List Nat) : Cell → Option Cell
  | .lst rs => (subRs is rs).map .lst
  | .tup rs => (subRs is rs).map .tup
  | .dct ks rs => (subRs is rs).map (.dct ks)
  | .obj c rs => (subRs is rs).map (.obj c)
  | .frz d => some (.frz d)
def subM (is : List Nat) (M : Mem) : List Nat → Option Mem
  | [] => some []
  | i :: r => match M[i]? with
    | some c => match subC is c, subM is M r with
      | some a, some as => some (a :: as)
      | _, _ => none
    | none => none
@[simp] theorem subRs_map (is : List Nat) (ds : List D) : subRs is (ds.map .d) = some (ds.map .d) := by
  induction ds with
  | nil => rfl
  | cons d ds ih => simp [subRs, subR, ih]
section
variable {t : Tx} {F H : Hp} {ads : List Addr} {M : Mem} {is : List Nat}
/-- the cells' places -/
def sads (is : List Nat) (ads : List Addr) : List Addr := is.map fun i => ads.getD i 0
theorem sads_get {k i : Nat} {a : Addr} (h : is[k]? = some i) (e : ads[i]? = some a) : (sads is ads)[k]? = some a := by
  unfold sads
  rw [List.getElem?_map, h]
  simp [List.getD, e]
theorem subR_ok {r r' : R} {v : V} (h : IsR t F ads r v) (e : subR is r = some r') : IsR t F (sads is ads) r' v := by
  cases r with
  | d d => cases e; exact h
  | ref i =>
    obtain ⟨a, ha, hv⟩ := h
    unfold subR at e
    cases q : place is i with
    | none => simp only [q] at e; cases e
    | some k =>
      simp only [q] at e
      cases e
      exact ⟨a, sads_get (place_some q) ha, hv⟩
theorem subRs_ok : ∀ {rs rs' : List R} {vs : List V}, IsRs t F ads rs vs → subRs is rs = some rs' → IsRs t F (sads is ads) rs' vs
  | [], _, _, h, e => by cases e; cases h; exact .nil
  | r :: rs, rs', _, h, e => by
    cases h with
    | cons h1 h2 =>
      unfold subRs at e
      cases q1 : subR is r with
      | none => simp only [q1] at e; cases e
      | some a =>
        cases q2 : subRs is rs with
        | none => simp only [q1, q2] at e; cases e
        | some as =>
          simp only [q1, q2] at e
          cases e
          exact .cons (subR_ok h1 q1) (subRs_ok h2 q2)
theorem subC_ok {c c' : Cell} {a : Addr} (h : CellOk t F ads H a c) (e : subC is c = some c') : CellOk t F (sads is ads) H a c' := by
  cases c with
  | frz d => cases e; exact h
  | lst rs =>
    obtain ⟨hf, vs, h1, h2⟩ := h
    obtain ⟨rs', q, rfl⟩ := Option.map_eq_some_iff.mp e
    exact ⟨hf, vs, h1, subRs_ok h2 q⟩
  | tup rs =>
    obtain ⟨hf, vs, h1, h2⟩ := h
    obtain ⟨rs', q, rfl⟩ := Option.map_eq_some_iff.mp e
    exact ⟨hf, vs, h1, subRs_ok h2 q⟩
  | dct ks rs =>
    obtain ⟨hf, kvs, h1, h2, h3, h4⟩ := h
    obtain ⟨rs', q, rfl⟩ := Option.map_eq_some_iff.mp e
    exact ⟨hf, kvs, h1, h2, h3, subRs_ok h4 q⟩
  | obj k rs =>
    obtain ⟨hf, dx, vs, h1, h2, h3⟩ := h
    obtain ⟨rs', q, rfl⟩ := Option.map_eq_some_iff.mp e
    exact ⟨hf, dx, vs, h1, h2, subRs_ok h3 q⟩
theorem subM_get : ∀ {js : List Nat} {M0 : Mem} {k : Nat} {c : Cell}, subM is M js = some M0 → M0[k]? = some c → ∃ i c0, js[k]? = some i ∧ M[i]? = some c0 ∧ subC is c0 = some c
  | [], _, _, _, h, e => by cases h; simp at e
  | i :: js, M0, k, c, h, e => by
    unfold subM at h
    cases q1 : M[i]? with
    | none => simp only [q1] at h; cases h
    | some c0 =>
      cases q2 : subC is c0 with
      | none => simp only [q1, q2] at h; cases h
      | some a =>
        cases q3 : subM is M js with
        | none => simp only [q1, q2, q3] at h; cases h
        | some as =>
          simp only [q1, q2, q3] at h
          cases h
          cases k with
          | zero => simp at e; subst e; exact ⟨i, c0, rfl, q1, q2⟩
          | succ k =>
            simp at e
            obtain ⟨i2, c2, h1, h2, h3⟩ := subM_get q3 e
            exact ⟨i2, c2, by simpa using h1, h2, h3⟩
theorem subM_len : ∀ {js : List Nat} {M0 : Mem}, subM is M js = some M0 → M0.length = js.length
  | [], _, h => by cases h; rfl
  | i :: js, M0, h => by
    unfold subM at h
    cases q1 : M[i]? with
    | none => simp only [q1] at h; cases h
    | some c0 =>
      cases q2 : subC is c0 with
      | none => simp only [q1, q2] at h; cases h
      | some a =>
        cases q3 : subM is M js with
        | none => simp only [q1, q2, q3] at h; cases h
        | some as =>
          simp only [q1, q2, q3] at h
          cases h
          simp [subM_len q3]
theorem mem_sads {a : Addr} (hb : ∀ i ∈ is, i < ads.length) (h : a ∈ sads is ads) : ∃ i, i ∈ is ∧ ads[i]? = some a := by
  unfold sads at h
  obtain ⟨i, hi, e⟩ := List.mem_map.mp h
  have hl := hb i hi
  refine ⟨i, hi, ?_⟩
  rw [List.getElem?_eq_getElem hl]
  rw [← e]
  simp [List.getD, List.getElem?_eq_getElem hl]
theorem sads_nodup (nd : ads.Nodup) (ni : is.Nodup) (hb : ∀ i ∈ is, i < ads.length) : (sads is ads).Nodup := by
  unfold sads
  refine List.pairwise_map.mpr (List.Pairwise.imp_of_mem ?_ ni)
  intro i j hi hj ne e
  have h1 := hb i hi
  have h2 := hb j hj
  simp only [List.getD, List.getElem?_eq_getElem h1, List.getElem?_eq_getElem h2, Option.getD_some] at e
  exact ne ((List.getElem_inj nd).mp e)
theorem Rel.sub (Rr : Rel t ads F M H) (ni : is.Nodup) (hb : ∀ i ∈ is, i < M.length) {M0 : Mem} (h : subM is M is = some M0) : Rel t (sads is ads) F M0 H := by
  have hb' : ∀ i ∈ is, i < ads.length := fun i hi => by rw [Rr.ln]; exact hb i hi
  refine ⟨Rr.ex, sads_nodup Rr.nd ni hb', by rw [subM_len h]; simp [sads], fun a ha => ?_, fun k c a e1 e2 => ?_⟩
  · obtain ⟨i, hi, e⟩ := mem_sads hb' ha
    exact Rr.th a (List.mem_of_getElem? e)
  · obtain ⟨i, c0, h1, h2, h3⟩ := subM_get h e1
    obtain ⟨b, hb2, hc⟩ := Rr.cell h2
    have z := sads_get h1 hb2
    rw [e2] at z
    cases z
    exact subC_ok hc h3
end
/-! ### back again -/
def backR (is : List Nat) (n : Nat) : R → R
  | .d d => .d d
  | .ref k => match is[k]? with
    | some i => .ref i
    | none => .ref (n + (k - is.length))
def backC (is : List Nat) (n : Nat) : Cell → Cell
  | .lst rs => .lst (rs.map (backR is n))
  | .tup rs => .tup (rs.map (backR is n))
  | .dct ks rs => .dct ks (rs.map (backR is n))
  | .obj c rs => .obj c (rs.map (backR is n))
  | .frz d => .frz d
def wr : List Nat → Mem → Mem → Mem
  | i :: is, c :: cs, M => wr is cs (M.set i c)
  | _, _, M => M
def wb (is : List Nat) (M M1 : Mem) : Mem := wr is ((M1.take is.length).map (backC is M.length)) M ++ (M1.drop is.length).map (backC is M.length)
theorem wr_len : ∀ {is : List Nat} {cs M : Mem}, (wr is cs M).length = M.length
  | [], _, _ => rfl
  | _ :: _, [], _ => rfl
  | i :: is, c :: cs, M => by
    show (wr is cs (M.set i c)).length = _
    rw [wr_len]
    simp
theorem wr_get {i : Nat} {c : Cell} : ∀ {is : List Nat} {cs M : Mem}, is.Nodup → is.length = cs.length → (wr is cs M)[i]? = some c → (∃ k : Nat, is[k]? = some i ∧ cs[k]? = some c) ∨ (i ∉ is ∧ M[i]? = some c)
  | [], _, _, _, _, h => .inr ⟨by simp, h⟩
  | _ :: _, [], _, _, hl, _ => by cases hl
  | j :: is, d :: cs, M, nd, hl, h => by
    have h : (wr is cs (M.set j d))[i]? = some c := h
    obtain ⟨hj, nd⟩ := List.nodup_cons.mp nd
    rcases wr_get nd (by simpa using hl) h with ⟨k, h1, h2⟩ | ⟨h1, h2⟩
    · exact .inl ⟨k + 1, by simpa using h1, by simpa using h2⟩
    · by_cases e : j = i
      · subst e
        by_cases hm : j < M.length
        · rw [List.getElem?_set_self hm] at h2
          exact .inl ⟨0, by simp, by simpa using h2⟩
        · rw [List.getElem?_eq_none (by simpa using hm)] at h2
          cases h2
      · rw [List.getElem?_set_ne e] at h2
        exact .inr ⟨fun z => (List.mem_cons.mp z).elim (fun y => e y.symm) h1, h2⟩
section
variable {t : Tx} {F F' H H' : Hp} {ads n : List Addr} {M M1 : Mem} {is : List Nat}
theorem backR_ok (hb : ∀ i ∈ is, i < ads.length) {r : R} {v : V} (h : IsR t F' (sads is ads ++ n) r v) : IsR t F' (ads ++ n) (backR is ads.length r) v := by
  cases r with
  | d d => exact h
  | ref k =>
    obtain ⟨a, ha, hv⟩ := h
    cases q : is[k]? with
    | some i =>
      rw [show backR is ads.length (.ref k) = .ref i from by simp [backR, q]]
      have hk : k < is.length := (List.getElem?_eq_some_iff.mp q).1
      have hi := hb i (List.mem_of_getElem? q)
      rw [List.getElem?_append_left (by simpa [sads] using hk), sads_get q (List.getElem?_eq_getElem hi)] at ha
      exact ⟨a, by rw [List.getElem?_append_left hi, List.getElem?_eq_getElem hi]; exact ha, hv⟩
    | none =>
      rw [show backR is ads.length (.ref k) = .ref (ads.length + (k - is.length)) from by simp [backR, q]]
      have hk : is.length ≤ k := List.getElem?_eq_none_iff.mp q
      have e : (sads is ads).length = is.length := by simp [sads]
      rw [List.getElem?_append_right (by rw [e]; exact hk), e] at ha
      exact ⟨a, by rw [List.getElem?_append_right (by omega)]; rw [show ads.length + (k - is.length) - ads.length = k - is.length from by omega]; exact ha, hv⟩
theorem backRs_ok (hb : ∀ i ∈ is, i < ads.length) : ∀ {rs : List R} {vs : List V}, IsRs t F' (sads is ads ++ n) rs vs → IsRs t F' (ads ++ n) (rs.map (backR is ads.length)) vs
  | [], _, h => by cases h; exact .nil
  | r :: rs, _, h => by
    cases h with
    | cons h1 h2 => exact .cons (backR_ok hb h1) (backRs_ok hb h2)
theorem backC_ok (hb : ∀ i ∈ is, i < ads.length) {c : Cell} {a : Addr} (h : CellOk t F' (sads is ads ++ n) H' a c) : CellOk t F' (ads ++ n) H' a (backC is ads.length c) := by
  cases c with
  | frz d => exact h
  | lst rs => obtain ⟨hf, vs, h1, h2⟩ := h; exact ⟨hf, vs, h1, backRs_ok hb h2⟩
  | tup rs => obtain ⟨hf, vs, h1, h2⟩ := h; exact ⟨hf, vs, h1, backRs_ok hb h2⟩
  | dct ks rs => obtain ⟨hf, kvs, h1, h2, h3, h4⟩ := h; exact ⟨hf, kvs, h1, h2, h3, backRs_ok hb h4⟩
  | obj k rs => obtain ⟨hf, dx, vs, h1, h2, h3⟩ := h; exact ⟨hf, dx, vs, h1, h2, backRs_ok hb h3⟩
theorem Rel.back (Rr : Rel t ads F M H) (ni : is.Nodup) (hb : ∀ i ∈ is, i < M.length) (s : Stp (sads is ads) F H (sads is ads ++ n) F' H') (R1 : Rel t (sads is ads ++ n) F' M1 H') : Rel t (ads ++ n) F' (wb is M M1) H' ∧ Stp ads F H (ads ++ n) F' H' := by
  have hb' : ∀ i ∈ is, i < ads.length := fun i hi => by rw [Rr.ln]; exact hb i hi
  have el : (sads is ads).length = is.length := by simp [sads]
  obtain ⟨n', en, hn⟩ := s.ad
  have en : n = n' := List.append_cancel_left en
  subst en
  have sub : ∀ a, a ∈ sads is ads → a ∈ ads := fun a ha => by
    obtain ⟨i, _, e⟩ := mem_sads hb' ha
    exact List.mem_of_getElem? e
  have S2 : Stp ads F H (ads ++ n) F' H' := ⟨s.ex, ⟨n, rfl, hn⟩, fun a h1 h2 => (s.nw a h1 h2).imp id (sub a), fun a o e ha => s.fr a o e fun z => ha (sub a z), s.th⟩
  have l1 : M1.length = is.length + n.length := by rw [← R1.ln, List.length_append, el]
  refine ⟨⟨R1.ex, ?_, ?_, fun a ha => ?_, fun i c a e1 e2 => ?_⟩, S2⟩
  · refine List.nodup_append.mpr ⟨Rr.nd, (List.nodup_append.mp R1.nd).2.1, fun a ha b hb2 z => ?_⟩
    subst z
    exact Rr.th a ha (hn a hb2)
  · unfold wb
    rw [List.length_append, List.length_append, wr_len, List.length_map, List.length_drop, Rr.ln]
    omega
  · rcases List.mem_append.mp ha with z | z
    · exact fun y => Rr.th a z (s.th a y)
    · exact R1.th a (List.mem_append_right _ z)
  · unfold wb at e1
    by_cases hi : i < M.length
    · rw [List.getElem?_append_left (by rw [wr_len]; exact hi)] at e1
      rw [List.getElem?_append_left (by rw [Rr.ln]; exact hi)] at e2
      rcases wr_get ni (by rw [List.length_map, List.length_take]; omega) e1 with ⟨k, h1, h2⟩ | ⟨h1, h2⟩
      · rw [List.getElem?_map] at h2
        obtain ⟨c0, h3, rfl⟩ := Option.map_eq_some_iff.mp h2
        have hk : k < is.length := (List.getElem?_eq_some_iff.mp h1).1
        rw [List.getElem?_take_of_lt hk] at h3
        have z := R1.ok k c0 a h3 (by rw [List.getElem?_append_left (by rw [el]; exact hk)]; exact sads_get h1 e2)
        rw [← Rr.ln]
        exact backC_ok hb' z
      · have na : a ∉ sads is ads := fun z => by
          obtain ⟨j, hj, e⟩ := mem_sads hb' z
          exact h1 ((List.getElem?_inj (List.getElem?_eq_some_iff.mp e).1 Rr.nd).mp (e.trans e2.symm) ▸ hj)
        refine (Rr.ok i c a h2 e2).keep S2.mon (fun u e => s.fr a u e na) fun z u hu => ?_
        cases q : F' a with
        | none => rfl
        | some w =>
          rcases s.nw a z (by rw [q]; exact fun y => by cases y) with y | y
          · rw [hu] at y; cases y
          · exact absurd y na
    · rw [List.getElem?_append_right (by rw [wr_len]; omega), wr_len, List.getElem?_map] at e1
      obtain ⟨c0, h3, rfl⟩ := Option.map_eq_some_iff.mp e1
      rw [List.getElem?_drop] at h3
      rw [List.getElem?_append_right (by rw [Rr.ln]; omega), Rr.ln] at e2
      have z := R1.ok _ c0 a h3 (by rw [List.getElem?_append_right (by rw [el]; omega), el]; rw [show is.length + (i - M.length) - is.length = i - M.length from by omega]; exact e2)
      rw [← Rr.ln]
      exact backC_ok hb' z
end
end Lc
set_option Elab.async false
set_option linter.all false
set_option maxRecDepth 100000
set_option maxHeartbeats 4000000
/-! What a def leaves behind is frozen; defs, calls. -/
namespace Lc
open PySem PySem.Spec PyProof.Rows L2 LcX
mutual
/-- the data at a value, all the way down; no cell ahead of n -/
def deepR (n : Nat) (M : Mem) : Nat → R → Option D
  | _, .d d => some d
  | 0, .ref _ => none
  | f + 1, .ref i => if i < n then none else match M[i]? with
    | some (.frz d) => some d
    | some (.lst rs) => (deepRs n M f rs).map .lst
    | some (.tup rs) => (deepRs n M f rs).map .tup
    | some (.dct ks rs) => (deepRs n M f rs).map (.dct ks)
    | some (.obj c rs) => (deepRs n M f rs).map (.obj c)
    | none => none
def deepRs (n : Nat) (M : Mem) : Nat → List R → Option (List D)
  | _, [] => some []
  | f, r :: rs => match deepR n M f r, deepRs n M f rs with
    | some d, some ds => some (d :: ds)
    | _, _ => none
end
/-- a value of which only the cells ahead of n are left -/
def gcR (n : Nat) (M : Mem) : R → Option R
  | .d d => some (.d d)
  | .ref i => if i < n then some (.ref i) else (deepR n M 6 (.ref i)).map .d
def gcRs (n : Nat) (M : Mem) : List R → Option (List R)
  | [] => some []
  | r :: rs => match gcR n M r, gcRs n M rs with
    | some a, some as => some (a :: as)
    | _, _ => none
def gcC (n : Nat) (M : Mem) : Cell → Option Cell
  | .lst rs => (gcRs n M rs).map .lst
  | .tup rs => (gcRs n M rs).map .tup
  | .dct ks rs => (gcRs n M rs).map (.dct ks)
  | .obj c rs => (gcRs n M rs).map (.obj c)
  | .frz d => some (.frz d)
def gcM (n : Nat) (M : Mem) : Mem → Option Mem
  | [] => some []
  | c :: cs => match gcC n M c, gcM n M cs with
    | some a, some as => some (a :: as)
    | _, _ => none
@[simp] theorem gcRs_map (n : Nat) (M : Mem) (ds : List D) : gcRs n M (ds.map .d) = some (ds.map .d) := by
  induction ds with
  | nil => rfl
  | cons d ds ih => simp [gcRs, gcR, ih]
@[simp] theorem deepRs_map (n : Nat) (M : Mem) (f : Nat) (ds : List D) : deepRs n M f (ds.map .d) = some ds := by
  induction ds with
  | nil => simp [deepRs]
  | cons d ds ih => simp [deepRs, deepR, ih]
def gc (n : Nat) (r : R) (M : Mem) : Ro R := match gcR n M r, gcM n M (M.take n) with
  | some r', some M' => .ok r' M'
  | _, _ => .no
def gcX (n : Nat) (x : Xn) (M : Mem) : Ro R := match gcM n M (M.take n) with
  | some M' => .ex x M'
  | none => .no
section
variable {t : Tx} {F F' H : Hp} {ads : List Addr} {M : Mem} {n : Nat}
/-- the new cells are fixed from now on -/
def fixF (F H : Hp) (nn : List Addr) : Hp := fun a => match F a with
  | some o => some o
  | none => if a ∈ nn then H a else none
theorem fixF_ex (F H : Hp) (nn : List Addr) : Fx F (fixF F H nn) := fun a o e => by simp [fixF, e]
theorem fixF_new {nn : List Addr} {a : Addr} (h : a ∈ nn) (e : F a = none) : fixF F H nn a = H a := by simp [fixF, e, h]
mutual
theorem deepR_ok (Rr : Rel t ads F M H) : ∀ (f : Nat) (r : R) {v : V} {d : D}, IsR t F ads r v → deepR n M f r = some d → Is t (fixF F H (ads.drop n)) d v
  | f, .d d', v, d, h, e => by
    unfold deepR at e
    cases e
    exact Is.mono (fixF_ex F H _) _ h
  | 0, .ref i, v, d, h, e => by unfold deepR at e; cases e
  | f + 1, .ref i, v, d, h, e => by
    obtain ⟨a, ha, rfl⟩ := h
    unfold deepR at e
    split at e
    · cases e
    · rename_i hi
      have hn : a ∈ ads.drop n := by
        have : (ads.drop n)[i - n]? = some a := by
          rw [List.getElem?_drop, show n + (i - n) = i from by omega]
          exact ha
        exact List.mem_of_getElem? this
      cases q : M[i]? with
      | none => simp only [q] at e; cases e
      | some c =>
        have hc := Rr.ok i c a q ha
        cases c with
        | frz d' =>
          simp only [q] at e
          cases e
          exact Is.mono (fixF_ex F H _) _ hc
        | lst rs =>
          simp only [q] at e
          obtain ⟨ds, e1, rfl⟩ := Option.map_eq_some_iff.mp e
          obtain ⟨hf, vs, h1, h2⟩ := hc
          unfold Is
          exact ⟨a, vs, rfl, .inl (by rw [fixF_new hn hf]; exact h1), deepRs_ok Rr f rs h2 e1⟩
        | tup rs =>
          simp only [q] at e
          obtain ⟨ds, e1, rfl⟩ := Option.map_eq_some_iff.mp e
          obtain ⟨hf, vs, h1, h2⟩ := hc
          unfold Is
          exact ⟨a, vs, rfl, SqT.of (by rw [fixF_new hn hf]; exact h1), deepRs_ok Rr f rs h2 e1⟩
        | dct ks rs =>
          simp only [q] at e
          obtain ⟨ds, e1, rfl⟩ := Option.map_eq_some_iff.mp e
          obtain ⟨hf, kvs, h1, h2, h3, h4⟩ := hc
          unfold Is
          exact ⟨a, kvs, rfl, .inl (by rw [fixF_new hn hf]; exact h1), h2, h3, deepRs_ok Rr f rs h4 e1⟩
        | obj k rs =>
          simp only [q] at e
          obtain ⟨ds, e1, rfl⟩ := Option.map_eq_some_iff.mp e
          obtain ⟨hf, dx, vs, h1, h2, h3⟩ := hc
          unfold Is
          exact ⟨a, dx, vs, rfl, by rw [fixF_new hn hf]; exact h1, h2, deepRs_ok Rr f rs h3 e1⟩
termination_by f r => (f, 0)
theorem deepRs_ok (Rr : Rel t ads F M H) : ∀ (f : Nat) (rs : List R) {vs : List V} {ds : List D}, IsRs t F ads rs vs → deepRs n M f rs = some ds → IsL t (fixF F H (ads.drop n)) ds vs
  | f, [], vs, ds, h, e => by
    unfold deepRs at e
    cases e
    cases h
    unfold IsL
    rfl
  | f, r :: rs, vs, ds, h, e => by
    cases h with
    | cons h1 h2 =>
      unfold deepRs at e
      cases q1 : deepR n M f r with
      | none => simp only [q1] at e; cases e
      | some d =>
        cases q2 : deepRs n M f rs with
        | none => simp only [q1, q2] at e; cases e
        | some ds' =>
          simp only [q1, q2] at e
          cases e
          unfold IsL
          exact ⟨_, _, rfl, deepR_ok Rr f r h1 q1, deepRs_ok Rr f rs h2 q2⟩
termination_by f rs => (f, rs.length + 1)
end
theorem gcR_ok (Rr : Rel t ads F M H) {r r' : R} {v : V} (h : IsR t F ads r v) (e : gcR n M r = some r') : IsR t (fixF F H (ads.drop n)) (ads.take n) r' v := by
  cases r with
  | d d => cases e; exact Is.mono (fixF_ex F H _) _ h
  | ref i =>
    have e : (if i < n then some (R.ref i) else (deepR n M 6 (.ref i)).map .d) = some r' := e
    split at e
    · rename_i hi
      cases e
      obtain ⟨a, ha, hv⟩ := h
      exact ⟨a, by rw [List.getElem?_take_of_lt hi]; exact ha, hv⟩
    · obtain ⟨d, e1, rfl⟩ := Option.map_eq_some_iff.mp e
      exact deepR_ok Rr 6 (.ref i) h e1
theorem gcRs_ok (Rr : Rel t ads F M H) : ∀ {rs rs' : List R} {vs : List V}, IsRs t F ads rs vs → gcRs n M rs = some rs' → IsRs t (fixF F H (ads.drop n)) (ads.take n) rs' vs
  | [], _, _, h, e => by cases e; cases h; exact .nil
  | r :: rs, rs', _, h, e => by
    cases h with
    | cons h1 h2 =>
      unfold gcRs at e
      cases q1 : gcR n M r with
      | none => simp only [q1] at e; cases e
      | some a =>
        cases q2 : gcRs n M rs with
        | none => simp only [q1, q2] at e; cases e
        | some as =>
          simp only [q1, q2] at e
          cases e
          exact .cons (gcR_ok Rr h1 q1) (gcRs_ok Rr h2 q2)
theorem gcC_ok (Rr : Rel t ads F M H) {c c' : Cell} {a : Addr} (na : a ∉ ads.drop n) (h : CellOk t F ads H a c) (e : gcC n M c = some c') : CellOk t (fixF F H (ads.drop n)) (ads.take n) H a c' := by
  have nf : F a = none → fixF F H (ads.drop n) a = none := fun z => by simp [fixF, z, na]
  cases c with
  | frz d => cases e; exact Is.mono (fixF_ex F H _) _ h
  | lst rs =>
    obtain ⟨hf, vs, h1, h2⟩ := h
    obtain ⟨rs', q, rfl⟩ := Option.map_eq_some_iff.mp e
    exact ⟨nf hf, vs, h1, gcRs_ok Rr h2 q⟩
  | tup rs =>
    obtain ⟨hf, vs, h1, h2⟩ := h
    obtain ⟨rs', q, rfl⟩ := Option.map_eq_some_iff.mp e
    exact ⟨nf hf, vs, h1, gcRs_ok Rr h2 q⟩
  | dct ks rs =>
    obtain ⟨hf, kvs, h1, h2, h3, h4⟩ := h
    obtain ⟨rs', q, rfl⟩ := Option.map_eq_some_iff.mp e
    exact ⟨nf hf, kvs, h1, h2, h3, gcRs_ok Rr h4 q⟩
  | obj k rs =>
    obtain ⟨hf, dx, vs, h1, h2, h3⟩ := h
    obtain ⟨rs', q, rfl⟩ := Option.map_eq_some_iff.mp e
    exact ⟨nf hf, dx, vs, h1, h2, gcRs_ok Rr h3 q⟩
theorem gcM_get {i : Nat} {c : Cell} : ∀ {cs M' : Mem}, gcM n M cs = some M' → M'[i]? = some c → ∃ c0, cs[i]? = some c0 ∧ gcC n M c0 = some c := by
  intro cs
  induction cs generalizing i with
  | nil => intro M' h e; cases h; simp at e
  | cons c0 cs ih =>
    intro M' h e
    unfold gcM at h
    cases q1 : gcC n M c0 with
    | none => simp only [q1] at h; cases h
    | some a =>
      cases q2 : gcM n M cs with
      | none => simp only [q1, q2] at h; cases h
      | some as =>
        simp only [q1, q2] at h
        cases h
        cases i with
        | zero => simp at e; subst e; exact ⟨c0, rfl, q1⟩
        | succ i =>
          simp at e
          obtain ⟨c1, h1, h2⟩ := ih q2 e
          exact ⟨c1, by simpa using h1, h2⟩
theorem gcM_len : ∀ {cs M' : Mem}, gcM n M cs = some M' → M'.length = cs.length := by
  intro cs
  induction cs with
  | nil => intro M' h; cases h; rfl
  | cons c0 cs ih =>
    intro M' h
    unfold gcM at h
    cases q1 : gcC n M c0 with
    | none => simp only [q1] at h; cases h
    | some a =>
      cases q2 : gcM n M cs with
      | none => simp only [q1, q2] at h; cases h
      | some as =>
        simp only [q1, q2] at h
        cases h
        simp [ih q2]
theorem Rel.gcM (Rr : Rel t ads F M H) (hn : n ≤ M.length) {M' : Mem} (h : Lc.gcM n M (M.take n) = some M') : Rel t (ads.take n) (fixF F H (ads.drop n)) M' H := by
  have split : ads = ads.take n ++ ads.drop n := (List.take_append_drop n ads).symm
  have nd := Rr.nd
  rw [split] at nd
  obtain ⟨n1, _, n3⟩ := List.nodup_append.mp nd
  refine ⟨fun a o e => ?_, n1, ?_, fun a ha => Rr.th a (List.mem_of_mem_take ha), fun i c a e1 e2 => ?_⟩
  · unfold fixF at e
    cases q : F a with
    | some u => rw [q] at e; cases e; exact Rr.ex _ _ q
    | none =>
      rw [q] at e
      dsimp only at e
      split at e
      · exact e
      · cases e
  · rw [gcM_len h, List.length_take, List.length_take, Rr.ln]
  · obtain ⟨c0, h1, h2⟩ := gcM_get h e1
    have hi : i < n := by
      have z := (List.getElem?_eq_some_iff.mp h1).1
      rw [List.length_take] at z
      omega
    rw [List.getElem?_take_of_lt hi] at h1
    have na : a ∉ ads.drop n := fun z => n3 a (List.mem_of_getElem? e2) a z rfl
    rw [List.getElem?_take_of_lt hi] at e2
    exact gcC_ok Rr na (Rr.ok i c0 a h1 e2) h2
theorem Stp.gc {F0 H0 : Hp} {ads0 : List Addr} (s : Stp ads0 F0 H0 ads F H) : Stp ads0 F0 H0 (ads.take ads0.length) (fixF F H (ads.drop ads0.length)) H ∧ ads.take ads0.length = ads0 := by
  obtain ⟨n, en, hn⟩ := s.ad
  have e1 : ads.take ads0.length = ads0 := by rw [en]; simp
  have e2 : ads.drop ads0.length = n := by rw [en]; simp
  rw [e1, e2]
  refine ⟨⟨fun a o e => fixF_ex F H n a o (s.ex a o e), ⟨[], by simp, by simp⟩, fun a h1 h2 => ?_, s.fr, s.th⟩, rfl⟩
  cases q : F a with
  | some u => exact s.nw a h1 (by rw [q]; exact fun z => by cases z)
  | none =>
    by_cases ha : a ∈ n
    · exact .inl (hn a ha)
    · simp [fixF, q, ha] at h2
end
/-! ### a def by its mirror -/
/-- a call -/
def call (keep : Bool) (f : Fn) : Fn := fun args M =>
  let is := reach M 60 (refsRs args) []
  match subRs is args, subM is M is with
  | some as, some M0 => match f as M0 with
    | .ok r M1 => if keep then .ok (backR is M.length r) (wb is M M1) else match gc is.length r M1 with
      | .ok r M2 => .ok (backR is M.length r) (wb is M M2)
      | _ => .no
    | .ex x M1 => match gcX is.length x M1 with
      | .ex x M2 => .ex x (wb is M M2)
      | _ => .no
    | .no => .no
  | _, _ => .no
/-- what a def promises -/
def spF (t : Tx) (n : Nat) (m : Fn) : Sp := fun vs H Q E => vs.length = n ∧ ∃ ads F rs M, Rel t ads F M H ∧ IsRs t F ads rs vs ∧ Kt t E ads F H (m rs M) Q
section
variable {t : Tx} {F H : Hp} {ads : List Addr} {M : Mem} {m : Fn} {W : XK} {Q : VK} {rs : List R} {vs : List V} {n : Nat} {keep : Bool}
theorem spF_of (Rr : Rel t ads F M H) (pr : IsRs t F ads rs vs) (hn : vs.length = n) (k : Kt t W ads F H (call keep m rs M) Q) : spF t n m vs H Q W := by
  obtain ⟨ni, hb⟩ := reach_ok M 60 (refsRs rs) [] (by simp) (fun i hi => by cases hi)
  unfold call at k
  dsimp only at k
  generalize reach M 60 (refsRs rs) [] = is at ni hb k
  cases q1 : subRs is rs with
  | none => simp only [q1] at k; exact k.elim
  | some as =>
    cases q2 : subM is M is with
    | none => simp only [q1, q2] at k; exact k.elim
    | some M0 =>
      simp only [q1, q2] at k
      have R0 := Rr.sub ni hb q2
      have el : (sads is ads).length = is.length := by simp [sads]
      refine ⟨hn, sads is ads, F, as, M0, R0, subRs_ok pr q1, ?_⟩
      cases q3 : m as M0 with
      | no => simp only [q3] at k; exact k.elim
      | ok r M1 =>
        simp only [q3] at k
        intro ads1 F1 H1 v s R1 p
        obtain ⟨n', en, hn'⟩ := id s.ad
        subst en
        have hb' : ∀ i ∈ is, i < ads.length := fun i hi => by rw [Rr.ln]; exact hb i hi
        cases keep with
        | true =>
          simp only [if_true] at k
          obtain ⟨R2, s2⟩ := Rr.back ni hb s R1
          exact k _ _ _ _ s2 R2 (by rw [← Rr.ln]; exact backR_ok hb' p)
        | false =>
          simp only [Bool.false_eq_true, if_false] at k
          unfold gc at k
          cases q4 : gcR is.length M1 r with
          | none => simp only [q4] at k; exact k.elim
          | some r' =>
            cases q5 : gcM is.length M1 (M1.take is.length) with
            | none => simp only [q4, q5] at k; exact k.elim
            | some M2 =>
              simp only [q4, q5] at k
              have hle : is.length ≤ M1.length := by
                rw [← R1.ln, List.length_append, el]
                omega
              obtain ⟨sg, eg⟩ := s.gc
              rw [el] at sg eg
              have R2 := R1.gcM hle q5
              have p2 := gcR_ok R1 p q4
              rw [eg] at R2 p2 sg
              have e0 : sads is ads = sads is ads ++ [] := by simp
              have R2 : Rel t (sads is ads ++ []) (fixF F1 H1 ((sads is ads ++ n').drop is.length)) M2 H1 := by rw [← e0]; exact R2
              have p2 : IsR t (fixF F1 H1 ((sads is ads ++ n').drop is.length)) (sads is ads ++ []) r' v := by rw [← e0]; exact p2
              have sg2 : Stp (sads is ads) F H (sads is ads ++ []) (fixF F1 H1 ((sads is ads ++ n').drop is.length)) H1 := by rw [← e0]; exact sg
              obtain ⟨R3, s3⟩ := Rr.back ni hb sg2 R2
              exact k _ _ _ _ s3 R3 (by rw [← Rr.ln]; exact backR_ok hb' p2)
      | ex x M1 =>
        simp only [q3] at k
        intro ads1 F1 H1 cls dd s R1 p hd
        obtain ⟨n', en, hn'⟩ := id s.ad
        subst en
        have hb' : ∀ i ∈ is, i < ads.length := fun i hi => by rw [Rr.ln]; exact hb i hi
        unfold gcX at k
        cases q5 : gcM is.length M1 (M1.take is.length) with
        | none => simp only [q5] at k; exact k.elim
        | some M2 =>
          simp only [q5] at k
          have hle : is.length ≤ M1.length := by
            rw [← R1.ln, List.length_append, el]
            omega
          obtain ⟨sg, eg⟩ := s.gc
          rw [el] at sg eg
          have R2 := R1.gcM hle q5
          rw [eg] at R2 sg
          have e0 : sads is ads = sads is ads ++ [] := by simp
          have R2 : Rel t (sads is ads ++ []) (fixF F1 H1 ((sads is ads ++ n').drop is.length)) M2 H1 := by rw [← e0]; exact R2
          have sg2 : Stp (sads is ads) F H (sads is ads ++ []) (fixF F1 H1 ((sads is ads ++ n').drop is.length)) H1 := by rw [← e0]; exact sg
          obtain ⟨R3, s3⟩ := Rr.back ni hb sg2 R2
          refine k _ _ _ cls dd s3 R3 ?_ hd
          obtain ⟨p1, p2, p3⟩ := p
          refine ⟨p1, p2, p3.imp id ?_⟩
          rintro ⟨d, fs, vs', h1, h2, h3, h4, h5⟩
          refine ⟨d, fs, vs', h1, h2, ?_, IsL.mono (fixF_ex _ _ _) _ h4, h5⟩
          intro z
          rw [List.append_nil] at z
          exact Rr.th d z (hd d h1)
end
end Lc
set_option Elab.async false
set_option linter.all false
set_option maxRecDepth 100000
set_option maxHeartbeats 4000000
/-! Defs, calls, methods, instances, what changes in place. -/
namespace Lc
open PySem PySem.Spec PyProof.Rows L2 LcX
/-! ### a def -/
def fnOf (N : Nat) (fb : S) : Fn := fun rs M => match fb (rs.map some ++ List.replicate (N - rs.length) none) M with
  | .nx _ M' => .ok (.d .non) M'
  | .rt r M' => .ok r M'
  | .ex x _ M' => .ex x M'
  | _ => .no
def noFn : Fn := fun _ _ => .no
/-- the wish of a def's body -/
abbrev WofE (E : XK) : Wk := { w := fun cls d _ H => E cls d H }
section
variable {t : Tx} {P : Program} {w : World} {K : PySem.W.Frag} {mg : Str → Option Value} {base : Heap}
theorem spF_len {n : Nat} {m : Fn} {vs : List V} {H : Hp} {Q : VK} {E : XK} (h : spF t n m vs H Q E) : vs.length = n := h.1
theorem f_no {CX : CXT} {k : Nat} {f : Addr} {fd : FuncData} {ps : List Str} : FnOk P w K mg base CX k f fd ps (spF t ps.length noFn) := ⟨fun _ _ _ _ h => h.1, fun _ _ _ _ _ _ _ _ _ _ _ _ _ h => by
  obtain ⟨_, ads, F, rs, M, _, _, k⟩ := h
  exact k.elim⟩
theorem env_start {F : Hp} {ads : List Addr} {rs : List R} {vs : List V} {N : List Str} (h : IsRs t F ads rs vs) : EnvR t F ads (rs.map some ++ List.replicate (N.length - rs.length) none) (L2.start N vs) := by
  have hl := Paired.length h
  refine ⟨by simp [L2.start, hl], fun i r e => ?_⟩
  by_cases hi : i < rs.length
  · rw [List.getElem?_append_left (by simpa using hi), List.getElem?_map] at e
    cases q : rs[i]? with
    | none => rw [q] at e; cases e
    | some r' =>
      rw [q] at e
      cases e
      obtain ⟨v, e2, p⟩ := pair_get h q
      refine ⟨v, ?_, p⟩
      unfold L2.start
      rw [List.getElem?_append_left (by rw [List.length_map, ← hl]; exact hi), List.getElem?_map, e2]
      rfl
  · rw [List.getElem?_append_right (by simpa using hi), List.getElem?_replicate] at e
    split at e <;> cases e
theorem f_ok {k : Nat} {f : Addr} {name qual : Str} {params : Arguments} {body : List Stmt} {scope : Scope} {dV kV doc pm cdv ct oc : Value} {an od : Option Addr} {osl : Array (Option Value)} {N ps : List Str} {fb : S}
    (lk : K.lookup f = some ⟨oc, od, .func (PySem.W.fnOf name qual params body scope dV kV doc pm an cdv ct), osl⟩) (hcd : PySem.W.codeIn K cdv qual = true) (S : FnScope N ps scope)
    (hbody : ∀ (A : Around) (outer : List PySem.Env) (s : Shared) (H : Hp) (E : XK), Room k (A.deeper (envOfC qual scope s.heap.objs.size f cdv)) → Tak (cxOf (LcX.CX P w) P w K mg base N qual scope f cdv A outer s H E) (WofE E).w →
      PSs (cxOf (LcX.CX P w) P w K mg base N qual scope f cdv A outer s H E) body (tS t (WofE E) [] fb)) :
    FnOk P w K mg base (LcX.CX P w) (k + 1) f (PySem.W.fnOf name qual params body scope dV kV doc pm an cdv ct) ps (spF t ps.length (fnOf N.length fb)) := by
  refine fn_of lk hcd S (fun _ _ _ _ h => h.1) fun A outer s H vs Q E hr h => ?_
  refine ⟨_, hbody A outer s H E hr (tak_of rfl rfl rfl rfl), ?_⟩
  obtain ⟨hn, ads, F, rs, M, Rr, pr, k⟩ := h
  refine ⟨ads, F, _, M, ⟨Rr, env_start pr, (fun p hp => by cases hp)⟩, (fun p hp => by cases hp), ?_⟩
  unfold fnOf at k
  cases q : fb (rs.map some ++ List.replicate (N.length - rs.length) none) M with
  | nx e M' => simp only [q] at k; exact fun ads' F' H' σ' s fr _ => k _ _ _ _ s fr.rel (isN (t := t) F')
  | rt r M' => simp only [q] at k; exact k
  | ex x e M' => simp only [q] at k; exact fun ads' F' H' σ' cls dd s fr _ => k ads' F' H' cls dd s fr.rel
  | bk _ _ => simp only [q] at k; exact k.elim
  | ct _ _ => simp only [q] at k; exact k.elim
  | no => simp only [q] at k; exact k.elim
end
/-! ### f(..) -/
/-- never come to -/
def eNo : E := fun _ _ => .no
def esNo : Es := fun _ _ => .no
/-- written defaults -/
def Dfl (t : Tx) (ds : List D) (vs : List V) (us : List Value) : Prop := Vals vs us ∧ ∀ F ads, IsRs t F ads (ds.map .d) vs
def eCall (keep : Bool) (n : Nat) (m : Fn) (fs : Es) (dfl : List D) : E := fun env M => (fs env M).bind fun rs M1 => if (rs ++ dfl.map R.d).length = n then call keep m (rs ++ dfl.map R.d) M1 else .no
section
variable {t : Tx} {W : Wk} {X : Cx} {k : Nat} {f C : Addr} {fd : FuncData} {ps : List Str} {m : Fn} {dvs : List V} {ds : List Value} {dfl : List D} {x mn : Str} {p pos apos : Pos} {e o : Expr} {es : List Expr} {fs : Es} {fo : E} {keep : Bool} {c : Nat}
theorem e_no : PE X e (tE t W eNo) := ⟨fun pins s σ H Q I h => by
  obtain ⟨ads, F, env, M, fr, h⟩ := h
  exact h.elim⟩
theorem dfl_nil : Dfl t [] [] [] := ⟨.nil, fun _ _ => .nil⟩
theorem dfl_int {i : Int} {tk : Tok} (h : Dfl t dfl dvs ds) : Dfl t (.int i :: dfl) (.int i :: dvs) (.int i tk :: ds) := ⟨.cons ⟨tk, rfl⟩ h.1, fun F ads => .cons (isI (t := t) F i) (h.2 F ads)⟩
theorem dfl_non (h : Dfl t dfl dvs ds) : Dfl t (.non :: dfl) (.non :: dvs) (.none :: ds) := ⟨.cons rfl h.1, fun F ads => .cons (isN (t := t) F) (h.2 F ads)⟩
theorem callS_read {σ : L2.St} {H : Hp} {Q : VK} {n : Nat} (hd : Dfl t dfl dvs ds) (h : tE t W (eCall keep n m fs dfl) σ H Q) : tEs t W fs σ H fun vs H1 => spF t n m (vs ++ dvs) H1 Q (WE W.w σ) := by
  obtain ⟨ads, F, env, M, fr, h⟩ := h
  refine Fr.bind fr h fun ads1 F1 M1 vs H1 fr1 _ rs pr k => ?_
  split at k
  · rename_i c
    have pr2 := pair_append pr (hd.2 F1 ads1)
    exact spF_of fr1.rel pr2 (by rw [← Paired.length pr2]; exact c) k
  · exact k.elim
theorem c_call (F : FnOk X.prog X.w X.K X.mg X.base (LcX.CX X.prog X.w) k f fd ps (spF t ps.length m)) (hr : Room k X.A) (hg : Gl X x) (hm : X.mg x = some (.ref f)) (hk : PySem.W.keepIn X.K (.ref f) = true) (hb : Binds X.K fd ps ds) (hd : Dfl t dfl dvs ds) (tk : Tak X W.w)
    (ha : PA X (e :: es) (tEs t W fs)) (hdb : (x == ("__debug__" : Str)) = false := by decide) (he : starEach (e :: es) X.env = (false, eval e X.env) :: starEach es X.env := by rfl) (hpl : (backTo pos (starEach es X.env)).any (·.1) = false := by rfl) :
    PE X (.Call (.Name x p) (e :: es) [] pos) (tE t W (eCall keep ps.length m fs dfl)) := PE.imp (pe_callSD F hr hg hm hk hb hd.1 (fun σ => passT tk σ) ha hdb he hpl) fun σ H Q h => callS_read hd h
theorem c_call0 (F : FnOk X.prog X.w X.K X.mg X.base (LcX.CX X.prog X.w) k f fd ps (spF t ps.length m)) (hr : Room k X.A) (hg : Gl X x) (hm : X.mg x = some (.ref f)) (hk : PySem.W.keepIn X.K (.ref f) = true) (hb : Binds X.K fd ps ds) (hd : Dfl t dfl dvs ds) (tk : Tak X W.w)
    (hdb : (x == ("__debug__" : Str)) = false := by decide) : PE X (.Call (.Name x p) [] [] pos) (tE t W (eCall keep ps.length m esNil dfl)) := by
  refine ⟨fun pins s σ H Q I h => ?_⟩
  have h2 := callS_read hd h
  obtain ⟨ads, F', env, M, fr, h2⟩ := h2
  refine wpAny_Call_Name_kw (ld_glob I hg hm ?_ hdb)
  exact PySem.W.callWith_K0 I.kIn hk (run_fnSD (us := []) (vs := []) (E := WE W.w) F hr hb hd.1 (passT tk σ) I .nil (h2 _ _ _ _ .refl fr.rel .nil))
/-! ### o.m(..) -/
def isObj' (c : Nat) (M : Mem) (r : R) : Bool := match vw M r with
  | .obj c' _ => c' == c
  | _ => false
def eMeth (keep : Bool) (c n : Nat) (m : Fn) (fo : E) (fs : Es) (dfl : List D) : E := fun env M => (fo env M).bind fun o M1 => if isObj' c M1 o then (fs env M1).bind fun rs M2 => if (o :: (rs ++ dfl.map R.d)).length = n then call keep m (o :: (rs ++ dfl.map R.d)) M2 else .no else .no
theorem lookup_zip_none {n : Str} : ∀ {fn : List Str} {vs : List V}, n ∉ fn → (fn.zip vs).lookup n = none
  | [], _, _ => by simp
  | _ :: _, [], _ => by simp
  | g :: fn, v :: vs, h => by
    have h1 : (n == g) = false := by
      rw [beq_eq_false_iff_ne]
      exact fun z => h (by rw [z]; exact List.mem_cons_self)
    show List.lookup n ((g, v) :: fn.zip vs) = none
    rw [List.lookup_cons, h1]
    exact lookup_zip_none fun z => h (List.mem_cons_of_mem _ z)
def tMethS (C : Addr) (mn : Str) (sp : Sp) (dvs : List V) (E : L2.St → XK) (ta : TE) (t : TA) : TE := fun σ H Q => ta σ H fun x H1 => ∃ a dx fs, x = .ref a ∧ H1 a = some (.ins C dx fs) ∧ fs.lookup mn = none ∧ t σ H1 fun vs H2 => sp (x :: (vs ++ dvs)) H2 Q (E σ)
theorem methS_read {σ : L2.St} {H : Hp} {Q : VK} {n : Nat} (hd : Dfl t dfl dvs ds) (hC : t.cad c = C) (hf : mn ∉ t.cfn c) (h : tE t W (eMeth keep c n m fo fs dfl) σ H Q) : tMethS C mn (spF t n m) dvs (WE W.w) (tE t W fo) (tEs t W fs) σ H Q := by
  obtain ⟨ads, F, env, M, fr, h⟩ := h
  refine Fr.bind fr h fun ads1 F1 M1 v H1 fr1 _ o po k => ?_
  split at k
  · rename_i io
    unfold isObj' at io
    have sx := fr1.rel.view po
    cases q : vw M1 o with
    | obj c' rs0 =>
      simp only [q] at io sx
      have ec : c' = c := by simpa using io
      subst ec
      obtain ⟨a, dx, vs0, ev, h1, h2, h3⟩ := sx
      refine ⟨a, dx, _, ev, by rw [← hC]; exact h1, lookup_zip_none hf, ?_⟩
      refine Fr.bind fr1 k fun ads2 F2 M2 vs H2 fr2 mm rs pr k2 => ?_
      split at k2
      · rename_i cc
        have pr2 : IsRs t F2 ads2 (o :: (rs ++ dfl.map R.d)) (v :: (vs ++ dvs)) := .cons (po.mono mm) (pair_append pr (hd.2 F2 ads2))
        exact spF_of fr2.rel pr2 (by rw [← Paired.length pr2]; exact cc) k2
      · exact k2.elim
    | _ => simp only [q] at io; cases io
  · exact k.elim
theorem c_meth {pl : Sem Bool} (he : PE X o (tE t W fo)) (hcl : Cls X.K C) (hm : Meth X.K C mn f) (hC : t.cad c = C) (hf : mn ∉ t.cfn c) (F : FnOk X.prog X.w X.K X.mg X.base (LcX.CX X.prog X.w) k f fd ps (spF t ps.length m)) (hr : Room k X.A) (hb : Binds X.K fd ps ds) (hd : Dfl t dfl dvs ds) (tk : Tak X W.w) (ha : PA X (e :: es) (tEs t W fs))
    (hst : starEach (e :: es) X.env = (false, eval e X.env) :: starEach es X.env := by rfl) (hpl : (backTo pos (starEach es X.env)).any (·.1) = false := by rfl)
    (ht : eval (.Call (.Attribute o mn apos) (e :: es) [] pos) X.env = (do
      let ov ← eval o X.env
      standAt apos.atName
      let (f, first) ← holding [ov] (getMethod ov mn pl)
      callWith pos f first (backTo pos (starEach (e :: es) X.env)) (backToKw pos (keywordEach [] X.env))) := by rfl) :
    PE X (.Call (.Attribute o mn apos) (e :: es) [] pos) (tE t W (eMeth keep c ps.length m fo fs dfl)) := by
  refine ⟨fun pins s σ H Q I h => ?_⟩
  have h := methS_read hd hC hf h
  refine PySem.W.methodCall_KW (pl := pl) (thn (he.run pins s σ H _ I h) fun u s1 ⟨x, H1, I1, rx, a, dx, fs, ex, ea, l, q⟩ => ?_) ht
  subst ex
  obtain rfl : u = Value.ref a := rx
  refine getmeth_ok I1 ea hcl hm l ?_
  refine PySem.W.callWith_K (first := [.ref a]) (h₀ := X.base) I.ok.mod.kin hm.kp (thn (ha.run pos pins s1 σ H1 _ I1 q) fun us s2 ⟨vs, H2, I2, r, q2⟩ => ⟨I2.kIn, ?_⟩) hst hpl
  exact run_fnSD (us := .ref a :: us) (vs := .ref a :: vs) (E := WE W.w) F hr hb hd.1 (passT tk σ) I2 (.cons rfl r) q2
theorem c_meth0 {pl : Sem Bool} (he : PE X o (tE t W fo)) (hcl : Cls X.K C) (hm : Meth X.K C mn f) (hC : t.cad c = C) (hf : mn ∉ t.cfn c) (F : FnOk X.prog X.w X.K X.mg X.base (LcX.CX X.prog X.w) k f fd ps (spF t ps.length m)) (hr : Room k X.A) (hb : Binds X.K fd ps ds) (hd : Dfl t dfl dvs ds) (tk : Tak X W.w)
    (ht : eval (.Call (.Attribute o mn apos) [] [] pos) X.env = (do
      let ov ← eval o X.env
      standAt apos.atName
      let (f, first) ← holding [ov] (getMethod ov mn pl)
      callWith pos f first (backTo pos (starEach [] X.env)) (backToKw pos (keywordEach [] X.env))) := by rfl) :
    PE X (.Call (.Attribute o mn apos) [] [] pos) (tE t W (eMeth keep c ps.length m fo esNil dfl)) := by
  refine ⟨fun pins s σ H Q I h => ?_⟩
  have h := methS_read hd hC hf h
  refine PySem.W.methodCall_KW (pl := pl) (thn (he.run pins s σ H _ I h) fun u s1 ⟨x, H1, I1, rx, a, dx, fs, ex, ea, l, q⟩ => ?_) ht
  subst ex
  obtain rfl : u = Value.ref a := rx
  refine getmeth_ok I1 ea hcl hm l ?_
  obtain ⟨ads2, F2, env2, M2, fr2, q⟩ := q
  exact PySem.W.callWith_K0 (first := [.ref a]) I1.kIn hm.kp (run_fnSD (us := [.ref a]) (vs := [.ref a]) (E := WE W.w) F hr hb hd.1 (passT tk σ) I1 (.cons rfl .nil) (q _ _ _ _ .refl fr2.rel .nil))
/-! ### o.f -/
def eFld (c j : Nat) (fo : E) : E := fun env M => (fo env M).bind fun o M1 => match vw M1 o with
  | .obj c' rs => if c' == c then Ro.of rs[j]? M1 else .no
  | _ => .no
theorem lookup_zip {n : Str} : ∀ {fn : List Str} {vs : List V} {j : Nat} {v : V}, fn.Nodup → fn[j]? = some n → vs[j]? = some v → (fn.zip vs).lookup n = some v
  | [], _, _, _, _, h, _ => by simp at h
  | _ :: _, [], _, _, _, _, h => by simp at h
  | g :: fn, w :: vs, 0, v, _, h1, h2 => by
    simp at h1 h2
    subst h1 h2
    show List.lookup g ((g, w) :: fn.zip vs) = _
    rw [List.lookup_cons, beq_self_eq_true]
  | g :: fn, w :: vs, j + 1, v, nd, h1, h2 => by
    obtain ⟨hg, nd⟩ := List.nodup_cons.mp nd
    have hn : n ∈ fn := List.mem_of_getElem? (by simpa using h1)
    have h0 : (n == g) = false := by
      rw [beq_eq_false_iff_ne]
      exact fun z => hg (by rw [← z]; exact hn)
    show List.lookup n ((g, w) :: fn.zip vs) = _
    rw [List.lookup_cons, h0]
    exact lookup_zip nd (by simpa using h1) (by simpa using h2)
theorem c_fld {fl : Str} {j : Nat} (he : PE X o (tE t W fo)) (hb : attributeBase o fl X.env (eval o X.env) = eval o X.env) (hcl : Cls X.K C) (hn : NoAttr X.K C fl) (hC : t.cad c = C) (nd : (t.cfn c).Nodup) (hj : (t.cfn c)[j]? = some fl) : PE X (.Attribute o fl pos) (tE t W (eFld c j fo)) :=
  PE.imp (pe_fld he hb) fun σ H Q h => by
    obtain ⟨ads, F, env, M, fr, h⟩ := h
    refine Fr.bind fr h fun ads1 F1 M1 v H1 fr1 _ o po k => ?_
    have sx := fr1.rel.view po
    split at k
    · rename_i c' rs q
      rw [q] at sx
      split at k
      · rename_i ec
        have ec : c' = c := by simpa using ec
        subst ec
        obtain ⟨a, dx, vs, ev, h1, h2, h3⟩ := sx
        cases q2 : rs[j]? with
        | none => rw [q2] at k; exact k.elim
        | some r =>
          rw [q2] at k
          obtain ⟨w, e2, pw⟩ := pair_get h3 q2
          exact ⟨a, C, dx, _, w, ev, by rw [← hC]; exact h1, hcl, hn, lookup_zip nd hj e2, okR fr1.rel pw k⟩
      · exact k.elim
    · exact k.elim
end
/-! ### what changes in place -/
section
variable {t : Tx} {F H : Hp} {ads : List Addr} {M : Mem} {i : Nat} {c c' : Cell} {a : Addr} {o : HO}
theorem Rel.setC (Rr : Rel t ads F M H) (ha : ads[i]? = some a) (hf : F a = none) (hc : CellOk t F ads (upd H a o) a c') : Rel t ads F (M.set i c') (upd H a o) ∧ Stp ads F H ads F (upd H a o) := by
  have hia : a ∈ ads := List.mem_of_getElem? ha
  have hl : i < M.length := by
    rw [← Rr.ln]
    exact (List.getElem?_eq_some_iff.mp ha).1
  refine ⟨⟨fun b u e => ?_, Rr.nd, by simp [Rr.ln], fun b hb => ?_, fun j d b e1 e2 => ?_⟩, fun _ _ z => z, ⟨[], by simp, by simp⟩, fun b h1 h2 => absurd h1 h2, fun b u e hb => ?_, fun b e => ?_⟩
  · rw [upd_ne (ne_of_none e hf)]
    exact Rr.ex _ _ e
  · by_cases hb2 : b = a
    · rw [hb2, upd_same]
      exact fun z => by cases z
    · rw [upd_ne hb2]
      exact Rr.th b hb
  · by_cases hj : i = j
    · subst hj
      rw [List.getElem?_set_self hl] at e1
      cases e1
      rw [ha] at e2
      cases e2
      exact hc
    · rw [List.getElem?_set_ne hj] at e1
      have nb : b ≠ a := fun z => hj ((List.getElem?_inj (List.getElem?_eq_some_iff.mp ha).1 Rr.nd).mp (by rw [ha, e2, z]))
      exact (Rr.ok j d b e1 e2).keep .refl (fun u e => by rw [upd_ne nb]; exact e) fun z _ _ => z
  · rw [upd_ne (fun z => hb (by rw [z]; exact hia))]
    exact e
  · by_cases hb : b = a
    · rw [hb, upd_same] at e
      cases e
    · rw [upd_ne hb] at e
      exact e
end
end Lc
set_option Elab.async false
set_option linter.all false
set_option maxRecDepth 100000
set_option maxHeartbeats 4000000
/-! Methods and functions that are built in; stores; displays. -/
namespace Lc
open PySem PySem.Spec PyProof.Rows L2 LcX
section
variable {t : Tx} {W : Wk} {X : Cx} {e o : Expr} {es : List Expr} {fs : Es} {fo : E} {pos apos p : Pos} {x name : Str}
/-! ### displays -/
def eTup (fs : Es) : E := fun env M => (fs env M).bind fun rs M1 => if rs.length ≤ SL then mk false (.tup rs) M1 else .no
def eLst (cell : Bool) (fs : Es) : E := fun env M => (fs env M).bind fun rs M1 => if rs.length ≤ SL then mk cell (.lst rs) M1 else .no
theorem e_tup {j : Nat} (h : PA X es (tEs t W fs)) : PE X (.Tuple es j pos) (tE t W (eTup fs)) := PE.imp (pe_tup h) fun σ H Q k => by
  obtain ⟨ads, F, env, M, fr, k⟩ := k
  refine Fr.bind fr k fun ads1 F1 M1 vs H1 fr1 _ rs pr k => ?_
  split at k
  · rename_i c
    exact ⟨by rw [← Paired.length pr, ← SL_eq]; exact c, fun p hp => Kg.made fr1.rel hp (newT pr) k⟩
  · exact k.elim
theorem e_lst {cell : Bool} (h : PA X es (tEs t W fs)) : PE X (.List es pos) (tE t W (eLst cell fs)) := PE.imp (pe_lst h) fun σ H Q k => by
  obtain ⟨ads, F, env, M, fr, k⟩ := k
  refine Fr.bind fr k fun ads1 F1 M1 vs H1 fr1 _ rs pr k => ?_
  split at k
  · rename_i c
    exact ⟨by rw [← Paired.length pr, ← SL_eq]; exact c, fun p hp => Kg.made fr1.rel hp (newL pr) k⟩
  · exact k.elim
theorem newD {F : Hp} {ads : List Addr} : New t F ads (.dct [] []) (.dK []) := ⟨[], rfl, fun _ h => (by cases h), rfl, .nil⟩
def eDct0 (cell : Bool) : E := fun _ M => mk cell (.dct [] []) M
theorem e_dct0 {cell : Bool} : PE X (.Dict [] [] pos) (tE t W (eDct0 cell)) := PE.imp pe_dnewK fun σ H Q k => by
  obtain ⟨ads, F, env, M, fr, k⟩ := k
  exact fun p hp => Kg.made fr.rel hp newD k
/-! ### functions that are built in -/
def eBlt (g : List R → Mem → Ro R) (fs : Es) : E := fun env M => (fs env M).bind g
theorem tDs_read {σ : L2.St} {H : Hp} {Q : VK} {g : List R → Mem → Ro R} (h : tE t W (eBlt g fs) σ H Q) : tEs t W fs σ H fun vs H1 => rDs t g vs H1 Q := by
  obtain ⟨ads, F, env, M, fr, h⟩ := h
  exact Fr.bind fr h fun ads1 F1 M1 vs H1 fr1 _ rs pr k => ⟨_, ads1, F1, M1, rs, fr1.rel, pr, k⟩
theorem e_blt {id : String} {g : List R → Mem → Ro R} (hc : CallR X (.builtin id) (rDs t g)) (hg : Gl X x) (hm : X.mg x = none) (hv : bootBuiltins x = some (.builtin id)) (ha : PA X (e :: es) (tEs t W fs)) (hn : x ≠ "__name__" := by decide) (hdb : (x == ("__debug__" : Str)) = false := by decide)
    (he : starEach (e :: es) X.env = (false, eval e X.env) :: starEach es X.env := by rfl) (hpl : (backTo pos (starEach es X.env)).any (·.1) = false := by rfl) : PE X (.Call (.Name x p) (e :: es) [] pos) (tE t W (eBlt g fs)) := PE.imp (pe_callB hc hg hm hv ha hn hdb he hpl) fun σ H Q h => tDs_read h
theorem e_ty {T : String} {g : List R → Mem → Ro R} (hc : CallR X (.type T) (rDs t g)) (hg : Gl X x) (hm : X.mg x = none) (hv : bootBuiltins x = some (.type T)) (ha : PA X (e :: es) (tEs t W fs)) (hn : x ≠ "__name__" := by decide) (hdb : (x == ("__debug__" : Str)) = false := by decide)
    (he : starEach (e :: es) X.env = (false, eval e X.env) :: starEach es X.env := by rfl) (hpl : (backTo pos (starEach es X.env)).any (·.1) = false := by rfl) : PE X (.Call (.Name x p) (e :: es) [] pos) (tE t W (eBlt g fs)) := PE.imp (pe_callTy hc hg hm hv ha hn hdb he hpl) fun σ H Q h => tDs_read h
/-- one argument, by what one sees of it -/
def g1 (g : R → Mem → Ro R) : List R → Mem → Ro R := fun rs M => match one rs with
  | some x => g x M
  | none => .no
def g2 (g : R → R → Mem → Ro R) : List R → Mem → Ro R := fun rs M => match two rs with
  | some (x, y) => g x y M
  | none => .no
theorem rDs_one {g : R → Mem → Ro R} {vs : List V} {H : Hp} {Q : VK} (h : rDs t (g1 g) vs H Q) : ∃ W ads F M r v, vs = [v] ∧ Rel t ads F M H ∧ IsR t F ads r v ∧ Kt t W ads F H (g r M) Q := by
  obtain ⟨W, ads, F, M, rs, Rr, pr, k⟩ := h
  unfold g1 at k
  cases q : one rs with
  | none => simp only [q] at k; exact k.elim
  | some x =>
    simp only [q] at k
    cases one_eq q
    cases pr with
    | cons h1 h2 =>
      cases h2
      exact ⟨W, ads, F, M, _, _, rfl, Rr, h1, k⟩
theorem rDs_two {g : R → R → Mem → Ro R} {vs : List V} {H : Hp} {Q : VK} (h : rDs t (g2 g) vs H Q) : ∃ W ads F M r r2 v v2, vs = [v, v2] ∧ Rel t ads F M H ∧ IsR t F ads r v ∧ IsR t F ads r2 v2 ∧ Kt t W ads F H (g r r2 M) Q := by
  obtain ⟨W, ads, F, M, rs, Rr, pr, k⟩ := h
  unfold g2 at k
  cases q : two rs with
  | none => simp only [q] at k; exact k.elim
  | some xy =>
    obtain ⟨x, y⟩ := xy
    simp only [q] at k
    cases two_eq q
    cases pr with
    | cons h1 h2 =>
      cases h2 with
      | cons h2 h3 =>
        cases h3
        exact ⟨W, ads, F, M, _, _, _, _, rfl, Rr, h1, h2, k⟩
def bLen : List R → Mem → Ro R := g1 fun r M => match vw M r with
  | .lst rs => .ok (.d (.int rs.length)) M
  | .tup rs => .ok (.d (.int rs.length)) M
  | .str s => .ok (.d (.int s.length)) M
  | .dct ks _ => .ok (.d (.int ks.length)) M
  | _ => .no
theorem b_len (ht : t.K = X.K) : CallR X (.builtin "len") (rDs t bLen) := by
  intro pins s σ H vs us Q I rv h
  obtain ⟨W, ads, F, M, r, v, rfl, Rr, hr, k⟩ := rDs_one h
  have sx := Rr.view hr
  split at k
  · rename_i rs q
    rw [q] at sx
    obtain ⟨a, ws, rfl, h1, h2⟩ := sx
    rw [Paired.length h2] at k
    exact call_len_seq pins s σ H _ us Q I rv ⟨a, ws, rfl, .inl (.inl h1), okI Rr k⟩
  · rename_i rs q
    rw [q] at sx
    obtain ⟨a, ws, rfl, h1, h2⟩ := sx
    rw [Paired.length h2] at k
    exact call_len_seq pins s σ H _ us Q I rv ⟨a, ws, rfl, .inr (ht ▸ h1), okI Rr k⟩
  · rename_i z q
    rw [q] at sx
    refine call_len_str pins s σ H _ us Q I rv ⟨st z, by rw [sx.1], by rw [st_len, ← SL_eq]; exact sx.2.1, ?_⟩
    rw [st_len]
    exact okI Rr k
  · rename_i ks rs q
    rw [q] at sx
    obtain ⟨a, kvs, rfl, h1, h2, h3, h4⟩ := sx
    obtain ⟨u, rfl, ru⟩ := vals1 rv
    cases ru
    refine d_len I h1 fun tk s' J => ⟨.int kvs.length, H, J, ⟨tk, rfl⟩, ?_⟩
    rw [h3, List.length_map] at k
    exact okI Rr k
  · exact k.elim
def bList (cell : Bool) : List R → Mem → Ro R := g1 fun r M => match vw M r with
  | .lst rs => mk cell (.lst rs) M
  | .tup rs => mk cell (.lst rs) M
  | _ => .no
theorem b_list {cell : Bool} (ht : t.K = X.K) : CallR X (.type "list") (rDs t (bList cell)) := by
  intro pins s σ H vs us Q I rv h
  obtain ⟨W, ads, F, M, r, v, rfl, Rr, hr, k⟩ := rDs_one h
  have sx := Rr.view hr
  split at k
  · rename_i rs q
    rw [q] at sx
    obtain ⟨a, ws, rfl, h1, h2⟩ := sx
    exact call_list_of pins s σ H _ us Q I rv ⟨a, ws, rfl, .inl (.inl h1), fun p hp => Kg.made Rr hp (newL h2) k⟩
  · rename_i rs q
    rw [q] at sx
    obtain ⟨a, ws, rfl, h1, h2⟩ := sx
    exact call_list_of pins s σ H _ us Q I rv ⟨a, ws, rfl, .inr (ht ▸ h1), fun p hp => Kg.made Rr hp (newL h2) k⟩
  · exact k.elim
def bTuple : List R → Mem → Ro R := g1 fun r M => match vw M r with
  | .lst rs => mk false (.tup rs) M
  | .tup _ => .ok r M
  | _ => .no
theorem b_tuple (ht : t.K = X.K) : CallR X (.type "tuple") (rDs t bTuple) := by
  intro pins s σ H vs us Q I rv h
  obtain ⟨W, ads, F, M, r, v, rfl, Rr, hr, k⟩ := rDs_one h
  have sx := Rr.view hr
  split at k
  · rename_i rs q
    rw [q] at sx
    obtain ⟨a, ws, rfl, h1, h2⟩ := sx
    exact call_tuple_of pins s σ H _ us Q I rv ⟨a, ws, rfl, .inl ⟨.inl h1, fun p hp => Kg.made Rr hp (newT h2) k⟩⟩
  · rename_i rs q
    rw [q] at sx
    obtain ⟨a, ws, rfl, h1, h2⟩ := sx
    exact call_tuple_of pins s σ H _ us Q I rv ⟨a, ws, rfl, .inr ⟨ht ▸ h1, okR Rr hr k⟩⟩
  · exact k.elim
def bMin : List R → Mem → Ro R := g2 fun x y M => match vw M x, vw M y with
  | .int i, .int j => .ok (.d (.int (if j < i then j else i))) M
  | _, _ => .no
def bMax : List R → Mem → Ro R := g2 fun x y M => match vw M x, vw M y with
  | .int i, .int j => .ok (.d (.int (if j > i then j else i))) M
  | _, _ => .no
theorem b_min (hc : X.calm = true) : CallR X (.builtin "min") (rDs t bMin) := by
  intro pins s σ H vs us Q I rv h
  obtain ⟨W, ads, F, M, r, r2, v, v2, rfl, Rr, hr, hr2, k⟩ := rDs_two h
  have sx := Rr.view hr
  have sy := Rr.view hr2
  split at k
  · rename_i i j q q2
    rw [q] at sx
    rw [q2] at sy
    exact call_min2 hc pins s σ H _ us Q I rv ⟨i, j, by rw [show v = .int i from sx, show v2 = .int j from sy], okI Rr k⟩
  · exact k.elim
theorem b_max (hc : X.calm = true) : CallR X (.builtin "max") (rDs t bMax) := by
  intro pins s σ H vs us Q I rv h
  obtain ⟨W, ads, F, M, r, r2, v, v2, rfl, Rr, hr, hr2, k⟩ := rDs_two h
  have sx := Rr.view hr
  have sy := Rr.view hr2
  split at k
  · rename_i i j q q2
    rw [q] at sx
    rw [q2] at sy
    exact call_max2 hc pins s σ H _ us Q I rv ⟨i, j, by rw [show v = .int i from sx, show v2 = .int j from sy], okI Rr k⟩
  · exact k.elim
/-- int(..) of an int, a bool, a text -/
def bInt : List R → Mem → Ro R := g1 fun r M => match vw M r with
  | .int i => .ok (.d (.int i)) M
  | .bl b => .ok (.d (.int (if b then 1 else 0))) M
  | .str s => match PySem.intText? (st s) with
    | some n => if s.length ≤ 640 then .ok (.d (.int n)) M else .no
    | none => .no
  | _ => .no
theorem b_int : CallR X (.type "int") (rDs t bInt) := by
  intro pins s σ H vs us Q I rv h
  obtain ⟨W, ads, F, M, r, v, rfl, Rr, hr, k⟩ := rDs_one h
  have sx := Rr.view hr
  split at k
  · rename_i i q
    rw [q] at sx
    exact call_int1 pins s σ H _ us Q I rv (.inl ⟨i, by rw [show v = .int i from sx], okI Rr k⟩)
  · rename_i b q
    rw [q] at sx
    exact call_int1 pins s σ H _ us Q I rv (.inr ⟨b, by rw [show v = .bl b from sx], okI Rr k⟩)
  · rename_i z q
    rw [q] at sx
    split at k
    · rename_i n hn
      split at k
      · rename_i c
        exact call_int_str pins s σ H _ us Q I rv ⟨st z, n, by rw [sx.1], hn, by rw [st_len]; exact c, okI Rr k⟩
      · exact k.elim
    · exact k.elim
  · exact k.elim
def bAbs : List R → Mem → Ro R := g1 fun r M => match vw M r with
  | .int i => .ok (.d (.int (if i < 0 then -i else i))) M
  | _ => .no
theorem b_abs : CallR X (.builtin "abs") (rDs t bAbs) := by
  intro pins s σ H vs us Q I rv h
  obtain ⟨W, ads, F, M, r, v, rfl, Rr, hr, k⟩ := rDs_one h
  have sx := Rr.view hr
  split at k
  · rename_i i q
    rw [q] at sx
    exact call_abs pins s σ H _ us Q I rv ⟨i, by rw [show v = .int i from sx], okI Rr k⟩
  · exact k.elim
/-- all(..), any(..) of bools -/
def blsR : List R → Option (List Bool)
  | [] => some []
  | .d (.bl b) :: rs => (blsR rs).map (b :: ·)
  | _ => none
@[simp] theorem blsR_map (bs : List Bool) : blsR (bs.map fun b => .d (.bl b)) = some bs := by
  induction bs with
  | nil => rfl
  | cons b bs ih => simp [blsR, ih]
theorem blsR_ok {F : Hp} {ads : List Addr} : ∀ {rs : List R} {bs : List Bool} {vs : List V}, blsR rs = some bs → IsRs t F ads rs vs → vs = bs.map V.bl := by
  intro rs
  induction rs with
  | nil => intro bs vs h k; cases h; cases k; rfl
  | cons r rs ih =>
    intro bs vs h k
    cases r with
    | ref i => cases h
    | d d =>
      cases d with
      | bl b =>
        unfold blsR at h
        obtain ⟨l, h1, rfl⟩ := Option.map_eq_some_iff.mp h
        cases k with
        | cons k1 k2 =>
          have k1 : _ = V.bl b := k1
          rw [ih h1 k2, k1]
          rfl
      | _ => cases h
def bAllW (neg : Bool) : List R → Mem → Ro R := g1 fun r M => match vw M r with
  | .lst rs => match blsR rs with
    | some bs => .ok (.d (.bl (if neg then bs.any id else bs.all id))) M
    | none => .no
  | _ => .no
def bAll := bAllW false
def bAny := bAllW true
theorem b_all (hc : X.calm = true) : CallR X (.builtin "all") (rDs t bAll) := by
  intro pins s σ H vs us Q I rv h
  obtain ⟨W, ads, F, M, r, v, rfl, Rr, hr, k⟩ := rDs_one h
  have sx := Rr.view hr
  split at k
  · rename_i rs q
    rw [q] at sx
    obtain ⟨a, ws, rfl, h1, h2⟩ := sx
    split at k
    · rename_i bs hb
      rw [blsR_ok hb h2] at h1
      exact cr_all hc pins s σ H _ us Q I rv ⟨a, bs, rfl, .inl h1, okB Rr k⟩
    · exact k.elim
  · exact k.elim
theorem b_any (hc : X.calm = true) : CallR X (.builtin "any") (rDs t bAny) := by
  intro pins s σ H vs us Q I rv h
  obtain ⟨W, ads, F, M, r, v, rfl, Rr, hr, k⟩ := rDs_one h
  have sx := Rr.view hr
  split at k
  · rename_i rs q
    rw [q] at sx
    obtain ⟨a, ws, rfl, h1, h2⟩ := sx
    split at k
    · rename_i bs hb
      rw [blsR_ok hb h2] at h1
      exact cr_any hc pins s σ H _ us Q I rv ⟨a, bs, rfl, .inl h1, okB Rr k⟩
    · exact k.elim
  · exact k.elim
/-! ### methods that are built in -/
def isTy (T : String) (M : Mem) (r : R) : Bool := match vw M r with
  | .lst _ => T == "list"
  | .str _ => T == "str"
  | _ => false
def eBm (T : String) (g : List R → Mem → Ro R) (fo : E) (fs : Es) : E := fun env M => (fo env M).bind fun o M1 => if isTy T M1 o then (fs env M1).bind fun rs M2 => g (o :: rs) M2 else .no
/-- a method's rule by its mirror -/
def rMD (t : Tx) (g : List R → Mem → Ro R) : V → List V → Hp → VK → Prop := fun v vs H Q => rDs t g (v :: vs) H Q
theorem isTy_ok {T : String} {F H : Hp} {ads : List Addr} {M : Mem} {r : R} {v : V} (Rr : Rel t ads F M H) (h : IsR t F ads r v) (e : isTy T M r = true) : tyV X.K T v H := by
  have sx := Rr.view h
  unfold isTy at e
  split at e
  · rename_i rs q
    rw [q] at sx
    obtain ⟨a, ws, rfl, h1, h2⟩ := sx
    exact .inl ⟨by simpa using e, ws, .inl h1⟩
  · rename_i z q
    rw [q] at sx
    rw [sx.1]
    show T = "str"
    simpa using e
  · cases e
theorem e_bm {T id : String} {g : List R → Mem → Ro R} (pa : PlainAttrs T) (slot : Slot T name id) (hty : typeOf (.builtin id) = pure (.type "method_descriptor")) (hm : MtR X id (rMD t g)) (ho : PE X o (tE t W fo)) (ha : PA X (e :: es) (tEs t W fs))
    (hbase : attributeBase o name X.env (eval o X.env) = eval o X.env := by rfl)
    (hfew : ((backTo pos (starEach (e :: es) X.env)).all (fun x => !x.1) && (backToKw pos (keywordEach [] X.env)).all (fun x => x.1.isSome)
      && decide ((e :: es).length + ([] : List Keyword).length + (if ([] : List Keyword).isEmpty then 0 else 1) < 30)) = true := by rfl)
    (hline : (apos.endLine == pos.line) = true := by rfl) (hs : starEach (e :: es) X.env = (false, eval e X.env) :: starEach es X.env := by rfl) (hplain : (backTo pos (starEach es X.env)).any (·.1) = false := by rfl) :
    PE X (.Call (.Attribute o name apos) (e :: es) [] pos) (tE t W (eBm T g fo fs)) := PE.imp (pe_bm pa slot hty hm ho ha hbase hfew hline hs hplain) fun σ H Q h => by
  obtain ⟨ads, F, env, M, fr, h⟩ := h
  refine Fr.bind fr h fun ads1 F1 M1 v H1 fr1 _ o po k => ?_
  split at k
  · rename_i c
    refine ⟨isTy_ok fr1.rel po c, Fr.bind fr1 k fun ads2 F2 M2 vs H2 fr2 mm rs pr k2 => ?_⟩
    exact ⟨_, ads2, F2, M2, o :: rs, fr2.rel, .cons (po.mono mm) pr, k2⟩
  · exact k.elim
theorem e_bm0 {T id : String} {g : List R → Mem → Ro R} (pa : PlainAttrs T) (slot : Slot T name id) (hty : typeOf (.builtin id) = pure (.type "method_descriptor")) (hm : MtR X id (rMD t g)) (ho : PE X o (tE t W fo))
    (hbase : attributeBase o name X.env (eval o X.env) = eval o X.env := by rfl) (hline : (apos.endLine == pos.line) = true := by rfl) : PE X (.Call (.Attribute o name apos) [] [] pos) (tE t W (eBm T g fo esNil)) := PE.imp (pe_bm0 pa slot hty hm ho hbase hline) fun σ H Q h => by
  obtain ⟨ads, F, env, M, fr, h⟩ := h
  refine Fr.bind fr h fun ads1 F1 M1 v H1 fr1 _ o po k => ?_
  split at k
  · rename_i c
    exact ⟨isTy_ok fr1.rel po c, _, ads1, F1, M1, [o], fr1.rel, .cons po .nil, k⟩
  · exact k.elim
/-- a list in a cell -/
def cellL (M : Mem) : R → Option (Nat × List R)
  | .ref i => match M[i]? with
    | some (.lst rs) => some (i, rs)
    | _ => none
  | .d _ => none
theorem cellL_ok {F H : Hp} {ads : List Addr} {M : Mem} {r : R} {v : V} {i : Nat} {rs : List R} (Rr : Rel t ads F M H) (h : IsR t F ads r v) (e : cellL M r = some (i, rs)) : ∃ a vs, v = .ref a ∧ ads[i]? = some a ∧ F a = none ∧ H a = some (.lst vs) ∧ IsRs t F ads rs vs := by
  cases r with
  | d d => cases e
  | ref j =>
    obtain ⟨a, ha, ev⟩ := h
    unfold cellL at e
    cases q : M[j]? with
    | none => simp only [q] at e; cases e
    | some c =>
      cases c with
      | lst rs' =>
        simp only [q] at e
        have e' := Option.some.inj e
        have hc : CellOk t F ads H a (.lst rs') := Rr.ok j _ a q ha
        obtain ⟨hf, vs, h1, h2⟩ := hc
        cases e'
        exact ⟨a, vs, ev, ha, hf, h1, h2⟩
      | _ => simp only [q] at e; cases e
/-- the list in a cell becomes another one -/
theorem Kg.setL {F H : Hp} {ads : List Addr} {M : Mem} {i : Nat} {a : Addr} {rs' : List R} {vs' : List V} {W : XK} {r : R} {v : V} {Q : VK} (Rr : Rel t ads F M H) (ha : ads[i]? = some a) (hf : F a = none) (h : IsRs t F ads rs' vs') (hr : IsR t F ads r v)
    (k : Kt t W ads F H (.ok r (M.set i (.lst rs'))) Q) : Q v (upd H a (.lst vs')) := by
  obtain ⟨R2, s2⟩ := Rr.setC (o := .lst vs') (c' := .lst rs') ha hf ⟨hf, vs', upd_same, h⟩
  exact k _ _ _ _ s2 R2 hr
def mAppend : List R → Mem → Ro R := g2 fun o x M => match cellL M o with
  | some (i, rs) => if rs.length < SL then .ok (.d .non) (M.set i (.lst (rs ++ [x]))) else .no
  | none => .no
theorem m_append : MtR X "list.append" (rMD t mAppend) := by
  intro pins s σ H v vs u us Q I rv rvs h
  obtain ⟨W, ads, F, M, r, r2, v, v2, e, Rr, hr, hr2, k⟩ := rDs_two h
  cases e
  split at k
  · rename_i i rs q
    obtain ⟨a, ws, rfl, ha, hf, h1, h2⟩ := cellL_ok Rr hr q
    split at k
    · rename_i c
      exact mt_append pins s σ H _ _ u us Q I rv rvs ⟨a, ws, v2, rfl, rfl, h1, by rw [← Paired.length h2, ← SL_eq]; exact c, Kg.setL (r := .d .non) Rr ha hf (pair_append h2 (.cons hr2 .nil)) (isN (t := t) F) k⟩
    · exact k.elim
  · exact k.elim
def mPop : List R → Mem → Ro R := g1 fun o M => match cellL M o with
  | some (i, rs) => match rs[rs.length - 1]? with
    | some r => .ok r (M.set i (.lst rs.dropLast))
    | none => .no
  | none => .no
theorem m_pop : MtR X "list.pop" (rMD t mPop) := by
  intro pins s σ H v vs u us Q I rv rvs h
  obtain ⟨W, ads, F, M, r, v, e, Rr, hr, k⟩ := rDs_one h
  cases e
  split at k
  · rename_i i rs q
    obtain ⟨a, ws, rfl, ha, hf, h1, h2⟩ := cellL_ok Rr hr q
    split at k
    · rename_i r' e2
      obtain ⟨w, e3, hw⟩ := pair_get h2 e2
      rw [Paired.length h2] at e3
      exact mt_pop pins s σ H _ _ u us Q I rv rvs ⟨a, ws, w, rfl, rfl, h1, e3, Kg.setL Rr ha hf (pair_dropLast h2) hw k⟩
    · exact k.elim
  · exact k.elim
def mPopAt : List R → Mem → Ro R := g2 fun o x M => match cellL M o, vw M x with
  | some (i, rs), .int j => if rgOk j then match seqIndex? j rs.length with
    | some k => match rs[k]? with
      | some r => .ok r (M.set i (.lst (rs.eraseIdx k)))
      | none => .no
    | none => .no
    else .no
  | _, _ => .no
theorem m_popAt : MtR X "list.pop" (rMD t mPopAt) := by
  intro pins s σ H v vs u us Q I rv rvs h
  obtain ⟨W, ads, F, M, r, r2, v, v2, e, Rr, hr, hr2, k⟩ := rDs_two h
  cases e
  have sy := Rr.view hr2
  split at k
  · rename_i i rs j q q2
    rw [q2] at sy
    obtain ⟨a, ws, rfl, ha, hf, h1, h2⟩ := cellL_ok Rr hr q
    split at k
    · rename_i c
      unfold rgOk at c
      simp only [Bool.and_eq_true, decide_eq_true_eq] at c
      split at k
      · rename_i n hn
        split at k
        · rename_i r' e2
          obtain ⟨w, e3, hw⟩ := pair_get h2 e2
          rw [Paired.length h2] at hn
          exact mt_popAt pins s σ H _ _ u us Q I rv rvs ⟨a, ws, j, n, w, rfl, by rw [show v2 = .int j from sy], h1, by omega, by omega, hn, e3, Kg.setL Rr ha hf (pair_erase n h2) hw k⟩
        · exact k.elim
      · exact k.elim
    · exact k.elim
  · exact k.elim
end
end Lc
set_option Elab.async false
set_option linter.all false
set_option maxRecDepth 100000
set_option maxHeartbeats 4000000
/-! Stores. -/
namespace Lc
open PySem PySem.Spec PyProof.Rows L2 LcX
/-- a dict in a cell -/
def cellD (M : Mem) : R → Option (Nat × List D × List R)
  | .ref i => match M[i]? with
    | some (.dct ks rs) => some (i, ks, rs)
    | _ => none
  | .d _ => none
/-- o[i] = v -/
def oSet (o i v : R) (M : Mem) : Option Mem := match cellL M o with
  | some (n, rs) => match vw M i with
    | .int k => match ixN rs.length k with
      | some j => some (M.set n (.lst (rs.set j v)))
      | none => none
    | _ => none
  | none => match cellD M o with
    | some (n, ks, rs) => match dkey M i with
      | some k => if ks.length < SL then some (M.set n (.dct (dputK ks k) (dputR ks rs k v))) else none
      | none => none
    | none => none
section
variable {t : Tx} {F H : Hp} {ads : List Addr} {M : Mem}
theorem cellD_ok {r : R} {v : V} {i : Nat} {ks : List D} {rs : List R} (Rr : Rel t ads F M H) (h : IsR t F ads r v) (e : cellD M r = some (i, ks, rs)) : ∃ a kvs, v = .ref a ∧ ads[i]? = some a ∧ F a = none ∧ H a = some (.dK kvs) ∧ (∀ k ∈ kvs, keyOk k.1) ∧ ks = kvs.map (fun k => keyD k.1) ∧ IsRs t F ads rs (kvs.map (·.2)) := by
  cases r with
  | d d => cases e
  | ref j =>
    obtain ⟨a, ha, ev⟩ := h
    unfold cellD at e
    cases q : M[j]? with
    | none => simp only [q] at e; cases e
    | some c =>
      cases c with
      | dct ks' rs' =>
        simp only [q] at e
        have e' := Option.some.inj e
        have hc : CellOk t F ads H a (.dct ks' rs') := Rr.ok j _ a q ha
        obtain ⟨hf, kvs, h1, h2, h3, h4⟩ := hc
        cases e'
        exact ⟨a, kvs, ev, ha, hf, h1, h2, h3, h4⟩
      | _ => simp only [q] at e; cases e
theorem dhas_D (kvs : List (Key × V)) (k : Key) : dhas (kvs.map fun p => keyD p.1) (keyD k) = kvs.any fun p => decide (p.1 = k) := by
  unfold dhas
  rw [List.any_map]
  congr 1
  funext p
  exact keq_D _ _
theorem zip_rel {k : Key} {r : R} {v : V} (hr : IsR t F ads r v) : ∀ {kvs : List (Key × V)} {rs : List R}, IsRs t F ads rs (kvs.map (·.2)) →
    IsRs t F ads (List.zipWith (fun d r' => if keq d (keyD k) then r else r') (kvs.map fun p => keyD p.1) rs) ((kvs.map fun p => if p.1 = k then (p.1, v) else p).map (·.2))
  | [], rs, h => by cases h; exact .nil
  | p :: kvs, rs, h => by
    cases h with
    | @cons r0 _ rs0 _ h1 h2 =>
      simp only [List.map_cons, List.zipWith_cons_cons]
      refine .cons ?_ (zip_rel hr h2)
      rw [keq_D]
      by_cases e : p.1 = k
      · rw [if_pos (by simpa using e), if_pos e]
        exact hr
      · rw [if_neg (by simpa using e), if_neg e]
        exact h1
theorem putK_rel {k : Key} {r : R} {v : V} (hr : IsR t F ads r v) {kvs : List (Key × V)} {rs : List R} (h : IsRs t F ads rs (kvs.map (·.2))) (hk : ∀ p ∈ kvs, keyOk p.1) (hkk : keyOk k) :
    dputK (kvs.map fun p => keyD p.1) (keyD k) = (putK kvs k v).map (fun p => keyD p.1) ∧ IsRs t F ads (dputR (kvs.map fun p => keyD p.1) rs (keyD k) r) ((putK kvs k v).map (·.2)) ∧ ∀ p ∈ putK kvs k v, keyOk p.1 := by
  unfold dputK dputR
  rw [dhas_D]
  by_cases hin : (kvs.any fun p => decide (p.1 = k)) = true
  · rw [show putK kvs k v = kvs.map (fun p => if p.1 = k then (p.1, v) else p) from by unfold putK; rw [if_pos hin], if_pos hin, if_pos hin]
    refine ⟨?_, zip_rel hr h, ?_⟩
    · rw [List.map_map]
      refine List.map_congr_left fun q hq => ?_
      by_cases e2 : q.1 = k <;> simp [e2]
    · intro p hp
      obtain ⟨q, hq, e⟩ := List.mem_map.mp hp
      split at e
      · subst e
        exact hk q hq
      · subst e
        exact hk q hq
  · rw [show putK kvs k v = kvs ++ [(k, v)] from by unfold putK; rw [if_neg hin], if_neg hin, if_neg hin]
    refine ⟨by simp, ?_, ?_⟩
    · rw [List.map_append]
      exact pair_append h (.cons hr .nil)
    · intro p hp
      rcases List.mem_append.mp hp with z | z
      · exact hk p z
      · cases (List.mem_singleton.mp z)
        exact hkk
end
/-- a store by its mirror -/
def rSet (t : Tx) : TSet := fun vo vi vv H Q => ∃ ads F M o i v M', Rel t ads F M H ∧ IsR t F ads o vo ∧ IsR t F ads i vi ∧ IsR t F ads v vv ∧ oSet o i v M = some M' ∧ ∀ H', Stp ads F H ads F H' → Rel t ads F M' H' → Q H'
section
variable {t : Tx} {W : Wk} {hs : List (Nat × V)} {X : Cx} {e o : Expr} {fe fo fi : E} {pos : Pos}
theorem set_D (hu : X.A.units + 1 < cLine) : PSet X (rSet t) := by
  intro pins s σ H vo vi vv ov iv u Q I ro ri rv h
  obtain ⟨ads, F, M, o, i, v, M', Rr, ho, hi, hv, e, k⟩ := h
  have si := Rr.view hi
  unfold oSet at e
  cases q : cellL M o with
  | some p =>
    obtain ⟨n, rs⟩ := p
    obtain ⟨a, ws, rfl, ha, hf, h1, h2⟩ := cellL_ok Rr ho q
    simp only [q] at e
    cases q2 : vw M i with
    | int j =>
      simp only [q2] at e si
      cases q3 : ixN rs.length j with
      | none => simp only [q3] at e; cases e
      | some m =>
        simp only [q3] at e
        cases e
        rw [Paired.length h2] at q3
        refine set_list pins s σ H _ _ vv ov iv u Q I ro ri rv ⟨a, ws, j, m, rfl, si, h1, q3, ?_⟩
        obtain ⟨R2, s2⟩ := Rr.setC (o := .lst (ws.set m vv)) (c' := .lst (rs.set m v)) ha hf ⟨hf, _, upd_same, pair_set hv m h2⟩
        exact k _ s2 R2
    | _ => simp only [q2] at e; cases e
  | none =>
    simp only [q] at e
    cases q4 : cellD M o with
    | none => simp only [q4] at e; cases e
    | some p =>
      obtain ⟨n, ks, rs⟩ := p
      obtain ⟨a, kvs, rfl, ha, hf, h1, h2, h3, h4⟩ := cellD_ok Rr ho q4
      simp only [q4] at e
      cases q5 : dkey M i with
      | none => simp only [q5] at e; cases e
      | some d =>
        simp only [q5] at e
        split at e
        · rename_i c
          cases e
          obtain ⟨kk, ev, ekd, hkk⟩ := dkey_ok Rr hi q5
          subst ekd h3 ev
          obtain ⟨p1, p2, p3⟩ := putK_rel hv h4 h2 hkk
          have hl : kvs.length < sizeLine := by rw [← SL_eq]; simpa using c
          obtain ⟨R2, s2⟩ := Rr.setC (o := .dK (putK kvs kk vv)) (c' := .dct (dputK (kvs.map fun p => keyD p.1) (keyD kk)) (dputR (kvs.map fun p => keyD p.1) rs (keyD kk) v)) ha hf ⟨hf, _, upd_same, p3, p1, p2⟩
          cases ro
          exact d_setItem hu I (DPut.k h1 hl) ri rv fun s' J => ⟨_, J, k _ s2 R2⟩
        · cases e
def gSubD (fo fi : E) : Tg := fun r => sLift fo fun o => sLift fi fun i env M => match oSet o i r M with
  | some M' => .nx env M'
  | none => .no
theorem g_sub {i : Expr} (hu : X.A.units + 1 < cLine) (ho : PE X o (tE t W fo)) (hi : PE X i (tE t W fi))
    (ha : ∀ v, assign (.Subscript o i pos) X.env v = (do
      let ov ← holding [v] (eval o X.env)
      let iv ← holding [v, ov] (eval i X.env)
      standAt pos
      holding [v, ov, iv] (setItem ov iv v)
      release [v, ov, iv] []) := by intro _; rfl) : PGd t W hs X (.Subscript o i pos) [] (gSub (tE t W fo) (tE t W fi) (rSet t)) (gSubD fo fi) := by
  refine ⟨pg_sub ho hi (set_D hu) ha, fun σ H ads F env M r v D fr hid p k => ?_⟩
  refine Fr.lift fr hid k fun ads1 F1 M1 vo H1 fr1 m1 ro po k1 => ?_
  refine Fr.lift fr1 hid k1 fun ads2 F2 M2 vi H2 fr2 m2 ri pi k2 => ?_
  cases q : oSet ro ri r M2 with
  | none => simp only [q] at k2; exact k2.elim
  | some M' =>
    simp only [q] at k2
    exact ⟨ads2, F2, M2, ro, ri, r, M', fr2.rel, po.mono m2, pi, (p.mono m1).mono m2, q, fun H' s R => ⟨.refl _ _, k2 _ _ _ _ s (fr2.step s R) hid⟩⟩
/-! name op= e -/
def sAug (i : Nat) (g : R → R → Mem → Ro R) (fe : E) : S := sLift (eBin g (eVar i) fe) fun r env M => .nx (env.set i (some r)) M
theorem s_aug {i : Nat} {x : Str} {op : Operator} {pos' : Pos} {g : R → R → Mem → Ro R} (hN : X.N.Nodup) (hi : X.N[i]? = some x) (hx : Loc X.env.scope x) (hn : i ∉ hs.map (·.1) ∧ ∀ p ∈ W.xs, p.i ≠ i) (he : PE X e (tE t W fe)) (ho : OpR X (inplaceOp op) (rD t g))
    (hf : X.fn x = true ∨ X.env.scope.names.lookup x = some .local := by first | exact .inl rfl | exact .inr rfl | assumption) : PS X (.AugAssign (.Name x pos') op e pos) (tS t W hs (sAug i g fe)) := PS.imp (ps_aug hN hi hx he ho hf) fun D σ H h => by
  obtain ⟨ads, F, env, M, fr, hid, h⟩ := h
  unfold sAug at h
  cases q : env[i]? with
  | none =>
    have z : sLift (eBin g (eVar i) fe) (fun r env M => .nx (env.set i (some r)) M) env M = .no := by simp [sLift, eBin, eVar, q]
    rw [z] at h
    exact h.elim
  | some o =>
    cases o with
    | none =>
      have z : sLift (eBin g (eVar i) fe) (fun r env M => .nx (env.set i (some r)) M) env M = .no := by simp [sLift, eBin, eVar, q]
      rw [z] at h
      exact h.elim
    | some r0 =>
      obtain ⟨v0, e2, p0⟩ := fr.env.get q
      have z : sLift (eBin g (eVar i) fe) (fun r env M => .nx (env.set i (some r)) M) env M = sLift fe (fun y => sLift (fun _ M2 => g r0 y M2) fun r env M => .nx (env.set i (some r)) M) env M := by
        unfold sLift eBin
        have e3 : eVar i env M = .ok r0 M := by simp [eVar, q]
        rw [e3, Ro.bind_ok]
        cases fe env M with
        | ok y M2 => rfl
        | ex x M2 => rfl
        | no => rfl
      rw [z] at h
      refine ⟨v0, e2, Fr.lift fr hid h fun ads1 F1 M1 b H1 fr1 m1 y py k => ?_⟩
      have zz := Fr.lift (P := IsR t) (Q1 := fun z H2 => D.nx (σ.set i (some z)) H2) fr1 hid k fun ads2 F2 M2 w H2 fr2 m2 r pr k2 => k2 _ _ _ _ .refl (fr2.set hn.2 pr) (hid.set hn.1)
      have kk : Kt t (WE W.w σ) ads1 F1 H1 (g r0 y M1) (fun z H2 => D.nx (σ.set i (some z)) H2) := by
        unfold sLift at k
        cases q3 : g r0 y M1 with
        | ok r M2 => simp only [q3] at k; exact fun ads2 F2 H2 w s R p => k _ _ _ _ s ((fr1.step s R).set hn.2 p) (hid.set hn.1)
        | ex x M2 => simp only [q3] at k; exact fun ads2 F2 H2 cls dd s R p hd => k _ _ _ _ _ _ s (fr1.step s R) hid p hd
        | no => simp only [q3] at k; exact k.elim
      exact ⟨WE W.w σ, ads1, F1, M1, r0, y, fr1.rel, p0.mono m1, py, kk⟩
def iAdd := gI (fun _ _ => true) fun i j => .int (i + j)
def mul64 (i j : Int) : Bool := decide (i.natAbs < 2 ^ 64) || decide (j.natAbs < 2 ^ 64)
def iMul := gI mul64 fun i j => .int (i * j)
def iDiv := gI (fun _ j => decide (0 < j) && decide (j < 1073741824)) fun i j => .int (i / j)
theorem i_add : OpR X (inplaceOp .Add) (rD t iAdd) := opD_I (OpR.w iop_add) (fun _ _ _ => trivial) fun F i j => isI F _
theorem i_sub : OpR X (inplaceOp .Sub) (rD t oSub) := opD_I (OpR.w iop_sub) (fun _ _ _ => trivial) fun F i j => isI F _
theorem i_mul : OpR X (inplaceOp .Mult) (rD t iMul) := opD_I iop_mul (fun i j h => by
  unfold mul64 at h
  simp only [Bool.or_eq_true, decide_eq_true_eq] at h
  rcases h with h | h
  · exact .inl (by omega)
  · exact .inr (by omega)) fun F i j => isI F _
theorem i_div : OpR X (inplaceOp .FloorDiv) (rD t iDiv) := opD_I iop_fdiv (fun i j h => by simpa [CDiv] using h) fun F i j => isI F _
/-! o.f = e, o.f op= e -/
theorem putF_zip {n : Str} {v : V} : ∀ {fn : List Str} {vs : List V} {j : Nat}, fn.Nodup → fn[j]? = some n → j ≤ vs.length → putF n v (fn.zip vs) = fn.zip (if j < vs.length then vs.set j v else vs ++ [v])
  | [], _, _, _, h, _ => by simp at h
  | g :: fn, [], j, _, h, hj => by
    have : j = 0 := by simpa using hj
    subst this
    simp at h
    subst h
    simp [putF]
  | g :: fn, w :: vs, 0, _, h, _ => by
    simp at h
    subst h
    simp [putF]
  | g :: fn, w :: vs, j + 1, nd, h, hj => by
    obtain ⟨hg, nd⟩ := List.nodup_cons.mp nd
    have hn : n ∈ fn := List.mem_of_getElem? (by simpa using h)
    have ne : g ≠ n := fun z => hg (by rw [z]; exact hn)
    show putF n v ((g, w) :: fn.zip vs) = _
    rw [show putF n v ((g, w) :: fn.zip vs) = (g, w) :: putF n v (fn.zip vs) from by simp [putF, ne], putF_zip (j := j) nd (by simpa using h) (by simpa using hj)]
    by_cases c : j < vs.length
    · rw [if_pos c, if_pos (by simpa using c)]
      rfl
    · rw [if_neg c, if_neg (by simpa using c)]
      rfl
/-- an instance in a cell -/
def oFld (c j : Nat) (o v : R) (M : Mem) : Option Mem := match o with
  | .ref i => match M[i]? with
    | some (.obj c' rs) => if c' = c ∧ j ≤ rs.length then some (M.set i (.obj c (if j < rs.length then rs.set j v else rs ++ [v]))) else none
    | _ => none
  | .d _ => none
theorem oFld_ok {F H : Hp} {ads : List Addr} {M M' : Mem} {c j : Nat} {o v : R} {vo vv : V} {n : Str} {C : Addr} (Rr : Rel t ads F M H) (ho : IsR t F ads o vo) (hv : IsR t F ads v vv) (hC : t.cad c = C) (nd : (t.cfn c).Nodup) (hj : (t.cfn c)[j]? = some n) (e : oFld c j o v M = some M') :
    ∃ a dx fs, vo = .ref a ∧ H a = some (.ins C dx fs) ∧ fs.length ≤ (t.cfn c).length ∧ Stp ads F H ads F (upd H a (.ins C dx (putF n vv fs))) ∧ Rel t ads F M' (upd H a (.ins C dx (putF n vv fs))) := by
  cases o with
  | d d => cases e
  | ref i =>
    obtain ⟨a, ha, rfl⟩ := ho
    unfold oFld at e
    cases q : M[i]? with
    | none => simp only [q] at e; cases e
    | some cc =>
      cases cc with
      | obj c' rs =>
        simp only [q] at e
        split at e
        · rename_i cnd
          obtain ⟨rfl, hle⟩ := cnd
          cases e
          have hc : CellOk t F ads H a (.obj c' rs) := Rr.ok i _ a q ha
          obtain ⟨hf, dx, vs, h1, h2, h3⟩ := hc
          have hl := Paired.length h3
          refine ⟨a, dx, _, rfl, by rw [← hC]; exact h1, by rw [List.length_zip]; omega, ?_⟩
          rw [putF_zip (v := vv) nd hj (by omega), ← hC]
          have jl : j < (t.cfn c').length := (List.getElem?_eq_some_iff.mp hj).1
          have z : CellOk t F ads (upd H a (.ins (t.cad c') dx ((t.cfn c').zip (if j < vs.length then vs.set j vv else vs ++ [vv])))) a (.obj c' (if j < rs.length then rs.set j v else rs ++ [v])) := by
            refine ⟨hf, dx, _, upd_same, ?_, ?_⟩
            · split
              · rw [List.length_set]; exact h2
              · rw [List.length_append, List.length_singleton]; omega
            · rw [hl]
              split
              · exact pair_set hv j h3
              · exact pair_append h3 (.cons hv .nil)
          obtain ⟨R2, s2⟩ := Rr.setC ha hf z
          exact ⟨s2, R2⟩
        · cases e
      | _ => simp only [q] at e; cases e
def sFldS (c j : Nat) (fo fe : E) : S := sLift fe fun v => sLift fo fun o env M => match oFld c j o v M with
  | some M' => .nx env M'
  | none => .no
theorem s_fld {c j : Nat} {n : Str} {C : Addr} {pos' : Pos} (ho : PE X o (tE t W fo)) (he : PE X e (tE t W fe)) (hcl : Cls X.K C) (hno : NoAttr X.K C n) (hC : t.cad c = C) (nd : (t.cfn c).Nodup) (hj : (t.cfn c)[j]? = some n) (h9 : (t.cfn c).length < 1000)
    (hsw : swapsWith e (some (.Attribute o n pos')) pos.line X.env = pure false := by rfl) : PS X (.Assign [.Attribute o n pos'] e pos) (tS t W hs (sFldS c j fo fe)) := PS.imp (ps_fld ho he hsw) fun D σ H h => by
  obtain ⟨ads, F, env, M, fr, hid, h⟩ := h
  refine Fr.lift fr hid h fun ads1 F1 M1 vv H1 fr1 m1 v pv k1 => ?_
  refine Fr.lift fr1 hid k1 fun ads2 F2 M2 vo H2 fr2 m2 o po k2 => ?_
  cases q : oFld c j o v M2 with
  | none => simp only [q] at k2; exact k2.elim
  | some M' =>
    simp only [q] at k2
    obtain ⟨a, dx, fs, ev, h1, h2, s2, R2⟩ := oFld_ok fr2.rel po (pv.mono m2) hC nd hj q
    exact ⟨a, C, dx, fs, ev, h1, hcl, hno, by omega, k2 _ _ _ _ s2 (fr2.step s2 R2) hid⟩
end
end Lc
set_option Elab.async false
set_option linter.all false
set_option maxRecDepth 100000
set_option maxHeartbeats 4000000
/-! Instances made; fields counted up; in; tests put together; the rest of the operators. -/
namespace Lc
open PySem PySem.Spec PyProof.Rows L2 LcX
section
variable {t : Tx} {W : Wk} {hs : List (Nat × V)} {X : Cx} {e o : Expr} {fe fo fi : E} {pos : Pos}
/-! o.f op= e -/
def sFldA (c j : Nat) (g : R → R → Mem → Ro R) (fo fe : E) : S := sLift fo fun o => sLift (fun env M => (match vw M o with
    | .obj c' rs => if c' = c then Ro.of rs[j]? M else .no
    | _ => .no : Ro R)) fun v => sLift fe fun y => sLift (fun _ M => g v y M) fun z env M => match oFld c j o z M with
  | some M' => .nx env M'
  | none => .no
theorem s_flda {c j : Nat} {n : Str} {C : Addr} {op : Operator} {tpos : Pos} {g : R → R → Mem → Ro R} (ho : PE X o (tE t W fo)) (he : PE X e (tE t W fe)) (hop : OpR X (inplaceOp op) (rD t g)) (hcl : Cls X.K C) (hno : NoAttr X.K C n) (hC : t.cad c = C) (nd : (t.cfn c).Nodup) (hj : (t.cfn c)[j]? = some n) (h9 : (t.cfn c).length < 1000) :
    PS X (.AugAssign (.Attribute o n tpos) op e pos) (tS t W hs (sFldA c j g fo fe)) := PS.imp (ps_fldaug ho he (rd := rD t g) (fun pins s σ H x y u v Q I rx ry h => hop pins s σ H x y u v Q I rx ry h)) fun D σ H h => by
  obtain ⟨ads, F, env, M, fr, hid, h⟩ := h
  refine Fr.lift fr hid h fun ads1 F1 M1 vo H1 fr1 m1 o po k1 => ?_
  have sx := fr1.rel.view po
  unfold sLift at k1
  cases q : vw M1 o with
  | obj c' rs =>
    simp only [q] at k1 sx
    obtain ⟨a, dx, vs, ev, h1, h2, h3⟩ := sx
    by_cases ec : c' = c
    · subst ec
      simp only [if_true] at k1
      cases q2 : rs[j]? with
      | none => simp only [q2, Ro.of_none] at k1; exact k1.elim
      | some r0 =>
        simp only [q2, Ro.of_some] at k1
        obtain ⟨w0, e2, pw⟩ := pair_get h3 q2
        refine ⟨a, C, dx, _, w0, ev, by rw [← hC]; exact h1, hcl, hno, lookup_zip nd hj e2, ?_⟩
        have k1' : Ks t W hs ads1 F1 H1 (sLift fe (fun y => sLift (fun _ M => g r0 y M) fun z env M => match oFld c' j o z M with
          | some M' => .nx env M'
          | none => .no) env M1) D := k1
        refine Fr.lift fr1 hid k1' fun ads2 F2 M2 vy H2 fr2 m2 y py k2 => ?_
        refine ⟨WE W.w σ, ads2, F2, M2, r0, y, fr2.rel, pw.mono m2, py, ?_⟩
        unfold sLift at k2
        cases q3 : g r0 y M2 with
        | no => simp only [q3] at k2; exact k2.elim
        | ex x M3 => simp only [q3] at k2; exact fun ads3 F3 H3 cls dd s R p hd => k2 _ _ _ _ _ _ s (fr2.step s R) hid p hd
        | ok z M3 =>
          simp only [q3] at k2
          intro ads3 F3 H3 vz s R pz
          cases q4 : oFld c' j o z M3 with
          | none => simp only [q4] at k2; exact k2.elim
          | some M4 =>
            simp only [q4] at k2
            obtain ⟨a', dx', fs', ev', g1, g2, s2, R2⟩ := oFld_ok R ((po.mono m2).mono s.mon) pz hC nd hj q4
            rw [ev] at ev'
            cases ev'
            exact ⟨dx', fs', g1, by omega, k2 _ _ _ _ (s.trans s2) ((fr2.step s R).step s2 R2) hid⟩
    · simp only [ec, if_false] at k1
      exact k1.elim
  | _ => simp only [q] at k1; exact k1.elim
/-! C(..) -/
/-- an instance: a cell, or data when it will not change any more -/
def eMake (frz : Bool) (c n : Nat) (m : Fn) (fs : Es) (dfl : List D) : E := fun env M => (fs env M).bind fun rs M1 => if (R.ref M1.length :: (rs ++ dfl.map R.d)).length = n then
  (match Lc.call true m (R.ref M1.length :: (rs ++ dfl.map R.d)) (M1 ++ [.obj c []]) with
    | .ok r M2 => match vw M2 r with
      | .non => if frz then gc M1.length (.ref M1.length) M2 else .ok (.ref M1.length) M2
      | _ => .no
    | .ex x M2 => gcX M1.length x M2
    | .no => .no) else .no
variable {k : Nat} {f C : Addr} {fd : FuncData} {ps : List Str} {m : Fn} {dvs : List V} {ds : List Value} {dfl : List D} {x : Str} {p : Pos} {es : List Expr} {fs : Es} {frz : Bool} {c : Nat}
theorem run_makeS {pins : List (Addr × Obj)} {σ : L2.St} {H : Hp} {s : Shared} {Q : VK} {us : List Value} {vs : List V} {sp : Sp} {CX : CXT} {E : L2.St → XK} (Mk0 : Mk X.K C f) (F : FnOk X.prog X.w X.K X.mg X.base CX k f fd ps sp) (hr : Room (k + 1) X.A) (hb : Binds X.K fd ps ds) (hd : Vals dvs ds)
    (hx : PassesAt CX X σ (E σ)) (I : Inv X pins σ H s) (r : Vals vs us)
    (h : ∀ x dx, H x = none → H dx = none → dx ≠ x → sp (.ref x :: (vs ++ dvs)) (upd (upd H dx (.own x)) x (.ins C dx [])) (fun v H2 => v = .non ∧ Q (.ref x) H2) (E σ)) :
    wpAny (model X.prog X.w) X.A (PySem.call (.ref C) us) (EP X pins σ Q) X.xe s := by
  have hq := h (s.heap.objs.size + 1) s.heap.objs.size (I.hok.fresh (Nat.le_succ _)) (I.hok.fresh (Nat.le_refl _)) (Nat.ne_of_lt (Nat.lt_succ_self _))
  have I2 := Inv.made (C := C) I
  have r2 : Vals (V.ref (s.heap.objs.size + 1) :: (vs ++ dvs)) (Value.ref (s.heap.objs.size + 1) :: (us ++ ds)) := .cons rfl (r.append hd)
  have hl : (Value.ref (s.heap.objs.size + 1) :: us ++ ds).length = ps.length := by
    have e := r2.length
    rw [F.len _ _ _ _ hq] at e
    exact e.symm
  refine wpAny_call (make_map (f := f) I.kIn Mk0.makes Mk0.init (beq_iff_eq.mp Mk0.fn) (codeAny_mono (F.run _ X.stack _ _ ⟨Value.ref (s.heap.objs.size + 1) :: us, []⟩ (Value.ref (s.heap.objs.size + 1) :: (us ++ ds)) _ _ (E σ) (hr.make C us [])
    (I2.env0.make C us []) (hb _ (Value.ref (s.heap.objs.size + 1) :: us) I2.kIn hl) r2 hq) fun r s' hq' => ?_))
  cases r with
  | error e => exact hx pins _ _ e s' I2 hq'
  | ok fl =>
    cases fl with
    | ret u =>
      obtain ⟨v, H', I3, rv, ev, q3⟩ := I2.after hq'
      subst ev
      exact ⟨rv, ⟨V.ref (s.heap.objs.size + 1), H', I3, rfl, q3⟩⟩
    | next => exact False.elim hq'
    | brk => exact False.elim hq'
    | cont => exact False.elim hq'
theorem make_read {σ : L2.St} {H : Hp} {Q : VK} {n : Nat} (hd : Dfl t dfl dvs ds) (hC : t.cad c = C) (h : tE t W (eMake frz c n m fs dfl) σ H Q) :
    tEs t W fs σ H fun vs H1 => ∀ x dx, H1 x = none → H1 dx = none → dx ≠ x → spF t n m (.ref x :: (vs ++ dvs)) (upd (upd H1 dx (.own x)) x (.ins C dx [])) (fun v H2 => v = .non ∧ Q (.ref x) H2) (WE W.w σ) := by
  obtain ⟨ads, F, env, M, fr, h⟩ := h
  refine Fr.bind fr h fun ads1 F1 M1 vs H1 fr1 _ rs pr kk => ?_
  intro x dx hx hdx ne
  split at kk
  · rename_i cc
    have d1 : dx ∉ ads1 := fun z => fr1.rel.th dx z hdx
    have R1 : Rel t ads1 F1 M1 (upd H1 dx (.own x)) := fr1.rel.poke d1 (fr1.rel.noF hdx)
    have s1 : Stp ads1 F1 H1 ads1 F1 (upd H1 dx (.own x)) := Stp.refl.poke hdx
    have hx2 : upd H1 dx (.own x) x = none := by rw [upd_ne (Ne.symm ne)]; exact hx
    have fx : F1 x = none := fr1.rel.noF hx
    have hc : CellOk t F1 (ads1 ++ [x]) (upd (upd H1 dx (.own x)) x (.ins C dx [])) x (.obj c []) := ⟨fx, dx, [], by rw [upd_same, hC]; simp, by simp, .nil⟩
    obtain ⟨R2, s2⟩ := R1.newC hx2 hc
    have s12 := s1.trans s2
    have pr2 : IsRs t F1 (ads1 ++ [x]) (.ref M1.length :: (rs ++ dfl.map R.d)) (.ref x :: (vs ++ dvs)) := by
      refine .cons ⟨x, ?_, rfl⟩ (pair_append (IsRs.mono s12.mon pr) (hd.2 _ _))
      rw [← fr1.rel.ln, List.getElem?_append_right (Nat.le_refl _)]
      simp
    refine spF_of (keep := true) R2 pr2 (by rw [← Paired.length pr2]; exact cc) ?_
    have lm : M1.length = ads1.length := fr1.rel.ln.symm
    cases q : Lc.call true m (.ref M1.length :: (rs ++ dfl.map R.d)) (M1 ++ [.obj c []]) with
    | no => simp only [q] at kk; exact kk.elim
    | ok r M2 =>
      simp only [q] at kk
      intro ads3 F3 H3 v s3 R3 p3
      have sv := R3.view p3
      cases q9 : vw M2 r with
      | non =>
        rw [q9] at sv
        simp only [q9] at kk
        refine ⟨sv, ?_⟩
        have s123 := s12.trans s3
        obtain ⟨n3, en, hn3⟩ := s3.ad
        have hx3 : ads3[M1.length]? = some x := by
          rw [en, lm, List.getElem?_append_left (by simp), List.getElem?_append_right (Nat.le_refl _)]
          simp
        cases frz with
        | false => exact kk _ _ _ _ s123 R3 ⟨x, hx3, rfl⟩
        | true =>
          simp only [if_true] at kk
          unfold gc at kk
          cases q4 : gcR M1.length M2 (.ref M1.length) with
          | none => simp only [q4] at kk; exact kk.elim
          | some r' =>
            cases q5 : gcM M1.length M2 (M2.take M1.length) with
            | none => simp only [q4, q5] at kk; exact kk.elim
            | some M3 =>
              simp only [q4, q5] at kk
              have hle : M1.length ≤ M2.length := by
                rw [← R3.ln, en, lm]
                simp <;> omega
              obtain ⟨sg, eg⟩ := s123.gc
              rw [← lm] at sg eg
              have RR := R3.gcM hle q5
              have pp := gcR_ok R3 (r := .ref M1.length) (v := .ref x) ⟨x, hx3, rfl⟩ q4
              rw [eg] at RR pp sg
              exact kk _ _ _ _ sg RR pp
      | _ => simp only [q9] at kk; exact kk.elim
    | ex x' M2 =>
      simp only [q] at kk
      intro ads3 F3 H3 cls dd s3 R3 p3 hd3
      have s123 := s12.trans s3
      obtain ⟨n3, en, hn3⟩ := s3.ad
      unfold gcX at kk
      cases q5 : gcM M1.length M2 (M2.take M1.length) with
      | none => simp only [q5] at kk; exact kk.elim
      | some M3 =>
        simp only [q5] at kk
        have hle : M1.length ≤ M2.length := by
          rw [← R3.ln, en, lm]
          simp <;> omega
        obtain ⟨sg, eg⟩ := s123.gc
        rw [← lm] at sg eg
        have RR := R3.gcM hle q5
        rw [eg] at RR sg
        have hd1 : ∀ d, dd = some d → H1 d = none := fun d e => s12.th d (hd3 d e)
        refine kk _ _ _ cls dd sg RR ?_ hd1
        obtain ⟨p1, p2, p4⟩ := p3
        refine ⟨p1, p2, p4.imp _root_.id ?_⟩
        rintro ⟨d, fs, vs', h1, h2, h3, h4, h5⟩
        exact ⟨d, fs, vs', h1, h2, fun z => fr1.rel.th d z (hd1 d h1), IsL.mono (fixF_ex _ _ _) _ h4, h5⟩
  · exact kk.elim
theorem c_make (Mk0 : Mk X.K C f) (F : FnOk X.prog X.w X.K X.mg X.base (LcX.CX X.prog X.w) k f fd ps (spF t ps.length m)) (hr : Room (k + 1) X.A) (hg : Gl X x) (hm : X.mg x = some (.ref C)) (hb : Binds X.K fd ps ds) (hd : Dfl t dfl dvs ds) (tk : Tak X W.w) (hC : t.cad c = C)
    (ha : PA X (e :: es) (tEs t W fs)) (hdb : (x == ("__debug__" : Str)) = false := by decide) (he : starEach (e :: es) X.env = (false, eval e X.env) :: starEach es X.env := by rfl) (hpl : (backTo pos (starEach es X.env)).any (·.1) = false := by rfl) :
    PE X (.Call (.Name x p) (e :: es) [] pos) (tE t W (eMake frz c ps.length m fs dfl)) := by
  refine ⟨fun pins s σ H Q I h => ?_⟩
  refine wpAny_Call_Name_kw (ld_glob I hg hm ?_ hdb)
  refine PySem.W.callWith_K (h₀ := X.base) I.ok.mod.kin Mk0.kp (thn (ha.run pos pins s σ H _ I (make_read hd hC h)) fun us s1 ⟨vs, H1, I1, r, q⟩ => ⟨I1.kIn, ?_⟩) he hpl
  exact run_makeS (E := WE W.w) Mk0 F hr hb hd.1 (passT tk σ) I1 r q
/-! tests put together -/
def bAnd (f g : B) : B := fun env M => (f env M).bind fun b M1 => if b then g env M1 else .ok false M1
def bOr (f g : B) : B := fun env M => (f env M).bind fun b M1 => if b then .ok true M1 else g env M1
def bNot (f : B) : B := fun env M => (f env M).bind fun b M1 => .ok (!b) M1
variable {a b : Expr} {rest : List Expr} {fa fb : B} {fea feb : E}
theorem w_and1 (ha : PT X a (tBo t W fa)) : PW X (.BoolOp .And [a] pos) (tBo t W fa) := pw_and1 ha
theorem w_or1 (ha : PT X a (tBo t W fa)) : PW X (.BoolOp .Or [a] pos) (tBo t W fa) := pw_or1 ha
theorem w_and (ha : PT X a (tBo t W fa)) (hb : PW X (.BoolOp .And (b :: rest) pos) (tBo t W fb)) : PW X (.BoolOp .And (a :: b :: rest) pos) (tBo t W (bAnd fa fb)) := PW.imp (pw_and ha hb) fun σ H Q h => by
  obtain ⟨ads, F, env, M, fr, h⟩ := h
  refine Fr.bind fr h fun ads1 F1 M1 c H1 fr1 _ c' pc k => ?_
  subst pc
  cases c' with
  | true => rw [if_pos rfl] at k ⊢; exact ⟨ads1, F1, env, M1, fr1, k⟩
  | false => rw [if_neg Bool.false_ne_true] at k ⊢; exact k.ok fr1.rel rfl
theorem w_or (ha : PT X a (tBo t W fa)) (hb : PW X (.BoolOp .Or (b :: rest) pos) (tBo t W fb)) : PW X (.BoolOp .Or (a :: b :: rest) pos) (tBo t W (bOr fa fb)) := PW.imp (pw_or ha hb) fun σ H Q h => by
  obtain ⟨ads, F, env, M, fr, h⟩ := h
  refine Fr.bind fr h fun ads1 F1 M1 c H1 fr1 _ c' pc k => ?_
  subst pc
  cases c' with
  | true => rw [if_pos rfl] at k ⊢; exact k.ok fr1.rel rfl
  | false => rw [if_neg Bool.false_ne_true] at k ⊢; exact ⟨ads1, F1, env, M1, fr1, k⟩
theorem t_not (ha : PT X a (tBo t W fa)) : PT X (.UnaryOp .Not a pos) (tBo t W (bNot fa)) := PT.imp (pt_not ha) fun σ H Q h => by
  obtain ⟨ads, F, env, M, fr, h⟩ := h
  refine Fr.bind fr h fun ads1 F1 M1 c H1 fr1 _ c' pc k => ?_
  subst pc
  exact k.ok fr1.rel rfl
/-! .. as values: bools but for the last -/
def asB (M : Mem) (r : R) : Option Bool := match vw M r with
  | .bl b => some b
  | _ => none
theorem asB_ok {F H : Hp} {ads : List Addr} {M : Mem} {r : R} {v : V} {b : Bool} (Rr : Rel t ads F M H) (h : IsR t F ads r v) (e : asB M r = some b) : v = .bl b := by
  have sx := Rr.view h
  unfold asB at e
  split at e
  · rename_i c q
    rw [q] at sx
    cases e
    exact sx
  · cases e
def eAnd (f g : E) : E := fun env M => (f env M).bind fun r M1 => match asB M1 r with
  | some true => g env M1
  | some false => .ok (.d (.bl false)) M1
  | none => .no
def eOr (f g : E) : E := fun env M => (f env M).bind fun r M1 => match asB M1 r with
  | some false => g env M1
  | some true => .ok (.d (.bl true)) M1
  | none => .no
def eNot (f : E) : E := fun env M => (f env M).bind fun r M1 => match asB M1 r with
  | some b => .ok (.d (.bl (!b))) M1
  | none => .no
theorem v_one {op} {f : E} (h : PE X a (tE t W f)) : PE X (.BoolOp op [a] pos) (tE t W f) := pe_one h
theorem v_and (ha : PE X a (tE t W fea)) (hb : PE X (.BoolOp .And (b :: rest) pos) (tE t W feb)) : PE X (.BoolOp .And (a :: b :: rest) pos) (tE t W (eAnd fea feb)) := PE.imp (pe_and ha hb) fun σ H Q h => by
  obtain ⟨ads, F, env, M, fr, h⟩ := h
  refine Fr.bind fr h fun ads1 F1 M1 v H1 fr1 _ r pr k => ?_
  cases q : asB M1 r with
  | none => simp only [q] at k; exact k.elim
  | some c =>
    refine ⟨c, asB_ok fr1.rel pr q, ?_⟩
    cases c with
    | true => simp only [q] at k; rw [if_pos rfl]; exact ⟨ads1, F1, env, M1, fr1, k⟩
    | false => simp only [q] at k; rw [if_neg Bool.false_ne_true]; exact okB fr1.rel k
theorem v_or (ha : PE X a (tE t W fea)) (hb : PE X (.BoolOp .Or (b :: rest) pos) (tE t W feb)) : PE X (.BoolOp .Or (a :: b :: rest) pos) (tE t W (eOr fea feb)) := PE.imp (pe_or ha hb) fun σ H Q h => by
  obtain ⟨ads, F, env, M, fr, h⟩ := h
  refine Fr.bind fr h fun ads1 F1 M1 v H1 fr1 _ r pr k => ?_
  cases q : asB M1 r with
  | none => simp only [q] at k; exact k.elim
  | some c =>
    refine ⟨c, asB_ok fr1.rel pr q, ?_⟩
    cases c with
    | false => simp only [q] at k; rw [if_neg Bool.false_ne_true]; exact ⟨ads1, F1, env, M1, fr1, k⟩
    | true => simp only [q] at k; rw [if_pos rfl]; exact okB fr1.rel k
theorem v_not (ha : PE X a (tE t W fea)) : PE X (.UnaryOp .Not a pos) (tE t W (eNot fea)) := PE.imp (pe_not ha) fun σ H Q h => by
  obtain ⟨ads, F, env, M, fr, h⟩ := h
  refine Fr.bind fr h fun ads1 F1 M1 v H1 fr1 _ r pr k => ?_
  cases q : asB M1 r with
  | none => simp only [q] at k; exact k.elim
  | some c =>
    simp only [q] at k
    exact ⟨c, asB_ok fr1.rel pr q, okB fr1.rel k⟩
/-! a if t else b -/
def eIf (c : B) (f g : E) : E := fun env M => (c env M).bind fun b M1 => if b then f env M1 else g env M1
theorem v_if {c : Expr} {fc : B} (hc : PT X c (tBo t W fc)) (ha : PE X a (tE t W fea)) (hb : PE X b (tE t W feb)) : PE X (.IfExp c a b pos) (tE t W (eIf fc fea feb)) := PE.imp (pe_ifExp hc ha hb) fun σ H Q h => by
  obtain ⟨ads, F, env, M, fr, h⟩ := h
  refine Fr.bind fr h fun ads1 F1 M1 c H1 fr1 _ c' pc k => ?_
  subst pc
  cases c' with
  | true => rw [if_pos rfl] at k ⊢; exact ⟨ads1, F1, env, M1, fr1, k⟩
  | false => rw [if_neg Bool.false_ne_true] at k ⊢; exact ⟨ads1, F1, env, M1, fr1, k⟩
/-! a < b <= c -/
def eChain (g g' : R → R → Mem → Ro R) (fa fb fc : E) : E := fun env M => (fa env M).bind fun x M1 => (fb env M1).bind fun y M2 => (g x y M2).bind fun z M3 => match asB M3 z with
  | some true => (fc env M3).bind fun u M4 => g' y u M4
  | some false => .ok (.d (.bl false)) M3
  | none => .no
theorem chain_read {g g' : R → R → Mem → Ro R} {fea feb fec : E} {σ : L2.St} {H : Hp} {Q : VK} (h : tE t W (eChain g g' fea feb fec) σ H Q) : tChain (rD t g) (rD t g') (tE t W fea) (tE t W feb) (tE t W fec) σ H Q := by
  obtain ⟨ads, F, env, M, fr, h⟩ := h
  refine Fr.bind fr h fun ads1 F1 M1 v H1 fr1 _ x px h1 => ?_
  refine Fr.bind fr1 h1 fun ads2 F2 M2 w H2 fr2 m2 y py h2 => ?_
  refine ⟨WE W.w σ, ads2, F2, M2, x, y, fr2.rel, px.mono m2, py, ?_⟩
  refine Kg.mono (Kg.split (P' := IsR t) h2) fun vz H3 z => ?_
  obtain ⟨ads3, F3, z0, M3, s3, R3, pz, k⟩ := z
  cases q : asB M3 z0 with
  | none => simp only [q] at k; exact k.elim
  | some c =>
    refine ⟨c, asB_ok R3 pz q, ?_⟩
    cases c with
    | true =>
      simp only [q] at k
      rw [if_pos rfl]
      exact Fr.bind (fr2.step s3 R3) k fun ads4 F4 M4 u H4 fr4 m4 u0 pu k4 => ⟨WE W.w σ, ads4, F4, M4, y, u0, fr4.rel, (py.mono s3.mon).mono m4, pu, k4⟩
    | false => simp only [q] at k; rw [if_neg Bool.false_ne_true]; exact okB R3 k
theorem v_chain {op op' : CmpOp} {c : Expr} {g g' : R → R → Mem → Ro R} {fea feb fec : E} (ho : OpR X (compareOp op) (rD t g)) (ho' : OpR X (compareOp op') (rD t g')) (ha : PE X a (tE t W fea)) (hb : PE X b (tE t W feb)) (hc : PE X c (tE t W fec))
    (hm : lastMarks [op, op'] [b, c] = false := by with_unfolding_all rfl) : PE X (.Compare a [op, op'] [b, c] pos) (tE t W (eChain g g' fea feb fec)) := PE.imp (pe_chain ho ho' ha hb hc hm) fun σ H Q h => chain_read h
theorem t_chain {op op' : CmpOp} {c : Expr} {g g' : R → R → Mem → Ro R} {fea feb fec : E} (ho : OpR X (compareOp op) (rD t g)) (ho' : OpR X (compareOp op') (rD t g')) (ha : PE X a (tE t W fea)) (hb : PE X b (tE t W feb)) (hc : PE X c (tE t W fec))
    (hm : lastMarks [op, op'] [b, c] = false := by with_unfolding_all rfl) : PT X (.Compare a [op, op'] [b, c] pos) (tBo t W (bCmp (eChain g g' fea feb fec))) := PT.imp (pt_chain ho ho' ha hb hc hm) fun σ H Q h => by
  refine chain_read (t := t) (W := W) ?_
  obtain ⟨ads, F, env, M, fr, h⟩ := h
  refine Fr.bind fr h fun ads1 F1 M1 b1 H1 fr1 _ r pr k => ?_
  have sx := fr1.rel.view pr
  split at k
  · rename_i c e
    rw [e] at sx
    exact ⟨c, sx, k.ok fr1.rel rfl⟩
  · exact k.elim
end
end Lc
set_option Elab.async false
set_option linter.all false
set_option maxRecDepth 100000
set_option maxHeartbeats 4000000
/-! a, *b = xs; names of the module; in; get. -/
namespace Lc
open PySem PySem.Spec PyProof.Rows L2 LcX
section
variable {prog : Program} {w : World} {A : Around} {E : Value → Shared → Prop} {s : Shared}
theorem starL {l : Addr} {items : Array Value} {i : Nat} {Q : List Value → Shared → Prop} (hl : s.heap.IsList l items) (hh : A.handled = none) (hi : i ≤ items.size) (hz : items.size ≤ sizeLine)
    (h : ∀ h' tk, Heap.ExtBut s.heap.objs.size s.heap h' → Q (items.toList.take i ++ [.ref h'.objs.size]) { s with heap := h'.push { cls := .type "list", data := .seq (items.toList.drop i).toArray }, toks := tk }) : wpAny (model prog w) A (unpackItems (.ref l) (i + 1) (some i)) Q E s := by
  have hlt : l ≠ s.heap.objs.size := by obtain ⟨o, ho, _⟩ := hl; exact Nat.ne_of_lt (Heap.lt_size ho)
  unfold unpackItems
  refine wpAny_bind ?_
  unfold notIterableAtAll
  refine wpAny_bind (wpAny_specialOf hl.typeIs slot_list_iter.lookup ?_)
  refine wpAny_pure ?_
  simp only [Bool.false_eq_true, if_false]
  refine wpAny_bind (wpAny_holding (wpAny_pyIter_list hl ?_))
  refine wpAny_bind (wpAny_holding (PySem.W.kun_draw hlt i 0 _ _ ⟨_, Heap.get?_push_size _ rfl, rfl, rfl⟩ (hl.push _) (by omega) fun h₁ hit₁ hs₁ => ?_))
  have hl₁ : h₁.IsList l items := (hl.push _).extBut hs₁.extBut hlt
  rw [Nat.zero_add] at hit₁
  have hit₁' := hit₁
  obtain ⟨oi, hoi, _⟩ := hit₁'
  have hl₁' := hl₁
  obtain ⟨ol, hol, _⟩ := hl₁'
  rw [List.drop_zero]
  have hfl : (items.toList.take i).length = i := by rw [List.length_take, Array.length_toList]; omega
  rw [if_neg (show ¬ ((items.toList.take i).length < i) by rw [hfl]; omega)]
  refine wpAny_bind (wpAny_holding (PySem.W.kun_collect (s := { s with heap := h₁ }) (T := "list_iterator") (.inr (.inr (.inl rfl))) (Walks.list (A := A.in1) hh s.heap.objs.size l hlt items) (fun j u st => st.1.typeIs) (k := i) hi ⟨hit₁, hl₁⟩ (Heap.lt_size hoi) (Heap.lt_size hol) (fun h₂ tk hk => ?_) hz))
  show wpAny _ _ (if (items.toList.drop i).length < i + 1 - 1 - i then _ else _) _ _ _
  rw [if_neg (by omega)]
  show wpAny _ _ (newList ((items.toList.drop i).take ((items.toList.drop i).length - (i + 1 - 1 - i))) >>= fun d => pure (items.toList.take i ++ [d] ++ (items.toList.drop i).drop ((items.toList.drop i).length - (i + 1 - 1 - i)))) _ _ _
  rw [show (items.toList.drop i).length - (i + 1 - 1 - i) = (items.toList.drop i).length from by omega, List.take_length, List.drop_length]
  simp only [List.append_nil]
  have he : Heap.ExtBut s.heap.objs.size s.heap h₂ := fun b o hb e => hk b o hb (hs₁.extBut b o hb (Heap.get?_push_of_some _ e))
  refine wpAny_bind ?_
  unfold newList
  refine wpAny_newObj_type (wpAny_pure (h h₂ tk he)) ?_
  show (items.toList.drop i).toArray.size ≤ sizeLine
  rw [List.size_toArray, List.length_drop, Array.length_toList]
  omega
theorem starT {l : Addr} {items : Array Value} {i : Nat} {Q : List Value → Shared → Prop} (hl : IsTup s.heap l items) (hh : A.handled = none) (hi : i ≤ items.size) (hz : items.size ≤ sizeLine)
    (h : ∀ h' tk, Heap.ExtBut s.heap.objs.size s.heap h' → Q (items.toList.take i ++ [.ref h'.objs.size]) { s with heap := h'.push { cls := .type "list", data := .seq (items.toList.drop i).toArray }, toks := tk }) : wpAny (model prog w) A (unpackItems (.ref l) (i + 1) (some i)) Q E s := by
  have hlt : l ≠ s.heap.objs.size := by obtain ⟨o, ho, _⟩ := hl; exact Nat.ne_of_lt (Heap.lt_size ho)
  unfold unpackItems
  refine wpAny_bind ?_
  unfold notIterableAtAll
  refine wpAny_bind (wpAny_specialOf hl.typeIs slot_tuple_iter.lookup ?_)
  refine wpAny_pure ?_
  simp only [Bool.false_eq_true, if_false]
  refine wpAny_bind (wpAny_holding (iter_tuple hl ?_))
  refine wpAny_bind (wpAny_holding (draw_tuple hlt i 0 _ _ ⟨_, Heap.get?_push_size _ rfl, rfl, rfl⟩ (hl.push _) (by omega) fun h₁ hit₁ hs₁ => ?_))
  have hl₁ : IsTup h₁ l items := (hl.push _).extBut hs₁.extBut hlt
  rw [Nat.zero_add] at hit₁
  have hit₁' := hit₁
  obtain ⟨oi, hoi, _⟩ := hit₁'
  have hl₁' := hl₁
  obtain ⟨ol, hol, _⟩ := hl₁'
  rw [List.drop_zero]
  have hfl : (items.toList.take i).length = i := by rw [List.length_take, Array.length_toList]; omega
  rw [if_neg (show ¬ ((items.toList.take i).length < i) by rw [hfl]; omega)]
  refine wpAny_bind (wpAny_holding (PySem.W.kun_collect (s := { s with heap := h₁ }) (T := "tuple_iterator") (.inr (.inr (.inr rfl))) (Walks.tuple (A := A.in1) hh s.heap.objs.size l hlt items) (fun j u st => st.1.typeIs) (k := i) hi ⟨hit₁, hl₁⟩ (Heap.lt_size hoi) (Heap.lt_size hol) (fun h₂ tk hk => ?_) hz))
  show wpAny _ _ (if (items.toList.drop i).length < i + 1 - 1 - i then _ else _) _ _ _
  rw [if_neg (by omega)]
  show wpAny _ _ (newList ((items.toList.drop i).take ((items.toList.drop i).length - (i + 1 - 1 - i))) >>= fun d => pure (items.toList.take i ++ [d] ++ (items.toList.drop i).drop ((items.toList.drop i).length - (i + 1 - 1 - i)))) _ _ _
  rw [show (items.toList.drop i).length - (i + 1 - 1 - i) = (items.toList.drop i).length from by omega, List.take_length, List.drop_length]
  simp only [List.append_nil]
  have he : Heap.ExtBut s.heap.objs.size s.heap h₂ := fun b o hb e => hk b o hb (hs₁.extBut b o hb (Heap.get?_push_of_some _ e))
  refine wpAny_bind ?_
  unfold newList
  refine wpAny_newObj_type (wpAny_pure (h h₂ tk he)) ?_
  show (items.toList.drop i).toArray.size ≤ sizeLine
  rw [List.size_toArray, List.length_drop, Array.length_toList]
  omega
end
section
variable {t : Tx} {W : Wk} {hs : List (Nat × V)} {X : Cx} {e : Expr} {es : List Expr} {pos p : Pos} {f : Tg} {g : List R → S} {sl sl2 : List Nat} {tg : TG} {tgs : TGs}
/-- a, .., *b = xs -/
def gStar (K : PySem.W.Frag) (i : Nat) (tt : TGs) : TG := fun v σ H Q => ∃ a xs, v = .ref a ∧ (SqL K H a xs ∨ SqT K H a xs) ∧ i ≤ xs.length ∧ ∀ D, H D = none → tt (xs.take i ++ [.ref D]) σ (upd H D (.lst (xs.drop i))) Q
theorem pg_star {k i : Nat} {tt : TGs} (hc : X.calm = true) (h : PGs X es tt) (hn : (assignEach es X.env).length = i + 1 := by rfl) (hst : (assignEach es X.env).findIdx? (·.1) = some i := by rfl) : PG X (.Tuple es k pos) (gStar X.K i tt) := by
  refine ⟨fun pins s σ H v u Q I r hw => ?_⟩
  obtain ⟨a, xs, rfl, hq, hi, hw⟩ := hw
  cases r
  have go : ∀ (its : List Value), Vals xs its → xs.length ≤ sizeLine → ∀ (h' : Heap) (tk : Nat), Heap.ExtBut s.heap.objs.size s.heap h' →
      wpAny (model X.prog X.w) X.A (assignInOrder ((assignEach es X.env).map (·.2)) (its.toArray.toList.take i ++ [.ref h'.objs.size])) (fun _ s' => ∃ σ' H', Inv X pins σ' H' s' ∧ Q σ' H') X.xe { s with heap := h'.push { cls := .type "list", data := .seq (its.toArray.toList.drop i).toArray }, toks := tk } := fun its rv hz h' tk hx => by
    have I1 : Inv X pins σ H { s with heap := h' } := I.kept (t' := s.toks) fun b o e => hx b o (Nat.ne_of_lt (Heap.lt_size e)) e
    have I2 : Inv X pins σ (upd H h'.objs.size (.lst (xs.drop i))) { s with heap := h'.push { cls := .type "list", data := .seq (its.drop i).toArray }, toks := tk } := I1.lnew (t' := tk) (rv.drop i) (by rw [List.length_drop]; omega)
    exact h.run pins _ σ _ (xs.take i ++ [.ref h'.objs.size]) _ Q (by simpa using I2) (by simpa using Vals.append (rv.take i) (show Vals [V.ref h'.objs.size] [Value.ref h'.objs.size] from .cons rfl .nil)) (hw h'.objs.size I1.fresh)
  rw [PyProof.Rows.assign_Tuple]
  refine wpAny_bind (wpAny_standAt ?_)
  unfold unpack
  rw [hn, hst]
  refine wpAny_bind (wpAny_holding ?_)
  rcases hq with hq | hq
  · obtain ⟨its, rv, pl, hz⟩ := I.list hq
    have hl := rv.length
    exact starL pl.isList (I.ok.hd hc) (by simp; omega) (by simp; omega) fun h' tk hx => go its rv hz h' tk hx
  · obtain ⟨its, rv, pl, hz⟩ := I.tuple hq
    have hl := rv.length
    exact starT pl (I.ok.hd hc) (by simp; omega) (by simp; omega) fun h' tk hx => go its rv hz h' tk hx
theorem g_consS (h1 : PGd t W hs X e sl tg f) (h2 : PGs' t W hs X es sl2 tgs g) (hss : (assignEach (.Starred e p :: es) X.env).map (·.2) = assign e X.env :: (assignEach es X.env).map (·.2) := by rfl) : PGs' t W hs X (.Starred e p :: es) (sl ++ sl2) (gCons (gW tg) (gWs tgs)) (gMore f g) := by
  refine ⟨⟨fun pins s σ H vs us Q I r h => ?_⟩, fun σ H ads F env M rs vs D fr hid p k => ?_⟩
  · obtain ⟨v, vr, e1, h⟩ := h
    subst e1
    cases r with
    | cons r rr =>
      rw [hss]
      refine assignInOrder_cons (thn ((pg_weak h1.pg).run pins s σ H _ _ _ I r h) fun _ s1 ⟨σ1, H1, I1, q1⟩ => ?_)
      exact (pgs_weak h2.pg).run pins s1 σ1 H1 _ _ Q I1 rr q1
  · cases p with
    | nil => exact k.elim
    | @cons r v rs vs hr hrs =>
      unfold gMore at k
      simp only at k
      cases q : f r env M with
      | nx e1 m =>
        rw [q] at k
        have z := h1.run σ H ads F env M r v { D with nx := fun σ' H' => gWs tgs vs σ' H' fun σ2 H2 => Same sl2 σ' σ2 ∧ D.nx σ2 H2 } fr hid hr (by
          rw [q]
          exact fun ads' F' H' σ' s fr' hid' => ⟨_, fun _ _ q => q, h2.run σ' H' ads' F' e1 m rs vs D fr' hid' (IsRs.mono s.mon hrs) (Ks.step s k)⟩)
        exact ⟨v, vs, rfl, _, fun σ' H' hp => gWs_imp hp.2 fun σ2 H2 q => ⟨hp.1.trans q.1, q.2⟩, z⟩
      | bk _ _ => rw [q] at k; exact k.elim
      | ct _ _ => rw [q] at k; exact k.elim
      | rt _ _ => rw [q] at k; exact k.elim
      | ex _ _ _ => rw [q] at k; exact k.elim
      | no => rw [q] at k; exact k.elim
def gStarD (i : Nat) (cell : Bool) (f : List R → S) : Tg := fun r env M => match vw M r with
  | .tup rs => if i ≤ rs.length then sLift (fun _ M => mk cell (.lst (rs.drop i)) M) (fun x => f (rs.take i ++ [x])) env M else .no
  | .lst rs => if i ≤ rs.length then sLift (fun _ M => mk cell (.lst (rs.drop i)) M) (fun x => f (rs.take i ++ [x])) env M else .no
  | _ => .no
theorem star_step {i : Nat} {cell : Bool} {σ : L2.St} {H : Hp} {ads : List Addr} {F : Hp} {env : Env} {M : Mem} {rs : List R} {vs : List V} {D : Ends} (h : PGs' t W hs X es sl tgs g) (fr : Fr t W σ H ads F env M) (hid : Hid hs σ) (p : IsRs t F ads rs vs)
    (k : Ks t W hs ads F H (sLift (fun _ M => mk cell (.lst (rs.drop i)) M) (fun x => g (rs.take i ++ [x])) env M) D) (Dd : Addr) (hD : H Dd = none) : tgs (vs.take i ++ [.ref Dd]) σ (upd H Dd (.lst (vs.drop i))) (fun σ' H' => Same sl σ σ' ∧ D.nx σ' H') := by
  have kk : Kt t (WE W.w σ) ads F H (mk cell (.lst (rs.drop i)) M) (fun x H' => tgs (vs.take i ++ [x]) σ H' (fun σ' H' => Same sl σ σ' ∧ D.nx σ' H')) := by
    unfold sLift at k
    cases q : mk cell (.lst (rs.drop i)) M with
    | ok x M2 =>
      simp only [q] at k
      intro ads' F' H' b s R pb
      exact h.run σ H' ads' F' env M2 (rs.take i ++ [x]) _ D (fr.step s R) hid (pair_append (IsRs.mono s.mon (pair_take i p)) (.cons pb .nil)) (Ks.step s k)
    | ex x M2 => simp only [q] at k; exact fun ads' F' H' cls dd s R p hd => k _ _ _ _ _ _ s (fr.step s R) hid p hd
    | no => simp only [q] at k; exact k.elim
  exact Kg.made fr.rel hD (newL (pair_drop i p)) kk
theorem g_star {k i : Nat} {cell : Bool} (ht : t.K = X.K) (hc : X.calm = true) (h : PGs' t W hs X es sl tgs g) (hn : (assignEach es X.env).length = i + 1 := by rfl) (hst : (assignEach es X.env).findIdx? (·.1) = some i := by rfl) : PGd t W hs X (.Tuple es k pos) sl (gStar X.K i tgs) (gStarD i cell g) := by
  refine ⟨pg_star hc h.pg hn hst, fun σ H ads F env M r v D fr hid p k => ?_⟩
  have sx := fr.rel.view p
  unfold gStarD at k
  split at k
  · rename_i rs ex
    rw [ex] at sx
    obtain ⟨a, vs, rfl, h1, h2⟩ := sx
    split at k
    · rename_i c
      exact ⟨a, vs, rfl, .inr (ht ▸ h1), by rw [← Paired.length h2]; exact c, fun Dd hD => star_step h fr hid h2 k Dd hD⟩
    · exact k.elim
  · rename_i rs ex
    rw [ex] at sx
    obtain ⟨a, vs, rfl, h1, h2⟩ := sx
    split at k
    · rename_i c
      exact ⟨a, vs, rfl, .inl (.inl h1), by rw [← Paired.length h2]; exact c, fun Dd hD => star_step h fr hid h2 k Dd hD⟩
    · exact k.elim
  · exact k.elim
end
end Lc
set_option Elab.async false
set_option linter.all false
set_option maxRecDepth 100000
set_option maxHeartbeats 4000000
/-! in, get, copies of dicts, what the module's names stand for. -/
namespace Lc
open PySem PySem.Spec PyProof.Rows L2 LcX
/-- x in y -/
def oInW (neg : Bool) : R → R → Mem → Ro R := fun x y M =>
  let ans := fun (b : Bool) => (.ok (.d (.bl (if neg then !b else b))) M : Ro R)
  match vw M y with
  | .str s => match vw M x with
    | .str [c] => ans (decide (c ∈ s))
    | _ => .no
  | .dct ks _ => match isNon M x with
    | some true => ans false
    | _ => match dkey M x with
      | some k => ans (dhas ks k)
      | none => .no
  | _ => match pv M x, pv M y with
    | some a, some (.lst ds) => if plain a && plains ds && decide (dep a ≤ 64) && decide (deps ds ≤ 63) then ans (ds.any fun d => eqD d a) else .no
    | some a, some (.tup ds) => if plain a && plains ds && decide (dep a ≤ 64) && decide (deps ds ≤ 63) then ans (ds.any fun d => eqD d a) else .no
    | _, _ => .no
def oIn := oInW false
def oNotIn := oInW true
section
variable {t : Tx} {X : Cx}
theorem shaped_D {F : Hp} {d : D} {v : V} (h : Is t F d v) (p : plain d = true) (c : dep d ≤ 64) : SeqAt.shaped (toP d) = true := by
  have z := Is.lay d p h
  simp [SeqAt.shaped, z, c]
theorem any_toP {a : D} (pa : plain a = true) : ∀ {ds : List D}, plains ds = true → ((toPs ds).any fun z => PyData.eqv z (toP a)) = ds.any fun d => eqD d a
  | [], _ => by simp [toPs]
  | d :: ds, p => by
    have p2 : plain d = true ∧ plains ds = true := by simpa [plains] using p
    simp only [toPs, List.any_cons]
    rw [any_toP pa p2.2, eqv_toP d a p2.1 pa]
end
section
variable {t : Tx} {X : Cx}
theorem d_inW {neg : Bool} {f : Value → Value → Sem Value} (ht : t.K = X.K)
    (h1 : OpR X f (fun x y H Q => ∃ (c : Nat) (z : Str), x = .str ⟨#[c]⟩ ∧ y = .str z ∧ Q (.bl (if neg then !decide (c ∈ z.cps.toList) else decide (c ∈ z.cps.toList))) H))
    (h2 : ∀ (pins : List (Addr × Obj)) (s : Shared) (σ : L2.St) (H : Hp) (a : Addr) (y : V) (u : Value) (o : Option V) (Q : VK), Inv X pins σ H s → DGet H a y o → RelV y u → Q (.bl (if neg then !o.isSome else o.isSome)) H → wpAny (model X.prog X.w) X.A (f u (.ref a)) (EP X pins σ Q) X.xe s)
    (h3 : ∀ (pins : List (Addr × Obj)) (s : Shared) (σ : L2.St) (H : Hp) (a : Addr) (kvs : List (Key × V)) (Q : VK), Inv X pins σ H s → Rd H a (.dK kvs) → Q (.bl (if neg then true else false)) H → wpAny (model X.prog X.w) X.A (f .none (.ref a)) (EP X pins σ Q) X.xe s)
    (h4 : ∀ (pins : List (Addr × Obj)) (s : Shared) (σ : L2.St) (H : Hp) (x y : V) (v u : Value) (d : PyData) (ds : List PyData) (Q : VK), Inv X pins σ H s → RelV x v → RelV y u → Dp X.K H x d → (Dp X.K H y (.list ds) ∨ Dp X.K H y (.tuple ds)) → PyData.canLayAll0 ds = true → SeqAt.shaped d = true →
      Q (.bl (if neg then !(ds.any fun z => PyData.eqv z d) else ds.any fun z => PyData.eqv z d)) H → wpAny (model X.prog X.w) X.A (f v u) (EP X pins σ Q) X.xe s) : OpR X f (rD t (oInW neg)) := by
  intro pins s σ H vx vy v u Q I rx ry q
  obtain ⟨W, ads, F, M, x, y, Rr, hx, hy, k⟩ := q
  have sx := Rr.view hx
  have sy := Rr.view hy
  have deep : ∀ (a : D) (ds : List D) (mk : List D → D), pv M x = some a → pv M y = some (mk ds) → (mk = .lst ∨ mk = .tup) → (plain a && plains ds && decide (dep a ≤ 64) && decide (deps ds ≤ 63)) = true →
      Q (.bl (if neg then !(ds.any fun d => eqD d a) else ds.any fun d => eqD d a)) H → wpAny (model X.prog X.w) X.A (f v u) (EP X pins σ Q) X.xe s := fun a ds mk ea eb hm c q => by
    simp only [Bool.and_eq_true, decide_eq_true_eq] at c
    obtain ⟨⟨⟨c1, c2⟩, c3⟩, c4⟩ := c
    have px := Rr.pv hx ea
    have py := Rr.pv hy eb
    have m : ∀ p xs, Rd H p (.lst xs) → SqL t.K H p xs := fun _ _ z => .inl z
    have x1 := Is.dp m a c1 px
    rw [ht] at x1
    have cl : PyData.canLayAll0 (toPs ds) = true := by
      rcases hm with rfl | rfl
      · have := (Is.lay (.lst ds) (by simpa [plain] using c2) py).1
        simpa [toP, PyData.canLay0] using this
      · have := (Is.lay (.tup ds) (by simpa [plain] using c2) py).1
        simpa [toP, PyData.canLay0] using this
    refine h4 pins s σ H vx vy v u (toP a) (toPs ds) Q I rx ry x1 ?_ cl (shaped_D px c1 c3) ?_
    · rcases hm with rfl | rfl
      · have y1 := Is.dp m (.lst ds) (by simpa [plain] using c2) py
        rw [ht] at y1
        exact .inl (by simpa [toP] using y1)
      · have y1 := Is.dp m (.tup ds) (by simpa [plain] using c2) py
        rw [ht] at y1
        exact .inr (by simpa [toP] using y1)
    · rw [any_toP c1 c2]
      exact q
  unfold oInW at k
  dsimp only at k
  split at k
  · rename_i z ey
    rw [ey] at sy
    split at k
    · rename_i c ex
      rw [ex] at sx
      refine h1 pins s σ H vx vy v u Q I rx ry ⟨c, st z, sx.1, sy.1, ?_⟩
      have e : (st z).cps.toList = z := by simp [st]
      rw [e]
      exact okB Rr k
    · exact k.elim
  · rename_i ks rs ey
    rw [ey] at sy
    obtain ⟨a, kvs, rfl, g1, g2, g3, g4⟩ := sy
    cases ry
    split at k
    · rename_i en
      have z : vx = .non := by simpa using isNon_ok Rr hx en
      subst z
      cases rx
      refine h3 pins s σ H a kvs Q I g1 ?_
      have := okB Rr k
      simpa using this
    · split at k
      · rename_i d ed
        obtain ⟨kk, ev, ekd, _⟩ := dkey_ok Rr hx ed
        subst ekd g3
        rw [dhas_D, valV_any] at k
        refine h2 pins s σ H a vx v (valV kvs kk) Q I ?_ rx (okB Rr k)
        rw [ev]
        exact DGet.r g1
      · exact k.elim
  · split at k
    · rename_i a ds ea eb
      split at k
      · rename_i c
        exact deep a ds .lst ea eb (.inl rfl) c (okB Rr k)
      · exact k.elim
    · rename_i a ds ea eb
      split at k
      · rename_i c
        exact deep a ds .tup ea eb (.inr rfl) c (okB Rr k)
      · exact k.elim
    · exact k.elim
theorem d_in' (ht : t.K = X.K) (hu : X.A.units + 65 < cLine) : OpR X (compareOp .In) (rD t oIn) := d_inW (neg := false) ht op_in_sign
  (fun pins s σ H a y u o Q I g r q => d_in (by omega) I g r fun s' J => ⟨.bl o.isSome, H, J, rfl, q⟩)
  (fun pins s σ H a kvs Q I g q => d_inNone I g fun s' J => ⟨.bl false, H, J, rfl, q⟩)
  (fun pins s σ H x y v u d ds Q I rx ry hd he cl sh q => by
    obtain ⟨as, r1⟩ := Dp.reads I d x v hd rx
    rcases he with he | he
    · obtain ⟨bs, r2⟩ := Dp.reads I (.list ds) y u he ry
      exact SeqAt.in_list_reads r2 r1 cl (SeqAt.canLay_of_shaped sh) (room_in_shaped sh hu) ⟨.bl _, H, I, rfl, q⟩
    · obtain ⟨bs, r2⟩ := Dp.reads I (.tuple ds) y u he ry
      exact SeqAt.in_tuple_reads r2 r1 cl (SeqAt.canLay_of_shaped sh) (room_in_shaped sh hu) ⟨.bl _, H, I, rfl, q⟩)
theorem d_notin' (ht : t.K = X.K) (hu : X.A.units + 65 < cLine) : OpR X (compareOp .NotIn) (rD t oNotIn) := d_inW (neg := true) ht op_notIn_sign
  (fun pins s σ H a y u o Q I g r q => d_notIn (by omega) I g r fun s' J => ⟨.bl (!o.isSome), H, J, rfl, q⟩)
  (fun pins s σ H a kvs Q I g q => d_notInNone I g fun s' J => ⟨.bl true, H, J, rfl, q⟩)
  (fun pins s σ H x y v u d ds Q I rx ry hd he cl sh q => by
    obtain ⟨as, r1⟩ := Dp.reads I d x v hd rx
    rcases he with he | he
    · obtain ⟨bs, r2⟩ := Dp.reads I (.list ds) y u he ry
      exact SeqAt.notIn_list_reads r2 r1 cl (SeqAt.canLay_of_shaped sh) (room_in_shaped sh hu) ⟨.bl _, H, I, rfl, q⟩
    · obtain ⟨bs, r2⟩ := Dp.reads I (.tuple ds) y u he ry
      exact SeqAt.notIn_tuple_reads r2 r1 cl (SeqAt.canLay_of_shaped sh) (room_in_shaped sh hu) ⟨.bl _, H, I, rfl, q⟩)
end
end Lc
set_option Elab.async false
set_option linter.all false
set_option maxRecDepth 100000
set_option maxHeartbeats 4000000
/-! get, dict(d), isinstance, reversed, texts apart and together. -/
namespace Lc
open PySem PySem.Spec PyProof.Rows L2 LcX
section
variable {t : Tx} {W : Wk} {X : Cx} {e o : Expr} {es : List Expr} {fs : Es} {fo fe ff : E} {pos apos p : Pos} {x name : Str}
/-! d.get(k), d.get(k, x) -/
def eGet1 (fo fe : E) : E := fun env M => (fo env M).bind fun d M1 => (match vw M1 d with
  | .dct _ _ => (fe env M1).bind fun k M2 => match vw M2 d, dkey M2 k with
    | .dct ks rs, some kk => .ok ((dget ks rs kk).getD (.d .non)) M2
    | _, _ => .no
  | _ => .no)
def eGet2 (fo fe ff : E) : E := fun env M => (fo env M).bind fun d M1 => (match vw M1 d with
  | .dct _ _ => (fe env M1).bind fun k M2 => (ff env M2).bind fun z M3 => match vw M3 d, dkey M3 k with
    | .dct ks rs, some kk => .ok ((dget ks rs kk).getD z) M3
    | _, _ => .no
  | _ => .no)
theorem dget_getD {F H : Hp} {ads : List Addr} {M : Mem} {kvs : List (Key × V)} {rs : List R} {kk : Key} {z : R} {vz : V} (h : IsRs t F ads rs (kvs.map (·.2))) (hz : IsR t F ads z vz) : IsR t F ads ((dget (kvs.map fun k => keyD k.1) rs (keyD kk)).getD z) ((valV kvs kk).getD vz) := by
  have q := dget_ok (k := kk) h
  cases e1 : dget (kvs.map fun k => keyD k.1) rs (keyD kk) with
  | none =>
    rw [e1] at q
    cases e2 : valV kvs kk with
    | none => exact hz
    | some w => rw [e2] at q; exact q.elim
  | some r =>
    rw [e1] at q
    cases e2 : valV kvs kk with
    | none => rw [e2] at q; exact q.elim
    | some w => rw [e2] at q; exact q
theorem e_get1 {e : Expr} (hu : X.A.units + 1 < cLine) (ho : PE X o (tE t W fo)) (he : PE X e (tE t W fe)) (m : M1 X o "get" apos e pos) : PE X (.Call (.Attribute o "get" apos) [e] [] pos) (tE t W (eGet1 fo fe)) := PE.imp (pe_dget1 hu ho he m) fun σ H Q h => by
  obtain ⟨ads, F, env, M, fr, h⟩ := h
  refine Fr.bind fr h fun ads1 F1 M1 v H1 fr1 _ d pd k => ?_
  have sx := fr1.rel.view pd
  split at k
  · rename_i ks0 rs0 e0
    rw [e0] at sx
    obtain ⟨a, kvs0, ev, g1, _⟩ := sx
    refine ⟨a, ev, .inl ⟨kvs0, g1⟩, Fr.bind fr1 k fun ads2 F2 M2 vk H2 fr2 m2 kx pk k2 => ?_⟩
    have sy := fr2.rel.view (pd.mono m2)
    split at k2
    · rename_i ks rs kk e1 e2
      rw [e1] at sy
      obtain ⟨a', kvs, ev', g1, g2, g3, g4⟩ := sy
      rw [ev] at ev'
      cases ev'
      obtain ⟨kk', ek, ekd, _⟩ := dkey_ok fr2.rel pk e2
      subst ekd g3
      refine ⟨valV kvs kk', by rw [ek]; exact DGet.r g1, okR fr2.rel (dget_getD (M := M2) (H := H2) (z := .d .non) g4 (isN (t := t) F2)) k2⟩
    · exact k2.elim
  · exact k.elim
theorem e_get2 {e f : Expr} (hu : X.A.units + 1 < cLine) (ho : PE X o (tE t W fo)) (he : PE X e (tE t W fe)) (hf : PE X f (tE t W ff)) (m : M2 X o "get" apos e f pos) : PE X (.Call (.Attribute o "get" apos) [e, f] [] pos) (tE t W (eGet2 fo fe ff)) := PE.imp (pe_dget2 hu ho he hf m) fun σ H Q h => by
  obtain ⟨ads, F, env, M, fr, h⟩ := h
  refine Fr.bind fr h fun ads1 F1 M1 v H1 fr1 _ d pd k => ?_
  have sx := fr1.rel.view pd
  split at k
  · rename_i ks0 rs0 e0
    rw [e0] at sx
    obtain ⟨a, kvs0, ev, g1, _⟩ := sx
    refine ⟨a, ev, .inl ⟨kvs0, g1⟩, Fr.bind fr1 k fun ads2 F2 M2 vk H2 fr2 m2 kx pk k2 => ?_⟩
    refine Fr.bind fr2 k2 fun ads3 F3 M3 vz H3 fr3 m3 z pz k3 => ?_
    have sy := fr3.rel.view ((pd.mono m2).mono m3)
    split at k3
    · rename_i ks rs kk e1 e2
      rw [e1] at sy
      obtain ⟨a', kvs, ev', g1, g2, g3, g4⟩ := sy
      rw [ev] at ev'
      cases ev'
      obtain ⟨kk', ek, ekd, _⟩ := dkey_ok fr3.rel (pk.mono m3) e2
      subst ekd g3
      refine ⟨valV kvs kk', by rw [ek]; exact DGet.r g1, okR fr3.rel (dget_getD (M := M3) (H := H3) g4 pz) k3⟩
    · exact k3.elim
  · exact k.elim
/-! dict(d) -/
def bDict (cell : Bool) : List R → Mem → Ro R := g1 fun r M => match vw M r with
  | .dct ks rs => mk cell (.dct ks rs) M
  | _ => .no
theorem b_dict {cell : Bool} : CallR X (.type "dict") (rDs t (bDict cell)) := by
  intro pins s σ H vs us Q I rv h
  obtain ⟨W, ads, F, M, r, v, rfl, Rr, hr, k⟩ := rDs_one h
  have sx := Rr.view hr
  split at k
  · rename_i ks rs q
    rw [q] at sx
    obtain ⟨a, kvs, rfl, h1, h2, h3, h4⟩ := sx
    obtain ⟨u, rfl, ru⟩ := vals1 rv
    cases ru
    exact d_copyOf I h1 fun p s' hp J => ⟨.ref p, _, J, rfl, Kg.made Rr hp (show New t F ads (.dct ks rs) (.dK kvs) from ⟨kvs, rfl, h2, h3, h4⟩) k⟩
  · exact k.elim
/-! isinstance(x, T), T a built-in class -/
def tyName (v : Vw) : Option String := match v with
  | .non => some "NoneType"
  | .bl _ => some "bool"
  | .int _ => some "int"
  | .str _ => some "str"
  | .lst _ => some "list"
  | .tup _ => some "tuple"
  | .dct _ _ => some "dict"
  | _ => none
def eIsi (T : String) (fe : E) : E := fun env M => (fe env M).bind fun r M1 => match tyName (vw M1 r) with
  | some n => match kitB n T with
    | some b => .ok (.d (.bl b)) M1
    | none => .no
  | none => .no
theorem rd_ty {K : PySem.W.Frag} {H : Hp} {a : Addr} {u : HO} {n : String} (h : Rd H a u) (h1 : H a = some u → TyX K H (.ref a) (.type n)) (h2 : ∀ o, H a = some (.frz o u) → TyX K H (.ref a) (.type n)) : TyX K H (.ref a) (.type n) := by
  rcases h with h | ⟨o, h⟩
  · exact h1 h
  · exact h2 o h
theorem tyX_ok {F H : Hp} {ads : List Addr} {M : Mem} {r : R} {v : V} {n : String} (ht : t.K = X.K) (Rr : Rel t ads F M H) (h : IsR t F ads r v) (e : tyName (vw M r) = some n) : TyX X.K H v (.type n) := by
  have sx := Rr.view h
  cases q : vw M r with
  | non => rw [q] at sx e; cases e; rw [show v = .non from sx]; exact .base .non
  | bl b => rw [q] at sx e; cases e; rw [show v = .bl b from sx]; exact .base (.bl b)
  | int i => rw [q] at sx e; cases e; rw [show v = .int i from sx]; exact .base (.int i)
  | str z => rw [q] at sx e; cases e; rw [sx.1]; exact .base (.str _)
  | lst rs =>
    rw [q] at sx e
    cases e
    obtain ⟨a, vs, rfl, h1, _⟩ := sx
    exact rd_ty h1 (fun z => .base (.lst z)) fun o z => .base (.frz z)
  | tup rs =>
    rw [q] at sx e
    cases e
    obtain ⟨a, vs, rfl, h1, _⟩ := sx
    rw [ht] at h1
    rcases h1 with h1 | ⟨ob, its, m, hk, hc, _⟩
    · exact rd_ty h1 (fun z => .base (.tup z)) fun o z => .fTuple z
    · exact .kTuple hk hc
  | dct ks rs =>
    rw [q] at sx e
    cases e
    obtain ⟨a, kvs, rfl, h1, _⟩ := sx
    exact rd_ty h1 (fun z => .base (.dK z)) fun o z => .fDict z
  | obj c rs => rw [q] at e; cases e
  | no => rw [q] at e; cases e
theorem e_isi {e : Expr} {T : String} {n : Str} {p2 : Pos} (ht : t.K = X.K) (hg : Gl X "isinstance") (hm : X.mg "isinstance" = none) (he : PE X e (tE t W fe)) (hgT : Gl X n) (hmT : X.mg n = none) (hv : bootBuiltins n = some (.type T))
    (hn : n ≠ "__name__" := by decide) (hd : (n == ("__debug__" : Str)) = false := by decide)
    (hs : starEach [e, .Name n p2] X.env = (false, eval e X.env) :: starEach [.Name n p2] X.env := by rfl) (hpl : (backTo pos (starEach [.Name n p2] X.env)).any (·.1) = false := by rfl) :
    PE X (.Call (.Name "isinstance" p) [e, .Name n p2] [] pos) (tE t W (eIsi T fe)) :=
  PE.imp (pe_callB call_isi hg hm (by decide +kernel) (pa_cons he (pa_cons (pe_bltn (v := .ty T) hgT hmT hv rfl hn hd) pa_nil) hs) (by decide) (by decide) hs hpl) fun σ H Q h => by
    obtain ⟨ads, F, env, M, fr, h⟩ := h
    refine Fr.bind fr h fun ads1 F1 M1 v H1 fr1 _ r pr k => ?_
    cases q : tyName (vw M1 r) with
    | none => simp only [q] at k; exact k.elim
    | some n1 =>
      simp only [q] at k
      cases q2 : kitB n1 T with
      | none => simp only [q2] at k; exact k.elim
      | some b =>
        simp only [q2] at k
        exact ⟨v, .ty T, .type n1, .type T, b, rfl, .ty T, tyX_ok ht fr1.rel pr q, kit_ty q2, okB fr1.rel k⟩
/-! a module's name -/
theorem e_glob {v : V} {u : Value} {d : D} (hg : Gl X x) (hm : X.mg x = some u) (r : RelV v u) (hi : ∀ F, Is t F d v) (hd : (x == ("__debug__" : Str)) = false := by decide) : PE X (.Name x pos) (tE t W (eLit d)) := lit_of hi (pe_glob hg hm r hd)
end
section
variable {t : Tx} {W W2 : Wk} {hs : List (Nat × V)} {X : Cx} {tg l : Expr} {g : TG} {sl : List Nat} {f : E} {fg : Tg} {pos p : Pos}
/-! reversed(xs) -/
def srcRev (f : E) : Env → Mem → Ro (List R) := fun env M => (f env M).bind fun r M1 => match r with
  | .d (.tup ds) => .ok (ds.reverse.map .d) M1
  | r => (lstR' r M1).bind fun ds M2 => .ok (ds.reverse.map .d) M2
theorem rev_get {ds : List D} {i : Nat} {r : R} (h : (ds.reverse.map R.d)[i]? = some r) : ∃ d, ds[ds.length - 1 - i]? = some d ∧ r = .d d ∧ i < ds.length := by
  rw [List.getElem?_map] at h
  cases q : ds.reverse[i]? with
  | none => rw [q] at h; cases h
  | some d =>
    rw [q] at h
    cases h
    have hi : i < ds.length := by
      have := (List.getElem?_eq_some_iff.mp q).1
      simpa using this
    rw [List.getElem?_reverse hi] at q
    exact ⟨d, q, rfl, hi⟩
theorem walk_revL {ds : List D} {a : Addr} {vs : List V} {n : Nat} (hn : n = ds.length) (hg : TgOk t W2 hs sl g fg) : Walk t W2 hs g sl fg (ds.reverse.map .d) (Itv t.K a n) (fun _ F => Rd F a (.lst vs) ∧ IsL t F ds vs) where
  mono := fun ads ads' F F' m p => ⟨rd_mon m.ex p.1, IsL.mono m.ex _ p.2⟩
  stop := fun ads F H m p => by
    show n ≤ _
    simp [hn]
  go := fun i ads F H hi m p => by
    have hl := Paired.length (isL_iff.mp p.2)
    simp at hi
    exact ⟨by omega, vs, vs[n - 1 - i]'(by omega), rd_inj m p.1, List.getElem?_eq_getElem (by omega)⟩
  step := fun i r ads F env M σ H x H' D1 e fr hid p y k => by
    obtain ⟨rfl, y⟩ := y
    have hv := y vs (rd_inj fr.rel.ex p.1)
    obtain ⟨d, hd, rfl, hi⟩ := rev_get e
    rw [← hn] at hd
    obtain ⟨v, e2, hd⟩ := pair_get (isL_iff.mp p.2) hd
    rw [hv] at e2
    cases e2
    exact hg σ _ ads F env M (.d d) x D1 fr hid hd k
theorem walk_revT {ds : List D} {a : Addr} {vs : List V} {n : Nat} (hn : n = ds.length) (hg : TgOk t W2 hs sl g fg) : Walk t W2 hs g sl fg (ds.reverse.map .d) (RT.ItvT t.K a n) (fun _ F => SqT t.K F a vs ∧ IsL t F ds vs) where
  mono := fun ads ads' F F' m p => ⟨sqt_mon m.ex p.1, IsL.mono m.ex _ p.2⟩
  stop := fun ads F H m p => by
    show n ≤ _
    simp [hn]
  go := fun i ads F H hi m p => by
    have hl := Paired.length (isL_iff.mp p.2)
    simp at hi
    exact ⟨by omega, vs, vs[n - 1 - i]'(by omega), sqt_mon m p.1, List.getElem?_eq_getElem (by omega)⟩
  step := fun i r ads F env M σ H x H' D1 e fr hid p y k => by
    obtain ⟨rfl, y⟩ := y
    have hv := y vs (sqt_mon fr.rel.ex p.1)
    obtain ⟨d, hd, rfl, hi⟩ := rev_get e
    rw [← hn] at hd
    obtain ⟨v, e2, hd⟩ := pair_get (isL_iff.mp p.2) hd
    rw [hv] at e2
    cases e2
    exact hg σ _ ads F env M (.d d) x D1 fr hid hd k
theorem i_rev (ht : t.K = X.K) (hgl : Gl X "reversed") (hm : X.mg "reversed" = none) (hl : PE X l (tE t W f)) (hg : TgOk t W2 hs sl g fg) (hs' : starEach [l] X.env = (false, eval l X.env) :: starEach [] X.env := by rfl) : PI X tg (.Call (.Name "reversed" p) [l] [] pos) (tI t W W2 hs g sl (srcRev f) fg) :=
  PI.imp (RT.pi_revA hgl hm hl hs') fun σ H R h => by
    refine tI.src (P := IsR t) h fun ads1 F1 env M1 v H1 fr r pr k => ?_
    split at k
    · rename_i as M2 e
      split at e
      · rename_i ds
        cases e
        have pr : Is t F1 (.tup ds) v := pr
        unfold Is at pr
        obtain ⟨a, vs, rfl, h1, h2⟩ := pr
        have hn := Paired.length (isL_iff.mp h2)
        exact ⟨a, vs, rfl, .inr ⟨ht ▸ sqt_mon fr.rel.ex h1, ht ▸ k _ _ _ _ _ .refl fr (walk_revT (vs := vs) hn.symm hg) ⟨h1, h2⟩⟩⟩
      · refine lst_still fr pr e (fun ds F' M' a vs s fr' ev h1 h2 e => ?_) fun e => by cases e
        cases e
        have hn := Paired.length (isL_iff.mp h2)
        exact ⟨a, vs, ev, .inl ⟨ht ▸ rd_inj fr'.rel.ex h1, ht ▸ k _ _ _ _ _ s fr' (walk_revL (vs := vs) hn.symm hg) ⟨h1, h2⟩⟩⟩
    · rename_i e
      exfalso
      split at e
      · cases e
      · exact lst_still fr pr e (fun ds F' M' a vs s fr' ev h1 h2 e => by cases e) fun e => by cases e
    · exact k.elim
/-! xs[::-1] -/
def eRevL (cell : Bool) (f : E) : E := fun env M => (f env M).bind fun r M1 => match vw M1 r with
  | .lst rs => mk cell (.lst rs.reverse) M1
  | _ => .no
theorem e_revL {e : Expr} {k : Nat} {cell : Bool} {p1 p2 p3 : Pos} (h : PE X e (tE t W f)) : PE X (.Subscript e (.Slice none none (some (.UnaryOp .USub (.Constant (.int 1) k p1) p2)) p3) pos) (tE t W (eRevL cell f)) := PE.imp (pe_revL h) fun σ H Q h => by
  obtain ⟨ads, F, env, M, fr, h⟩ := h
  refine Fr.bind fr h fun ads1 F1 M1 v H1 fr1 _ r pr k => ?_
  have sx := fr1.rel.view pr
  split at k
  · rename_i rs q
    rw [q] at sx
    obtain ⟨a, vs, rfl, h1, h2⟩ := sx
    exact ⟨a, vs, rfl, .inl h1, fun p hp => Kg.made fr1.rel hp (newL (pair_rev h2)) k⟩
  · exact k.elim
end
end Lc
set_option Elab.async false
set_option linter.all false
set_option maxRecDepth 100000
set_option maxHeartbeats 4000000
/-! Texts apart and together. -/
namespace Lc
open PySem PySem.Spec PyProof.Rows L2 LcX
/-- s.split(c), c one sign -/
def splitT (c : Nat) : T → List T
  | [] => [[]]
  | x :: xs => if x = c then [] :: splitT c xs else match splitT c xs with
    | p :: ps => (x :: p) :: ps
    | [] => [[x]]
def joinT (sep : T) : List T → T
  | [] => []
  | [x] => x
  | x :: y :: r => x ++ sep ++ joinT sep (y :: r)
theorem splitT_ne (c : Nat) (s : T) : splitT c s ≠ [] := by
  cases s with
  | nil => simp [splitT]
  | cons x xs =>
    unfold splitT
    split
    · simp
    · split <;> simp
theorem splitT_free {c : Nat} : ∀ {s : T}, c ∉ s → splitT c s = [s]
  | [], _ => rfl
  | x :: xs, h => by
    have h1 : x ≠ c := fun e => h (by rw [e]; exact List.mem_cons_self)
    unfold splitT
    rw [if_neg h1, splitT_free fun z => h (List.mem_cons_of_mem _ z)]
theorem splitT_app {c : Nat} {b : T} : ∀ {a : T}, c ∉ a → splitT c (a ++ c :: b) = a :: splitT c b
  | [], _ => by simp [splitT]
  | x :: xs, h => by
    have h1 : x ≠ c := fun e => h (by rw [e]; exact List.mem_cons_self)
    show (if x = c then [] :: splitT c (xs ++ c :: b) else match splitT c (xs ++ c :: b) with
      | p :: ps => (x :: p) :: ps
      | [] => [[x]]) = _
    rw [if_neg h1, splitT_app fun z => h (List.mem_cons_of_mem _ z)]
theorem splitT_join {c : Nat} : ∀ {ps : List T}, ps ≠ [] → (∀ p ∈ ps, c ∉ p) → splitT c (joinT [c] ps) = ps
  | [], h, _ => absurd rfl h
  | [x], _, h => splitT_free (h x List.mem_cons_self)
  | x :: y :: r, _, h => by
    show splitT c (x ++ [c] ++ joinT [c] (y :: r)) = _
    rw [List.append_assoc]
    show splitT c (x ++ c :: joinT [c] (y :: r)) = _
    rw [splitT_app (h x List.mem_cons_self), splitT_join (by simp) fun p hp => h p (List.mem_cons_of_mem _ hp)]
theorem splitT_mem {c : Nat} : ∀ {s : T} {p : T}, p ∈ splitT c s → p.length ≤ s.length ∧ ∀ x ∈ p, x ∈ s
  | [], p, h => by
    have : p = [] := by simpa [splitT] using h
    subst this
    simp
  | x :: xs, p, h => by
    unfold splitT at h
    split at h
    · rcases List.mem_cons.mp h with rfl | h
      · simp
      · obtain ⟨h1, h2⟩ := splitT_mem h
        exact ⟨Nat.le_succ_of_le h1, fun y hy => List.mem_cons_of_mem _ (h2 y hy)⟩
    · cases q : splitT c xs with
      | nil => exact absurd q (splitT_ne c xs)
      | cons p0 ps =>
        rw [q] at h
        simp only at h
        rcases List.mem_cons.mp h with rfl | h
        · obtain ⟨h1, h2⟩ := splitT_mem (c := c) (s := xs) (p := p0) (by rw [q]; exact List.mem_cons_self)
          refine ⟨Nat.succ_le_succ h1, fun y hy => ?_⟩
          rcases List.mem_cons.mp hy with rfl | hy
          · exact List.mem_cons_self
          · exact List.mem_cons_of_mem _ (h2 y hy)
        · obtain ⟨h1, h2⟩ := splitT_mem (c := c) (s := xs) (p := p) (by rw [q]; exact List.mem_cons_of_mem _ h)
          exact ⟨Nat.le_succ_of_le h1, fun y hy => List.mem_cons_of_mem _ (h2 y hy)⟩
theorem splitT_len {c : Nat} : ∀ {s : T}, (splitT c s).length ≤ s.length + 1
  | [] => by simp [splitT]
  | x :: xs => by
    have ih := splitT_len (c := c) (s := xs)
    unfold splitT
    split
    · simpa using ih
    · cases q : splitT c xs with
      | nil => exact absurd q (splitT_ne c xs)
      | cons p0 ps =>
        rw [q] at ih
        simp only [List.length_cons] at ih ⊢
        omega
open StrLaws Builtin.Str in
theorem parts_eq (s : T) (c : Nat) : ∀ (cuts : List Nat) (a f : Nat), a ≤ s.length → ChainG (st s) (st [c]) (st s).length a cuts f → (∀ k, f ≤ k → ¬ StrLaws.At (st s) (st [c]) (st s).length k) → partsFrom (st s) 1 a cuts = (splitT c (s.drop a)).map st := by
  have sub : ∀ a b, strSub (st s) a b = st ((s.drop a).take (b - a)) := fun a b => by
    have h := strSub_toList (st s) a b
    have e : (st s).cps.toList = s := by simp [st]
    rw [e] at h
    rw [← h]
    exact (st_of _).symm
  have free : ∀ a b, b ≤ s.length → (∀ k, a ≤ k → k < b → ¬ StrLaws.At (st s) (st [c]) (st s).length k) → c ∉ (s.drop a).take (b - a) := fun a b hb hn => by
    have h := part_free (st s) c a b (by rw [st_len]; exact hb) hn
    rw [sub] at h
    simpa [st] using h
  intro cuts
  induction cuts with
  | nil =>
    intro a f ha h hn
    have e : f = a := h
    subst e
    have h1 := free f s.length (Nat.le_refl _) fun k hk _ => hn k hk
    rw [List.take_of_length_le (by simp)] at h1
    show [strSub (st s) f (st s).length] = _
    rw [sub, st_len, List.take_of_length_le (by simp), splitT_free h1]
    rfl
  | cons k r ih =>
    intro a f ha h hn
    obtain ⟨h1, h2, h3, h4⟩ := h
    have hk : k + 1 ≤ s.length := by
      have := h2.1
      rw [st_len] at this
      simpa [st_len] using this
    have hat : s[k]? = some c := by
      have := h2.2
      rw [subAt_eq] at this
      have := eq_of_beq this
      have e : (st s).cps.toList = s := by simp [st]
      have e2 : (st [c]).cps.toList = [c] := by simp [st]
      rw [e, e2, st_len] at this
      have z : ((s.drop k).take 1)[0]? = some c := by
        show ((s.drop k).take [c].length)[0]? = some c
        rw [this]
        rfl
      rw [List.getElem?_take_of_lt (by omega), List.getElem?_drop] at z
      simpa using z
    have hfree := free a k (by omega) fun j hj hj2 => h3 j hj hj2
    have e3 : s.drop a = (s.drop a).take (k - a) ++ c :: s.drop (k + 1) := by
      have e4 : (s.drop a).drop (k - a) = c :: s.drop (k + 1) := by
        rw [List.drop_drop, show a + (k - a) = k from by omega]
        have hlt : k < s.length := by omega
        rw [List.drop_eq_getElem_cons hlt]
        have : s[k] = c := by
          rw [List.getElem?_eq_getElem hlt] at hat
          exact Option.some.inj hat
        rw [this]
      rw [← e4, List.take_append_drop]
    show strSub (st s) a k :: partsFrom (st s) 1 (k + 1) r = _
    rw [ih (k + 1) f hk h4 hn, sub]
    conv => rhs; rw [e3]
    rw [splitT_app hfree]
    rfl
open StrLaws Builtin.Str in
theorem split_eq (s : T) (c : Nat) : Txt.split (st s) (st [c]) = (splitT c s).map st := by
  obtain ⟨f, h1, h2⟩ := occ_tight (st s) (st [c]) (by rw [st_len]; simp)
  have main := parts_eq s c _ 0 f (Nat.zero_le _) h1 h2
  rw [← partsBetween_eq, List.drop_zero] at main
  have none_at : (occurrences (st s) (st [c]) 0 (st s).length ((st s).length + 1)).isEmpty = true → [st s] = (splitT c s).map st := fun e => by
    rw [List.isEmpty_iff.mp e, partsBetween_eq] at main
    rw [← main]
    show _ = [strSub (st s) 0 (st s).length]
    have h := strSub_toList (st s) 0 (st s).length
    rw [List.drop_zero, List.take_of_length_le (by simp [Str.length])] at h
    congr 1
    have z := congrArg st h
    rw [st_of, st_of] at z
    exact z.symm
  unfold Txt.split
  split
  · rename_i cnd
    refine none_at ?_
    cases q : occurrences (st s) (st [c]) 0 (st s).length ((st s).length + 1) with
    | nil => rfl
    | cons i r =>
      exfalso
      have hi := occ_spec (st s) (st [c]) 0 (st s).length ((st s).length + 1) i (by rw [q]; exact List.mem_cons_self)
      obtain ⟨l1, l2⟩ := hi
      have hmem : c ∈ s := by
        rw [subAt_eq] at l2
        have := eq_of_beq l2
        have e : (st s).cps.toList = s := by simp [st]
        have e2 : (st [c]).cps.toList = [c] := by simp [st]
        rw [e, e2, st_len] at this
        have z : c ∈ (s.drop i).take [c].length := by rw [this]; simp
        exact List.mem_of_mem_drop (List.mem_of_mem_take z)
      simp only [Bool.or_eq_true, decide_eq_true_eq] at cnd
      rcases cnd with cnd | cnd
      · rw [st_len, st_len] at cnd
        have : 0 < s.length := List.length_pos_of_mem hmem
        simp only [List.length_singleton] at cnd
        omega
      · have kk : ∀ n : Nat, (st s).cps.all (· < n) = true → (st [c]).cps.all (· < n) = true := fun n h => by
          simp [st] at h ⊢
          exact h c hmem
        unfold Builtin.Str.strKind at cnd
        by_cases c1 : ((st s).cps.all fun x => decide (x < 256)) = true
        · rw [if_pos c1, if_pos (kk 256 c1)] at cnd
          omega
        · rw [if_neg c1] at cnd
          by_cases c2 : ((st s).cps.all fun x => decide (x < 65536)) = true
          · rw [if_pos c2] at cnd
            split at cnd
            · omega
            · rw [if_pos (kk 65536 c2)] at cnd
              omega
          · rw [if_neg c2] at cnd
            split at cnd <;> (try omega)
            split at cnd <;> omega
  · split
    · rename_i cnd
      exact none_at cnd
    · rw [← main, st_len]
      rfl
theorem tOk_part {c : Nat} {s p : T} (h : tOk s) (hp : p ∈ splitT c s) : tOk p := by
  obtain ⟨h1, h2⟩ := splitT_mem hp
  exact ⟨Nat.le_trans h1 h.1, fun x hx => h.2 x (h2 x hx)⟩
def okB' (s : T) : Bool := decide (s.length ≤ SL) && s.all fun c => decide (c < 0x110000)
theorem okB'_ok {s : T} (h : okB' s = true) : tOk s := by
  unfold okB' at h
  simp only [Bool.and_eq_true, decide_eq_true_eq] at h
  refine ⟨h.1, ?_⟩
  intro c hc
  have z := List.all_eq_true.mp h.2 c hc
  simpa using z
def strsD (ss : List T) : List D := ss.map .str
section
variable {t : Tx} {X : Cx}
theorem isRs_strs {F : Hp} {ads : List Addr} : ∀ {ss : List T}, (∀ s ∈ ss, tOk s) → IsRs t F ads ((strsD ss).map .d) ((ss.map st).map V.str)
  | [], _ => .nil
  | s :: ss, h => .cons (isS (t := t) F (h s List.mem_cons_self)) (isRs_strs fun x hx => h x (List.mem_cons_of_mem _ hx))
/-- s.split(c) -/
def mSplit (cell : Bool) : List R → Mem → Ro R := g2 fun o x M => match vw M o, vw M x with
  | .str s, .str [c] => if s.length + 2 ≤ SL then mk cell (.lst ((strsD (splitT c s)).map .d)) M else .no
  | _, _ => .no
theorem m_split {cell : Bool} : MtR X "str.split" (rMD t (mSplit cell)) := by
  intro pins s σ H v vs u us Q I rv rvs h
  obtain ⟨W, ads, F, M, r, r2, v, v2, e, Rr, hr, hr2, k⟩ := rDs_two h
  cases e
  have sx := Rr.view hr
  have sy := Rr.view hr2
  split at k
  · rename_i z c q q2
    rw [q] at sx
    rw [q2] at sy
    split at k
    · rename_i cc
      refine mt_split pins s σ H _ _ u us Q I rv rvs ⟨st z, st [c], sx.1, by rw [sy.1], by rw [st_len]; rfl, by rw [st_len, ← SL_eq]; exact cc, fun p hp => ?_⟩
      rw [split_eq]
      exact Kg.made Rr hp (newL (isRs_strs fun x hx => tOk_part sx.2 hx)) k
    · exact k.elim
  · exact k.elim
/-- s.split() -/
def wordsT (s : T) : List T := (Txt.words (st s)).map fun z => z.cps.toList
def mWords (cell : Bool) : List R → Mem → Ro R := g1 fun o M => match vw M o with
  | .str s => if s.length + 2 ≤ SL && (wordsT s).all okB' then mk cell (.lst ((strsD (wordsT s)).map .d)) M else .no
  | _ => .no
theorem m_words {cell : Bool} : MtR X "str.split" (rMD t (mWords cell)) := by
  intro pins s σ H v vs u us Q I rv rvs h
  obtain ⟨W, ads, F, M, r, v, e, Rr, hr, k⟩ := rDs_one h
  cases e
  have sx := Rr.view hr
  split at k
  · rename_i z q
    rw [q] at sx
    split at k
    · rename_i cc
      simp only [Bool.and_eq_true, decide_eq_true_eq] at cc
      refine mt_words pins s σ H _ _ u us Q I rv rvs ⟨st z, sx.1, rfl, by rw [st_len, ← SL_eq]; exact cc.1, fun p hp => ?_⟩
      have e : Txt.words (st z) = (wordsT z).map st := by
        unfold wordsT
        rw [List.map_map]
        conv => lhs; rw [← List.map_id (Txt.words (st z))]
        exact List.map_congr_left fun x _ => (st_of x).symm
      rw [e]
      exact Kg.made Rr hp (newL (isRs_strs fun x hx => okB'_ok (List.all_eq_true.mp cc.2 x hx))) k
    · exact k.elim
  · exact k.elim
/-- texts out of data -/
def txtsD : List D → Option (List T)
  | [] => some []
  | .str s :: ds => (txtsD ds).map (s :: ·)
  | _ => none
theorem txtsD_ok {F : Hp} : ∀ {ds : List D} {ss : List T} {vs : List V}, txtsD ds = some ss → IsL t F ds vs → vs = (ss.map st).map V.str ∧ ∀ s ∈ ss, tOk s := by
  intro ds
  induction ds with
  | nil =>
    intro ss vs h k
    cases h
    unfold IsL at k
    subst k
    exact ⟨rfl, fun s hs => by cases hs⟩
  | cons d ds ih =>
    intro ss vs h k
    cases d with
    | str z =>
      unfold txtsD at h
      obtain ⟨l, h1, rfl⟩ := Option.map_eq_some_iff.mp h
      unfold IsL at k
      obtain ⟨v, r, rfl, k1, k2⟩ := k
      unfold Is at k1
      obtain ⟨e1, e2⟩ := ih h1 k2
      refine ⟨by rw [e1, k1.1]; rfl, fun s hs => ?_⟩
      rcases List.mem_cons.mp hs with rfl | hs
      · exact k1.2
      · exact e2 s hs
    | _ => cases h
@[simp] theorem txtsD_strs (ss : List T) : txtsD (strsD ss) = some ss := by
  induction ss with
  | nil => rfl
  | cons s ss ih =>
    have : txtsD (strsD ss) = some ss := ih
    simp [strsD, txtsD] at this ⊢
    exact this
theorem join_eq (sep : T) : ∀ (ss : List T), Txt.join (st sep) (ss.map st) = st (joinT sep ss)
  | [] => by
    show Builtin.Str.glued (st sep) [] = _
    rw [StrLaws.glued_eq_join]
    rfl
  | [x] => by
    show Builtin.Str.glued (st sep) [st x] = _
    rw [StrLaws.glued_eq_join]
    rfl
  | x :: y :: r => by
    have ih := join_eq sep (y :: r)
    have e1 : Txt.join (st sep) ((y :: r).map st) = Str.join (st sep) ((y :: r).map st) := StrLaws.glued_eq_join _ _
    have e2 : Txt.join (st sep) ((x :: y :: r).map st) = Str.join (st sep) ((x :: y :: r).map st) := StrLaws.glued_eq_join _ _
    rw [e2]
    show st x ++ st sep ++ Str.join (st sep) ((y :: r).map st) = _
    rw [← e1, ih, st_append, st_append]
    rfl
theorem joinT_mem {sep : T} {c : Nat} : ∀ {ss : List T}, c ∈ joinT sep ss → c ∈ sep ∨ ∃ s ∈ ss, c ∈ s
  | [], h => by cases h
  | [x], h => .inr ⟨x, List.mem_cons_self, h⟩
  | x :: y :: r, h => by
    have h : c ∈ x ++ sep ++ joinT sep (y :: r) := h
    rcases List.mem_append.mp h with h | h
    · rcases List.mem_append.mp h with h | h
      · exact .inr ⟨x, List.mem_cons_self, h⟩
      · exact .inl h
    · rcases joinT_mem h with h | ⟨s, hs, h⟩
      · exact .inl h
      · exact .inr ⟨s, List.mem_cons_of_mem _ hs, h⟩
theorem joinT_len {sep : T} : ∀ (ss : List T), (joinT sep ss).length ≤ (ss.map (·.length)).sum + ss.length * sep.length
  | [] => by simp [joinT]
  | [x] => by simp [joinT]
  | x :: y :: r => by
    have ih := joinT_len (sep := sep) (y :: r)
    show (x ++ sep ++ joinT sep (y :: r)).length ≤ _
    rw [List.length_append, List.length_append]
    simp only [List.map_cons, List.sum_cons, List.length_cons, Nat.succ_mul] at ih ⊢
    omega
/-- sep.join(xs) -/
def mJoin : List R → Mem → Ro R := g2 fun o x M => match vw M o, pv M x with
  | .str sep, some (.lst ds) => match txtsD ds with
    | some ss => if (ss.map (·.length)).sum + ss.length * sep.length ≤ SL then .ok (.d (.str (joinT sep ss))) M else .no
    | none => .no
  | .str sep, some (.tup ds) => match txtsD ds with
    | some ss => if (ss.map (·.length)).sum + ss.length * sep.length ≤ SL then .ok (.d (.str (joinT sep ss))) M else .no
    | none => .no
  | _, _ => .no
theorem m_join (ht : t.K = X.K) : MtR X "str.join" (rMD t mJoin) := by
  intro pins s σ H v vs u us Q I rv rvs h
  obtain ⟨W, ads, F, M, r, r2, v, v2, e, Rr, hr, hr2, k⟩ := rDs_two h
  cases e
  have sx := Rr.view hr
  have fin : ∀ (sep : T) (ss : List T) (p : Addr), tOk sep → v = .str (st sep) → v2 = .ref p → (SqL X.K H p ((ss.map st).map V.str) ∨ SqT X.K H p ((ss.map st).map V.str)) → (∀ s ∈ ss, tOk s) → (ss.map (·.length)).sum + ss.length * sep.length ≤ SL →
      Kt t W ads F H (.ok (.d (.str (joinT sep ss))) M) Q → wpAny (model X.prog X.w) X.A (PySem.call (.builtin "str.join") (u :: us)) (EP X pins σ Q) X.xe s := fun sep ss p hs ev ev2 hq ho hl k => by
    refine L2.mt_join pins s σ H v [v2] u us Q I rv rvs ⟨st sep, p, ss.map st, ev, by rw [ev2], hq, ?_, ?_⟩
    · rw [List.map_map, List.length_map, st_len]
      have : ((fun x : Str => x.length) ∘ st) = fun s : T => s.length := by funext s; exact st_len s
      rw [this]
      exact hl
    · rw [join_eq]
      refine okS Rr ⟨Nat.le_trans (joinT_len ss) hl, fun c hc => ?_⟩ k
      rcases joinT_mem hc with h | ⟨z, hz, h⟩
      · exact hs.2 c h
      · exact (ho z hz).2 c h
  split at k
  · rename_i sep ds q q2
    rw [q] at sx
    have sy := Rr.pv hr2 q2
    unfold Is at sy
    obtain ⟨a, ws, rfl, h1, h2⟩ := sy
    split at k
    · rename_i ss hss
      obtain ⟨e1, e2⟩ := txtsD_ok hss h2
      subst e1
      split at k
      · rename_i c
        exact fin sep ss a sx.2 sx.1 rfl (.inl (.inl h1)) e2 c k
      · exact k.elim
    · exact k.elim
  · rename_i sep ds q q2
    rw [q] at sx
    have sy := Rr.pv hr2 q2
    unfold Is at sy
    obtain ⟨a, ws, rfl, h1, h2⟩ := sy
    rw [ht] at h1
    split at k
    · rename_i ss hss
      obtain ⟨e1, e2⟩ := txtsD_ok hss h2
      subst e1
      split at k
      · rename_i c
        exact fin sep ss a sx.2 sx.1 rfl (.inr h1) e2 c k
      · exact k.elim
    · exact k.elim
  · exact k.elim
end
end Lc
set_option Elab.async false
set_option linter.all false
set_option maxRecDepth 100000
set_option maxHeartbeats 4000000
/-! Exceptions: their classes made, whatever is handled; their fields read in a suite. -/
namespace LcX
open PySem PySem.Spec PyProof.Rows L2
section
variable {Y : Cx} {a C : Addr} {oe : Obj} {cls : Value} {d : Option Addr} {e : Expr} {te : TE} {pos : Pos} {n : Str}
/-- e.n, e the caught exception -/
theorem pe_xa (hp : (a, oe) ∈ Y.pn) (T : XfC Y.K C) (hno : PySem.W.findIn Y.K (.ref C) n = some none) (hz : Zc cls d oe) (hf : ∃ vs, oe.data = .fields vs) (he : PE Y e te) (hb : attributeBase e n Y.env (eval e Y.env) = eval e Y.env := by rfl) :
    PE Y (.Attribute e n pos) (tXf a cls d C n te) := by
  refine ⟨fun pins s σ H Q I h => ?_⟩
  refine attr_of hb (thn (he.run pins s σ H _ I h) fun u s1 hh => ?_)
  obtain ⟨x, H1, I1, rx, ex, ec, dd, fs, v, ed, ea, l, q⟩ := hh
  subst ex ec ed
  obtain rfl : u = Value.ref a := rx
  have pin := (I1.pin (a, oe) (List.mem_append_left _ hp)).1
  obtain ⟨vs, hd⟩ := hf
  obtain ⟨mA, hns, hr⟩ : ObjOk Y.prog Y.w H1 s1.heap dd (.xd fs) := I1.hok dd _ ea
  obtain ⟨od, ho, hl⟩ := lookIn_ns hns
  obtain ⟨u, hu, ru⟩ := RelO.some_of (v := v) (o := mA n) (by rw [← l]; exact hr n)
  have J : PySem.W.InstAt s1.heap a oe C (some od) := ⟨pin, hz.1, by unfold PySem.W.notCls; rw [hd] <;> rfl, by rw [hz.2]; exact ho⟩
  exact HandSPX.exc_get I1.kIn J T.ga T.gg T.exC (PySem.W.findObj_own T.hdC hno rfl (by rw [hl, hu])) (handed_of ru) ⟨v, H1, I1.tok _, ru, q⟩
end

/-! ### a def that may run whatever is handled, and lets nothing out -/
structure FnF (P : Program) (w : World) (K : PySem.W.Frag) (mg : Str → Option Value) (base : Heap) (k : Nat) (f : Addr) (fd : FuncData) (ps : List Str) (sp : Sp) : Prop where
  len : ∀ vs H Q E, sp vs H Q E → vs.length = ps.length
  run : ∀ (A : Around) (outer : List Env) (s : Shared) (H : Hp) (args : Args) (us : List Value) (vs : List V) (Q : VK), L2H.RoomH k A → Env0 P w K mg base A outer s H → BindsTo s fd args (ps.zip us) → Vals vs us → sp vs H Q E0 →
    codeAny (model P w) A (.call (.ref f) args) (CR CX0 outer P w H s Q E0) s
/-- the context of its body -/
def cxF (P : Program) (w : World) (K : PySem.W.Frag) (mg : Str → Option Value) (base : Heap) (N : List Str) (qual : Str) (scope : Scope) (f : Addr) (cd : Value) (A : Around) (outer : List Env) (s : Shared) (H : Hp) : Cx :=
  { cxOf CX0 P w K mg base N qual scope f cd A outer s H E0 with calm := false }
theorem inv_F {P : Program} {w : World} {K : PySem.W.Frag} {mg : Str → Option Value} {base : Heap} {N ps : List Str} {qual : Str} {scope : Scope} {f : Addr} {cd : Value} {A : Around} {outer : List Env} {s s1 : Shared} {H : Hp} {us : List Value} {vs : List V}
    (S : FnScope N ps scope) (e0 : Env0 P w K mg base A outer s H) (hl : vs.length = ps.length) (r : Vals vs us)
    (x : InCallC s s.heap.objs.size (bindL (envOfC qual scope s.heap.objs.size f cd).kindOf (ps.zip us) fun _ => none) (cellsFrom (s.heap.objs.size + 1) scope.names []) (bindC (envOfC qual scope s.heap.objs.size f cd).kindOf (ps.zip us) fun _ => none) s1) :
    Inv (cxF P w K mg base N qual scope f cd A outer s H) [] (start N vs) H s1 := by
  have e1 : Env0 P w K mg base { A with handled := none } outer s H := ⟨e0.frames, e0.mod, e0.bs, e0.bsz, e0.funs, e0.frf, e0.hok, e0.bare⟩
  have J : Inv (cxOf CX0 P w K mg base N qual scope f cd { A with handled := none } outer s H E0) [] (start N vs) H s1 := inv_start S rfl e1 hl r x
  exact ⟨⟨J.ok.mod, J.ok.kind, J.ok.glob, J.ok.blt, J.ok.above, J.ok.inj, J.ok.has, J.ok.cab, (fun z => Bool.noConfusion (show false = true from z)), Around.frames_deeper e0.frames, J.ok.stk, J.ok.exf, J.ok.bs, J.ok.bsz, J.ok.noex, J.ok.exfs, J.ok.funs, J.ok.frf⟩,
    J.os, J.bare, J.base, J.loc, J.cell, J.free, J.freeC, J.pin, J.hok, J.len⟩
theorem fnF_of {P : Program} {w : World} {K : PySem.W.Frag} {mg : Str → Option Value} {base : Heap} {k : Nat} {f : Addr} {name qual : Str} {params : Arguments} {body : List Stmt} {scope : Scope} {dV kV doc pm cdv ct oc : Value} {an od : Option Addr}
    {osl : Array (Option Value)} {N ps : List Str} {sp : Sp} (lk : K.lookup f = some ⟨oc, od, .func (PySem.W.fnOf name qual params body scope dV kV doc pm an cdv ct), osl⟩) (hcd : PySem.W.codeIn K cdv qual = true) (S : FnScope N ps scope)
    (len : ∀ vs H Q E, sp vs H Q E → vs.length = ps.length)
    (hbody : ∀ (A : Around) (outer : List Env) (s : Shared) (H : Hp) (vs : List V) (Q : VK), L2H.RoomH k (A.deeper (envOfC qual scope s.heap.objs.size f cdv)) → sp vs H Q E0 →
      ∃ t, PSs (cxF P w K mg base N qual scope f cdv A outer s H) body t ∧ t { nx := fun _ Hx => Q .non Hx, rt := Q } (start N vs) H) :
    FnF P w K mg base (k + 1) f (PySem.W.fnOf name qual params body scope dV kV doc pm an cdv ct) ps sp := by
  refine ⟨len, fun A outer s H args us vs Q hr e0 hb r hsp => ?_⟩
  have hl := len _ _ _ _ hsp
  have KX : K.In s.heap := e0.mod.kin.keeps fun b o e => (e0.bs b o e).1
  have lim : s.heap.NoLimit := e0.mod.nolimit.keeps fun b o e => (e0.bs b o e).1
  have hk : ∀ y ∈ ps.zip us, scope.names.lookup y.1 = some .local ∨ (scope.names.lookup y.1 = some .cell ∧ ((cellsFrom (s.heap.objs.size + 1) scope.names []).lookup y.1).isSome = true) := by
    rintro ⟨n, v⟩ hy
    rcases S.par n (List.of_mem_zip hy).1 with q | q
    · exact .inl q
    · exact .inr ⟨q, PySem.W.cellsFrom_some _ _ _ (.inl q)⟩
  refine codeAny_call_function hr.depth (KX _ _ lk) rfl S.co S.gen rfl (PySem.W.codeRec_of KX hcd) (hb _ _ _ _ ?_)
  refine wpAny_newFunctionEnv_cells S.kind hk fun env he s1 x => ?_
  subst he
  refine ⟨lim.keeps x.toInCall.keep, codeAny_func ?_⟩
  obtain ⟨t, ht, hq⟩ := hbody A outer s H vs Q (hr.deeper _) hsp
  have I : Inv (cxF P w K mg base N qual scope f cdv A outer s H) [] (start N vs) H s1 := inv_F S e0 hl r x
  refine wpAny_mono (ht.run [] s1 (start N vs) H _ I hq) (fun fl sx hs => ?_) fun e sx hs => hs
  have fin : ∀ {σ2 : L2.St} {H2 : Hp} {v : V} {u : Value}, Inv (cxF P w K mg base N qual scope f cdv A outer s H) [] σ2 H2 sx → RelV v u → Q v H2 → CE outer P w H s Q u sx :=
    fun {σ2 H2 v u} J rv q => ⟨v, H2, J.os, J.bare, J.base, J.hok, rv, q⟩
  cases fl with
  | ret u =>
    obtain ⟨v, σ2, H2, J, rv, q⟩ := hs
    exact fin J rv q
  | next =>
    obtain ⟨σ2, H2, J, q⟩ := hs
    exact fin (v := V.non) (u := Value.none) J rfl q
  | brk =>
    obtain ⟨_, _, _, q⟩ := hs
    exact False.elim q
  | cont =>
    obtain ⟨_, _, _, q⟩ := hs
    exact False.elim q

/-! ### C(e, ..) -/
/-- C(e, ..): an exception that bears a dict -/
def tMkX (C : Addr) (sp : Sp) (ta : TA) : L2.St → Hp → XK → Prop := fun σ H Q => ta σ H fun vs H1 => vs.length ≤ 1000 ∧ ∀ a, H1 a = none → sp (.ref a :: vs) (upd H1 a (exo a C none))
  (fun v H2 => v = .non ∧ ∃ (d : Addr) (fs : List (Str × V)), H2 a = some (exo a C (some d)) ∧ H2 d = some (exd d fs) ∧ H1 d = none ∧ Q (.ref C) (some d) (upd (del H2 a) d (.xd fs))) E0
theorem pmkX {X : Cx} {x : Str} {e : Expr} {es : List Expr} {ta : TA} {p pos : Pos} {C fI : Addr} {k : Nat} {fd : FuncData} {ps : List Str} {sp : Sp} (T : OexC X.K C) (iC : PySem.W.findIn X.K (.ref C) "__init__" = some (some (.ref fI))) (tI : PySem.W.typeIn X.K (.ref fI) = some (.type "function"))
    (F1 : FnF X.prog X.w X.K X.mg X.base k fI fd ps sp) (hr : L2H.RoomH (k + 1) X.A) (hb : Binds X.K fd ps []) (hg : Gl X x) (hm : X.mg x = some (.ref C)) (ha : PA X (e :: es) ta)
    (hdb : (x == ("__debug__" : Str)) = false := by decide) (he : starEach (e :: es) X.env = (false, eval e X.env) :: starEach es X.env := by rfl) (hpl : (backTo pos (starEach es X.env)).any (·.1) = false := by rfl) :
    L2N.PMk X (.Call (.Name x p) (e :: es) [] pos) (tMkX C sp ta) := by
  intro pins s σ H Q I h
  obtain ⟨nm, q, N, bs, bm, sn, sub, ab, col, dd, k0, k1, k2, k3, k5, hC, hbm⟩ := T.cls
  refine wpAny_Call_Name_kw (ld_glob I hg hm ?_ hdb)
  refine PySem.W.callWith_K (h₀ := X.base) I.ok.mod.kin T.kC (thn (ha.run pos pins s σ H _ I h) fun us s1 hh => ?_) he hpl
  obtain ⟨vs, H1, I1, r1, hz, q1⟩ := hh
  refine ⟨I1.kIn, ?_⟩
  show wpAny _ _ (call (.ref C) us) _ _ _
  obtain ⟨hp, g, dr, tk, os⟩ := s1
  have hsz : hp.objs.size ≤ hp.objs.size + 1 := Nat.le_succ _
  have hq := q1 (hp.objs.size + 1) (I1.hok.fresh hsz)
  have keep2 : ∀ b o, hp.get? b = some o → ((hp.push (PySem.W.kdv_tup us)).push (PySem.HandSPX.excO C hp.objs.size)).get? b = some o := fun b o e => Heap.get?_push_of_some _ (Heap.get?_push_of_some _ e)
  have there : ((hp.push (PySem.W.kdv_tup us)).push (PySem.HandSPX.excO C hp.objs.size)).get? (hp.objs.size + 1) = some (PySem.HandSPX.excO C hp.objs.size) := by heap_get
  have I2 : Inv X pins σ (upd H1 (hp.objs.size + 1) (exo (hp.objs.size + 1) C none)) ⟨(hp.push (PySem.W.kdv_tup us)).push (PySem.HandSPX.excO C hp.objs.size), g, dr, tk, os⟩ :=
    I1.laid (t' := tk) (a := hp.objs.size + 1) (o := exo (hp.objs.size + 1) C none) (h' := (hp.push (PySem.W.kdv_tup us)).push (PySem.HandSPX.excO C hp.objs.size)) keep2 hsz (exo_ok there)
  have r2 : Vals (V.ref (hp.objs.size + 1) :: vs) (Value.ref (hp.objs.size + 1) :: us) := .cons rfl r1
  have hl : (Value.ref (hp.objs.size + 1) :: us ++ []).length = ps.length := by
    have e := r2.length
    rw [F1.len _ _ _ _ hq] at e
    rw [List.append_nil]
    exact e.symm
  have hus : us.length ≤ sizeLine := by
    rw [← Paired.length r1, sizeLine_eq]
    omega
  have b2 := hb _ (Value.ref (hp.objs.size + 1) :: us) I2.kIn hl
  rw [List.append_nil] at b2
  have hr2 : L2H.RoomH k (X.A.under (.builtin "type.__call__" ⟨.ref C :: us, []⟩)) := ⟨by have := hr.dp; rw [make_depth]; omega, by have := hr.un; rw [make_units]; omega⟩
  refine wpAny_call (PySem.HandSPX.call_own F.excBase_ValueError (fun Y => PySem.HandSPX.refsVE_contains Y bm hbm) (I1.kIn _ _ hC) (PySem.W.looks_findIn I1.kIn iC) (fun self => PySem.W.bind_fn I1.kIn self tI) hus
    (codeAny_mono (F1.run _ X.stack _ _ ⟨Value.ref (hp.objs.size + 1) :: us, []⟩ (Value.ref (hp.objs.size + 1) :: us) _ _ hr2 (I2.env0.make C us []) b2 r2 hq) fun r sx hq2 => ?_))
  cases r with
  | error er => exact (show False from hq2).elim
  | ok fl =>
    cases fl with
    | ret u =>
      obtain ⟨v, H2, os2, bare2, un2, hok2, rv, ev, d, fs, ea, ed, hd1, q2⟩ := hq2
      subst ev
      obtain ⟨h2, g2, d2, t2, os3⟩ := sx
      obtain ⟨t0, G, J, kG, ge, hoe, na⟩ := mk_end0 (d2 := d2) (t2 := t2) I1 hsz keep2 un2 hok2 os2 bare2 ea ed hd1
      exact ⟨rv, hp.objs.size + 1, _, _, ⟨G, g2, d2, t2, os3⟩, _, .ref C, some d, rfl, J, kG, ge, hoe, ⟨rfl, rfl, fun ws hv => by cases hv; rfl⟩, rfl, rfl, na, rfl, bare2, raises_own T.exC T.tyC, q2⟩
    | next => exact False.elim hq2
    | brk => exact False.elim hq2
    | cont => exact False.elim hq2

/-! ### Base.__init__(self, text) -/
section
variable {X : Cx} {x : Str} {CL : Addr} {e : Expr} {es : List Expr} {ta : TA} {p1 p2 pos : Pos} {pl : Sem Bool}
theorem pe_binit (hg : Gl X x) (hm : X.mg x = some (.ref CL)) (hga : PySem.W.specialIn X.K (.ref CL) "__getattribute__" = some (some (.builtin "type.__getattribute__"))) (rd : PySem.W.readsIn X.K CL (.type "type") = true)
    (fc : PySem.W.findCls X.K (.ref CL) (.type "type") "__init__" = some (.val (.builtin "ValueError.__init__"))) (ha : PA X (e :: es) ta) (hdb : (x == ("__debug__" : Str)) = false := by decide)
    (hc : eval (.Call (.Attribute (.Name x p1) "__init__" p2) (e :: es) [] pos) X.env = (do
      let ov ← eval (.Name x p1) X.env
      standAt p2.atName
      let (f, first) ← holding [ov] (getMethod ov "__init__" pl)
      callWith pos f first (backTo pos (starEach (e :: es) X.env)) (backToKw pos (keywordEach [] X.env))) := by rfl)
    (he : starEach (e :: es) X.env = (false, eval e X.env) :: starEach es X.env := by rfl) (hpl : (backTo pos (starEach es X.env)).any (·.1) = false := by rfl) :
    PE X (.Call (.Attribute (.Name x p1) "__init__" p2) (e :: es) [] pos) (tVeI X.K ta) := by
  refine ⟨fun pins s σ H Q I h => ?_⟩
  refine PySem.W.methodCall_KW (ld_glob I hg hm ?_ hdb) hc
  refine PySem.W.method_cls I.kIn hga (PySem.W.cls_value I.kIn rd fc (by decide +kernel) ?_)
  show wpAny _ _ (callWith pos (Value.builtin "ValueError.__init__") [] (backTo pos (starEach (e :: es) X.env)) []) _ _ _
  refine PyProof.Rows.callWith_method1 (thn (ha.run pos pins _ σ H _ (I.tok _) h) fun us s1 hh => ?_) he hpl
  obtain ⟨vs, H1, I1, r1, a, C, ws, ev, hl, T, ea, q⟩ := hh
  subst ev
  cases r1 with
  | @cons _ u0 _ ur ra rw2 =>
    obtain rfl : u0 = Value.ref a := ra
    have hlen : ur.length ≤ sizeLine := by
      rw [← Paired.length rw2, sizeLine_eq]
      omega
    exact oinit_ok T I1 ea hlen fun sx J => ⟨.non, H1, J, rfl, q⟩
end

/-! ### the texts of errors: some text of no great length -/
/-- a value that an error's text may show -/
def Shown (K : PySem.W.Frag) (H : Hp) (v : V) : Prop :=
  (∃ y : Str, v = .str y ∧ y.length ≤ 10000) ∨ (∃ i : Int, v = .int i ∧ i.natAbs.log2 < 1920) ∨ ∃ (a : Addr) (ns : List Int), v = .ref a ∧ SqT K H a (ns.map V.int) ∧ ns.length ≤ 100 ∧ ∀ n ∈ ns, n.natAbs.log2 < 1920
/-- some text of at most n signs, the heap as it is -/
def Txs (ok : L2.St → Hp → Prop) (n : Nat) : TE := fun σ H Q => ok σ H ∧ ∀ m : Str, m.length ≤ n → Q (.str m) H
theorem repr_ints {prog : Program} {w : World} : ∀ {l : List Int} {its : List Value}, Vals (l.map V.int) its → (∀ y ∈ l, y.natAbs.log2 < 1920) → ReprAll prog w its (l.map fun y => (toString y : String))
  | [], _, r, _ => by
    cases r
    exact .nil
  | y :: l, _, r, h => by
    cases r with
    | cons r1 r2 =>
      obtain ⟨t, rfl⟩ := r1
      exact .cons (ReprIs.int t (h y List.mem_cons_self)) (repr_ints r2 fun z hz => h z (List.mem_cons_of_mem _ hz))
theorem piled_ints : ∀ (l : List Int), (∀ y ∈ l, y.natAbs.log2 < 1920) → piled (l.map fun y => ((toString y : String) : Str)) ≤ 1923 * l.length
  | [], _ => Nat.zero_le _
  | y :: l, h => by
    have h1 := int_text_len_1921 (h y List.mem_cons_self)
    have h2 := piled_ints l fun z hz => h z (List.mem_cons_of_mem _ hz)
    rw [List.map_cons, piled_cons, List.length_cons]
    omega
section
variable {X : Cx} {e : Expr} {pos : Pos} {i : Nat}
/-- {name} -/
theorem pf_name {x : Str} {p : Pos} (hu : X.A.units + 64 < cLine) (he : PE X (.Name x p) (tVar i)) : PE X (.FormattedValue (.Name x p) (-1) none pos) (Txs (fun σ H => ∃ v, σ[i]? = some (some v) ∧ Shown X.K H v) 200000) := by
  refine ⟨fun pins s σ H Q I h => ?_⟩
  obtain ⟨⟨v, hv, sh⟩, q⟩ := h
  refine wpAny_FormattedValue_plain (thn (he.run pins s σ H (fun v1 H1 => v1 = v ∧ H1 = H) I ⟨v, hv, rfl, rfl⟩) fun u s1 hh => ?_)
  obtain ⟨v1, H1, I1, r1, e1, e2⟩ := hh
  subst e1 e2
  rcases sh with ⟨y, rfl, hz⟩ | ⟨n, rfl, hz⟩ | ⟨a, ns, rfl, ht, hl, hn⟩
  · obtain ⟨t, rfl⟩ := r1
    have hs : sizeLine = 16777216 := sizeLine_eq
    exact wpAny_formatField_str ⟨.str y, H1, I1, ⟨t, rfl⟩, q y (by omega)⟩ ⟨.str y, H1, I1.tok _, ⟨_, rfl⟩, q y (by omega)⟩ (by omega)
  · obtain ⟨t, rfl⟩ := r1
    have h1 := int_text_len_1921 hz
    exact wpAny_formatField_int hz ⟨.str (toString n), H1, I1.tok _, ⟨_, rfl⟩, q _ (by omega)⟩
  · cases r1
    obtain ⟨its, rv, ⟨o, ho, hcl, n, hd⟩, _⟩ := I1.tuple ht
    have h1 := piled_ints ns hn
    have h2 := fmt_text (ns.map fun y => ((toString y : String) : Str))
    have hs : sizeLine = 16777216 := sizeLine_eq
    refine fmt_tuple (ts := ns.map fun y => (toString y : String)) (by omega) ho hcl hd (repr_ints rv hn) (by omega) fun m u tk hm => ⟨.str m, H1, I1.tok _, ⟨u, rfl⟩, q m (by omega)⟩
/-- a written part -/
theorem pf_str {x : Str} {j : Nat} (h : x.length ≤ 200000 := by decide +kernel) : PE X (.Constant (.str x) j pos) (Txs (fun _ _ => True) 200000) := by
  refine ⟨fun pins s σ H Q I hw => ?_⟩
  exact pe_str.run pins s σ H Q I (hw.2 x h)
/-- parts, each some text -/
theorem parts_ok {σ : L2.St} : ∀ (oks : List (L2.St → Hp → Prop)) (acc : Str) (H : Hp) (Q : Str → Hp → Prop), (∀ ok ∈ oks, ok σ H) → acc.length + 200000 * oks.length ≤ 1200000 → (∀ m : Str, m.length ≤ 1200000 → Q m H) → tJs (oks.map fun ok => Txs ok 200000) acc σ H Q
  | [], acc, H, Q, _, hl, q => q acc (by simp at hl; omega)
  | ok :: r, acc, H, Q, ho, hl, q => by
    have hl2 : acc.length + 200000 * (r.length + 1) ≤ 1200000 := by simpa using hl
    have hs : sizeLine = 16777216 := sizeLine_eq
    refine ⟨ho ok List.mem_cons_self, fun m hm => ⟨m, rfl, ?_, ?_⟩⟩
    · rw [Str.length_append]
      omega
    · refine parts_ok r (acc ++ m) H Q (fun o h => ho o (List.mem_cons_of_mem _ h)) ?_ q
      rw [Str.length_append]
      omega
theorem pf_join {v1 v2 : Expr} {rest : List Expr} {oks : List (L2.St → Hp → Prop)} (h : PJ X (v1 :: v2 :: rest) (oks.map fun ok => Txs ok 200000)) (hl : oks.length ≤ 6) : PE X (.JoinedStr (v1 :: v2 :: rest) pos) (Txs (fun σ H => ∀ ok ∈ oks, ok σ H) 1200000) := by
  refine ⟨fun pins s σ H Q I hw => ?_⟩
  refine (pe_joined h).run pins s σ H Q I (parts_ok oks Str.empty H _ hw.1 ?_ fun m hm => hw.2 m hm)
  show 0 + _ ≤ _
  omega
theorem pf_join1 {e : Expr} {ok : L2.St → Hp → Prop} (h : PE X e (Txs ok 200000)) : PE X (.JoinedStr [e] pos) (Txs ok 200000) := pe_joined1 h
end
end LcX
set_option Elab.async false
set_option linter.all false
set_option maxRecDepth 100000
set_option maxHeartbeats 4000000
/-! Exceptions: raised, caught. -/
namespace Lc
open PySem PySem.Spec PyProof.Rows L2 LcX
/-- C's __init__ of n arguments, the fields fn -/
def spX (K : PySem.W.Frag) (C : Addr) (fn : List Str) (n : Nat) : Sp := fun vs H Q _ => vs.length = n + 1 ∧ ∃ a args, vs = .ref a :: args ∧ H a = some (exo a C none) ∧ (∀ v ∈ args, Shown K H v) ∧
  ∀ d fs H2, H d = none → d ≠ a → (H2 a = some (exo a C (some d)) ∧ H2 d = some (exd d fs) ∧ ∀ b, b ≠ a → b ≠ d → H2 b = H b) → (∀ (i : Nat) f v, fn[i]? = some f → args[i]? = some v → fs.lookup f = some v) → Q .non H2
section
variable {X : Cx} {C : Addr} {f1 f2 : Str} {e1 e2 e3 s1 s2 : Expr} {st0 st1 st2 : Stmt} {es : List Expr} {v1 v2 : V} {pos pos' pp p1 p2 q1 q2 q3 q4 : Pos} {x : Str}
/-- the body's first row: the text is kept -/
theorem x_row0 {CL : Addr} {js : Expr} {ok : L2.St → Hp → Prop} {n : Nat} (T : OexC X.K C) (hg : Gl X x) (hm : X.mg x = some (.ref CL)) (hga : PySem.W.specialIn X.K (.ref CL) "__getattribute__" = some (some (.builtin "type.__getattribute__"))) (rd : PySem.W.readsIn X.K CL (.type "type") = true)
    (fc : PySem.W.findCls X.K (.ref CL) (.type "type") "__init__" = some (.val (.builtin "ValueError.__init__"))) (hs : PE X e1 (tVar 0)) (hj : PE X js (Txs ok n)) {pl : Sem Bool} (hdb : (x == ("__debug__" : Str)) = false := by decide)
    (hse : starEach [e1, js] X.env = (false, eval e1 X.env) :: starEach [js] X.env := by rfl) (hsj : starEach [js] X.env = (false, eval js X.env) :: starEach [] X.env := by rfl)
    (hc : eval (.Call (.Attribute (.Name x p1) "__init__" p2) [e1, js] [] pos) X.env = (do
      let ov ← eval (.Name x p1) X.env
      standAt p2.atName
      let (f, first) ← holding [ov] (getMethod ov "__init__" pl)
      callWith pos f first (backTo pos (starEach [e1, js] X.env)) (backToKw pos (keywordEach [] X.env))) := by rfl)
    (hpl : (backTo pos (starEach [js] X.env)).any (·.1) = false := by rfl) (hsw : swapsWith (.Call (.Attribute (.Name x p1) "__init__" p2) [e1, js] [] pos) none pos'.line X.env = pure false := by rfl) :
    PS X (.Expr (.Call (.Attribute (.Name x p1) "__init__" p2) [e1, js] [] pos) pos') (fun D σ H => ∃ a, σ[0]? = some (some (.ref a)) ∧ H a = some (exo a C none) ∧ ok σ H ∧ D.nx σ H) :=
  PS.imp (ps_expr (pe_binit (pl := pl) hg hm hga rd fc (pa_cons hs (pa_cons hj pa_nil hsj) hse) hdb hc hse hpl) hsw) fun D σ H h => by
    obtain ⟨a, h0, ha, hk, q⟩ := h
    exact ⟨.ref a, h0, hk, fun m _ => ⟨a, C, [.str m], rfl, by simp, T, ha, q⟩⟩
/-- self.f = arg -/
theorem x_row1 {i : Nat} (T : OexC X.K C) (hno : PySem.W.findIn X.K (.ref C) f1 = some none) (hs : PE X s1 (tVar 0)) (he : PE X e1 (tVar i)) (hsw : swapsWith e1 (some (.Attribute s1 f1 q1)) pos.line X.env = pure false := by rfl) :
    PS X (.Assign [.Attribute s1 f1 q1] e1 pos) (fun D σ H => ∃ a v, σ[0]? = some (some (.ref a)) ∧ σ[i]? = some (some v) ∧ H a = some (exo a C none) ∧ ∀ d, H d = none → d ≠ a → D.nx σ (upd (upd H d (exd d [(f1, v)])) a (exo a C (some d)))) :=
  PS.imp (ps_ost hs he hsw) fun D σ H h => by
    obtain ⟨a, v, h0, h1, ha, q⟩ := h
    exact ⟨v, h1, .ref a, h0, a, C, rfl, T, hno, .inl ⟨ha, q⟩⟩
theorem x_row2 {i : Nat} (T : OexC X.K C) (hno : PySem.W.findIn X.K (.ref C) f1 = some none) (hs : PE X s1 (tVar 0)) (he : PE X e1 (tVar i)) (hsw : swapsWith e1 (some (.Attribute s1 f1 q1)) pos.line X.env = pure false := by rfl) :
    PS X (.Assign [.Attribute s1 f1 q1] e1 pos) (fun D σ H => ∃ a v d fs, σ[0]? = some (some (.ref a)) ∧ σ[i]? = some (some v) ∧ H a = some (exo a C (some d)) ∧ H d = some (exd d fs) ∧ fs.length ≤ 900 ∧ D.nx σ (upd H d (exd d ((f1, v) :: fs)))) :=
  PS.imp (ps_ost hs he hsw) fun D σ H h => by
    obtain ⟨a, v, d, fs, h0, h1, ha, hd, hl, q⟩ := h
    exact ⟨v, h1, .ref a, h0, a, C, rfl, T, hno, .inr ⟨d, fs, ha, hd, hl, q⟩⟩
end
section
variable {P : Program} {w : World} {K : PySem.W.Frag} {mg : Str → Option Value} {base : Heap} {k : Nat} {f C : Addr} {name qual : Str} {params : Arguments} {r0 r1 r2 : Stmt} {scope : Scope} {dV kV doc pm cdv ct oc : Value} {an od : Option Addr} {osl : Array (Option Value)} {f1 f2 a1 a2 sf : Str}
/-- one field -/
theorem x_init1 {ok : L2.St → Hp → Prop} (lk : K.lookup f = some ⟨oc, od, .func (PySem.W.fnOf name qual params [r0, r1] scope dV kV doc pm an cdv ct), osl⟩) (hcd : PySem.W.codeIn K cdv qual = true) (S : FnScope [sf, a1] [sf, a1] scope)
    (h0 : ∀ (A : Around) (outer : List PySem.Env) (s : Shared) (H : Hp), L2H.RoomH k (A.deeper (envOfC qual scope s.heap.objs.size f cdv)) → PS (cxF P w K mg base [sf, a1] qual scope f cdv A outer s H) r0 (fun D σ H => ∃ a, σ[0]? = some (some (.ref a)) ∧ H a = some (exo a C none) ∧ ok σ H ∧ D.nx σ H))
    (h1 : ∀ (A : Around) (outer : List PySem.Env) (s : Shared) (H : Hp), PS (cxF P w K mg base [sf, a1] qual scope f cdv A outer s H) r1 (fun D σ H => ∃ a v, σ[0]? = some (some (.ref a)) ∧ σ[1]? = some (some v) ∧ H a = some (exo a C none) ∧ ∀ d, H d = none → d ≠ a → D.nx σ (upd (upd H d (exd d [(f1, v)])) a (exo a C (some d)))))
    (hok : ∀ (a : Addr) (v : V) (H : Hp), Shown K H v → ok [some (.ref a), some v] H) : FnF P w K mg base (k + 1) f (PySem.W.fnOf name qual params [r0, r1] scope dV kV doc pm an cdv ct) [sf, a1] (spX K C [f1] 1) := by
  refine fnF_of lk hcd S (fun _ _ _ _ h => h.1) fun A outer s H vs Q hr h => ?_
  obtain ⟨hl, a, args, rfl, ha, hsh, q⟩ := h
  obtain ⟨v, rfl⟩ : ∃ v, args = [v] := by
    cases args with
    | nil => simp at hl
    | cons v r =>
      cases r with
      | nil => exact ⟨v, rfl⟩
      | cons _ _ => simp at hl
  refine ⟨_, pss_cons (h0 A outer s H hr) (pss_cons (h1 A outer s H) pss_nil), a, rfl, ha, hok a v H (hsh v List.mem_cons_self), a, v, rfl, rfl, ha, fun d hd ne => ?_⟩
  refine q d [(f1, v)] _ hd ne ⟨upd_same, ?_, fun b h1 h2 => ?_⟩ fun i g u e1 e2 => ?_
  · rw [upd_ne ne, upd_same]
  · rw [upd_ne h1, upd_ne h2]
  · cases i with
    | zero => simp at e1 e2; subst e1 e2; simp [List.lookup]
    | succ i => simp at e1
/-- two fields -/
theorem x_init2 {ok : L2.St → Hp → Prop} (ne12 : f1 ≠ f2) (lk : K.lookup f = some ⟨oc, od, .func (PySem.W.fnOf name qual params [r0, r1, r2] scope dV kV doc pm an cdv ct), osl⟩) (hcd : PySem.W.codeIn K cdv qual = true) (S : FnScope [sf, a1, a2] [sf, a1, a2] scope)
    (h0 : ∀ (A : Around) (outer : List PySem.Env) (s : Shared) (H : Hp), L2H.RoomH k (A.deeper (envOfC qual scope s.heap.objs.size f cdv)) → PS (cxF P w K mg base [sf, a1, a2] qual scope f cdv A outer s H) r0 (fun D σ H => ∃ a, σ[0]? = some (some (.ref a)) ∧ H a = some (exo a C none) ∧ ok σ H ∧ D.nx σ H))
    (h1 : ∀ (A : Around) (outer : List PySem.Env) (s : Shared) (H : Hp), PS (cxF P w K mg base [sf, a1, a2] qual scope f cdv A outer s H) r1 (fun D σ H => ∃ a v, σ[0]? = some (some (.ref a)) ∧ σ[1]? = some (some v) ∧ H a = some (exo a C none) ∧ ∀ d, H d = none → d ≠ a → D.nx σ (upd (upd H d (exd d [(f1, v)])) a (exo a C (some d)))))
    (h2 : ∀ (A : Around) (outer : List PySem.Env) (s : Shared) (H : Hp), PS (cxF P w K mg base [sf, a1, a2] qual scope f cdv A outer s H) r2 (fun D σ H => ∃ a v d fs, σ[0]? = some (some (.ref a)) ∧ σ[2]? = some (some v) ∧ H a = some (exo a C (some d)) ∧ H d = some (exd d fs) ∧ fs.length ≤ 900 ∧ D.nx σ (upd H d (exd d ((f2, v) :: fs)))))
    (hok : ∀ (a : Addr) (v u : V) (H : Hp), Shown K H v → Shown K H u → ok [some (.ref a), some v, some u] H) : FnF P w K mg base (k + 1) f (PySem.W.fnOf name qual params [r0, r1, r2] scope dV kV doc pm an cdv ct) [sf, a1, a2] (spX K C [f1, f2] 2) := by
  refine fnF_of lk hcd S (fun _ _ _ _ h => h.1) fun A outer s H vs Q hr h => ?_
  obtain ⟨hl, a, args, rfl, ha, hsh, q⟩ := h
  obtain ⟨v, u, rfl⟩ : ∃ v u, args = [v, u] := by
    match args, hl with
    | [v, u], _ => exact ⟨v, u, rfl⟩
  refine ⟨_, pss_cons (h0 A outer s H hr) (pss_cons (h1 A outer s H) (pss_cons (h2 A outer s H) pss_nil)), a, rfl, ha, hok a v u H (hsh v (by simp)) (hsh u (by simp)), a, v, rfl, rfl, ha, fun d hd ne => ?_⟩
  refine ⟨a, u, d, [(f1, v)], rfl, rfl, upd_same, by rw [upd_ne ne, upd_same], by simp, ?_⟩
  refine q d [(f2, u), (f1, v)] _ hd ne ⟨?_, upd_same, fun b h1 h2 => ?_⟩ fun i g z e1 e2 => ?_
  · rw [upd_ne (Ne.symm ne), upd_same]
  · rw [upd_ne h2, upd_ne h1, upd_ne h2]
  · have n1 : (f1 == f2) = false := by rw [beq_eq_false_iff_ne]; exact ne12
    match i, e1, e2 with
    | 0, e1, e2 => simp at e1 e2; subst e1 e2; simp [List.lookup, n1]
    | 1, e1, e2 => simp at e1 e2; subst e1 e2; simp [List.lookup]
    | i + 2, e1, e2 => simp at e1
end
/-! ### raise C(..) -/
def smallI (i : Int) : Bool := decide (i.natAbs.log2 < 1920)
def intsD : List D → Option (List Int)
  | [] => some []
  | .int i :: ds => (intsD ds).map (i :: ·)
  | _ => none
@[simp] theorem intsD_map (ns : List Int) : intsD (ns.map .int) = some ns := by
  induction ns with
  | nil => rfl
  | cons n ns ih => simp [intsD, ih]
def shownD : D → Bool
  | .str s => decide (s.length ≤ 10000)
  | .int i => smallI i
  | .tup ds => match intsD ds with
    | some ns => decide (ns.length ≤ 100) && ns.all smallI
    | none => false
  | _ => false
section
variable {t : Tx}
theorem intsD_ok {F : Hp} : ∀ {ds : List D} {ns : List Int} {vs : List V}, intsD ds = some ns → IsL t F ds vs → vs = ns.map V.int := by
  intro ds
  induction ds with
  | nil =>
    intro ns vs h k
    cases h
    unfold IsL at k
    subst k
    rfl
  | cons d ds ih =>
    intro ns vs h k
    cases d with
    | int i =>
      unfold intsD at h
      obtain ⟨l, h1, rfl⟩ := Option.map_eq_some_iff.mp h
      unfold IsL at k
      obtain ⟨v, r, rfl, k1, k2⟩ := k
      unfold Is at k1
      rw [ih h1 k2, k1]
      rfl
    | _ => cases h
theorem shown_ok {F H : Hp} {d : D} {v : V} (m : Fx F H) (h : Is t F d v) (e : shownD d = true) : Shown t.K H v := by
  cases d with
  | str s =>
    unfold Is at h
    exact .inl ⟨st s, h.1, by rw [st_len]; simpa [shownD] using e⟩
  | int i =>
    unfold Is at h
    exact .inr (.inl ⟨i, h, by simpa [shownD, smallI] using e⟩)
  | tup ds =>
    unfold Is at h
    obtain ⟨a, vs, rfl, h1, h2⟩ := h
    unfold shownD at e
    cases q : intsD ds with
    | none => simp only [q] at e; cases e
    | some ns =>
      simp only [q, Bool.and_eq_true, decide_eq_true_eq] at e
      have ev := intsD_ok q h2
      subst ev
      refine .inr (.inr ⟨a, ns, rfl, sqt_mon m h1, e.1, fun n hn => ?_⟩)
      have z := List.all_eq_true.mp e.2 n hn
      simpa [smallI] using z
  | _ => cases e
/-- a class of exceptions, as it can be raised -/
structure XCls (t : Tx) (P : Program) (w : World) (K : PySem.W.Frag) (mg : Str → Option Value) (base : Heap) (c n k : Nat) : Prop where
  T : OexC K (t.xad c)
  fl : (t.xfn c).length = n
  pos : 0 < n
  few : n ≤ 5
  ini : ∃ fI fd ps, PySem.W.findIn K (.ref (t.xad c)) "__init__" = some (some (.ref fI)) ∧ PySem.W.typeIn K (.ref fI) = some (.type "function") ∧ FnF P w K mg base k fI fd ps (spX K (t.xad c) (t.xfn c) n) ∧ Binds K fd ps []
def sRaise (c n : Nat) (fs : Es) : S := sLift fs fun rs env M => match pureRs rs with
  | some ds => if ds.length = n ∧ ds.all shownD = true then .ex ⟨c, ds⟩ env M else .no
  | none => .no
variable {W : Wk} {hs : List (Nat × V)} {X : Cx} {x : Str} {e : Expr} {es : List Expr} {fs : Es} {c n k : Nat} {p pos pos' : Pos}
theorem mkx_read (ht : t.K = X.K) (C : XCls t X.prog X.w X.K X.mg X.base c n k) {D : Ends} {σ : L2.St} {H : Hp} (h : tS t W hs (sRaise c n fs) D σ H) : tMkX (t.xad c) (spX X.K (t.xad c) (t.xfn c) n) (tEs t W fs) σ H (fun cls d Hx => W.w cls d σ Hx) := by
  obtain ⟨ads, F, env, M, fr, hid, h⟩ := h
  refine Fr.lift fr hid h fun ads1 F1 M1 vs H1 fr1 _ rs pr k => ?_
  cases q : pureRs rs with
  | none => simp only [q] at k; exact k.elim
  | some ds =>
    simp only [q] at k
    split at k
    · rename_i cc
      obtain ⟨c1, c2⟩ := cc
      have hp : Paired (Is t F1) ds vs := by
        rw [pureRs_some q] at pr
        exact isRs_map.mp pr
      have hl := Paired.length hp
      refine ⟨by rw [← hl, c1]; have := C.few; omega, fun a ha => ⟨by simp [← hl, c1], a, vs, rfl, upd_same, fun v hv => ?_, fun d fs' H2 hd ne hH2 hf => ?_⟩⟩
      · obtain ⟨i, hi⟩ := List.getElem?_of_mem hv
        obtain ⟨d, e1, e2⟩ := pair_getV hp hi
        rw [← ht]
        exact shown_ok (fun b u z => by rw [upd_ne (ne_of_none (fr1.rel.ex b u z) ha)]; exact fr1.rel.ex b u z) e2 (List.all_eq_true.mp c2 d (List.mem_of_getElem? e1))
      · rw [upd_ne ne] at hd
        obtain ⟨g1, g2, g3⟩ := hH2
        refine ⟨rfl, d, fs', g1, g2, hd, ?_⟩
        have eH : upd (del H2 a) d (.xd fs') = upd H1 d (.xd fs') := by
          funext b
          by_cases h1 : b = d
          · subst h1
            rw [upd_same, upd_same]
          · rw [upd_ne h1, upd_ne h1]
            by_cases h2 : b = a
            · subst h2
              rw [del_same, ha]
            · rw [del_ne h2, g3 b h2 h1, upd_ne h2]
        rw [eH]
        have nd : d ∉ ads1 := fun z => fr1.rel.th d z hd
        exact k ads1 F1 _ σ _ (some d) (Stp.refl.poke hd) ⟨fr1.rel.poke nd (fr1.rel.noF hd), fr1.env, fr1.xt⟩ hid ⟨rfl, by rw [C.fl, c1], .inr ⟨d, fs', vs, rfl, upd_same, nd, isL_iff.mpr hp, hf⟩⟩ fun d' e => by cases e; exact hd
    · exact k.elim
/-- C(e, ..) on its way to be raised -/
theorem x_mk (ht : t.K = X.K) (C : XCls t X.prog X.w X.K X.mg X.base c n k) (hr : L2H.RoomH (k + 1) X.A) (hg : Gl X x) (hm : X.mg x = some (.ref (t.xad c))) (ha : PA X (e :: es) (tEs t W fs))
    (hdb : (x == ("__debug__" : Str)) = false := by decide) (he : starEach (e :: es) X.env = (false, eval e X.env) :: starEach es X.env := by rfl) (hpl : (backTo pos (starEach es X.env)).any (·.1) = false := by rfl) :
    L2N.PMk X (.Call (.Name x p) (e :: es) [] pos) (tMkX (t.xad c) (spX X.K (t.xad c) (t.xfn c) n) (tEs t W fs)) := by
  obtain ⟨fI, fd, ps, h1, h2, h3, h4⟩ := C.ini
  exact pmkX C.T h1 h2 h3 hr h4 hg hm ha hdb he hpl
theorem s_raise (ht : t.K = X.K) (hc : X.calm = true) (tk : Tak X W.w) (C : XCls t X.prog X.w X.K X.mg X.base c n k) (hr : L2H.RoomH (k + 1) X.A) (hg : Gl X x) (hm : X.mg x = some (.ref (t.xad c))) (ha : PA X (e :: es) (tEs t W fs))
    (hdb : (x == ("__debug__" : Str)) = false := by decide) (he : starEach (e :: es) X.env = (false, eval e X.env) :: starEach es X.env := by rfl) (hpl : (backTo pos (starEach es X.env)).any (·.1) = false := by rfl) :
    PS X (.Raise (some (.Call (.Name x p) (e :: es) [] pos)) none pos') (tS t W hs (sRaise c n fs)) := PS.imp (ps_raiseC hc tk (x_mk ht C hr hg hm ha hdb he hpl)) fun D σ H h => mkx_read ht C h
/-- raise in an except suite -/
theorem s_raiseK (ht : t.K = X.K) (hc : HotK X) (tk : Tak X W.w) (C : XCls t X.prog X.w X.K X.mg X.base c n k) (hr : L2H.RoomH (k + 1) X.A) (hg : Gl X x) (hm : X.mg x = some (.ref (t.xad c))) (ha : PA X (e :: es) (tEs t W fs))
    (hdb : (x == ("__debug__" : Str)) = false := by decide) (he : starEach (e :: es) X.env = (false, eval e X.env) :: starEach es X.env := by rfl) (hpl : (backTo pos (starEach es X.env)).any (·.1) = false := by rfl) :
    PS X (.Raise (some (.Call (.Name x p) (e :: es) [] pos)) none pos') (tS t W hs (sRaise c n fs)) := PS.imp (ps_raiseK hc tk (x_mk ht C hr hg hm ha hdb he hpl)) fun D σ H h => mkx_read ht C h
end
end Lc
set_option Elab.async false
set_option linter.all false
set_option maxRecDepth 100000
set_option maxHeartbeats 4000000
/-! try. -/
namespace Lc
open PySem PySem.Spec PyProof.Rows L2 LcX
/-- except C -/
def sTryO (mt : Nat → Option Bool) (fb fsu : S) : S := fun env M => match fb env M with
  | .ex x e m => match mt x.c with
    | some true => fsu e m
    | some false => .ex x e m
    | none => .no
  | r => r
/-- except C as n -/
def sTryA (i : Nat) (mt : Nat → Option Bool) (fb : S) (fsu : Xn → S) : S := fun env M => match fb env M with
  | .ex x e m => match mt x.c with
    | some true => if i < e.length ∧ x.ds ≠ [] then (match fsu x (e.set i none) m with
      | .nx e m => .nx (e.set i none) m
      | .bk e m => .bk (e.set i none) m
      | .ct e m => .ct (e.set i none) m
      | .rt r m => .rt r m
      | .ex x e m => .ex x (e.set i none) m
      | .no => .no) else .no
    | some false => .ex x e m
    | none => .no
  | r => r
section
variable {t : Tx} {W : Wk} {hs : List (Nat × V)} {X : Cx} {x n : Str} {c : Value} {i : Nat} {body suite : List Stmt} {b0 : Stmt} {np pos pos' : Pos} {mt : Nat → Option Bool} {fb fsu : S} {fsa : Xn → S}
theorem s_tryO (hss : X.stack = X.env :: X.outer) (hf : X.env.frame = some X.env.locals) (hc : Names X x c) (hpa : ∀ hd : Option Value, PassesOwnAt (model X.prog X.w) (X.A.mark hd) X.A X.env X.xe) (tk : Tak X W.w) (hmt : ∀ c' b, mt c' = some b → PySem.W.exmOne X.K (.ref (t.xad c')) c = some b)
    (hb : ∀ (W' : Wk) (pn : List (Addr × Obj)) (xe : Value → Shared → Prop), W'.xs = W.xs → Tak (X.tr pn xe) W'.w → PassesOwn (model X.prog X.w) X.A X.env xe → PSs (X.tr pn xe) body (tS t W' hs fb))
    (hsu : ∀ (a : Addr) (pn : List (Addr × Obj)), Tak (Sx X a pn) W.w → HotK (Sx X a pn) → PSs (Sx X a pn) (b0 :: suite) (tS t W hs fsu)) :
    PS X (.Try body [.ExceptHandler (some (.Name x np)) (none) (b0 :: suite) pos'] [] [] pos) (tS t W hs (sTryO mt fb fsu)) := by
  refine PS.imp (ps_tryO hss hf hc hpa tk (tb := fun w => tS t ⟨w, W.xs⟩ hs fb) (ts := fun _ _ _ => tS t W hs fsu) (fun w pn xe tk' hp => hb ⟨w, W.xs⟩ pn xe rfl tk' hp) (fun a oe cls d pn _ _ _ tk' hot => hsu a pn tk' hot)) fun D σ H h => ?_
  obtain ⟨ads, F, env, M, fr, hid, h⟩ := h
  refine ⟨ads, F, env, M, ⟨fr.rel, fr.env, fr.xt⟩, hid, ?_⟩
  unfold sTryO at h
  cases q : fb env M with
  | nx e m => rw [q] at h; exact fun ads' F' H' σ' s f i => h _ _ _ _ s ⟨f.rel, f.env, f.xt⟩ i
  | bk e m => rw [q] at h; exact fun ads' F' H' σ' s f i => h _ _ _ _ s ⟨f.rel, f.env, f.xt⟩ i
  | ct e m => rw [q] at h; exact fun ads' F' H' σ' s f i => h _ _ _ _ s ⟨f.rel, f.env, f.xt⟩ i
  | rt v m => rw [q] at h; exact h
  | no => rw [q] at h; exact h.elim
  | ex x e m =>
    rw [q] at h
    intro ads' F' H' σ' cls dd s f hid' p hd
    dsimp only at h
    have f' : Fr t W σ' H' ads' F' e m := ⟨f.rel, f.env, f.xt⟩
    obtain ⟨p1, p2, p3⟩ := p
    cases q2 : mt x.c with
    | none => simp only [q2] at h; exact h.elim
    | some b =>
      refine ⟨b, by rw [p1]; exact hmt _ _ q2, fun eb a na => ?_, fun eb => ?_⟩
      · subst eb
        simp only [q2] at h
        exact ⟨ads', F', e, m, f', hid', Ks.step s h⟩
      · subst eb
        simp only [q2] at h
        exact h _ _ _ _ cls dd s f' hid' ⟨p1, p2, p3⟩ hd
theorem PSs.ex {α : Type} {Y : Cx} {st : List Stmt} {ts : α → TS} (h : ∀ a, PSs Y st (ts a)) : PSs Y st (fun D σ H => ∃ a, ts a D σ H) := ⟨fun pins s σ H D I ⟨a, q⟩ => (h a).run pins s σ H D I q⟩
theorem PSs.and {Y : Cx} {st : List Stmt} {ts : TS} {p : Prop} (h : p → PSs Y st ts) : PSs Y st (fun D σ H => p ∧ ts D σ H) := ⟨fun pins s σ H D I q => (h q.1).run pins s σ H D I q.2⟩
theorem s_tryA (hss : X.stack = X.env :: X.outer) (hf : X.env.frame = some X.env.locals) (hN : X.N.Nodup) (hi : X.N[i]? = some n) (hln : X.env.kindOf n = some .local) (hc : Names X x c) (tk : Tak X W.w) (hW : ∀ cls d σ H u, W.w cls d (σ.set i u) H ↔ W.w cls d σ H) (hn : i ∉ hs.map (·.1)) (hx : ∀ p ∈ W.xs, p.i ≠ i) (hmt : ∀ c' b, mt c' = some b → PySem.W.exmOne X.K (.ref (t.xad c')) c = some b)
    (hb : ∀ (W' : Wk) (pn : List (Addr × Obj)) (xe : Value → Shared → Prop), W'.xs = W.xs → Tak (X.tr pn xe) W'.w → PassesOwn (model X.prog X.w) X.A X.env xe → PSs (X.tr pn xe) body (tS t W' hs fb))
    (hsu : ∀ (a dd : Addr) (xn : Xn) (oe : Obj) (pn : List (Addr × Obj)), mt xn.c = some true → Zc (.ref (t.xad xn.c)) (some dd) oe → (∃ vs, oe.data = .fields vs) → (a, oe) ∈ pn → Tak (SxG X a pn (Outs X a n pos')) W.w → HotK (SxG X a pn (Outs X a n pos')) → PSs (SxG X a pn (Outs X a n pos')) (b0 :: suite) (tS t ⟨W.w, ⟨i, a, dd, xn⟩ :: W.xs⟩ hs (fsa xn))) :
    PS X (.Try body [.ExceptHandler (some (.Name x np)) (some n) (b0 :: suite) pos'] [] [] pos) (tS t W hs (sTryA i mt fb fsa)) := by
  refine PS.imp (ps_tryA hss hf hN hi hln hc tk (fun cls d σ H h => (hW cls d σ H none).mpr h) (tb := fun w => tS t ⟨w, W.xs⟩ hs fb)
    (ts := fun a cls d D σ H => ∃ p : Xn × Addr, (cls = .ref (t.xad p.1.c) ∧ d = some p.2 ∧ mt p.1.c = some true) ∧ tS t ⟨W.w, ⟨i, a, p.2, p.1⟩ :: W.xs⟩ hs (fsa p.1) D σ H)
    (fun w pn xe tk' hp => hb ⟨w, W.xs⟩ pn xe rfl tk' hp)
    (fun a oe cls d pn hz hfd hm tk' hot => PSs.ex fun p => PSs.and fun hp => by
      obtain ⟨e1, e2, e3⟩ := hp
      subst e1 e2
      exact hsu a p.2 p.1 oe pn e3 hz hfd hm tk' hot)) fun D σ H h => ?_
  obtain ⟨ads, F, env, M, fr, hid, h⟩ := h
  refine ⟨ads, F, env, M, ⟨fr.rel, fr.env, fr.xt⟩, hid, ?_⟩
  unfold sTryA at h
  cases q : fb env M with
  | nx e m => rw [q] at h; exact fun ads' F' H' σ' s f i => h _ _ _ _ s ⟨f.rel, f.env, f.xt⟩ i
  | bk e m => rw [q] at h; exact fun ads' F' H' σ' s f i => h _ _ _ _ s ⟨f.rel, f.env, f.xt⟩ i
  | ct e m => rw [q] at h; exact fun ads' F' H' σ' s f i => h _ _ _ _ s ⟨f.rel, f.env, f.xt⟩ i
  | rt v m => rw [q] at h; exact h
  | no => rw [q] at h; exact h.elim
  | ex x e m =>
    rw [q] at h
    intro ads' F' H' σ' cls dd s f hid' p hd
    dsimp only at h
    have f' : Fr t W σ' H' ads' F' e m := ⟨f.rel, f.env, f.xt⟩
    obtain ⟨p1, p2, p3⟩ := p
    cases q2 : mt x.c with
    | none => simp only [q2] at h; exact h.elim
    | some b =>
      refine ⟨b, by rw [p1]; exact hmt _ _ q2, fun eb a na => ?_, fun eb => ?_⟩
      · subst eb
        simp only [q2] at h
        split at h
        · rename_i cnd
          obtain ⟨c1, c2⟩ := cnd
          rcases p3 with p3 | ⟨d, fs, vs, ed, hHd, hda, hvs, hlk⟩
          · exact absurd p3 c2
          · subst ed p1
            have adopt : ∃ F2, Rel t ads' F2 m H' ∧ F2 d = some (.xd fs) ∧ Fx F' F2 ∧ (Stp ads F H ads' F2 H') := by
              cases z : F' d with
              | some u =>
                have := f.rel.ex d u z
                rw [hHd] at this
                cases this
                exact ⟨F', f.rel, z, fun _ _ y => y, s⟩
              | none =>
                have fx : Fx F' (upd F' d (.xd fs)) := fun b u y => by rw [upd_ne (ne_of_none y z)]; exact y
                refine ⟨upd F' d (.xd fs), f.rel.adoptF hHd hda z, upd_same, fx, ⟨fun b u y => fx b u (s.ex b u y), s.ad, fun b h1 h2 => ?_, s.fr, s.th⟩⟩
                by_cases hb2 : b = d
                · subst hb2
                  exact .inl (hd b rfl)
                · rw [upd_ne hb2] at h2
                  exact s.nw b h1 h2
            obtain ⟨F2, R2, hF2, fx2, s2⟩ := adopt
            have m2 : Mon F' F2 ads' ads' := ⟨fx2, [], by simp⟩
            have il : i < σ'.length := by rw [← f.env.1]; exact c1
            refine ⟨(x, d), ⟨rfl, rfl, q2⟩, ads', F2, e.set i none, m, ⟨R2, (f.env.mono m2).unset, fun p hp => ?_⟩, hid'.set hn, ?_⟩
            · rcases List.mem_cons.mp hp with rfl | hp
              · exact ⟨List.getElem?_set_self il, fs, vs, hF2, IsL.mono fx2 _ hvs, hlk⟩
              · obtain ⟨g1, g2⟩ := (f.xt p hp).mono fx2
                exact ⟨by rw [List.getElem?_set_ne (fun z => hx p hp z.symm)]; exact g1, g2⟩
            · have back : ∀ {ads3 : List Addr} {F3 H3 : Hp} {σ3 : L2.St} {e3 : Env} {m3 : Mem}, Fr t ⟨W.w, ⟨i, a, d, x⟩ :: W.xs⟩ σ3 H3 ads3 F3 e3 m3 → Fr t W (σ3.set i none) H3 ads3 F3 (e3.set i none) m3 := fun f3 =>
                ⟨f3.rel, f3.env.unset, fun p hp => by
                  obtain ⟨g1, g2⟩ := f3.xt p (List.mem_cons_of_mem _ hp)
                  exact ⟨by rw [List.getElem?_set_ne (fun z => hx p hp z.symm)]; exact g1, g2⟩⟩
              have h := Ks.step s2 h
              cases q3 : fsa x (e.set i none) m with
              | nx e3 m3 => rw [q3] at h; exact fun ads3 F3 H3 σ3 s3 f3 i3 => h _ _ _ _ s3 (back f3) (i3.set hn)
              | bk e3 m3 => rw [q3] at h; exact fun ads3 F3 H3 σ3 s3 f3 i3 => h _ _ _ _ s3 (back f3) (i3.set hn)
              | ct e3 m3 => rw [q3] at h; exact fun ads3 F3 H3 σ3 s3 f3 i3 => h _ _ _ _ s3 (back f3) (i3.set hn)
              | rt v m3 => rw [q3] at h; exact h
              | ex x3 e3 m3 => rw [q3] at h; exact fun ads3 F3 H3 σ3 cls dd s3 f3 i3 p4 hd3 => (hW cls dd σ3 H3 none).mp (h _ _ _ _ cls dd s3 (back f3) (i3.set hn) p4 hd3)
              | no => rw [q3] at h; exact h.elim
        · exact h.elim
      · subst eb
        simp only [q2] at h
        exact h _ _ _ _ cls dd s f' hid' ⟨p1, p2, p3⟩ hd
/-! ### the caught exception's fields -/
def eXf (x : Xn) (j : Nat) : E := fun _ M => match x.ds[j]? with
  | some d => .ok (.d d) M
  | none => .no
/-- e.f in the suite -/
theorem e_xf {Y : Cx} {xs : List Xf} {w : WX} {a dd : Addr} {xn : Xn} {oe : Obj} {j : Nat} {f : Str} {en : Str} {p1 : Pos} (hp : (a, oe) ∈ Y.pn) (T : XfC Y.K (t.xad xn.c)) (hno : PySem.W.findIn Y.K (.ref (t.xad xn.c)) f = some none) (hz : Zc (.ref (t.xad xn.c)) (some dd) oe) (hfd : ∃ vs, oe.data = .fields vs)
    (hN : Y.N[i]? = some en) (hv : Vis Y.env.scope en) (hj : (t.xfn xn.c)[j]? = some f) (hd : (en == ("__debug__" : Str)) = false := by decide) (hcd : (en == ("__classdict__" : Str)) = false := by decide)
    (hb : attributeBase (.Name en p1) f Y.env (eval (.Name en p1) Y.env) = eval (.Name en p1) Y.env := by rfl) : PE Y (.Attribute (.Name en p1) f pos) (tE t ⟨w, ⟨i, a, dd, xn⟩ :: xs⟩ (eXf xn j)) :=
  PE.imp (pe_xa hp T hno hz hfd (pe_var hN hv hd hcd) hb) fun σ H Q h => by
    obtain ⟨ads, F, env, M, fr, h⟩ := h
    obtain ⟨h1, fs, vs, h2, h3, h4⟩ := fr.xt _ List.mem_cons_self
    unfold eXf at h
    cases q : xn.ds[j]? with
    | none => simp only [q] at h; exact h.elim
    | some d =>
      simp only [q] at h
      obtain ⟨v, e2, hv2⟩ := pair_get (isL_iff.mp h3) q
      exact ⟨.ref a, h1, rfl, rfl, dd, fs, v, rfl, fr.rel.ex _ _ h2, h4 j f v hj e2, okR (r := .d d) fr.rel hv2 h⟩
end
end Lc
set_option Elab.async false
set_option linter.all false
set_option maxRecDepth 100000
set_option maxHeartbeats 4000000
/-! Rules as the printer wants them. -/
namespace Lc
open PySem PySem.Spec PyProof.Rows L2 LcX
/-! ### slices -/
def ePart (fo : Option E) : Env → Mem → Ro (Option Int) := fun env M => match fo with
  | none => .ok none M
  | some f => (f env M).bind fun r M1 => match vw M1 r with
    | .int i => .ok (some i) M1
    | _ => .no
def eSl (cell : Bool) (f : E) (lo hi : Option E) : E := fun env M => (f env M).bind fun x M1 => (ePart lo env M1).bind fun l M2 => (ePart hi env M2).bind fun h M3 => oSl cell x l h M3
section
variable {t : Tx} {W : Wk} {hs : List (Nat × V)} {X : Cx} {e : Expr} {f : E} {pos p1 p2 : Pos}
abbrev tO (t : Tx) (W : Wk) (g : Env → Mem → Ro (Option Int)) : TO := tG t W (fun _ _ a b => a = b) g
theorem PO.imp {o : Option Expr} {a b : TO} (h : PO X o a) (k : ∀ σ H Q, b σ H Q → a σ H Q) : PO X o b := ⟨fun pins s σ H Q I q => h.run pins s σ H Q I (k _ _ _ q)⟩
theorem o_none : PO X none (tO t W (ePart none)) := PO.imp po_none fun σ H Q h => by
  obtain ⟨ads, F, env, M, fr, h⟩ := h
  exact h _ _ _ _ .refl fr.rel rfl
theorem o_some (h : PE X e (tE t W f)) : PO X (some e) (tO t W (ePart (some f))) := PO.imp (po_some h) fun σ H Q h => by
  obtain ⟨ads, F, env, M, fr, h⟩ := h
  refine Fr.bind fr h fun ads1 F1 M1 v H1 fr1 _ r pr k => ?_
  have sx := fr1.rel.view pr
  cases q : vw M1 r with
  | int i =>
    rw [q] at sx
    simp only [q] at k
    exact ⟨i, sx, k _ _ _ _ .refl fr1.rel rfl⟩
  | _ => simp only [q] at k; exact k.elim
theorem e_sl {cell : Bool} {lo hi : Option Expr} {fl fh : Option E} (ht : t.K = X.K) (he : PE X e (tE t W f)) (hl : PO X lo (tO t W (ePart fl))) (hh : PO X hi (tO t W (ePart fh))) : PE X (.Subscript e (.Slice lo hi none p1) pos) (tE t W (eSl cell f fl fh)) :=
  PE.imp (pe_slice (d_sl (cell := cell) ht) he hl hh) fun σ H Q h => by
    obtain ⟨ads, F, env, M, fr, h⟩ := h
    refine Fr.bind fr h fun ads1 F1 M1 v H1 fr1 _ x px k => ?_
    refine Fr.bind fr1 k fun ads2 F2 M2 l H2 fr2 m2 l' el k => ?_
    subst el
    refine Fr.bind fr2 k fun ads3 F3 M3 u H3 fr3 m3 u' eu k => ?_
    subst eu
    exact ⟨_, ads3, F3, M3, x, fr3.rel, (px.mono m2).mono m3, k⟩
/-! ### -i -/
def eNeg (f : E) : E := fun env M => (f env M).bind fun r M1 => match vw M1 r with
  | .int i => .ok (.d (.int (-i))) M1
  | _ => .no
theorem e_neg (h : PE X e (tE t W f)) : PE X (.UnaryOp .USub e pos) (tE t W (eNeg f)) := PE.imp (pe_un un_neg h) fun σ H Q h => by
  obtain ⟨ads, F, env, M, fr, h⟩ := h
  refine Fr.bind fr h fun ads1 F1 M1 v H1 fr1 _ r pr k => ?_
  have sx := fr1.rel.view pr
  cases q : vw M1 r with
  | int i =>
    rw [q] at sx
    simp only [q] at k
    exact ⟨i, sx, okI fr1.rel k⟩
  | _ => simp only [q] at k; exact k.elim
/-! ### names -/
theorem vL {sc : Scope} {x : Str} (h : sc.names.lookup x = some .local) : Vis sc x := .inl h
theorem vC {sc : Scope} {x : Str} (h : sc.names.lookup x = some .cell) : Vis sc x := .inr (.inl h)
theorem vF {sc : Scope} {x : Str} (h : sc.names.lookup x = some .free) : Vis sc x := .inr (.inr h)
/-! ### in a comprehension nothing flies -/
theorem tak_no : Tak X (Wn).w := fun u sx h => by
  obtain ⟨a, B, si, pins, σ, H, cls, d, e, I, g1, g2, g3, g4, g5, g6, w⟩ := h
  exact w.elim
/-! ### loops and comprehensions -/
section
variable {elt tge iter l : Expr} {ifs elts : List Expr} {scope : Scope} {own : List (Str × Nat)} {g : TG} {gs : TGs} {sl : List Nat} {α : Type} {src : Env → Mem → Ro (List α)} {tg : α → S} {fg : Tg} {fgs : List R → S} {fb : B} {fe : E} {fs : S} {cell : Bool} {body : List Stmt} {kk : Nat}
/-- for x in .. -/
theorem f_one {src : Env → Mem → Ro (List R)} (hp : PassesOwn (model X.prog X.w) X.A X.env X.xe) (hc : X.calm = true) (hG : PGd t W hs X tge sl g fg) (hi : TgOk t W hs sl g fg → PI X tge iter (tI t W W hs g sl src fg)) (hb : PSs X body (tS t W hs fs))
    (hss : ∀ x, foldedSetIterable iter X.env x = pure x := by intro _; rfl) : PS X (.For tge iter body [] pos) (tS t W hs (sForI src fg fs)) := s_for hp hc (hi hG.run) hG.pg hb hss
/-- for x, y in enumerate/zip -/
theorem f_many {src : Env → Mem → Ro (List (List R))} {n : Nat} (ht : t.K = X.K) (hp : PassesOwn (model X.prog X.w) X.A X.env X.xe) (hc : X.calm = true) (hG : PGs' t W hs X elts sl gs fgs) (hi : TgsOk t W hs sl gs fgs → PI X (.Tuple elts kk p1) iter (tI t W W hs (gTup t.K n gs) sl src fgs)) (hb : PSs X body (tS t W hs fs))
    (hn : (assignEach elts X.env).length = n := by rfl) (hst : (assignEach elts X.env).findIdx? (·.1) = none := by rfl) (hss : ∀ x, foldedSetIterable iter X.env x = pure x := by intro _; rfl) : PS X (.For (.Tuple elts kk p1) iter body [] pos) (tS t W hs (sForI src fgs fs)) :=
  s_for hp hc (hi hG.run) (by rw [ht]; exact pg_tup hc hG.pg hn hst) hb hss
/-- [.. for x in ..] -/
theorem l_one {src : Env → Mem → Ro (List R)} (sh : Shared) (hc : X.calm = true) (hN : X.N.Nodup) (ok : BlkOk X.N X.env.scope scope own) (hsl : ∀ j ∈ sl, j ∈ own.map (·.2)) (hG : ∀ (s : Shared) (H : Hp) (C : Addr) (cl : List (Str × Addr)) (fp : List Addr), PGd t Wn [] (X.blk s H scope (compEnvC scope cl C X.env) fp) tge sl g fg)
    (hi : TgOk t Wn [] sl g fg → PI X tge iter (tI t W Wn [] g sl src fg)) (ht : ∀ (s : Shared) (H : Hp) (C : Addr) (cl : List (Str × Addr)) (fp : List Addr), PTs (X.blk s H scope (compEnvC scope cl C X.env) fp) ifs (tBo t Wn fb))
    (he : ∀ (s : Shared) (H : Hp) (C : Addr) (cl : List (Str × Addr)) (fp : List Addr), PE (X.blk s H scope (compEnvC scope cl C X.env) fp) elt (tE t Wn fe)) (hss : ∀ x, foldedSetIterable iter X.env x = pure x := by intro _; rfl) :
    PE X (.ListComp elt [⟨tge, iter, ifs, 0⟩] scope pos) (tE t W (eComp src fg fb fe (own.map (·.2)) cell)) :=
  c_list hc hN (hi (hG sh (fun _ => none) 0 [] []).run) ok hsl (fun s H C cl fp => (hG s H C cl fp).pg) ht he hss
/-- [.. for x, y in ..] over enumerate/zip -/
theorem l_many {src : Env → Mem → Ro (List (List R))} {n : Nat} (sh : Shared) (htK : t.K = X.K) (hc : X.calm = true) (hN : X.N.Nodup) (ok : BlkOk X.N X.env.scope scope own) (hsl : ∀ j ∈ sl, j ∈ own.map (·.2)) (hG : ∀ (s : Shared) (H : Hp) (C : Addr) (cl : List (Str × Addr)) (fp : List Addr), PGs' t Wn [] (X.blk s H scope (compEnvC scope cl C X.env) fp) elts sl gs fgs)
    (hi : TgsOk t Wn [] sl gs fgs → PI X (.Tuple elts kk p1) iter (tI t W Wn [] (gTup t.K n gs) sl src fgs)) (ht : ∀ (s : Shared) (H : Hp) (C : Addr) (cl : List (Str × Addr)) (fp : List Addr), PTs (X.blk s H scope (compEnvC scope cl C X.env) fp) ifs (tBo t Wn fb))
    (he : ∀ (s : Shared) (H : Hp) (C : Addr) (cl : List (Str × Addr)) (fp : List Addr), PE (X.blk s H scope (compEnvC scope cl C X.env) fp) elt (tE t Wn fe))
    (hn : ∀ (s : Shared) (H : Hp) (C : Addr) (cl : List (Str × Addr)) (fp : List Addr), (assignEach elts (X.blk s H scope (compEnvC scope cl C X.env) fp).env).length = n := by intros; rfl) (hst : ∀ (s : Shared) (H : Hp) (C : Addr) (cl : List (Str × Addr)) (fp : List Addr), (assignEach elts (X.blk s H scope (compEnvC scope cl C X.env) fp).env).findIdx? (·.1) = none := by intros; rfl)
    (hss : ∀ x, foldedSetIterable iter X.env x = pure x := by intro _; rfl) :
    PE X (.ListComp elt [⟨.Tuple elts kk p1, iter, ifs, 0⟩] scope pos) (tE t W (eComp src fgs fb fe (own.map (·.2)) cell)) :=
  c_list hc hN (hi (hG sh (fun _ => none) 0 [] []).run) ok hsl (fun s H C cl fp => by rw [htK]; exact pg_tup (show (X.blk s H scope (compEnvC scope cl C X.env) fp).calm = true from hc) (hG s H C cl fp).pg (hn s H C cl fp) (hst s H C cl fp)) ht he hss
end
end
/-! ### defs by their data -/
section
variable {t : Tx} {P : Program} {w : World} {K : PySem.W.Frag} {mg : Str → Option Value} {base : Heap} {x qual : Str} {params : Arguments} {body : List Stmt} {scope : Scope} {dvs : List V} {kws : List (Str × V)} {f : Addr} {fd : FuncData}
/-- the context of a def's body -/
abbrev bx (P : Program) (w : World) (K : PySem.W.Frag) (mg : Str → Option Value) (base : Heap) (N : List Str) (qual : Str) (scope : Scope) (f : Addr) (cdv : Value) (A : Around) (outer : List PySem.Env) (s : Shared) (H : Hp) (E : XK) : Cx := cxOf (LcX.CX P w) P w K mg base N qual scope f cdv A outer s H E
theorem fd_ok {N ps : List Str} {k : Nat} {fb : S} (F : FunD K x qual params body scope dvs kws f fd) (S : FnScope N ps scope)
    (hbody : ∀ (cdv : Value) (A : Around) (outer : List PySem.Env) (s : Shared) (H : Hp) (E : XK), Room k (A.deeper (envOfC qual scope s.heap.objs.size f cdv)) → Tak (bx P w K mg base N qual scope f cdv A outer s H E) (WofE E).w →
      PassesOwn (model P w) (A.deeper (envOfC qual scope s.heap.objs.size f cdv)) (envOfC qual scope s.heap.objs.size f cdv) (bx P w K mg base N qual scope f cdv A outer s H E).xe → PSs (bx P w K mg base N qual scope f cdv A outer s H E) body (tS t (WofE E) [] fb)) :
    FnOk P w K mg base (LcX.CX P w) (k + 1) f fd ps (spF t ps.length (fnOf N.length fb)) := by
  obtain ⟨oc, od, dV, kV, doc, pm, an, cdv, ct, osl, rfl, lk, hcd, _, _⟩ := F.ex
  exact f_ok lk hcd S fun A outer s H E hr tk => hbody cdv A outer s H E hr tk (passes_of (X := bx P w K mg base N qual scope f cdv A outer s H E) rfl)
/-- a def as its callers need it -/
structure Fd (t : Tx) (P : Program) (w : World) (K : PySem.W.Frag) (mg : Str → Option Value) (base : Heap) (k : Nat) (f : Addr) (ps : List Str) (m : Fn) : Prop where
  ex : ∃ fd, FnOk P w K mg base (LcX.CX P w) k f fd ps (spF t ps.length m) ∧ PySem.W.keepIn K (.ref f) = true ∧ Binds K fd ps []
theorem Fd.of {N ps : List Str} {k : Nat} {fb : S} (F : FunD K x qual params body scope [] kws f fd)
    (hb : ∀ (kV doc pm : Value) (an : Option Addr) (cdv ct : Value) (us : List Value), us.length = ps.length → bindArgs (PySem.W.fnOf x qual params body scope .none kV doc pm an cdv ct) ⟨us, []⟩ = pure (ps.zip us)) (S : FnScope N ps scope)
    (hbody : ∀ (cdv : Value) (A : Around) (outer : List PySem.Env) (s : Shared) (H : Hp) (E : XK), Room k (A.deeper (envOfC qual scope s.heap.objs.size f cdv)) → Tak (bx P w K mg base N qual scope f cdv A outer s H E) (WofE E).w →
      PassesOwn (model P w) (A.deeper (envOfC qual scope s.heap.objs.size f cdv)) (envOfC qual scope s.heap.objs.size f cdv) (bx P w K mg base N qual scope f cdv A outer s H E).xe → PSs (bx P w K mg base N qual scope f cdv A outer s H E) body (tS t (WofE E) [] fb)) :
    Fd t P w K mg base (k + 1) f ps (fnOf N.length fb) := ⟨fd, fd_ok F S hbody, F.kp, F.bindsN hb⟩
theorem Fd.no {ps : List Str} {k : Nat} (F : FunD K x qual params body scope [] kws f fd)
    (hb : ∀ (kV doc pm : Value) (an : Option Addr) (cdv ct : Value) (us : List Value), us.length = ps.length → bindArgs (PySem.W.fnOf x qual params body scope .none kV doc pm an cdv ct) ⟨us, []⟩ = pure (ps.zip us)) : Fd t P w K mg base k f ps noFn := ⟨fd, f_no, F.kp, F.bindsN hb⟩
end
section
variable {t : Tx} {W : Wk} {hs : List (Nat × V)} {X : Cx} {k : Nat} {f : Addr} {ps : List Str} {m : Fn} {x : Str} {p pos : Pos} {e : Expr} {es : List Expr} {fs : Es} {keep : Bool}
theorem c_callF {n : Nat} (F : Fd t X.prog X.w X.K X.mg X.base k f ps m) (hn : ps.length = n) (hr : Room k X.A) (hg : Gl X x) (hm : X.mg x = some (.ref f)) (tk : Tak X W.w) (ha : PA X (e :: es) (tEs t W fs))
    (hdb : (x == ("__debug__" : Str)) = false := by decide) (he : starEach (e :: es) X.env = (false, eval e X.env) :: starEach es X.env := by rfl) (hpl : (backTo pos (starEach es X.env)).any (·.1) = false := by rfl) :
    PE X (.Call (.Name x p) (e :: es) [] pos) (tE t W (eCall keep n m fs [])) := by
  subst hn
  obtain ⟨fd, F, hk, hb⟩ := F.ex
  exact c_call F hr hg hm hk hb dfl_nil tk ha hdb he hpl
theorem c_callF0 {n : Nat} (F : Fd t X.prog X.w X.K X.mg X.base k f ps m) (hn : ps.length = n) (hr : Room k X.A) (hg : Gl X x) (hm : X.mg x = some (.ref f)) (tk : Tak X W.w)
    (hdb : (x == ("__debug__" : Str)) = false := by decide) : PE X (.Call (.Name x p) [] [] pos) (tE t W (eCall keep n m esNil [])) := by
  subst hn
  obtain ⟨fd, F, hk, hb⟩ := F.ex
  exact c_call0 F hr hg hm hk hb dfl_nil tk hdb
variable {elt tge iter : Expr} {ifs elts : List Expr} {scope : Scope} {own : List (Str × Nat)} {g : TG} {gs : TGs} {sl : List Nat} {fg : Tg} {fgs : List R → S} {fb : B} {fe : E} {cell : Bool} {kk : Nat} {p1 py spos : Pos} {i : Nat} {y : Str}
/-- y = [.. for x in ..] on one line -/
theorem ls_one {src : Env → Mem → Ro (List R)} (sh : Shared) (hc : X.calm = true) (hN : X.N.Nodup) (ok : BlkOk X.N X.env.scope scope own) (hsl : ∀ j ∈ sl, j ∈ own.map (·.2)) (hG : ∀ (s : Shared) (H : Hp) (C : Addr) (cl : List (Str × Addr)) (fp : List Addr), PGd t Wn [] (X.blk s H scope (compEnvC scope cl C X.env) fp) tge sl g fg)
    (hi : TgOk t Wn [] sl g fg → PI X tge iter (tI t W Wn [] g sl src fg)) (ht : ∀ (s : Shared) (H : Hp) (C : Addr) (cl : List (Str × Addr)) (fp : List Addr), PTs (X.blk s H scope (compEnvC scope cl C X.env) fp) ifs (tBo t Wn fb))
    (he : ∀ (s : Shared) (H : Hp) (C : Addr) (cl : List (Str × Addr)) (fp : List Addr), PE (X.blk s H scope (compEnvC scope cl C X.env) fp) elt (tE t Wn fe))
    (hy : X.N[i]? = some y := by rfl) (hyl : X.env.scope.names.lookup y = some .local := by rfl) (hn : i ∉ hs.map (·.1) ∧ ∀ p ∈ W.xs, p.i ≠ i := by exact ⟨by decide, by intro p hp; cases hp⟩)
    (hsw : swapsWith (.ListComp elt [⟨tge, iter, ifs, 0⟩] scope pos) (some (.Name y py)) spos.line X.env = pure true := by rfl) (hss : ∀ x, foldedSetIterable iter X.env x = pure x := by intro _; rfl) :
    PS X (.Assign [.Name y py] (.ListComp elt [⟨tge, iter, ifs, 0⟩] scope pos) spos) (tS t W hs (sSet i (eComp src fg fb fe (own.map (·.2)) cell))) :=
  s_setLc hc hN hy hyl hn hsw (hi (hG sh (fun _ => none) 0 [] []).run) ok hsl (fun s H C cl fp => (hG s H C cl fp).pg) ht he hss
theorem ls_many {src : Env → Mem → Ro (List (List R))} {n : Nat} (sh : Shared) (htK : t.K = X.K) (hc : X.calm = true) (hN : X.N.Nodup) (ok : BlkOk X.N X.env.scope scope own) (hsl : ∀ j ∈ sl, j ∈ own.map (·.2)) (hG : ∀ (s : Shared) (H : Hp) (C : Addr) (cl : List (Str × Addr)) (fp : List Addr), PGs' t Wn [] (X.blk s H scope (compEnvC scope cl C X.env) fp) elts sl gs fgs)
    (hi : TgsOk t Wn [] sl gs fgs → PI X (.Tuple elts kk p1) iter (tI t W Wn [] (gTup t.K n gs) sl src fgs)) (ht : ∀ (s : Shared) (H : Hp) (C : Addr) (cl : List (Str × Addr)) (fp : List Addr), PTs (X.blk s H scope (compEnvC scope cl C X.env) fp) ifs (tBo t Wn fb))
    (he : ∀ (s : Shared) (H : Hp) (C : Addr) (cl : List (Str × Addr)) (fp : List Addr), PE (X.blk s H scope (compEnvC scope cl C X.env) fp) elt (tE t Wn fe))
    (hy : X.N[i]? = some y := by rfl) (hyl : X.env.scope.names.lookup y = some .local := by rfl) (hn : i ∉ hs.map (·.1) ∧ ∀ p ∈ W.xs, p.i ≠ i := by exact ⟨by decide, by intro p hp; cases hp⟩)
    (hsw : swapsWith (.ListComp elt [⟨.Tuple elts kk p1, iter, ifs, 0⟩] scope pos) (some (.Name y py)) spos.line X.env = pure true := by rfl)
    (hnn : ∀ (s : Shared) (H : Hp) (C : Addr) (cl : List (Str × Addr)) (fp : List Addr), (assignEach elts (X.blk s H scope (compEnvC scope cl C X.env) fp).env).length = n := by intros; rfl) (hst : ∀ (s : Shared) (H : Hp) (C : Addr) (cl : List (Str × Addr)) (fp : List Addr), (assignEach elts (X.blk s H scope (compEnvC scope cl C X.env) fp).env).findIdx? (·.1) = none := by intros; rfl)
    (hss : ∀ x, foldedSetIterable iter X.env x = pure x := by intro _; rfl) :
    PS X (.Assign [.Name y py] (.ListComp elt [⟨.Tuple elts kk p1, iter, ifs, 0⟩] scope pos) spos) (tS t W hs (sSet i (eComp src fgs fb fe (own.map (·.2)) cell))) :=
  s_setLc hc hN hy hyl hn hsw (hi (hG sh (fun _ => none) 0 [] []).run) ok hsl (fun s H C cl fp => by rw [htK]; exact pg_tup (show (X.blk s H scope (compEnvC scope cl C X.env) fp).calm = true from hc) (hG s H C cl fp).pg (hnn s H C cl fp) (hst s H C cl fp)) ht he hss
variable {f : Tg} {g2 : List R → S} {tgs : TGs} {j n' : Nat}
theorem g_tupT (ht : t.K = X.K) (hc : X.calm = true) (h : PGs' t W hs X es sl tgs g2) (hn : (assignEach es X.env).length = n' := by rfl) (hst : (assignEach es X.env).findIdx? (·.1) = none := by rfl) : PGd t W hs X (.Tuple es j pos) sl (gTup t.K n' tgs) (gTupD n' g2) := by
  rw [ht]
  exact g_tup ht hc h hn hst
theorem g_starT (ht : t.K = X.K) (hc : X.calm = true) (h : PGs' t W hs X es sl tgs g2) (hn : (assignEach es X.env).length = i + 1 := by rfl) (hst : (assignEach es X.env).findIdx? (·.1) = some i := by rfl) : PGd t W hs X (.Tuple es j pos) sl (gStar t.K i tgs) (gStarD i cell g2) := by
  rw [ht]
  exact g_star ht hc h hn hst
end
end Lc
set_option Elab.async false
set_option linter.all false
set_option maxRecDepth 100000
set_option maxHeartbeats 4000000
/-! The module's own tables and texts, as plain data. -/
namespace Lc
open PySem PySem.Spec PyProof.Rows L2 LcX
/-! ### plain data read off the fragment -/
mutual
def conD (K : PySem.W.Frag) : D → Value → Bool
  | .non, u => (match u with
    | .none => true
    | _ => false)
  | .bl b, u => (match u with
    | .bool c => b == c
    | _ => false)
  | .int i, u => (match u with
    | .int j _ => decide (i = j)
    | _ => false)
  | .str s, u => (match u with
    | .str y _ => decide (y = st s) && okB' s
    | _ => false)
  | .tup ds, u => (match u with
    | .ref a => (match K.lookup a with
      | some ⟨.type c, _, .seq its _, _⟩ => decide (c = "tuple") && (decide (its.size ≤ sizeLine) && conDs K ds its.toList)
      | _ => false)
    | _ => false)
  | .lst ds, u => false
  | .dct _ _, u => false
  | .obj _ _, u => false
  | .exc _ _, u => false
def conDs (K : PySem.W.Frag) : List D → List Value → Bool
  | [], us => us.isEmpty
  | d :: ds, us => (match us with
    | u :: us => conD K d u && conDs K ds us
    | [] => false)
end
section
variable {t : Tx}
theorem ba' {a b : Bool} (h : (a && b) = true) : a = true ∧ b = true := Bool.and_eq_true_iff.mp h
mutual
theorem conD_ok : ∀ (d : D) {u : Value}, conD t.K d u = true → ∃ v, RelV v u ∧ ∀ F, Is t F d v
  | .non, u, h => by
    unfold conD at h
    cases u with
    | none => exact ⟨.non, rfl, fun F => isN F⟩
    | _ => cases h
  | .bl b, u, h => by
    unfold conD at h
    cases u with
    | bool c => exact ⟨.bl b, by rw [show b = c from beq_iff_eq.mp h]; rfl, fun F => isB F b⟩
    | _ => cases h
  | .int i, u, h => by
    unfold conD at h
    cases u with
    | int j tk => exact ⟨.int i, by rw [show i = j from of_decide_eq_true h]; exact ⟨tk, rfl⟩, fun F => isI F i⟩
    | _ => cases h
  | .str s, u, h => by
    unfold conD at h
    cases u with
    | str y tk =>
      obtain ⟨h1, h2⟩ := ba' h
      exact ⟨.str (st s), by rw [show y = st s from of_decide_eq_true h1]; exact ⟨tk, rfl⟩, fun F => isS F (okB'_ok h2)⟩
    | _ => cases h
  | .tup ds, u, h => by
    unfold conD at h
    cases u with
    | ref a =>
      dsimp only at h
      cases q : t.K.lookup a with
      | none => rw [q] at h; cases h
      | some o =>
        obtain ⟨oc, od, dt, osl⟩ := o
        rw [q] at h
        cases oc with
        | type c =>
          cases dt with
          | seq its n =>
            obtain ⟨h1, h2⟩ := ba' h
            obtain ⟨h3, h4⟩ := ba' h2
            obtain ⟨vs, rv, is⟩ := conDs_ok ds h4
            refine ⟨.ref a, rfl, fun F => ?_⟩
            unfold Is
            exact ⟨a, vs, rfl, .inr ⟨_, its, n, q, congrArg Value.type (of_decide_eq_true h1), rfl, of_decide_eq_true h3, rv⟩, is F⟩
          | _ => cases h
        | _ => cases dt <;> cases h
    | _ => cases h
  | .lst _, u, h => by unfold conD at h; cases h
  | .dct _ _, u, h => by unfold conD at h; cases h
  | .obj _ _, u, h => by unfold conD at h; cases h
  | .exc _ _, u, h => by unfold conD at h; cases h
theorem conDs_ok : ∀ (ds : List D) {us : List Value}, conDs t.K ds us = true → ∃ vs, Vals vs us ∧ ∀ F, IsL t F ds vs
  | [], us, h => by
    unfold conDs at h
    obtain rfl : us = [] := List.isEmpty_iff.mp h
    exact ⟨[], .nil, fun F => by unfold IsL; rfl⟩
  | d :: ds, us, h => by
    unfold conDs at h
    cases us with
    | nil => cases h
    | cons u us =>
      obtain ⟨h1, h2⟩ := ba' h
      obtain ⟨v, r, i⟩ := conD_ok d h1
      obtain ⟨vs, rs, is⟩ := conDs_ok ds h2
      exact ⟨v :: vs, .cons r rs, fun F => by unfold IsL; exact ⟨v, vs, rfl, i F, is F⟩⟩
end
end
/-! ### a name of the module -/
/-- the module's name x stands for d -/
def nameD (K : PySem.W.Frag) (x : Str) (d : D) : Bool := match PySem.W.nsIn K mainGlobals x with
  | some (some u) => conD K d u
  | _ => false
/-- what the walk wants of it -/
structure NameD (t : Tx) (mg : Str → Option Value) (x : Str) (d : D) : Prop where
  ex : ∃ v u, mg x = some u ∧ RelV v u ∧ ∀ F, Is t F d v
theorem nameD_ok {t : Tx} {mg : Str → Option Value} {h : Heap} {x : Str} {d : D} (X : t.K.In h) (G : h.Ns mainGlobals mg) (c : nameD t.K x d = true) : NameD t mg x d := by
  unfold nameD at c
  cases q : PySem.W.nsIn t.K mainGlobals x with
  | none => rw [q] at c; cases c
  | some r =>
    rw [q] at c
    cases r with
    | none => cases c
    | some u =>
      obtain ⟨v, r, i⟩ := conD_ok d c
      exact ⟨v, u, PySem.W.mg_of X G q, r, i⟩
/-! ### a table with text keys -/
def lookT (kvs : List (T × D)) (z : T) : Option D := (kvs.find? fun p => p.1 == z).map (·.2)
def tabD (K : PySem.W.Frag) (x : Str) (kvs : List (T × D)) : Bool := kvs.all fun p => (match PySem.W.nsIn K (He.ga K x) (st p.1) with
  | some (some u) => conD K p.2 u
  | _ => false)
structure TabD (t : Tx) (w : World) (mg : Str → Option Value) (x : Str) (kvs : List (T × D)) : Prop where
  at_ : mg x = some (.ref (He.ga t.K x))
  kd : ∃ es n, KDict t.K w (He.ga t.K x) es n
  yes : ∀ z d, lookT kvs z = some d → ∃ v u, PySem.W.nsIn t.K (He.ga t.K x) (st z) = some (some u) ∧ RelV v u ∧ ∀ F, Is t F d v
  no : ∀ z, lookT kvs z = none → PySem.W.nsIn t.K (He.ga t.K x) (st z) = some none
theorem keyOf_str {e : DictEntry} {k : Str} {h : Int} (q : He.keyOf e = some (k, h)) : ∃ tk, e.key = .str k tk := by
  unfold He.keyOf at q
  split at q
  · rename_i y tk e2
    cases q
    exact ⟨tk, e2⟩
  · cases q
theorem keys_none {P : Params} {z : Str} : ∀ {l : List DictEntry} {ks : List Str}, l.map He.keyOf = He.keysIn P ks → z ∉ ks → l.find? (·.key.isStr z) = none ∧ l.any (·.refKey) = false
  | [], _, _, _ => ⟨rfl, rfl⟩
  | e :: r, [], h, _ => by cases h
  | e :: r, k :: ks, h, hz => by
    have h1 : He.keyOf e :: r.map He.keyOf = some (k, PyData.keyHash P k) :: He.keysIn P ks := h
    injection h1 with h2 h3
    obtain ⟨tk, e1⟩ := keyOf_str h2
    obtain ⟨i1, i2⟩ := keys_none h3 fun m => hz (List.mem_cons_of_mem _ m)
    have ne : e.key.isStr z = false := by
      rw [e1]
      show (k == z) = false
      exact beq_eq_false_iff_ne.mpr fun q => hz (by rw [q]; exact List.mem_cons_self)
    refine ⟨by rw [List.find?_cons, ne]; exact i1, ?_⟩
    rw [List.any_cons, i2, Bool.or_false]
    unfold DictEntry.refKey
    rw [e1]
theorem tabD_ok {t : Tx} {w : World} {mg : Str → Option Value} {h : Heap} {x : Str} {kvs : List (T × D)} (X : t.K.In h) (G : h.Ns mainGlobals mg) (g : mg x = some (.ref (He.ga t.K x)))
    (hd : He.dicW t.K (He.ga t.K x) = some (He.keysIn w.params (kvs.map fun p => st p.1))) (c : tabD t.K x kvs = true) : TabD t w mg x kvs := by
  refine ⟨g, He.dicW_ok hd, fun z d e => ?_, fun z e => ?_⟩
  · unfold lookT at e
    cases q : kvs.find? fun p => p.1 == z with
    | none => rw [q] at e; cases e
    | some p =>
      rw [q] at e
      cases e
      have h1 := List.mem_of_find?_eq_some q
      have h2 : p.1 = z := by
        have := List.find?_some q
        exact beq_iff_eq.mp this
      have h3 := List.all_eq_true.mp c p h1
      rw [h2] at h3
      cases q2 : PySem.W.nsIn t.K (He.ga t.K x) (st z) with
      | none => rw [q2] at h3; cases h3
      | some r =>
        rw [q2] at h3
        cases r with
        | none => cases h3
        | some u =>
          obtain ⟨v, r, i⟩ := conD_ok p.2 h3
          exact ⟨v, u, rfl, r, i⟩
  · have nz : st z ∉ kvs.map fun p => st p.1 := fun m => by
      obtain ⟨p, hp, e2⟩ := List.mem_map.mp m
      have e3 : p.1 = z := by
        have := beq_st p.1 z
        rw [e2, beq_self_eq_true] at this
        exact beq_iff_eq.mp this.symm
      unfold lookT at e
      cases q : kvs.find? fun p => p.1 == z with
      | none => exact absurd (List.find?_eq_none.mp q p hp) (by simp [e3])
      | some _ => rw [q] at e; cases e
    unfold He.dicW at hd
    unfold PySem.W.nsIn
    cases q : t.K.lookup (He.ga t.K x) with
    | none => rw [q] at hd; cases hd
    | some o =>
      obtain ⟨oc, od, dt, osl⟩ := o
      rw [q] at hd
      cases oc with
      | type c =>
        cases od with
        | none =>
          cases dt with
          | dict es n =>
            dsimp only at hd
            cases y : decide (c = "dict") && (osl.isEmpty && !(He.ga t.K x == sysModules)) with
            | false => rw [y] at hd; cases hd
            | true =>
              rw [y] at hd
              obtain ⟨k1, k2⟩ := keys_none (Option.some.inj hd) nz
              dsimp only
              rw [k1]
              dsimp only
              rw [k2]
              rfl
          | _ => cases hd
        | some b => cases dt <;> cases hd
      | _ => cases od <;> cases dt <;> cases hd
/-! ### x in TABLE, TABLE[x], TABLE.get(x, y) -/
def eInT (neg : Bool) (kvs : List (T × D)) (f : E) : E := fun env M => (f env M).bind fun r M1 => match vw M1 r with
  | .str z => .ok (.d (.bl (if neg then !(lookT kvs z).isSome else (lookT kvs z).isSome))) M1
  | _ => .no
def eIxT (kvs : List (T × D)) (f : E) : E := fun env M => (f env M).bind fun r M1 => match vw M1 r with
  | .str z => (match lookT kvs z with
    | some d => .ok (.d d) M1
    | none => .no)
  | _ => .no
def eGetT (kvs : List (T × D)) (f g : E) : E := fun env M => (f env M).bind fun r M1 => (g env M1).bind fun y M2 => match vw M2 r with
  | .str z => .ok (match lookT kvs z with
    | some d => .d d
    | none => y) M2
  | _ => .no
section
variable {t : Tx} {W : Wk} {X : Cx} {e e2 : Expr} {f g : E} {kvs : List (T × D)} {x : Str} {p pos apos : Pos}
theorem pe_ga {a : Addr} (hg : Gl X x) (hm : X.mg x = some (.ref a)) (hd : (x == ("__debug__" : Str)) = false := by decide) : PE X (.Name x pos) (tC (.ref a)) := pe_glob hg hm (rfl : RelV (.ref a) (.ref a)) hd
theorem TabD.has (T0 : TabD t w mg x kvs) (z : Lc.T) : ∃ r, PySem.W.nsIn t.K (He.ga t.K x) (st z) = some r ∧ r.isSome = (lookT kvs z).isSome := by
  cases q : lookT kvs z with
  | none => exact ⟨none, T0.no z q, rfl⟩
  | some d =>
    obtain ⟨v, u, e, _, _⟩ := T0.yes z d q
    exact ⟨some u, e, rfl⟩
abbrev rInT (t : Tx) (K : PySem.W.Frag) (x : Str) (neg : Bool) : R2 := fun vx vy H Q => ∃ (z : Str) (r : Option Value), vx = .str z ∧ vy = .ref (He.ga t.K x) ∧ PySem.W.nsIn K (He.ga t.K x) z = some r ∧ Q (.bl (if neg then !r.isSome else r.isSome)) H
theorem inT_read {neg : Bool} (ht : t.K = X.K) (T0 : TabD t X.w X.mg x kvs) {σ : L2.St} {H : Hp} {Q : VK} (h : tE t W (eInT neg kvs f) σ H Q) : tOp (rInT t X.K x neg) (tE t W f) (tC (.ref (He.ga t.K x))) σ H Q := by
  obtain ⟨ads, F, env, M, fr, h⟩ := h
  refine Fr.bind fr h fun ads1 F1 M1 v H1 fr1 _ r pr k => ?_
  have sx := fr1.rel.view pr
  cases q : vw M1 r with
  | str z =>
    rw [q] at sx
    simp only [q] at k
    obtain ⟨rr, e1, e2⟩ := T0.has z
    refine ⟨st z, rr, sx.1, rfl, by rw [← ht]; exact e1, ?_⟩
    rw [e2]
    exact okB fr1.rel k
  | _ => simp only [q] at k; exact k.elim
theorem e_inTW {neg : Bool} {op : CmpOp} (ht : t.K = X.K) (T0 : TabD t X.w X.mg x kvs) (hg : Gl X x) (he : PE X e (tE t W f)) (hm : behindInMarks op (.Name x p) = false)
    (ho : ∀ es n, KDict X.K X.w (He.ga t.K x) es n → OpR X (compareOp op) (rInT t X.K x neg))
    (hd : (x == ("__debug__" : Str)) = false := by decide) : PE X (.Compare e [op] [.Name x p] pos) (tE t W (eInT neg kvs f)) := by
  obtain ⟨es, n, kd⟩ := T0.kd
  exact PE.imp (pe_cmpR (ho es n (by rw [← ht]; exact kd)) he (pe_ga hg T0.at_ hd) hm) fun σ H Q h => inT_read ht T0 h
theorem t_inTW {neg : Bool} {op : CmpOp} (ht : t.K = X.K) (T0 : TabD t X.w X.mg x kvs) (hg : Gl X x) (he : PE X e (tE t W f)) (hm : behindInMarks op (.Name x p) = false)
    (ho : ∀ es n, KDict X.K X.w (He.ga t.K x) es n → OpR X (compareOp op) (rInT t X.K x neg))
    (hd : (x == ("__debug__" : Str)) = false := by decide) : PT X (.Compare e [op] [.Name x p] pos) (tBo t W (bCmp (eInT neg kvs f))) := by
  obtain ⟨es, n, kd⟩ := T0.kd
  refine PT.imp (pt_cmpR (ho es n (by rw [← ht]; exact kd)) he (pe_ga hg T0.at_ hd) hm) fun σ H Q h => ?_
  refine inT_read (W := W) ht T0 ?_
  obtain ⟨ads, F, env, M, fr, h⟩ := h
  refine Fr.bind fr h fun ads1 F1 M1 b1 H1 fr1 _ r pr k => ?_
  have sx := fr1.rel.view pr
  split at k
  · rename_i c e
    rw [e] at sx
    exact ⟨c, sx, k.ok fr1.rel rfl⟩
  · exact k.elim
theorem t_inT (ht : t.K = X.K) (T0 : TabD t X.w X.mg x kvs) (hg : Gl X x) (he : PE X e (tE t W f)) (hd : (x == ("__debug__" : Str)) = false := by decide) : PT X (.Compare e [.In] [.Name x p] pos) (tBo t W (bCmp (eInT false kvs f))) :=
  t_inTW ht T0 hg he rfl (fun es n kd => op_in_kd kd) hd
theorem t_ninT (ht : t.K = X.K) (T0 : TabD t X.w X.mg x kvs) (hg : Gl X x) (he : PE X e (tE t W f)) (hd : (x == ("__debug__" : Str)) = false := by decide) : PT X (.Compare e [.NotIn] [.Name x p] pos) (tBo t W (bCmp (eInT true kvs f))) :=
  t_inTW ht T0 hg he rfl (fun es n kd => op_notIn_kd kd) hd
theorem e_inT (ht : t.K = X.K) (T0 : TabD t X.w X.mg x kvs) (hg : Gl X x) (he : PE X e (tE t W f)) (hd : (x == ("__debug__" : Str)) = false := by decide) : PE X (.Compare e [.In] [.Name x p] pos) (tE t W (eInT false kvs f)) :=
  e_inTW ht T0 hg he rfl (fun es n kd => op_in_kd kd) hd
theorem e_ninT (ht : t.K = X.K) (T0 : TabD t X.w X.mg x kvs) (hg : Gl X x) (he : PE X e (tE t W f)) (hd : (x == ("__debug__" : Str)) = false := by decide) : PE X (.Compare e [.NotIn] [.Name x p] pos) (tE t W (eInT true kvs f)) :=
  e_inTW ht T0 hg he rfl (fun es n kd => op_notIn_kd kd) hd
theorem e_ixT (ht : t.K = X.K) (T0 : TabD t X.w X.mg x kvs) (hg : Gl X x) (he : PE X e (tE t W f)) (hs : PlainIx e) (hd : (x == ("__debug__" : Str)) = false := by decide) : PE X (.Subscript (.Name x p) e pos) (tE t W (eIxT kvs f)) := by
  obtain ⟨es, n, kd⟩ := T0.kd
  refine PE.imp (pe_ix ix_kdict (pe_ga hg T0.at_ hd) he hs) fun σ H Q h => ?_
  obtain ⟨ads, F, env, M, fr, h⟩ := h
  refine Fr.bind fr h fun ads1 F1 M1 v H1 fr1 _ r pr k => ?_
  have sx := fr1.rel.view pr
  cases q : vw M1 r with
  | str z =>
    rw [q] at sx
    simp only [q] at k
    cases q2 : lookT kvs z with
    | none => simp only [q2] at k; exact k.elim
    | some d =>
      simp only [q2] at k
      obtain ⟨v2, u, e1, rv, is⟩ := T0.yes z d q2
      exact ⟨_, st z, v2, rfl, sx.1, ⟨es, n, u, by rw [← ht]; exact kd.at_, kd.lit, by rw [← ht]; exact e1, rv⟩, okR (r := .d d) fr1.rel (is F1) k⟩
  | _ => simp only [q] at k; exact k.elim
theorem e_getT (ht : t.K = X.K) (T0 : TabD t X.w X.mg x kvs) (hg : Gl X x) (he : PE X e (tE t W f)) (he2 : PE X e2 (tE t W g)) (m : M2 X (.Name x p) "get" apos e e2 pos) (hd : (x == ("__debug__" : Str)) = false := by decide) :
    PE X (.Call (.Attribute (.Name x p) "get" apos) [e, e2] [] pos) (tE t W (eGetT kvs f g)) := by
  obtain ⟨es, n, kd⟩ := T0.kd
  refine ⟨fun pins s σ H Q I h => ?_⟩
  obtain ⟨ads, F, env, M, fr, h⟩ := h
  refine wpAny_Call_method m.base m.few m.line PySem.F.plainAttrs_dict PySem.F.slot_dict_get PySem.F.type_dict_get (thn ((pe_ga (a := He.ga t.K x) hg T0.at_ hd).run pins s σ H (fun v H' => v = .ref (He.ga t.K x) ∧ H' = H) I ⟨rfl, rfl⟩) fun u s1 ⟨v, H1, I1, rv, ev, eH⟩ => ?_)
  subst ev eH
  obtain rfl : u = Value.ref (He.ga t.K x) := rv
  have kdX : KDict X.K X.w (He.ga t.K x) es n := by rw [← ht]; exact kd
  refine ⟨kd_type kdX I1, fun b q => ?_, ?_⟩
  · cases q
    exact ⟨_, I1.kIn _ _ kdX.at_, rfl⟩
  rw [m.trees]
  have h := Fr.bind (P' := IsR t) fr h (Q1 := fun y H2 => tE t W g σ H2 fun zz H3 => ∃ z, y = .str z ∧ ((PySem.W.nsIn X.K (He.ga t.K x) z = some none ∧ Q zz H3) ∨ ∃ u v, PySem.W.nsIn X.K (He.ga t.K x) z = some (some u) ∧ RelV v u ∧ Q v H3)) fun ads1 F1 M1 v H1 fr1 _ r pr k => by
    refine Fr.bind fr1 k fun ads2 F2 M2 v2 H2 fr2 m2 y py k => ?_
    have sx := fr2.rel.view (pr.mono m2)
    cases q : vw M2 r with
    | str z =>
      rw [q] at sx
      simp only [q] at k
      cases q2 : lookT kvs z with
      | none =>
        simp only [q2] at k
        exact ⟨st z, sx.1, .inl ⟨by rw [← ht]; exact T0.no z q2, okR fr2.rel py k⟩⟩
      | some d =>
        simp only [q2] at k
        obtain ⟨v4, u, e1, rv, is⟩ := T0.yes z d q2
        exact ⟨st z, sx.1, .inr ⟨u, v4, by rw [← ht]; exact e1, rv, okR (r := .d d) fr2.rel (is F2) k⟩⟩
    | _ => simp only [q] at k; exact k.elim
  refine Calls.callWith_builtin rfl (Calls.evalArgs_plain (Calls.spliced_cons (thn (he.run pins s1 σ _ _ I1 h) fun iv s2 ⟨y, H2, I2, ry, q2⟩ =>
    Calls.spliced_cons (thn (he2.run pins s2 σ H2 _ I2 q2) fun fv s3 ⟨zz, H3, I3, rz, z, ey, q3⟩ => Calls.spliced_nil ?_))))
  subst ey
  obtain ⟨tk, rfl⟩ := (show ∃ tk, iv = Value.str z tk from ry)
  refine call_meetsIn PySem.F.slot_dict_get (kd_type kdX I3) PySem.F.entry_dict_get (PySem.F.args_dict_get_3 _ _ _) (meets_dict_get_default (strKind X.prog X.w) (He.ga t.K x) (strKind_is X.prog X.w z tk) kdX.low fv) ⟨_, PySem.W.mapOf_K (prog := X.prog) I3.kIn kdX.at_ kdX.lit, ?_⟩
  rcases q3 with ⟨eo, q3⟩ | ⟨u, v, eo, rv, q3⟩
  · rw [PySem.W.find_K kdX.at_ eo]
    exact ⟨zz, H3, I3.tok _, rz, q3⟩
  · rw [PySem.W.find_K kdX.at_ eo]
    exact ⟨v, H3, I3.tok _, rv, q3⟩
/-- a name of the module -/
theorem e_nm {d : D} (N0 : NameD t X.mg x d) (hg : Gl X x) (hd : (x == ("__debug__" : Str)) = false := by decide) : PE X (.Name x pos) (tE t W (eLit d)) := by
  obtain ⟨v, u, hm, r, hi⟩ := N0.ex
  exact e_glob hg hm r hi hd
end
end Lc
set_option Elab.async false
set_option linter.all false
set_option maxRecDepth 100000
set_option maxHeartbeats 4000000
/-! isinstance of a pair of built-in classes. -/
namespace Lc
open PySem PySem.Spec PyProof.Rows L2 LcX
def kit2 (n a b : String) : Option Bool := match kitB n a with
  | some true => some true
  | some false => kitB n b
  | none => none
theorem kit2_ok {K : PySem.W.Frag} {n a b : String} {r : Bool} (h : kit2 n a b = some r) : PySem.W.kitAny K (.type n) [.type a, .type b] = some r := by
  unfold kit2 at h
  cases q : kitB n a with
  | none => rw [q] at h; cases h
  | some x =>
    rw [q] at h
    cases x with
    | true =>
      cases h
      exact kitAny_cons (kit_ty q) (fun z => by cases z) fun _ => rfl
    | false =>
      refine kitAny_cons (kit_ty q) (fun _ => ?_) fun z => by cases z
      refine kitAny_cons (kit_ty h) (fun z => ?_) fun z => z
      rw [z]
      exact kitAny_nil
def eIsi2 (A B : String) (fe : E) : E := fun env M => (fe env M).bind fun r M1 => match tyName (vw M1 r) with
  | some n => match kit2 n A B with
    | some b => .ok (.d (.bl b)) M1
    | none => .no
  | none => .no
section
variable {t : Tx} {W : Wk} {X : Cx} {fe : E} {p pos : Pos}
theorem e_isi2 {e : Expr} {A B : String} {n1 n2 : Str} {p1 p2 p3 : Pos} {j : Nat} (ht : t.K = X.K) (hg : Gl X "isinstance") (hm : X.mg "isinstance" = none) (he : PE X e (tE t W fe)) (hg1 : Gl X n1) (hm1 : X.mg n1 = none) (hv1 : bootBuiltins n1 = some (.type A)) (hg2 : Gl X n2) (hm2 : X.mg n2 = none) (hv2 : bootBuiltins n2 = some (.type B))
    (hn1 : n1 ≠ "__name__" := by decide) (hd1 : (n1 == ("__debug__" : Str)) = false := by decide) (hn2 : n2 ≠ "__name__" := by decide) (hd2 : (n2 == ("__debug__" : Str)) = false := by decide)
    (hs3 : starEach [.Name n1 p1, .Name n2 p2] X.env = (false, eval (.Name n1 p1) X.env) :: starEach [.Name n2 p2] X.env := by rfl) (hs4 : starEach [.Name n2 p2] X.env = (false, eval (.Name n2 p2) X.env) :: starEach [] X.env := by rfl)
    (hs : starEach [e, .Tuple [.Name n1 p1, .Name n2 p2] j p3] X.env = (false, eval e X.env) :: starEach [.Tuple [.Name n1 p1, .Name n2 p2] j p3] X.env := by rfl)
    (hs2 : starEach [.Tuple [.Name n1 p1, .Name n2 p2] j p3] X.env = (false, eval (.Tuple [.Name n1 p1, .Name n2 p2] j p3) X.env) :: starEach [] X.env := by rfl) (hpl : (backTo pos (starEach [.Tuple [.Name n1 p1, .Name n2 p2] j p3] X.env)).any (·.1) = false := by rfl) :
    PE X (.Call (.Name "isinstance" p) [e, .Tuple [.Name n1 p1, .Name n2 p2] j p3] [] pos) (tE t W (eIsi2 A B fe)) :=
  PE.imp (pe_callB call_isiT hg hm (by decide +kernel) (pa_cons he (pa_cons (pe_tup (pa_cons (pe_bltn (v := .ty A) hg1 hm1 hv1 rfl hn1 hd1) (pa_cons (pe_bltn (v := .ty B) hg2 hm2 hv2 rfl hn2 hd2) pa_nil hs4) hs3)) pa_nil hs2) hs) (by decide) (by decide) hs hpl) fun σ H Q h => by
    obtain ⟨ads, F, env, M, fr, h⟩ := h
    refine Fr.bind fr h fun ads1 F1 M1 v H1 fr1 _ r pr k => ?_
    refine ⟨by show 2 ≤ sizeLine; rw [sizeLine_eq]; decide, fun tp hp => ?_⟩
    cases q : tyName (vw M1 r) with
    | none => simp only [q] at k; exact k.elim
    | some nn =>
      simp only [q] at k
      cases q2 : kit2 nn A B with
      | none => simp only [q2] at k; exact k.elim
      | some b =>
        simp only [q2] at k
        obtain ⟨R2, s2⟩ := fr1.rel.newF (o := .tup [.ty A, .ty B]) hp
        exact ⟨v, tp, _, .type nn, [.type A, .type B], b, rfl, upd_same, .cons (.ty A) (.cons (.ty B) .nil), tyX_ok ht R2 (pr.mono s2.mon) q, kit2_ok q2, k _ _ _ _ s2 R2 (isB (t := t) (upd F1 tp (.tup [.ty A, .ty B])) b)⟩
end
/-! x is False -/
def oIsB : R → R → Mem → Ro R := fun x y M => match vw M x, vw M y with
  | .bl a, .bl b => .ok (.d (.bl (decide (a = b)))) M
  | _, _ => .no
theorem d_isB {t : Tx} {X : Cx} : OpR X (compareOp .Is) (rD t oIsB) := by
  intro pins s σ H vx vy v u Q I rx ry h
  obtain ⟨W, ads, F, M, x, y, Rr, hx, hy, k⟩ := h
  have sx := Rr.view hx
  have sy := Rr.view hy
  unfold oIsB at k
  cases q : vw M x with
  | bl a =>
    cases q2 : vw M y with
    | bl b =>
      rw [q] at sx
      rw [q2] at sy
      simp only [q, q2] at k
      exact op_is_bl pins s σ H vx vy v u Q I rx ry ⟨a, b, sx, sy, okB Rr k⟩
    | _ => simp only [q, q2] at k; exact k.elim
  | _ => simp only [q] at k; exact k.elim
end Lc
set_option Elab.async false
set_option linter.all false
set_option maxRecDepth 100000
set_option maxHeartbeats 4000000
/-! What the head tells of the exception classes. -/
namespace Lc
open PySem PySem.Spec PyProof.Rows L2 LcX
def oexO (C : Addr) (o : Obj) : Bool := (match o with
  | ⟨c, _, .cls cd, sl⟩ => decide (c = .type "type") && ((match cd.mro with
    | .ref b :: bm => decide (b = C) && PySem.HandSPX.refsVE bm
    | _ => false) && ((match sl.toList with
    | [_, _, _, _, some (.builtin n), _] => decide (n = "ValueError.__new__")
    | _ => false) && (cd.hasDict && !cd.hasDel)))
  | _ => false)
def oexB (K : PySem.W.Frag) (C : Addr) : Bool := (match K.lookup C with
  | some o => oexO C o
  | none => false) && (decide (PySem.W.findIn K (.ref C) "__setattr__" = some (some (.builtin "object.__setattr__"))) && (decide (PySem.W.subIn K (.ref C) (.type "BaseException") = some true) && (decide (PySem.W.typeIn K (.ref C) = some (.type "type")) && PySem.W.keepIn K (.ref C))))
theorem oexB_ok {K : PySem.W.Frag} {C : Addr} (h : oexB K C = true) : OexC K C := by
  obtain ⟨h1, h⟩ := ba' h
  obtain ⟨h2, h⟩ := ba' h
  obtain ⟨h3, h⟩ := ba' h
  obtain ⟨h4, h5⟩ := ba' h
  refine ⟨?_, of_decide_eq_true h2, of_decide_eq_true h3, of_decide_eq_true h4, h5⟩
  cases q : K.lookup C with
  | none => rw [q] at h1; cases h1
  | some o =>
    rw [q] at h1
    obtain ⟨oc, od, dt, osl⟩ := o
    cases dt with
    | cls cd =>
      obtain ⟨g1, g⟩ := ba' h1
      obtain ⟨g2, g⟩ := ba' g
      obtain ⟨g3, g⟩ := ba' g
      obtain ⟨g4, g5⟩ := ba' g
      obtain ⟨nm, bs, mro, ns, qn, hd, sn, sub, ab, col, del⟩ := cd
      dsimp only at g2 g3 g4 g5
      have e1 : oc = .type "type" := of_decide_eq_true g1
      cases mro with
      | nil => cases g2
      | cons b bm =>
        cases b with
        | ref b =>
          obtain ⟨k1, k2⟩ := ba' g2
          have e2 : b = C := of_decide_eq_true k1
          obtain ⟨l⟩ := osl
          dsimp only at g3
          match l, g3 with
          | [s0, s1, s2, s3, some (.builtin n), s5], g3 =>
            have e3 : n = "ValueError.__new__" := of_decide_eq_true g3
            have e4 : del = false := by cases del <;> first | rfl | cases g5
            have e5 : hd = true := g4
            subst e1 e2 e3 e4 e5
            exact ⟨nm, qn, ns, bs, bm, sn, sub, ab, col, od, s0, s1, s2, s3, s5, rfl, k2⟩
        | _ => cases g2
    | _ => cases h1
/-- an own exception class with an __init__ of its own -/
def xclB (K : PySem.W.Frag) (x : Str) : Bool := oexB K (He.ga K x) && (decide (PySem.W.findIn K (.ref (He.ga K x)) "__init__" = some (some (.ref (He.ma K (He.ga K x) "__init__")))) && decide (PySem.W.typeIn K (.ref (He.ma K (He.ga K x) "__init__")) = some (.type "function")))
/-- the base whose __init__ they call -/
def basB (K : PySem.W.Frag) (x : Str) : Bool := decide (PySem.W.specialIn K (.ref (He.ga K x)) "__getattribute__" = some (some (.builtin "type.__getattribute__"))) && (PySem.W.readsIn K (He.ga K x) (.type "type") && (match PySem.W.findCls K (.ref (He.ga K x)) (.type "type") "__init__" with
  | some (.val (.builtin n)) => decide (n = "ValueError.__init__")
  | _ => false))
structure BasC (K : PySem.W.Frag) (x : Str) : Prop where
  hga : PySem.W.specialIn K (.ref (He.ga K x)) "__getattribute__" = some (some (.builtin "type.__getattribute__"))
  rd : PySem.W.readsIn K (He.ga K x) (.type "type") = true
  fc : PySem.W.findCls K (.ref (He.ga K x)) (.type "type") "__init__" = some (.val (.builtin "ValueError.__init__"))
theorem basB_ok {K : PySem.W.Frag} {x : Str} (h : basB K x = true) : BasC K x := by
  obtain ⟨h1, h⟩ := ba' h
  obtain ⟨h2, h3⟩ := ba' h
  refine ⟨of_decide_eq_true h1, h2, ?_⟩
  revert h3
  generalize PySem.W.findCls K (.ref (He.ga K x)) (.type "type") "__init__" = r
  intro h3
  cases r with
  | none => cases h3
  | some f =>
    cases f with
    | val v =>
      cases v with
      | builtin n => rw [show n = "ValueError.__init__" from of_decide_eq_true h3]
      | _ => cases h3
    | _ => cases h3
section
variable {t : Tx} {P : Program} {w : World} {K : PySem.W.Frag} {mg : Str → Option Value} {base : Heap} {k c : Nat} {fI : Addr} {qual : Str} {params : Arguments} {body : List Stmt} {r0 r1 r2 : Stmt} {scope : Scope} {fd : FuncData} {f1 f2 a1 a2 sf x : Str}
theorem xcls1 {ok : L2.St → Hp → Prop} (hx : xclB t.K x = true) (hc : t.xad c = He.ga t.K x) (hf : t.xfn c = [f1]) (F : FunD t.K "__init__" qual params body scope [] [] (He.ma t.K (He.ga t.K x) "__init__") fd) (hb : body = [r0, r1]) (S : FnScope [sf, a1] [sf, a1] scope)
    (hbd : ∀ (kV doc pm : Value) (an : Option Addr) (cdv ct : Value) (us : List Value), us.length = [sf, a1].length → bindArgs (PySem.W.fnOf "__init__" qual params body scope .none kV doc pm an cdv ct) ⟨us, []⟩ = pure ([sf, a1].zip us))
    (h0 : ∀ (T : OexC t.K (He.ga t.K x)) (cdv : Value) (A : Around) (outer : List PySem.Env) (s : Shared) (H : Hp), L2H.RoomH k (A.deeper (envOfC qual scope s.heap.objs.size (He.ma t.K (He.ga t.K x) "__init__") cdv)) → PS (cxF P w t.K mg base [sf, a1] qual scope (He.ma t.K (He.ga t.K x) "__init__") cdv A outer s H) r0 (fun D σ H => ∃ a, σ[0]? = some (some (.ref a)) ∧ H a = some (exo a (He.ga t.K x) none) ∧ ok σ H ∧ D.nx σ H))
    (h1 : ∀ (T : OexC t.K (He.ga t.K x)) (cdv : Value) (A : Around) (outer : List PySem.Env) (s : Shared) (H : Hp), PS (cxF P w t.K mg base [sf, a1] qual scope (He.ma t.K (He.ga t.K x) "__init__") cdv A outer s H) r1 (fun D σ H => ∃ a v, σ[0]? = some (some (.ref a)) ∧ σ[1]? = some (some v) ∧ H a = some (exo a (He.ga t.K x) none) ∧ ∀ d, H d = none → d ≠ a → D.nx σ (upd (upd H d (exd d [(f1, v)])) a (exo a (He.ga t.K x) (some d)))))
    (hok : ∀ (a : Addr) (v : V) (H : Hp), Shown t.K H v → ok [some (.ref a), some v] H) : XCls t P w t.K mg base c 1 (k + 1) := by
  obtain ⟨i1, i⟩ := ba' hx
  obtain ⟨i2, i3⟩ := ba' i
  have T := oexB_ok i1
  refine ⟨by rw [hc]; exact T, by rw [hf]; rfl, by decide, by decide, _, fd, [sf, a1], by rw [hc]; exact of_decide_eq_true i2, of_decide_eq_true i3, ?_, F.bindsN hbd⟩
  obtain ⟨oc, od, dV, kV, doc, pm, an, cdv, ct, osl, rfl, lk, hcd, _, _⟩ := F.ex
  subst hb
  rw [hc, hf]
  exact x_init1 lk hcd S (h0 T cdv) (h1 T cdv) hok
theorem xcls2 {ok : L2.St → Hp → Prop} (ne12 : f1 ≠ f2) (hx : xclB t.K x = true) (hc : t.xad c = He.ga t.K x) (hf : t.xfn c = [f1, f2]) (F : FunD t.K "__init__" qual params body scope [] [] (He.ma t.K (He.ga t.K x) "__init__") fd) (hb : body = [r0, r1, r2]) (S : FnScope [sf, a1, a2] [sf, a1, a2] scope)
    (hbd : ∀ (kV doc pm : Value) (an : Option Addr) (cdv ct : Value) (us : List Value), us.length = [sf, a1, a2].length → bindArgs (PySem.W.fnOf "__init__" qual params body scope .none kV doc pm an cdv ct) ⟨us, []⟩ = pure ([sf, a1, a2].zip us))
    (h0 : ∀ (T : OexC t.K (He.ga t.K x)) (cdv : Value) (A : Around) (outer : List PySem.Env) (s : Shared) (H : Hp), L2H.RoomH k (A.deeper (envOfC qual scope s.heap.objs.size (He.ma t.K (He.ga t.K x) "__init__") cdv)) → PS (cxF P w t.K mg base [sf, a1, a2] qual scope (He.ma t.K (He.ga t.K x) "__init__") cdv A outer s H) r0 (fun D σ H => ∃ a, σ[0]? = some (some (.ref a)) ∧ H a = some (exo a (He.ga t.K x) none) ∧ ok σ H ∧ D.nx σ H))
    (h1 : ∀ (T : OexC t.K (He.ga t.K x)) (cdv : Value) (A : Around) (outer : List PySem.Env) (s : Shared) (H : Hp), PS (cxF P w t.K mg base [sf, a1, a2] qual scope (He.ma t.K (He.ga t.K x) "__init__") cdv A outer s H) r1 (fun D σ H => ∃ a v, σ[0]? = some (some (.ref a)) ∧ σ[1]? = some (some v) ∧ H a = some (exo a (He.ga t.K x) none) ∧ ∀ d, H d = none → d ≠ a → D.nx σ (upd (upd H d (exd d [(f1, v)])) a (exo a (He.ga t.K x) (some d)))))
    (h2 : ∀ (T : OexC t.K (He.ga t.K x)) (cdv : Value) (A : Around) (outer : List PySem.Env) (s : Shared) (H : Hp), PS (cxF P w t.K mg base [sf, a1, a2] qual scope (He.ma t.K (He.ga t.K x) "__init__") cdv A outer s H) r2 (fun D σ H => ∃ a v d fs, σ[0]? = some (some (.ref a)) ∧ σ[2]? = some (some v) ∧ H a = some (exo a (He.ga t.K x) (some d)) ∧ H d = some (exd d fs) ∧ fs.length ≤ 900 ∧ D.nx σ (upd H d (exd d ((f2, v) :: fs)))))
    (hok : ∀ (a : Addr) (v u : V) (H : Hp), Shown t.K H v → Shown t.K H u → ok [some (.ref a), some v, some u] H) : XCls t P w t.K mg base c 2 (k + 1) := by
  obtain ⟨i1, i⟩ := ba' hx
  obtain ⟨i2, i3⟩ := ba' i
  have T := oexB_ok i1
  refine ⟨by rw [hc]; exact T, by rw [hf]; rfl, by decide, by decide, _, fd, [sf, a1, a2], by rw [hc]; exact of_decide_eq_true i2, of_decide_eq_true i3, ?_, F.bindsN hbd⟩
  obtain ⟨oc, od, dV, kV, doc, pm, an, cdv, ct, osl, rfl, lk, hcd, _, _⟩ := F.ex
  subst hb
  rw [hc, hf]
  exact x_init2 ne12 lk hcd S (h0 T cdv) (h1 T cdv) (h2 T cdv) hok
end
theorem roomM {k : Nat} {A : Around} (hr : Room k A) (h : Option Value) : L2H.RoomH k (A.mark h) := ⟨hr.dp, hr.un⟩
theorem roomH_u {k : Nat} {A : Around} (hr : L2H.RoomH k A) : A.units + 64 < cLine := by
  have := hr.un
  omega
section
variable {t : Tx} {W : Wk} {X : Cx} {k n c : Nat} {f C : Addr} {ps : List Str} {m : Fn} {x mn : Str} {p pos apos : Pos} {e o : Expr} {es : List Expr} {fs : Es} {fo : E} {keep frz : Bool}
theorem c_makeF (Mk0 : Mk X.K C f) (F : Fd t X.prog X.w X.K X.mg X.base k f ps m) (hn : ps.length = n) (hr : Room (k + 1) X.A) (hg : Gl X x) (hm : X.mg x = some (.ref C)) (tk : Tak X W.w) (hC : t.cad c = C) (ha : PA X (e :: es) (tEs t W fs))
    (hdb : (x == ("__debug__" : Str)) = false := by decide) (he : starEach (e :: es) X.env = (false, eval e X.env) :: starEach es X.env := by rfl) (hpl : (backTo pos (starEach es X.env)).any (·.1) = false := by rfl) :
    PE X (.Call (.Name x p) (e :: es) [] pos) (tE t W (eMake frz c n m fs [])) := by
  subst hn
  obtain ⟨fd, F, hk, hb⟩ := F.ex
  exact c_make Mk0 F hr hg hm hb dfl_nil tk hC ha hdb he hpl
theorem c_methF {pl : Sem Bool} (he : PE X o (tE t W fo)) (hcl : Cls X.K C) (hm : Meth X.K C mn f) (hC : t.cad c = C) (hf : mn ∉ t.cfn c) (F : Fd t X.prog X.w X.K X.mg X.base k f ps m) (hn : ps.length = n) (hr : Room k X.A) (tk : Tak X W.w) (ha : PA X (e :: es) (tEs t W fs))
    (hst : starEach (e :: es) X.env = (false, eval e X.env) :: starEach es X.env := by rfl) (hpl : (backTo pos (starEach es X.env)).any (·.1) = false := by rfl)
    (ht : eval (.Call (.Attribute o mn apos) (e :: es) [] pos) X.env = (do
      let ov ← eval o X.env
      standAt apos.atName
      let (f, first) ← holding [ov] (getMethod ov mn pl)
      callWith pos f first (backTo pos (starEach (e :: es) X.env)) (backToKw pos (keywordEach [] X.env))) := by rfl) :
    PE X (.Call (.Attribute o mn apos) (e :: es) [] pos) (tE t W (eMeth keep c n m fo fs [])) := by
  subst hn
  obtain ⟨fd, F, hk, hb⟩ := F.ex
  exact c_meth (pl := pl) he hcl hm hC hf F hr hb dfl_nil tk ha hst hpl ht
theorem c_methF0 {pl : Sem Bool} (he : PE X o (tE t W fo)) (hcl : Cls X.K C) (hm : Meth X.K C mn f) (hC : t.cad c = C) (hf : mn ∉ t.cfn c) (F : Fd t X.prog X.w X.K X.mg X.base k f ps m) (hn : ps.length = n) (hr : Room k X.A) (tk : Tak X W.w)
    (ht : eval (.Call (.Attribute o mn apos) [] [] pos) X.env = (do
      let ov ← eval o X.env
      standAt apos.atName
      let (f, first) ← holding [ov] (getMethod ov mn pl)
      callWith pos f first (backTo pos (starEach [] X.env)) (backToKw pos (keywordEach [] X.env))) := by rfl) :
    PE X (.Call (.Attribute o mn apos) [] [] pos) (tE t W (eMeth keep c n m fo esNil [])) := by
  subst hn
  obtain ⟨fd, F, hk, hb⟩ := F.ex
  exact c_meth0 (pl := pl) he hcl hm hC hf F hr hb dfl_nil tk ht
end
theorem exAt {l : List Bool} (h : l.all id = true) (i : Nat) {b : Bool} (e : l[i]? = some b) : b = true := List.all_eq_true.mp h b (List.mem_of_getElem? e)
theorem tabAt {fa : List He.Fa} {fn : List He.DefD} {ts : List He.Tab} {w : World} {K : PySem.W.Frag} (c : He.SaysT fa fn ts w K) (i : Nat) {p : He.Tab} (h : ts[i]? = some p) : He.dicW K (p.1 K) = some (He.keysIn w.params p.2) := by
  have e : ts.map (fun t => He.dicW K (t.1 K)) = ts.map fun t => some (He.keysIn w.params t.2) := congrArg (fun z : He.AlT => z.2) c
  have e2 : (ts.map fun t => He.dicW K (t.1 K))[i]? = (ts.map fun t => some (He.keysIn w.params t.2))[i]? := by rw [e]
  rw [List.getElem?_map, List.getElem?_map, h] at e2
  exact Option.some.inj e2
/-- no list stands in the written part -/
def noLst (K : PySem.W.Frag) : Bool := K.all fun q => decide (q.2.cls ≠ .type "list")
theorem noLst_ok {K : PySem.W.Frag} (h : noLst K = true) {H : Hp} {a : Addr} {xs : List V} (s : SqL K H a xs) : Rd H a (.lst xs) := by
  rcases s with s | ⟨o, its, n, hk, hc, _⟩
  · exact s
  · have z := of_decide_eq_true (List.all_eq_true.mp h (a, o) (He.lookup_mem hk))
    exact absurd hc z
/-- the head's Hook, the statics looked at too -/
def obY (n : Nat) (fa : List He.Fa) (fn : List He.DefD) (ts : List He.Tab) (ex : PySem.W.Frag → Bool) (g : Addr → Option Obj) : He.AlX := (He.obsT fa fn ts (He.frT g (cStatics :: He.asD g n)), ex (He.frT g (cStatics :: He.asD g n)))
def hookY (n : Nat) (fa : List He.Fa) (fn : List He.DefD) (ts : List He.Tab) (ex : PySem.W.Frag → Bool) : PySem.W.Hook where
  α := He.AlX
  obs := fun s => obY n fa fn ts ex s.heap.get?
  val := fun w => He.valX fn ts w
  says := fun w h => ∃ K : PySem.W.Frag, K.In h ∧ He.SaysX fa fn ts [] ex w h K
  of := fun _ _ e => ⟨_, He.frT_in, ⟨congrArg (fun z : He.AlX => z.1) e, congrArg (fun z : He.AlX => z.2) e, (fun _ h => nomatch h), (fun _ h => nomatch h), (fun _ h => nomatch h)⟩⟩
  keeps := fun _ _ _ ⟨K, hK, c⟩ k => ⟨K, PySem.W.Frag.In.keeps hK k, ⟨c.t, c.more, c.hd, c.out, fun _ h => nomatch h⟩⟩
theorem obY_eq {n : Nat} {fa : List He.Fa} {fn : List He.DefD} {ts : List He.Tab} {ex : PySem.W.Frag → Bool} {g : Addr → Option Obj} {s : Shared} (h : ∀ a, g a = s.heap.get? a) : obY n fa fn ts ex g = (show He.AlX from (hookY n fa fn ts ex).obs s) := by
  have e : g = s.heap.get? := funext h
  rw [e]
  rfl
end Lc
set_option Elab.async false
set_option linter.all false
set_option maxRecDepth 100000
set_option maxHeartbeats 4000000
/-! [.. for .. in .. for .. in ..] -/
namespace Lc
open PySem PySem.Spec PyProof.Rows L2 LcX
def compL2 {α β : Type} (tg : α → S) (tst : B) (src1 : Env → Mem → Ro (List β)) (tg1 : β → S) (tst1 : B) (elt : E) (vs1 : List Nat) (env : Env) : List α → List R → Mem → Ro (List R)
  | [], acc, M => .ok acc M
  | a :: as, acc, M => match tg a env M with
    | .nx e m => match tst e m with
      | .ok true m2 => match src1 e m2 with
        | .ok bs m3 => (compL tg1 tst1 elt (wipeE e vs1) bs acc m3).bind fun acc' m4 => compL2 tg tst src1 tg1 tst1 elt vs1 env as acc' m4
        | _ => .no
      | .ok false m2 => compL2 tg tst src1 tg1 tst1 elt vs1 env as acc m2
      | _ => .no
    | _ => .no
def eComp2 {α β : Type} (src : Env → Mem → Ro (List α)) (tg : α → S) (tst : B) (src1 : Env → Mem → Ro (List β)) (tg1 : β → S) (tst1 : B) (elt : E) (vs vs1 : List Nat) (cell : Bool) : E := fun env M =>
  (src env M).bind fun as M1 => (compL2 tg tst src1 tg1 tst1 elt vs1 (wipeE env vs) as [] M1).bind fun rs M2 => mk cell (.lst rs) M2
section
variable {t : Tx} {W : Wk} {X : Cx} {elt tge iter tge1 iter1 : Expr} {ifs ifs1 : List Expr} {scope : Scope} {own : List (Str × Nat)} {vs1 : List Nat} {pos : Pos} {g g1 : TG} {sl sl1 : List Nat} {α β : Type} {src : Env → Mem → Ro (List α)} {tg : α → S} {src1 : Env → Mem → Ro (List β)} {tg1 : β → S} {fb fb1 : B} {fe : E} {cell : Bool}
/-- what stands between two turns of a comprehension: the list so far at D, what is still to be done -/
def Mid (t : Tx) (W : Wk) (σ : L2.St) (ads1 : List Addr) (F1 H1 : Hp) (D : Addr) (Q : VK) (cell : Bool) (Per : List Addr → Hp → Prop) (σw : L2.St) (envw : Env) (go : List R → Mem → Ro (List R)) (H : Hp) : Prop :=
  ∃ ads F M acc accV, Stp ads1 F1 H1 ads F H ∧ Fr t Wn σw H ads F envw M ∧ Per ads F ∧ H D = some (.lst accV) ∧ IsRs t F ads acc accV ∧ D ∉ ads ∧ F D = none ∧
    Kt t (WE W.w σ) ads1 F1 H1 ((go acc M).bind fun rs M2 => mk cell (.lst rs) M2) Q
theorem inner_read {σ : L2.St} {ads1 : List Addr} {F1 H1 : Hp} {D : Addr} {Q : VK} {Per Per1 : List Addr → Hp → Prop} {σ2 : L2.St} {e : Env} {J1 : It} {bs : List β} {cont : List R → Mem → Ro (List R)} {Nx : Hp → Prop} (hD : H1 D = none) (hsl1 : ∀ j ∈ sl1, j ∈ vs1) (w1 : Walk t Wn [] g1 sl1 tg1 bs J1 Per1) (pm : ∀ ads ads' F F', Mon F F' ads ads' → Per ads F → Per ads' F')
    (nx : ∀ ads F M acc accV H, Stp ads1 F1 H1 ads F H → Rel t ads F M H → EnvR t F ads (wipeE e vs1) (wipe σ2 vs1) → Per ads F → H D = some (.lst accV) → IsRs t F ads acc accV → D ∉ ads → F D = none → Kt t (WE W.w σ) ads1 F1 H1 ((cont acc M).bind fun rs M2 => mk cell (.lst rs) M2) Q → Nx H)
    {H4 : Hp} (h : Mid t W σ ads1 F1 H1 D Q cell (fun a f => Per a f ∧ Per1 a f) (wipe σ2 vs1) (wipeE e vs1) (fun acc M => (compL tg1 fb1 fe (wipeE e vs1) bs acc M).bind cont) H4) :
    ∃ W1 : Nat → Nat → Hp → Prop, (∃ m, W1 0 m H4) ∧ ∀ j k H, W1 j k H → (J1.stop j H ∧ Nx H) ∨ (J1.go j H ∧ ∃ Nx1 : Hp → Prop, (∀ H', Nx1 H' → ∃ k', k' < k ∧ W1 (j + 1) k' H') ∧ ∀ x H', J1.yld j H x H' → gW g1 x (wipe σ2 vs1) H' fun σ3 H5 => wipe σ3 vs1 = wipe σ2 vs1 ∧ tBo t Wn fb1 σ3 H5 fun b H6 =>
        if b = true then tE t Wn fe σ3 H6 fun y H7 => ∃ acc, H7 D = some (.lst acc) ∧ acc.length < sizeLine ∧ Nx1 (upd H7 D (.lst (acc ++ [y]))) else Nx1 H6) := by
  let St1 : Nat → Hp → Prop := fun j H => Mid t W σ ads1 F1 H1 D Q cell (fun a f => Per a f ∧ Per1 a f) (wipe σ2 vs1) (wipeE e vs1) (fun acc M => (compL tg1 fb1 fe (wipeE e vs1) (bs.drop j) acc M).bind cont) H
  refine ⟨fun j k H => j ≤ bs.length ∧ k = bs.length - j ∧ St1 j H, ⟨_, Nat.zero_le _, rfl, h⟩, ?_⟩
  rintro j k H ⟨hj, rfl, ads, F, M, acc, accV, s, fr, per, hDa, ha, hp, hf, k⟩
  by_cases hl : j < bs.length
  · simp only [List.drop_eq_getElem_cons hl] at k
    refine .inr ⟨w1.go j ads F H hl fr.rel.ex per.2, St1 (j + 1), fun H' hN => ⟨_, by omega, hl, rfl, hN⟩, fun x H' y => ?_⟩
    unfold compL at k
    cases q1 : tg1 bs[j] (wipeE e vs1) M with
    | nx e1 m =>
      simp only [q1] at k
      let D1 : Ends := { nx := fun σ3 H5 => tBo t Wn fb1 σ3 H5 fun b H6 => if b = true then tE t Wn fe σ3 H6 fun y H7 => ∃ acc, H7 D = some (.lst acc) ∧ acc.length < sizeLine ∧ St1 (j + 1) (upd H7 D (.lst (acc ++ [y]))) else St1 (j + 1) H6, rt := fun _ _ => True }
      have z := w1.step j bs[j] ads F (wipeE e vs1) M (wipe σ2 vs1) H x H' D1 (List.getElem?_eq_getElem hl) fr (fun p hp => by cases hp) per.2 y (by
        rw [q1]
        intro ads2 F2 H2 σ3 s2 fr2 _
        refine ⟨ads2, F2, e1, m, fr2, ?_⟩
        cases q2 : fb1 e1 m with
        | ok b m2 =>
          simp only [q2] at k
          intro ads3 F3 H3 b' s3 r3 eb
          subst eb
          have s23 := s2.trans s3
          obtain ⟨d1, d2, d3⟩ := s23.keeps hDa hp hf
          cases b with
          | false =>
            rw [if_neg Bool.false_ne_true]
            exact ⟨ads3, F3, m2, acc, accV, s.trans s23, ⟨r3, fr.env.mono s23.mon, (fun p hp => by cases hp)⟩, ⟨pm _ _ _ _ s23.mon per.1, w1.mono _ _ _ _ s23.mon per.2⟩, d1, IsRs.mono s23.mon ha, d2, d3, k⟩
          | true =>
            rw [if_pos rfl]
            refine ⟨ads3, F3, e1, m2, fr2.step s3 r3, ?_⟩
            dsimp only at k
            cases q3 : fe e1 m2 with
            | ok r m3 =>
              simp only [q3] at k
              intro ads4 F4 H4 yv s4 r4 hr
              by_cases c : acc.length < SL
              · simp only [c, if_true] at k
                have s234 := s23.trans s4
                obtain ⟨e2, e3, e4⟩ := s234.keeps hDa hp hf
                exact ⟨accV, e2, by rw [← Paired.length ha, ← SL_eq]; exact c, ads4, F4, m3, acc ++ [r], accV ++ [yv], (s.trans s234).poke hD, ⟨r4.poke e3 e4, fr.env.mono s234.mon, (fun p hp => by cases hp)⟩, ⟨pm _ _ _ _ s234.mon per.1, w1.mono _ _ _ _ s234.mon per.2⟩, upd_same, pair_append (IsRs.mono s234.mon ha) (.cons hr .nil), e3, e4, k⟩
              · simp only [c] at k
                exact k.elim
            | ex _ _ => simp only [q3] at k; exact k.elim
            | no => simp only [q3] at k; exact k.elim
        | ex _ _ => simp only [q2] at k; exact k.elim
        | no => simp only [q2] at k; exact k.elim)
      exact ⟨_, fun σ2 H2 hz => ⟨wipe_same hz.1 hsl1, hz.2⟩, z⟩
    | bk _ _ => simp only [q1] at k; exact k.elim
    | ct _ _ => simp only [q1] at k; exact k.elim
    | rt _ _ => simp only [q1] at k; exact k.elim
    | ex _ _ _ => simp only [q1] at k; exact k.elim
    | no => simp only [q1] at k; exact k.elim
  · have e : j = bs.length := by omega
    subst e
    rw [List.drop_length] at k
    exact .inl ⟨w1.stop ads F H fr.rel.ex per.2, nx ads F M acc accV H s fr.rel fr.env per.1 hDa ha hp hf k⟩
theorem lc2_read (hsl : ∀ j ∈ sl, j ∈ own.map (·.2)) (hsl1 : ∀ j ∈ sl1, j ∈ vs1) {σ : L2.St} {H : Hp} {Q : VK} (h : tE t W (eComp2 src tg fb src1 tg1 fb1 fe (own.map (·.2)) vs1 cell) σ H Q) :
    tLc2 (tI t W Wn [] g sl src tg) (gW g) (tBo t Wn fb) (tI t Wn Wn [] g1 sl1 src1 tg1) (gW g1) (tBo t Wn fb1) (tE t Wn fe) (own.map (·.2)) vs1 σ H Q := by
  obtain ⟨ads, F, env, M, fr, h⟩ := h
  refine ⟨ads, F, env, M, fr, ?_⟩
  unfold eComp2 at h
  cases q : src env M with
  | ex x M1 =>
    rw [q] at h
    exact h
  | no => rw [q] at h; exact h.elim
  | ok as M1 =>
    rw [q] at h
    simp only [Ro.bind_ok] at h
    intro ads1 F1 H1 J Per s1 fr1 w per D hD
    have h := Kg.step s1 h
    have hD1 : D ∉ ads1 := fun z => fr1.rel.th D z hD
    have fD1 := fr1.rel.noF hD
    let St0 : Nat → Hp → Prop := fun i H => Mid t W σ ads1 F1 H1 D Q cell Per (wipe σ (own.map (·.2))) (wipeE env (own.map (·.2))) (fun acc M => compL2 tg fb src1 tg1 fb1 fe vs1 (wipeE env (own.map (·.2))) (as.drop i) acc M) H
    refine ⟨fun i m H => i ≤ as.length ∧ m = as.length - i ∧ St0 i H,
      ⟨_, Nat.zero_le _, rfl, ads1, F1, M1, [], [], Stp.refl.poke hD, ⟨fr1.rel.poke hD1 fD1, fr1.env.wipe, (fun p hp => by cases hp)⟩, per, upd_same, .nil, hD1, fD1, h⟩, ?_⟩
    rintro i m H ⟨hi, rfl, ads, F, M, acc, accV, s, fr, per, hDa, ha, hp, hf, k⟩
    by_cases hl : i < as.length
    · simp only [List.drop_eq_getElem_cons hl] at k
      refine .inr ⟨w.go i ads F H hl fr.rel.ex per, St0 (i + 1), fun H' hN => ⟨_, by omega, hl, rfl, hN⟩, fun x H' y => ?_⟩
      unfold compL2 at k
      cases q1 : tg as[i] (wipeE env (own.map (·.2))) M with
      | nx e m =>
        simp only [q1] at k
        let D1 : Ends := { nx := fun σ2 H2 => tBo t Wn fb σ2 H2 fun b H3 => if b = true then (tI t Wn Wn [] g1 sl1 src1 tg1 σ2 H3 fun J1 H4 => ∃ W1 : Nat → Nat → Hp → Prop, (∃ m, W1 0 m H4) ∧ ∀ j k H, W1 j k H →
            (J1.stop j H ∧ St0 (i + 1) H) ∨ (J1.go j H ∧ ∃ Nx1 : Hp → Prop, (∀ H', Nx1 H' → ∃ k', k' < k ∧ W1 (j + 1) k' H') ∧ ∀ x H', J1.yld j H x H' → gW g1 x (wipe σ2 vs1) H' fun σ3 H5 => wipe σ3 vs1 = wipe σ2 vs1 ∧ tBo t Wn fb1 σ3 H5 fun b H6 =>
              if b = true then tE t Wn fe σ3 H6 fun y H7 => ∃ acc, H7 D = some (.lst acc) ∧ acc.length < sizeLine ∧ Nx1 (upd H7 D (.lst (acc ++ [y]))) else Nx1 H6))
            else (St0 (i + 1) H3), rt := fun _ _ => True }
        have z := w.step i as[i] ads F (wipeE env (own.map (·.2))) M (wipe σ (own.map (·.2))) H x H' D1 (List.getElem?_eq_getElem hl) fr (fun p hp => by cases hp) per y (by
          rw [q1]
          intro ads2 F2 H2 σ2 s2 fr2 _
          refine ⟨ads2, F2, e, m, fr2, ?_⟩
          cases q2 : fb e m with
          | ok b m2 =>
            simp only [q2] at k
            intro ads3 F3 H3 b' s3 r3 eb
            subst eb
            have s23 := s2.trans s3
            obtain ⟨d1, d2, d3⟩ := s23.keeps hDa hp hf
            cases b with
            | false =>
              rw [if_neg Bool.false_ne_true]
              exact ⟨ads3, F3, m2, acc, accV, s.trans s23, ⟨r3, fr.env.mono s23.mon, (fun p hp => by cases hp)⟩, w.mono _ _ _ _ s23.mon per, d1, IsRs.mono s23.mon ha, d2, d3, k⟩
            | true =>
              rw [if_pos rfl]
              have fr3 := fr2.step s3 r3
              refine ⟨ads3, F3, e, m2, fr3, ?_⟩
              dsimp only at k
              cases q3 : src1 e m2 with
              | ok bs m3 =>
                simp only [q3] at k
                intro ads4 F4 H4 J1 Per1 s4 fr4 w1 per1
                have s234 := s23.trans s4
                obtain ⟨e1, e2, e3⟩ := s234.keeps hDa hp hf
                refine inner_read (W := W) (Per := fun a f => Per a f ∧ Mon F f ads a) (cell := cell) (e := e) (cont := fun acc' m4 => compL2 tg fb src1 tg1 fb1 fe vs1 (wipeE env (own.map (·.2))) (as.drop (i + 1)) acc' m4) hD hsl1 w1 (fun a a' f f' mm pp => ⟨w.mono _ _ _ _ mm pp.1, pp.2.trans mm⟩)
                  (fun adsx Fx Mx accx accVx Hx sx rx ex px hDx hax hpx hfx kx => ⟨adsx, Fx, Mx, accx, accVx, sx, ⟨rx, fr.env.mono px.2, (fun p hp => by cases hp)⟩, px.1, hDx, hax, hpx, hfx, kx⟩)
                  ⟨ads4, F4, m3, acc, accV, s.trans s234, ⟨fr4.rel, fr4.env.wipe, (fun p hp => by cases hp)⟩, ⟨⟨w.mono _ _ _ _ s234.mon per, s234.mon⟩, per1⟩, e1, IsRs.mono s234.mon ha, e2, e3, k⟩
              | ex _ _ => simp only [q3] at k; exact k.elim
              | no => simp only [q3] at k; exact k.elim
          | ex _ _ => simp only [q2] at k; exact k.elim
          | no => simp only [q2] at k; exact k.elim)
        exact ⟨_, fun σ2 H2 hz => ⟨wipe_same hz.1 hsl, hz.2⟩, z⟩
      | bk _ _ => simp only [q1] at k; exact k.elim
      | ct _ _ => simp only [q1] at k; exact k.elim
      | rt _ _ => simp only [q1] at k; exact k.elim
      | ex _ _ _ => simp only [q1] at k; exact k.elim
      | no => simp only [q1] at k; exact k.elim
    · have e : i = as.length := by omega
      subst e
      rw [List.drop_length] at k
      exact .inl ⟨w.stop ads F H fr.rel.ex per, Kg.adopt s fr.rel hD hDa hp hf (newL ha) k⟩
end
end Lc
set_option Elab.async false
set_option linter.all false
set_option maxRecDepth 100000
set_option maxHeartbeats 4000000
/-! a, b = x, y with plain local names. -/
namespace Lc
open PySem PySem.Spec PyProof.Rows L2 LcX
def sPar (i j : Nat) (fs : Es) : S := sLift fs fun rs env M => match two rs with
  | some (x, y) => .nx ((env.set i (some x)).set j (some y)) M
  | none => .no
theorem s_par {t : Tx} {W : Wk} {hs : List (Nat × V)} {X : Cx} {i j : Nat} {x y : Str} {a b : Expr} {fs : Es} {px py pt pos : Pos} {kt k2 pt2} (hc : X.calm = true) (hN : X.N.Nodup) (hi : X.N[i]? = some x) (hj : X.N[j]? = some y) (hij : i ≠ j)
    (hx : X.env.scope.names.lookup x = some .local) (hy : X.env.scope.names.lookup y = some .local) (hn : i ∉ hs.map (·.1) ∧ ∀ p ∈ W.xs, p.i ≠ i) (hn2 : j ∉ hs.map (·.1) ∧ ∀ p ∈ W.xs, p.i ≠ j) (ha : PA X [a, b] (tEs t W fs))
    (hw : swappedStores [.Tuple [.Name x px, .Name y py] kt pt] (.Tuple [a, b] k2 pt2) X.env = pure (some [x, y]) := by rfl)
    (hs' : swapsWithSole [.Tuple [.Name x px, .Name y py] kt pt] (.Tuple [a, b] k2 pt2) pos.line X.env = pure false := by rfl) :
    PS X (.Assign [.Tuple [.Name x px, .Name y py] kt pt] (.Tuple [a, b] k2 pt2) pos) (tS t W hs (sPar i j fs)) := PS.imp (ps_par hc hN hi hj hij hx hy ha hw hs') fun D σ H h => by
  obtain ⟨ads, F, env, M, fr, hid, h⟩ := h
  refine Fr.lift fr hid h fun ads1 F1 M1 vs H1 fr1 _ rs p k => ?_
  cases q : two rs with
  | none => simp only [q] at k; exact k.elim
  | some xy =>
    obtain ⟨u, w⟩ := xy
    simp only [q] at k
    have e := two_eq q
    subst e
    cases p with
    | cons p1 p2 =>
      cases p2 with
      | cons p2 p3 =>
        cases p3
        exact ⟨_, _, rfl, k _ _ _ _ .refl ((fr1.set hn.2 p1).set hn2.2 p2) ((hid.set hn.1).set hn2.1)⟩
end Lc
set_option Elab.async false
set_option linter.all false
set_option maxRecDepth 100000
set_option maxHeartbeats 4000000
/-! Exceptions as values: the machine's side. -/
namespace PySem
namespace LcP
open PySem.W PySem.Calls PyProof.Rows PySem.HandSPX
section
variable {M : Model} {A : Around} {E : Value → Shared → Prop} {h : Heap} {g : Array GenState} {d : Drawn} {t : Nat} {os : OsState}
variable {nm q : Str} {C N : Addr} {bs bm bmB : List Value} {hdct : Bool} {sn : List Str} {sub : List Value} {ab : Bool} {col : Option Bool} {dd : Option Addr} {k0 k1 k2 k3 k5 : Option Value} {B newId initId : String}
theorem check_new_k (F : ExcBaseFacts B newId initId bmB) (hT : ∀ X : String, bm.contains (.type X) = bmB.contains (.type X)) {rest : List Value} {kw : List (Str × Value)} {Q : Unit → Shared → Prop}
    (hC : h.get? C = some (excClassObj nm q C N bs bm hdct sn sub ab col dd k0 k1 k2 k3 k5 newId)) (hq : Q () ⟨h, g, d, t, os⟩) : wpAny M A (checkBuiltinCall newId ⟨.ref C :: rest, kw⟩) Q E ⟨h, g, d, t, os⟩ := by
  have hcont : (Value.ref C :: bm).contains (.type B) = true := by rw [List.contains_cons, hT, F.hasB, Bool.or_true]
  have hstar := F.noStar
  simp only [checkBuiltinCall, F.newKind, F.newSplit, F.newRow]
  repeat (first | refine wpAny_loadPart_at hC ?_ | (refine wpAny_isSubtype_exc hC ?_; rw [hcont]) | refine wpAny_staticBase_exc hC ?_ | refine wpAny_madeBy_exc hC ?_ | simp only [bne_self_eq_false, Bool.false_eq_true, if_false] | wp_step)
  all_goals first | exact hq | skip
end
section
variable {prog : Program} {w : World} {A : Around} {E : Value → Shared → Prop} {R : Result → Shared → Prop} {h : Heap} {g : Array GenState} {d : Drawn} {t : Nat} {os : OsState}
variable {nm q : Str} {C N : Addr} {bs bm bmB : List Value} {hdct : Bool} {sn : List Str} {sub : List Value} {ab : Bool} {col : Option Bool} {dd : Option Addr} {k0 k1 k2 k3 k5 : Option Value} {B newId initId : String}
theorem new_k (F : ExcBaseFacts B newId initId bmB) (hT : ∀ X : String, bm.contains (.type X) = bmB.contains (.type X)) {rest : List Value} {kw : List (Str × Value)}
    (hC : h.get? C = some (excClassObj nm q C N bs bm hdct sn sub ab col dd k0 k1 k2 k3 k5 newId))
    (hq : R (.ok (.ret (.ref (h.objs.size + 1)))) ⟨(h.push { cls := .type "tuple", data := .seq rest.toArray }).push
      { cls := .ref C, data := .fields #[.ref h.objs.size, .none, .none, .none, .bool false, .none] }, g, d, t, os⟩) (hrest : rest.length ≤ sizeLine) :
    codeAny (model prog w) A (.builtin newId ⟨.ref C :: rest, kw⟩) R ⟨h, g, d, t, os⟩ := by
  have hends := F.ends
  have hcB : (Value.ref C :: bm).contains (.type B) = true := by rw [List.contains_cons, hT, F.hasB, Bool.or_true]
  have hcA : (Value.ref C :: bm).contains (.type "AttributeError") = false := by rw [List.contains_cons, hT, F.noAttr]; rfl
  have hcN : (Value.ref C :: bm).contains (.type "NameError") = false := by rw [List.contains_cons, hT, F.noName]; rfl
  refine codeAny_builtinAt F.entry ?_
  unfold Builtin.«BaseException.__new__»
  refine wpAt_bind ?_
  show wpAt _ _ _ (stack >>= _) _ _ _
  refine wpAt_bind (wpAt_stack fun p below => wpAt_of_wpAny ?_)
  wp_walk
  refine wpAt_of_wpAny ?_
  rw [F.owner]
  repeat (first | with_reducible refine wpAny_madeHere_exc F.canon hC ?_ | with_reducible refine wpAny_loadPart_at hC ?_ | (with_reducible refine wpAny_isSubtype_exc hC ?_; first | rw [hcB] | rw [hcA] | rw [hcN]) | wp_step)
  show R _ _
  rw [Heap.size_push]
  exact hq
theorem type_call_k (F : ExcBaseFacts B newId initId bmB) (hT : ∀ X : String, bm.contains (.type X) = bmB.contains (.type X)) {rest : List Value} {kw : List (Str × Value)} {fI : Addr} {Q : Fin → Shared → Prop}
    (hC : h.get? C = some (excClassObj nm q C N bs bm hdct sn sub ab col dd k0 k1 k2 k3 k5 newId))
    (hi : W.Looks (model prog w) h (typeLookup (.ref C) "__init__") (some (.ref fI))) (hb : ∀ self, W.Looks (model prog w) h (bindSpecial (.ref fI) self) (.ref fI, [self])) (hrest : rest.length ≤ sizeLine)
    (hq : codeAny (model prog w) A (.call (.ref fI) ⟨.ref (h.objs.size + 1) :: rest, kw⟩)
      (fun r s' => match r with | .ok (.ret v) => v = .none ∧ Q (.done (.ret (.ref (h.objs.size + 1)))) s' | .ok _ => False | .error e => E e s')
      ⟨(h.push (W.kdv_tup rest)).push (excO C h.objs.size), g, d, t, os⟩) :
    wpAny (model prog w) A (Builtin.«type.__call__» ⟨.ref C :: rest, kw⟩) Q E ⟨h, g, d, t, os⟩ := by
  repeat (first | with_reducible refine wpAny_loadPart_at hC ?_ | with_reducible refine wpAny_madeBy_exc hC ?_ | wp_step)
  refine codeAny_call_builtin_code (Code.quiet_builtin _ F.quiet) (check_new_k F hT hC ?_)
  refine new_k F hT hC ?_ hrest
  show wpAny _ _ _ _ _ _
  have k : ∀ b o, h.get? b = some o → ((h.push (W.kdv_tup rest)).push (excO C h.objs.size)).get? b = some o := fun b o e => Heap.get?_push_of_some _ (Heap.get?_push_of_some _ e)
  have hC₁ := k _ _ hC
  have hget : ((h.push (W.kdv_tup rest)).push (excO C h.objs.size)).get? (h.objs.size + 1) = some (excO C h.objs.size) := by heap_get
  have hcC : (Value.ref C :: bm).contains (.ref C) = true := by simp
  have i1 := hi.keeps k
  have b1 := (hb (.ref (h.objs.size + 1))).keeps k
  unfold isInstance
  repeat (first | with_reducible refine wpAny_loadPart_at hget ?_ | (with_reducible refine wpAny_isSubtype_exc hC₁ ?_; rw [hcC]) | wp_step)
  show wpAny _ _ (typeLookup (.ref C) _) _ _ _
  refine i1.at ?_
  refine wpAny_holding (wpAny_bind (b1.at ?_))
  refine wpAny_bind (wpAny_call (codeAny_mono hq fun r s' z => ?_))
  rcases r with e | (v | _ | _ | _) <;> first | exact z | exact z.elim | skip
  obtain ⟨rfl, z⟩ := z
  first
    | exact wpAny_pure (wpAny_pure z)
    | (wp_walk; exact z)
theorem call_k (F : ExcBaseFacts B newId initId bmB) (hT : ∀ X : String, bm.contains (.type X) = bmB.contains (.type X)) {rest : List Value} {kw : List (Str × Value)} {fI : Addr}
    (hC : h.get? C = some (excClassObj nm q C N bs bm hdct sn sub ab col dd k0 k1 k2 k3 k5 newId))
    (hi : W.Looks (model prog w) h (typeLookup (.ref C) "__init__") (some (.ref fI))) (hb : ∀ self, W.Looks (model prog w) h (bindSpecial (.ref fI) self) (.ref fI, [self])) (hrest : rest.length ≤ sizeLine)
    (hq : codeAny (model prog w) (A.under (.builtin "type.__call__" ⟨.ref C :: rest, kw⟩)) (.call (.ref fI) ⟨.ref (h.objs.size + 1) :: rest, kw⟩) (W.InitBack (h.objs.size + 1) R)
      ⟨(h.push (W.kdv_tup rest)).push (excO C h.objs.size), g, d, t, os⟩) :
    codeAny (model prog w) A (.call (.ref C) ⟨rest, kw⟩) R ⟨h, g, d, t, os⟩ := by
  have f1 := tc_lookup
  have f2 := tc_bind (.ref C)
  have hTy : (⟨h, g, d, t, os⟩ : Shared).TypeIs (.ref C) "type" := ⟨_, hC, rfl⟩
  refine codeAny_of_tree ?_
  show wpAny _ _ (callAny (.ref C) _) _ _ _
  repeat (any_goals (first | assumption | with_reducible refine wpAny_loadPart_at hC ?_ | wp_step))
  refine ⟨rfl, ?_⟩
  refine codeAny_call_builtin_at (Code.quiet_builtin _ (by decide +kernel)) entry_typeCall (wpAny_check_type_call_sub hC (type_call_k F hT hC hi hb hrest ?_))
  refine codeAny_mono hq fun r s' z => ?_
  rcases r with e | (v | _ | _ | _) <;> exact z
end
end LcP
end PySem
namespace PySem.W
open PySem PySem.Calls PyProof.Rows
/-- isinstance asks an exception of an own class, with a dict or without -/
theorem kitx_excD {K : Frag} {x D : Addr} {ox : Obj} {od : Option Obj} (C : L2.ExcC K D) : KitX K (.ref x) (.ref D) (fun h => InstAt h x ox D od) where
  ty := fun _ _ _ I => I.type
  it := fun _ _ X _ => by
    obtain ⟨cdD, hcD, _⟩ := any_some C.hd
    unfold clsIn at hcD
    split at hcD
    · rename_i c' d' cd' sl' ho
      intro A' Q' E' s' k q
      unfold isType loadHead
      exact wpAny_bind (wpAny_loadPart (k _ _ (X _ _ ho)) (wpAny_pure q))
    · cases hcD
  ne := fun h tp dd its n sl X htp => by
    obtain ⟨cdD, hcD, _⟩ := any_some C.hd
    refine Bool.eq_false_iff.mpr fun q => ?_
    have e : D = tp := Value.ref.inj (beq_iff_eq.mp q)
    subst e
    unfold clsIn at hcD
    split at hcD
    · rename_i c' d' cd' sl' ho
      have z := (X _ _ ho).symm.trans htp
      cases z
    · cases hcD
  ca := fun X I k => by
    have hc : (clsIn K D).isSome = true := by obtain ⟨cd, hc, _⟩ := any_some C.hd; rw [hc]; rfl
    exact kx_classE X I C.hg C.hk C.hs (findObj_dataE hc C.ha C.hn C.ht) C.hm k
end PySem.W
namespace LcX
open PySem PySem.Spec PyProof.Rows L2
/-- an exception that stands at a: its class, its dict -/
def ExAt (H : Hp) (a D : Addr) (dd : Option Addr) : Prop := H a = some (exo a D dd) ∧ (dd = none ∨ ∃ d fs, dd = some d ∧ H d = some (exd d fs))
theorem exAt_inst {X : Cx} {pins : List (Addr × Obj)} {σ : L2.St} {H : Hp} {s : Shared} {a D : Addr} {dd : Option Addr} (I : Inv X pins σ H s) (h : ExAt H a D dd) : ∃ ox od, PySem.W.InstAt s.heap a ox D od ∧ (∀ d, dd = some d → ∃ o, od = some o ∧ s.heap.get? d = some o) ∧ (dd = none → od = none) := by
  obtain ⟨h1, h2⟩ := h
  obtain ⟨t1, ho⟩ := exo_at I.hok h1
  rcases h2 with rfl | ⟨d, fs, rfl, h3⟩
  · exact ⟨_, none, ⟨ho, rfl, rfl, trivial⟩, (fun _ z => nomatch z), fun _ => rfl⟩
  · obtain ⟨mA, hns, rel⟩ := exd_at I.hok h3
    obtain ⟨oD, _, _, hoD, _, _⟩ := hns.count (within_of rel)
    exact ⟨_, some oD, ⟨ho, rfl, rfl, hoD⟩, (fun d' z => by cases z; exact ⟨oD, rfl, hoD⟩), fun z => nomatch z⟩
/-- isinstance(e, c) -/
def rIsV (K : PySem.W.Frag) : List V → Hp → VK → Prop := fun xs H Q => ∃ (a D : Addr) (dd : Option Addr) (c : V) (cv : Value) (b : Bool), xs = [.ref a, c] ∧ ExAt H a D dd ∧ ExcC K D ∧ (∀ u, RelV c u → u = cv) ∧ PySem.W.kitOne K (.ref D) cv = some b ∧ Q (.bl b) H
theorem call_isV {X : Cx} : CallR X (.builtin "isinstance") (rIsV X.K) := by
  intro pins s σ H xs us Q I r h
  obtain ⟨a, D, dd, c, cv, b, rfl, ea, C, hcv, e, q⟩ := h
  obtain ⟨u1, u2, rfl, r1, r2⟩ := vals2 r
  cases (show u1 = Value.ref a from r1)
  have ec := hcv _ r2
  subst ec
  obtain ⟨ox, od, J, _, _⟩ := exAt_inst I ea
  exact PySem.W.kia_one (PySem.W.kitx_excD C) I.kIn J e (fun z => nomatch z) fun tk => ⟨.bl b, H, I.tok tk, rfl, q⟩
/-- e.f -/
def tXv (K : PySem.W.Frag) (n : Str) (te : TE) : TE := fun σ H Q => te σ H fun x H1 => ∃ (a D d : Addr) (fs : List (Str × V)) (v : V), x = .ref a ∧ H1 a = some (exo a D (some d)) ∧ H1 d = some (exd d fs) ∧ XfC K D ∧ PySem.W.findIn K (.ref D) n = some none ∧ fs.lookup n = some v ∧ Q v H1
theorem pe_xv {Y : Cx} {e : Expr} {te : TE} {n : Str} {pos : Pos} (he : PE Y e te) (hb : attributeBase e n Y.env (eval e Y.env) = eval e Y.env := by rfl) : PE Y (.Attribute e n pos) (tXv Y.K n te) := by
  refine ⟨fun pins s σ H Q I h => ?_⟩
  refine attr_of hb (thn (he.run pins s σ H _ I h) fun u s1 hh => ?_)
  obtain ⟨x, H1, I1, rx, a, D, d, fs, v, ex, ea, ed, T, hno, l, q⟩ := hh
  subst ex
  obtain rfl : u = Value.ref a := rx
  obtain ⟨t1, ho⟩ := exo_at I1.hok ea
  obtain ⟨mA, hns, hr⟩ := exd_at I1.hok ed
  obtain ⟨od, hod, hl⟩ := lookIn_ns hns
  obtain ⟨u, hu, ru⟩ := RelO.some_of (v := v) (o := mA n) (by rw [← l]; exact hr n)
  have J : PySem.W.InstAt s1.heap a _ D (some od) := ⟨ho, rfl, rfl, hod⟩
  exact HandSPX.exc_get I1.kIn J T.ga T.gg T.exC (PySem.W.findObj_own T.hdC hno rfl (by rw [hl, hu])) (handed_of ru) ⟨v, H1, I1.tok _, ru, q⟩
/-! ### C(..) -/
/-- C(..), gV: where the values go -/
def tMkV (C : Addr) (n m : Nat) (sp : Sp) (gV : List V → List V → List V) (t tk : TA) : TE := fun σ H Q => t σ H fun vs H1 => tk σ H1 fun zs H2 => vs.length = n ∧ zs.length = m ∧ ∀ a, H2 a = none →
  sp (gV (.ref a :: vs) zs) (upd H2 a (exo a C none)) (fun v H3 => v = .non ∧ Q (.ref a) H3) E0
section
variable {X : Cx} {k n : Nat} {fI C : Addr} {fd : FuncData} {ps ks : List Str} {sp : Sp} {x : Str} {p pos : Pos} {e : Expr} {es : List Expr} {kws : List Keyword} {t tk : TA} {g : List Value → List Value → List Value} {gV : List V → List V → List V}
theorem run_mkV {pins : List (Addr × Obj)} {σ : L2.St} {H : Hp} {s : Shared} {Q : VK} {us ws : List Value} {vs zs : List V} (T : OexC X.K C) (iC : PySem.W.findIn X.K (.ref C) "__init__" = some (some (.ref fI))) (tI : PySem.W.typeIn X.K (.ref fI) = some (.type "function"))
    (F1 : FnF X.prog X.w X.K X.mg X.base k fI fd ps sp) (hr : L2H.RoomH (k + 1) X.A) (hb : KBn X.K fd ps (n + 1) ks g gV) (hn : n ≤ 1000)
    (I : Inv X pins σ H s) (r : Vals vs us) (rz : Vals zs ws) (l1 : vs.length = n) (l2 : zs.length = ks.length)
    (h : ∀ a, H a = none → sp (gV (.ref a :: vs) zs) (upd H a (exo a C none)) (fun v H3 => v = .non ∧ Q (.ref a) H3) E0) :
    wpAny (model X.prog X.w) X.A (call (.ref C) us (ks.zip ws)) (EP X pins σ Q) X.xe s := by
  obtain ⟨nm, q, N, bs, bm, sn, sub, ab, col, dd, k0, k1, k2, k3, k5, hC, hbm⟩ := T.cls
  obtain ⟨hp, g', dr, tk', os⟩ := s
  have hsz : hp.objs.size ≤ hp.objs.size + 1 := Nat.le_succ _
  have hq := h (hp.objs.size + 1) (I.hok.fresh hsz)
  have keep2 : ∀ b o, hp.get? b = some o → ((hp.push (PySem.W.kdv_tup us)).push (PySem.HandSPX.excO C hp.objs.size)).get? b = some o := fun b o e => Heap.get?_push_of_some _ (Heap.get?_push_of_some _ e)
  have there : ((hp.push (PySem.W.kdv_tup us)).push (PySem.HandSPX.excO C hp.objs.size)).get? (hp.objs.size + 1) = some (PySem.HandSPX.excO C hp.objs.size) := by heap_get
  have I2 : Inv X pins σ (upd H (hp.objs.size + 1) (exo (hp.objs.size + 1) C none)) ⟨(hp.push (PySem.W.kdv_tup us)).push (PySem.HandSPX.excO C hp.objs.size), g', dr, tk', os⟩ :=
    I.laid (t' := tk') (a := hp.objs.size + 1) (o := exo (hp.objs.size + 1) C none) (h' := (hp.push (PySem.W.kdv_tup us)).push (PySem.HandSPX.excO C hp.objs.size)) keep2 hsz (exo_ok there)
  have r1 : Vals (V.ref (hp.objs.size + 1) :: vs) (Value.ref (hp.objs.size + 1) :: us) := .cons rfl r
  have r2 := hb.rel r1 rz
  have n1 : (Value.ref (hp.objs.size + 1) :: us).length = n + 1 := by
    rw [List.length_cons, ← r.length, l1]
  have hus : us.length ≤ sizeLine := by
    rw [← Paired.length r, sizeLine_eq, l1]
    omega
  have hr2 : L2H.RoomH k (X.A.under (.builtin "type.__call__" ⟨.ref C :: us, ks.zip ws⟩)) := ⟨by have := hr.dp; rw [make_depth]; omega, by have := hr.un; rw [make_units]; omega⟩
  refine wpAny_call (PySem.LcP.call_k F.excBase_ValueError (fun Y => PySem.HandSPX.refsVE_contains Y bm hbm) (I.kIn _ _ hC) (PySem.W.looks_findIn I.kIn iC) (fun self => PySem.W.bind_fn I.kIn self tI) hus
    (codeAny_mono (F1.run _ X.stack _ _ ⟨Value.ref (hp.objs.size + 1) :: us, ks.zip ws⟩ (g (Value.ref (hp.objs.size + 1) :: us) ws) _ _ hr2 (I2.env0.make C us (ks.zip ws)) (hb.to _ (Value.ref (hp.objs.size + 1) :: us) ws I2.kIn n1 (rz.length.symm.trans l2)) r2 hq) fun r sx hq2 => ?_))
  cases r with
  | error er => exact (show False from hq2).elim
  | ok fl =>
    cases fl with
    | ret u =>
      obtain ⟨v, H', I3, rv, ev, q3⟩ := I2.after hq2
      subst ev
      exact ⟨rv, ⟨V.ref (hp.objs.size + 1), H', I3, rfl, q3⟩⟩
    | next => exact False.elim hq2
    | brk => exact False.elim hq2
    | cont => exact False.elim hq2
/-- C(e, ..) -/
theorem pe_mkV (T : OexC X.K C) (iC : PySem.W.findIn X.K (.ref C) "__init__" = some (some (.ref fI))) (tI : PySem.W.typeIn X.K (.ref fI) = some (.type "function"))
    (F1 : FnF X.prog X.w X.K X.mg X.base k fI fd ps sp) (hr : L2H.RoomH (k + 1) X.A) (hb : KBn X.K fd ps (n + 1) [] g gV) (hn : n ≤ 1000) (hg : Gl X x) (hm : X.mg x = some (.ref C)) (ha : PA X (e :: es) t)
    (hdb : (x == ("__debug__" : Str)) = false := by decide) (he : starEach (e :: es) X.env = (false, eval e X.env) :: starEach es X.env := by rfl) (hpl : (backTo pos (starEach es X.env)).any (·.1) = false := by rfl) :
    PE X (.Call (.Name x p) (e :: es) [] pos) (tMkV C n 0 sp gV t tNil) := by
  refine ⟨fun pins s σ H Q I h => ?_⟩
  refine wpAny_Call_Name_kw (ld_glob I hg hm ?_ hdb)
  refine PySem.W.callWith_K (h₀ := X.base) I.ok.mod.kin T.kC (thn (ha.run pos pins s σ H _ I h) fun us s1 hh => ?_) he hpl
  obtain ⟨vs, H1, I1, r1, q1⟩ := hh
  refine ⟨I1.kIn, ?_⟩
  obtain ⟨l1, l2, q2⟩ := q1
  exact run_mkV (ws := []) (zs := []) T iC tI F1 hr hb hn I1 r1 .nil l1 rfl q2
/-- C(k = v, ..) -/
theorem pe_mkVK (T : OexC X.K C) (iC : PySem.W.findIn X.K (.ref C) "__init__" = some (some (.ref fI))) (tI : PySem.W.typeIn X.K (.ref fI) = some (.type "function"))
    (F1 : FnF X.prog X.w X.K X.mg X.base k fI fd ps sp) (hr : L2H.RoomH (k + 1) X.A) (hb : KBn X.K fd ps 1 ks g gV) (hg : Gl X x) (hm : X.mg x = some (.ref C)) (hkw : PK X kws tk)
    (hall : (backToKw pos (keywordEach kws X.env)).all (·.1.isSome) = true := by rfl) (hks : (backToKw pos (keywordEach kws X.env)).filterMap (·.1) = ks := by rfl) (hdb : (x == ("__debug__" : Str)) = false := by decide)
    (hpl : ((backTo pos (starEach [] X.env)).any (·.1) || (backToKw pos (keywordEach kws X.env)).any (·.1.isNone)) = false := by rfl) :
    PE X (.Call (.Name x p) [] kws pos) (tMkV C 0 ks.length sp gV tNil tk) := by
  refine ⟨fun pins s σ H Q I h => ?_⟩
  refine wpAny_Call_Name_kw (ld_glob I hg hm ?_ hdb)
  refine PySem.W.callWith_KW0 (h₀ := X.base) I.ok.mod.kin T.kC hall ?_ hpl
  refine thn (hkw.run pos pins s σ H _ I h) fun ws s2 hh => ?_
  obtain ⟨zs, H2, I2, rz, l1, l2, q2⟩ := hh
  refine ⟨I2.kIn, ?_⟩
  rw [hks]
  exact run_mkV (us := []) (vs := []) (n := 0) T iC tI F1 hr hb (by decide) I2 .nil rz rfl l2 q2
end
end LcX
set_option Elab.async false
set_option linter.all false
set_option maxRecDepth 100000
set_option maxHeartbeats 4000000
/-! Exceptions as values: mirrors and rules. -/
namespace Lc
open PySem PySem.Spec PyProof.Rows L2 LcX
theorem pk_cons' {t : Tx} {W : Wk} {X : Cx} {f : E} {fs : Es} {nm : Option Str} {kpos : Pos} {e : Expr} {kws : List Keyword} (h1 : PE X e (tE t W f)) (h2 : PK X kws (tEs t W fs)) : PK X (⟨nm, e, kpos⟩ :: kws) (tEs t W (esCons f fs)) :=
  ⟨fun pos pins s σ H Q I h => (pk_cons h1 h2).run pos pins s σ H Q I (by
    obtain ⟨ads, F, env, M, fr, h⟩ := h
    refine Fr.bind fr h fun ads1 F1 M1 b1 H1 fr1 _ x px h1 => ?_
    refine Fr.bind fr1 h1 fun ads2 F2 M2 b2 H2 fr2 m xs pxs h2 => ?_
    exact h2.ok fr2.rel (.cons (px.mono m) pxs))⟩
theorem pk_nil' {t : Tx} {W : Wk} {X : Cx} : PK X [] (tEs t W esNil) :=
  ⟨fun pos pins s σ H Q I h => pk_nil.run pos pins s σ H Q I (by
    obtain ⟨ads, F, env, M, fr, h⟩ := h
    exact h _ _ _ _ .refl fr.rel .nil)⟩
/-- C's __init__ of n arguments, the fields fn (or none at all) -/
def spV (K : PySem.W.Frag) (C : Addr) (fn : List Str) (n : Nat) : Sp := fun vs H Q _ => vs.length = n + 1 ∧ ∃ a args, vs = .ref a :: args ∧ H a = some (exo a C none) ∧ (∀ v ∈ args, Shown K H v) ∧
  (if fn = [] then Q .non H else ∀ d fs H2, H d = none → d ≠ a → (H2 a = some (exo a C (some d)) ∧ H2 d = some (exd d fs) ∧ ∀ b, b ≠ a → b ≠ d → H2 b = H b) → (∀ (i : Nat) f v, fn[i]? = some f → args[i]? = some v → fs.lookup f = some v) → Q .non H2)
/-- a class of exceptions, as its values are made -/
structure XVc (t : Tx) (P : Program) (w : World) (K : PySem.W.Frag) (mg : Str → Option Value) (base : Heap) (c n kp k : Nat) (ks : List Str) : Prop where
  T : OexC K (t.xad c)
  fl : (t.xfn c).length = kp
  kn : kp = 0 ∨ kp = n
  few : n ≤ 5
  ini : ∃ fI fd ps, PySem.W.findIn K (.ref (t.xad c)) "__init__" = some (some (.ref fI)) ∧ PySem.W.typeIn K (.ref fI) = some (.type "function") ∧ FnF P w K mg base k fI fd ps (spV K (t.xad c) (t.xfn c) n) ∧
    KBn K fd ps (n + 1) [] (fun us _ => us) (fun vs _ => vs) ∧ KBn K fd ps 1 ks (fun us ws => us ++ ws.reverse) (fun vs zs => vs ++ zs.reverse)
theorem FnF.imp {P : Program} {w : World} {K : PySem.W.Frag} {mg : Str → Option Value} {base : Heap} {k : Nat} {f : Addr} {fd : FuncData} {ps : List Str} {sp sp' : Sp} (F : FnF P w K mg base k f fd ps sp) (h : ∀ vs H Q E, sp' vs H Q E → sp vs H Q E) : FnF P w K mg base k f fd ps sp' :=
  ⟨fun vs H Q E q => F.len _ _ _ _ (h _ _ _ _ q), fun A outer s H args us vs Q hr e b r q => F.run A outer s H args us vs Q hr e b r (h _ _ _ _ q)⟩
theorem spV_spX {K : PySem.W.Frag} {C : Addr} {fn : List Str} {n : Nat} (h : fn ≠ []) {vs : List V} {H : Hp} {Q : VK} {E : XK} (q : spV K C fn n vs H Q E) : spX K C fn n vs H Q E := by
  obtain ⟨h1, a, args, h2, h3, h4, h5⟩ := q
  rw [if_neg h] at h5
  exact ⟨h1, a, args, h2, h3, h4, h5⟩
section
variable {K : PySem.W.Frag} {x qual : Str} {params : Arguments} {body : List Stmt} {scope : Scope} {kws : List (Str × V)} {f : Addr} {fd : FuncData} {ps : List Str}
theorem FunD.kb (F : FunD K x qual params body scope [] kws f fd) (n : Nat) (ks : List Str) (g : {α : Type} → List α → List α → List α) (hrel : ∀ {vs zs : List V} {us ws : List Value}, Vals vs us → Vals zs ws → Vals (g vs zs) (g us ws))
    (h : ∀ (kV doc pm : Value) (an : Option Addr) (cdv ct : Value) (us ws : List Value), us.length = n → ws.length = ks.length → bindArgs (PySem.W.fnOf x qual params body scope .none kV doc pm an cdv ct) ⟨us, ks.zip ws⟩ = pure (ps.zip (g us ws))) : KBn K fd ps n ks (fun us ws => g us ws) (fun vs zs => g vs zs) := by
  obtain ⟨oc, od, dV, kV, doc, pm, an, cdv, ct, osl, rfl, lk, hcd, hD, hK⟩ := F.ex
  rcases hD with ⟨_, rfl⟩ | ⟨e, _⟩
  · exact ⟨fun s us ws X l1 l2 => .of_eq (h kV doc pm an cdv ct us ws l1 l2), fun r1 r2 => hrel r1 r2⟩
  · exact absurd rfl e
end
theorem vals_append {vs zs : List V} {us ws : List Value} (h1 : Vals vs us) (h2 : Vals zs ws) : Vals (vs ++ zs) (us ++ ws) := pair_append h1 h2
section
variable {P : Program} {w : World} {K : PySem.W.Frag} {mg : Str → Option Value} {base : Heap} {k : Nat} {f C : Addr} {name qual : Str} {params : Arguments} {r0 : Stmt} {scope : Scope} {dV kV doc pm cdv ct oc : Value} {an od : Option Addr} {osl : Array (Option Value)} {a1 sf : Str}
/-- no field -/
theorem x_init0 {ok : L2.St → Hp → Prop} (lk : K.lookup f = some ⟨oc, od, .func (PySem.W.fnOf name qual params [r0] scope dV kV doc pm an cdv ct), osl⟩) (hcd : PySem.W.codeIn K cdv qual = true) (S : FnScope [sf, a1] [sf, a1] scope)
    (h0 : ∀ (A : Around) (outer : List PySem.Env) (s : Shared) (H : Hp), L2H.RoomH k (A.deeper (envOfC qual scope s.heap.objs.size f cdv)) → PS (cxF P w K mg base [sf, a1] qual scope f cdv A outer s H) r0 (fun D σ H => ∃ a, σ[0]? = some (some (.ref a)) ∧ H a = some (exo a C none) ∧ ok σ H ∧ D.nx σ H))
    (hok : ∀ (a : Addr) (v : V) (H : Hp), Shown K H v → ok [some (.ref a), some v] H) : FnF P w K mg base (k + 1) f (PySem.W.fnOf name qual params [r0] scope dV kV doc pm an cdv ct) [sf, a1] (spV K C [] 1) := by
  refine fnF_of lk hcd S (fun _ _ _ _ h => h.1) fun A outer s H vs Q hr h => ?_
  obtain ⟨hl, a, args, rfl, ha, hsh, q⟩ := h
  obtain ⟨v, rfl⟩ : ∃ v, args = [v] := by
    cases args with
    | nil => simp at hl
    | cons v r =>
      cases r with
      | nil => exact ⟨v, rfl⟩
      | cons _ _ => simp at hl
  rw [if_pos rfl] at q
  exact ⟨_, pss_cons (h0 A outer s H hr) pss_nil, a, rfl, ha, hok a v H (hsh v List.mem_cons_self), q⟩
end
section
variable {t : Tx} {P : Program} {w : World} {K : PySem.W.Frag} {mg : Str → Option Value} {base : Heap} {k c : Nat} {qual : Str} {params : Arguments} {body : List Stmt} {r0 r1 r2 : Stmt} {scope : Scope} {fd : FuncData} {f1 f2 a1 a2 sf x : Str}
theorem xvc0 {ok : L2.St → Hp → Prop} (hx : xclB t.K x = true) (hc : t.xad c = He.ga t.K x) (hf : t.xfn c = []) (F : FunD t.K "__init__" qual params body scope [] [] (He.ma t.K (He.ga t.K x) "__init__") fd) (hb : body = [r0]) (S : FnScope [sf, a1] [sf, a1] scope)
    (hk1 : ∀ (kV doc pm : Value) (an : Option Addr) (cdv ct : Value) (us ws : List Value), us.length = 2 → ws.length = ([] : List Str).length → bindArgs (PySem.W.fnOf "__init__" qual params body scope .none kV doc pm an cdv ct) ⟨us, ([] : List Str).zip ws⟩ = pure ([sf, a1].zip us))
    (hk2 : ∀ (kV doc pm : Value) (an : Option Addr) (cdv ct : Value) (us ws : List Value), us.length = 1 → ws.length = [a1].length → bindArgs (PySem.W.fnOf "__init__" qual params body scope .none kV doc pm an cdv ct) ⟨us, [a1].zip ws⟩ = pure ([sf, a1].zip (us ++ ws.reverse)))
    (h0 : ∀ (T : OexC t.K (He.ga t.K x)) (cdv : Value) (A : Around) (outer : List PySem.Env) (s : Shared) (H : Hp), L2H.RoomH k (A.deeper (envOfC qual scope s.heap.objs.size (He.ma t.K (He.ga t.K x) "__init__") cdv)) → PS (cxF P w t.K mg base [sf, a1] qual scope (He.ma t.K (He.ga t.K x) "__init__") cdv A outer s H) r0 (fun D σ H => ∃ a, σ[0]? = some (some (.ref a)) ∧ H a = some (exo a (He.ga t.K x) none) ∧ ok σ H ∧ D.nx σ H))
    (hok : ∀ (a : Addr) (v : V) (H : Hp), Shown t.K H v → ok [some (.ref a), some v] H) : XVc t P w t.K mg base c 1 0 (k + 1) [a1] := by
  obtain ⟨i1, i⟩ := ba' hx
  obtain ⟨i2, i3⟩ := ba' i
  have T := oexB_ok i1
  refine ⟨by rw [hc]; exact T, by rw [hf]; rfl, .inl rfl, by decide, _, fd, [sf, a1], by rw [hc]; exact of_decide_eq_true i2, of_decide_eq_true i3, ?_, FunD.kb F 2 [] (fun us _ => us) (fun r _ => r) hk1, FunD.kb F 1 [a1] (fun us ws => us ++ ws.reverse) (fun r1 r2 => vals_append r1 (pair_rev r2)) hk2⟩
  obtain ⟨oc, od, dV, kV, doc, pm, an, cdv, ct, osl, rfl, lk, hcd, _, _⟩ := F.ex
  subst hb
  rw [hc, hf]
  exact x_init0 lk hcd S (h0 T cdv) hok
theorem xvc1 {ok : L2.St → Hp → Prop} (hx : xclB t.K x = true) (hc : t.xad c = He.ga t.K x) (hf : t.xfn c = [f1]) (F : FunD t.K "__init__" qual params body scope [] [] (He.ma t.K (He.ga t.K x) "__init__") fd) (hb : body = [r0, r1]) (S : FnScope [sf, a1] [sf, a1] scope)
    (hk1 : ∀ (kV doc pm : Value) (an : Option Addr) (cdv ct : Value) (us ws : List Value), us.length = 2 → ws.length = ([] : List Str).length → bindArgs (PySem.W.fnOf "__init__" qual params body scope .none kV doc pm an cdv ct) ⟨us, ([] : List Str).zip ws⟩ = pure ([sf, a1].zip us))
    (hk2 : ∀ (kV doc pm : Value) (an : Option Addr) (cdv ct : Value) (us ws : List Value), us.length = 1 → ws.length = [a1].length → bindArgs (PySem.W.fnOf "__init__" qual params body scope .none kV doc pm an cdv ct) ⟨us, [a1].zip ws⟩ = pure ([sf, a1].zip (us ++ ws.reverse)))
    (h0 : ∀ (T : OexC t.K (He.ga t.K x)) (cdv : Value) (A : Around) (outer : List PySem.Env) (s : Shared) (H : Hp), L2H.RoomH k (A.deeper (envOfC qual scope s.heap.objs.size (He.ma t.K (He.ga t.K x) "__init__") cdv)) → PS (cxF P w t.K mg base [sf, a1] qual scope (He.ma t.K (He.ga t.K x) "__init__") cdv A outer s H) r0 (fun D σ H => ∃ a, σ[0]? = some (some (.ref a)) ∧ H a = some (exo a (He.ga t.K x) none) ∧ ok σ H ∧ D.nx σ H))
    (h1 : ∀ (T : OexC t.K (He.ga t.K x)) (cdv : Value) (A : Around) (outer : List PySem.Env) (s : Shared) (H : Hp), PS (cxF P w t.K mg base [sf, a1] qual scope (He.ma t.K (He.ga t.K x) "__init__") cdv A outer s H) r1 (fun D σ H => ∃ a v, σ[0]? = some (some (.ref a)) ∧ σ[1]? = some (some v) ∧ H a = some (exo a (He.ga t.K x) none) ∧ ∀ d, H d = none → d ≠ a → D.nx σ (upd (upd H d (exd d [(f1, v)])) a (exo a (He.ga t.K x) (some d)))))
    (hok : ∀ (a : Addr) (v : V) (H : Hp), Shown t.K H v → ok [some (.ref a), some v] H) : XVc t P w t.K mg base c 1 1 (k + 1) [a1] := by
  obtain ⟨i1, i⟩ := ba' hx
  obtain ⟨i2, i3⟩ := ba' i
  have T := oexB_ok i1
  refine ⟨by rw [hc]; exact T, by rw [hf]; rfl, .inr rfl, by decide, _, fd, [sf, a1], by rw [hc]; exact of_decide_eq_true i2, of_decide_eq_true i3, ?_, FunD.kb F 2 [] (fun us _ => us) (fun r _ => r) hk1, FunD.kb F 1 [a1] (fun us ws => us ++ ws.reverse) (fun r1 r2 => vals_append r1 (pair_rev r2)) hk2⟩
  obtain ⟨oc, od, dV, kV, doc, pm, an, cdv, ct, osl, rfl, lk, hcd, _, _⟩ := F.ex
  subst hb
  rw [hc, hf]
  exact FnF.imp (x_init1 lk hcd S (h0 T cdv) (h1 T cdv) hok) fun _ _ _ _ q => spV_spX (by simp) q
theorem xvc2 {ok : L2.St → Hp → Prop} (ne12 : f1 ≠ f2) (hx : xclB t.K x = true) (hc : t.xad c = He.ga t.K x) (hf : t.xfn c = [f1, f2]) (F : FunD t.K "__init__" qual params body scope [] [] (He.ma t.K (He.ga t.K x) "__init__") fd) (hb : body = [r0, r1, r2]) (S : FnScope [sf, a1, a2] [sf, a1, a2] scope)
    (hk1 : ∀ (kV doc pm : Value) (an : Option Addr) (cdv ct : Value) (us ws : List Value), us.length = 3 → ws.length = ([] : List Str).length → bindArgs (PySem.W.fnOf "__init__" qual params body scope .none kV doc pm an cdv ct) ⟨us, ([] : List Str).zip ws⟩ = pure ([sf, a1, a2].zip us))
    (hk2 : ∀ (kV doc pm : Value) (an : Option Addr) (cdv ct : Value) (us ws : List Value), us.length = 1 → ws.length = [a2, a1].length → bindArgs (PySem.W.fnOf "__init__" qual params body scope .none kV doc pm an cdv ct) ⟨us, [a2, a1].zip ws⟩ = pure ([sf, a1, a2].zip (us ++ ws.reverse)))
    (h0 : ∀ (T : OexC t.K (He.ga t.K x)) (cdv : Value) (A : Around) (outer : List PySem.Env) (s : Shared) (H : Hp), L2H.RoomH k (A.deeper (envOfC qual scope s.heap.objs.size (He.ma t.K (He.ga t.K x) "__init__") cdv)) → PS (cxF P w t.K mg base [sf, a1, a2] qual scope (He.ma t.K (He.ga t.K x) "__init__") cdv A outer s H) r0 (fun D σ H => ∃ a, σ[0]? = some (some (.ref a)) ∧ H a = some (exo a (He.ga t.K x) none) ∧ ok σ H ∧ D.nx σ H))
    (h1 : ∀ (T : OexC t.K (He.ga t.K x)) (cdv : Value) (A : Around) (outer : List PySem.Env) (s : Shared) (H : Hp), PS (cxF P w t.K mg base [sf, a1, a2] qual scope (He.ma t.K (He.ga t.K x) "__init__") cdv A outer s H) r1 (fun D σ H => ∃ a v, σ[0]? = some (some (.ref a)) ∧ σ[1]? = some (some v) ∧ H a = some (exo a (He.ga t.K x) none) ∧ ∀ d, H d = none → d ≠ a → D.nx σ (upd (upd H d (exd d [(f1, v)])) a (exo a (He.ga t.K x) (some d)))))
    (h2 : ∀ (T : OexC t.K (He.ga t.K x)) (cdv : Value) (A : Around) (outer : List PySem.Env) (s : Shared) (H : Hp), PS (cxF P w t.K mg base [sf, a1, a2] qual scope (He.ma t.K (He.ga t.K x) "__init__") cdv A outer s H) r2 (fun D σ H => ∃ a v d fs, σ[0]? = some (some (.ref a)) ∧ σ[2]? = some (some v) ∧ H a = some (exo a (He.ga t.K x) (some d)) ∧ H d = some (exd d fs) ∧ fs.length ≤ 900 ∧ D.nx σ (upd H d (exd d ((f2, v) :: fs)))))
    (hok : ∀ (a : Addr) (v u : V) (H : Hp), Shown t.K H v → Shown t.K H u → ok [some (.ref a), some v, some u] H) : XVc t P w t.K mg base c 2 2 (k + 1) [a2, a1] := by
  obtain ⟨i1, i⟩ := ba' hx
  obtain ⟨i2, i3⟩ := ba' i
  have T := oexB_ok i1
  refine ⟨by rw [hc]; exact T, by rw [hf]; rfl, .inr rfl, by decide, _, fd, [sf, a1, a2], by rw [hc]; exact of_decide_eq_true i2, of_decide_eq_true i3, ?_, FunD.kb F 3 [] (fun us _ => us) (fun r _ => r) hk1, FunD.kb F 1 [a2, a1] (fun us ws => us ++ ws.reverse) (fun r1 r2 => vals_append r1 (pair_rev r2)) hk2⟩
  obtain ⟨oc, od, dV, kV, doc, pm, an, cdv, ct, osl, rfl, lk, hcd, _, _⟩ := F.ex
  subst hb
  rw [hc, hf]
  exact FnF.imp (x_init2 ne12 lk hcd S (h0 T cdv) (h1 T cdv) (h2 T cdv) hok) fun _ _ _ _ q => spV_spX (by simp) q
end
/-! ### C(..) -/
def eMkX (c n kp : Nat) (rv : Bool) (fs : Es) : E := fun env M => (fs env M).bind fun rs M1 => match pureRs (if rv then rs.reverse else rs) with
  | some ds => if ds.length = n ∧ ds.all shownD = true then .ok (.d (.exc c (ds.take kp))) M1 else .no
  | none => .no
section
variable {t : Tx} {W : Wk} {X : Cx} {c n kp k : Nat} {ks : List Str} {F H : Hp} {ads : List Addr} {M : Mem}
/-- the new exception is fixed -/
theorem mkX_end {P : Program} {w : World} {mg : Str → Option Value} {base : Heap} (C : XVc t P w t.K mg base c n kp k ks) {ds : List D} {vs : List V} {Q : VK} {Wx : XK} (Rr : Rel t ads F M H) (hp : Paired (Is t F) ds vs) (hn : ds.length = n) (hs : ds.all shownD = true) {a : Addr} (ha : H a = none)
    (q : Kt t Wx ads F H (.ok (.d (.exc c (ds.take kp))) M) Q) : spV t.K (t.xad c) (t.xfn c) n (.ref a :: vs) (upd H a (exo a (t.xad c) none)) (fun v H3 => v = .non ∧ Q (.ref a) H3) E0 := by
  have hl := Paired.length hp
  refine ⟨by rw [List.length_cons, ← hl, hn], a, vs, rfl, upd_same, fun v hv => ?_, ?_⟩
  · obtain ⟨i, hi⟩ := List.getElem?_of_mem hv
    obtain ⟨d, e1, e2⟩ := pair_getV hp hi
    exact shown_ok (fun b u z => by rw [upd_ne (ne_of_none (Rr.ex b u z) ha)]; exact Rr.ex b u z) e2 (List.all_eq_true.mp hs d (List.mem_of_getElem? e1))
  · split
    · rename_i e
      have k0 : kp = 0 := by rw [← C.fl, e]; rfl
      subst k0
      obtain ⟨R2, s2⟩ := Rr.newF (o := exo a (t.xad c) none) ha
      refine ⟨rfl, q _ _ _ _ s2 R2 ?_⟩
      show Is t _ (.exc c (ds.take 0)) _
      unfold Is
      refine ⟨a, none, [], rfl, upd_same, by rw [e]; rfl, .inl rfl, fun i f u e1 e2 => by simp at e2, ?_⟩
      rw [List.take_zero]
      unfold IsL
      rfl
    · rename_i e
      have k0 : kp = n := by
        rcases C.kn with z | z
        · rw [← C.fl] at z
          exact absurd (List.eq_nil_of_length_eq_zero z) e
        · exact z
      subst k0
      intro d fs H2 hd ne hH2 hf
      rw [upd_ne ne] at hd
      obtain ⟨g1, g2, g3⟩ := hH2
      have eH : upd (upd H d (exd d fs)) a (exo a (t.xad c) (some d)) = H2 := by
        funext b
        by_cases h1 : b = a
        · subst h1
          rw [upd_same, g1]
        · rw [upd_ne h1]
          by_cases h2 : b = d
          · subst h2
            rw [upd_same, g2]
          · rw [upd_ne h2, g3 b h1 h2, upd_ne h1]
      obtain ⟨R1, s1⟩ := Rr.newF (o := exd d fs) hd
      obtain ⟨R2, s2⟩ := R1.newF (a := a) (o := exo a (t.xad c) (some d)) (by rw [upd_ne (Ne.symm ne)]; exact ha)
      rw [eH] at R2 s2
      have m := (s1.trans s2).mon
      refine ⟨rfl, q _ _ _ _ (s1.trans s2) R2 ?_⟩
      have fd2 : upd (upd F d (exd d fs)) a (exo a (t.xad c) (some d)) d = some (exd d fs) := by rw [upd_ne ne, upd_same]
      show Is t _ (.exc c (ds.take kp)) _
      rw [List.take_of_length_le (by omega)]
      unfold Is
      exact ⟨a, some d, vs, rfl, upd_same, by rw [C.fl, hn], .inr ⟨d, fs, rfl, fd2⟩, fun i f u e1 e2 => ⟨d, fs, rfl, fd2, hf i f u e1 e2⟩, isL_iff.mpr (pair_imp (fun d' _ z => Is.mono m.ex d' z) hp)⟩
variable {x : Str} {e : Expr} {es : List Expr} {kws : List Keyword} {fs : Es} {p pos : Pos}
theorem mkX_read {gV : List V → List V → List V} {rv : Bool} {σ : L2.St} {H : Hp} {Q : VK} (ht : t.K = X.K) (C : XVc t X.prog X.w X.K X.mg X.base c n kp k ks) (h : tE t W (eMkX c n kp rv fs) σ H Q) :
    tEs t W fs σ H fun vs H1 => vs.length = n ∧ ∀ a, H1 a = none → spV X.K (t.xad c) (t.xfn c) n (.ref a :: (if rv then vs.reverse else vs)) (upd H1 a (exo a (t.xad c) none)) (fun v H3 => v = .non ∧ Q (.ref a) H3) E0 := by
  rw [← ht] at C ⊢
  obtain ⟨ads, F, env, M, fr, h⟩ := h
  refine Fr.bind fr h fun ads1 F1 M1 vs H1 fr1 _ rs pr k => ?_
  cases q : pureRs (if rv then rs.reverse else rs) with
  | none => simp only [q] at k; exact k.elim
  | some ds =>
    simp only [q] at k
    split at k
    · rename_i cc
      obtain ⟨c1, c2⟩ := cc
      have pr2 : IsRs t F1 ads1 (if rv then rs.reverse else rs) (if rv then vs.reverse else vs) := by
        cases rv with
        | true => exact pair_rev pr
        | false => exact pr
      rw [pureRs_some q] at pr2
      have hp := isRs_map.mp pr2
      have hl := Paired.length hp
      refine ⟨?_, fun a ha => mkX_end C fr1.rel hp c1 c2 ha k⟩
      rw [← c1, hl]
      cases rv <;> simp
    · exact k.elim
theorem e_mkX (ht : t.K = X.K) (C : XVc t X.prog X.w X.K X.mg X.base c n kp k ks) (hr : L2H.RoomH (k + 1) X.A) (hg : Gl X x) (hm : X.mg x = some (.ref (t.xad c))) (ha : PA X (e :: es) (tEs t W fs))
    (hdb : (x == ("__debug__" : Str)) = false := by decide) (he : starEach (e :: es) X.env = (false, eval e X.env) :: starEach es X.env := by rfl) (hpl : (backTo pos (starEach es X.env)).any (·.1) = false := by rfl) :
    PE X (.Call (.Name x p) (e :: es) [] pos) (tE t W (eMkX c n kp false fs)) := by
  obtain ⟨fI, fd, ps, h1, h2, h3, h4, h5⟩ := C.ini
  refine PE.imp (pe_mkV C.T h1 h2 h3 hr h4 (by have := C.few; omega) hg hm ha hdb he hpl) fun σ H Q h => ?_
  have z := mkX_read (gV := fun vs _ => vs) ht C h
  obtain ⟨ads, F, env, M, fr, z⟩ := z
  exact ⟨ads, F, env, M, fr, Kg.mono z fun vs H1 y => ⟨y.1, rfl, y.2⟩⟩
theorem e_mkXK (ht : t.K = X.K) (C : XVc t X.prog X.w X.K X.mg X.base c n kp k ks) (hn : ks.length = n) (hr : L2H.RoomH (k + 1) X.A) (hg : Gl X x) (hm : X.mg x = some (.ref (t.xad c))) (ha : PK X kws (tEs t W fs))
    (hall : (backToKw pos (keywordEach kws X.env)).all (·.1.isSome) = true := by rfl) (hks : (backToKw pos (keywordEach kws X.env)).filterMap (·.1) = ks := by rfl) (hdb : (x == ("__debug__" : Str)) = false := by decide)
    (hpl : ((backTo pos (starEach [] X.env)).any (·.1) || (backToKw pos (keywordEach kws X.env)).any (·.1.isNone)) = false := by rfl) :
    PE X (.Call (.Name x p) [] kws pos) (tE t W (eMkX c n kp true fs)) := by
  obtain ⟨fI, fd, ps, h1, h2, h3, h4, h5⟩ := C.ini
  refine PE.imp (pe_mkVK C.T h1 h2 h3 hr h5 hg hm ha hall hks hdb hpl) fun σ H Q h => ?_
  have z := mkX_read (gV := fun vs _ => vs) ht C h
  obtain ⟨ads, F, env, M, fr, z⟩ := z
  exact ⟨ads, F, env, M, fr, Kg.mono z fun vs H1 y => ⟨rfl, by rw [hn]; exact y.1, y.2⟩⟩
end
/-! ### isinstance(e, C), e.f -/
theorem exc_at {t : Tx} {F H : Hp} {c : Nat} {ds : List D} {v : V} (m : Fx F H) (h : Is t F (.exc c ds) v) : ∃ a dd, v = .ref a ∧ ExAt H a (t.xad c) dd := by
  unfold Is at h
  obtain ⟨a, dd, vs, e, h1, h2, h3, h4, h5⟩ := h
  refine ⟨a, dd, e, m _ _ h1, ?_⟩
  rcases h3 with h3 | ⟨d, fs, z1, z2⟩
  · exact .inl h3
  · exact .inr ⟨d, fs, z1, m _ _ z2⟩
def eIsV (A : Nat → Option Bool) (fo : E) : E := fun env M => (fo env M).bind fun r M1 => match r with
  | .d (.exc c _) => match A c with
    | some b => .ok (.d (.bl b)) M1
    | none => .no
  | _ => .no
def eXv (J : Nat → Option Nat) (fo : E) : E := fun env M => (fo env M).bind fun r M1 => match r with
  | .d (.exc c ds) => match J c with
    | some j => match ds[j]? with
      | some d => .ok (.d d) M1
      | none => .no
    | none => .no
  | _ => .no
section
variable {t : Tx} {W : Wk} {X : Cx} {fo : E} {p pos : Pos}
theorem e_isV {e ce : Expr} {v : V} {cv : Value} {A : Nat → Option Bool} (hA : ∀ c b, A c = some b → ExcC X.K (t.xad c) ∧ PySem.W.kitOne X.K (.ref (t.xad c)) cv = some b) (hg : Gl X "isinstance") (hm : X.mg "isinstance" = none) (he : PE X e (tE t W fo)) (hc : PE X ce (tC v)) (hv : ∀ u, RelV v u → u = cv)
    (hs : starEach [e, ce] X.env = (false, eval e X.env) :: starEach [ce] X.env := by rfl) (hs2 : starEach [ce] X.env = (false, eval ce X.env) :: starEach [] X.env := by rfl) (hpl : (backTo pos (starEach [ce] X.env)).any (·.1) = false := by rfl) :
    PE X (.Call (.Name "isinstance" p) [e, ce] [] pos) (tE t W (eIsV A fo)) :=
  PE.imp (pe_callB call_isV hg hm (by decide +kernel) (pa_cons he (pa_cons hc pa_nil hs2) hs) (by decide) (by decide) hs hpl) fun σ H Q h => by
    obtain ⟨ads, F, env, M, fr, h⟩ := h
    refine Fr.bind fr h fun ads1 F1 M1 u H1 fr1 _ r pr k => ?_
    cases r with
    | ref i => exact k.elim
    | d d =>
      cases d with
      | exc c ds =>
        dsimp only at k
        cases q : A c with
        | none => simp only [q] at k; exact k.elim
        | some b =>
          simp only [q] at k
          obtain ⟨a, dd, e1, e2⟩ := exc_at fr1.rel.ex pr
          obtain ⟨g1, g2⟩ := hA c b q
          exact ⟨a, _, dd, v, cv, b, by rw [e1], e2, g1, hv, g2, okB fr1.rel k⟩
      | _ => exact k.elim
theorem e_xv {e : Expr} {n : Str} {J : Nat → Option Nat} (hJ : ∀ c j, J c = some j → XfC X.K (t.xad c) ∧ PySem.W.findIn X.K (.ref (t.xad c)) n = some none ∧ (t.xfn c)[j]? = some n) (he : PE X e (tE t W fo))
    (hb : attributeBase e n X.env (eval e X.env) = eval e X.env := by rfl) : PE X (.Attribute e n pos) (tE t W (eXv J fo)) :=
  PE.imp (pe_xv he hb) fun σ H Q h => by
    obtain ⟨ads, F, env, M, fr, h⟩ := h
    refine Fr.bind fr h fun ads1 F1 M1 u H1 fr1 _ r pr k => ?_
    cases r with
    | ref i => exact k.elim
    | d d =>
      cases d with
      | exc c ds =>
        dsimp only at k
        cases q : J c with
        | none => simp only [q] at k; exact k.elim
        | some j =>
          simp only [q] at k
          cases q2 : ds[j]? with
          | none => simp only [q2] at k; exact k.elim
          | some d =>
            simp only [q2] at k
            obtain ⟨g1, g2, g3⟩ := hJ c j q
            have pr' : Is t F1 (.exc c ds) u := pr
            unfold Is at pr'
            obtain ⟨a, dd, vs, e1, e2, e3, e4, e5, e6⟩ := pr'
            obtain ⟨v, f1, f2⟩ := pair_get (isL_iff.mp e6) q2
            obtain ⟨d', fs, z1, z2, z3⟩ := e5 j n v g3 f1
            subst z1
            exact ⟨a, _, d', fs, v, e1, fr1.rel.ex _ _ e2, fr1.rel.ex _ _ z2, g1, g2, z3, okR (r := .d d) fr1.rel f2 k⟩
      | _ => exact k.elim
end
/-! ### what the head tells -/
def excCB (K : PySem.W.Frag) (D : Addr) : Bool := decide (PySem.W.findIn K (.ref D) "__getattribute__" = some (some (.builtin "BaseException.__getattribute__"))) && (decide (PySem.W.findIn K (.ref D) "__getattr__" = some none) && (decide (PySem.W.subIn K (.ref D) (.type "BaseException") = some true) && (PySem.W.hasDictIn K D &&
  (decide (PySem.W.findIn K (.ref D) "__class__" = some (some (.builtin "object.__class__"))) && (decide (PySem.W.specialIn K (.builtin "object.__class__") "__get__" = some (some (.builtin "getset_descriptor.__get__"))) && (decide (PySem.W.takesIn K (.builtin "object.__class__") = some true) && (decide (PySem.W.mroIn K D (.type "object") = some true) && xfB K D)))))))
theorem excCB_ok {K : PySem.W.Frag} {D : Addr} (h : excCB K D = true) : ExcC K D ∧ XfC K D := by
  obtain ⟨h1, h⟩ := ba' h
  obtain ⟨h2, h⟩ := ba' h
  obtain ⟨h3, h⟩ := ba' h
  obtain ⟨h4, h⟩ := ba' h
  obtain ⟨h5, h⟩ := ba' h
  obtain ⟨h6, h⟩ := ba' h
  obtain ⟨h7, h⟩ := ba' h
  obtain ⟨h8, h9⟩ := ba' h
  exact ⟨⟨of_decide_eq_true h1, of_decide_eq_true h2, of_decide_eq_true h3, h4, of_decide_eq_true h5, of_decide_eq_true h6, of_decide_eq_true h7, of_decide_eq_true h8⟩, xfB_ok h9⟩
def kitTab (K : PySem.W.Frag) (xa : Nat → Addr) (n : Nat) (cv : Value) (A : Nat → Option Bool) : Bool := (List.range n).all fun c => decide (PySem.W.kitOne K (.ref (xa c)) cv = A c)
theorem kitTab_ok {K : PySem.W.Frag} {xa : Nat → Addr} {n c : Nat} {cv : Value} {A : Nat → Option Bool} {b : Bool} (h : kitTab K xa n cv A = true) (hc : c < n) (e : A c = some b) : PySem.W.kitOne K (.ref (xa c)) cv = some b := by
  rw [← e]
  exact of_decide_eq_true (List.all_eq_true.mp h c (List.mem_range.mpr hc))
end Lc
set_option Elab.async false
set_option linter.all false
set_option maxRecDepth 100000
set_option maxHeartbeats 4000000
/-! An exception without a dict, raised and caught. -/
namespace LcX
open PySem PySem.Spec PyProof.Rows L2 Lc
section
variable {X : Cx}
theorem mk_end00 {pins : List (Addr × Obj)} {σ : L2.St} {H1 H2 : Hp} {hp hp2 h2 : Heap} {g1 g2 : Array GenState} {d1 d2 : Drawn} {t1 t2 : Nat} {os1 os2 : OsState} {a C : Addr} (I1 : Inv X pins σ H1 ⟨hp, g1, d1, t1, os1⟩)
    (ha : hp.objs.size ≤ a) (k : ∀ b o, hp.get? b = some o → hp2.get? b = some o) (un : Un (frs X.stack) [] (upd H1 a (exo a C none)) H2 hp2 h2) (hok : HOk X.prog X.w H2 h2) (ho : os2 = os1) (hb : AllBare g2)
    (ea : H2 a = some (exo a C none)) :
    ∃ (t0 : Addr) (G : Heap), Inv X pins σ (del H2 a) ⟨G, g2, d2, t2, os2⟩ ∧ (∀ b o, G.get? b = some o → h2.get? b = some o) ∧ G.get? a = none ∧
      h2.get? a = some ({ cls := .ref C, dict := none, data := .fields #[.ref t0, .none, .none, .none, .bool false, .none] } : Obj) ∧ (del H2 a) a = none := by
  obtain ⟨t0, hoe⟩ := exo_at hok ea
  have hn : H1 a = none := I1.hok.fresh ha
  obtain ⟨G, g1', g2'⟩ := restrict h2 fun b => decide (b ≠ a)
  have gk : ∀ b, b ≠ a → G.get? b = h2.get? b := fun b hb => g1' b (decide_eq_true hb)
  have ge : G.get? a = none := g2' a (by simp)
  have nha : ∀ {b : Addr} {o : Obj}, hp.get? b = some o → b ≠ a := fun {b o} z => Nat.ne_of_lt (Nat.lt_of_lt_of_le (Heap.lt_size z) ha)
  have up : ∀ {b : Addr}, b ≠ a → H1 b = none → upd H1 a (exo a C none) b = none := fun {b} hb n => by rw [upd_ne hb]; exact n
  have U : Un (frs X.stack) [] H1 (del H2 a) hp G := {
    keep := fun b o z n hf hx => by
      rw [gk b (nha z)]
      exact un.keep b o (k b o z) (up (nha z) n) hf hx
    slot := fun b o z n hf hx => by
      rw [gk b (nha z)]
      exact un.slot b o (k b o z) (up (nha z) n) hf hx
    free := fun b o z n hx => by
      rw [del_ne (nha z)]
      exact un.free b o (k b o z) (up (nha z) n) hx
    there := fun b o z hx => by
      rw [gk b (nha z)]
      exact un.there b o (k b o z) hx
    tups := fun b xs z => by
      rw [del_ne (ne_of_none z hn)]
      exact un.tups b xs (by rw [upd_ne (ne_of_none z hn)]; exact z)
    frzs := fun b o v z => by
      rw [del_ne (ne_of_none z hn)]
      exact un.frzs b o v (by rw [upd_ne (ne_of_none z hn)]; exact z)
    tbls := fun b ps z => by
      rw [del_ne (ne_of_none z hn)]
      exact un.tbls b ps (by rw [upd_ne (ne_of_none z hn)]; exact z) }
  have hok3 : HOk X.prog X.w (del H2 a) G := fun b o z => by
    have hba : b ≠ a := fun e => by
      rw [e, del_same] at z
      cases z
    rw [del_ne hba] at z
    have noa : ∀ {c : Addr}, H2 c = some (.own b) → c ≠ a := fun {c} hc => at_ne ea hc exo_own
    exact (hok b o z).stay (fun c v hc y => by
        have hca : c ≠ a := by
          rcases hc with hc | hc
          · rw [hc]
            exact hba
          · exact noa hc
        rw [gk c hca]
        exact y)
      (fun c hc => by rw [del_ne (noa hc)]; exact hc) (fun c xs hc => by rw [del_ne (at_ne ea hc exo_tup)]; exact hc)
  have J : Inv X pins σ (del H2 a) ⟨G, g2, d2, t2, os2⟩ := I1.call' (ch := []) ho U hok3 hb (fun b z => absurd z (by simp))
  refine ⟨t0, G, J, fun b o z => ?_, ge, hoe, del_same⟩
  by_cases hba : b = a
  · rw [hba, ge] at z
    cases z
  · exact (gk b hba).symm.trans z
/-- C(e, ..) without a dict -/
def tMkX0 (C : Addr) (sp : Sp) (ta : TA) : L2.St → Hp → XK → Prop := fun σ H Q => ta σ H fun vs H1 => vs.length ≤ 1000 ∧ ∀ a, H1 a = none → sp (.ref a :: vs) (upd H1 a (exo a C none))
  (fun v H2 => v = .non ∧ H2 a = some (exo a C none) ∧ Q (.ref C) none (del H2 a)) E0
theorem pmkX0 {x : Str} {e : Expr} {es : List Expr} {ta : TA} {p pos : Pos} {C fI : Addr} {k : Nat} {fd : FuncData} {ps : List Str} {sp : Sp} {n : Nat} (T : OexC X.K C) (iC : PySem.W.findIn X.K (.ref C) "__init__" = some (some (.ref fI))) (tI : PySem.W.typeIn X.K (.ref fI) = some (.type "function"))
    (F1 : FnF X.prog X.w X.K X.mg X.base k fI fd ps sp) (hr : L2H.RoomH (k + 1) X.A) (hb : KBn X.K fd ps n [] (fun us _ => us) (fun vs _ => vs)) (hpl' : ps.length = n) (hg : Gl X x) (hm : X.mg x = some (.ref C)) (ha : PA X (e :: es) ta)
    (hdb : (x == ("__debug__" : Str)) = false := by decide) (he : starEach (e :: es) X.env = (false, eval e X.env) :: starEach es X.env := by rfl) (hpl : (backTo pos (starEach es X.env)).any (·.1) = false := by rfl) :
    L2N.PMk X (.Call (.Name x p) (e :: es) [] pos) (tMkX0 C sp ta) := by
  intro pins s σ H Q I h
  obtain ⟨nm, q, N, bs, bm, sn, sub, ab, col, dd, k0, k1, k2, k3, k5, hC, hbm⟩ := T.cls
  refine wpAny_Call_Name_kw (ld_glob I hg hm ?_ hdb)
  refine PySem.W.callWith_K (h₀ := X.base) I.ok.mod.kin T.kC (thn (ha.run pos pins s σ H _ I h) fun us s1 hh => ?_) he hpl
  obtain ⟨vs, H1, I1, r1, hz, q1⟩ := hh
  refine ⟨I1.kIn, ?_⟩
  show wpAny _ _ (call (.ref C) us) _ _ _
  obtain ⟨hp, g, dr, tk, os⟩ := s1
  have hsz : hp.objs.size ≤ hp.objs.size + 1 := Nat.le_succ _
  have hq := q1 (hp.objs.size + 1) (I1.hok.fresh hsz)
  have keep2 : ∀ b o, hp.get? b = some o → ((hp.push (PySem.W.kdv_tup us)).push (PySem.HandSPX.excO C hp.objs.size)).get? b = some o := fun b o e => Heap.get?_push_of_some _ (Heap.get?_push_of_some _ e)
  have there : ((hp.push (PySem.W.kdv_tup us)).push (PySem.HandSPX.excO C hp.objs.size)).get? (hp.objs.size + 1) = some (PySem.HandSPX.excO C hp.objs.size) := by heap_get
  have I2 : Inv X pins σ (upd H1 (hp.objs.size + 1) (exo (hp.objs.size + 1) C none)) ⟨(hp.push (PySem.W.kdv_tup us)).push (PySem.HandSPX.excO C hp.objs.size), g, dr, tk, os⟩ :=
    I1.laid (t' := tk) (a := hp.objs.size + 1) (o := exo (hp.objs.size + 1) C none) (h' := (hp.push (PySem.W.kdv_tup us)).push (PySem.HandSPX.excO C hp.objs.size)) keep2 hsz (exo_ok there)
  have r2 : Vals (V.ref (hp.objs.size + 1) :: vs) (Value.ref (hp.objs.size + 1) :: us) := .cons rfl r1
  have hl : (Value.ref (hp.objs.size + 1) :: us).length = n := by
    have e := r2.length
    rw [F1.len _ _ _ _ hq] at e
    rw [← e]
    exact hpl'
  have hus : us.length ≤ sizeLine := by
    rw [← Paired.length r1, sizeLine_eq]
    omega
  have b2 := hb.to ⟨(hp.push (PySem.W.kdv_tup us)).push (PySem.HandSPX.excO C hp.objs.size), g, dr, tk, os⟩ (Value.ref (hp.objs.size + 1) :: us) [] I2.kIn hl rfl
  have hr2 : L2H.RoomH k (X.A.under (.builtin "type.__call__" ⟨.ref C :: us, []⟩)) := ⟨by have := hr.dp; rw [make_depth]; omega, by have := hr.un; rw [make_units]; omega⟩
  refine wpAny_call (PySem.HandSPX.call_own F.excBase_ValueError (fun Y => PySem.HandSPX.refsVE_contains Y bm hbm) (I1.kIn _ _ hC) (PySem.W.looks_findIn I1.kIn iC) (fun self => PySem.W.bind_fn I1.kIn self tI) hus
    (codeAny_mono (F1.run _ X.stack _ _ ⟨Value.ref (hp.objs.size + 1) :: us, []⟩ (Value.ref (hp.objs.size + 1) :: us) _ _ hr2 (I2.env0.make C us []) b2 r2 hq) fun r sx hq2 => ?_))
  cases r with
  | error er => exact (show False from hq2).elim
  | ok fl =>
    cases fl with
    | ret u =>
      obtain ⟨v, H2, os2, bare2, un2, hok2, rv, ev, ea, q2⟩ := hq2
      subst ev
      obtain ⟨h2, g2, d2, t2, os3⟩ := sx
      obtain ⟨t0, G, J, kG, ge, hoe, na⟩ := mk_end00 (d2 := d2) (t2 := t2) I1 hsz keep2 un2 hok2 os2 bare2 ea
      exact ⟨rv, hp.objs.size + 1, _, _, ⟨G, g2, d2, t2, os3⟩, _, .ref C, none, rfl, J, kG, ge, hoe, ⟨rfl, rfl, fun ws hv => by cases hv; rfl⟩, rfl, rfl, na, rfl, bare2, raises_own T.exC T.tyC, q2⟩
    | next => exact False.elim hq2
    | brk => exact False.elim hq2
    | cont => exact False.elim hq2
/-- isinstance(e, c) in a suite -/
theorem call_isP {a D : Addr} {oe : Obj} (hp : (a, oe) ∈ X.pn) (C : ExcC X.K D) (hz : Zc (.ref D) none oe) (hf : ∃ vs, oe.data = .fields vs) : CallR X (.builtin "isinstance") (rIsE X.K D a) := by
  intro pins s σ H xs us Q I r h
  obtain ⟨c, cv, b, rfl, hcv, e, q⟩ := h
  obtain ⟨u1, u2, rfl, r1, r2⟩ := vals2 r
  cases (show u1 = Value.ref a from r1)
  have ec := hcv _ r2
  subst ec
  obtain ⟨hget, _⟩ := I.pin (a, oe) (List.mem_append.mpr (.inl hp))
  obtain ⟨vs, hv⟩ := hf
  have J : PySem.W.InstAt s.heap a oe D none := by
    obtain ⟨oc, od, oda, osl⟩ := oe
    obtain ⟨h1, h2⟩ := hz
    dsimp only at h1 h2 hv
    subst h1 h2 hv
    exact ⟨hget, rfl, rfl, trivial⟩
  exact PySem.W.kia_one (PySem.W.kitx_excD C) I.kIn J e (fun z => nomatch z) fun tk => ⟨.bl b, H, I.tok tk, rfl, q⟩
end
end LcX
set_option Elab.async false
set_option linter.all false
set_option maxRecDepth 100000
set_option maxHeartbeats 4000000
namespace G90
open PySem PySem.Spec PyProof.Rows L2 LcX Lc
def top (i : Nat) : Stmt := PySem.Challenge.pw_latecopy_k90_error_classes.main.body.getD i (.Pass ⟨0, 0, 0, 0⟩)
def dd__law_draws : He.DefD := ⟨("_law_draws", none), "_law_draws", "_law_draws", defArgs (top 22), defBody (top 22), defScope (top 22), [], []⟩
def dd__law_mixed : He.DefD := ⟨("_law_mixed", none), "_law_mixed", "_law_mixed", defArgs (top 23), defBody (top 23), defScope (top 23), [], []⟩
def dd__law_take : He.DefD := ⟨("_law_take", none), "_law_take", "_law_take", defArgs (top 24), defBody (top 24), defScope (top 24), [], []⟩
def dd__law_number : He.DefD := ⟨("_law_number", none), "_law_number", "_law_number", defArgs (top 25), defBody (top 25), defScope (top 25), [], []⟩
def dd__law_same : He.DefD := ⟨("_law_same", none), "_law_same", "_law_same", defArgs (top 26), defBody (top 26), defScope (top 26), [], []⟩
def dd__law_value : He.DefD := ⟨("_law_value", none), "_law_value", "_law_value", defArgs (top 27), defBody (top 27), defScope (top 27), [], []⟩
def dd__law_made : He.DefD := ⟨("_law_made", none), "_law_made", "_law_made", defArgs (top 28), defBody (top 28), defScope (top 28), [], []⟩
def dd__law_named : He.DefD := ⟨("_law_named", none), "_law_named", "_law_named", defArgs (top 29), defBody (top 29), defScope (top 29), [], []⟩
def dd__law_classes : He.DefD := ⟨("_law_classes", none), "_law_classes", "_law_classes", defArgs (top 30), defBody (top 30), defScope (top 30), [], []⟩
def dd__law_field : He.DefD := ⟨("_law_field", none), "_law_field", "_law_field", defArgs (top 32), defBody (top 32), defScope (top 32), [], []⟩
def dd__law_fields : He.DefD := ⟨("_law_fields", none), "_law_fields", "_law_fields", defArgs (top 31), defBody (top 31), defScope (top 31), [], []⟩
def dd__law_caught : He.DefD := ⟨("_law_caught", none), "_law_caught", "_law_caught", defArgs (top 33), defBody (top 33), defScope (top 33), [], []⟩
def dd_law : He.DefD := ⟨("law", none), "law", "law", defArgs (top 34), defBody (top 34), defScope (top 34), [], []⟩
def dd_AxisError_init : He.DefD := ⟨("AxisError", some "__init__"), "__init__", "AxisError.__init__", defArgs (inClass (top 3) 0), defBody (inClass (top 3) 0), defScope (inClass (top 3) 0), [], []⟩
def dd_BroadcastError_init : He.DefD := ⟨("BroadcastError", some "__init__"), "__init__", "BroadcastError.__init__", defArgs (inClass (top 7) 0), defBody (inClass (top 7) 0), defScope (inClass (top 7) 0), [], []⟩
def dd_BufferMissing_init : He.DefD := ⟨("BufferMissing", some "__init__"), "__init__", "BufferMissing.__init__", defArgs (inClass (top 11) 0), defBody (inClass (top 11) 0), defScope (inClass (top 11) 0), [], []⟩
def dd_CellError_init : He.DefD := ⟨("CellError", some "__init__"), "__init__", "CellError.__init__", defArgs (inClass (top 12) 0), defBody (inClass (top 12) 0), defScope (inClass (top 12) 0), [], []⟩
def dd_CountError_init : He.DefD := ⟨("CountError", some "__init__"), "__init__", "CountError.__init__", defArgs (inClass (top 13) 0), defBody (inClass (top 13) 0), defScope (inClass (top 13) 0), [], []⟩
def dd_FaultError_init : He.DefD := ⟨("FaultError", some "__init__"), "__init__", "FaultError.__init__", defArgs (inClass (top 16) 0), defBody (inClass (top 16) 0), defScope (inClass (top 16) 0), [], []⟩
def dd_IndexRangeError_init : He.DefD := ⟨("IndexRangeError", some "__init__"), "__init__", "IndexRangeError.__init__", defArgs (inClass (top 9) 0), defBody (inClass (top 9) 0), defScope (inClass (top 9) 0), [], []⟩
def dd_InputError_init : He.DefD := ⟨("InputError", some "__init__"), "__init__", "InputError.__init__", defArgs (inClass (top 18) 0), defBody (inClass (top 18) 0), defScope (inClass (top 18) 0), [], []⟩
def dd_LengthError_init : He.DefD := ⟨("LengthError", some "__init__"), "__init__", "LengthError.__init__", defArgs (inClass (top 4) 0), defBody (inClass (top 4) 0), defScope (inClass (top 4) 0), [], []⟩
def dd_NoSnapshot_init : He.DefD := ⟨("NoSnapshot", some "__init__"), "__init__", "NoSnapshot.__init__", defArgs (inClass (top 14) 0), defBody (inClass (top 14) 0), defScope (inClass (top 14) 0), [], []⟩
def dd_OperatorError_init : He.DefD := ⟨("OperatorError", some "__init__"), "__init__", "OperatorError.__init__", defArgs (inClass (top 15) 0), defBody (inClass (top 15) 0), defScope (inClass (top 15) 0), [], []⟩
def dd_OrderError_init : He.DefD := ⟨("OrderError", some "__init__"), "__init__", "OrderError.__init__", defArgs (inClass (top 6) 0), defBody (inClass (top 6) 0), defScope (inClass (top 6) 0), [], []⟩
def dd_ParseError_init : He.DefD := ⟨("ParseError", some "__init__"), "__init__", "ParseError.__init__", defArgs (inClass (top 19) 0), defBody (inClass (top 19) 0), defScope (inClass (top 19) 0), [], []⟩
def dd_PositionError_init : He.DefD := ⟨("PositionError", some "__init__"), "__init__", "PositionError.__init__", defArgs (inClass (top 5) 0), defBody (inClass (top 5) 0), defScope (inClass (top 5) 0), [], []⟩
def dd_SessionError_init : He.DefD := ⟨("SessionError", some "__init__"), "__init__", "SessionError.__init__", defArgs (inClass (top 20) 0), defBody (inClass (top 20) 0), defScope (inClass (top 20) 0), [], []⟩
def dd_ShapeError_init : He.DefD := ⟨("ShapeError", some "__init__"), "__init__", "ShapeError.__init__", defArgs (inClass (top 10) 0), defBody (inClass (top 10) 0), defScope (inClass (top 10) 0), [], []⟩
def dd_StepError_init : He.DefD := ⟨("StepError", some "__init__"), "__init__", "StepError.__init__", defArgs (inClass (top 17) 0), defBody (inClass (top 17) 0), defScope (inClass (top 17) 0), [], []⟩
def dd_StrideError_init : He.DefD := ⟨("StrideError", some "__init__"), "__init__", "StrideError.__init__", defArgs (inClass (top 8) 0), defBody (inClass (top 8) 0), defScope (inClass (top 8) 0), [], []⟩
def dd_ViewError_init : He.DefD := ⟨("ViewError", some "__init__"), "__init__", "ViewError.__init__", defArgs (inClass (top 2) 0), defBody (inClass (top 2) 0), defScope (inClass (top 2) 0), [], []⟩
def fn : List He.DefD := [dd__law_draws, dd__law_mixed, dd__law_take, dd__law_number, dd__law_same, dd__law_value, dd__law_made, dd__law_named, dd__law_classes, dd__law_field, dd__law_fields, dd__law_caught, dd_law, dd_AxisError_init, dd_BroadcastError_init, dd_BufferMissing_init, dd_CellError_init, dd_CountError_init, dd_FaultError_init, dd_IndexRangeError_init, dd_InputError_init, dd_LengthError_init, dd_NoSnapshot_init, dd_OperatorError_init, dd_OrderError_init, dd_ParseError_init, dd_PositionError_init, dd_SessionError_init, dd_ShapeError_init, dd_StepError_init, dd_StrideError_init, dd_ViewError_init]
def fa : List He.Fa := [.glo "_law_mixed", .glo "_law_take", .glo "_law_same", .glo "_law_number", .glo "ViewError", .glo "AxisError", .glo "LengthError", .glo "PositionError", .glo "OrderError", .glo "BroadcastError", .glo "StrideError", .glo "IndexRangeError", .glo "ShapeError", .glo "BufferMissing", .glo "CellError", .glo "CountError", .glo "OperatorError", .glo "FaultError", .glo "InputError", .glo "StepError", .glo "ParseError", .glo "SessionError", .glo "NoSnapshot", .glo "_law_field", .glo "LateCopyError", .glo "_law_draws", .glo "_law_value", .glo "_law_made", .glo "_law_named", .glo "_law_classes", .glo "_law_fields", .glo "_law_caught", .glo "law", .free "len", .free "isinstance", .free "list", .free "tuple", .free "zip", .free "all", .free "bool", .free "int", .free "range", .free "ValueError", .noat "AxisError" "axis", .noat "BroadcastError" "axis", .noat "BufferMissing" "buffer", .noat "CellError" "number", .noat "CountError" "count", .noat "FaultError" "reason", .noat "IndexRangeError" "index", .noat "InputError" "at", .noat "LengthError" "value", .noat "OperatorError" "operator", .noat "OrderError" "order", .noat "ParseError" "line", .noat "ParseError" "reason", .noat "PositionError" "position", .noat "SessionError" "reason", .noat "ShapeError" "shape", .noat "ShapeError" "other", .noat "StepError" "at", .noat "StepError" "reason", .noat "StrideError" "number", .noat "ViewError" "reason", .exm "NoSnapshot" "LateCopyError" true]
def xN : Nat → Str
  | 0 => "ViewError"
  | 1 => "AxisError"
  | 2 => "LengthError"
  | 3 => "PositionError"
  | 4 => "OrderError"
  | 5 => "BroadcastError"
  | 6 => "StrideError"
  | 7 => "IndexRangeError"
  | 8 => "ShapeError"
  | 9 => "BufferMissing"
  | 10 => "CellError"
  | 11 => "CountError"
  | 12 => "NoSnapshot"
  | 13 => "OperatorError"
  | 14 => "FaultError"
  | 15 => "StepError"
  | 16 => "InputError"
  | 17 => "ParseError"
  | 18 => "SessionError"
  | _ => ""
def kA_AxisError : Nat → Option Bool := fun c => if c < 19 then some (decide (c = 1)) else none
def kA_BroadcastError : Nat → Option Bool := fun c => if c < 19 then some (decide (c = 5)) else none
def kA_BufferMissing : Nat → Option Bool := fun c => if c < 19 then some (decide (c = 9)) else none
def kA_CellError : Nat → Option Bool := fun c => if c < 19 then some (decide (c = 10)) else none
def kA_CountError : Nat → Option Bool := fun c => if c < 19 then some (decide (c = 11)) else none
def kA_FaultError : Nat → Option Bool := fun c => if c < 19 then some (decide (c = 14)) else none
def kA_IndexRangeError : Nat → Option Bool := fun c => if c < 19 then some (decide (c = 7)) else none
def kA_InputError : Nat → Option Bool := fun c => if c < 19 then some (decide (c = 16)) else none
def kA_LateCopyError : Nat → Option Bool := fun c => if c < 19 then some true else none
def kA_LengthError : Nat → Option Bool := fun c => if c < 19 then some (decide (c = 2)) else none
def kA_NoSnapshot : Nat → Option Bool := fun c => if c < 19 then some (decide (c = 12)) else none
def kA_OperatorError : Nat → Option Bool := fun c => if c < 19 then some (decide (c = 13)) else none
def kA_OrderError : Nat → Option Bool := fun c => if c < 19 then some (decide (c = 4)) else none
def kA_ParseError : Nat → Option Bool := fun c => if c < 19 then some (decide (c = 17)) else none
def kA_PositionError : Nat → Option Bool := fun c => if c < 19 then some (decide (c = 3)) else none
def kA_SessionError : Nat → Option Bool := fun c => if c < 19 then some (decide (c = 18)) else none
def kA_ShapeError : Nat → Option Bool := fun c => if c < 19 then some (decide (c = 8)) else none
def kA_StepError : Nat → Option Bool := fun c => if c < 19 then some (decide (c = 15)) else none
def kA_StrideError : Nat → Option Bool := fun c => if c < 19 then some (decide (c = 6)) else none
def kA_ValueError : Nat → Option Bool := fun c => if c < 19 then some true else none
def kA_ViewError : Nat → Option Bool := fun c => if c < 19 then some (decide (c = 0)) else none
def exL (K : PySem.W.Frag) : List Bool := [xclB K "AxisError", xclB K "BroadcastError", xclB K "BufferMissing", xclB K "CellError", xclB K "CountError", xclB K "FaultError", xclB K "IndexRangeError", xclB K "InputError", xclB K "LengthError", xclB K "NoSnapshot", xclB K "OperatorError", xclB K "OrderError", xclB K "ParseError", xclB K "PositionError", xclB K "SessionError", xclB K "ShapeError", xclB K "StepError", xclB K "StrideError", xclB K "ViewError", basB K "LateCopyError", excCB K (He.ga K "ViewError"), excCB K (He.ga K "AxisError"), excCB K (He.ga K "LengthError"), excCB K (He.ga K "PositionError"), excCB K (He.ga K "OrderError"), excCB K (He.ga K "BroadcastError"), excCB K (He.ga K "StrideError"), excCB K (He.ga K "IndexRangeError"), excCB K (He.ga K "ShapeError"), excCB K (He.ga K "BufferMissing"), excCB K (He.ga K "CellError"), excCB K (He.ga K "CountError"), excCB K (He.ga K "NoSnapshot"), excCB K (He.ga K "OperatorError"), excCB K (He.ga K "FaultError"), excCB K (He.ga K "StepError"), excCB K (He.ga K "InputError"), excCB K (He.ga K "ParseError"), excCB K (He.ga K "SessionError"), kitTab K (fun c => He.ga K (xN c)) 19 (.ref (He.ga K "AxisError")) kA_AxisError, kitTab K (fun c => He.ga K (xN c)) 19 (.ref (He.ga K "BroadcastError")) kA_BroadcastError, kitTab K (fun c => He.ga K (xN c)) 19 (.ref (He.ga K "BufferMissing")) kA_BufferMissing, kitTab K (fun c => He.ga K (xN c)) 19 (.ref (He.ga K "CellError")) kA_CellError, kitTab K (fun c => He.ga K (xN c)) 19 (.ref (He.ga K "CountError")) kA_CountError, kitTab K (fun c => He.ga K (xN c)) 19 (.ref (He.ga K "FaultError")) kA_FaultError, kitTab K (fun c => He.ga K (xN c)) 19 (.ref (He.ga K "IndexRangeError")) kA_IndexRangeError, kitTab K (fun c => He.ga K (xN c)) 19 (.ref (He.ga K "InputError")) kA_InputError, kitTab K (fun c => He.ga K (xN c)) 19 (.ref (He.ga K "LateCopyError")) kA_LateCopyError, kitTab K (fun c => He.ga K (xN c)) 19 (.ref (He.ga K "LengthError")) kA_LengthError, kitTab K (fun c => He.ga K (xN c)) 19 (.ref (He.ga K "NoSnapshot")) kA_NoSnapshot, kitTab K (fun c => He.ga K (xN c)) 19 (.ref (He.ga K "OperatorError")) kA_OperatorError, kitTab K (fun c => He.ga K (xN c)) 19 (.ref (He.ga K "OrderError")) kA_OrderError, kitTab K (fun c => He.ga K (xN c)) 19 (.ref (He.ga K "ParseError")) kA_ParseError, kitTab K (fun c => He.ga K (xN c)) 19 (.ref (He.ga K "PositionError")) kA_PositionError, kitTab K (fun c => He.ga K (xN c)) 19 (.ref (He.ga K "SessionError")) kA_SessionError, kitTab K (fun c => He.ga K (xN c)) 19 (.ref (He.ga K "ShapeError")) kA_ShapeError, kitTab K (fun c => He.ga K (xN c)) 19 (.ref (He.ga K "StepError")) kA_StepError, kitTab K (fun c => He.ga K (xN c)) 19 (.ref (He.ga K "StrideError")) kA_StrideError, kitTab K (fun c => He.ga K (xN c)) 19 (.type "ValueError") kA_ValueError, kitTab K (fun c => He.ga K (xN c)) 19 (.ref (He.ga K "ViewError")) kA_ViewError, noLst K]
def exB (K : PySem.W.Frag) : Bool := (exL K).all id
def ts : List He.Tab := []
def Bun (w : World) (K : PySem.W.Frag) (mg : Str → Option Value) : Prop := ∃ h0 : Heap, K.In h0 ∧ h0.Ns mainGlobals mg ∧ He.SaysX fa fn ts [] exB w h0 K
def cN : Nat → Str

  | _ => ""
def cF : Nat → List Str

  | _ => []
def xF : Nat → List Str
  | 0 => ["reason"]
  | 1 => ["axis"]
  | 2 => ["value"]
  | 3 => ["position"]
  | 4 => ["order"]
  | 5 => ["axis"]
  | 6 => ["number"]
  | 7 => ["index"]
  | 8 => ["shape", "other"]
  | 9 => ["buffer"]
  | 10 => ["number"]
  | 11 => ["count"]
  | 12 => []
  | 13 => ["operator"]
  | 14 => ["reason"]
  | 15 => ["at", "reason"]
  | 16 => ["at"]
  | 17 => ["line", "reason"]
  | 18 => ["reason"]
  | _ => []
def tx (K : PySem.W.Frag) : Tx := ⟨K, fun c => He.ga K (cN c), cF, fun c => He.ga K (xN c), xF⟩
section
variable {w : World} {K : PySem.W.Frag} {mg : Str → Option Value}
theorem df__law_draws (B : Bun w K mg) : ∃ fd, FunD K "_law_draws" "_law_draws" (defArgs (top 22)) (defBody (top 22)) (defScope (top 22)) [] [] (He.fAd K ("_law_draws", none)) fd := by obtain ⟨h0, X, G, c⟩ := B; exact c.t.d.def_ 0 (d := dd__law_draws) rfl
theorem df__law_mixed (B : Bun w K mg) : ∃ fd, FunD K "_law_mixed" "_law_mixed" (defArgs (top 23)) (defBody (top 23)) (defScope (top 23)) [] [] (He.fAd K ("_law_mixed", none)) fd := by obtain ⟨h0, X, G, c⟩ := B; exact c.t.d.def_ 1 (d := dd__law_mixed) rfl
theorem df__law_take (B : Bun w K mg) : ∃ fd, FunD K "_law_take" "_law_take" (defArgs (top 24)) (defBody (top 24)) (defScope (top 24)) [] [] (He.fAd K ("_law_take", none)) fd := by obtain ⟨h0, X, G, c⟩ := B; exact c.t.d.def_ 2 (d := dd__law_take) rfl
theorem df__law_number (B : Bun w K mg) : ∃ fd, FunD K "_law_number" "_law_number" (defArgs (top 25)) (defBody (top 25)) (defScope (top 25)) [] [] (He.fAd K ("_law_number", none)) fd := by obtain ⟨h0, X, G, c⟩ := B; exact c.t.d.def_ 3 (d := dd__law_number) rfl
theorem df__law_same (B : Bun w K mg) : ∃ fd, FunD K "_law_same" "_law_same" (defArgs (top 26)) (defBody (top 26)) (defScope (top 26)) [] [] (He.fAd K ("_law_same", none)) fd := by obtain ⟨h0, X, G, c⟩ := B; exact c.t.d.def_ 4 (d := dd__law_same) rfl
theorem df__law_value (B : Bun w K mg) : ∃ fd, FunD K "_law_value" "_law_value" (defArgs (top 27)) (defBody (top 27)) (defScope (top 27)) [] [] (He.fAd K ("_law_value", none)) fd := by obtain ⟨h0, X, G, c⟩ := B; exact c.t.d.def_ 5 (d := dd__law_value) rfl
theorem df__law_made (B : Bun w K mg) : ∃ fd, FunD K "_law_made" "_law_made" (defArgs (top 28)) (defBody (top 28)) (defScope (top 28)) [] [] (He.fAd K ("_law_made", none)) fd := by obtain ⟨h0, X, G, c⟩ := B; exact c.t.d.def_ 6 (d := dd__law_made) rfl
theorem df__law_named (B : Bun w K mg) : ∃ fd, FunD K "_law_named" "_law_named" (defArgs (top 29)) (defBody (top 29)) (defScope (top 29)) [] [] (He.fAd K ("_law_named", none)) fd := by obtain ⟨h0, X, G, c⟩ := B; exact c.t.d.def_ 7 (d := dd__law_named) rfl
theorem df__law_classes (B : Bun w K mg) : ∃ fd, FunD K "_law_classes" "_law_classes" (defArgs (top 30)) (defBody (top 30)) (defScope (top 30)) [] [] (He.fAd K ("_law_classes", none)) fd := by obtain ⟨h0, X, G, c⟩ := B; exact c.t.d.def_ 8 (d := dd__law_classes) rfl
theorem df__law_field (B : Bun w K mg) : ∃ fd, FunD K "_law_field" "_law_field" (defArgs (top 32)) (defBody (top 32)) (defScope (top 32)) [] [] (He.fAd K ("_law_field", none)) fd := by obtain ⟨h0, X, G, c⟩ := B; exact c.t.d.def_ 9 (d := dd__law_field) rfl
theorem df__law_fields (B : Bun w K mg) : ∃ fd, FunD K "_law_fields" "_law_fields" (defArgs (top 31)) (defBody (top 31)) (defScope (top 31)) [] [] (He.fAd K ("_law_fields", none)) fd := by obtain ⟨h0, X, G, c⟩ := B; exact c.t.d.def_ 10 (d := dd__law_fields) rfl
theorem df__law_caught (B : Bun w K mg) : ∃ fd, FunD K "_law_caught" "_law_caught" (defArgs (top 33)) (defBody (top 33)) (defScope (top 33)) [] [] (He.fAd K ("_law_caught", none)) fd := by obtain ⟨h0, X, G, c⟩ := B; exact c.t.d.def_ 11 (d := dd__law_caught) rfl
theorem df_law (B : Bun w K mg) : ∃ fd, FunD K "law" "law" (defArgs (top 34)) (defBody (top 34)) (defScope (top 34)) [] [] (He.fAd K ("law", none)) fd := by obtain ⟨h0, X, G, c⟩ := B; exact c.t.d.def_ 12 (d := dd_law) rfl
theorem df_AxisError_init (B : Bun w K mg) : ∃ fd, FunD K "__init__" "AxisError.__init__" (defArgs (inClass (top 3) 0)) (defBody (inClass (top 3) 0)) (defScope (inClass (top 3) 0)) [] [] (He.fAd K ("AxisError", some "__init__")) fd := by obtain ⟨h0, X, G, c⟩ := B; exact c.t.d.def_ 13 (d := dd_AxisError_init) rfl
theorem df_BroadcastError_init (B : Bun w K mg) : ∃ fd, FunD K "__init__" "BroadcastError.__init__" (defArgs (inClass (top 7) 0)) (defBody (inClass (top 7) 0)) (defScope (inClass (top 7) 0)) [] [] (He.fAd K ("BroadcastError", some "__init__")) fd := by obtain ⟨h0, X, G, c⟩ := B; exact c.t.d.def_ 14 (d := dd_BroadcastError_init) rfl
theorem df_BufferMissing_init (B : Bun w K mg) : ∃ fd, FunD K "__init__" "BufferMissing.__init__" (defArgs (inClass (top 11) 0)) (defBody (inClass (top 11) 0)) (defScope (inClass (top 11) 0)) [] [] (He.fAd K ("BufferMissing", some "__init__")) fd := by obtain ⟨h0, X, G, c⟩ := B; exact c.t.d.def_ 15 (d := dd_BufferMissing_init) rfl
theorem df_CellError_init (B : Bun w K mg) : ∃ fd, FunD K "__init__" "CellError.__init__" (defArgs (inClass (top 12) 0)) (defBody (inClass (top 12) 0)) (defScope (inClass (top 12) 0)) [] [] (He.fAd K ("CellError", some "__init__")) fd := by obtain ⟨h0, X, G, c⟩ := B; exact c.t.d.def_ 16 (d := dd_CellError_init) rfl
theorem df_CountError_init (B : Bun w K mg) : ∃ fd, FunD K "__init__" "CountError.__init__" (defArgs (inClass (top 13) 0)) (defBody (inClass (top 13) 0)) (defScope (inClass (top 13) 0)) [] [] (He.fAd K ("CountError", some "__init__")) fd := by obtain ⟨h0, X, G, c⟩ := B; exact c.t.d.def_ 17 (d := dd_CountError_init) rfl
theorem df_FaultError_init (B : Bun w K mg) : ∃ fd, FunD K "__init__" "FaultError.__init__" (defArgs (inClass (top 16) 0)) (defBody (inClass (top 16) 0)) (defScope (inClass (top 16) 0)) [] [] (He.fAd K ("FaultError", some "__init__")) fd := by obtain ⟨h0, X, G, c⟩ := B; exact c.t.d.def_ 18 (d := dd_FaultError_init) rfl
theorem df_IndexRangeError_init (B : Bun w K mg) : ∃ fd, FunD K "__init__" "IndexRangeError.__init__" (defArgs (inClass (top 9) 0)) (defBody (inClass (top 9) 0)) (defScope (inClass (top 9) 0)) [] [] (He.fAd K ("IndexRangeError", some "__init__")) fd := by obtain ⟨h0, X, G, c⟩ := B; exact c.t.d.def_ 19 (d := dd_IndexRangeError_init) rfl
theorem df_InputError_init (B : Bun w K mg) : ∃ fd, FunD K "__init__" "InputError.__init__" (defArgs (inClass (top 18) 0)) (defBody (inClass (top 18) 0)) (defScope (inClass (top 18) 0)) [] [] (He.fAd K ("InputError", some "__init__")) fd := by obtain ⟨h0, X, G, c⟩ := B; exact c.t.d.def_ 20 (d := dd_InputError_init) rfl
theorem df_LengthError_init (B : Bun w K mg) : ∃ fd, FunD K "__init__" "LengthError.__init__" (defArgs (inClass (top 4) 0)) (defBody (inClass (top 4) 0)) (defScope (inClass (top 4) 0)) [] [] (He.fAd K ("LengthError", some "__init__")) fd := by obtain ⟨h0, X, G, c⟩ := B; exact c.t.d.def_ 21 (d := dd_LengthError_init) rfl
theorem df_NoSnapshot_init (B : Bun w K mg) : ∃ fd, FunD K "__init__" "NoSnapshot.__init__" (defArgs (inClass (top 14) 0)) (defBody (inClass (top 14) 0)) (defScope (inClass (top 14) 0)) [] [] (He.fAd K ("NoSnapshot", some "__init__")) fd := by obtain ⟨h0, X, G, c⟩ := B; exact c.t.d.def_ 22 (d := dd_NoSnapshot_init) rfl
theorem df_OperatorError_init (B : Bun w K mg) : ∃ fd, FunD K "__init__" "OperatorError.__init__" (defArgs (inClass (top 15) 0)) (defBody (inClass (top 15) 0)) (defScope (inClass (top 15) 0)) [] [] (He.fAd K ("OperatorError", some "__init__")) fd := by obtain ⟨h0, X, G, c⟩ := B; exact c.t.d.def_ 23 (d := dd_OperatorError_init) rfl
theorem df_OrderError_init (B : Bun w K mg) : ∃ fd, FunD K "__init__" "OrderError.__init__" (defArgs (inClass (top 6) 0)) (defBody (inClass (top 6) 0)) (defScope (inClass (top 6) 0)) [] [] (He.fAd K ("OrderError", some "__init__")) fd := by obtain ⟨h0, X, G, c⟩ := B; exact c.t.d.def_ 24 (d := dd_OrderError_init) rfl
theorem df_ParseError_init (B : Bun w K mg) : ∃ fd, FunD K "__init__" "ParseError.__init__" (defArgs (inClass (top 19) 0)) (defBody (inClass (top 19) 0)) (defScope (inClass (top 19) 0)) [] [] (He.fAd K ("ParseError", some "__init__")) fd := by obtain ⟨h0, X, G, c⟩ := B; exact c.t.d.def_ 25 (d := dd_ParseError_init) rfl
theorem df_PositionError_init (B : Bun w K mg) : ∃ fd, FunD K "__init__" "PositionError.__init__" (defArgs (inClass (top 5) 0)) (defBody (inClass (top 5) 0)) (defScope (inClass (top 5) 0)) [] [] (He.fAd K ("PositionError", some "__init__")) fd := by obtain ⟨h0, X, G, c⟩ := B; exact c.t.d.def_ 26 (d := dd_PositionError_init) rfl
theorem df_SessionError_init (B : Bun w K mg) : ∃ fd, FunD K "__init__" "SessionError.__init__" (defArgs (inClass (top 20) 0)) (defBody (inClass (top 20) 0)) (defScope (inClass (top 20) 0)) [] [] (He.fAd K ("SessionError", some "__init__")) fd := by obtain ⟨h0, X, G, c⟩ := B; exact c.t.d.def_ 27 (d := dd_SessionError_init) rfl
theorem df_ShapeError_init (B : Bun w K mg) : ∃ fd, FunD K "__init__" "ShapeError.__init__" (defArgs (inClass (top 10) 0)) (defBody (inClass (top 10) 0)) (defScope (inClass (top 10) 0)) [] [] (He.fAd K ("ShapeError", some "__init__")) fd := by obtain ⟨h0, X, G, c⟩ := B; exact c.t.d.def_ 28 (d := dd_ShapeError_init) rfl
theorem df_StepError_init (B : Bun w K mg) : ∃ fd, FunD K "__init__" "StepError.__init__" (defArgs (inClass (top 17) 0)) (defBody (inClass (top 17) 0)) (defScope (inClass (top 17) 0)) [] [] (He.fAd K ("StepError", some "__init__")) fd := by obtain ⟨h0, X, G, c⟩ := B; exact c.t.d.def_ 29 (d := dd_StepError_init) rfl
theorem df_StrideError_init (B : Bun w K mg) : ∃ fd, FunD K "__init__" "StrideError.__init__" (defArgs (inClass (top 8) 0)) (defBody (inClass (top 8) 0)) (defScope (inClass (top 8) 0)) [] [] (He.fAd K ("StrideError", some "__init__")) fd := by obtain ⟨h0, X, G, c⟩ := B; exact c.t.d.def_ 30 (d := dd_StrideError_init) rfl
theorem df_ViewError_init (B : Bun w K mg) : ∃ fd, FunD K "__init__" "ViewError.__init__" (defArgs (inClass (top 2) 0)) (defBody (inClass (top 2) 0)) (defScope (inClass (top 2) 0)) [] [] (He.fAd K ("ViewError", some "__init__")) fd := by obtain ⟨h0, X, G, c⟩ := B; exact c.t.d.def_ 31 (d := dd_ViewError_init) rfl
theorem g_law_mixed (B : Bun w K mg) : mg "_law_mixed" = some (.ref (He.ga K "_law_mixed")) := by obtain ⟨h0, X, G, c⟩ := B; exact He.glo_ok X G (c.t.d.fact 0 (f := .glo "_law_mixed") rfl)
theorem g_law_take (B : Bun w K mg) : mg "_law_take" = some (.ref (He.ga K "_law_take")) := by obtain ⟨h0, X, G, c⟩ := B; exact He.glo_ok X G (c.t.d.fact 1 (f := .glo "_law_take") rfl)
theorem g_law_same (B : Bun w K mg) : mg "_law_same" = some (.ref (He.ga K "_law_same")) := by obtain ⟨h0, X, G, c⟩ := B; exact He.glo_ok X G (c.t.d.fact 2 (f := .glo "_law_same") rfl)
theorem g_law_number (B : Bun w K mg) : mg "_law_number" = some (.ref (He.ga K "_law_number")) := by obtain ⟨h0, X, G, c⟩ := B; exact He.glo_ok X G (c.t.d.fact 3 (f := .glo "_law_number") rfl)
theorem g_ViewError (B : Bun w K mg) : mg "ViewError" = some (.ref (He.ga K "ViewError")) := by obtain ⟨h0, X, G, c⟩ := B; exact He.glo_ok X G (c.t.d.fact 4 (f := .glo "ViewError") rfl)
theorem g_AxisError (B : Bun w K mg) : mg "AxisError" = some (.ref (He.ga K "AxisError")) := by obtain ⟨h0, X, G, c⟩ := B; exact He.glo_ok X G (c.t.d.fact 5 (f := .glo "AxisError") rfl)
theorem g_LengthError (B : Bun w K mg) : mg "LengthError" = some (.ref (He.ga K "LengthError")) := by obtain ⟨h0, X, G, c⟩ := B; exact He.glo_ok X G (c.t.d.fact 6 (f := .glo "LengthError") rfl)
theorem g_PositionError (B : Bun w K mg) : mg "PositionError" = some (.ref (He.ga K "PositionError")) := by obtain ⟨h0, X, G, c⟩ := B; exact He.glo_ok X G (c.t.d.fact 7 (f := .glo "PositionError") rfl)
theorem g_OrderError (B : Bun w K mg) : mg "OrderError" = some (.ref (He.ga K "OrderError")) := by obtain ⟨h0, X, G, c⟩ := B; exact He.glo_ok X G (c.t.d.fact 8 (f := .glo "OrderError") rfl)
theorem g_BroadcastError (B : Bun w K mg) : mg "BroadcastError" = some (.ref (He.ga K "BroadcastError")) := by obtain ⟨h0, X, G, c⟩ := B; exact He.glo_ok X G (c.t.d.fact 9 (f := .glo "BroadcastError") rfl)
theorem g_StrideError (B : Bun w K mg) : mg "StrideError" = some (.ref (He.ga K "StrideError")) := by obtain ⟨h0, X, G, c⟩ := B; exact He.glo_ok X G (c.t.d.fact 10 (f := .glo "StrideError") rfl)
theorem g_IndexRangeError (B : Bun w K mg) : mg "IndexRangeError" = some (.ref (He.ga K "IndexRangeError")) := by obtain ⟨h0, X, G, c⟩ := B; exact He.glo_ok X G (c.t.d.fact 11 (f := .glo "IndexRangeError") rfl)
theorem g_ShapeError (B : Bun w K mg) : mg "ShapeError" = some (.ref (He.ga K "ShapeError")) := by obtain ⟨h0, X, G, c⟩ := B; exact He.glo_ok X G (c.t.d.fact 12 (f := .glo "ShapeError") rfl)
theorem g_BufferMissing (B : Bun w K mg) : mg "BufferMissing" = some (.ref (He.ga K "BufferMissing")) := by obtain ⟨h0, X, G, c⟩ := B; exact He.glo_ok X G (c.t.d.fact 13 (f := .glo "BufferMissing") rfl)
theorem g_CellError (B : Bun w K mg) : mg "CellError" = some (.ref (He.ga K "CellError")) := by obtain ⟨h0, X, G, c⟩ := B; exact He.glo_ok X G (c.t.d.fact 14 (f := .glo "CellError") rfl)
theorem g_CountError (B : Bun w K mg) : mg "CountError" = some (.ref (He.ga K "CountError")) := by obtain ⟨h0, X, G, c⟩ := B; exact He.glo_ok X G (c.t.d.fact 15 (f := .glo "CountError") rfl)
theorem g_OperatorError (B : Bun w K mg) : mg "OperatorError" = some (.ref (He.ga K "OperatorError")) := by obtain ⟨h0, X, G, c⟩ := B; exact He.glo_ok X G (c.t.d.fact 16 (f := .glo "OperatorError") rfl)
theorem g_FaultError (B : Bun w K mg) : mg "FaultError" = some (.ref (He.ga K "FaultError")) := by obtain ⟨h0, X, G, c⟩ := B; exact He.glo_ok X G (c.t.d.fact 17 (f := .glo "FaultError") rfl)
theorem g_InputError (B : Bun w K mg) : mg "InputError" = some (.ref (He.ga K "InputError")) := by obtain ⟨h0, X, G, c⟩ := B; exact He.glo_ok X G (c.t.d.fact 18 (f := .glo "InputError") rfl)
theorem g_StepError (B : Bun w K mg) : mg "StepError" = some (.ref (He.ga K "StepError")) := by obtain ⟨h0, X, G, c⟩ := B; exact He.glo_ok X G (c.t.d.fact 19 (f := .glo "StepError") rfl)
theorem g_ParseError (B : Bun w K mg) : mg "ParseError" = some (.ref (He.ga K "ParseError")) := by obtain ⟨h0, X, G, c⟩ := B; exact He.glo_ok X G (c.t.d.fact 20 (f := .glo "ParseError") rfl)
theorem g_SessionError (B : Bun w K mg) : mg "SessionError" = some (.ref (He.ga K "SessionError")) := by obtain ⟨h0, X, G, c⟩ := B; exact He.glo_ok X G (c.t.d.fact 21 (f := .glo "SessionError") rfl)
theorem g_NoSnapshot (B : Bun w K mg) : mg "NoSnapshot" = some (.ref (He.ga K "NoSnapshot")) := by obtain ⟨h0, X, G, c⟩ := B; exact He.glo_ok X G (c.t.d.fact 22 (f := .glo "NoSnapshot") rfl)
theorem g_law_field (B : Bun w K mg) : mg "_law_field" = some (.ref (He.ga K "_law_field")) := by obtain ⟨h0, X, G, c⟩ := B; exact He.glo_ok X G (c.t.d.fact 23 (f := .glo "_law_field") rfl)
theorem g_LateCopyError (B : Bun w K mg) : mg "LateCopyError" = some (.ref (He.ga K "LateCopyError")) := by obtain ⟨h0, X, G, c⟩ := B; exact He.glo_ok X G (c.t.d.fact 24 (f := .glo "LateCopyError") rfl)
theorem g_law_draws (B : Bun w K mg) : mg "_law_draws" = some (.ref (He.ga K "_law_draws")) := by obtain ⟨h0, X, G, c⟩ := B; exact He.glo_ok X G (c.t.d.fact 25 (f := .glo "_law_draws") rfl)
theorem g_law_value (B : Bun w K mg) : mg "_law_value" = some (.ref (He.ga K "_law_value")) := by obtain ⟨h0, X, G, c⟩ := B; exact He.glo_ok X G (c.t.d.fact 26 (f := .glo "_law_value") rfl)
theorem g_law_made (B : Bun w K mg) : mg "_law_made" = some (.ref (He.ga K "_law_made")) := by obtain ⟨h0, X, G, c⟩ := B; exact He.glo_ok X G (c.t.d.fact 27 (f := .glo "_law_made") rfl)
theorem g_law_named (B : Bun w K mg) : mg "_law_named" = some (.ref (He.ga K "_law_named")) := by obtain ⟨h0, X, G, c⟩ := B; exact He.glo_ok X G (c.t.d.fact 28 (f := .glo "_law_named") rfl)
theorem g_law_classes (B : Bun w K mg) : mg "_law_classes" = some (.ref (He.ga K "_law_classes")) := by obtain ⟨h0, X, G, c⟩ := B; exact He.glo_ok X G (c.t.d.fact 29 (f := .glo "_law_classes") rfl)
theorem g_law_fields (B : Bun w K mg) : mg "_law_fields" = some (.ref (He.ga K "_law_fields")) := by obtain ⟨h0, X, G, c⟩ := B; exact He.glo_ok X G (c.t.d.fact 30 (f := .glo "_law_fields") rfl)
theorem g_law_caught (B : Bun w K mg) : mg "_law_caught" = some (.ref (He.ga K "_law_caught")) := by obtain ⟨h0, X, G, c⟩ := B; exact He.glo_ok X G (c.t.d.fact 31 (f := .glo "_law_caught") rfl)
theorem g_law (B : Bun w K mg) : mg "law" = some (.ref (He.ga K "law")) := by obtain ⟨h0, X, G, c⟩ := B; exact He.glo_ok X G (c.t.d.fact 32 (f := .glo "law") rfl)
theorem n_len (B : Bun w K mg) : mg "len" = none := by obtain ⟨h0, X, G, c⟩ := B; exact He.free_ok X G (c.t.d.fact 33 (f := .free "len") rfl)
theorem n_isinstance (B : Bun w K mg) : mg "isinstance" = none := by obtain ⟨h0, X, G, c⟩ := B; exact He.free_ok X G (c.t.d.fact 34 (f := .free "isinstance") rfl)
theorem n_list (B : Bun w K mg) : mg "list" = none := by obtain ⟨h0, X, G, c⟩ := B; exact He.free_ok X G (c.t.d.fact 35 (f := .free "list") rfl)
theorem n_tuple (B : Bun w K mg) : mg "tuple" = none := by obtain ⟨h0, X, G, c⟩ := B; exact He.free_ok X G (c.t.d.fact 36 (f := .free "tuple") rfl)
theorem n_zip (B : Bun w K mg) : mg "zip" = none := by obtain ⟨h0, X, G, c⟩ := B; exact He.free_ok X G (c.t.d.fact 37 (f := .free "zip") rfl)
theorem n_all (B : Bun w K mg) : mg "all" = none := by obtain ⟨h0, X, G, c⟩ := B; exact He.free_ok X G (c.t.d.fact 38 (f := .free "all") rfl)
theorem n_bool (B : Bun w K mg) : mg "bool" = none := by obtain ⟨h0, X, G, c⟩ := B; exact He.free_ok X G (c.t.d.fact 39 (f := .free "bool") rfl)
theorem n_int (B : Bun w K mg) : mg "int" = none := by obtain ⟨h0, X, G, c⟩ := B; exact He.free_ok X G (c.t.d.fact 40 (f := .free "int") rfl)
theorem n_range (B : Bun w K mg) : mg "range" = none := by obtain ⟨h0, X, G, c⟩ := B; exact He.free_ok X G (c.t.d.fact 41 (f := .free "range") rfl)
theorem n_ValueError (B : Bun w K mg) : mg "ValueError" = none := by obtain ⟨h0, X, G, c⟩ := B; exact He.free_ok X G (c.t.d.fact 42 (f := .free "ValueError") rfl)
theorem na_AxisError_axis (B : Bun w K mg) : NoAttr K (He.ga K "AxisError") "axis" := by obtain ⟨h0, X, G, c⟩ := B; exact He.noat_ok (c.t.d.fact 43 (f := .noat "AxisError" "axis") rfl)
theorem na_BroadcastError_axis (B : Bun w K mg) : NoAttr K (He.ga K "BroadcastError") "axis" := by obtain ⟨h0, X, G, c⟩ := B; exact He.noat_ok (c.t.d.fact 44 (f := .noat "BroadcastError" "axis") rfl)
theorem na_BufferMissing_buffer (B : Bun w K mg) : NoAttr K (He.ga K "BufferMissing") "buffer" := by obtain ⟨h0, X, G, c⟩ := B; exact He.noat_ok (c.t.d.fact 45 (f := .noat "BufferMissing" "buffer") rfl)
theorem na_CellError_number (B : Bun w K mg) : NoAttr K (He.ga K "CellError") "number" := by obtain ⟨h0, X, G, c⟩ := B; exact He.noat_ok (c.t.d.fact 46 (f := .noat "CellError" "number") rfl)
theorem na_CountError_count (B : Bun w K mg) : NoAttr K (He.ga K "CountError") "count" := by obtain ⟨h0, X, G, c⟩ := B; exact He.noat_ok (c.t.d.fact 47 (f := .noat "CountError" "count") rfl)
theorem na_FaultError_reason (B : Bun w K mg) : NoAttr K (He.ga K "FaultError") "reason" := by obtain ⟨h0, X, G, c⟩ := B; exact He.noat_ok (c.t.d.fact 48 (f := .noat "FaultError" "reason") rfl)
theorem na_IndexRangeError_index (B : Bun w K mg) : NoAttr K (He.ga K "IndexRangeError") "index" := by obtain ⟨h0, X, G, c⟩ := B; exact He.noat_ok (c.t.d.fact 49 (f := .noat "IndexRangeError" "index") rfl)
theorem na_InputError_at (B : Bun w K mg) : NoAttr K (He.ga K "InputError") "at" := by obtain ⟨h0, X, G, c⟩ := B; exact He.noat_ok (c.t.d.fact 50 (f := .noat "InputError" "at") rfl)
theorem na_LengthError_value (B : Bun w K mg) : NoAttr K (He.ga K "LengthError") "value" := by obtain ⟨h0, X, G, c⟩ := B; exact He.noat_ok (c.t.d.fact 51 (f := .noat "LengthError" "value") rfl)
theorem na_OperatorError_operator (B : Bun w K mg) : NoAttr K (He.ga K "OperatorError") "operator" := by obtain ⟨h0, X, G, c⟩ := B; exact He.noat_ok (c.t.d.fact 52 (f := .noat "OperatorError" "operator") rfl)
theorem na_OrderError_order (B : Bun w K mg) : NoAttr K (He.ga K "OrderError") "order" := by obtain ⟨h0, X, G, c⟩ := B; exact He.noat_ok (c.t.d.fact 53 (f := .noat "OrderError" "order") rfl)
theorem na_ParseError_line (B : Bun w K mg) : NoAttr K (He.ga K "ParseError") "line" := by obtain ⟨h0, X, G, c⟩ := B; exact He.noat_ok (c.t.d.fact 54 (f := .noat "ParseError" "line") rfl)
theorem na_ParseError_reason (B : Bun w K mg) : NoAttr K (He.ga K "ParseError") "reason" := by obtain ⟨h0, X, G, c⟩ := B; exact He.noat_ok (c.t.d.fact 55 (f := .noat "ParseError" "reason") rfl)
theorem na_PositionError_position (B : Bun w K mg) : NoAttr K (He.ga K "PositionError") "position" := by obtain ⟨h0, X, G, c⟩ := B; exact He.noat_ok (c.t.d.fact 56 (f := .noat "PositionError" "position") rfl)
theorem na_SessionError_reason (B : Bun w K mg) : NoAttr K (He.ga K "SessionError") "reason" := by obtain ⟨h0, X, G, c⟩ := B; exact He.noat_ok (c.t.d.fact 57 (f := .noat "SessionError" "reason") rfl)
theorem na_ShapeError_shape (B : Bun w K mg) : NoAttr K (He.ga K "ShapeError") "shape" := by obtain ⟨h0, X, G, c⟩ := B; exact He.noat_ok (c.t.d.fact 58 (f := .noat "ShapeError" "shape") rfl)
theorem na_ShapeError_other (B : Bun w K mg) : NoAttr K (He.ga K "ShapeError") "other" := by obtain ⟨h0, X, G, c⟩ := B; exact He.noat_ok (c.t.d.fact 59 (f := .noat "ShapeError" "other") rfl)
theorem na_StepError_at (B : Bun w K mg) : NoAttr K (He.ga K "StepError") "at" := by obtain ⟨h0, X, G, c⟩ := B; exact He.noat_ok (c.t.d.fact 60 (f := .noat "StepError" "at") rfl)
theorem na_StepError_reason (B : Bun w K mg) : NoAttr K (He.ga K "StepError") "reason" := by obtain ⟨h0, X, G, c⟩ := B; exact He.noat_ok (c.t.d.fact 61 (f := .noat "StepError" "reason") rfl)
theorem na_StrideError_number (B : Bun w K mg) : NoAttr K (He.ga K "StrideError") "number" := by obtain ⟨h0, X, G, c⟩ := B; exact He.noat_ok (c.t.d.fact 62 (f := .noat "StrideError" "number") rfl)
theorem na_ViewError_reason (B : Bun w K mg) : NoAttr K (He.ga K "ViewError") "reason" := by obtain ⟨h0, X, G, c⟩ := B; exact He.noat_ok (c.t.d.fact 63 (f := .noat "ViewError" "reason") rfl)
theorem em_NoSnapshot_LateCopyError (B : Bun w K mg) : PySem.W.exmOne K (.ref (He.ga K "NoSnapshot")) (.ref (He.ga K "LateCopyError")) = some true := by obtain ⟨h0, X, G, c⟩ := B; exact He.exm_ok (c.t.d.fact 64 (f := .exm "NoSnapshot" "LateCopyError" true) rfl)
theorem xc_AxisError (B : Bun w K mg) : xclB K "AxisError" = true := by obtain ⟨h0, X, G, c⟩ := B; exact exAt (show (exL K).all id = true from c.more) 0 rfl
theorem xc_BroadcastError (B : Bun w K mg) : xclB K "BroadcastError" = true := by obtain ⟨h0, X, G, c⟩ := B; exact exAt (show (exL K).all id = true from c.more) 1 rfl
theorem xc_BufferMissing (B : Bun w K mg) : xclB K "BufferMissing" = true := by obtain ⟨h0, X, G, c⟩ := B; exact exAt (show (exL K).all id = true from c.more) 2 rfl
theorem xc_CellError (B : Bun w K mg) : xclB K "CellError" = true := by obtain ⟨h0, X, G, c⟩ := B; exact exAt (show (exL K).all id = true from c.more) 3 rfl
theorem xc_CountError (B : Bun w K mg) : xclB K "CountError" = true := by obtain ⟨h0, X, G, c⟩ := B; exact exAt (show (exL K).all id = true from c.more) 4 rfl
theorem xc_FaultError (B : Bun w K mg) : xclB K "FaultError" = true := by obtain ⟨h0, X, G, c⟩ := B; exact exAt (show (exL K).all id = true from c.more) 5 rfl
theorem xc_IndexRangeError (B : Bun w K mg) : xclB K "IndexRangeError" = true := by obtain ⟨h0, X, G, c⟩ := B; exact exAt (show (exL K).all id = true from c.more) 6 rfl
theorem xc_InputError (B : Bun w K mg) : xclB K "InputError" = true := by obtain ⟨h0, X, G, c⟩ := B; exact exAt (show (exL K).all id = true from c.more) 7 rfl
theorem xc_LengthError (B : Bun w K mg) : xclB K "LengthError" = true := by obtain ⟨h0, X, G, c⟩ := B; exact exAt (show (exL K).all id = true from c.more) 8 rfl
theorem xc_NoSnapshot (B : Bun w K mg) : xclB K "NoSnapshot" = true := by obtain ⟨h0, X, G, c⟩ := B; exact exAt (show (exL K).all id = true from c.more) 9 rfl
theorem xc_OperatorError (B : Bun w K mg) : xclB K "OperatorError" = true := by obtain ⟨h0, X, G, c⟩ := B; exact exAt (show (exL K).all id = true from c.more) 10 rfl
theorem xc_OrderError (B : Bun w K mg) : xclB K "OrderError" = true := by obtain ⟨h0, X, G, c⟩ := B; exact exAt (show (exL K).all id = true from c.more) 11 rfl
theorem xc_ParseError (B : Bun w K mg) : xclB K "ParseError" = true := by obtain ⟨h0, X, G, c⟩ := B; exact exAt (show (exL K).all id = true from c.more) 12 rfl
theorem xc_PositionError (B : Bun w K mg) : xclB K "PositionError" = true := by obtain ⟨h0, X, G, c⟩ := B; exact exAt (show (exL K).all id = true from c.more) 13 rfl
theorem xc_SessionError (B : Bun w K mg) : xclB K "SessionError" = true := by obtain ⟨h0, X, G, c⟩ := B; exact exAt (show (exL K).all id = true from c.more) 14 rfl
theorem xc_ShapeError (B : Bun w K mg) : xclB K "ShapeError" = true := by obtain ⟨h0, X, G, c⟩ := B; exact exAt (show (exL K).all id = true from c.more) 15 rfl
theorem xc_StepError (B : Bun w K mg) : xclB K "StepError" = true := by obtain ⟨h0, X, G, c⟩ := B; exact exAt (show (exL K).all id = true from c.more) 16 rfl
theorem xc_StrideError (B : Bun w K mg) : xclB K "StrideError" = true := by obtain ⟨h0, X, G, c⟩ := B; exact exAt (show (exL K).all id = true from c.more) 17 rfl
theorem xc_ViewError (B : Bun w K mg) : xclB K "ViewError" = true := by obtain ⟨h0, X, G, c⟩ := B; exact exAt (show (exL K).all id = true from c.more) 18 rfl
theorem ba_LateCopyError (B : Bun w K mg) : BasC K "LateCopyError" := by obtain ⟨h0, X, G, c⟩ := B; exact basB_ok (exAt (show (exL K).all id = true from c.more) 19 rfl)
theorem ec_ViewError (B : Bun w K mg) : ExcC K (He.ga K "ViewError") ∧ XfC K (He.ga K "ViewError") := by obtain ⟨h0, X, G, c⟩ := B; exact excCB_ok (exAt (show (exL K).all id = true from c.more) 20 rfl)
theorem ec_AxisError (B : Bun w K mg) : ExcC K (He.ga K "AxisError") ∧ XfC K (He.ga K "AxisError") := by obtain ⟨h0, X, G, c⟩ := B; exact excCB_ok (exAt (show (exL K).all id = true from c.more) 21 rfl)
theorem ec_LengthError (B : Bun w K mg) : ExcC K (He.ga K "LengthError") ∧ XfC K (He.ga K "LengthError") := by obtain ⟨h0, X, G, c⟩ := B; exact excCB_ok (exAt (show (exL K).all id = true from c.more) 22 rfl)
theorem ec_PositionError (B : Bun w K mg) : ExcC K (He.ga K "PositionError") ∧ XfC K (He.ga K "PositionError") := by obtain ⟨h0, X, G, c⟩ := B; exact excCB_ok (exAt (show (exL K).all id = true from c.more) 23 rfl)
theorem ec_OrderError (B : Bun w K mg) : ExcC K (He.ga K "OrderError") ∧ XfC K (He.ga K "OrderError") := by obtain ⟨h0, X, G, c⟩ := B; exact excCB_ok (exAt (show (exL K).all id = true from c.more) 24 rfl)
theorem ec_BroadcastError (B : Bun w K mg) : ExcC K (He.ga K "BroadcastError") ∧ XfC K (He.ga K "BroadcastError") := by obtain ⟨h0, X, G, c⟩ := B; exact excCB_ok (exAt (show (exL K).all id = true from c.more) 25 rfl)
theorem ec_StrideError (B : Bun w K mg) : ExcC K (He.ga K "StrideError") ∧ XfC K (He.ga K "StrideError") := by obtain ⟨h0, X, G, c⟩ := B; exact excCB_ok (exAt (show (exL K).all id = true from c.more) 26 rfl)
theorem ec_IndexRangeError (B : Bun w K mg) : ExcC K (He.ga K "IndexRangeError") ∧ XfC K (He.ga K "IndexRangeError") := by obtain ⟨h0, X, G, c⟩ := B; exact excCB_ok (exAt (show (exL K).all id = true from c.more) 27 rfl)
theorem ec_ShapeError (B : Bun w K mg) : ExcC K (He.ga K "ShapeError") ∧ XfC K (He.ga K "ShapeError") := by obtain ⟨h0, X, G, c⟩ := B; exact excCB_ok (exAt (show (exL K).all id = true from c.more) 28 rfl)
theorem ec_BufferMissing (B : Bun w K mg) : ExcC K (He.ga K "BufferMissing") ∧ XfC K (He.ga K "BufferMissing") := by obtain ⟨h0, X, G, c⟩ := B; exact excCB_ok (exAt (show (exL K).all id = true from c.more) 29 rfl)
theorem ec_CellError (B : Bun w K mg) : ExcC K (He.ga K "CellError") ∧ XfC K (He.ga K "CellError") := by obtain ⟨h0, X, G, c⟩ := B; exact excCB_ok (exAt (show (exL K).all id = true from c.more) 30 rfl)
theorem ec_CountError (B : Bun w K mg) : ExcC K (He.ga K "CountError") ∧ XfC K (He.ga K "CountError") := by obtain ⟨h0, X, G, c⟩ := B; exact excCB_ok (exAt (show (exL K).all id = true from c.more) 31 rfl)
theorem ec_NoSnapshot (B : Bun w K mg) : ExcC K (He.ga K "NoSnapshot") ∧ XfC K (He.ga K "NoSnapshot") := by obtain ⟨h0, X, G, c⟩ := B; exact excCB_ok (exAt (show (exL K).all id = true from c.more) 32 rfl)
theorem ec_OperatorError (B : Bun w K mg) : ExcC K (He.ga K "OperatorError") ∧ XfC K (He.ga K "OperatorError") := by obtain ⟨h0, X, G, c⟩ := B; exact excCB_ok (exAt (show (exL K).all id = true from c.more) 33 rfl)
theorem ec_FaultError (B : Bun w K mg) : ExcC K (He.ga K "FaultError") ∧ XfC K (He.ga K "FaultError") := by obtain ⟨h0, X, G, c⟩ := B; exact excCB_ok (exAt (show (exL K).all id = true from c.more) 34 rfl)
theorem ec_StepError (B : Bun w K mg) : ExcC K (He.ga K "StepError") ∧ XfC K (He.ga K "StepError") := by obtain ⟨h0, X, G, c⟩ := B; exact excCB_ok (exAt (show (exL K).all id = true from c.more) 35 rfl)
theorem ec_InputError (B : Bun w K mg) : ExcC K (He.ga K "InputError") ∧ XfC K (He.ga K "InputError") := by obtain ⟨h0, X, G, c⟩ := B; exact excCB_ok (exAt (show (exL K).all id = true from c.more) 36 rfl)
theorem ec_ParseError (B : Bun w K mg) : ExcC K (He.ga K "ParseError") ∧ XfC K (He.ga K "ParseError") := by obtain ⟨h0, X, G, c⟩ := B; exact excCB_ok (exAt (show (exL K).all id = true from c.more) 37 rfl)
theorem ec_SessionError (B : Bun w K mg) : ExcC K (He.ga K "SessionError") ∧ XfC K (He.ga K "SessionError") := by obtain ⟨h0, X, G, c⟩ := B; exact excCB_ok (exAt (show (exL K).all id = true from c.more) 38 rfl)
theorem nl_K (B : Bun w K mg) : noLst K = true := by obtain ⟨h0, X, G, c⟩ := B; exact exAt (show (exL K).all id = true from c.more) 60 rfl
theorem ec_all (B : Bun w K mg) (c : Nat) (h : c < 19) : ExcC K ((tx K).xad c) ∧ XfC K ((tx K).xad c) := by
  match c, h with
  | 0, _ => exact ec_ViewError B
  | 1, _ => exact ec_AxisError B
  | 2, _ => exact ec_LengthError B
  | 3, _ => exact ec_PositionError B
  | 4, _ => exact ec_OrderError B
  | 5, _ => exact ec_BroadcastError B
  | 6, _ => exact ec_StrideError B
  | 7, _ => exact ec_IndexRangeError B
  | 8, _ => exact ec_ShapeError B
  | 9, _ => exact ec_BufferMissing B
  | 10, _ => exact ec_CellError B
  | 11, _ => exact ec_CountError B
  | 12, _ => exact ec_NoSnapshot B
  | 13, _ => exact ec_OperatorError B
  | 14, _ => exact ec_FaultError B
  | 15, _ => exact ec_StepError B
  | 16, _ => exact ec_InputError B
  | 17, _ => exact ec_ParseError B
  | 18, _ => exact ec_SessionError B
  | n + 19, h => exact absurd h (by omega)
theorem kA_AxisError_ok (B : Bun w K mg) (c : Nat) (b : Bool) (h : kA_AxisError c = some b) : ExcC K ((tx K).xad c) ∧ PySem.W.kitOne K (.ref ((tx K).xad c)) (.ref (He.ga K "AxisError")) = some b := by obtain ⟨h0, X, G, cc⟩ := id B; exact ⟨(ec_all B c (by unfold kA_AxisError at h; split at h; assumption; cases h)).1, kitTab_ok (exAt (show (exL K).all id = true from cc.more) 39 rfl) (by unfold kA_AxisError at h; split at h; assumption; cases h) h⟩
theorem kA_BroadcastError_ok (B : Bun w K mg) (c : Nat) (b : Bool) (h : kA_BroadcastError c = some b) : ExcC K ((tx K).xad c) ∧ PySem.W.kitOne K (.ref ((tx K).xad c)) (.ref (He.ga K "BroadcastError")) = some b := by obtain ⟨h0, X, G, cc⟩ := id B; exact ⟨(ec_all B c (by unfold kA_BroadcastError at h; split at h; assumption; cases h)).1, kitTab_ok (exAt (show (exL K).all id = true from cc.more) 40 rfl) (by unfold kA_BroadcastError at h; split at h; assumption; cases h) h⟩
theorem kA_BufferMissing_ok (B : Bun w K mg) (c : Nat) (b : Bool) (h : kA_BufferMissing c = some b) : ExcC K ((tx K).xad c) ∧ PySem.W.kitOne K (.ref ((tx K).xad c)) (.ref (He.ga K "BufferMissing")) = some b := by obtain ⟨h0, X, G, cc⟩ := id B; exact ⟨(ec_all B c (by unfold kA_BufferMissing at h; split at h; assumption; cases h)).1, kitTab_ok (exAt (show (exL K).all id = true from cc.more) 41 rfl) (by unfold kA_BufferMissing at h; split at h; assumption; cases h) h⟩
theorem kA_CellError_ok (B : Bun w K mg) (c : Nat) (b : Bool) (h : kA_CellError c = some b) : ExcC K ((tx K).xad c) ∧ PySem.W.kitOne K (.ref ((tx K).xad c)) (.ref (He.ga K "CellError")) = some b := by obtain ⟨h0, X, G, cc⟩ := id B; exact ⟨(ec_all B c (by unfold kA_CellError at h; split at h; assumption; cases h)).1, kitTab_ok (exAt (show (exL K).all id = true from cc.more) 42 rfl) (by unfold kA_CellError at h; split at h; assumption; cases h) h⟩
theorem kA_CountError_ok (B : Bun w K mg) (c : Nat) (b : Bool) (h : kA_CountError c = some b) : ExcC K ((tx K).xad c) ∧ PySem.W.kitOne K (.ref ((tx K).xad c)) (.ref (He.ga K "CountError")) = some b := by obtain ⟨h0, X, G, cc⟩ := id B; exact ⟨(ec_all B c (by unfold kA_CountError at h; split at h; assumption; cases h)).1, kitTab_ok (exAt (show (exL K).all id = true from cc.more) 43 rfl) (by unfold kA_CountError at h; split at h; assumption; cases h) h⟩
theorem kA_FaultError_ok (B : Bun w K mg) (c : Nat) (b : Bool) (h : kA_FaultError c = some b) : ExcC K ((tx K).xad c) ∧ PySem.W.kitOne K (.ref ((tx K).xad c)) (.ref (He.ga K "FaultError")) = some b := by obtain ⟨h0, X, G, cc⟩ := id B; exact ⟨(ec_all B c (by unfold kA_FaultError at h; split at h; assumption; cases h)).1, kitTab_ok (exAt (show (exL K).all id = true from cc.more) 44 rfl) (by unfold kA_FaultError at h; split at h; assumption; cases h) h⟩
theorem kA_IndexRangeError_ok (B : Bun w K mg) (c : Nat) (b : Bool) (h : kA_IndexRangeError c = some b) : ExcC K ((tx K).xad c) ∧ PySem.W.kitOne K (.ref ((tx K).xad c)) (.ref (He.ga K "IndexRangeError")) = some b := by obtain ⟨h0, X, G, cc⟩ := id B; exact ⟨(ec_all B c (by unfold kA_IndexRangeError at h; split at h; assumption; cases h)).1, kitTab_ok (exAt (show (exL K).all id = true from cc.more) 45 rfl) (by unfold kA_IndexRangeError at h; split at h; assumption; cases h) h⟩
theorem kA_InputError_ok (B : Bun w K mg) (c : Nat) (b : Bool) (h : kA_InputError c = some b) : ExcC K ((tx K).xad c) ∧ PySem.W.kitOne K (.ref ((tx K).xad c)) (.ref (He.ga K "InputError")) = some b := by obtain ⟨h0, X, G, cc⟩ := id B; exact ⟨(ec_all B c (by unfold kA_InputError at h; split at h; assumption; cases h)).1, kitTab_ok (exAt (show (exL K).all id = true from cc.more) 46 rfl) (by unfold kA_InputError at h; split at h; assumption; cases h) h⟩
theorem kA_LateCopyError_ok (B : Bun w K mg) (c : Nat) (b : Bool) (h : kA_LateCopyError c = some b) : ExcC K ((tx K).xad c) ∧ PySem.W.kitOne K (.ref ((tx K).xad c)) (.ref (He.ga K "LateCopyError")) = some b := by obtain ⟨h0, X, G, cc⟩ := id B; exact ⟨(ec_all B c (by unfold kA_LateCopyError at h; split at h; assumption; cases h)).1, kitTab_ok (exAt (show (exL K).all id = true from cc.more) 47 rfl) (by unfold kA_LateCopyError at h; split at h; assumption; cases h) h⟩
theorem kA_LengthError_ok (B : Bun w K mg) (c : Nat) (b : Bool) (h : kA_LengthError c = some b) : ExcC K ((tx K).xad c) ∧ PySem.W.kitOne K (.ref ((tx K).xad c)) (.ref (He.ga K "LengthError")) = some b := by obtain ⟨h0, X, G, cc⟩ := id B; exact ⟨(ec_all B c (by unfold kA_LengthError at h; split at h; assumption; cases h)).1, kitTab_ok (exAt (show (exL K).all id = true from cc.more) 48 rfl) (by unfold kA_LengthError at h; split at h; assumption; cases h) h⟩
theorem kA_NoSnapshot_ok (B : Bun w K mg) (c : Nat) (b : Bool) (h : kA_NoSnapshot c = some b) : ExcC K ((tx K).xad c) ∧ PySem.W.kitOne K (.ref ((tx K).xad c)) (.ref (He.ga K "NoSnapshot")) = some b := by obtain ⟨h0, X, G, cc⟩ := id B; exact ⟨(ec_all B c (by unfold kA_NoSnapshot at h; split at h; assumption; cases h)).1, kitTab_ok (exAt (show (exL K).all id = true from cc.more) 49 rfl) (by unfold kA_NoSnapshot at h; split at h; assumption; cases h) h⟩
theorem kA_OperatorError_ok (B : Bun w K mg) (c : Nat) (b : Bool) (h : kA_OperatorError c = some b) : ExcC K ((tx K).xad c) ∧ PySem.W.kitOne K (.ref ((tx K).xad c)) (.ref (He.ga K "OperatorError")) = some b := by obtain ⟨h0, X, G, cc⟩ := id B; exact ⟨(ec_all B c (by unfold kA_OperatorError at h; split at h; assumption; cases h)).1, kitTab_ok (exAt (show (exL K).all id = true from cc.more) 50 rfl) (by unfold kA_OperatorError at h; split at h; assumption; cases h) h⟩
theorem kA_OrderError_ok (B : Bun w K mg) (c : Nat) (b : Bool) (h : kA_OrderError c = some b) : ExcC K ((tx K).xad c) ∧ PySem.W.kitOne K (.ref ((tx K).xad c)) (.ref (He.ga K "OrderError")) = some b := by obtain ⟨h0, X, G, cc⟩ := id B; exact ⟨(ec_all B c (by unfold kA_OrderError at h; split at h; assumption; cases h)).1, kitTab_ok (exAt (show (exL K).all id = true from cc.more) 51 rfl) (by unfold kA_OrderError at h; split at h; assumption; cases h) h⟩
theorem kA_ParseError_ok (B : Bun w K mg) (c : Nat) (b : Bool) (h : kA_ParseError c = some b) : ExcC K ((tx K).xad c) ∧ PySem.W.kitOne K (.ref ((tx K).xad c)) (.ref (He.ga K "ParseError")) = some b := by obtain ⟨h0, X, G, cc⟩ := id B; exact ⟨(ec_all B c (by unfold kA_ParseError at h; split at h; assumption; cases h)).1, kitTab_ok (exAt (show (exL K).all id = true from cc.more) 52 rfl) (by unfold kA_ParseError at h; split at h; assumption; cases h) h⟩
theorem kA_PositionError_ok (B : Bun w K mg) (c : Nat) (b : Bool) (h : kA_PositionError c = some b) : ExcC K ((tx K).xad c) ∧ PySem.W.kitOne K (.ref ((tx K).xad c)) (.ref (He.ga K "PositionError")) = some b := by obtain ⟨h0, X, G, cc⟩ := id B; exact ⟨(ec_all B c (by unfold kA_PositionError at h; split at h; assumption; cases h)).1, kitTab_ok (exAt (show (exL K).all id = true from cc.more) 53 rfl) (by unfold kA_PositionError at h; split at h; assumption; cases h) h⟩
theorem kA_SessionError_ok (B : Bun w K mg) (c : Nat) (b : Bool) (h : kA_SessionError c = some b) : ExcC K ((tx K).xad c) ∧ PySem.W.kitOne K (.ref ((tx K).xad c)) (.ref (He.ga K "SessionError")) = some b := by obtain ⟨h0, X, G, cc⟩ := id B; exact ⟨(ec_all B c (by unfold kA_SessionError at h; split at h; assumption; cases h)).1, kitTab_ok (exAt (show (exL K).all id = true from cc.more) 54 rfl) (by unfold kA_SessionError at h; split at h; assumption; cases h) h⟩
theorem kA_ShapeError_ok (B : Bun w K mg) (c : Nat) (b : Bool) (h : kA_ShapeError c = some b) : ExcC K ((tx K).xad c) ∧ PySem.W.kitOne K (.ref ((tx K).xad c)) (.ref (He.ga K "ShapeError")) = some b := by obtain ⟨h0, X, G, cc⟩ := id B; exact ⟨(ec_all B c (by unfold kA_ShapeError at h; split at h; assumption; cases h)).1, kitTab_ok (exAt (show (exL K).all id = true from cc.more) 55 rfl) (by unfold kA_ShapeError at h; split at h; assumption; cases h) h⟩
theorem kA_StepError_ok (B : Bun w K mg) (c : Nat) (b : Bool) (h : kA_StepError c = some b) : ExcC K ((tx K).xad c) ∧ PySem.W.kitOne K (.ref ((tx K).xad c)) (.ref (He.ga K "StepError")) = some b := by obtain ⟨h0, X, G, cc⟩ := id B; exact ⟨(ec_all B c (by unfold kA_StepError at h; split at h; assumption; cases h)).1, kitTab_ok (exAt (show (exL K).all id = true from cc.more) 56 rfl) (by unfold kA_StepError at h; split at h; assumption; cases h) h⟩
theorem kA_StrideError_ok (B : Bun w K mg) (c : Nat) (b : Bool) (h : kA_StrideError c = some b) : ExcC K ((tx K).xad c) ∧ PySem.W.kitOne K (.ref ((tx K).xad c)) (.ref (He.ga K "StrideError")) = some b := by obtain ⟨h0, X, G, cc⟩ := id B; exact ⟨(ec_all B c (by unfold kA_StrideError at h; split at h; assumption; cases h)).1, kitTab_ok (exAt (show (exL K).all id = true from cc.more) 57 rfl) (by unfold kA_StrideError at h; split at h; assumption; cases h) h⟩
theorem kA_ValueError_ok (B : Bun w K mg) (c : Nat) (b : Bool) (h : kA_ValueError c = some b) : ExcC K ((tx K).xad c) ∧ PySem.W.kitOne K (.ref ((tx K).xad c)) (.type "ValueError") = some b := by obtain ⟨h0, X, G, cc⟩ := id B; exact ⟨(ec_all B c (by unfold kA_ValueError at h; split at h; assumption; cases h)).1, kitTab_ok (exAt (show (exL K).all id = true from cc.more) 58 rfl) (by unfold kA_ValueError at h; split at h; assumption; cases h) h⟩
theorem kA_ViewError_ok (B : Bun w K mg) (c : Nat) (b : Bool) (h : kA_ViewError c = some b) : ExcC K ((tx K).xad c) ∧ PySem.W.kitOne K (.ref ((tx K).xad c)) (.ref (He.ga K "ViewError")) = some b := by obtain ⟨h0, X, G, cc⟩ := id B; exact ⟨(ec_all B c (by unfold kA_ViewError at h; split at h; assumption; cases h)).1, kitTab_ok (exAt (show (exL K).all id = true from cc.more) 59 rfl) (by unfold kA_ViewError at h; split at h; assumption; cases h) h⟩
def jF_at : Nat → Option Nat
  | 15 => some 0
  | 16 => some 0
  | _ => none
theorem jF_at_ok (B : Bun w K mg) (c j : Nat) (h : jF_at c = some j) : XfC K ((tx K).xad c) ∧ PySem.W.findIn K (.ref ((tx K).xad c)) "at" = some none ∧ ((tx K).xfn c)[j]? = some "at" := by
  match c, h with
  | 15, h => cases h; exact ⟨(ec_StepError B).2, na_StepError_at B, rfl⟩
  | 16, h => cases h; exact ⟨(ec_InputError B).2, na_InputError_at B, rfl⟩
def jF_axis : Nat → Option Nat
  | 1 => some 0
  | 5 => some 0
  | _ => none
theorem jF_axis_ok (B : Bun w K mg) (c j : Nat) (h : jF_axis c = some j) : XfC K ((tx K).xad c) ∧ PySem.W.findIn K (.ref ((tx K).xad c)) "axis" = some none ∧ ((tx K).xfn c)[j]? = some "axis" := by
  match c, h with
  | 1, h => cases h; exact ⟨(ec_AxisError B).2, na_AxisError_axis B, rfl⟩
  | 5, h => cases h; exact ⟨(ec_BroadcastError B).2, na_BroadcastError_axis B, rfl⟩
def jF_buffer : Nat → Option Nat
  | 9 => some 0
  | _ => none
theorem jF_buffer_ok (B : Bun w K mg) (c j : Nat) (h : jF_buffer c = some j) : XfC K ((tx K).xad c) ∧ PySem.W.findIn K (.ref ((tx K).xad c)) "buffer" = some none ∧ ((tx K).xfn c)[j]? = some "buffer" := by
  match c, h with
  | 9, h => cases h; exact ⟨(ec_BufferMissing B).2, na_BufferMissing_buffer B, rfl⟩
def jF_count : Nat → Option Nat
  | 11 => some 0
  | _ => none
theorem jF_count_ok (B : Bun w K mg) (c j : Nat) (h : jF_count c = some j) : XfC K ((tx K).xad c) ∧ PySem.W.findIn K (.ref ((tx K).xad c)) "count" = some none ∧ ((tx K).xfn c)[j]? = some "count" := by
  match c, h with
  | 11, h => cases h; exact ⟨(ec_CountError B).2, na_CountError_count B, rfl⟩
def jF_index : Nat → Option Nat
  | 7 => some 0
  | _ => none
theorem jF_index_ok (B : Bun w K mg) (c j : Nat) (h : jF_index c = some j) : XfC K ((tx K).xad c) ∧ PySem.W.findIn K (.ref ((tx K).xad c)) "index" = some none ∧ ((tx K).xfn c)[j]? = some "index" := by
  match c, h with
  | 7, h => cases h; exact ⟨(ec_IndexRangeError B).2, na_IndexRangeError_index B, rfl⟩
def jF_line : Nat → Option Nat
  | 17 => some 0
  | _ => none
theorem jF_line_ok (B : Bun w K mg) (c j : Nat) (h : jF_line c = some j) : XfC K ((tx K).xad c) ∧ PySem.W.findIn K (.ref ((tx K).xad c)) "line" = some none ∧ ((tx K).xfn c)[j]? = some "line" := by
  match c, h with
  | 17, h => cases h; exact ⟨(ec_ParseError B).2, na_ParseError_line B, rfl⟩
def jF_number : Nat → Option Nat
  | 6 => some 0
  | 10 => some 0
  | _ => none
theorem jF_number_ok (B : Bun w K mg) (c j : Nat) (h : jF_number c = some j) : XfC K ((tx K).xad c) ∧ PySem.W.findIn K (.ref ((tx K).xad c)) "number" = some none ∧ ((tx K).xfn c)[j]? = some "number" := by
  match c, h with
  | 6, h => cases h; exact ⟨(ec_StrideError B).2, na_StrideError_number B, rfl⟩
  | 10, h => cases h; exact ⟨(ec_CellError B).2, na_CellError_number B, rfl⟩
def jF_operator : Nat → Option Nat
  | 13 => some 0
  | _ => none
theorem jF_operator_ok (B : Bun w K mg) (c j : Nat) (h : jF_operator c = some j) : XfC K ((tx K).xad c) ∧ PySem.W.findIn K (.ref ((tx K).xad c)) "operator" = some none ∧ ((tx K).xfn c)[j]? = some "operator" := by
  match c, h with
  | 13, h => cases h; exact ⟨(ec_OperatorError B).2, na_OperatorError_operator B, rfl⟩
def jF_order : Nat → Option Nat
  | 4 => some 0
  | _ => none
theorem jF_order_ok (B : Bun w K mg) (c j : Nat) (h : jF_order c = some j) : XfC K ((tx K).xad c) ∧ PySem.W.findIn K (.ref ((tx K).xad c)) "order" = some none ∧ ((tx K).xfn c)[j]? = some "order" := by
  match c, h with
  | 4, h => cases h; exact ⟨(ec_OrderError B).2, na_OrderError_order B, rfl⟩
def jF_other : Nat → Option Nat
  | 8 => some 1
  | _ => none
theorem jF_other_ok (B : Bun w K mg) (c j : Nat) (h : jF_other c = some j) : XfC K ((tx K).xad c) ∧ PySem.W.findIn K (.ref ((tx K).xad c)) "other" = some none ∧ ((tx K).xfn c)[j]? = some "other" := by
  match c, h with
  | 8, h => cases h; exact ⟨(ec_ShapeError B).2, na_ShapeError_other B, rfl⟩
def jF_position : Nat → Option Nat
  | 3 => some 0
  | _ => none
theorem jF_position_ok (B : Bun w K mg) (c j : Nat) (h : jF_position c = some j) : XfC K ((tx K).xad c) ∧ PySem.W.findIn K (.ref ((tx K).xad c)) "position" = some none ∧ ((tx K).xfn c)[j]? = some "position" := by
  match c, h with
  | 3, h => cases h; exact ⟨(ec_PositionError B).2, na_PositionError_position B, rfl⟩
def jF_reason : Nat → Option Nat
  | 0 => some 0
  | 14 => some 0
  | 15 => some 1
  | 17 => some 1
  | 18 => some 0
  | _ => none
theorem jF_reason_ok (B : Bun w K mg) (c j : Nat) (h : jF_reason c = some j) : XfC K ((tx K).xad c) ∧ PySem.W.findIn K (.ref ((tx K).xad c)) "reason" = some none ∧ ((tx K).xfn c)[j]? = some "reason" := by
  match c, h with
  | 0, h => cases h; exact ⟨(ec_ViewError B).2, na_ViewError_reason B, rfl⟩
  | 14, h => cases h; exact ⟨(ec_FaultError B).2, na_FaultError_reason B, rfl⟩
  | 15, h => cases h; exact ⟨(ec_StepError B).2, na_StepError_reason B, rfl⟩
  | 17, h => cases h; exact ⟨(ec_ParseError B).2, na_ParseError_reason B, rfl⟩
  | 18, h => cases h; exact ⟨(ec_SessionError B).2, na_SessionError_reason B, rfl⟩
def jF_shape : Nat → Option Nat
  | 8 => some 0
  | _ => none
theorem jF_shape_ok (B : Bun w K mg) (c j : Nat) (h : jF_shape c = some j) : XfC K ((tx K).xad c) ∧ PySem.W.findIn K (.ref ((tx K).xad c)) "shape" = some none ∧ ((tx K).xfn c)[j]? = some "shape" := by
  match c, h with
  | 8, h => cases h; exact ⟨(ec_ShapeError B).2, na_ShapeError_shape B, rfl⟩
def jF_value : Nat → Option Nat
  | 2 => some 0
  | _ => none
theorem jF_value_ok (B : Bun w K mg) (c j : Nat) (h : jF_value c = some j) : XfC K ((tx K).xad c) ∧ PySem.W.findIn K (.ref ((tx K).xad c)) "value" = some none ∧ ((tx K).xfn c)[j]? = some "value" := by
  match c, h with
  | 2, h => cases h; exact ⟨(ec_LengthError B).2, na_LengthError_value B, rfl⟩
end
section
variable {P : Program} {w : World} {K : PySem.W.Frag} {mg : Str → Option Value} {base : Heap}
abbrev okV (K : PySem.W.Frag) (i : Nat) : L2.St → Hp → Prop := fun σ H => ∃ v, σ[i]? = some (some v) ∧ Shown K H v
abbrev okT : L2.St → Hp → Prop := fun _ _ => True
theorem v_AxisError (B : Bun w K mg) : XVc (tx K) P w K mg base 1 1 1 1 ["axis"] := by
  obtain ⟨fd, F⟩ := df_AxisError_init B
  have hb := ba_LateCopyError B
  refine xvc1 (t := tx K) (x := "AxisError") (sf := "self") (a1 := "axis") (f1 := "axis") (ok := fun σ H => ∀ ok ∈ [okT, okV K 1], ok σ H) (xc_AxisError B) rfl rfl F rfl ⟨rfl, rfl, rfl, by decide +kernel, rfl, by decide +kernel, by decide +kernel⟩ (fun _ _ _ _ _ _ us ws hl hw => match us, ws, hl, hw with | [_, _], [], _, _ => rfl) (fun _ _ _ _ _ _ us ws hl hw => match us, ws, hl, hw with | [_], [_], _, _ => rfl)
    (fun T cdv A outer s H hr => ?_) (fun T cdv A outer s H => ?_) ?_
  · exact x_row0 T rfl (g_LateCopyError B) hb.hga hb.rd hb.fc (pv 0) (pf_join (oks := [okT, okV K 1]) (.cons pf_str (.cons (pf_name (roomH_u hr) (pv 1)) .nil)) (by show 2 ≤ 6; decide))
  · exact x_row1 T (na_AxisError_axis B) (pv 0) (pv 1)
  · intro a v H h1 o ho
    simp only [List.mem_cons, List.not_mem_nil, or_false] at ho
    rcases ho with rfl | rfl
    · trivial
    · exact ⟨v, rfl, h1⟩
theorem v_BroadcastError (B : Bun w K mg) : XVc (tx K) P w K mg base 5 1 1 1 ["axis"] := by
  obtain ⟨fd, F⟩ := df_BroadcastError_init B
  have hb := ba_LateCopyError B
  refine xvc1 (t := tx K) (x := "BroadcastError") (sf := "self") (a1 := "axis") (f1 := "axis") (ok := fun σ H => ∀ ok ∈ [okT, okV K 1, okT], ok σ H) (xc_BroadcastError B) rfl rfl F rfl ⟨rfl, rfl, rfl, by decide +kernel, rfl, by decide +kernel, by decide +kernel⟩ (fun _ _ _ _ _ _ us ws hl hw => match us, ws, hl, hw with | [_, _], [], _, _ => rfl) (fun _ _ _ _ _ _ us ws hl hw => match us, ws, hl, hw with | [_], [_], _, _ => rfl)
    (fun T cdv A outer s H hr => ?_) (fun T cdv A outer s H => ?_) ?_
  · exact x_row0 T rfl (g_LateCopyError B) hb.hga hb.rd hb.fc (pv 0) (pf_join (oks := [okT, okV K 1, okT]) (.cons pf_str (.cons (pf_name (roomH_u hr) (pv 1)) (.cons pf_str .nil))) (by show 3 ≤ 6; decide))
  · exact x_row1 T (na_BroadcastError_axis B) (pv 0) (pv 1)
  · intro a v H h1 o ho
    simp only [List.mem_cons, List.not_mem_nil, or_false] at ho
    rcases ho with rfl | rfl | rfl
    · trivial
    · exact ⟨v, rfl, h1⟩
    · trivial
theorem v_BufferMissing (B : Bun w K mg) : XVc (tx K) P w K mg base 9 1 1 1 ["buffer"] := by
  obtain ⟨fd, F⟩ := df_BufferMissing_init B
  have hb := ba_LateCopyError B
  refine xvc1 (t := tx K) (x := "BufferMissing") (sf := "self") (a1 := "buffer") (f1 := "buffer") (ok := fun σ H => ∀ ok ∈ [okT, okV K 1], ok σ H) (xc_BufferMissing B) rfl rfl F rfl ⟨rfl, rfl, rfl, by decide +kernel, rfl, by decide +kernel, by decide +kernel⟩ (fun _ _ _ _ _ _ us ws hl hw => match us, ws, hl, hw with | [_, _], [], _, _ => rfl) (fun _ _ _ _ _ _ us ws hl hw => match us, ws, hl, hw with | [_], [_], _, _ => rfl)
    (fun T cdv A outer s H hr => ?_) (fun T cdv A outer s H => ?_) ?_
  · exact x_row0 T rfl (g_LateCopyError B) hb.hga hb.rd hb.fc (pv 0) (pf_join (oks := [okT, okV K 1]) (.cons pf_str (.cons (pf_name (roomH_u hr) (pv 1)) .nil)) (by show 2 ≤ 6; decide))
  · exact x_row1 T (na_BufferMissing_buffer B) (pv 0) (pv 1)
  · intro a v H h1 o ho
    simp only [List.mem_cons, List.not_mem_nil, or_false] at ho
    rcases ho with rfl | rfl
    · trivial
    · exact ⟨v, rfl, h1⟩
theorem v_CellError (B : Bun w K mg) : XVc (tx K) P w K mg base 10 1 1 1 ["number"] := by
  obtain ⟨fd, F⟩ := df_CellError_init B
  have hb := ba_LateCopyError B
  refine xvc1 (t := tx K) (x := "CellError") (sf := "self") (a1 := "number") (f1 := "number") (ok := fun σ H => ∀ ok ∈ [okT, okV K 1], ok σ H) (xc_CellError B) rfl rfl F rfl ⟨rfl, rfl, rfl, by decide +kernel, rfl, by decide +kernel, by decide +kernel⟩ (fun _ _ _ _ _ _ us ws hl hw => match us, ws, hl, hw with | [_, _], [], _, _ => rfl) (fun _ _ _ _ _ _ us ws hl hw => match us, ws, hl, hw with | [_], [_], _, _ => rfl)
    (fun T cdv A outer s H hr => ?_) (fun T cdv A outer s H => ?_) ?_
  · exact x_row0 T rfl (g_LateCopyError B) hb.hga hb.rd hb.fc (pv 0) (pf_join (oks := [okT, okV K 1]) (.cons pf_str (.cons (pf_name (roomH_u hr) (pv 1)) .nil)) (by show 2 ≤ 6; decide))
  · exact x_row1 T (na_CellError_number B) (pv 0) (pv 1)
  · intro a v H h1 o ho
    simp only [List.mem_cons, List.not_mem_nil, or_false] at ho
    rcases ho with rfl | rfl
    · trivial
    · exact ⟨v, rfl, h1⟩
theorem v_CountError (B : Bun w K mg) : XVc (tx K) P w K mg base 11 1 1 1 ["count"] := by
  obtain ⟨fd, F⟩ := df_CountError_init B
  have hb := ba_LateCopyError B
  refine xvc1 (t := tx K) (x := "CountError") (sf := "self") (a1 := "count") (f1 := "count") (ok := fun σ H => ∀ ok ∈ [okV K 1, okT], ok σ H) (xc_CountError B) rfl rfl F rfl ⟨rfl, rfl, rfl, by decide +kernel, rfl, by decide +kernel, by decide +kernel⟩ (fun _ _ _ _ _ _ us ws hl hw => match us, ws, hl, hw with | [_, _], [], _, _ => rfl) (fun _ _ _ _ _ _ us ws hl hw => match us, ws, hl, hw with | [_], [_], _, _ => rfl)
    (fun T cdv A outer s H hr => ?_) (fun T cdv A outer s H => ?_) ?_
  · exact x_row0 T rfl (g_LateCopyError B) hb.hga hb.rd hb.fc (pv 0) (pf_join (oks := [okV K 1, okT]) (.cons (pf_name (roomH_u hr) (pv 1)) (.cons pf_str .nil)) (by show 2 ≤ 6; decide))
  · exact x_row1 T (na_CountError_count B) (pv 0) (pv 1)
  · intro a v H h1 o ho
    simp only [List.mem_cons, List.not_mem_nil, or_false] at ho
    rcases ho with rfl | rfl
    · exact ⟨v, rfl, h1⟩
    · trivial
theorem v_FaultError (B : Bun w K mg) : XVc (tx K) P w K mg base 14 1 1 1 ["reason"] := by
  obtain ⟨fd, F⟩ := df_FaultError_init B
  have hb := ba_LateCopyError B
  refine xvc1 (t := tx K) (x := "FaultError") (sf := "self") (a1 := "reason") (f1 := "reason") (ok := fun σ H => ∀ ok ∈ [okT, okV K 1], ok σ H) (xc_FaultError B) rfl rfl F rfl ⟨rfl, rfl, rfl, by decide +kernel, rfl, by decide +kernel, by decide +kernel⟩ (fun _ _ _ _ _ _ us ws hl hw => match us, ws, hl, hw with | [_, _], [], _, _ => rfl) (fun _ _ _ _ _ _ us ws hl hw => match us, ws, hl, hw with | [_], [_], _, _ => rfl)
    (fun T cdv A outer s H hr => ?_) (fun T cdv A outer s H => ?_) ?_
  · exact x_row0 T rfl (g_LateCopyError B) hb.hga hb.rd hb.fc (pv 0) (pf_join (oks := [okT, okV K 1]) (.cons pf_str (.cons (pf_name (roomH_u hr) (pv 1)) .nil)) (by show 2 ≤ 6; decide))
  · exact x_row1 T (na_FaultError_reason B) (pv 0) (pv 1)
  · intro a v H h1 o ho
    simp only [List.mem_cons, List.not_mem_nil, or_false] at ho
    rcases ho with rfl | rfl
    · trivial
    · exact ⟨v, rfl, h1⟩
theorem v_IndexRangeError (B : Bun w K mg) : XVc (tx K) P w K mg base 7 1 1 1 ["index"] := by
  obtain ⟨fd, F⟩ := df_IndexRangeError_init B
  have hb := ba_LateCopyError B
  refine xvc1 (t := tx K) (x := "IndexRangeError") (sf := "self") (a1 := "index") (f1 := "index") (ok := fun σ H => ∀ ok ∈ [okV K 1, okT], ok σ H) (xc_IndexRangeError B) rfl rfl F rfl ⟨rfl, rfl, rfl, by decide +kernel, rfl, by decide +kernel, by decide +kernel⟩ (fun _ _ _ _ _ _ us ws hl hw => match us, ws, hl, hw with | [_, _], [], _, _ => rfl) (fun _ _ _ _ _ _ us ws hl hw => match us, ws, hl, hw with | [_], [_], _, _ => rfl)
    (fun T cdv A outer s H hr => ?_) (fun T cdv A outer s H => ?_) ?_
  · exact x_row0 T rfl (g_LateCopyError B) hb.hga hb.rd hb.fc (pv 0) (pf_join (oks := [okV K 1, okT]) (.cons (pf_name (roomH_u hr) (pv 1)) (.cons pf_str .nil)) (by show 2 ≤ 6; decide))
  · exact x_row1 T (na_IndexRangeError_index B) (pv 0) (pv 1)
  · intro a v H h1 o ho
    simp only [List.mem_cons, List.not_mem_nil, or_false] at ho
    rcases ho with rfl | rfl
    · exact ⟨v, rfl, h1⟩
    · trivial
theorem v_InputError (B : Bun w K mg) : XVc (tx K) P w K mg base 16 1 1 1 ["at"] := by
  obtain ⟨fd, F⟩ := df_InputError_init B
  have hb := ba_LateCopyError B
  refine xvc1 (t := tx K) (x := "InputError") (sf := "self") (a1 := "at") (f1 := "at") (ok := fun σ H => ∀ ok ∈ [okT, okV K 1, okT], ok σ H) (xc_InputError B) rfl rfl F rfl ⟨rfl, rfl, rfl, by decide +kernel, rfl, by decide +kernel, by decide +kernel⟩ (fun _ _ _ _ _ _ us ws hl hw => match us, ws, hl, hw with | [_, _], [], _, _ => rfl) (fun _ _ _ _ _ _ us ws hl hw => match us, ws, hl, hw with | [_], [_], _, _ => rfl)
    (fun T cdv A outer s H hr => ?_) (fun T cdv A outer s H => ?_) ?_
  · exact x_row0 T rfl (g_LateCopyError B) hb.hga hb.rd hb.fc (pv 0) (pf_join (oks := [okT, okV K 1, okT]) (.cons pf_str (.cons (pf_name (roomH_u hr) (pv 1)) (.cons pf_str .nil))) (by show 3 ≤ 6; decide))
  · exact x_row1 T (na_InputError_at B) (pv 0) (pv 1)
  · intro a v H h1 o ho
    simp only [List.mem_cons, List.not_mem_nil, or_false] at ho
    rcases ho with rfl | rfl | rfl
    · trivial
    · exact ⟨v, rfl, h1⟩
    · trivial
theorem v_LengthError (B : Bun w K mg) : XVc (tx K) P w K mg base 2 1 1 1 ["value"] := by
  obtain ⟨fd, F⟩ := df_LengthError_init B
  have hb := ba_LateCopyError B
  refine xvc1 (t := tx K) (x := "LengthError") (sf := "self") (a1 := "value") (f1 := "value") (ok := fun σ H => ∀ ok ∈ [okT, okV K 1], ok σ H) (xc_LengthError B) rfl rfl F rfl ⟨rfl, rfl, rfl, by decide +kernel, rfl, by decide +kernel, by decide +kernel⟩ (fun _ _ _ _ _ _ us ws hl hw => match us, ws, hl, hw with | [_, _], [], _, _ => rfl) (fun _ _ _ _ _ _ us ws hl hw => match us, ws, hl, hw with | [_], [_], _, _ => rfl)
    (fun T cdv A outer s H hr => ?_) (fun T cdv A outer s H => ?_) ?_
  · exact x_row0 T rfl (g_LateCopyError B) hb.hga hb.rd hb.fc (pv 0) (pf_join (oks := [okT, okV K 1]) (.cons pf_str (.cons (pf_name (roomH_u hr) (pv 1)) .nil)) (by show 2 ≤ 6; decide))
  · exact x_row1 T (na_LengthError_value B) (pv 0) (pv 1)
  · intro a v H h1 o ho
    simp only [List.mem_cons, List.not_mem_nil, or_false] at ho
    rcases ho with rfl | rfl
    · trivial
    · exact ⟨v, rfl, h1⟩
theorem v_NoSnapshot (B : Bun w K mg) : XVc (tx K) P w K mg base 12 1 0 1 ["message"] := by
  obtain ⟨fd, F⟩ := df_NoSnapshot_init B
  have hb := ba_LateCopyError B
  refine xvc0 (t := tx K) (x := "NoSnapshot") (sf := "self") (a1 := "message")  (ok := okV K 1) (xc_NoSnapshot B) rfl rfl F rfl ⟨rfl, rfl, rfl, by decide +kernel, rfl, by decide +kernel, by decide +kernel⟩ (fun _ _ _ _ _ _ us ws hl hw => match us, ws, hl, hw with | [_, _], [], _, _ => rfl) (fun _ _ _ _ _ _ us ws hl hw => match us, ws, hl, hw with | [_], [_], _, _ => rfl)
    (fun T cdv A outer s H hr => ?_)  ?_
  · exact x_row0 T rfl (g_LateCopyError B) hb.hga hb.rd hb.fc (pv 0) (pf_join1 (pf_name (roomH_u hr) (pv 1)))
  · intro a v H h1
    exact ⟨v, rfl, h1⟩
theorem v_OperatorError (B : Bun w K mg) : XVc (tx K) P w K mg base 13 1 1 1 ["operator"] := by
  obtain ⟨fd, F⟩ := df_OperatorError_init B
  have hb := ba_LateCopyError B
  refine xvc1 (t := tx K) (x := "OperatorError") (sf := "self") (a1 := "operator") (f1 := "operator") (ok := fun σ H => ∀ ok ∈ [okT, okV K 1], ok σ H) (xc_OperatorError B) rfl rfl F rfl ⟨rfl, rfl, rfl, by decide +kernel, rfl, by decide +kernel, by decide +kernel⟩ (fun _ _ _ _ _ _ us ws hl hw => match us, ws, hl, hw with | [_, _], [], _, _ => rfl) (fun _ _ _ _ _ _ us ws hl hw => match us, ws, hl, hw with | [_], [_], _, _ => rfl)
    (fun T cdv A outer s H hr => ?_) (fun T cdv A outer s H => ?_) ?_
  · exact x_row0 T rfl (g_LateCopyError B) hb.hga hb.rd hb.fc (pv 0) (pf_join (oks := [okT, okV K 1]) (.cons pf_str (.cons (pf_name (roomH_u hr) (pv 1)) .nil)) (by show 2 ≤ 6; decide))
  · exact x_row1 T (na_OperatorError_operator B) (pv 0) (pv 1)
  · intro a v H h1 o ho
    simp only [List.mem_cons, List.not_mem_nil, or_false] at ho
    rcases ho with rfl | rfl
    · trivial
    · exact ⟨v, rfl, h1⟩
theorem v_OrderError (B : Bun w K mg) : XVc (tx K) P w K mg base 4 1 1 1 ["order"] := by
  obtain ⟨fd, F⟩ := df_OrderError_init B
  have hb := ba_LateCopyError B
  refine xvc1 (t := tx K) (x := "OrderError") (sf := "self") (a1 := "order") (f1 := "order") (ok := fun σ H => ∀ ok ∈ [okT, okV K 1, okT], ok σ H) (xc_OrderError B) rfl rfl F rfl ⟨rfl, rfl, rfl, by decide +kernel, rfl, by decide +kernel, by decide +kernel⟩ (fun _ _ _ _ _ _ us ws hl hw => match us, ws, hl, hw with | [_, _], [], _, _ => rfl) (fun _ _ _ _ _ _ us ws hl hw => match us, ws, hl, hw with | [_], [_], _, _ => rfl)
    (fun T cdv A outer s H hr => ?_) (fun T cdv A outer s H => ?_) ?_
  · exact x_row0 T rfl (g_LateCopyError B) hb.hga hb.rd hb.fc (pv 0) (pf_join (oks := [okT, okV K 1, okT]) (.cons pf_str (.cons (pf_name (roomH_u hr) (pv 1)) (.cons pf_str .nil))) (by show 3 ≤ 6; decide))
  · exact x_row1 T (na_OrderError_order B) (pv 0) (pv 1)
  · intro a v H h1 o ho
    simp only [List.mem_cons, List.not_mem_nil, or_false] at ho
    rcases ho with rfl | rfl | rfl
    · trivial
    · exact ⟨v, rfl, h1⟩
    · trivial
theorem v_ParseError (B : Bun w K mg) : XVc (tx K) P w K mg base 17 2 2 1 ["reason", "line"] := by
  obtain ⟨fd, F⟩ := df_ParseError_init B
  have hb := ba_LateCopyError B
  refine xvc2 (t := tx K) (x := "ParseError") (sf := "self") (a1 := "line") (a2 := "reason") (f1 := "line") (f2 := "reason") (ok := fun σ H => ∀ ok ∈ [okT, okV K 1, okT, okV K 2], ok σ H) (by decide) (xc_ParseError B) rfl rfl F rfl ⟨rfl, rfl, rfl, by decide +kernel, rfl, by decide +kernel, by decide +kernel⟩ (fun _ _ _ _ _ _ us ws hl hw => match us, ws, hl, hw with | [_, _, _], [], _, _ => rfl) (fun _ _ _ _ _ _ us ws hl hw => match us, ws, hl, hw with | [_], [_, _], _, _ => rfl)
    (fun T cdv A outer s H hr => ?_) (fun T cdv A outer s H => ?_) (fun T cdv A outer s H => ?_) ?_
  · exact x_row0 T rfl (g_LateCopyError B) hb.hga hb.rd hb.fc (pv 0) (pf_join (oks := [okT, okV K 1, okT, okV K 2]) (.cons pf_str (.cons (pf_name (roomH_u hr) (pv 1)) (.cons pf_str (.cons (pf_name (roomH_u hr) (pv 2)) .nil)))) (by show 4 ≤ 6; decide))
  · exact x_row1 T (na_ParseError_line B) (pv 0) (pv 1)
  · exact x_row2 T (na_ParseError_reason B) (pv 0) (pv 2)
  · intro a v u H h1 h2 o ho
    simp only [List.mem_cons, List.not_mem_nil, or_false] at ho
    rcases ho with rfl | rfl | rfl | rfl
    · trivial
    · exact ⟨v, rfl, h1⟩
    · trivial
    · exact ⟨u, rfl, h2⟩
theorem v_PositionError (B : Bun w K mg) : XVc (tx K) P w K mg base 3 1 1 1 ["position"] := by
  obtain ⟨fd, F⟩ := df_PositionError_init B
  have hb := ba_LateCopyError B
  refine xvc1 (t := tx K) (x := "PositionError") (sf := "self") (a1 := "position") (f1 := "position") (ok := fun σ H => ∀ ok ∈ [okT, okV K 1, okT], ok σ H) (xc_PositionError B) rfl rfl F rfl ⟨rfl, rfl, rfl, by decide +kernel, rfl, by decide +kernel, by decide +kernel⟩ (fun _ _ _ _ _ _ us ws hl hw => match us, ws, hl, hw with | [_, _], [], _, _ => rfl) (fun _ _ _ _ _ _ us ws hl hw => match us, ws, hl, hw with | [_], [_], _, _ => rfl)
    (fun T cdv A outer s H hr => ?_) (fun T cdv A outer s H => ?_) ?_
  · exact x_row0 T rfl (g_LateCopyError B) hb.hga hb.rd hb.fc (pv 0) (pf_join (oks := [okT, okV K 1, okT]) (.cons pf_str (.cons (pf_name (roomH_u hr) (pv 1)) (.cons pf_str .nil))) (by show 3 ≤ 6; decide))
  · exact x_row1 T (na_PositionError_position B) (pv 0) (pv 1)
  · intro a v H h1 o ho
    simp only [List.mem_cons, List.not_mem_nil, or_false] at ho
    rcases ho with rfl | rfl | rfl
    · trivial
    · exact ⟨v, rfl, h1⟩
    · trivial
theorem v_SessionError (B : Bun w K mg) : XVc (tx K) P w K mg base 18 1 1 1 ["reason"] := by
  obtain ⟨fd, F⟩ := df_SessionError_init B
  have hb := ba_LateCopyError B
  refine xvc1 (t := tx K) (x := "SessionError") (sf := "self") (a1 := "reason") (f1 := "reason") (ok := fun σ H => ∀ ok ∈ [okT, okV K 1], ok σ H) (xc_SessionError B) rfl rfl F rfl ⟨rfl, rfl, rfl, by decide +kernel, rfl, by decide +kernel, by decide +kernel⟩ (fun _ _ _ _ _ _ us ws hl hw => match us, ws, hl, hw with | [_, _], [], _, _ => rfl) (fun _ _ _ _ _ _ us ws hl hw => match us, ws, hl, hw with | [_], [_], _, _ => rfl)
    (fun T cdv A outer s H hr => ?_) (fun T cdv A outer s H => ?_) ?_
  · exact x_row0 T rfl (g_LateCopyError B) hb.hga hb.rd hb.fc (pv 0) (pf_join (oks := [okT, okV K 1]) (.cons pf_str (.cons (pf_name (roomH_u hr) (pv 1)) .nil)) (by show 2 ≤ 6; decide))
  · exact x_row1 T (na_SessionError_reason B) (pv 0) (pv 1)
  · intro a v H h1 o ho
    simp only [List.mem_cons, List.not_mem_nil, or_false] at ho
    rcases ho with rfl | rfl
    · trivial
    · exact ⟨v, rfl, h1⟩
theorem v_ShapeError (B : Bun w K mg) : XVc (tx K) P w K mg base 8 2 2 1 ["other", "shape"] := by
  obtain ⟨fd, F⟩ := df_ShapeError_init B
  have hb := ba_LateCopyError B
  refine xvc2 (t := tx K) (x := "ShapeError") (sf := "self") (a1 := "shape") (a2 := "other") (f1 := "shape") (f2 := "other") (ok := fun σ H => ∀ ok ∈ [okT, okV K 1, okT, okV K 2, okT], ok σ H) (by decide) (xc_ShapeError B) rfl rfl F rfl ⟨rfl, rfl, rfl, by decide +kernel, rfl, by decide +kernel, by decide +kernel⟩ (fun _ _ _ _ _ _ us ws hl hw => match us, ws, hl, hw with | [_, _, _], [], _, _ => rfl) (fun _ _ _ _ _ _ us ws hl hw => match us, ws, hl, hw with | [_], [_, _], _, _ => rfl)
    (fun T cdv A outer s H hr => ?_) (fun T cdv A outer s H => ?_) (fun T cdv A outer s H => ?_) ?_
  · exact x_row0 T rfl (g_LateCopyError B) hb.hga hb.rd hb.fc (pv 0) (pf_join (oks := [okT, okV K 1, okT, okV K 2, okT]) (.cons pf_str (.cons (pf_name (roomH_u hr) (pv 1)) (.cons pf_str (.cons (pf_name (roomH_u hr) (pv 2)) (.cons pf_str .nil))))) (by show 5 ≤ 6; decide))
  · exact x_row1 T (na_ShapeError_shape B) (pv 0) (pv 1)
  · exact x_row2 T (na_ShapeError_other B) (pv 0) (pv 2)
  · intro a v u H h1 h2 o ho
    simp only [List.mem_cons, List.not_mem_nil, or_false] at ho
    rcases ho with rfl | rfl | rfl | rfl | rfl
    · trivial
    · exact ⟨v, rfl, h1⟩
    · trivial
    · exact ⟨u, rfl, h2⟩
    · trivial
theorem v_StepError (B : Bun w K mg) : XVc (tx K) P w K mg base 15 2 2 1 ["reason", "at"] := by
  obtain ⟨fd, F⟩ := df_StepError_init B
  have hb := ba_LateCopyError B
  refine xvc2 (t := tx K) (x := "StepError") (sf := "self") (a1 := "at") (a2 := "reason") (f1 := "at") (f2 := "reason") (ok := fun σ H => ∀ ok ∈ [okT, okV K 1, okT, okV K 2], ok σ H) (by decide) (xc_StepError B) rfl rfl F rfl ⟨rfl, rfl, rfl, by decide +kernel, rfl, by decide +kernel, by decide +kernel⟩ (fun _ _ _ _ _ _ us ws hl hw => match us, ws, hl, hw with | [_, _, _], [], _, _ => rfl) (fun _ _ _ _ _ _ us ws hl hw => match us, ws, hl, hw with | [_], [_, _], _, _ => rfl)
    (fun T cdv A outer s H hr => ?_) (fun T cdv A outer s H => ?_) (fun T cdv A outer s H => ?_) ?_
  · exact x_row0 T rfl (g_LateCopyError B) hb.hga hb.rd hb.fc (pv 0) (pf_join (oks := [okT, okV K 1, okT, okV K 2]) (.cons pf_str (.cons (pf_name (roomH_u hr) (pv 1)) (.cons pf_str (.cons (pf_name (roomH_u hr) (pv 2)) .nil)))) (by show 4 ≤ 6; decide))
  · exact x_row1 T (na_StepError_at B) (pv 0) (pv 1)
  · exact x_row2 T (na_StepError_reason B) (pv 0) (pv 2)
  · intro a v u H h1 h2 o ho
    simp only [List.mem_cons, List.not_mem_nil, or_false] at ho
    rcases ho with rfl | rfl | rfl | rfl
    · trivial
    · exact ⟨v, rfl, h1⟩
    · trivial
    · exact ⟨u, rfl, h2⟩
theorem v_StrideError (B : Bun w K mg) : XVc (tx K) P w K mg base 6 1 1 1 ["number"] := by
  obtain ⟨fd, F⟩ := df_StrideError_init B
  have hb := ba_LateCopyError B
  refine xvc1 (t := tx K) (x := "StrideError") (sf := "self") (a1 := "number") (f1 := "number") (ok := fun σ H => ∀ ok ∈ [okT, okV K 1], ok σ H) (xc_StrideError B) rfl rfl F rfl ⟨rfl, rfl, rfl, by decide +kernel, rfl, by decide +kernel, by decide +kernel⟩ (fun _ _ _ _ _ _ us ws hl hw => match us, ws, hl, hw with | [_, _], [], _, _ => rfl) (fun _ _ _ _ _ _ us ws hl hw => match us, ws, hl, hw with | [_], [_], _, _ => rfl)
    (fun T cdv A outer s H hr => ?_) (fun T cdv A outer s H => ?_) ?_
  · exact x_row0 T rfl (g_LateCopyError B) hb.hga hb.rd hb.fc (pv 0) (pf_join (oks := [okT, okV K 1]) (.cons pf_str (.cons (pf_name (roomH_u hr) (pv 1)) .nil)) (by show 2 ≤ 6; decide))
  · exact x_row1 T (na_StrideError_number B) (pv 0) (pv 1)
  · intro a v H h1 o ho
    simp only [List.mem_cons, List.not_mem_nil, or_false] at ho
    rcases ho with rfl | rfl
    · trivial
    · exact ⟨v, rfl, h1⟩
theorem v_ViewError (B : Bun w K mg) : XVc (tx K) P w K mg base 0 1 1 1 ["reason"] := by
  obtain ⟨fd, F⟩ := df_ViewError_init B
  have hb := ba_LateCopyError B
  refine xvc1 (t := tx K) (x := "ViewError") (sf := "self") (a1 := "reason") (f1 := "reason") (ok := fun σ H => ∀ ok ∈ [okT, okV K 1], ok σ H) (xc_ViewError B) rfl rfl F rfl ⟨rfl, rfl, rfl, by decide +kernel, rfl, by decide +kernel, by decide +kernel⟩ (fun _ _ _ _ _ _ us ws hl hw => match us, ws, hl, hw with | [_, _], [], _, _ => rfl) (fun _ _ _ _ _ _ us ws hl hw => match us, ws, hl, hw with | [_], [_], _, _ => rfl)
    (fun T cdv A outer s H hr => ?_) (fun T cdv A outer s H => ?_) ?_
  · exact x_row0 T rfl (g_LateCopyError B) hb.hga hb.rd hb.fc (pv 0) (pf_join (oks := [okT, okV K 1]) (.cons pf_str (.cons (pf_name (roomH_u hr) (pv 1)) .nil)) (by show 2 ≤ 6; decide))
  · exact x_row1 T (na_ViewError_reason B) (pv 0) (pv 1)
  · intro a v H h1 o ho
    simp only [List.mem_cons, List.not_mem_nil, or_false] at ho
    rcases ho with rfl | rfl
    · trivial
    · exact ⟨v, rfl, h1⟩
/-! ### law draws -/
def m__law_draws : Fn := fnOf 2 (sRet (eLst true (esCons (eComp (srcSeq (eVar 0)) (gSet 1) (bCmp (eBin oGe (eVar 1) (eBin oPow (eLit (.int 10)) (eLit (.int 18))))) (eVar 1) [1] true) (esCons (eLit (.int 0)) (esCons (eComp (srcSeq (eVar 0)) (gSet 1) (bCmp (eBin oLt (eVar 1) (eBin oPow (eLit (.int 10)) (eLit (.int 18))))) (eVar 1) [1] false) (esCons (eLit (.int 0)) esNil))))))
theorem sc__law_draws : FnScope ["_law_script", "_law_cell"] ["_law_script"] (defScope (top 22)) := ⟨rfl, rfl, rfl, by decide +kernel, rfl, by decide +kernel, by decide +kernel⟩
theorem ok__law_draws (B : Bun w K mg) : Fd (tx K) P w K mg base 1 (He.fAd K ("_law_draws", none)) ["_law_script"] m__law_draws := by
  obtain ⟨fd, F⟩ := df__law_draws B
  refine Fd.of F (fun _ _ _ _ _ _ us hl => match us, hl with | [_], _ => rfl) sc__law_draws (fun cdv A outer s H E hr tk hp => ?_)
  have hu : (A.deeper (envOfC "_law_draws" (defScope (top 22)) s.heap.objs.size (He.fAd K ("_law_draws", none)) cdv)).units + 1 < cLine := by have := hr.units; omega
  have hu64 := hr.units
  have hu65 : (A.deeper (envOfC "_law_draws" (defScope (top 22)) s.heap.objs.size (He.fAd K ("_law_draws", none)) cdv)).units + 65 < cLine := by have := hr.un; omega
  have nd : (["_law_script", "_law_cell"] : List Str).Nodup := by decide
  exact (b_one (s_ret (e_lst (a_cons (l_one (own := [(("_law_cell" : Str), 1)]) s rfl nd (blkOk_by (by kernel_rfl)) (by decide) (fun s H C cl fp => (g_name (i := 1) nd rfl (.inl rfl) ⟨by decide, by intro p hp; cases hp⟩)) (fun hg => i_seq rfl (pe_v (i := 0) rfl (vL rfl)) hg) (fun s H C cl fp => (pts_if (pt_cmpD d_ge (pe_v (i := 1) rfl (vL rfl)) (pe_bin d_pow pe_i pe_i) rfl))) (fun s H C cl fp => (pe_v (i := 1) rfl (vL rfl)))) (a_cons pe_i (a_cons (l_one (own := [(("_law_cell" : Str), 1)]) s rfl nd (blkOk_by (by kernel_rfl)) (by decide) (fun s H C cl fp => (g_name (i := 1) nd rfl (.inl rfl) ⟨by decide, by intro p hp; cases hp⟩)) (fun hg => i_seq rfl (pe_v (i := 0) rfl (vL rfl)) hg) (fun s H C cl fp => (pts_if (pt_cmpD d_lt (pe_v (i := 1) rfl (vL rfl)) (pe_bin d_pow pe_i pe_i) rfl))) (fun s H C cl fp => (pe_v (i := 1) rfl (vL rfl)))) (a_cons pe_i a_nil)))))))
/-! ### law mixed -/
def m__law_mixed : Fn := fnOf 3 (sSeq (sSet 2 (eBin oMod (eBin oPow (eBin (oAdd false) (eBin (oAdd false) (eBin oMod (eVar 0) (eLit (.int 2147483647))) (eBin (oMul false) (eLit (.int 7919)) (eVar 1))) (eLit (.int 104729))) (eLit (.int 5))) (eLit (.int 2147483629))))
  (sRet (eBin oMod (eBin oPow (eBin (oAdd false) (eBin (oAdd false) (eBin (oMul false) (eVar 2) (eLit (.int 48271))) (eBin (oMul false) (eBin (oMul false) (eLit (.int 40503)) (eVar 1)) (eVar 1))) (eLit (.int 13))) (eLit (.int 3))) (eLit (.int 1000000007)))))
theorem sc__law_mixed : FnScope ["_law_seed", "_law_k", "_law_first"] ["_law_seed", "_law_k"] (defScope (top 23)) := ⟨rfl, rfl, rfl, by decide +kernel, rfl, by decide +kernel, by decide +kernel⟩
theorem ok__law_mixed (B : Bun w K mg) : Fd (tx K) P w K mg base 1 (He.fAd K ("_law_mixed", none)) ["_law_seed", "_law_k"] m__law_mixed := by
  obtain ⟨fd, F⟩ := df__law_mixed B
  refine Fd.of F (fun _ _ _ _ _ _ us hl => match us, hl with | [_, _], _ => rfl) sc__law_mixed (fun cdv A outer s H E hr tk hp => ?_)
  have hu : (A.deeper (envOfC "_law_mixed" (defScope (top 23)) s.heap.objs.size (He.fAd K ("_law_mixed", none)) cdv)).units + 1 < cLine := by have := hr.units; omega
  have hu64 := hr.units
  have hu65 : (A.deeper (envOfC "_law_mixed" (defScope (top 23)) s.heap.objs.size (He.fAd K ("_law_mixed", none)) cdv)).units + 65 < cLine := by have := hr.un; omega
  have nd : (["_law_seed", "_law_k", "_law_first"] : List Str).Nodup := by decide
  exact (b_cons (s_set (i := 2) nd rfl (.inl rfl) ⟨by decide, by intro p hp; cases hp⟩ (pe_bin d_mod (pe_bin d_pow (pe_bin (d_add rfl) (pe_bin (d_add rfl) (pe_bin d_mod (pe_v (i := 0) rfl (vL rfl)) pe_i) (pe_bin d_mul pe_i (pe_v (i := 1) rfl (vL rfl)))) pe_i) pe_i) pe_i))
  (b_one (s_ret (pe_bin d_mod (pe_bin d_pow (pe_bin (d_add rfl) (pe_bin (d_add rfl) (pe_bin d_mul (pe_v (i := 2) rfl (vL rfl)) pe_i) (pe_bin d_mul (pe_bin d_mul pe_i (pe_v (i := 1) rfl (vL rfl))) (pe_v (i := 1) rfl (vL rfl)))) pe_i) pe_i) pe_i))))
/-! ### law take -/
def m__law_take : Fn := fnOf 5 (sSeq (sAsg (eBin (oAdd false) (eBin oIx (eVar 0) (eLit (.int 3))) (eLit (.int 1))) (gSubD (eVar 0) (eLit (.int 3))))
  (sSeq (sIf (bAnd (bCmp (eBin oEq (eBin oIx (eVar 0) (eLit (.int 1))) (eLit (.int 0)))) (bCmp (eBin oNe (eBin oIx (eVar 0) (eLit (.int 0))) (eLst false esNil)))) (sAsg (eBm "list" mPopAt (eBin oIx (eVar 0) (eLit (.int 0))) (esCons (eLit (.int 0)) esNil)) (gSubD (eVar 0) (eLit (.int 1))))
  sNil)
  (sSeq (sIf (bCmp (eBin oGt (eBin oIx (eVar 0) (eLit (.int 1))) (eLit (.int 0)))) (sSeq (sSet 2 (eBin oMod (eBin oIx (eVar 0) (eLit (.int 1))) (eVar 1)))
  (sSeq (sAsg (eBin oDiv (eBin oIx (eVar 0) (eLit (.int 1))) (eVar 1)) (gSubD (eVar 0) (eLit (.int 1))))
  (sRet (eVar 2))))
  sNil)
  (sSeq (sSet 3 (eLit (.int 17)))
  (sSeq (sIf (bCmp (eBin oNe (eBin oIx (eVar 0) (eLit (.int 2))) (eLst false esNil))) (sSet 3 (eBin oIx (eBin oIx (eVar 0) (eLit (.int 2))) (eBin oMod (eBin oIx (eVar 0) (eLit (.int 3))) (eBlt bLen (esCons (eBin oIx (eVar 0) (eLit (.int 2))) esNil)))))
  sNil)
  (sSeq (sSet 2 (eLit (.int 0)))
  (sSeq (sSet 4 (eLit (.int 1)))
  (sSeq (sWhile (bCmp (eBin oLt (eVar 4) (eVar 1))) (sSeq (sSet 2 (eBin (oAdd false) (eBin (oMul false) (eVar 2) (eLit (.int 1000000007))) (eCall false 2 m__law_mixed (esCons (eVar 3) (esCons (eBin (oAdd false) (eBin oIx (eVar 0) (eLit (.int 3))) (eBin (oMul false) (eLit (.int 1009)) (eBin oMod (eVar 2) (eLit (.int 97))))) esNil)) [])))
  (sSet 4 (eBin (oMul false) (eVar 4) (eLit (.int 1000000007))))) 64)
  (sRet (eBin oMod (eVar 2) (eVar 1)))))))))))
theorem sc__law_take : FnScope ["_law_draws_here", "_law_size", "_law_found", "_law_seed", "_law_reach"] ["_law_draws_here", "_law_size"] (defScope (top 24)) := ⟨rfl, rfl, rfl, by decide +kernel, rfl, by decide +kernel, by decide +kernel⟩
theorem ok__law_take (B : Bun w K mg) : Fd (tx K) P w K mg base 2 (He.fAd K ("_law_take", none)) ["_law_draws_here", "_law_size"] m__law_take := by
  obtain ⟨fd, F⟩ := df__law_take B
  refine Fd.of F (fun _ _ _ _ _ _ us hl => match us, hl with | [_, _], _ => rfl) sc__law_take (fun cdv A outer s H E hr tk hp => ?_)
  have hu : (A.deeper (envOfC "_law_take" (defScope (top 24)) s.heap.objs.size (He.fAd K ("_law_take", none)) cdv)).units + 1 < cLine := by have := hr.units; omega
  have hu64 := hr.units
  have hu65 : (A.deeper (envOfC "_law_take" (defScope (top 24)) s.heap.objs.size (He.fAd K ("_law_take", none)) cdv)).units + 65 < cLine := by have := hr.un; omega
  have nd : (["_law_draws_here", "_law_size", "_law_found", "_law_seed", "_law_reach"] : List Str).Nodup := by decide
  exact (b_cons (s_asg (pe_bin (d_add rfl) (pe_ixD (d_ix rfl hu) (pe_v (i := 0) rfl (vL rfl)) pe_i (fun _ _ => rfl)) pe_i) (g_sub hu (pe_v (i := 0) rfl (vL rfl)) pe_i))
  (b_cons (s_if (PW.pt (w_and (pt_cmpD (d_eq rfl hu64) (pe_ixD (d_ix rfl hu) (pe_v (i := 0) rfl (vL rfl)) pe_i (fun _ _ => rfl)) pe_i rfl) (w_and1 (pt_cmpD (d_ne rfl hu64) (pe_ixD (d_ix rfl hu) (pe_v (i := 0) rfl (vL rfl)) pe_i (fun _ _ => rfl)) (e_lst a_nil) rfl)))) (b_one (s_asg (e_bm PySem.F.plainAttrs_list PySem.F.slot_list_pop PySem.F.type_list_pop m_popAt (pe_ixD (d_ix rfl hu) (pe_v (i := 0) rfl (vL rfl)) pe_i (fun _ _ => rfl)) (a_cons pe_i a_nil)) (g_sub hu (pe_v (i := 0) rfl (vL rfl)) pe_i)))
  b_nil)
  (b_cons (s_if (pt_cmpD d_gt (pe_ixD (d_ix rfl hu) (pe_v (i := 0) rfl (vL rfl)) pe_i (fun _ _ => rfl)) pe_i rfl) (b_cons (s_set (i := 2) nd rfl (.inl rfl) ⟨by decide, by intro p hp; cases hp⟩ (pe_bin d_mod (pe_ixD (d_ix rfl hu) (pe_v (i := 0) rfl (vL rfl)) pe_i (fun _ _ => rfl)) (pe_v (i := 1) rfl (vL rfl))))
  (b_cons (s_asg (pe_bin d_div (pe_ixD (d_ix rfl hu) (pe_v (i := 0) rfl (vL rfl)) pe_i (fun _ _ => rfl)) (pe_v (i := 1) rfl (vL rfl))) (g_sub hu (pe_v (i := 0) rfl (vL rfl)) pe_i))
  (b_one (s_ret (pe_v (i := 2) rfl (vL rfl))))))
  b_nil)
  (b_cons (s_set (i := 3) nd rfl (.inl rfl) ⟨by decide, by intro p hp; cases hp⟩ pe_i)
  (b_cons (s_if (pt_cmpD (d_ne rfl hu64) (pe_ixD (d_ix rfl hu) (pe_v (i := 0) rfl (vL rfl)) pe_i (fun _ _ => rfl)) (e_lst a_nil) rfl) (b_one (s_set (i := 3) nd rfl (.inl rfl) ⟨by decide, by intro p hp; cases hp⟩ (pe_ixD (d_ix rfl hu) (pe_ixD (d_ix rfl hu) (pe_v (i := 0) rfl (vL rfl)) pe_i (fun _ _ => rfl)) (pe_bin d_mod (pe_ixD (d_ix rfl hu) (pe_v (i := 0) rfl (vL rfl)) pe_i (fun _ _ => rfl)) (e_blt (b_len rfl) rfl (n_len B) rfl (a_cons (pe_ixD (d_ix rfl hu) (pe_v (i := 0) rfl (vL rfl)) pe_i (fun _ _ => rfl)) a_nil))) (fun _ _ => rfl))))
  b_nil)
  (b_cons (s_set (i := 2) nd rfl (.inl rfl) ⟨by decide, by intro p hp; cases hp⟩ pe_i)
  (b_cons (s_set (i := 4) nd rfl (.inl rfl) ⟨by decide, by intro p hp; cases hp⟩ pe_i)
  (b_cons (s_while hp (pt_cmpD d_lt (pe_v (i := 4) rfl (vL rfl)) (pe_v (i := 1) rfl (vL rfl)) rfl) (b_cons (s_set (i := 2) nd rfl (.inl rfl) ⟨by decide, by intro p hp; cases hp⟩ (pe_bin (d_add rfl) (pe_bin d_mul (pe_v (i := 2) rfl (vL rfl)) pe_i) (c_callF (ok__law_mixed B) rfl (hr.mono (by decide)) rfl (g_law_mixed B) tk (a_cons (pe_v (i := 3) rfl (vL rfl)) (a_cons (pe_bin (d_add rfl) (pe_ixD (d_ix rfl hu) (pe_v (i := 0) rfl (vL rfl)) pe_i (fun _ _ => rfl)) (pe_bin d_mul pe_i (pe_bin d_mod (pe_v (i := 2) rfl (vL rfl)) pe_i))) a_nil)))))
  (b_one (s_set (i := 4) nd rfl (.inl rfl) ⟨by decide, by intro p hp; cases hp⟩ (pe_bin d_mul (pe_v (i := 4) rfl (vL rfl)) pe_i)))))
  (b_one (s_ret (pe_bin d_mod (pe_v (i := 2) rfl (vL rfl)) (pe_v (i := 1) rfl (vL rfl)))))))))))))
/-! ### law number -/
def m__law_number : Fn := fnOf 3 (sSeq (sSet 1 (eCall false 2 m__law_take (esCons (eVar 0) (esCons (eLit (.int 8)) esNil)) []))
  (sSeq (sIf (bCmp (eBin oLt (eVar 1) (eLit (.int 6)))) (sRet (eBin oSub (eCall false 2 m__law_take (esCons (eVar 0) (esCons (eLit (.int 12)) esNil)) []) (eLit (.int 3))))
  sNil)
  (sSeq (sSet 2 (eCall false 2 m__law_take (esCons (eVar 0) (esCons (eBin oIx (eLst false (esCons (eBin oPow (eLit (.int 10)) (eLit (.int 6))) (esCons (eBin oPow (eLit (.int 10)) (eLit (.int 40))) esNil))) (eBin oSub (eVar 1) (eLit (.int 6)))) esNil)) []))
  (sRet (eBin oIx (eLst false (esCons (eVar 2) (esCons (eBin oSub (eLit (.int 0)) (eVar 2)) esNil))) (eCall false 2 m__law_take (esCons (eVar 0) (esCons (eLit (.int 2)) esNil)) []))))))
theorem sc__law_number : FnScope ["_law_draws_here", "_law_way", "_law_great"] ["_law_draws_here"] (defScope (top 25)) := ⟨rfl, rfl, rfl, by decide +kernel, rfl, by decide +kernel, by decide +kernel⟩
theorem ok__law_number (B : Bun w K mg) : Fd (tx K) P w K mg base 3 (He.fAd K ("_law_number", none)) ["_law_draws_here"] m__law_number := by
  obtain ⟨fd, F⟩ := df__law_number B
  refine Fd.of F (fun _ _ _ _ _ _ us hl => match us, hl with | [_], _ => rfl) sc__law_number (fun cdv A outer s H E hr tk hp => ?_)
  have hu : (A.deeper (envOfC "_law_number" (defScope (top 25)) s.heap.objs.size (He.fAd K ("_law_number", none)) cdv)).units + 1 < cLine := by have := hr.units; omega
  have hu64 := hr.units
  have hu65 : (A.deeper (envOfC "_law_number" (defScope (top 25)) s.heap.objs.size (He.fAd K ("_law_number", none)) cdv)).units + 65 < cLine := by have := hr.un; omega
  have nd : (["_law_draws_here", "_law_way", "_law_great"] : List Str).Nodup := by decide
  exact (b_cons (s_set (i := 1) nd rfl (.inl rfl) ⟨by decide, by intro p hp; cases hp⟩ (c_callF (ok__law_take B) rfl (hr.mono (by decide)) rfl (g_law_take B) tk (a_cons (pe_v (i := 0) rfl (vL rfl)) (a_cons pe_i a_nil))))
  (b_cons (s_if (pt_cmpD d_lt (pe_v (i := 1) rfl (vL rfl)) pe_i rfl) (b_one (s_ret (pe_bin d_sub (c_callF (ok__law_take B) rfl (hr.mono (by decide)) rfl (g_law_take B) tk (a_cons (pe_v (i := 0) rfl (vL rfl)) (a_cons pe_i a_nil))) pe_i)))
  b_nil)
  (b_cons (s_set (i := 2) nd rfl (.inl rfl) ⟨by decide, by intro p hp; cases hp⟩ (c_callF (ok__law_take B) rfl (hr.mono (by decide)) rfl (g_law_take B) tk (a_cons (pe_v (i := 0) rfl (vL rfl)) (a_cons (pe_ixD (d_ix rfl hu) (e_lst (a_cons (pe_bin d_pow pe_i pe_i) (a_cons (pe_bin d_pow pe_i pe_i) a_nil))) (pe_bin d_sub (pe_v (i := 1) rfl (vL rfl)) pe_i) (fun _ _ => rfl)) a_nil))))
  (b_one (s_ret (pe_ixD (d_ix rfl hu) (e_lst (a_cons (pe_v (i := 2) rfl (vL rfl)) (a_cons (pe_bin d_sub pe_i (pe_v (i := 2) rfl (vL rfl))) a_nil))) (c_callF (ok__law_take B) rfl (hr.mono (by decide)) rfl (g_law_take B) tk (a_cons (pe_v (i := 0) rfl (vL rfl)) (a_cons pe_i a_nil))) (fun _ _ => rfl)))))))
/-! ### law same -/
def s__law_same (r : Nat → Fn) : Fn := fnOf 4 (sSeq (sIf (bOf (eIsi2 "list" "tuple" (eVar 1))) (sSeq (sIf (bOr (bCmp (eBin oNe (eIsi "list" (eVar 0)) (eIsi "list" (eVar 1)))) (bCmp (eBin oNe (eIsi "tuple" (eVar 0)) (eIsi "tuple" (eVar 1))))) (sRet (eLit (.bl false)))
  sNil)
  (sRet (eAnd (eBin oEq (eBlt bLen (esCons (eVar 0) esNil)) (eBlt bLen (esCons (eVar 1) esNil))) (eBlt bAll (esCons (eComp (srcOf (esCons (eVar 0) (esCons (eVar 1) esNil)) kZip) (gMore (gSet 2) (gMore (gSet 3) gNone)) bYes (eCall false 2 (r 0) (esCons (eVar 2) (esCons (eVar 3) esNil)) []) [2, 3] false) esNil)))))
  sNil)
  (sSeq (sIf (bOf (eIsi2 "bool" "int" (eVar 1))) (sRet (eAnd (eIsi "int" (eVar 0)) (eAnd (eBin oEq (eIsi "bool" (eVar 0)) (eIsi "bool" (eVar 1))) (eBin oEq (eVar 0) (eVar 1)))))
  sNil)
  (sRet (eAnd (eBin oIsB (eIsi "bool" (eVar 0)) (eLit (.bl false))) (eBin oEq (eVar 0) (eVar 1))))))
theorem sc__law_same : FnScope ["_law_found", "_law_due", "_law_one", "_law_two"] ["_law_found", "_law_due"] (defScope (top 26)) := ⟨rfl, rfl, rfl, by decide +kernel, rfl, by decide +kernel, by decide +kernel⟩
theorem ok__law_same (B : Bun w K mg) {r : Nat → Fn} {k : Nat} (hk : 0 ≤ k) (hr0 : Fd (tx K) P w K mg base k (He.fAd K ("_law_same", none)) ["_law_found", "_law_due"] (r 0)) : Fd (tx K) P w K mg base (k + 1) (He.fAd K ("_law_same", none)) ["_law_found", "_law_due"] (s__law_same r) := by
  obtain ⟨fd, F⟩ := df__law_same B
  refine Fd.of F (fun _ _ _ _ _ _ us hl => match us, hl with | [_, _], _ => rfl) sc__law_same (fun cdv A outer s H E hr tk hp => ?_)
  have hu : (A.deeper (envOfC "_law_same" (defScope (top 26)) s.heap.objs.size (He.fAd K ("_law_same", none)) cdv)).units + 1 < cLine := by have := hr.units; omega
  have hu64 := hr.units
  have hu65 : (A.deeper (envOfC "_law_same" (defScope (top 26)) s.heap.objs.size (He.fAd K ("_law_same", none)) cdv)).units + 65 < cLine := by have := hr.un; omega
  have nd : (["_law_found", "_law_due", "_law_one", "_law_two"] : List Str).Nodup := by decide
  exact (b_cons (s_if (pt_of rfl (e_isi2 rfl rfl (n_isinstance B) (pe_v (i := 1) rfl (vL rfl)) rfl (n_list B) (by decide +kernel) rfl (n_tuple B) (by decide +kernel))) (b_cons (s_if (PW.pt (w_or (pt_cmpD (d_ne rfl hu64) (e_isi rfl rfl (n_isinstance B) (pe_v (i := 0) rfl (vL rfl)) rfl (n_list B) (by decide +kernel)) (e_isi rfl rfl (n_isinstance B) (pe_v (i := 1) rfl (vL rfl)) rfl (n_list B) (by decide +kernel)) rfl) (w_or1 (pt_cmpD (d_ne rfl hu64) (e_isi rfl rfl (n_isinstance B) (pe_v (i := 0) rfl (vL rfl)) rfl (n_tuple B) (by decide +kernel)) (e_isi rfl rfl (n_isinstance B) (pe_v (i := 1) rfl (vL rfl)) rfl (n_tuple B) (by decide +kernel)) rfl)))) (b_one (s_ret pe_b))
  b_nil)
  (b_one (s_ret (v_and (pe_cmpD (d_eq rfl hu64) (e_blt (b_len rfl) rfl (n_len B) rfl (a_cons (pe_v (i := 0) rfl (vL rfl)) a_nil)) (e_blt (b_len rfl) rfl (n_len B) rfl (a_cons (pe_v (i := 1) rfl (vL rfl)) a_nil)) rfl) (v_one (e_blt (b_all rfl) rfl (n_all B) rfl (a_cons (l_many (own := [(("_law_one" : Str), 2), (("_law_two" : Str), 3)]) s rfl rfl nd (blkOk_by (by kernel_rfl)) (by decide) (fun s H C cl fp => (g_cons (g_name (i := 2) nd rfl (.inl rfl) ⟨by decide, by intro p hp; cases hp⟩) (g_cons (g_name (i := 3) nd rfl (.inl rfl) ⟨by decide, by intro p hp; cases hp⟩) g_nil))) (fun hg => i_zip rfl rfl (n_zip B) (a_cons (pe_v (i := 0) rfl (vL rfl)) (a_cons (pe_v (i := 1) rfl (vL rfl)) a_nil)) hg) (fun s H C cl fp => pts_yes) (fun s H C cl fp => (c_callF hr0 rfl (hr.mono (Nat.le_refl _)) rfl (g_law_same B) tak_no (a_cons (pe_v (i := 2) rfl (vL rfl)) (a_cons (pe_v (i := 3) rfl (vL rfl)) a_nil))))) a_nil)))))))
  b_nil)
  (b_cons (s_if (pt_of rfl (e_isi2 rfl rfl (n_isinstance B) (pe_v (i := 1) rfl (vL rfl)) rfl (n_bool B) (by decide +kernel) rfl (n_int B) (by decide +kernel))) (b_one (s_ret (v_and (e_isi rfl rfl (n_isinstance B) (pe_v (i := 0) rfl (vL rfl)) rfl (n_int B) (by decide +kernel)) (v_and (pe_cmpD (d_eq rfl hu64) (e_isi rfl rfl (n_isinstance B) (pe_v (i := 0) rfl (vL rfl)) rfl (n_bool B) (by decide +kernel)) (e_isi rfl rfl (n_isinstance B) (pe_v (i := 1) rfl (vL rfl)) rfl (n_bool B) (by decide +kernel)) rfl) (v_one (pe_cmpD (d_eq rfl hu64) (pe_v (i := 0) rfl (vL rfl)) (pe_v (i := 1) rfl (vL rfl)) rfl))))))
  b_nil)
  (b_one (s_ret (v_and (pe_cmpD d_isB (e_isi rfl rfl (n_isinstance B) (pe_v (i := 0) rfl (vL rfl)) rfl (n_bool B) (by decide +kernel)) pe_b rfl) (v_one (pe_cmpD (d_eq rfl hu64) (pe_v (i := 0) rfl (vL rfl)) (pe_v (i := 1) rfl (vL rfl)) rfl)))))))
def cy__law_same : Nat → Nat → Fn
  | 0, _ => noFn
  | n + 1, _ => s__law_same (cy__law_same n)
theorem al_cy__law_same (B : Bun w K mg) : ∀ n : Nat, Fd (tx K) P w K mg base (0 + n) (He.fAd K ("_law_same", none)) ["_law_found", "_law_due"] (cy__law_same n 0)
  | 0 => (by obtain ⟨fd, F⟩ := df__law_same B; exact Fd.no F (fun _ _ _ _ _ _ us hl => match us, hl with | [_, _], _ => rfl))
  | n + 1 => by
    have h0 := al_cy__law_same B n
    exact ok__law_same B (r := cy__law_same n) (by omega) h0
/-! ### law value -/
def m__law_value : Fn := fnOf 3 (sSeq (sSet 1 (eCall false 2 m__law_take (esCons (eVar 0) (esCons (eLit (.int 3)) esNil)) []))
  (sSeq (sIf (bCmp (eBin oEq (eVar 1) (eLit (.int 0)))) (sRet (eCall false 1 m__law_number (esCons (eVar 0) esNil) []))
  sNil)
  (sSeq (sIf (bCmp (eBin oEq (eVar 1) (eLit (.int 1)))) (sRet (eBin oIx (eLst false (esCons (eLit (.str [])) (esCons (eLit (.str [118, 105, 101, 119])) (esCons (eLit (.str [115, 105, 122, 101])) (esCons (eLit (.str [97, 32, 98])) esNil))))) (eCall false 2 m__law_take (esCons (eVar 0) (esCons (eLit (.int 4)) esNil)) [])))
  sNil)
  (sRet (eBlt bTuple (esCons (eComp (srcOf (esCons (eCall false 2 m__law_take (esCons (eVar 0) (esCons (eLit (.int 4)) esNil)) []) esNil) kR1) (gSet 2) bYes (eCall false 1 m__law_number (esCons (eVar 0) esNil) []) [2] false) esNil))))))
theorem sc__law_value : FnScope ["_law_draws_here", "_law_way", "_law_k"] ["_law_draws_here"] (defScope (top 27)) := ⟨rfl, rfl, rfl, by decide +kernel, rfl, by decide +kernel, by decide +kernel⟩
theorem ok__law_value (B : Bun w K mg) : Fd (tx K) P w K mg base 4 (He.fAd K ("_law_value", none)) ["_law_draws_here"] m__law_value := by
  obtain ⟨fd, F⟩ := df__law_value B
  refine Fd.of F (fun _ _ _ _ _ _ us hl => match us, hl with | [_], _ => rfl) sc__law_value (fun cdv A outer s H E hr tk hp => ?_)
  have hu : (A.deeper (envOfC "_law_value" (defScope (top 27)) s.heap.objs.size (He.fAd K ("_law_value", none)) cdv)).units + 1 < cLine := by have := hr.units; omega
  have hu64 := hr.units
  have hu65 : (A.deeper (envOfC "_law_value" (defScope (top 27)) s.heap.objs.size (He.fAd K ("_law_value", none)) cdv)).units + 65 < cLine := by have := hr.un; omega
  have nd : (["_law_draws_here", "_law_way", "_law_k"] : List Str).Nodup := by decide
  exact (b_cons (s_set (i := 1) nd rfl (.inl rfl) ⟨by decide, by intro p hp; cases hp⟩ (c_callF (ok__law_take B) rfl (hr.mono (by decide)) rfl (g_law_take B) tk (a_cons (pe_v (i := 0) rfl (vC rfl)) (a_cons pe_i a_nil))))
  (b_cons (s_if (pt_cmpD (d_eq rfl hu64) (pe_v (i := 1) rfl (vL rfl)) pe_i rfl) (b_one (s_ret (c_callF (ok__law_number B) rfl (hr.mono (by decide)) rfl (g_law_number B) tk (a_cons (pe_v (i := 0) rfl (vC rfl)) a_nil))))
  b_nil)
  (b_cons (s_if (pt_cmpD (d_eq rfl hu64) (pe_v (i := 1) rfl (vL rfl)) pe_i rfl) (b_one (s_ret (pe_ixD (d_ix rfl hu) (e_lst (a_cons (pe_s (s := []) rfl (by decide)) (a_cons (pe_s (s := [118, 105, 101, 119]) rfl (by decide)) (a_cons (pe_s (s := [115, 105, 122, 101]) rfl (by decide)) (a_cons (pe_s (s := [97, 32, 98]) rfl (by decide)) a_nil))))) (c_callF (ok__law_take B) rfl (hr.mono (by decide)) rfl (g_law_take B) tk (a_cons (pe_v (i := 0) rfl (vC rfl)) (a_cons pe_i a_nil))) (fun _ _ => rfl))))
  b_nil)
  (b_one (s_ret (e_ty (b_tuple rfl) rfl (n_tuple B) rfl (a_cons (l_one (own := [(("_law_k" : Str), 2)]) s rfl nd (blkOk_by (by kernel_rfl)) (by decide) (fun s H C cl fp => (g_name (i := 2) nd rfl (.inl rfl) ⟨by decide, by intro p hp; cases hp⟩)) (fun hg => i_rng1 rfl (n_range B) (a_cons (c_callF (ok__law_take B) rfl (hr.mono (by decide)) rfl (g_law_take B) tk (a_cons (pe_v (i := 0) rfl (vC rfl)) (a_cons pe_i a_nil))) a_nil) hg) (fun s H C cl fp => pts_yes) (fun s H C cl fp => (c_callF (ok__law_number B) rfl (hr.mono (by decide)) rfl (g_law_number B) tak_no (a_cons (pe_v (i := 0) rfl (vC rfl)) a_nil)))) a_nil)))))))
/-! ### law made -/
def m__law_made : Fn := fnOf 3 (sSeq (sSet 2 (eLst false (esCons (eTup (esCons (eMkX 0 1 1 false (esCons (eVar 0) esNil)) (esCons (eLst false (esCons (eLit (.str [114, 101, 97, 115, 111, 110])) esNil)) esNil))) (esCons (eTup (esCons (eMkX 1 1 1 false (esCons (eVar 0) esNil)) (esCons (eLst false (esCons (eLit (.str [97, 120, 105, 115])) esNil)) esNil))) (esCons (eTup (esCons (eMkX 2 1 1 false (esCons (eVar 0) esNil)) (esCons (eLst false (esCons (eLit (.str [118, 97, 108, 117, 101])) esNil)) esNil))) esNil)))))
  (sSeq (sSet 2 (eBin (oAdd false) (eVar 2) (eLst false (esCons (eTup (esCons (eMkX 3 1 1 false (esCons (eVar 0) esNil)) (esCons (eLst false (esCons (eLit (.str [112, 111, 115, 105, 116, 105, 111, 110])) esNil)) esNil))) (esCons (eTup (esCons (eMkX 4 1 1 false (esCons (eVar 0) esNil)) (esCons (eLst false (esCons (eLit (.str [111, 114, 100, 101, 114])) esNil)) esNil))) esNil)))))
  (sSeq (sSet 2 (eBin (oAdd false) (eVar 2) (eLst false (esCons (eTup (esCons (eMkX 5 1 1 false (esCons (eVar 0) esNil)) (esCons (eLst false (esCons (eLit (.str [97, 120, 105, 115])) esNil)) esNil))) (esCons (eTup (esCons (eMkX 6 1 1 false (esCons (eVar 0) esNil)) (esCons (eLst false (esCons (eLit (.str [110, 117, 109, 98, 101, 114])) esNil)) esNil))) esNil)))))
  (sSeq (sSet 2 (eBin (oAdd false) (eVar 2) (eLst false (esCons (eTup (esCons (eMkX 7 1 1 false (esCons (eVar 0) esNil)) (esCons (eLst false (esCons (eLit (.str [105, 110, 100, 101, 120])) esNil)) esNil))) (esCons (eTup (esCons (eMkX 8 2 2 false (esCons (eVar 0) (esCons (eVar 1) esNil))) (esCons (eLst false (esCons (eLit (.str [115, 104, 97, 112, 101])) (esCons (eLit (.str [111, 116, 104, 101, 114])) esNil))) esNil))) esNil)))))
  (sSeq (sSet 2 (eBin (oAdd false) (eVar 2) (eLst false (esCons (eTup (esCons (eMkX 9 1 1 false (esCons (eVar 0) esNil)) (esCons (eLst false (esCons (eLit (.str [98, 117, 102, 102, 101, 114])) esNil)) esNil))) (esCons (eTup (esCons (eMkX 10 1 1 false (esCons (eVar 0) esNil)) (esCons (eLst false (esCons (eLit (.str [110, 117, 109, 98, 101, 114])) esNil)) esNil))) (esCons (eTup (esCons (eMkX 11 1 1 false (esCons (eVar 0) esNil)) (esCons (eLst false (esCons (eLit (.str [99, 111, 117, 110, 116])) esNil)) esNil))) esNil))))))
  (sSeq (sSet 2 (eBin (oAdd false) (eVar 2) (eLst false (esCons (eTup (esCons (eMkX 13 1 1 false (esCons (eVar 0) esNil)) (esCons (eLst false (esCons (eLit (.str [111, 112, 101, 114, 97, 116, 111, 114])) esNil)) esNil))) (esCons (eTup (esCons (eMkX 14 1 1 false (esCons (eVar 0) esNil)) (esCons (eLst false (esCons (eLit (.str [114, 101, 97, 115, 111, 110])) esNil)) esNil))) (esCons (eTup (esCons (eMkX 16 1 1 false (esCons (eVar 0) esNil)) (esCons (eLst false (esCons (eLit (.str [97, 116])) esNil)) esNil))) esNil))))))
  (sSeq (sSet 2 (eBin (oAdd false) (eVar 2) (eLst false (esCons (eTup (esCons (eMkX 15 2 2 false (esCons (eVar 0) (esCons (eVar 1) esNil))) (esCons (eLst false (esCons (eLit (.str [97, 116])) (esCons (eLit (.str [114, 101, 97, 115, 111, 110])) esNil))) esNil))) (esCons (eTup (esCons (eMkX 17 2 2 false (esCons (eVar 0) (esCons (eVar 1) esNil))) (esCons (eLst false (esCons (eLit (.str [108, 105, 110, 101])) (esCons (eLit (.str [114, 101, 97, 115, 111, 110])) esNil))) esNil))) esNil)))))
  (sRet (eBin (oAdd false) (eVar 2) (eLst false (esCons (eTup (esCons (eMkX 18 1 1 false (esCons (eVar 0) esNil)) (esCons (eLst false (esCons (eLit (.str [114, 101, 97, 115, 111, 110])) esNil)) esNil))) (esCons (eTup (esCons (eMkX 12 1 0 false (esCons (eVar 0) esNil)) (esCons (eLst false esNil) esNil))) esNil))))))))))))
theorem sc__law_made : FnScope ["_law_thing", "_law_second", "_law_found"] ["_law_thing", "_law_second"] (defScope (top 28)) := ⟨rfl, rfl, rfl, by decide +kernel, rfl, by decide +kernel, by decide +kernel⟩
theorem ok__law_made (B : Bun w K mg) : Fd (tx K) P w K mg base 3 (He.fAd K ("_law_made", none)) ["_law_thing", "_law_second"] m__law_made := by
  obtain ⟨fd, F⟩ := df__law_made B
  refine Fd.of F (fun _ _ _ _ _ _ us hl => match us, hl with | [_, _], _ => rfl) sc__law_made (fun cdv A outer s H E hr tk hp => ?_)
  have hu : (A.deeper (envOfC "_law_made" (defScope (top 28)) s.heap.objs.size (He.fAd K ("_law_made", none)) cdv)).units + 1 < cLine := by have := hr.units; omega
  have hu64 := hr.units
  have hu65 : (A.deeper (envOfC "_law_made" (defScope (top 28)) s.heap.objs.size (He.fAd K ("_law_made", none)) cdv)).units + 65 < cLine := by have := hr.un; omega
  have nd : (["_law_thing", "_law_second", "_law_found"] : List Str).Nodup := by decide
  exact (b_cons (s_set (i := 2) nd rfl (.inl rfl) ⟨by decide, by intro p hp; cases hp⟩ (e_lst (a_cons (e_tup (a_cons (e_mkX rfl (v_ViewError B) (L2H.roomH_of (hr.mono (by decide))) rfl (g_ViewError B) (a_cons (pe_v (i := 0) rfl (vL rfl)) a_nil)) (a_cons (e_lst (a_cons (pe_s (s := [114, 101, 97, 115, 111, 110]) rfl (by decide)) a_nil)) a_nil))) (a_cons (e_tup (a_cons (e_mkX rfl (v_AxisError B) (L2H.roomH_of (hr.mono (by decide))) rfl (g_AxisError B) (a_cons (pe_v (i := 0) rfl (vL rfl)) a_nil)) (a_cons (e_lst (a_cons (pe_s (s := [97, 120, 105, 115]) rfl (by decide)) a_nil)) a_nil))) (a_cons (e_tup (a_cons (e_mkX rfl (v_LengthError B) (L2H.roomH_of (hr.mono (by decide))) rfl (g_LengthError B) (a_cons (pe_v (i := 0) rfl (vL rfl)) a_nil)) (a_cons (e_lst (a_cons (pe_s (s := [118, 97, 108, 117, 101]) rfl (by decide)) a_nil)) a_nil))) a_nil)))))
  (b_cons (s_set (i := 2) nd rfl (.inl rfl) ⟨by decide, by intro p hp; cases hp⟩ (pe_bin (d_add rfl) (pe_v (i := 2) rfl (vL rfl)) (e_lst (a_cons (e_tup (a_cons (e_mkX rfl (v_PositionError B) (L2H.roomH_of (hr.mono (by decide))) rfl (g_PositionError B) (a_cons (pe_v (i := 0) rfl (vL rfl)) a_nil)) (a_cons (e_lst (a_cons (pe_s (s := [112, 111, 115, 105, 116, 105, 111, 110]) rfl (by decide)) a_nil)) a_nil))) (a_cons (e_tup (a_cons (e_mkX rfl (v_OrderError B) (L2H.roomH_of (hr.mono (by decide))) rfl (g_OrderError B) (a_cons (pe_v (i := 0) rfl (vL rfl)) a_nil)) (a_cons (e_lst (a_cons (pe_s (s := [111, 114, 100, 101, 114]) rfl (by decide)) a_nil)) a_nil))) a_nil)))))
  (b_cons (s_set (i := 2) nd rfl (.inl rfl) ⟨by decide, by intro p hp; cases hp⟩ (pe_bin (d_add rfl) (pe_v (i := 2) rfl (vL rfl)) (e_lst (a_cons (e_tup (a_cons (e_mkX rfl (v_BroadcastError B) (L2H.roomH_of (hr.mono (by decide))) rfl (g_BroadcastError B) (a_cons (pe_v (i := 0) rfl (vL rfl)) a_nil)) (a_cons (e_lst (a_cons (pe_s (s := [97, 120, 105, 115]) rfl (by decide)) a_nil)) a_nil))) (a_cons (e_tup (a_cons (e_mkX rfl (v_StrideError B) (L2H.roomH_of (hr.mono (by decide))) rfl (g_StrideError B) (a_cons (pe_v (i := 0) rfl (vL rfl)) a_nil)) (a_cons (e_lst (a_cons (pe_s (s := [110, 117, 109, 98, 101, 114]) rfl (by decide)) a_nil)) a_nil))) a_nil)))))
  (b_cons (s_set (i := 2) nd rfl (.inl rfl) ⟨by decide, by intro p hp; cases hp⟩ (pe_bin (d_add rfl) (pe_v (i := 2) rfl (vL rfl)) (e_lst (a_cons (e_tup (a_cons (e_mkX rfl (v_IndexRangeError B) (L2H.roomH_of (hr.mono (by decide))) rfl (g_IndexRangeError B) (a_cons (pe_v (i := 0) rfl (vL rfl)) a_nil)) (a_cons (e_lst (a_cons (pe_s (s := [105, 110, 100, 101, 120]) rfl (by decide)) a_nil)) a_nil))) (a_cons (e_tup (a_cons (e_mkX rfl (v_ShapeError B) (L2H.roomH_of (hr.mono (by decide))) rfl (g_ShapeError B) (a_cons (pe_v (i := 0) rfl (vL rfl)) (a_cons (pe_v (i := 1) rfl (vL rfl)) a_nil))) (a_cons (e_lst (a_cons (pe_s (s := [115, 104, 97, 112, 101]) rfl (by decide)) (a_cons (pe_s (s := [111, 116, 104, 101, 114]) rfl (by decide)) a_nil))) a_nil))) a_nil)))))
  (b_cons (s_set (i := 2) nd rfl (.inl rfl) ⟨by decide, by intro p hp; cases hp⟩ (pe_bin (d_add rfl) (pe_v (i := 2) rfl (vL rfl)) (e_lst (a_cons (e_tup (a_cons (e_mkX rfl (v_BufferMissing B) (L2H.roomH_of (hr.mono (by decide))) rfl (g_BufferMissing B) (a_cons (pe_v (i := 0) rfl (vL rfl)) a_nil)) (a_cons (e_lst (a_cons (pe_s (s := [98, 117, 102, 102, 101, 114]) rfl (by decide)) a_nil)) a_nil))) (a_cons (e_tup (a_cons (e_mkX rfl (v_CellError B) (L2H.roomH_of (hr.mono (by decide))) rfl (g_CellError B) (a_cons (pe_v (i := 0) rfl (vL rfl)) a_nil)) (a_cons (e_lst (a_cons (pe_s (s := [110, 117, 109, 98, 101, 114]) rfl (by decide)) a_nil)) a_nil))) (a_cons (e_tup (a_cons (e_mkX rfl (v_CountError B) (L2H.roomH_of (hr.mono (by decide))) rfl (g_CountError B) (a_cons (pe_v (i := 0) rfl (vL rfl)) a_nil)) (a_cons (e_lst (a_cons (pe_s (s := [99, 111, 117, 110, 116]) rfl (by decide)) a_nil)) a_nil))) a_nil))))))
  (b_cons (s_set (i := 2) nd rfl (.inl rfl) ⟨by decide, by intro p hp; cases hp⟩ (pe_bin (d_add rfl) (pe_v (i := 2) rfl (vL rfl)) (e_lst (a_cons (e_tup (a_cons (e_mkX rfl (v_OperatorError B) (L2H.roomH_of (hr.mono (by decide))) rfl (g_OperatorError B) (a_cons (pe_v (i := 0) rfl (vL rfl)) a_nil)) (a_cons (e_lst (a_cons (pe_s (s := [111, 112, 101, 114, 97, 116, 111, 114]) rfl (by decide)) a_nil)) a_nil))) (a_cons (e_tup (a_cons (e_mkX rfl (v_FaultError B) (L2H.roomH_of (hr.mono (by decide))) rfl (g_FaultError B) (a_cons (pe_v (i := 0) rfl (vL rfl)) a_nil)) (a_cons (e_lst (a_cons (pe_s (s := [114, 101, 97, 115, 111, 110]) rfl (by decide)) a_nil)) a_nil))) (a_cons (e_tup (a_cons (e_mkX rfl (v_InputError B) (L2H.roomH_of (hr.mono (by decide))) rfl (g_InputError B) (a_cons (pe_v (i := 0) rfl (vL rfl)) a_nil)) (a_cons (e_lst (a_cons (pe_s (s := [97, 116]) rfl (by decide)) a_nil)) a_nil))) a_nil))))))
  (b_cons (s_set (i := 2) nd rfl (.inl rfl) ⟨by decide, by intro p hp; cases hp⟩ (pe_bin (d_add rfl) (pe_v (i := 2) rfl (vL rfl)) (e_lst (a_cons (e_tup (a_cons (e_mkX rfl (v_StepError B) (L2H.roomH_of (hr.mono (by decide))) rfl (g_StepError B) (a_cons (pe_v (i := 0) rfl (vL rfl)) (a_cons (pe_v (i := 1) rfl (vL rfl)) a_nil))) (a_cons (e_lst (a_cons (pe_s (s := [97, 116]) rfl (by decide)) (a_cons (pe_s (s := [114, 101, 97, 115, 111, 110]) rfl (by decide)) a_nil))) a_nil))) (a_cons (e_tup (a_cons (e_mkX rfl (v_ParseError B) (L2H.roomH_of (hr.mono (by decide))) rfl (g_ParseError B) (a_cons (pe_v (i := 0) rfl (vL rfl)) (a_cons (pe_v (i := 1) rfl (vL rfl)) a_nil))) (a_cons (e_lst (a_cons (pe_s (s := [108, 105, 110, 101]) rfl (by decide)) (a_cons (pe_s (s := [114, 101, 97, 115, 111, 110]) rfl (by decide)) a_nil))) a_nil))) a_nil)))))
  (b_one (s_ret (pe_bin (d_add rfl) (pe_v (i := 2) rfl (vL rfl)) (e_lst (a_cons (e_tup (a_cons (e_mkX rfl (v_SessionError B) (L2H.roomH_of (hr.mono (by decide))) rfl (g_SessionError B) (a_cons (pe_v (i := 0) rfl (vL rfl)) a_nil)) (a_cons (e_lst (a_cons (pe_s (s := [114, 101, 97, 115, 111, 110]) rfl (by decide)) a_nil)) a_nil))) (a_cons (e_tup (a_cons (e_mkX rfl (v_NoSnapshot B) (L2H.roomH_of (hr.mono (by decide))) rfl (g_NoSnapshot B) (a_cons (pe_v (i := 0) rfl (vL rfl)) a_nil)) (a_cons (e_lst a_nil) a_nil))) a_nil)))))))))))))
/-! ### law named -/
def m__law_named : Fn := fnOf 3 (sSeq (sSet 2 (eLst false (esCons (eMkX 0 1 1 true (esCons (eVar 0) esNil)) (esCons (eMkX 1 1 1 true (esCons (eVar 0) esNil)) (esCons (eMkX 2 1 1 true (esCons (eVar 0) esNil)) (esCons (eMkX 3 1 1 true (esCons (eVar 0) esNil)) esNil))))))
  (sSeq (sSet 2 (eBin (oAdd false) (eVar 2) (eLst false (esCons (eMkX 4 1 1 true (esCons (eVar 0) esNil)) (esCons (eMkX 5 1 1 true (esCons (eVar 0) esNil)) (esCons (eMkX 6 1 1 true (esCons (eVar 0) esNil)) esNil))))))
  (sSeq (sSet 2 (eBin (oAdd false) (eVar 2) (eLst false (esCons (eMkX 7 1 1 true (esCons (eVar 0) esNil)) (esCons (eMkX 8 2 2 true (esCons (eVar 1) (esCons (eVar 0) esNil))) (esCons (eMkX 9 1 1 true (esCons (eVar 0) esNil)) esNil))))))
  (sSeq (sSet 2 (eBin (oAdd false) (eVar 2) (eLst false (esCons (eMkX 10 1 1 true (esCons (eVar 0) esNil)) (esCons (eMkX 11 1 1 true (esCons (eVar 0) esNil)) (esCons (eMkX 13 1 1 true (esCons (eVar 0) esNil)) esNil))))))
  (sSeq (sSet 2 (eBin (oAdd false) (eVar 2) (eLst false (esCons (eMkX 14 1 1 true (esCons (eVar 0) esNil)) (esCons (eMkX 16 1 1 true (esCons (eVar 0) esNil)) (esCons (eMkX 15 2 2 true (esCons (eVar 1) (esCons (eVar 0) esNil))) esNil))))))
  (sRet (eBin (oAdd false) (eVar 2) (eLst false (esCons (eMkX 17 2 2 true (esCons (eVar 1) (esCons (eVar 0) esNil))) (esCons (eMkX 18 1 1 true (esCons (eVar 0) esNil)) (esCons (eMkX 12 1 0 true (esCons (eVar 0) esNil)) esNil)))))))))))
theorem sc__law_named : FnScope ["_law_thing", "_law_second", "_law_found"] ["_law_thing", "_law_second"] (defScope (top 29)) := ⟨rfl, rfl, rfl, by decide +kernel, rfl, by decide +kernel, by decide +kernel⟩
theorem ok__law_named (B : Bun w K mg) : Fd (tx K) P w K mg base 3 (He.fAd K ("_law_named", none)) ["_law_thing", "_law_second"] m__law_named := by
  obtain ⟨fd, F⟩ := df__law_named B
  refine Fd.of F (fun _ _ _ _ _ _ us hl => match us, hl with | [_, _], _ => rfl) sc__law_named (fun cdv A outer s H E hr tk hp => ?_)
  have hu : (A.deeper (envOfC "_law_named" (defScope (top 29)) s.heap.objs.size (He.fAd K ("_law_named", none)) cdv)).units + 1 < cLine := by have := hr.units; omega
  have hu64 := hr.units
  have hu65 : (A.deeper (envOfC "_law_named" (defScope (top 29)) s.heap.objs.size (He.fAd K ("_law_named", none)) cdv)).units + 65 < cLine := by have := hr.un; omega
  have nd : (["_law_thing", "_law_second", "_law_found"] : List Str).Nodup := by decide
  exact (b_cons (s_set (i := 2) nd rfl (.inl rfl) ⟨by decide, by intro p hp; cases hp⟩ (e_lst (a_cons (e_mkXK rfl (v_ViewError B) rfl (L2H.roomH_of (hr.mono (by decide))) rfl (g_ViewError B) (pk_cons' (pe_v (i := 0) rfl (vL rfl)) pk_nil')) (a_cons (e_mkXK rfl (v_AxisError B) rfl (L2H.roomH_of (hr.mono (by decide))) rfl (g_AxisError B) (pk_cons' (pe_v (i := 0) rfl (vL rfl)) pk_nil')) (a_cons (e_mkXK rfl (v_LengthError B) rfl (L2H.roomH_of (hr.mono (by decide))) rfl (g_LengthError B) (pk_cons' (pe_v (i := 0) rfl (vL rfl)) pk_nil')) (a_cons (e_mkXK rfl (v_PositionError B) rfl (L2H.roomH_of (hr.mono (by decide))) rfl (g_PositionError B) (pk_cons' (pe_v (i := 0) rfl (vL rfl)) pk_nil')) a_nil))))))
  (b_cons (s_set (i := 2) nd rfl (.inl rfl) ⟨by decide, by intro p hp; cases hp⟩ (pe_bin (d_add rfl) (pe_v (i := 2) rfl (vL rfl)) (e_lst (a_cons (e_mkXK rfl (v_OrderError B) rfl (L2H.roomH_of (hr.mono (by decide))) rfl (g_OrderError B) (pk_cons' (pe_v (i := 0) rfl (vL rfl)) pk_nil')) (a_cons (e_mkXK rfl (v_BroadcastError B) rfl (L2H.roomH_of (hr.mono (by decide))) rfl (g_BroadcastError B) (pk_cons' (pe_v (i := 0) rfl (vL rfl)) pk_nil')) (a_cons (e_mkXK rfl (v_StrideError B) rfl (L2H.roomH_of (hr.mono (by decide))) rfl (g_StrideError B) (pk_cons' (pe_v (i := 0) rfl (vL rfl)) pk_nil')) a_nil))))))
  (b_cons (s_set (i := 2) nd rfl (.inl rfl) ⟨by decide, by intro p hp; cases hp⟩ (pe_bin (d_add rfl) (pe_v (i := 2) rfl (vL rfl)) (e_lst (a_cons (e_mkXK rfl (v_IndexRangeError B) rfl (L2H.roomH_of (hr.mono (by decide))) rfl (g_IndexRangeError B) (pk_cons' (pe_v (i := 0) rfl (vL rfl)) pk_nil')) (a_cons (e_mkXK rfl (v_ShapeError B) rfl (L2H.roomH_of (hr.mono (by decide))) rfl (g_ShapeError B) (pk_cons' (pe_v (i := 1) rfl (vL rfl)) (pk_cons' (pe_v (i := 0) rfl (vL rfl)) pk_nil'))) (a_cons (e_mkXK rfl (v_BufferMissing B) rfl (L2H.roomH_of (hr.mono (by decide))) rfl (g_BufferMissing B) (pk_cons' (pe_v (i := 0) rfl (vL rfl)) pk_nil')) a_nil))))))
  (b_cons (s_set (i := 2) nd rfl (.inl rfl) ⟨by decide, by intro p hp; cases hp⟩ (pe_bin (d_add rfl) (pe_v (i := 2) rfl (vL rfl)) (e_lst (a_cons (e_mkXK rfl (v_CellError B) rfl (L2H.roomH_of (hr.mono (by decide))) rfl (g_CellError B) (pk_cons' (pe_v (i := 0) rfl (vL rfl)) pk_nil')) (a_cons (e_mkXK rfl (v_CountError B) rfl (L2H.roomH_of (hr.mono (by decide))) rfl (g_CountError B) (pk_cons' (pe_v (i := 0) rfl (vL rfl)) pk_nil')) (a_cons (e_mkXK rfl (v_OperatorError B) rfl (L2H.roomH_of (hr.mono (by decide))) rfl (g_OperatorError B) (pk_cons' (pe_v (i := 0) rfl (vL rfl)) pk_nil')) a_nil))))))
  (b_cons (s_set (i := 2) nd rfl (.inl rfl) ⟨by decide, by intro p hp; cases hp⟩ (pe_bin (d_add rfl) (pe_v (i := 2) rfl (vL rfl)) (e_lst (a_cons (e_mkXK rfl (v_FaultError B) rfl (L2H.roomH_of (hr.mono (by decide))) rfl (g_FaultError B) (pk_cons' (pe_v (i := 0) rfl (vL rfl)) pk_nil')) (a_cons (e_mkXK rfl (v_InputError B) rfl (L2H.roomH_of (hr.mono (by decide))) rfl (g_InputError B) (pk_cons' (pe_v (i := 0) rfl (vL rfl)) pk_nil')) (a_cons (e_mkXK rfl (v_StepError B) rfl (L2H.roomH_of (hr.mono (by decide))) rfl (g_StepError B) (pk_cons' (pe_v (i := 1) rfl (vL rfl)) (pk_cons' (pe_v (i := 0) rfl (vL rfl)) pk_nil'))) a_nil))))))
  (b_one (s_ret (pe_bin (d_add rfl) (pe_v (i := 2) rfl (vL rfl)) (e_lst (a_cons (e_mkXK rfl (v_ParseError B) rfl (L2H.roomH_of (hr.mono (by decide))) rfl (g_ParseError B) (pk_cons' (pe_v (i := 1) rfl (vL rfl)) (pk_cons' (pe_v (i := 0) rfl (vL rfl)) pk_nil'))) (a_cons (e_mkXK rfl (v_SessionError B) rfl (L2H.roomH_of (hr.mono (by decide))) rfl (g_SessionError B) (pk_cons' (pe_v (i := 0) rfl (vL rfl)) pk_nil')) (a_cons (e_mkXK rfl (v_NoSnapshot B) rfl (L2H.roomH_of (hr.mono (by decide))) rfl (g_NoSnapshot B) (pk_cons' (pe_v (i := 0) rfl (vL rfl)) pk_nil')) a_nil))))))))))))
/-! ### law classes -/
def m__law_classes : Fn := fnOf 3 (sSeq (sSet 1 (eLst false (esCons (eIsV kA_ViewError (eVar 0)) (esCons (eIsV kA_AxisError (eVar 0)) (esCons (eIsV kA_LengthError (eVar 0)) esNil)))))
  (sSeq (sSet 1 (eBin (oAdd false) (eVar 1) (eLst false (esCons (eIsV kA_PositionError (eVar 0)) (esCons (eIsV kA_OrderError (eVar 0)) (esCons (eIsV kA_BroadcastError (eVar 0)) esNil))))))
  (sSeq (sSet 1 (eBin (oAdd false) (eVar 1) (eLst false (esCons (eIsV kA_StrideError (eVar 0)) (esCons (eIsV kA_IndexRangeError (eVar 0)) (esCons (eIsV kA_ShapeError (eVar 0)) esNil))))))
  (sSeq (sSet 1 (eBin (oAdd false) (eVar 1) (eLst false (esCons (eIsV kA_BufferMissing (eVar 0)) (esCons (eIsV kA_CellError (eVar 0)) (esCons (eIsV kA_CountError (eVar 0)) esNil))))))
  (sSeq (sSet 1 (eBin (oAdd false) (eVar 1) (eLst false (esCons (eIsV kA_OperatorError (eVar 0)) (esCons (eIsV kA_FaultError (eVar 0)) (esCons (eIsV kA_InputError (eVar 0)) esNil))))))
  (sSeq (sSet 1 (eBin (oAdd false) (eVar 1) (eLst false (esCons (eIsV kA_StepError (eVar 0)) (esCons (eIsV kA_ParseError (eVar 0)) (esCons (eIsV kA_SessionError (eVar 0)) esNil))))))
  (sSeq (sSet 1 (eBin (oAdd false) (eVar 1) (eLst false (esCons (eIsV kA_NoSnapshot (eVar 0)) esNil))))
  (sRet (eComp (srcOf (esCons (eBlt bLen (esCons (eVar 1) esNil)) esNil) kR1) (gSet 2) (bOf (eBin oIx (eVar 1) (eVar 2))) (eVar 2) [2] false)))))))))
theorem sc__law_classes : FnScope ["_law_e", "_law_some", "_law_k"] ["_law_e"] (defScope (top 30)) := ⟨rfl, rfl, rfl, by decide +kernel, rfl, by decide +kernel, by decide +kernel⟩
theorem ok__law_classes (B : Bun w K mg) : Fd (tx K) P w K mg base 1 (He.fAd K ("_law_classes", none)) ["_law_e"] m__law_classes := by
  obtain ⟨fd, F⟩ := df__law_classes B
  refine Fd.of F (fun _ _ _ _ _ _ us hl => match us, hl with | [_], _ => rfl) sc__law_classes (fun cdv A outer s H E hr tk hp => ?_)
  have hu : (A.deeper (envOfC "_law_classes" (defScope (top 30)) s.heap.objs.size (He.fAd K ("_law_classes", none)) cdv)).units + 1 < cLine := by have := hr.units; omega
  have hu64 := hr.units
  have hu65 : (A.deeper (envOfC "_law_classes" (defScope (top 30)) s.heap.objs.size (He.fAd K ("_law_classes", none)) cdv)).units + 65 < cLine := by have := hr.un; omega
  have nd : (["_law_e", "_law_some", "_law_k"] : List Str).Nodup := by decide
  exact (b_cons (s_set (i := 1) nd rfl (.inr rfl) ⟨by decide, by intro p hp; cases hp⟩ (e_lst (a_cons (e_isV (kA_ViewError_ok B) rfl (n_isinstance B) (pe_v (i := 0) rfl (vL rfl)) (pe_glob (v := .ref (He.ga K "ViewError")) rfl (g_ViewError B) rfl) (fun _ r => r)) (a_cons (e_isV (kA_AxisError_ok B) rfl (n_isinstance B) (pe_v (i := 0) rfl (vL rfl)) (pe_glob (v := .ref (He.ga K "AxisError")) rfl (g_AxisError B) rfl) (fun _ r => r)) (a_cons (e_isV (kA_LengthError_ok B) rfl (n_isinstance B) (pe_v (i := 0) rfl (vL rfl)) (pe_glob (v := .ref (He.ga K "LengthError")) rfl (g_LengthError B) rfl) (fun _ r => r)) a_nil)))))
  (b_cons (s_set (i := 1) nd rfl (.inr rfl) ⟨by decide, by intro p hp; cases hp⟩ (pe_bin (d_add rfl) (pe_v (i := 1) rfl (vC rfl)) (e_lst (a_cons (e_isV (kA_PositionError_ok B) rfl (n_isinstance B) (pe_v (i := 0) rfl (vL rfl)) (pe_glob (v := .ref (He.ga K "PositionError")) rfl (g_PositionError B) rfl) (fun _ r => r)) (a_cons (e_isV (kA_OrderError_ok B) rfl (n_isinstance B) (pe_v (i := 0) rfl (vL rfl)) (pe_glob (v := .ref (He.ga K "OrderError")) rfl (g_OrderError B) rfl) (fun _ r => r)) (a_cons (e_isV (kA_BroadcastError_ok B) rfl (n_isinstance B) (pe_v (i := 0) rfl (vL rfl)) (pe_glob (v := .ref (He.ga K "BroadcastError")) rfl (g_BroadcastError B) rfl) (fun _ r => r)) a_nil))))))
  (b_cons (s_set (i := 1) nd rfl (.inr rfl) ⟨by decide, by intro p hp; cases hp⟩ (pe_bin (d_add rfl) (pe_v (i := 1) rfl (vC rfl)) (e_lst (a_cons (e_isV (kA_StrideError_ok B) rfl (n_isinstance B) (pe_v (i := 0) rfl (vL rfl)) (pe_glob (v := .ref (He.ga K "StrideError")) rfl (g_StrideError B) rfl) (fun _ r => r)) (a_cons (e_isV (kA_IndexRangeError_ok B) rfl (n_isinstance B) (pe_v (i := 0) rfl (vL rfl)) (pe_glob (v := .ref (He.ga K "IndexRangeError")) rfl (g_IndexRangeError B) rfl) (fun _ r => r)) (a_cons (e_isV (kA_ShapeError_ok B) rfl (n_isinstance B) (pe_v (i := 0) rfl (vL rfl)) (pe_glob (v := .ref (He.ga K "ShapeError")) rfl (g_ShapeError B) rfl) (fun _ r => r)) a_nil))))))
  (b_cons (s_set (i := 1) nd rfl (.inr rfl) ⟨by decide, by intro p hp; cases hp⟩ (pe_bin (d_add rfl) (pe_v (i := 1) rfl (vC rfl)) (e_lst (a_cons (e_isV (kA_BufferMissing_ok B) rfl (n_isinstance B) (pe_v (i := 0) rfl (vL rfl)) (pe_glob (v := .ref (He.ga K "BufferMissing")) rfl (g_BufferMissing B) rfl) (fun _ r => r)) (a_cons (e_isV (kA_CellError_ok B) rfl (n_isinstance B) (pe_v (i := 0) rfl (vL rfl)) (pe_glob (v := .ref (He.ga K "CellError")) rfl (g_CellError B) rfl) (fun _ r => r)) (a_cons (e_isV (kA_CountError_ok B) rfl (n_isinstance B) (pe_v (i := 0) rfl (vL rfl)) (pe_glob (v := .ref (He.ga K "CountError")) rfl (g_CountError B) rfl) (fun _ r => r)) a_nil))))))
  (b_cons (s_set (i := 1) nd rfl (.inr rfl) ⟨by decide, by intro p hp; cases hp⟩ (pe_bin (d_add rfl) (pe_v (i := 1) rfl (vC rfl)) (e_lst (a_cons (e_isV (kA_OperatorError_ok B) rfl (n_isinstance B) (pe_v (i := 0) rfl (vL rfl)) (pe_glob (v := .ref (He.ga K "OperatorError")) rfl (g_OperatorError B) rfl) (fun _ r => r)) (a_cons (e_isV (kA_FaultError_ok B) rfl (n_isinstance B) (pe_v (i := 0) rfl (vL rfl)) (pe_glob (v := .ref (He.ga K "FaultError")) rfl (g_FaultError B) rfl) (fun _ r => r)) (a_cons (e_isV (kA_InputError_ok B) rfl (n_isinstance B) (pe_v (i := 0) rfl (vL rfl)) (pe_glob (v := .ref (He.ga K "InputError")) rfl (g_InputError B) rfl) (fun _ r => r)) a_nil))))))
  (b_cons (s_set (i := 1) nd rfl (.inr rfl) ⟨by decide, by intro p hp; cases hp⟩ (pe_bin (d_add rfl) (pe_v (i := 1) rfl (vC rfl)) (e_lst (a_cons (e_isV (kA_StepError_ok B) rfl (n_isinstance B) (pe_v (i := 0) rfl (vL rfl)) (pe_glob (v := .ref (He.ga K "StepError")) rfl (g_StepError B) rfl) (fun _ r => r)) (a_cons (e_isV (kA_ParseError_ok B) rfl (n_isinstance B) (pe_v (i := 0) rfl (vL rfl)) (pe_glob (v := .ref (He.ga K "ParseError")) rfl (g_ParseError B) rfl) (fun _ r => r)) (a_cons (e_isV (kA_SessionError_ok B) rfl (n_isinstance B) (pe_v (i := 0) rfl (vL rfl)) (pe_glob (v := .ref (He.ga K "SessionError")) rfl (g_SessionError B) rfl) (fun _ r => r)) a_nil))))))
  (b_cons (s_set (i := 1) nd rfl (.inr rfl) ⟨by decide, by intro p hp; cases hp⟩ (pe_bin (d_add rfl) (pe_v (i := 1) rfl (vC rfl)) (e_lst (a_cons (e_isV (kA_NoSnapshot_ok B) rfl (n_isinstance B) (pe_v (i := 0) rfl (vL rfl)) (pe_glob (v := .ref (He.ga K "NoSnapshot")) rfl (g_NoSnapshot B) rfl) (fun _ r => r)) a_nil))))
  (b_one (s_ret (l_one (own := [(("_law_k" : Str), 2)]) s rfl nd (blkOk_by (by kernel_rfl)) (by decide) (fun s H C cl fp => (g_name (i := 2) nd rfl (.inl rfl) ⟨by decide, by intro p hp; cases hp⟩)) (fun hg => i_rng1 rfl (n_range B) (a_cons (e_blt (b_len rfl) rfl (n_len B) rfl (a_cons (pe_v (i := 1) rfl (vC rfl)) a_nil)) a_nil) hg) (fun s H C cl fp => (pts_if (pt_of rfl (pe_ixD (d_ix rfl hu) (pe_v (i := 1) rfl (vC rfl)) (pe_v (i := 2) rfl (vL rfl)) (fun _ _ => rfl))))) (fun s H C cl fp => (pe_v (i := 2) rfl (vL rfl)))))))))))))
/-! ### law field -/
def m__law_field : Fn := fnOf 2 (sSeq (sIf (bCmp (eBin oEq (eVar 0) (eLit (.int 2)))) (sRet (eLst false (esCons (eXv jF_value (eVar 1)) esNil)))
  sNil)
  (sSeq (sIf (bCmp (eBin oEq (eVar 0) (eLit (.int 3)))) (sRet (eLst false (esCons (eXv jF_position (eVar 1)) esNil)))
  sNil)
  (sSeq (sIf (bCmp (eBin oEq (eVar 0) (eLit (.int 4)))) (sRet (eLst false (esCons (eXv jF_order (eVar 1)) esNil)))
  sNil)
  (sSeq (sIf (bCmp (eBin oEq (eVar 0) (eLit (.int 7)))) (sRet (eLst false (esCons (eXv jF_index (eVar 1)) esNil)))
  sNil)
  (sSeq (sIf (bCmp (eBin oEq (eVar 0) (eLit (.int 9)))) (sRet (eLst false (esCons (eXv jF_buffer (eVar 1)) esNil)))
  sNil)
  (sSeq (sIf (bCmp (eBin oEq (eVar 0) (eLit (.int 11)))) (sRet (eLst false (esCons (eXv jF_count (eVar 1)) esNil)))
  sNil)
  (sSeq (sIf (bCmp (eBin oEq (eVar 0) (eLit (.int 12)))) (sRet (eLst false (esCons (eXv jF_operator (eVar 1)) esNil)))
  sNil)
  (sRet (eIf (bCmp (eBin oEq (eVar 0) (eLit (.int 14)))) (eLst false (esCons (eXv jF_at (eVar 1)) esNil)) (eLst false esNil))))))))))
theorem sc__law_field : FnScope ["_law_k", "_law_e"] ["_law_k", "_law_e"] (defScope (top 32)) := ⟨rfl, rfl, rfl, by decide +kernel, rfl, by decide +kernel, by decide +kernel⟩
theorem ok__law_field (B : Bun w K mg) : Fd (tx K) P w K mg base 1 (He.fAd K ("_law_field", none)) ["_law_k", "_law_e"] m__law_field := by
  obtain ⟨fd, F⟩ := df__law_field B
  refine Fd.of F (fun _ _ _ _ _ _ us hl => match us, hl with | [_, _], _ => rfl) sc__law_field (fun cdv A outer s H E hr tk hp => ?_)
  have hu : (A.deeper (envOfC "_law_field" (defScope (top 32)) s.heap.objs.size (He.fAd K ("_law_field", none)) cdv)).units + 1 < cLine := by have := hr.units; omega
  have hu64 := hr.units
  have hu65 : (A.deeper (envOfC "_law_field" (defScope (top 32)) s.heap.objs.size (He.fAd K ("_law_field", none)) cdv)).units + 65 < cLine := by have := hr.un; omega
  have nd : (["_law_k", "_law_e"] : List Str).Nodup := by decide
  exact (b_cons (s_if (pt_cmpD (d_eq rfl hu64) (pe_v (i := 0) rfl (vL rfl)) pe_i rfl) (b_one (s_ret (e_lst (a_cons (e_xv (jF_value_ok B) (pe_v (i := 1) rfl (vL rfl))) a_nil))))
  b_nil)
  (b_cons (s_if (pt_cmpD (d_eq rfl hu64) (pe_v (i := 0) rfl (vL rfl)) pe_i rfl) (b_one (s_ret (e_lst (a_cons (e_xv (jF_position_ok B) (pe_v (i := 1) rfl (vL rfl))) a_nil))))
  b_nil)
  (b_cons (s_if (pt_cmpD (d_eq rfl hu64) (pe_v (i := 0) rfl (vL rfl)) pe_i rfl) (b_one (s_ret (e_lst (a_cons (e_xv (jF_order_ok B) (pe_v (i := 1) rfl (vL rfl))) a_nil))))
  b_nil)
  (b_cons (s_if (pt_cmpD (d_eq rfl hu64) (pe_v (i := 0) rfl (vL rfl)) pe_i rfl) (b_one (s_ret (e_lst (a_cons (e_xv (jF_index_ok B) (pe_v (i := 1) rfl (vL rfl))) a_nil))))
  b_nil)
  (b_cons (s_if (pt_cmpD (d_eq rfl hu64) (pe_v (i := 0) rfl (vL rfl)) pe_i rfl) (b_one (s_ret (e_lst (a_cons (e_xv (jF_buffer_ok B) (pe_v (i := 1) rfl (vL rfl))) a_nil))))
  b_nil)
  (b_cons (s_if (pt_cmpD (d_eq rfl hu64) (pe_v (i := 0) rfl (vL rfl)) pe_i rfl) (b_one (s_ret (e_lst (a_cons (e_xv (jF_count_ok B) (pe_v (i := 1) rfl (vL rfl))) a_nil))))
  b_nil)
  (b_cons (s_if (pt_cmpD (d_eq rfl hu64) (pe_v (i := 0) rfl (vL rfl)) pe_i rfl) (b_one (s_ret (e_lst (a_cons (e_xv (jF_operator_ok B) (pe_v (i := 1) rfl (vL rfl))) a_nil))))
  b_nil)
  (b_one (s_ret (v_if (pt_cmpD (d_eq rfl hu64) (pe_v (i := 0) rfl (vL rfl)) pe_i rfl) (e_lst (a_cons (e_xv (jF_at_ok B) (pe_v (i := 1) rfl (vL rfl))) a_nil)) (e_lst a_nil)))))))))))
/-! ### law fields -/
def m__law_fields : Fn := fnOf 2 (sSeq (sIf (bCmp (eBin oIn (eVar 0) (eTup (esCons (eLit (.int 0)) (esCons (eLit (.int 13)) (esCons (eLit (.int 17)) esNil)))))) (sRet (eLst false (esCons (eXv jF_reason (eVar 1)) esNil)))
  sNil)
  (sSeq (sIf (bCmp (eBin oIn (eVar 0) (eTup (esCons (eLit (.int 1)) (esCons (eLit (.int 5)) esNil))))) (sRet (eLst false (esCons (eXv jF_axis (eVar 1)) esNil)))
  sNil)
  (sSeq (sIf (bCmp (eBin oIn (eVar 0) (eTup (esCons (eLit (.int 6)) (esCons (eLit (.int 10)) esNil))))) (sRet (eLst false (esCons (eXv jF_number (eVar 1)) esNil)))
  sNil)
  (sSeq (sIf (bCmp (eBin oEq (eVar 0) (eLit (.int 8)))) (sRet (eLst false (esCons (eXv jF_shape (eVar 1)) (esCons (eXv jF_other (eVar 1)) esNil))))
  sNil)
  (sSeq (sIf (bCmp (eBin oEq (eVar 0) (eLit (.int 15)))) (sRet (eLst false (esCons (eXv jF_at (eVar 1)) (esCons (eXv jF_reason (eVar 1)) esNil))))
  sNil)
  (sSeq (sIf (bCmp (eBin oEq (eVar 0) (eLit (.int 16)))) (sRet (eLst false (esCons (eXv jF_line (eVar 1)) (esCons (eXv jF_reason (eVar 1)) esNil))))
  sNil)
  (sRet (eCall false 2 m__law_field (esCons (eVar 0) (esCons (eVar 1) esNil)) []))))))))
theorem sc__law_fields : FnScope ["_law_k", "_law_e"] ["_law_k", "_law_e"] (defScope (top 31)) := ⟨rfl, rfl, rfl, by decide +kernel, rfl, by decide +kernel, by decide +kernel⟩
theorem ok__law_fields (B : Bun w K mg) : Fd (tx K) P w K mg base 2 (He.fAd K ("_law_fields", none)) ["_law_k", "_law_e"] m__law_fields := by
  obtain ⟨fd, F⟩ := df__law_fields B
  refine Fd.of F (fun _ _ _ _ _ _ us hl => match us, hl with | [_, _], _ => rfl) sc__law_fields (fun cdv A outer s H E hr tk hp => ?_)
  have hu : (A.deeper (envOfC "_law_fields" (defScope (top 31)) s.heap.objs.size (He.fAd K ("_law_fields", none)) cdv)).units + 1 < cLine := by have := hr.units; omega
  have hu64 := hr.units
  have hu65 : (A.deeper (envOfC "_law_fields" (defScope (top 31)) s.heap.objs.size (He.fAd K ("_law_fields", none)) cdv)).units + 65 < cLine := by have := hr.un; omega
  have nd : (["_law_k", "_law_e"] : List Str).Nodup := by decide
  exact (b_cons (s_if (pt_cmpD (d_in' rfl hu65) (pe_v (i := 0) rfl (vL rfl)) (e_tup (a_cons pe_i (a_cons pe_i (a_cons pe_i a_nil)))) rfl) (b_one (s_ret (e_lst (a_cons (e_xv (jF_reason_ok B) (pe_v (i := 1) rfl (vL rfl))) a_nil))))
  b_nil)
  (b_cons (s_if (pt_cmpD (d_in' rfl hu65) (pe_v (i := 0) rfl (vL rfl)) (e_tup (a_cons pe_i (a_cons pe_i a_nil))) rfl) (b_one (s_ret (e_lst (a_cons (e_xv (jF_axis_ok B) (pe_v (i := 1) rfl (vL rfl))) a_nil))))
  b_nil)
  (b_cons (s_if (pt_cmpD (d_in' rfl hu65) (pe_v (i := 0) rfl (vL rfl)) (e_tup (a_cons pe_i (a_cons pe_i a_nil))) rfl) (b_one (s_ret (e_lst (a_cons (e_xv (jF_number_ok B) (pe_v (i := 1) rfl (vL rfl))) a_nil))))
  b_nil)
  (b_cons (s_if (pt_cmpD (d_eq rfl hu64) (pe_v (i := 0) rfl (vL rfl)) pe_i rfl) (b_one (s_ret (e_lst (a_cons (e_xv (jF_shape_ok B) (pe_v (i := 1) rfl (vL rfl))) (a_cons (e_xv (jF_other_ok B) (pe_v (i := 1) rfl (vL rfl))) a_nil)))))
  b_nil)
  (b_cons (s_if (pt_cmpD (d_eq rfl hu64) (pe_v (i := 0) rfl (vL rfl)) pe_i rfl) (b_one (s_ret (e_lst (a_cons (e_xv (jF_at_ok B) (pe_v (i := 1) rfl (vL rfl))) (a_cons (e_xv (jF_reason_ok B) (pe_v (i := 1) rfl (vL rfl))) a_nil)))))
  b_nil)
  (b_cons (s_if (pt_cmpD (d_eq rfl hu64) (pe_v (i := 0) rfl (vL rfl)) pe_i rfl) (b_one (s_ret (e_lst (a_cons (e_xv (jF_line_ok B) (pe_v (i := 1) rfl (vL rfl))) (a_cons (e_xv (jF_reason_ok B) (pe_v (i := 1) rfl (vL rfl))) a_nil)))))
  b_nil)
  (b_one (s_ret (c_callF (ok__law_field B) rfl (hr.mono (by decide)) rfl (g_law_field B) tk (a_cons (pe_v (i := 0) rfl (vL rfl)) (a_cons (pe_v (i := 1) rfl (vL rfl)) a_nil)))))))))))
/-! ### law caught -/
def m__law_caught : Fn := fnOf 2 (fun env M => if 2 ≤ env.length then .rt (.d (.bl true)) M else .no)
theorem sc__law_caught : FnScope ["_law_found", "_law_e"] [] (defScope (top 33)) := ⟨rfl, rfl, rfl, by decide +kernel, rfl, by decide +kernel, by decide +kernel⟩
theorem ok__law_caught (B : Bun w K mg) : Fd (tx K) P w K mg base 3 (He.fAd K ("_law_caught", none)) [] m__law_caught := by
  obtain ⟨fd, F⟩ := df__law_caught B
  refine Fd.of (ps := []) F (fun _ _ _ _ _ _ us hl => match us, hl with | ([] : List Value), _ => rfl) sc__law_caught (fun cdv A outer s H E hr tk hp => ?_)
  have nd : (["_law_found", "_law_e"] : List Str).Nodup := by decide
  obtain ⟨fI, fdI, ps, h1, h2, h3, h4, h5⟩ := (v_NoSnapshot (P := P) (base := base) B).ini
  have T := (v_NoSnapshot (P := P) (base := base) B).T
  have hl : ps.length = 2 := by
    have := h3.len [.ref 0, .str Str.empty] (upd (fun _ => none) 0 (exo 0 ((tx K).xad 12) none)) (fun _ _ => True) E0 ⟨rfl, 0, [.str Str.empty], rfl, upd_same, (fun v hv => by cases List.mem_singleton.mp hv; exact .inl ⟨_, rfl, by decide⟩), by rw [if_pos (show (tx K).xfn 12 = [] from rfl)]; trivial⟩
    exact this.symm
  have EC := (ec_NoSnapshot B).1
  have kV : PySem.W.kitOne K (.ref (He.ga K "NoSnapshot")) (.type "ValueError") = some true := (kA_ValueError_ok B 12 true rfl).2
  have kN : PySem.W.kitOne K (.ref (He.ga K "NoSnapshot")) (.ref (He.ga K "NoSnapshot")) = some true := (kA_NoSnapshot_ok B 12 true rfl).2
  refine PSs.imp (pss_cons (ps_set (i := 0) nd rfl (.inl rfl) pe_bl) (pss_cons (ps_tryA (i := 1) (Wout := (WofE E).w) (tb := fun W D σ H => tMkX0 (He.ga K "NoSnapshot") (spV K (He.ga K "NoSnapshot") [] 1) (tCons (tC (.str "none")) tNil) σ H fun cls d Hx => W cls d σ Hx)
    (ts := fun a cls d D σ H => (cls = .ref (He.ga K "NoSnapshot") ∧ d = none) ∧ tAsg (tAndV (tCB (rIsE K (He.ga K "NoSnapshot") a) (tCons (tVar 1) (tCons (tC (.ty "ValueError")) tNil))) (tCB (rIsE K (He.ga K "NoSnapshot") a) (tCons (tVar 1) (tCons (tC (.ref (He.ga K "NoSnapshot"))) tNil)))) (gName 0) D σ H)
    rfl rfl nd rfl rfl ⟨rfl, by decide, .inl (g_LateCopyError B)⟩ tk (fun _ _ _ _ h => h) (fun W pn xe tk' hp' => ?_) (fun a oe cls d pn hz hf hm tk' hot => ?_)) (pss_one (ps_ret (pv 0))))) fun D σ H h => ?_
  · exact pss_one (ps_raiseC rfl tk' (pmkX0 T h1 h2 h3 (L2H.roomH_of (hr.mono (by decide))) h4 hl rfl (g_NoSnapshot B) (pa_cons pe_str pa_nil)))
  · refine PSs.and fun hc => ?_
    obtain ⟨e1, e2⟩ := hc
    subst e1 e2
    exact pss_one (ps_set (i := 0) nd rfl (.inl rfl) (pe_and (pe_callB (call_isP hm EC hz hf) rfl (n_isinstance B) (by decide +kernel) (pa_cons (pv 1) (pa_cons (pe_bltn (v := .ty "ValueError") rfl (n_ValueError B) rfl rfl (by decide) (by decide)) pa_nil)))
      (pe_one (pe_callB (call_isP hm EC hz hf) rfl (n_isinstance B) (by decide +kernel) (pa_cons (pv 1) (pa_cons (pe_glob (v := .ref (He.ga K "NoSnapshot")) rfl (g_NoSnapshot B) rfl) pa_nil))))))
  · obtain ⟨ads, F1, env, M, fr, hid, k⟩ := h
    simp only [tSeq, tAsg, tRet, gName]
    dsimp only at k
    by_cases c2 : 2 ≤ env.length
    · rw [if_pos c2] at k
      have l2 : 2 ≤ σ.length := by rw [← fr.env.1]; exact c2
      have fin : D.rt (.bl true) H := k _ _ _ _ .refl fr.rel (isB (t := tx K) F1 true)
      refine ⟨by decide, fun a ha => ⟨rfl, a, [.str "none"], rfl, upd_same, (fun v hv => by cases List.mem_singleton.mp hv; exact .inl ⟨_, rfl, by decide +kernel⟩), ?_⟩⟩
      rw [if_pos rfl]
      have eH : del (upd H a (exo a (He.ga K "NoSnapshot") none)) a = H := by
        funext b
        by_cases hb : b = a
        · rw [hb, del_same, ha]
        · rw [del_ne hb, upd_ne hb]
      refine ⟨rfl, upd_same, ?_⟩
      rw [eH]
      refine ⟨true, em_NoSnapshot_LateCopyError B, fun _ a2 ha2 => ⟨⟨rfl, rfl⟩, ?_⟩, fun z => nomatch z⟩
      have g1 : ((σ.set 0 (some (V.bl false))).set 1 (some (V.ref a2)))[1]? = some (some (V.ref a2)) := List.getElem?_set_self (by simp; omega)
      refine ⟨.ref a2, g1, .ty "ValueError", .type "ValueError", true, rfl, (fun _ r => r), kV, true, rfl, ?_⟩
      rw [if_pos rfl]
      refine ⟨.ref a2, g1, .ref (He.ga K "NoSnapshot"), .ref (He.ga K "NoSnapshot"), true, rfl, (fun _ r => r), kN, ?_⟩
      refine ⟨.bl true, ?_, fin⟩
      rw [List.getElem?_set_ne (by decide), List.getElem?_set_self (by simp; omega)]
    · rw [if_neg c2] at k
      exact k.elim

/-! ### law -/
def m_law : Fn := fnOf 10 (sSeq (sSet 1 (eCall true 1 m__law_draws (esCons (eVar 0) esNil) []))
  (sSeq (sForI (srcOf (esCons (eLit (.int 3)) esNil) kR1) (gSet 2)
  (sSeq (sPar 3 4 (esCons (eCall false 1 m__law_value (esCons (eVar 1) esNil) []) (esCons (eCall false 1 m__law_value (esCons (eVar 1) esNil) []) esNil)))
  (sSeq (sSet 5 (eComp (srcSeq (eCall false 2 m__law_made (esCons (eVar 3) (esCons (eVar 4) esNil)) [])) (gSet 9) bYes (eBin oIx (eVar 9) (eLit (.int 0))) [9] false))
  (sSeq (sSet 6 (eComp (srcSeq (eCall false 2 m__law_made (esCons (eVar 3) (esCons (eVar 4) esNil)) [])) (gSet 9) bYes (eBlt bLen (esCons (eBin oIx (eVar 9) (eLit (.int 1))) esNil)) [9] false))
  (sForI (srcSeq (eTup (esCons (eVar 5) (esCons (eCall false 2 m__law_named (esCons (eVar 3) (esCons (eVar 4) esNil)) []) esNil)))) (gSet 7)
  (sForI (srcOf (esCons (eBlt bLen (esCons (eVar 7) esNil)) esNil) kR1) (gSet 8)
  (sSeq (sIf (bOr (bNot (bOf (eIsV kA_LateCopyError (eBin oIx (eVar 7) (eVar 8))))) (bNot (bOf (eIsV kA_ValueError (eBin oIx (eVar 7) (eVar 8)))))) (sRet (eLit (.bl false)))
  sNil)
  (sSeq (sIf (bCmp (eBin oNe (eCall false 1 m__law_classes (esCons (eBin oIx (eVar 7) (eVar 8)) esNil) []) (eLst false (esCons (eVar 8) esNil)))) (sRet (eLit (.bl false)))
  sNil)
  (sIf (bNot (bOf (eCall false 2 (cy__law_same 6 0) (esCons (eCall false 2 m__law_fields (esCons (eVar 8) (esCons (eBin oIx (eVar 7) (eVar 8)) esNil)) []) (esCons (eSl false (eLst false (esCons (eVar 3) (esCons (eVar 4) esNil))) none (some (eBin oIx (eVar 6) (eVar 8)))) esNil)) []))) (sRet (eLit (.bl false)))
  sNil)))))))))
  (sRet (eCall false 0 m__law_caught esNil []))))
theorem sc_law : FnScope ["_law_script", "_law_draws_here", "_law_turn", "_law_thing", "_law_second", "_law_made_here", "_law_counts", "_law_some", "_law_k", "_law_pair"] ["_law_script"] (defScope (top 34)) := ⟨rfl, rfl, rfl, by decide +kernel, rfl, by decide +kernel, by decide +kernel⟩
theorem ok_law (B : Bun w K mg) {fd : FuncData} (F : FunD K "law" "law" (defArgs (top 34)) (defBody (top 34)) (defScope (top 34)) [] [] (He.fAd K ("law", none)) fd) : FnOk P w K mg base (LcX.CX P w) 7 (He.fAd K ("law", none)) fd ["_law_script"] (spF (tx K) 1 m_law) := by
  refine fd_ok F sc_law (fun cdv A outer s H E hr tk hp => ?_)
  have hu : (A.deeper (envOfC "law" (defScope (top 34)) s.heap.objs.size (He.fAd K ("law", none)) cdv)).units + 1 < cLine := by have := hr.units; omega
  have hu64 := hr.units
  have hu65 : (A.deeper (envOfC "law" (defScope (top 34)) s.heap.objs.size (He.fAd K ("law", none)) cdv)).units + 65 < cLine := by have := hr.un; omega
  have nd : (["_law_script", "_law_draws_here", "_law_turn", "_law_thing", "_law_second", "_law_made_here", "_law_counts", "_law_some", "_law_k", "_law_pair"] : List Str).Nodup := by decide
  exact (b_cons (s_set (i := 1) nd rfl (.inl rfl) ⟨by decide, by intro p hp; cases hp⟩ (c_callF (ok__law_draws B) rfl (hr.mono (by decide)) rfl (g_law_draws B) tk (a_cons (pe_v (i := 0) rfl (vL rfl)) a_nil)))
  (b_cons (f_one hp rfl (g_name (i := 2) nd rfl (.inl rfl) ⟨by decide, by intro p hp; cases hp⟩) (fun hg => i_rng1 rfl (n_range B) (a_cons pe_i a_nil) hg)
  (b_cons (s_par (i := 3) (j := 4) rfl nd rfl rfl (by decide) rfl rfl ⟨by decide, by intro p hp; cases hp⟩ ⟨by decide, by intro p hp; cases hp⟩ (a_cons (c_callF (ok__law_value B) rfl (hr.mono (by decide)) rfl (g_law_value B) tk (a_cons (pe_v (i := 1) rfl (vL rfl)) a_nil)) (a_cons (c_callF (ok__law_value B) rfl (hr.mono (by decide)) rfl (g_law_value B) tk (a_cons (pe_v (i := 1) rfl (vL rfl)) a_nil)) a_nil)))
  (b_cons (ls_one (i := 5) (own := [(("_law_pair" : Str), 9)]) s rfl nd (blkOk_by (by kernel_rfl)) (by decide) (fun s H C cl fp => (g_name (i := 9) nd rfl (.inl rfl) ⟨by decide, by intro p hp; cases hp⟩)) (fun hg => i_seq rfl (c_callF (ok__law_made B) rfl (hr.mono (by decide)) rfl (g_law_made B) tk (a_cons (pe_v (i := 3) rfl (vL rfl)) (a_cons (pe_v (i := 4) rfl (vL rfl)) a_nil))) hg) (fun s H C cl fp => pts_yes) (fun s H C cl fp => (pe_ixD (d_ix rfl hu) (pe_v (i := 9) rfl (vL rfl)) pe_i (fun _ _ => rfl))))
  (b_cons (ls_one (i := 6) (own := [(("_law_pair" : Str), 9)]) s rfl nd (blkOk_by (by kernel_rfl)) (by decide) (fun s H C cl fp => (g_name (i := 9) nd rfl (.inl rfl) ⟨by decide, by intro p hp; cases hp⟩)) (fun hg => i_seq rfl (c_callF (ok__law_made B) rfl (hr.mono (by decide)) rfl (g_law_made B) tk (a_cons (pe_v (i := 3) rfl (vL rfl)) (a_cons (pe_v (i := 4) rfl (vL rfl)) a_nil))) hg) (fun s H C cl fp => pts_yes) (fun s H C cl fp => (e_blt (b_len rfl) rfl (n_len B) rfl (a_cons (pe_ixD (d_ix rfl hu) (pe_v (i := 9) rfl (vL rfl)) pe_i (fun _ _ => rfl)) a_nil))))
  (b_one (f_one hp rfl (g_name (i := 7) nd rfl (.inl rfl) ⟨by decide, by intro p hp; cases hp⟩) (fun hg => i_seq rfl (e_tup (a_cons (pe_v (i := 5) rfl (vL rfl)) (a_cons (c_callF (ok__law_named B) rfl (hr.mono (by decide)) rfl (g_law_named B) tk (a_cons (pe_v (i := 3) rfl (vL rfl)) (a_cons (pe_v (i := 4) rfl (vL rfl)) a_nil))) a_nil))) hg)
  (b_one (f_one hp rfl (g_name (i := 8) nd rfl (.inl rfl) ⟨by decide, by intro p hp; cases hp⟩) (fun hg => i_rng1 rfl (n_range B) (a_cons (e_blt (b_len rfl) rfl (n_len B) rfl (a_cons (pe_v (i := 7) rfl (vL rfl)) a_nil)) a_nil) hg)
  (b_cons (s_if (PW.pt (w_or (t_not (pt_of rfl (e_isV (kA_LateCopyError_ok B) rfl (n_isinstance B) (pe_ixD (d_ix rfl hu) (pe_v (i := 7) rfl (vL rfl)) (pe_v (i := 8) rfl (vL rfl)) (fun _ _ => rfl)) (pe_glob (v := .ref (He.ga K "LateCopyError")) rfl (g_LateCopyError B) rfl) (fun _ r => r)))) (w_or1 (t_not (pt_of rfl (e_isV (kA_ValueError_ok B) rfl (n_isinstance B) (pe_ixD (d_ix rfl hu) (pe_v (i := 7) rfl (vL rfl)) (pe_v (i := 8) rfl (vL rfl)) (fun _ _ => rfl)) (pe_bltn (v := .ty "ValueError") rfl (n_ValueError B) rfl rfl (by decide) (by decide)) (fun _ r => r))))))) (b_one (s_ret pe_b))
  b_nil)
  (b_cons (s_if (pt_cmpD (d_ne rfl hu64) (c_callF (ok__law_classes B) rfl (hr.mono (by decide)) rfl (g_law_classes B) tk (a_cons (pe_ixD (d_ix rfl hu) (pe_v (i := 7) rfl (vL rfl)) (pe_v (i := 8) rfl (vL rfl)) (fun _ _ => rfl)) a_nil)) (e_lst (a_cons (pe_v (i := 8) rfl (vL rfl)) a_nil)) rfl) (b_one (s_ret pe_b))
  b_nil)
  (b_one (s_if (t_not (pt_of rfl (c_callF (al_cy__law_same B 6) rfl (hr.mono (by decide)) rfl (g_law_same B) tk (a_cons (c_callF (ok__law_fields B) rfl (hr.mono (by decide)) rfl (g_law_fields B) tk (a_cons (pe_v (i := 8) rfl (vL rfl)) (a_cons (pe_ixD (d_ix rfl hu) (pe_v (i := 7) rfl (vL rfl)) (pe_v (i := 8) rfl (vL rfl)) (fun _ _ => rfl)) a_nil))) (a_cons (e_sl rfl (e_lst (a_cons (pe_v (i := 3) rfl (vL rfl)) (a_cons (pe_v (i := 4) rfl (vL rfl)) a_nil))) o_none (o_some (pe_ixD (d_ix rfl hu) (pe_v (i := 6) rfl (vL rfl)) (pe_v (i := 8) rfl (vL rfl)) (fun _ _ => rfl)))) a_nil))))) (b_one (s_ret pe_b))
  b_nil))))))))))))
  (b_one (s_ret (c_callF0 (ok__law_caught B) rfl (hr.mono (by decide)) rfl (g_law_caught B) tk)))))
end
end G90
set_option Elab.async false
set_option linter.all false
set_option maxRecDepth 100000
set_option maxHeartbeats 0
namespace G90
open PySem PySem.Spec PyProof.Rows L2 LcX Lc
abbrev Rw : PySem.W.OpenRow := PySem.W.OpenLaw.row PySem.Challenge.rw_latecopy_k90_error_classes
abbrev qv : Program := PySem.W.view Rw.prog [34]
abbrev hk : PySem.W.Hook := hookY 5 fa fn ts exB
def ob (s : PySem.W.SharedT) : He.AlX := obY 5 fa fn ts exB (HandSHeadRun.getT s)
theorem ob_eq (s : PySem.W.SharedT) : ob s = hk.obs s.abs := obY_eq (HandSHeadRun.getT_eq s)
def loose : List Str := ["LateCopyError", "ViewError", "AxisError", "LengthError", "PositionError", "OrderError", "BroadcastError", "StrideError", "IndexRangeError", "ShapeError", "BufferMissing", "CellError", "CountError", "NoSnapshot", "OperatorError", "FaultError", "StepError", "InputError", "ParseError", "SessionError", "_law_draws", "_law_mixed", "_law_take", "_law_number", "_law_same", "_law_value", "_law_made", "_law_named", "_law_classes", "_law_fields", "_law_field", "_law_caught"]
theorem runF (w : World) : HandSHeadRun.RunEq Rw qv hk ob 8000 loose (w.withFollow "special-get-raises" false) := by
  intro os
  kernel_rfl
theorem runT (w : World) : HandSHeadRun.RunEq Rw qv hk ob 8000 loose (w.withFollow "special-get-raises" true) := by
  intro os
  kernel_rfl
theorem run (w : World) : HandSHeadRun.RunEq Rw qv hk ob 8000 loose w := PySem.W.byRow2 "special-get-raises" runF runT w
end G90
set_option Elab.async false
set_option linter.all false
set_option maxRecDepth 100000
set_option maxHeartbeats 4000000
/-! Plain reasoning over mirrors: what is wanted behind a mirror's result. -/
namespace Lc
open PySem PySem.Spec PyProof.Rows L2 LcX
def wR {α : Type} (r : Ro α) (Q : α → Mem → Prop) (X : Xn → Mem → Prop) : Prop := match r with
  | .ok a m => Q a m
  | .ex x m => X x m
  | .no => False
structure Kon where
  nx : Env → Mem → Prop
  rt : R → Mem → Prop
  bk : Env → Mem → Prop
  ct : Env → Mem → Prop
  ex : Xn → Env → Mem → Prop
def wS (r : RS) (K : Kon) : Prop := match r with
  | .nx e m => K.nx e m
  | .rt r m => K.rt r m
  | .bk e m => K.bk e m
  | .ct e m => K.ct e m
  | .ex x e m => K.ex x e m
  | .no => False
theorem wR_congr {α : Type} {r r' : Ro α} {Q : α → Mem → Prop} {X : Xn → Mem → Prop} (h : r = r') : wR r Q X = wR r' Q X := by rw [h]
theorem wS_congr {r r' : RS} {K : Kon} (h : r = r') : wS r K = wS r' K := by rw [h]
section
variable {α β : Type} {Q : α → Mem → Prop} {X : Xn → Mem → Prop} {K : Kon} {env : Env} {M : Mem}
theorem w_ok (a : α) : wR (.ok a M) Q X = Q a M := rfl
theorem w_ex (x : Xn) : wR (.ex x M : Ro α) Q X = X x M := rfl
theorem w_no : wR (.no : Ro α) Q X = False := rfl
theorem w_ite {p : Prop} [Decidable p] (a : Ro α) : wR (if p then a else .no) Q X = (p ∧ wR a Q X) := by
  by_cases h : p
  · rw [if_pos h]
    simp [h]
  · rw [if_neg h]
    simp [h, w_no]
theorem w_bind (r : Ro β) (k : β → Mem → Ro α) : wR (r.bind k) Q X = wR r (fun a m => wR (k a m) Q X) X := by cases r <;> rfl
theorem wR.imp {r : Ro α} {Q' : α → Mem → Prop} {X' : Xn → Mem → Prop} (h : wR r Q X) (q : ∀ a m, Q a m → Q' a m) (x : ∀ y m, X y m → X' y m) : wR r Q' X' := by
  cases r with
  | ok a m => exact q _ _ h
  | ex y m => exact x _ _ h
  | no => exact h
theorem wR.mono {r : Ro α} {Q' : α → Mem → Prop} (h : wR r Q X) (q : ∀ a m, Q a m → Q' a m) : wR r Q' X := h.imp q fun _ _ z => z
theorem wS.imp {r : RS} {K' : Kon} (h : wS r K) (a : ∀ e m, K.nx e m → K'.nx e m) (b : ∀ e m, K.rt e m → K'.rt e m) (c : ∀ e m, K.bk e m → K'.bk e m) (d : ∀ e m, K.ct e m → K'.ct e m) (f : ∀ x e m, K.ex x e m → K'.ex x e m) : wS r K' := by
  cases r with
  | nx e m => exact a _ _ h
  | rt e m => exact b _ _ h
  | bk e m => exact c _ _ h
  | ct e m => exact d _ _ h
  | ex x e m => exact f _ _ _ h
  | no => exact h
theorem wR_eq {r : Ro α} {a : α} {m : Mem} (h : r = .ok a m) (q : Q a m) : wR r Q X := by rw [h]; exact q
theorem ok_of_wR {r : Ro α} (h : wR r Q (fun _ _ => False)) : ∃ a m, r = .ok a m ∧ Q a m := by
  cases r with
  | ok a m => exact ⟨a, m, rfl, h⟩
  | ex y m => exact h.elim
  | no => exact h.elim
theorem eq_of_wR {r : Ro α} {a : α} {m : Mem} (h : wR r (fun a' m' => a' = a ∧ m' = m) (fun _ _ => False)) : r = .ok a m := by
  cases r with
  | ok a' m' =>
    obtain ⟨rfl, rfl⟩ := h
    rfl
  | ex y m => exact h.elim
  | no => exact h.elim
/-! statements -/
theorem ws_seq (f g : S) : wS (sSeq f g env M) K = wS (f env M) { K with nx := fun e m => wS (g e m) K } := by
  show wS (match f env M with
    | .nx e m => g e m
    | r => r) K = _
  cases f env M <;> rfl
theorem ws_nx (e : Env) (m : Mem) : wS (.nx e m) K = K.nx e m := rfl
theorem ws_rt (e : R) (m : Mem) : wS (.rt e m) K = K.rt e m := rfl
theorem ws_ex (x : Xn) (e : Env) (m : Mem) : wS (.ex x e m) K = K.ex x e m := rfl
theorem ws_no : wS .no K = False := rfl
theorem ws_nil : wS (sNil env M) K = K.nx env M := rfl
theorem ws_lift (f : Env → Mem → Ro α) (k : α → S) : wS (sLift f k env M) K = wR (f env M) (fun a m => wS (k a env m) K) (fun x m => K.ex x env m) := by
  show wS (match f env M with
    | .ok a M1 => k a env M1
    | .ex x M1 => .ex x env M1
    | .no => .no) K = _
  cases f env M <;> rfl
theorem ws_drop (f : E) : wS (sDrop f env M) K = wR (f env M) (fun _ m => K.nx env m) (fun x m => K.ex x env m) := ws_lift _ _
theorem ws_ret (f : E) : wS (sRet f env M) K = wR (f env M) (fun r m => K.rt r m) (fun x m => K.ex x env m) := ws_lift _ _
theorem ws_retN : wS (sRetN env M) K = K.rt (.d .non) M := rfl
theorem ws_brk : wS (sBrk env M) K = K.bk env M := rfl
theorem ws_cont : wS (sCont env M) K = K.ct env M := rfl
theorem ws_ite (b : Bool) (f g : S) : wS ((if b then f else g) env M) K = (if b = true then wS (f env M) K else wS (g env M) K) := by cases b <;> rfl
theorem ws_if (c : B) (f g : S) : wS (sIf c f g env M) K = wR (c env M) (fun b m => if b = true then wS (f env m) K else wS (g env m) K) (fun x m => K.ex x env m) := by
  unfold sIf
  rw [ws_lift]
  congr 1
  funext b m
  exact ws_ite b f g
theorem ws_set (i : Nat) (f : E) : wS (sSet i f env M) K = wR (f env M) (fun r m => K.nx (env.set i (some r)) m) (fun x m => K.ex x env m) := ws_lift _ _
theorem ws_asg (f : E) (g : Tg) : wS (sAsg f g env M) K = wR (f env M) (fun r m => wS (g r env m) K) (fun x m => K.ex x env m) := ws_lift _ _
theorem ws_gset (i : Nat) (r : R) : wS (gSet i r env M) K = K.nx (env.set i (some r)) M := rfl
theorem ws_gnone : wS (gNone [] env M) K = K.nx env M := rfl
theorem ws_gmore (f : Tg) (g : List R → S) (r : R) (rs : List R) : wS (gMore f g (r :: rs) env M) K = wS (f r env M) { nx := fun e m => wS (g rs e m) K, rt := fun _ _ => False, bk := fun _ _ => False, ct := fun _ _ => False, ex := fun _ _ _ => False } := by
  show wS (match f r env M with
    | .nx e m => g rs e m
    | _ => .no) K = _
  cases f r env M <;> rfl
theorem ws_gtup (n : Nat) (f : List R → S) (r : R) : wS (gTupD n f r env M) K = wS (match vw M r with
  | .tup rs => if rs.length = n then f rs env M else .no
  | _ => .no) K := rfl
theorem ws_gstar (i : Nat) (cell : Bool) (f : List R → S) (r : R) : wS (gStarD i cell f r env M) K = wS (match vw M r with
  | .tup rs => if i ≤ rs.length then sLift (fun _ M => mk cell (.lst (rs.drop i)) M) (fun x => f (rs.take i ++ [x])) env M else .no
  | .lst rs => if i ≤ rs.length then sLift (fun _ M => mk cell (.lst (rs.drop i)) M) (fun x => f (rs.take i ++ [x])) env M else .no
  | _ => .no) K := rfl
theorem ws_gsub (fo fi : E) (r : R) : wS (gSubD fo fi r env M) K = wR (fo env M) (fun o m1 => wR (fi env m1) (fun i m2 => match oSet o i r m2 with
  | some M' => K.nx env M'
  | none => False) (fun x m => K.ex x env m)) (fun x m => K.ex x env m) := by
  unfold gSubD
  rw [ws_lift]
  congr 1
  funext o m
  rw [ws_lift]
  congr 1
  funext i m2
  cases oSet o i r m2 <;> rfl
theorem ws_par (i j : Nat) (fs : Es) : wS (sPar i j fs env M) K = wR (fs env M) (fun rs m => match two rs with
  | some (x, y) => K.nx ((env.set i (some x)).set j (some y)) m
  | none => False) (fun x m => K.ex x env m) := by
  unfold sPar
  rw [ws_lift]
  congr 1
  funext rs m
  cases two rs <;> rfl
theorem ws_aug (i : Nat) (g : R → R → Mem → Ro R) (f : E) : wS (sAug i g f env M) K = wR (eVar i env M) (fun x m1 => wR (f env m1) (fun y m2 => wR (g x y m2) (fun r m => K.nx (env.set i (some r)) m) (fun x m => K.ex x env m)) (fun x m => K.ex x env m)) (fun x m => K.ex x env m) := by
  unfold sAug
  rw [ws_lift]
  unfold eBin
  rw [w_bind]
  congr 1
  funext x m
  rw [w_bind]
  rfl
theorem ws_forI {src : Env → Mem → Ro (List α)} {tg : α → S} {body : S} : wS (sForI src tg body env M) K = wR (src env M) (fun as m => wS (sFor tg body as env m) K) (fun x m => K.ex x env m) := ws_lift _ _
theorem ws_for_nil {tg : α → S} {body : S} : wS (sFor tg body [] env M) K = K.nx env M := rfl
theorem ws_for_cons {tg : α → S} {body : S} {a : α} {as : List α} : wS (sFor tg body (a :: as) env M) K = wS (tg a env M) { nx := fun e m => wS (body e m) { nx := fun e m => wS (sFor tg body as e m) K, ct := fun e m => wS (sFor tg body as e m) K, bk := fun e m => K.nx e m, rt := K.rt, ex := K.ex }, rt := fun _ _ => False, bk := fun _ _ => False, ct := fun _ _ => False, ex := fun _ _ _ => False } := by
  show wS (match tg a env M with
    | .nx e m => match body e m with
      | .nx e m => sFor tg body as e m
      | .ct e m => sFor tg body as e m
      | .bk e m => .nx e m
      | .rt v m => .rt v m
      | .ex x e m => .ex x e m
      | .no => .no
    | _ => .no) K = _
  cases q : tg a env M with
  | nx e m =>
    show wS (match body e m with
      | .nx e m => sFor tg body as e m
      | .ct e m => sFor tg body as e m
      | .bk e m => .nx e m
      | .rt v m => .rt v m
      | .ex x e m => .ex x e m
      | .no => .no) K = wS (body e m) _
    cases body e m <;> rfl
  | _ => rfl
/-- a loop by what holds between two turns -/
theorem ws_for {tg : α → S} {body : S} (I : List α → Env → Mem → Prop) : ∀ {as : List α} {env : Env} {M : Mem}, I as env M → (∀ e m, I [] e m → K.nx e m) →
    (∀ a as e m, I (a :: as) e m → wS (tg a e m) { nx := fun e m => wS (body e m) { nx := I as, ct := I as, bk := K.nx, rt := K.rt, ex := K.ex }, rt := fun _ _ => False, bk := fun _ _ => False, ct := fun _ _ => False, ex := fun _ _ _ => False }) → wS (sFor tg body as env M) K
  | [], env, M, h, fin, _ => fin _ _ h
  | a :: as, env, M, h, fin, step => by
    rw [ws_for_cons]
    refine wS.imp (step a as env M h) (fun e m z => ?_) (fun _ _ z => z.elim) (fun _ _ z => z.elim) (fun _ _ z => z.elim) (fun _ _ _ z => z.elim)
    exact wS.imp z (fun e m z => ws_for I z fin step) (fun _ _ z => z) (fun _ _ z => z) (fun e m z => ws_for I z fin step) (fun _ _ _ z => z)
theorem ws_while (c : B) (body : S) (n : Nat) : wS (sWhile c body (n + 1) env M) K = wR (c env M) (fun b m => if b = true then wS (body env m) { nx := fun e m => wS (sWhile c body n e m) K, ct := fun e m => wS (sWhile c body n e m) K, bk := fun e m => K.nx e m, rt := K.rt, ex := K.ex } else K.nx env m) (fun x m => K.ex x env m) := by
  show wS (sLift c _ env M) K = _
  rw [ws_lift]
  congr 1
  funext b m
  cases b with
  | false => rfl
  | true =>
    show wS (match body env m with
      | .nx e m => sWhile c body n e m
      | .ct e m => sWhile c body n e m
      | .bk e m => .nx e m
      | .rt v m => .rt v m
      | .ex x e m => .ex x e m
      | .no => .no) K = wS (body env m) _
    cases body env m <;> rfl
theorem w_fn {Q : R → Mem → Prop} (N : Nat) (fb : S) (rs : List R) : wR (fnOf N fb rs M) Q X = wS (fb (rs.map some ++ List.replicate (N - rs.length) none) M) { nx := fun _ m => Q (.d .non) m, rt := Q, bk := fun _ _ => False, ct := fun _ _ => False, ex := fun x _ m => X x m } := by
  show wR (match fb (rs.map some ++ List.replicate (N - rs.length) none) M with
    | .nx _ M' => .ok (.d .non) M'
    | .rt r M' => .ok r M'
    | .ex x _ M' => .ex x M'
    | _ => .no) Q X = _
  cases fb (rs.map some ++ List.replicate (N - rs.length) none) M <;> rfl
/-! expressions -/
variable {Q : R → Mem → Prop} {Qs : List R → Mem → Prop} {Qb : Bool → Mem → Prop}
theorem w_lit (d : D) : wR (eLit d env M) Q X = Q (.d d) M := rfl
theorem w_var (i : Nat) : wR (eVar i env M) Q X = wR (match env[i]? with
  | some (some r) => .ok r M
  | _ => .no) Q X := rfl
theorem w_bin (g : R → R → Mem → Ro R) (f h : E) : wR (eBin g f h env M) Q X = wR (f env M) (fun x m => wR (h env m) (fun y m => wR (g x y m) Q X) X) X := by
  unfold eBin
  rw [w_bind]
  congr 1
  funext x m
  rw [w_bind]
theorem w_esNil : wR (esNil env M) Qs X = Qs [] M := rfl
theorem w_esCons (f : E) (g : Es) : wR (esCons f g env M) Qs X = wR (f env M) (fun x m => wR (g env m) (fun xs m => Qs (x :: xs) m) X) X := by
  unfold esCons
  rw [w_bind]
  congr 1
  funext x m
  rw [w_bind]
  rfl
theorem w_tup (fs : Es) : wR (eTup fs env M) Q X = wR (fs env M) (fun rs m => wR (if rs.length ≤ SL then mk false (.tup rs) m else .no) Q X) X := w_bind _ _
theorem w_lst (c : Bool) (fs : Es) : wR (eLst c fs env M) Q X = wR (fs env M) (fun rs m => wR (if rs.length ≤ SL then mk c (.lst rs) m else .no) Q X) X := w_bind _ _
theorem w_dct0 (c : Bool) : wR (eDct0 c env M) Q X = wR (mk c (.dct [] []) M) Q X := rfl
theorem w_blt (g : List R → Mem → Ro R) (fs : Es) : wR (eBlt g fs env M) Q X = wR (fs env M) (fun rs m => wR (g rs m) Q X) X := w_bind _ _
theorem w_bm (T : String) (g : List R → Mem → Ro R) (fo : E) (fs : Es) : wR (eBm T g fo fs env M) Q X = wR (fo env M) (fun o m => if isTy T m o = true then wR (fs env m) (fun rs m => wR (g (o :: rs) m) Q X) X else False) X := by
  unfold eBm
  rw [w_bind]
  congr 1
  funext o m
  split
  · rw [w_bind]
  · rfl
theorem w_eand (f g : E) : wR (eAnd f g env M) Q X = wR (f env M) (fun r m => wR (match asB m r with
  | some true => g env m
  | some false => .ok (.d (.bl false)) m
  | none => .no) Q X) X := w_bind _ _
theorem w_eor (f g : E) : wR (eOr f g env M) Q X = wR (f env M) (fun r m => wR (match asB m r with
  | some false => g env m
  | some true => .ok (.d (.bl true)) m
  | none => .no) Q X) X := w_bind _ _
theorem w_enot (f : E) : wR (eNot f env M) Q X = wR (f env M) (fun r m => wR (match asB m r with
  | some b => .ok (.d (.bl (!b))) m
  | none => .no) Q X) X := w_bind _ _
theorem w_if (c : B) (f g : E) : wR (eIf c f g env M) Q X = wR (c env M) (fun b m => if b = true then wR (f env m) Q X else wR (g env m) Q X) X := by
  unfold eIf
  rw [w_bind]
  congr 1
  funext b m
  split <;> rfl
theorem w_chain (g g' : R → R → Mem → Ro R) (fa fb fc : E) : wR (eChain g g' fa fb fc env M) Q X = wR (fa env M) (fun x m => wR (fb env m) (fun y m => wR (g x y m) (fun z m => wR (match asB m z with
    | some true => (fc env m).bind fun u m => g' y u m
    | some false => .ok (.d (.bl false)) m
    | none => .no) Q X) X) X) X := by
  unfold eChain
  rw [w_bind]
  congr 1
  funext x m
  rw [w_bind]
  congr 1
  funext y m
  exact w_bind _ _
theorem w_neg (f : E) : wR (eNeg f env M) Q X = wR (f env M) (fun r m => wR (match vw m r with
  | .int i => .ok (.d (.int (-i))) m
  | _ => .no) Q X) X := w_bind _ _
theorem w_isi (T : String) (f : E) : wR (eIsi T f env M) Q X = wR (f env M) (fun r m => wR (match tyName (vw m r) with
  | some n => match kitB n T with
    | some b => .ok (.d (.bl b)) m
    | none => .no
  | none => .no) Q X) X := w_bind _ _
theorem w_isi2 (A B : String) (f : E) : wR (eIsi2 A B f env M) Q X = wR (f env M) (fun r m => wR (match tyName (vw m r) with
  | some n => match kit2 n A B with
    | some b => .ok (.d (.bl b)) m
    | none => .no
  | none => .no) Q X) X := w_bind _ _
theorem w_sl (c : Bool) (f : E) (lo hi : Option E) : wR (eSl c f lo hi env M) Q X = wR (f env M) (fun x m => wR (ePart lo env m) (fun l m => wR (ePart hi env m) (fun h m => wR (oSl c x l h m) Q X) X) X) X := by
  unfold eSl
  rw [w_bind]
  congr 1
  funext x m
  rw [w_bind]
  congr 1
  funext y m
  rw [w_bind]
theorem w_pn {Q : Option Int → Mem → Prop} : wR (ePart none env M) Q X = Q none M := rfl
theorem w_ps {Q : Option Int → Mem → Prop} (f : E) : wR (ePart (some f) env M) Q X = wR (f env M) (fun r m => wR (match vw m r with
  | .int i => .ok (some i) m
  | _ => .no) Q X) X := w_bind _ _
theorem w_revL (c : Bool) (f : E) : wR (eRevL c f env M) Q X = wR (f env M) (fun r m => wR (match vw m r with
  | .lst rs => mk c (.lst rs.reverse) m
  | _ => .no) Q X) X := w_bind _ _
theorem w_get2 (fo fe ff : E) : wR (eGet2 fo fe ff env M) Q X = wR (fo env M) (fun d m => wR (match vw m d with
  | .dct _ _ => (fe env m).bind fun k M2 => (ff env M2).bind fun z M3 => match vw M3 d, dkey M3 k with
    | .dct ks rs, some kk => .ok ((dget ks rs kk).getD z) M3
    | _, _ => .no
  | _ => .no) Q X) X := w_bind _ _
theorem w_get1 (fo fe : E) : wR (eGet1 fo fe env M) Q X = wR (fo env M) (fun d m => wR (match vw m d with
  | .dct _ _ => (fe env m).bind fun k M2 => match vw M2 d, dkey M2 k with
    | .dct ks rs, some kk => .ok ((dget ks rs kk).getD (.d .non)) M2
    | _, _ => .no
  | _ => .no) Q X) X := w_bind _ _
theorem w_inT (neg : Bool) (kvs : List (T × D)) (f : E) : wR (eInT neg kvs f env M) Q X = wR (f env M) (fun r m => wR (match vw m r with
  | .str z => .ok (.d (.bl (if neg then !(lookT kvs z).isSome else (lookT kvs z).isSome))) m
  | _ => .no) Q X) X := w_bind _ _
theorem w_ixT (kvs : List (T × D)) (f : E) : wR (eIxT kvs f env M) Q X = wR (f env M) (fun r m => wR (match vw m r with
  | .str z => (match lookT kvs z with
    | some d => .ok (.d d) m
    | none => .no)
  | _ => .no) Q X) X := w_bind _ _
theorem w_getT (kvs : List (T × D)) (f g : E) : wR (eGetT kvs f g env M) Q X = wR (f env M) (fun r m => wR (g env m) (fun y m => wR (match vw m r with
  | .str z => .ok (match lookT kvs z with
    | some d => .d d
    | none => y) m
  | _ => .no) Q X) X) X := by
  unfold eGetT
  rw [w_bind]
  congr 1
  funext r m
  exact w_bind _ _
theorem w_fld (c j : Nat) (fo : E) : wR (eFld c j fo env M) Q X = wR (fo env M) (fun o m => wR (match vw m o with
  | .obj c' rs => if c' == c then Ro.of rs[j]? m else .no
  | _ => .no) Q X) X := w_bind _ _
theorem w_call (keep : Bool) (n : Nat) (m : Fn) (fs : Es) : wR (eCall keep n m fs [] env M) Q X = wR (fs env M) (fun rs M1 => if rs.length = n then wR (call keep m rs M1) Q X else False) X := by
  unfold eCall
  rw [w_bind]
  congr 1
  funext rs m
  simp only [List.map_nil, List.append_nil]
  split <;> rfl
theorem w_comp {src : Env → Mem → Ro (List α)} {tg : α → S} {tst : B} {elt : E} {vs : List Nat} {cell : Bool} : wR (eComp src tg tst elt vs cell env M) Q X = wR (src env M) (fun as m => wR (compL tg tst elt (wipeE env vs) as [] m) (fun rs m => wR (mk cell (.lst rs) m) Q X) X) X := by
  unfold eComp
  rw [w_bind]
  congr 1
  funext rs m
  rw [w_bind]
theorem w_compNil {tg : α → S} {tst : B} {elt : E} {acc : List R} : wR (compL tg tst elt env [] acc M) Qs X = Qs acc M := rfl
theorem w_compCons {tg : α → S} {tst : B} {elt : E} {a : α} {as : List α} {acc : List R} (h : wS (tg a env M) { nx := fun e m => wR (tst e m) (fun b m => if b = true then wR (elt e m) (fun r m => acc.length < SL ∧ wR (compL tg tst elt env as (acc ++ [r]) m) Qs X) (fun _ _ => False) else wR (compL tg tst elt env as acc m) Qs X) (fun _ _ => False), rt := fun _ _ => False, bk := fun _ _ => False, ct := fun _ _ => False, ex := fun _ _ _ => False }) :
    wR (compL tg tst elt env (a :: as) acc M) Qs X := by
  show wR (match tg a env M with
    | .nx e m => match tst e m with
      | .ok true m2 => match elt e m2 with
        | .ok r m3 => if acc.length < SL then compL tg tst elt env as (acc ++ [r]) m3 else .no
        | _ => .no
      | .ok false m2 => compL tg tst elt env as acc m2
      | _ => .no
    | _ => .no) Qs X
  cases q : tg a env M with
  | nx e m =>
    rw [q] at h
    replace h : wR (tst e m) _ _ := h
    dsimp only
    cases q2 : tst e m with
    | ok b m2 =>
      rw [q2] at h
      replace h : if b = true then _ else _ := h
      cases b with
      | true =>
        rw [if_pos rfl] at h
        dsimp only
        cases q3 : elt e m2 with
        | ok r m3 =>
          rw [q3] at h
          obtain ⟨h1, h2⟩ := h
          dsimp only
          rw [if_pos h1]
          exact h2
        | ex _ _ => rw [q3] at h; exact h.elim
        | no => rw [q3] at h; exact h.elim
      | false =>
        rw [if_neg Bool.false_ne_true] at h
        exact h
    | ex _ _ => rw [q2] at h; exact h.elim
    | no => rw [q2] at h; exact h.elim
  | _ => rw [q] at h; exact h.elim
/-- a comprehension by what holds between two turns -/
theorem w_compI {tg : α → S} {tst : B} {elt : E} (I : List α → List R → Mem → Prop) : ∀ {as : List α} {acc : List R} {M : Mem}, I as acc M → (∀ acc m, I [] acc m → Qs acc m) →
    (∀ a as acc m, I (a :: as) acc m → wS (tg a env m) { nx := fun e m => wR (tst e m) (fun b m => if b = true then wR (elt e m) (fun r m => acc.length < SL ∧ I as (acc ++ [r]) m) (fun _ _ => False) else I as acc m) (fun _ _ => False), rt := fun _ _ => False, bk := fun _ _ => False, ct := fun _ _ => False, ex := fun _ _ _ => False }) → wR (compL tg tst elt env as acc M) Qs X
  | [], acc, M, h, fin, _ => fin _ _ h
  | a :: as, acc, M, h, fin, step => by
    refine w_compCons (wS.imp (step a as acc M h) (fun e m z => ?_) (fun _ _ z => z) (fun _ _ z => z) (fun _ _ z => z) (fun _ _ _ z => z))
    refine wR.mono z fun b m z => ?_
    cases b with
    | true =>
      rw [if_pos rfl] at z ⊢
      exact wR.mono z fun r m z => ⟨z.1, w_compI I z.2 fin step⟩
    | false =>
      rw [if_neg Bool.false_ne_true] at z ⊢
      exact w_compI I z fin step
theorem w_yes : wR (bYes env M) Qb X = Qb true M := rfl
theorem w_bcmp (f : E) : wR (bCmp f env M) Qb X = wR (f env M) (fun r m => wR (match vw m r with
  | .bl b => .ok b m
  | _ => .no) Qb X) X := w_bind _ _
theorem w_bof (f : E) : wR (bOf f env M) Qb X = wR (f env M) (fun r m => wR (Ro.of (tru (vw m r)) m) Qb X) X := w_bind _ _
theorem w_band (f g : B) : wR (bAnd f g env M) Qb X = wR (f env M) (fun b m => if b = true then wR (g env m) Qb X else Qb false m) X := by
  unfold bAnd
  rw [w_bind]
  congr 1
  funext b m
  split <;> rfl
theorem w_bor (f g : B) : wR (bOr f g env M) Qb X = wR (f env M) (fun b m => if b = true then Qb true m else wR (g env m) Qb X) X := by
  unfold bOr
  rw [w_bind]
  congr 1
  funext b m
  split <;> rfl
theorem w_bnot (f : B) : wR (bNot f env M) Qb X = wR (f env M) (fun b m => Qb (!b) m) X := w_bind _ _
theorem w_of (o : Option α) {Q : α → Mem → Prop} : wR (Ro.of o M) Q X = match o with
  | some a => Q a M
  | none => False := by cases o <;> rfl
theorem w_srcOf (fs : Es) (k : List R → Mem → Ro (List α)) {Q : List α → Mem → Prop} : wR (srcOf fs k env M) Q X = wR (fs env M) (fun rs m => wR (k rs m) Q X) X := w_bind _ _
theorem w_srcSeq (f : E) : wR (srcSeq f env M) Qs X = wR (f env M) (fun r m => wR (seqR r m) Qs X) X := w_bind _ _
theorem w_srcRev (f : E) : wR (srcRev f env M) Qs X = wR (f env M) (fun r m => wR (match r with
  | .d (.tup ds) => .ok (ds.reverse.map .d) m
  | r => (lstR' r m).bind fun ds M2 => .ok (ds.reverse.map .d) M2) Qs X) X := w_bind _ _
theorem w_wif {p : Prop} [Decidable p] {a b : Ro α} {Q : α → Mem → Prop} : wR (if p then a else b) Q X = if p then wR a Q X else wR b Q X := by split <;> rfl
/-! what one sees -/
theorem vw_non : vw M (.d .non) = .non := rfl
theorem vw_bl (b : Bool) : vw M (.d (.bl b)) = .bl b := rfl
theorem vw_int (i : Int) : vw M (.d (.int i)) = .int i := rfl
theorem vw_str (s : T) : vw M (.d (.str s)) = .str s := rfl
theorem vw_lst (ds : List D) : vw M (.d (.lst ds)) = .lst (ds.map .d) := rfl
theorem vw_tup (ds : List D) : vw M (.d (.tup ds)) = .tup (ds.map .d) := rfl
theorem vw_dct (ks vs : List D) : vw M (.d (.dct ks vs)) = .dct ks (vs.map .d) := rfl
theorem vw_obj (c : Nat) (ds : List D) : vw M (.d (.obj c ds)) = .obj c (ds.map .d) := rfl
theorem vw_ref (i : Nat) : vw M (.ref i) = match M[i]? with
  | some c => vwC c
  | none => .no := rfl
theorem vwC_lst (rs : List R) : vwC (.lst rs) = .lst rs := rfl
theorem vwC_tup (rs : List R) : vwC (.tup rs) = .tup rs := rfl
theorem vwC_dct (ks : List D) (rs : List R) : vwC (.dct ks rs) = .dct ks rs := rfl
theorem vwC_obj (c : Nat) (rs : List R) : vwC (.obj c rs) = .obj c rs := rfl
theorem vwC_frz (d : D) : vwC (.frz d) = vwD d := rfl
/-! operators -/
theorem w_oi (p : Int → Int → Bool) (g : Int → Int → D) (i j : Int) : wR (gI p g (.d (.int i)) (.d (.int j)) M) Q X = (p i j = true ∧ Q (.d (g i j)) M) := by
  show wR (if p i j = true then Ro.ok (R.d (g i j)) M else .no) Q X = _
  cases p i j with
  | true => simp [w_ok]
  | false => simp [w_no]
theorem w_sub (i j : Int) : wR (oSub (.d (.int i)) (.d (.int j)) M) Q X = Q (.d (.int (i - j))) M := by unfold oSub; rw [w_oi]; simp
theorem w_mod (i j : Int) : wR (oMod (.d (.int i)) (.d (.int j)) M) Q X = (j ≠ 0 ∧ Q (.d (.int (i.fmod j))) M) := by unfold oMod; rw [w_oi]; simp
theorem w_div (i j : Int) : wR (oDiv (.d (.int i)) (.d (.int j)) M) Q X = (divOk i j = true ∧ Q (.d (.int (i.fdiv j))) M) := by unfold oDiv; rw [w_oi]
theorem w_pow (i j : Int) : wR (oPow (.d (.int i)) (.d (.int j)) M) Q X = ((0 ≤ j ∧ j ≤ 1000000 ∧ i.natAbs < 2 ^ 64) ∧ Q (.d (.int (i ^ j.toNat))) M) := by unfold oPow; rw [w_oi]; simp [and_assoc]
theorem w_lt (i j : Int) : wR (oLt (.d (.int i)) (.d (.int j)) M) Q X = Q (.d (.bl (decide (i < j)))) M := by unfold oLt; rw [w_oi]; simp
theorem w_le (i j : Int) : wR (oLe (.d (.int i)) (.d (.int j)) M) Q X = Q (.d (.bl (decide (i ≤ j)))) M := by unfold oLe; rw [w_oi]; simp
theorem w_gt (i j : Int) : wR (oGt (.d (.int i)) (.d (.int j)) M) Q X = Q (.d (.bl (decide (j < i)))) M := by unfold oGt; rw [w_oi]; simp
theorem w_ge (i j : Int) : wR (oGe (.d (.int i)) (.d (.int j)) M) Q X = Q (.d (.bl (decide (j ≤ i)))) M := by unfold oGe; rw [w_oi]; simp
theorem w_addL (c : Bool) (a b : List D) : wR (oAdd c (.d (.lst a)) (.d (.lst b)) M) Q X = (a.length + b.length ≤ SL ∧ wR (mk c (.lst ((a ++ b).map .d)) M) Q X) := by
  show wR (if (a.map R.d).length + (b.map R.d).length ≤ SL then mk c (.lst (a.map .d ++ b.map .d)) M else .no) Q X = _
  rw [List.length_map, List.length_map, ← List.map_append, w_ite]
theorem w_addS (c : Bool) (a b : T) : wR (oAdd c (.d (.str a)) (.d (.str b)) M) Q X = (a.length + b.length ≤ SL ∧ Q (.d (.str (a ++ b))) M) := by
  show wR (if a.length + b.length ≤ SL then Ro.ok (R.d (.str (a ++ b))) M else .no) Q X = _
  rw [w_ite]
  rfl
theorem w_addT (c : Bool) (a b : List D) : wR (oAdd c (.d (.tup a)) (.d (.tup b)) M) Q X = (a.length + b.length ≤ SL ∧ Q (.d (.tup (a ++ b))) M) := by
  show wR (if (a.map R.d).length + (b.map R.d).length ≤ SL then (if (a.map R.d).isEmpty then .ok (R.d (.tup b)) M else if (b.map R.d).isEmpty then .ok (.d (.tup a)) M else mk false (.tup (a.map .d ++ b.map .d)) M) else .no) Q X = _
  rw [List.length_map, List.length_map]
  by_cases h : a.length + b.length ≤ SL
  · rw [if_pos h]
    cases a with
    | nil =>
      simp only [h, true_and]
      rfl
    | cons x a =>
      cases b with
      | nil =>
        simp only [h, true_and, List.append_nil]
        rfl
      | cons y b =>
        have e : (List.map R.d (x :: a) ++ List.map R.d (y :: b)) = ((x :: a) ++ (y :: b)).map R.d := by simp
        rw [e, mk_tup]
        simp only [List.map_cons, List.isEmpty_cons, Bool.false_eq_true, if_false, w_ok, h, true_and]
  · rw [if_neg h]
    simp [h, w_no]
theorem w_addR (c : Bool) (i : Nat) (y : R) : wR (oAdd c (.ref i) y M) Q X = wR (match vw M (.ref i), vw M y with
  | .int i, .int j => .ok (.d (.int (i + j))) M
  | .str a, .str b => if a.length + b.length ≤ SL then .ok (.d (.str (a ++ b))) M else .no
  | .lst a, .lst b => if a.length + b.length ≤ SL then mk c (.lst (a ++ b)) M else .no
  | .tup a, .tup b => if a.length + b.length ≤ SL then (if a.isEmpty then .ok y M else if b.isEmpty then .ok (.ref i) M else mk false (.tup (a ++ b)) M) else .no
  | _, _ => .no) Q X := rfl
theorem w_mulL (c : Bool) (a : List D) (k : Int) : wR (oMul c (.d (.lst a)) (.d (.int k)) M) Q X = ((k ≤ 16777216 ∧ a.length * k.toNat ≤ SL ∧ -16777216 ≤ k) ∧ wR (mk c (.lst (List.replicate k.toNat (a.map .d)).flatten) M) Q X) := by
  show wR (if k ≤ 16777216 && (a.map R.d).length * k.toNat ≤ SL && -16777216 ≤ k then mk c (.lst (List.replicate k.toNat (a.map .d)).flatten) M else .no) Q X = _
  rw [List.length_map, w_ite]
  simp [and_assoc]
theorem w_addI (c : Bool) (i j : Int) : wR (oAdd c (.d (.int i)) (.d (.int j)) M) Q X = Q (.d (.int (i + j))) M := rfl
theorem w_mulI (c : Bool) (i j : Int) : wR (oMul c (.d (.int i)) (.d (.int j)) M) Q X = (mulOk i j = true ∧ Q (.d (.int (i * j))) M) := by
  show wR (if mulOk i j = true then Ro.ok (R.d (D.int (i * j))) M else .no) Q X = _
  cases mulOk i j with
  | true => simp [w_ok]
  | false => simp [w_no]
theorem w_eqs (neg : Bool) (x y : R) (a b : D) (ha : pv M x = some a) (hb : pv M y = some b) (h : (plain a && plain b && decide (dep a ≤ 64) && decide (dep b ≤ 64)) = true) : wR (oEqW neg x y M) Q X = Q (.d (.bl (if neg then !eqD a b else eqD a b))) M := by
  unfold oEqW
  rw [ha, hb]
  dsimp only
  rw [if_pos h]
  rfl
theorem w_eqw (neg : Bool) (x y : R) : wR (oEqW neg x y M) Q X = wR (match pv M x, pv M y with
  | some a, some b => if plain a && plain b && decide (dep a ≤ 64) && decide (dep b ≤ 64) then .ok (.d (.bl (if neg then !eqD a b else eqD a b))) M else .no
  | _, _ => .no) Q X := rfl
theorem w_eqD (a b : D) : wR (oEq (.d a) (.d b) M) Q X = ((plain a && plain b && decide (dep a ≤ 64) && decide (dep b ≤ 64)) = true ∧ Q (.d (.bl (eqD a b))) M) := by
  show wR (if plain a && plain b && decide (dep a ≤ 64) && decide (dep b ≤ 64) then .ok (.d (.bl (eqD a b))) M else .no) Q X = _
  rw [w_ite]
  rfl
theorem w_neD (a b : D) : wR (oNe (.d a) (.d b) M) Q X = ((plain a && plain b && decide (dep a ≤ 64) && decide (dep b ≤ 64)) = true ∧ Q (.d (.bl (!eqD a b))) M) := by
  show wR (if plain a && plain b && decide (dep a ≤ 64) && decide (dep b ≤ 64) then .ok (.d (.bl (!eqD a b))) M else .no) Q X = _
  rw [w_ite]
  rfl
theorem w_eqBB (a b : Bool) : wR (oEq (.d (.bl a)) (.d (.bl b)) M) Q X = Q (.d (.bl (a == b))) M := by
  rw [w_eqD]
  simp [plain, dep, eqD]
theorem w_neBB (a b : Bool) : wR (oNe (.d (.bl a)) (.d (.bl b)) M) Q X = Q (.d (.bl (!(a == b)))) M := by
  rw [w_neD]
  simp [plain, dep, eqD]
theorem w_eqLL (a b : List D) : wR (oEq (.d (.lst a)) (.d (.lst b)) M) Q X = ((plains a && plains b && decide (deps a + 1 ≤ 64) && decide (deps b + 1 ≤ 64)) = true ∧ Q (.d (.bl (eqDs a b))) M) := by
  rw [w_eqD]
  simp [plain, dep, eqD]
theorem w_neLL (a b : List D) : wR (oNe (.d (.lst a)) (.d (.lst b)) M) Q X = ((plains a && plains b && decide (deps a + 1 ≤ 64) && decide (deps b + 1 ≤ 64)) = true ∧ Q (.d (.bl (!eqDs a b))) M) := by
  rw [w_neD]
  simp [plain, dep, eqD]
theorem w_eqTT (a b : List D) : wR (oEq (.d (.tup a)) (.d (.tup b)) M) Q X = ((plains a && plains b && decide (deps a + 1 ≤ 64) && decide (deps b + 1 ≤ 64)) = true ∧ Q (.d (.bl (eqDs a b))) M) := by
  rw [w_eqD]
  simp [plain, dep, eqD]
theorem w_neTT (a b : List D) : wR (oNe (.d (.tup a)) (.d (.tup b)) M) Q X = ((plains a && plains b && decide (deps a + 1 ≤ 64) && decide (deps b + 1 ≤ 64)) = true ∧ Q (.d (.bl (!eqDs a b))) M) := by
  rw [w_neD]
  simp [plain, dep, eqD]
theorem w_eqR (i : Nat) (y : R) : wR (oEq (.ref i) y M) Q X = wR (match pv M (.ref i), pv M y with
  | some a, some b => if plain a && plain b && decide (dep a ≤ 64) && decide (dep b ≤ 64) then .ok (.d (.bl (eqD a b))) M else .no
  | _, _ => .no) Q X := rfl
theorem w_neR (i : Nat) (y : R) : wR (oNe (.ref i) y M) Q X = wR (match pv M (.ref i), pv M y with
  | some a, some b => if plain a && plain b && decide (dep a ≤ 64) && decide (dep b ≤ 64) then .ok (.d (.bl (!eqD a b))) M else .no
  | _, _ => .no) Q X := rfl
theorem w_eq (x y : R) : wR (oEq x y M) Q X = wR (oEqW false x y M) Q X := rfl
theorem w_ne (x y : R) : wR (oNe x y M) Q X = wR (oEqW true x y M) Q X := rfl
theorem w_eqI (i j : Int) : wR (oEq (.d (.int i)) (.d (.int j)) M) Q X = Q (.d (.bl (decide (i = j)))) M := by
  have e : (i == j) = decide (i = j) := rfl
  simp [w_eq, w_eqw, plain, dep, eqD, w_ok, e]
theorem w_neI (i j : Int) : wR (oNe (.d (.int i)) (.d (.int j)) M) Q X = Q (.d (.bl (!decide (i = j)))) M := by
  have e : (i == j) = decide (i = j) := rfl
  simp [w_ne, w_eqw, plain, dep, eqD, w_ok, e]
theorem w_eqS (s t : T) : wR (oEq (.d (.str s)) (.d (.str t)) M) Q X = Q (.d (.bl (s == t))) M := by
  simp [w_eq, w_eqw, plain, dep, eqD, w_ok]
theorem w_neS (s t : T) : wR (oNe (.d (.str s)) (.d (.str t)) M) Q X = Q (.d (.bl (!(s == t)))) M := by
  simp [w_ne, w_eqw, plain, dep, eqD, w_ok]
theorem w_isNon (x : R) : wR (oIs x (.d .non) M) Q X = wR (match isNon M x with
  | some b => .ok (.d (.bl b)) M
  | none => .no) Q X := rfl
theorem w_isNotNon (x : R) : wR (oIsNot x (.d .non) M) Q X = wR (match isNon M x with
  | some b => .ok (.d (.bl (!b))) M
  | none => .no) Q X := rfl
theorem w_isB (x y : R) : wR (oIsB x y M) Q X = wR (match vw M x, vw M y with
  | .bl a, .bl b => .ok (.d (.bl (decide (a = b)))) M
  | _, _ => .no) Q X := rfl
theorem w_ixL (ds : List D) (i : Int) : wR (oIx (.d (.lst ds)) (.d (.int i)) M) Q X = wR (Ro.of (atI (ds.map R.d) i) M) Q X := rfl
theorem w_ixT2 (ds : List D) (i : Int) : wR (oIx (.d (.tup ds)) (.d (.int i)) M) Q X = wR (Ro.of (atI (ds.map R.d) i) M) Q X := rfl
theorem w_ixR (k : Nat) (i : Int) : wR (oIx (.ref k) (.d (.int i)) M) Q X = wR (match vw M (.ref k) with
  | .lst rs => Ro.of (atI rs i) M
  | .tup rs => Ro.of (atI rs i) M
  | _ => oIx (.ref k) (.d (.int i)) M) Q X := by
  cases q : vw M (.ref k) <;> simp only [oIx, q] <;> rfl
theorem w_oSl (c : Bool) (x : R) (lo hi : Option Int) : wR (oSl c x lo hi M) Q X = wR (match vw M x with
  | .lst rs => mk c (.lst (cut rs lo hi)) M
  | .tup rs => if HT.sIx rs.length 0 lo == 0 && HT.sIx rs.length rs.length hi == rs.length then .ok x M else mk false (.tup (cut rs lo hi)) M
  | .str s => .ok (.d (.str (cut s lo hi))) M
  | _ => .no) Q X := rfl
theorem w_mkT (c : Cell) : wR (mk true c M) Q X = Q (.ref M.length) (M ++ [c]) := rfl
theorem w_mkF (c : Cell) : wR (mk false c M) Q X = match pureC c with
  | some d => Q (.d d) M
  | none => Q (.ref M.length) (M ++ [c]) := by
  unfold mk
  rw [if_neg Bool.false_ne_true]
  cases pureC c <;> rfl
theorem pv_ref (i : Nat) : pv M (.ref i) = match M[i]? with
  | some c => pureC c
  | none => none := rfl
theorem pureC_lst (rs : List R) : pureC (.lst rs) = (pureRs rs).map .lst := rfl
theorem pureC_tup (rs : List R) : pureC (.tup rs) = (pureRs rs).map .tup := rfl
theorem pureC_dct (ks : List D) (rs : List R) : pureC (.dct ks rs) = (pureRs rs).map (.dct ks) := rfl
theorem pureC_obj (c : Nat) (rs : List R) : pureC (.obj c rs) = (pureRs rs).map (.obj c) := rfl
theorem pureC_frz (d : D) : pureC (.frz d) = some d := rfl
theorem atI_k {α : Type} (xs : List α) {i : Int} (h : 0 ≤ i) : atI xs i = xs[i.toNat]? := by
  unfold atI ixN
  rw [if_pos h]
  by_cases h2 : i < xs.length
  · rw [if_pos h2]
    rfl
  · rw [if_neg h2]
    have : xs[i.toNat]? = none := List.getElem?_eq_none (by omega)
    rw [this]
    rfl
end
theorem two_eq2 (x y : R) : two [x, y] = some (x, y) := rfl
theorem one_eq1 (x : R) : one [x] = some x := rfl
/-! more shapes -/
section
variable {Q : R → Mem → Prop} {Qs : List R → Mem → Prop} {X : Xn → Mem → Prop} {M : Mem}
theorem atI_lit {α : Type} (xs : List α) (n : Nat) : atI xs (no_index (@OfNat.ofNat Int n (@instOfNat n))) = xs[n]? := by
  rw [atI_k xs (by show (0 : Int) ≤ (n : Int); omega)]
  rfl
theorem ixN_lit (l n : Nat) : ixN l (no_index (@OfNat.ofNat Int n (@instOfNat n))) = if n < l then some n else none := by
  show ixN l (n : Int) = _
  unfold ixN
  rw [if_pos (by omega)]
  by_cases h : n < l
  · rw [if_pos h, if_pos (by omega)]
    rfl
  · rw [if_neg h, if_neg (by omega)]
theorem cellL_ref (n : Nat) : cellL M (.ref n) = match M[n]? with
  | some (.lst rs) => some (n, rs)
  | _ => none := rfl
def oSetX := oSet
theorem oSet_ref (n : Nat) (k : Int) (v : R) : oSet (.ref n) (.d (.int k)) v M = match M[n]? with
  | some (.lst rs) => (match ixN rs.length k with
    | some j => some (M.set n (.lst (rs.set j v)))
    | none => none)
  | _ => oSetX (.ref n) (.d (.int k)) v M := by
  unfold oSetX
  cases q : M[n]? with
  | none => rfl
  | some c =>
    cases c with
    | lst rs =>
      unfold oSet
      have e : cellL M (.ref n) = some (n, rs) := by
        show (match M[n]? with
          | some (.lst rs) => some (n, rs)
          | _ => none) = _
        rw [q]
      rw [e]
      rfl
    | _ => rfl
theorem w_popAt0 (n : Nat) : wR (mPopAt [.ref n, .d (.int 0)] M) Q X = match M[n]? with
  | some (.lst (r :: rs)) => Q r (M.set n (.lst rs))
  | _ => False := by
  show wR (match cellL M (.ref n), Vw.int 0 with
    | some (i, rs), .int j => if rgOk j then match seqIndex? j rs.length with
      | some k => match rs[k]? with
        | some r => .ok r (M.set i (.lst (rs.eraseIdx k)))
        | none => .no
      | none => .no
      else .no
    | _, _ => .no) Q X = _
  rw [cellL_ref]
  cases q : M[n]? with
  | none => rfl
  | some c =>
    cases c with
    | lst rs =>
      cases rs with
      | nil => rfl
      | cons r rs =>
        have e : seqIndex? 0 (r :: rs).length = some 0 := by simp [seqIndex?]
        show wR (if rgOk 0 = true then (match seqIndex? 0 (r :: rs).length with
          | some k => match (r :: rs)[k]? with
            | some r' => .ok r' (M.set n (.lst ((r :: rs).eraseIdx k)))
            | none => .no
          | none => .no) else .no) Q X = _
        rw [e, if_pos (by decide)]
        rfl
    | _ => rfl
theorem w_append (n : Nat) (x : R) : wR (mAppend [.ref n, x] M) Q X = match M[n]? with
  | some (.lst rs) => rs.length < SL ∧ Q (.d .non) (M.set n (.lst (rs ++ [x])))
  | _ => False := by
  show wR (match cellL M (.ref n) with
    | some (i, rs) => if rs.length < SL then .ok (.d .non) (M.set i (.lst (rs ++ [x]))) else .no
    | none => .no) Q X = _
  rw [cellL_ref]
  cases q : M[n]? with
  | none => rfl
  | some c =>
    cases c with
    | lst rs =>
      dsimp only
      rw [w_ite]
      rfl
    | _ => rfl
theorem w_pop (n : Nat) : wR (mPop [.ref n] M) Q X = match M[n]? with
  | some (.lst rs) => (match rs[rs.length - 1]? with
    | some r => Q r (M.set n (.lst rs.dropLast))
    | none => False)
  | _ => False := by
  show wR (match cellL M (.ref n) with
    | some (i, rs) => match rs[rs.length - 1]? with
      | some r => .ok r (M.set i (.lst rs.dropLast))
      | none => .no
    | none => .no) Q X = _
  rw [cellL_ref]
  cases q : M[n]? with
  | none => rfl
  | some c =>
    cases c with
    | lst rs =>
      dsimp only
      cases rs[rs.length - 1]? <;> rfl
    | _ => rfl
theorem w_lenL (ds : List D) : wR (bLen [.d (.lst ds)] M) Q X = Q (.d (.int ds.length)) M := by
  show Q (.d (.int (ds.map R.d).length)) M = _
  rw [List.length_map]
theorem w_lenT (ds : List D) : wR (bLen [.d (.tup ds)] M) Q X = Q (.d (.int ds.length)) M := by
  show Q (.d (.int (ds.map R.d).length)) M = _
  rw [List.length_map]
theorem w_lenS (s : T) : wR (bLen [.d (.str s)] M) Q X = Q (.d (.int s.length)) M := rfl
theorem w_lenD (ks vs : List D) : wR (bLen [.d (.dct ks vs)] M) Q X = Q (.d (.int ks.length)) M := rfl
theorem w_lenR (n : Nat) : wR (bLen [.ref n] M) Q X = match vw M (.ref n) with
  | .lst rs => Q (.d (.int rs.length)) M
  | .tup rs => Q (.d (.int rs.length)) M
  | .str s => Q (.d (.int s.length)) M
  | .dct ks _ => Q (.d (.int ks.length)) M
  | _ => False := by
  show wR (match vw M (.ref n) with
    | .lst rs => .ok (.d (.int rs.length)) M
    | .tup rs => .ok (.d (.int rs.length)) M
    | .str s => .ok (.d (.int s.length)) M
    | .dct ks _ => .ok (.d (.int ks.length)) M
    | _ => .no) Q X = _
  cases vw M (.ref n) <;> rfl
theorem w_tupleL (ds : List D) : wR (bTuple [.d (.lst ds)] M) Q X = Q (.d (.tup ds)) M := by
  show wR (mk false (.tup (ds.map .d)) M) Q X = _
  rw [mk_tup]
  rfl
theorem w_tupleT (ds : List D) : wR (bTuple [.d (.tup ds)] M) Q X = Q (.d (.tup ds)) M := rfl
theorem w_listL (c : Bool) (ds : List D) : wR (bList c [.d (.lst ds)] M) Q X = wR (mk c (.lst (ds.map .d)) M) Q X := rfl
theorem w_listT (c : Bool) (ds : List D) : wR (bList c [.d (.tup ds)] M) Q X = wR (mk c (.lst (ds.map .d)) M) Q X := rfl
theorem w_min (i j : Int) : wR (bMin [.d (.int i), .d (.int j)] M) Q X = Q (.d (.int (if j < i then j else i))) M := rfl
theorem w_max (i j : Int) : wR (bMax [.d (.int i), .d (.int j)] M) Q X = Q (.d (.int (if j > i then j else i))) M := rfl
theorem w_intI (i : Int) : wR (bInt [.d (.int i)] M) Q X = Q (.d (.int i)) M := rfl
theorem w_intB (b : Bool) : wR (bInt [.d (.bl b)] M) Q X = Q (.d (.int (if b then 1 else 0))) M := rfl
theorem w_abs (i : Int) : wR (bAbs [.d (.int i)] M) Q X = Q (.d (.int (if i < 0 then -i else i))) M := rfl
theorem w_seqL (ds : List D) : wR (seqR (.d (.lst ds)) M) Qs X = Qs (ds.map .d) M := rfl
theorem w_seqT (ds : List D) : wR (seqR (.d (.tup ds)) M) Qs X = Qs (ds.map .d) M := rfl
theorem w_seqS (s : T) : wR (seqR (.d (.str s)) M) Qs X = Qs (s.map fun c => .d (.str [c])) M := by
  show Qs ((s.map fun c => D.str [c]).map .d) M = _
  rw [List.map_map]
  rfl
theorem w_kR1 (j : Int) : wR (kR1 [.d (.int j)] M) Qs X = (rgOk j = true ∧ Qs (rngL 0 j.toNat) M) := by
  show wR (if rgOk j = true then .ok (rngL 0 j.toNat) M else .no) Qs X = _
  rw [w_ite]
  rfl
theorem w_kR2 (i j : Int) : wR (kR2 [.d (.int i), .d (.int j)] M) Qs X = ((rgOk i && rgOk j) = true ∧ Qs (rngL i (j - i).toNat) M) := by
  show wR (if (rgOk i && rgOk j) = true then .ok (rngL i (j - i).toNat) M else .no) Qs X = _
  rw [w_ite]
  rfl
theorem w_kEnumL {Qs : List (List R) → Mem → Prop} (ds : List D) : wR (kEnum [.d (.lst ds)] M) Qs X = Qs (enumL ds) M := rfl
theorem w_kZipT {Qs : List (List R) → Mem → Prop} (as bs : List D) : wR (kZip [.d (.tup as), .d (.tup bs)] M) Qs X = Qs (zipL as bs) M := rfl
theorem w_kZipL {Qs : List (List R) → Mem → Prop} (as bs : List D) : wR (kZip [.d (.lst as), .d (.lst bs)] M) Qs X = Qs (zipL as bs) M := rfl
theorem blsR_bl (bs : List Bool) : blsR ((bs.map .bl).map R.d) = some bs := by
  rw [List.map_map]
  exact blsR_map bs
theorem w_all (bs : List Bool) : wR (bAll [.d (.lst (bs.map .bl))] M) Q X = Q (.d (.bl (bs.all id))) M := by
  show wR (match blsR ((bs.map .bl).map R.d) with
    | some bs => .ok (.d (.bl (bs.all id))) M
    | none => .no) Q X = _
  rw [blsR_bl]
  rfl
theorem w_any (bs : List Bool) : wR (bAny [.d (.lst (bs.map .bl))] M) Q X = Q (.d (.bl (bs.any id))) M := by
  show wR (match blsR ((bs.map .bl).map R.d) with
    | some bs => .ok (.d (.bl (bs.any id))) M
    | none => .no) Q X = _
  rw [blsR_bl]
  rfl
theorem w_inL (a : D) (ds : List D) : wR (oIn (.d a) (.d (.lst ds)) M) Q X = ((plain a && plains ds && decide (dep a ≤ 64) && decide (deps ds ≤ 63)) = true ∧ Q (.d (.bl (ds.any fun d => eqD d a))) M) := by
  show wR (if (plain a && plains ds && decide (dep a ≤ 64) && decide (deps ds ≤ 63)) = true then .ok (.d (.bl (ds.any fun d => eqD d a))) M else .no) Q X = _
  rw [w_ite]
  rfl
theorem w_inTu (a : D) (ds : List D) : wR (oIn (.d a) (.d (.tup ds)) M) Q X = ((plain a && plains ds && decide (dep a ≤ 64) && decide (deps ds ≤ 63)) = true ∧ Q (.d (.bl (ds.any fun d => eqD d a))) M) := by
  show wR (if (plain a && plains ds && decide (dep a ≤ 64) && decide (deps ds ≤ 63)) = true then .ok (.d (.bl (ds.any fun d => eqD d a))) M else .no) Q X = _
  rw [w_ite]
  rfl
theorem w_inS (c : Nat) (s : T) : wR (oIn (.d (.str [c])) (.d (.str s)) M) Q X = Q (.d (.bl (decide (c ∈ s)))) M := rfl
end
/-! ### calls of pure defs -/
theorem reach_nil (M : Mem) (n : Nat) (seen : List Nat) : reach M n [] seen = seen := by
  cases n <;> rfl
theorem subRs_mapD (is : List Nat) (ds : List D) : subRs is (ds.map .d) = some (ds.map .d) := by
  induction ds with
  | nil => rfl
  | cons d ds ih =>
    show (match subR is (.d d), subRs is (ds.map .d) with
      | some a, some as => some (a :: as)
      | _, _ => none) = _
    rw [ih]
    rfl
theorem call_pure {m : Fn} {ds : List D} {v : D} {keep : Bool} {M : Mem} (h : m (ds.map .d) [] = .ok (.d v) []) : call keep m (ds.map .d) M = .ok (.d v) M := by
  unfold call
  simp only [refsRs_map, reach_nil, subRs_mapD]
  show (match m (ds.map .d) [] with
    | .ok r M1 => _
    | .ex x M1 => _
    | .no => _) = _
  rw [h]
  cases keep with
  | true => simp [backR, wb, wr]
  | false => simp [gc, gcR, gcM, backR, wb, wr]
/-- .. that leaves new cells behind -/
theorem call_pureG {m : Fn} {ds : List D} {v : D} {r : R} {M1 M : Mem} (h : m (ds.map .d) [] = .ok r M1) (g : gcR 0 M1 r = some (.d v)) : call false m (ds.map .d) M = .ok (.d v) M := by
  unfold call
  simp only [refsRs_map, reach_nil, subRs_mapD]
  show (match m (ds.map .d) [] with
    | .ok r M1 => _
    | .ex x M1 => _
    | .no => _) = _
  rw [h]
  simp [gc, g, gcM, backR, wb, wr]
end Lc
set_option Elab.async false
set_option linter.all false
set_option maxRecDepth 100000
set_option maxHeartbeats 4000000
/-! The draws of a law, in plain terms. -/
namespace Lc
open PySem PySem.Spec PyProof.Rows L2 LcX
def mDraws : Fn := fnOf 2 (sRet (eLst true (esCons (eComp (srcSeq (eVar 0)) (gSet 1) (bCmp (eBin oGe (eVar 1) (eBin oPow (eLit (.int 10)) (eLit (.int 18))))) (eVar 1) [1] true) (esCons (eLit (.int 0)) (esCons (eComp (srcSeq (eVar 0)) (gSet 1) (bCmp (eBin oLt (eVar 1) (eBin oPow (eLit (.int 10)) (eLit (.int 18))))) (eVar 1) [1] false) (esCons (eLit (.int 0)) esNil))))))
def mMixed : Fn := fnOf 3 (sSeq (sSet 2 (eBin oMod (eBin oPow (eBin (oAdd false) (eBin (oAdd false) (eBin oMod (eVar 0) (eLit (.int 2147483647))) (eBin (oMul false) (eLit (.int 7919)) (eVar 1))) (eLit (.int 104729))) (eLit (.int 5))) (eLit (.int 2147483629))))
  (sRet (eBin oMod (eBin oPow (eBin (oAdd false) (eBin (oAdd false) (eBin (oMul false) (eVar 2) (eLit (.int 48271))) (eBin (oMul false) (eBin (oMul false) (eLit (.int 40503)) (eVar 1)) (eVar 1))) (eLit (.int 13))) (eLit (.int 3))) (eLit (.int 1000000007)))))
def takeLoop : Nat → S := sWhile (bCmp (eBin oLt (eVar 4) (eVar 1))) (sSeq (sSet 2 (eBin (oAdd false) (eBin (oMul false) (eVar 2) (eLit (.int 1000000007))) (eCall false 2 mMixed (esCons (eVar 3) (esCons (eBin (oAdd false) (eBin oIx (eVar 0) (eLit (.int 3))) (eBin (oMul false) (eLit (.int 1009)) (eBin oMod (eVar 2) (eLit (.int 97))))) esNil)) [])))
  (sSet 4 (eBin (oMul false) (eVar 4) (eLit (.int 1000000007)))))
def takeRest : S := (sSeq (sIf (bCmp (eBin oGt (eBin oIx (eVar 0) (eLit (.int 1))) (eLit (.int 0)))) (sSeq (sSet 2 (eBin oMod (eBin oIx (eVar 0) (eLit (.int 1))) (eVar 1)))
  (sSeq (sAsg (eBin oDiv (eBin oIx (eVar 0) (eLit (.int 1))) (eVar 1)) (gSubD (eVar 0) (eLit (.int 1))))
  (sRet (eVar 2))))
  sNil)
  (sSeq (sSet 3 (eLit (.int 17)))
  (sSeq (sIf (bCmp (eBin oNe (eBin oIx (eVar 0) (eLit (.int 2))) (eLst false esNil))) (sSet 3 (eBin oIx (eBin oIx (eVar 0) (eLit (.int 2))) (eBin oMod (eBin oIx (eVar 0) (eLit (.int 3))) (eBlt bLen (esCons (eBin oIx (eVar 0) (eLit (.int 2))) esNil)))))
  sNil)
  (sSeq (sSet 2 (eLit (.int 0)))
  (sSeq (sSet 4 (eLit (.int 1)))
  (sSeq (takeLoop 64)
  (sRet (eBin oMod (eVar 2) (eVar 1)))))))))
def mTake : Fn := fnOf 5 (sSeq (sAsg (eBin (oAdd false) (eBin oIx (eVar 0) (eLit (.int 3))) (eLit (.int 1))) (gSubD (eVar 0) (eLit (.int 3))))
  (sSeq (sIf (bAnd (bCmp (eBin oEq (eBin oIx (eVar 0) (eLit (.int 1))) (eLit (.int 0)))) (bCmp (eBin oNe (eBin oIx (eVar 0) (eLit (.int 0))) (eLst false esNil)))) (sAsg (eBm "list" mPopAt (eBin oIx (eVar 0) (eLit (.int 0))) (esCons (eLit (.int 0)) esNil)) (gSubD (eVar 0) (eLit (.int 1))))
  sNil)
  takeRest))
theorem fmod_bd (i : Int) {j : Int} (h : 0 < j) : 0 ≤ i.fmod j ∧ i.fmod j < j := ⟨Int.fmod_nonneg_of_pos i h, Int.fmod_lt_of_pos i h⟩
theorem pow_ok {i : Int} (h0 : 0 ≤ i) (h : i < 2 ^ 64) : (decide (i.natAbs < 2 ^ 64)) = true := by
  rw [decide_eq_true_eq]
  omega
theorem mulOk_r {i j : Int} (h : j.natAbs < 2 ^ 64) : mulOk i j = true := by
  unfold mulOk
  have : decide (j.natAbs < 2 ^ 64) = true := decide_eq_true h
  rw [this]
  simp
theorem mixed_ok (seed k : Int) (h0 : 0 ≤ k) (h : k ≤ 2000000) : ∃ n : Int, 0 ≤ n ∧ n < 1000000007 ∧ mMixed [.d (.int seed), .d (.int k)] [] = .ok (.d (.int n)) [] := by
  have f1 := fmod_bd seed (j := 2147483647) (by decide)
  have kk : k * k ≤ 4000000000000 := by
    have := Int.mul_le_mul h h h0 (by omega)
    omega
  have k0 : 0 ≤ k * k := Int.mul_nonneg h0 h0
  have f2 := fmod_bd ((seed.fmod 2147483647 + 7919 * k + 104729) ^ 5) (j := 2147483629) (by decide)
  have e2 : 40503 * k * k = 40503 * (k * k) := by rw [Int.mul_assoc]
  have key : wR (mMixed [.d (.int seed), .d (.int k)] []) (fun r m => ∃ n : Int, 0 ≤ n ∧ n < 1000000007 ∧ r = .d (.int n) ∧ m = []) (fun _ _ => False) := by
    unfold mMixed
    simp only [↓ws_seq, ↓ws_nil, ↓ws_lift, ↓ws_drop, ↓ws_ret, ↓ws_retN, ↓ws_brk, ↓ws_cont, ↓ws_if, ↓ws_set, ↓ws_asg, ↓ws_gset, ↓ws_gnone, ↓ws_gmore, ↓ws_gtup, ↓ws_gstar, ↓ws_gsub, ↓ws_par, ↓ws_aug, ↓ws_forI, ↓ws_nx, ↓ws_rt, ↓ws_ex, ↓ws_no, ↓w_fn, ↓w_lit, ↓w_var, ↓w_bin, ↓w_esNil, ↓w_esCons, ↓w_tup, ↓w_lst, ↓w_dct0, ↓w_blt, ↓w_bm, ↓w_eand, ↓w_eor, ↓w_enot, ↓w_if, ↓w_chain, ↓w_neg, ↓w_isi, ↓w_isi2, ↓w_sl, ↓w_pn, ↓w_ps, ↓w_revL, ↓w_get2, ↓w_get1, ↓w_inT, ↓w_ixT, ↓w_getT, ↓w_fld, ↓w_call, ↓w_comp, ↓w_yes, ↓w_bcmp, ↓w_bof, ↓w_band, ↓w_bor, ↓w_bnot, ↓w_of, ↓w_srcOf, ↓w_srcSeq, ↓w_srcRev, ↓w_ok, ↓w_ex, ↓w_no, ↓w_bind, ↓w_ite, ↓w_sub, ↓w_mod, ↓w_div, ↓w_pow, ↓w_lt, ↓w_le, ↓w_gt, ↓w_ge, ↓w_addI, ↓w_mulI, ↓w_eqI, ↓w_neI, ↓w_eqS, ↓w_neS, ↓w_isNon, ↓w_isNotNon, ↓w_isB, ↓w_mkT, ↓w_mkF, ↓w_addL, ↓w_addS, ↓w_addT, ↓w_addR, ↓w_mulL, ↓w_ixL, ↓w_ixT2, ↓w_ixR, ↓w_oSl, ↓w_eqLL, ↓w_neLL, ↓w_eqTT, ↓w_neTT, ↓w_eqR, ↓w_neR, ↓w_popAt0, ↓w_append, ↓w_pop, ↓w_lenL, ↓w_lenT, ↓w_lenS, ↓w_lenD, ↓w_lenR, ↓w_tupleL, ↓w_tupleT, ↓w_listL, ↓w_listT, ↓w_min, ↓w_max, ↓w_intI, ↓w_intB, ↓w_abs, ↓w_seqL, ↓w_seqT, ↓w_seqS, ↓w_kR1, ↓w_kR2, ↓w_kEnumL, ↓w_kZipT, ↓w_kZipL, ↓w_inS, vw_non, vw_bl, vw_int, vw_str, vw_lst, vw_tup, vw_dct, vw_obj, vw_ref, vwC_lst, vwC_tup, vwC_dct, vwC_obj, vwC_frz, List.map_cons, List.map_nil, List.nil_append, List.cons_append, List.append_nil, List.length_cons, List.length_nil, List.replicate_zero, List.replicate_succ, List.getElem?_cons_zero, List.getElem?_cons_succ, List.set_cons_zero, List.set_cons_succ, decide_eq_true_eq, Bool.not_eq_true, pureRs_cons, pureRs_nil, pureRs_map, pureRs_ref, Option.map_some, Option.map_none, atI_lit, ixN_lit, oSet_ref, isTy, beq_self_eq_true, pv_d, pv_ref, plain, plains, dep, deps, eqD, eqDs, Nat.zero_le, Nat.max_self, Nat.zero_max, Nat.max_zero, ↓reduceIte, Nat.reduceAdd, Nat.reduceSub, Nat.reduceMul, Nat.reduceLT, Nat.reduceLeDiff, Nat.reduceEqDiff, Nat.zero_add, Int.reduceAdd, Int.reduceSub, Int.reduceMul, Int.reduceLT, Int.reduceLE, Int.reduceEq, Int.reduceNe, Int.reduceNeg, Int.reduceToNat, Int.reducePow, Nat.reducePow, Int.reduceAbs, SL, reduceCtorEq, true_and, and_true, false_and, and_false, ne_eq, not_false_eq_true, not_true_eq_false, Bool.not_true, Bool.not_false, Bool.true_and, Bool.and_true, Bool.false_and, Bool.and_false, Bool.false_eq_true, decide_true, decide_false, Bool.not_eq_eq_eq_not, decide_not, pureC_lst, pureC_tup, pureC_dct, pureC_obj, pureC_frz]
    refine ⟨mulOk_r (by omega), by omega, mulOk_r (by decide), mulOk_r (by omega), mulOk_r (by omega), ?_, _, (fmod_bd _ (by decide)).1, (fmod_bd _ (by decide)).2, rfl⟩
    rw [e2]
    generalize ((seed.fmod 2147483647 + 7919 * k + 104729) ^ 5).fmod 2147483629 = z at f2 ⊢
    omega
  obtain ⟨r, m, e, n, h1, h2, rfl, rfl⟩ := ok_of_wR key
  exact ⟨n, h1, h2, e⟩
/-- the state of the draws -/
structure Dr where
  xs : List Int
  x : Int
  ys : List Int
  k : Int
def iDs (xs : List Int) : List D := xs.map .int
def cA (j : Nat) (s : Dr) : Cell := .lst [.ref j, .d (.int s.x), .d (.lst (iDs s.ys)), .d (.int s.k)]
def cB (s : Dr) : Cell := .lst ((iDs s.xs).map .d)
theorem iDs_nil : iDs [] = [] := rfl
theorem iDs_len (xs : List Int) : (iDs xs).length = xs.length := by unfold iDs; simp
theorem plains_iDs : ∀ xs : List Int, plains (iDs xs) = true ∧ deps (iDs xs) = 0
  | [] => ⟨rfl, rfl⟩
  | x :: xs => by
    obtain ⟨h1, h2⟩ := plains_iDs xs
    constructor
    · show (plain (.int x) && plains (iDs xs)) = true
      rw [h1]
      rfl
    · show max (dep (.int x)) (deps (iDs xs)) = 0
      rw [h2]
      rfl
theorem divOk_z {x z : Int} (hz : 0 < z) (hl : z < 10 ^ 100) : divOk x z = true := by
  unfold divOk
  have h : z.natAbs.log2 < 9000 := by
    rw [Nat.log2_lt (by omega)]
    have h1 : z.natAbs < 10 ^ 100 := by omega
    exact Nat.lt_trans h1 (by decide +kernel)
  simp [hz, h]
theorem takeLoop_wp (z seed : Int) (s : Dr) (K : Kon) (hk0 : 0 ≤ s.k) (hk : s.k ≤ 1000001) (hK : ∀ found reach : Int, 0 ≤ found → K.nx [some (.ref 0), some (.d (.int z)), some (.d (.int found)), some (.d (.int seed)), some (.d (.int reach))] [cA 1 s, cB s]) :
    ∀ (n : Nat) (found reach : Int), 0 ≤ found → 0 < reach → z ≤ reach * 1000000007 ^ n → wS (takeLoop (n + 1) [some (.ref 0), some (.d (.int z)), some (.d (.int found)), some (.d (.int seed)), some (.d (.int reach))] [cA 1 s, cB s]) K := by
  intro n
  induction n with
  | zero =>
    intro found reach h0 hr h
    have h : ¬ reach < z := by omega
    unfold takeLoop
    rw [ws_while]
    unfold cA cB at hK ⊢
    simp only [↓ws_seq, ↓ws_nil, ↓ws_lift, ↓ws_drop, ↓ws_ret, ↓ws_retN, ↓ws_brk, ↓ws_cont, ↓ws_if, ↓ws_set, ↓ws_asg, ↓ws_gset, ↓ws_gnone, ↓ws_gmore, ↓ws_gtup, ↓ws_gstar, ↓ws_gsub, ↓ws_par, ↓ws_aug, ↓ws_forI, ↓ws_nx, ↓ws_rt, ↓ws_ex, ↓ws_no, ↓w_fn, ↓w_lit, ↓w_var, ↓w_bin, ↓w_esNil, ↓w_esCons, ↓w_tup, ↓w_lst, ↓w_dct0, ↓w_blt, ↓w_bm, ↓w_eand, ↓w_eor, ↓w_enot, ↓w_if, ↓w_chain, ↓w_neg, ↓w_isi, ↓w_isi2, ↓w_sl, ↓w_pn, ↓w_ps, ↓w_revL, ↓w_get2, ↓w_get1, ↓w_inT, ↓w_ixT, ↓w_getT, ↓w_fld, ↓w_call, ↓w_comp, ↓w_yes, ↓w_bcmp, ↓w_bof, ↓w_band, ↓w_bor, ↓w_bnot, ↓w_of, ↓w_srcOf, ↓w_srcSeq, ↓w_srcRev, ↓w_ok, ↓w_ex, ↓w_no, ↓w_bind, ↓w_ite, ↓w_sub, ↓w_mod, ↓w_div, ↓w_pow, ↓w_lt, ↓w_le, ↓w_gt, ↓w_ge, ↓w_addI, ↓w_mulI, ↓w_eqI, ↓w_neI, ↓w_eqS, ↓w_neS, ↓w_isNon, ↓w_isNotNon, ↓w_isB, ↓w_mkT, ↓w_mkF, ↓w_addL, ↓w_addS, ↓w_addT, ↓w_addR, ↓w_mulL, ↓w_ixL, ↓w_ixT2, ↓w_ixR, ↓w_oSl, ↓w_eqLL, ↓w_neLL, ↓w_eqTT, ↓w_neTT, ↓w_eqR, ↓w_neR, ↓w_popAt0, ↓w_append, ↓w_pop, ↓w_lenL, ↓w_lenT, ↓w_lenS, ↓w_lenD, ↓w_lenR, ↓w_tupleL, ↓w_tupleT, ↓w_listL, ↓w_listT, ↓w_min, ↓w_max, ↓w_intI, ↓w_intB, ↓w_abs, ↓w_seqL, ↓w_seqT, ↓w_seqS, ↓w_kR1, ↓w_kR2, ↓w_kEnumL, ↓w_kZipT, ↓w_kZipL, ↓w_inS, vw_non, vw_bl, vw_int, vw_str, vw_lst, vw_tup, vw_dct, vw_obj, vw_ref, vwC_lst, vwC_tup, vwC_dct, vwC_obj, vwC_frz, List.map_cons, List.map_nil, List.nil_append, List.cons_append, List.append_nil, List.length_cons, List.length_nil, List.replicate_zero, List.replicate_succ, List.getElem?_cons_zero, List.getElem?_cons_succ, List.set_cons_zero, List.set_cons_succ, decide_eq_true_eq, Bool.not_eq_true, pureRs_cons, pureRs_nil, pureRs_map, pureRs_ref, Option.map_some, Option.map_none, atI_lit, ixN_lit, oSet_ref, isTy, beq_self_eq_true, pv_d, pv_ref, plain, plains, dep, deps, eqD, eqDs, Nat.zero_le, Nat.max_self, Nat.zero_max, Nat.max_zero, ↓reduceIte, Nat.reduceAdd, Nat.reduceSub, Nat.reduceMul, Nat.reduceLT, Nat.reduceLeDiff, Nat.reduceEqDiff, Nat.zero_add, Int.reduceAdd, Int.reduceSub, Int.reduceMul, Int.reduceLT, Int.reduceLE, Int.reduceEq, Int.reduceNe, Int.reduceNeg, Int.reduceToNat, Int.reducePow, Nat.reducePow, Int.reduceAbs, SL, reduceCtorEq, true_and, and_true, false_and, and_false, ne_eq, not_false_eq_true, not_true_eq_false, Bool.not_true, Bool.not_false, Bool.true_and, Bool.and_true, Bool.false_and, Bool.and_false, Bool.false_eq_true, decide_true, decide_false, Bool.not_eq_eq_eq_not, decide_not, pureC_lst, pureC_tup, pureC_dct, pureC_obj, pureC_frz, h]
    exact hK _ _ h0
  | succ n ih =>
    intro found reach h0 hr h
    have e : reach * 1000000007 ^ (n + 1) = (reach * 1000000007) * 1000000007 ^ n := by rw [Int.pow_succ, Int.mul_assoc, Int.mul_comm (1000000007 ^ n)]
    obtain ⟨f0, f1⟩ := fmod_bd found (j := 97) (by decide)
    obtain ⟨v, v0, v1, ev⟩ := mixed_ok seed (s.k + 1009 * found.fmod 97) (by omega) (by omega)
    have ev2 := call_pure (keep := false) (ds := [.int seed, .int (s.k + 1009 * found.fmod 97)]) (M := [cA 1 s, cB s]) ev
    simp only [List.map_cons, List.map_nil] at ev2
    unfold takeLoop
    rw [ws_while]
    by_cases c : reach < z
    · unfold cA cB at ev2 hK ⊢
      simp only [↓ws_seq, ↓ws_nil, ↓ws_lift, ↓ws_drop, ↓ws_ret, ↓ws_retN, ↓ws_brk, ↓ws_cont, ↓ws_if, ↓ws_set, ↓ws_asg, ↓ws_gset, ↓ws_gnone, ↓ws_gmore, ↓ws_gtup, ↓ws_gstar, ↓ws_gsub, ↓ws_par, ↓ws_aug, ↓ws_forI, ↓ws_nx, ↓ws_rt, ↓ws_ex, ↓ws_no, ↓w_fn, ↓w_lit, ↓w_var, ↓w_bin, ↓w_esNil, ↓w_esCons, ↓w_tup, ↓w_lst, ↓w_dct0, ↓w_blt, ↓w_bm, ↓w_eand, ↓w_eor, ↓w_enot, ↓w_if, ↓w_chain, ↓w_neg, ↓w_isi, ↓w_isi2, ↓w_sl, ↓w_pn, ↓w_ps, ↓w_revL, ↓w_get2, ↓w_get1, ↓w_inT, ↓w_ixT, ↓w_getT, ↓w_fld, ↓w_call, ↓w_comp, ↓w_yes, ↓w_bcmp, ↓w_bof, ↓w_band, ↓w_bor, ↓w_bnot, ↓w_of, ↓w_srcOf, ↓w_srcSeq, ↓w_srcRev, ↓w_ok, ↓w_ex, ↓w_no, ↓w_bind, ↓w_ite, ↓w_sub, ↓w_mod, ↓w_div, ↓w_pow, ↓w_lt, ↓w_le, ↓w_gt, ↓w_ge, ↓w_addI, ↓w_mulI, ↓w_eqI, ↓w_neI, ↓w_eqS, ↓w_neS, ↓w_isNon, ↓w_isNotNon, ↓w_isB, ↓w_mkT, ↓w_mkF, ↓w_addL, ↓w_addS, ↓w_addT, ↓w_addR, ↓w_mulL, ↓w_ixL, ↓w_ixT2, ↓w_ixR, ↓w_oSl, ↓w_eqLL, ↓w_neLL, ↓w_eqTT, ↓w_neTT, ↓w_eqR, ↓w_neR, ↓w_popAt0, ↓w_append, ↓w_pop, ↓w_lenL, ↓w_lenT, ↓w_lenS, ↓w_lenD, ↓w_lenR, ↓w_tupleL, ↓w_tupleT, ↓w_listL, ↓w_listT, ↓w_min, ↓w_max, ↓w_intI, ↓w_intB, ↓w_abs, ↓w_seqL, ↓w_seqT, ↓w_seqS, ↓w_kR1, ↓w_kR2, ↓w_kEnumL, ↓w_kZipT, ↓w_kZipL, ↓w_inS, vw_non, vw_bl, vw_int, vw_str, vw_lst, vw_tup, vw_dct, vw_obj, vw_ref, vwC_lst, vwC_tup, vwC_dct, vwC_obj, vwC_frz, List.map_cons, List.map_nil, List.nil_append, List.cons_append, List.append_nil, List.length_cons, List.length_nil, List.replicate_zero, List.replicate_succ, List.getElem?_cons_zero, List.getElem?_cons_succ, List.set_cons_zero, List.set_cons_succ, decide_eq_true_eq, Bool.not_eq_true, pureRs_cons, pureRs_nil, pureRs_map, pureRs_ref, Option.map_some, Option.map_none, atI_lit, ixN_lit, oSet_ref, isTy, beq_self_eq_true, pv_d, pv_ref, plain, plains, dep, deps, eqD, eqDs, Nat.zero_le, Nat.max_self, Nat.zero_max, Nat.max_zero, ↓reduceIte, Nat.reduceAdd, Nat.reduceSub, Nat.reduceMul, Nat.reduceLT, Nat.reduceLeDiff, Nat.reduceEqDiff, Nat.zero_add, Int.reduceAdd, Int.reduceSub, Int.reduceMul, Int.reduceLT, Int.reduceLE, Int.reduceEq, Int.reduceNe, Int.reduceNeg, Int.reduceToNat, Int.reducePow, Nat.reducePow, Int.reduceAbs, SL, reduceCtorEq, true_and, and_true, false_and, and_false, ne_eq, not_false_eq_true, not_true_eq_false, Bool.not_true, Bool.not_false, Bool.true_and, Bool.and_true, Bool.false_and, Bool.and_false, Bool.false_eq_true, decide_true, decide_false, Bool.not_eq_eq_eq_not, decide_not, pureC_lst, pureC_tup, pureC_dct, pureC_obj, pureC_frz, c]
      refine ⟨mulOk_r (by decide), mulOk_r (by omega), ?_⟩
      rw [ev2]
      simp only [↓ws_seq, ↓ws_nil, ↓ws_lift, ↓ws_drop, ↓ws_ret, ↓ws_retN, ↓ws_brk, ↓ws_cont, ↓ws_if, ↓ws_set, ↓ws_asg, ↓ws_gset, ↓ws_gnone, ↓ws_gmore, ↓ws_gtup, ↓ws_gstar, ↓ws_gsub, ↓ws_par, ↓ws_aug, ↓ws_forI, ↓ws_nx, ↓ws_rt, ↓ws_ex, ↓ws_no, ↓w_fn, ↓w_lit, ↓w_var, ↓w_bin, ↓w_esNil, ↓w_esCons, ↓w_tup, ↓w_lst, ↓w_dct0, ↓w_blt, ↓w_bm, ↓w_eand, ↓w_eor, ↓w_enot, ↓w_if, ↓w_chain, ↓w_neg, ↓w_isi, ↓w_isi2, ↓w_sl, ↓w_pn, ↓w_ps, ↓w_revL, ↓w_get2, ↓w_get1, ↓w_inT, ↓w_ixT, ↓w_getT, ↓w_fld, ↓w_call, ↓w_comp, ↓w_yes, ↓w_bcmp, ↓w_bof, ↓w_band, ↓w_bor, ↓w_bnot, ↓w_of, ↓w_srcOf, ↓w_srcSeq, ↓w_srcRev, ↓w_ok, ↓w_ex, ↓w_no, ↓w_bind, ↓w_ite, ↓w_sub, ↓w_mod, ↓w_div, ↓w_pow, ↓w_lt, ↓w_le, ↓w_gt, ↓w_ge, ↓w_addI, ↓w_mulI, ↓w_eqI, ↓w_neI, ↓w_eqS, ↓w_neS, ↓w_isNon, ↓w_isNotNon, ↓w_isB, ↓w_mkT, ↓w_mkF, ↓w_addL, ↓w_addS, ↓w_addT, ↓w_addR, ↓w_mulL, ↓w_ixL, ↓w_ixT2, ↓w_ixR, ↓w_oSl, ↓w_eqLL, ↓w_neLL, ↓w_eqTT, ↓w_neTT, ↓w_eqR, ↓w_neR, ↓w_popAt0, ↓w_append, ↓w_pop, ↓w_lenL, ↓w_lenT, ↓w_lenS, ↓w_lenD, ↓w_lenR, ↓w_tupleL, ↓w_tupleT, ↓w_listL, ↓w_listT, ↓w_min, ↓w_max, ↓w_intI, ↓w_intB, ↓w_abs, ↓w_seqL, ↓w_seqT, ↓w_seqS, ↓w_kR1, ↓w_kR2, ↓w_kEnumL, ↓w_kZipT, ↓w_kZipL, ↓w_inS, vw_non, vw_bl, vw_int, vw_str, vw_lst, vw_tup, vw_dct, vw_obj, vw_ref, vwC_lst, vwC_tup, vwC_dct, vwC_obj, vwC_frz, List.map_cons, List.map_nil, List.nil_append, List.cons_append, List.append_nil, List.length_cons, List.length_nil, List.replicate_zero, List.replicate_succ, List.getElem?_cons_zero, List.getElem?_cons_succ, List.set_cons_zero, List.set_cons_succ, decide_eq_true_eq, Bool.not_eq_true, pureRs_cons, pureRs_nil, pureRs_map, pureRs_ref, Option.map_some, Option.map_none, atI_lit, ixN_lit, oSet_ref, isTy, beq_self_eq_true, pv_d, pv_ref, plain, plains, dep, deps, eqD, eqDs, Nat.zero_le, Nat.max_self, Nat.zero_max, Nat.max_zero, ↓reduceIte, Nat.reduceAdd, Nat.reduceSub, Nat.reduceMul, Nat.reduceLT, Nat.reduceLeDiff, Nat.reduceEqDiff, Nat.zero_add, Int.reduceAdd, Int.reduceSub, Int.reduceMul, Int.reduceLT, Int.reduceLE, Int.reduceEq, Int.reduceNe, Int.reduceNeg, Int.reduceToNat, Int.reducePow, Nat.reducePow, Int.reduceAbs, SL, reduceCtorEq, true_and, and_true, false_and, and_false, ne_eq, not_false_eq_true, not_true_eq_false, Bool.not_true, Bool.not_false, Bool.true_and, Bool.and_true, Bool.false_and, Bool.and_false, Bool.false_eq_true, decide_true, decide_false, Bool.not_eq_eq_eq_not, decide_not, pureC_lst, pureC_tup, pureC_dct, pureC_obj, pureC_frz]
      exact ⟨mulOk_r (by decide), ih _ _ (by omega) (by omega) (by rw [← e]; exact h)⟩
    · unfold cA cB at hK ⊢
      simp only [↓ws_seq, ↓ws_nil, ↓ws_lift, ↓ws_drop, ↓ws_ret, ↓ws_retN, ↓ws_brk, ↓ws_cont, ↓ws_if, ↓ws_set, ↓ws_asg, ↓ws_gset, ↓ws_gnone, ↓ws_gmore, ↓ws_gtup, ↓ws_gstar, ↓ws_gsub, ↓ws_par, ↓ws_aug, ↓ws_forI, ↓ws_nx, ↓ws_rt, ↓ws_ex, ↓ws_no, ↓w_fn, ↓w_lit, ↓w_var, ↓w_bin, ↓w_esNil, ↓w_esCons, ↓w_tup, ↓w_lst, ↓w_dct0, ↓w_blt, ↓w_bm, ↓w_eand, ↓w_eor, ↓w_enot, ↓w_if, ↓w_chain, ↓w_neg, ↓w_isi, ↓w_isi2, ↓w_sl, ↓w_pn, ↓w_ps, ↓w_revL, ↓w_get2, ↓w_get1, ↓w_inT, ↓w_ixT, ↓w_getT, ↓w_fld, ↓w_call, ↓w_comp, ↓w_yes, ↓w_bcmp, ↓w_bof, ↓w_band, ↓w_bor, ↓w_bnot, ↓w_of, ↓w_srcOf, ↓w_srcSeq, ↓w_srcRev, ↓w_ok, ↓w_ex, ↓w_no, ↓w_bind, ↓w_ite, ↓w_sub, ↓w_mod, ↓w_div, ↓w_pow, ↓w_lt, ↓w_le, ↓w_gt, ↓w_ge, ↓w_addI, ↓w_mulI, ↓w_eqI, ↓w_neI, ↓w_eqS, ↓w_neS, ↓w_isNon, ↓w_isNotNon, ↓w_isB, ↓w_mkT, ↓w_mkF, ↓w_addL, ↓w_addS, ↓w_addT, ↓w_addR, ↓w_mulL, ↓w_ixL, ↓w_ixT2, ↓w_ixR, ↓w_oSl, ↓w_eqLL, ↓w_neLL, ↓w_eqTT, ↓w_neTT, ↓w_eqR, ↓w_neR, ↓w_popAt0, ↓w_append, ↓w_pop, ↓w_lenL, ↓w_lenT, ↓w_lenS, ↓w_lenD, ↓w_lenR, ↓w_tupleL, ↓w_tupleT, ↓w_listL, ↓w_listT, ↓w_min, ↓w_max, ↓w_intI, ↓w_intB, ↓w_abs, ↓w_seqL, ↓w_seqT, ↓w_seqS, ↓w_kR1, ↓w_kR2, ↓w_kEnumL, ↓w_kZipT, ↓w_kZipL, ↓w_inS, vw_non, vw_bl, vw_int, vw_str, vw_lst, vw_tup, vw_dct, vw_obj, vw_ref, vwC_lst, vwC_tup, vwC_dct, vwC_obj, vwC_frz, List.map_cons, List.map_nil, List.nil_append, List.cons_append, List.append_nil, List.length_cons, List.length_nil, List.replicate_zero, List.replicate_succ, List.getElem?_cons_zero, List.getElem?_cons_succ, List.set_cons_zero, List.set_cons_succ, decide_eq_true_eq, Bool.not_eq_true, pureRs_cons, pureRs_nil, pureRs_map, pureRs_ref, Option.map_some, Option.map_none, atI_lit, ixN_lit, oSet_ref, isTy, beq_self_eq_true, pv_d, pv_ref, plain, plains, dep, deps, eqD, eqDs, Nat.zero_le, Nat.max_self, Nat.zero_max, Nat.max_zero, ↓reduceIte, Nat.reduceAdd, Nat.reduceSub, Nat.reduceMul, Nat.reduceLT, Nat.reduceLeDiff, Nat.reduceEqDiff, Nat.zero_add, Int.reduceAdd, Int.reduceSub, Int.reduceMul, Int.reduceLT, Int.reduceLE, Int.reduceEq, Int.reduceNe, Int.reduceNeg, Int.reduceToNat, Int.reducePow, Nat.reducePow, Int.reduceAbs, SL, reduceCtorEq, true_and, and_true, false_and, and_false, ne_eq, not_false_eq_true, not_true_eq_false, Bool.not_true, Bool.not_false, Bool.true_and, Bool.and_true, Bool.false_and, Bool.and_false, Bool.false_eq_true, decide_true, decide_false, Bool.not_eq_eq_eq_not, decide_not, pureC_lst, pureC_tup, pureC_dct, pureC_obj, pureC_frz, c]
      exact hK _ _ h0
theorem seed_at (ys : List Int) (k : Int) (h : ys ≠ []) : ∃ sd, atI ((iDs ys).map R.d) (k.fmod (ys.length : Int)) = some (.d (.int sd)) := by
  have hl : 0 < ys.length := List.length_pos_iff.mpr h
  obtain ⟨h0, h1⟩ := fmod_bd k (j := (ys.length : Int)) (by omega)
  rw [atI_k _ h0]
  unfold iDs
  rw [List.getElem?_map, List.getElem?_map, List.getElem?_eq_getElem (by omega)]
  exact ⟨_, rfl⟩
theorem takeRest_wp (z : Int) (s : Dr) (K : Kon) (hz : 0 < z) (hl : z < 10 ^ 100) (hk0 : 0 ≤ s.k) (hk : s.k ≤ 1000001) (hK : ∀ (n : Int) (s' : Dr), 0 ≤ n → n < z → s'.k = s.k → K.rt (.d (.int n)) [cA 1 s', cB s']) :
    wS (takeRest [some (.ref 0), some (.d (.int z)), none, none, none] [cA 1 s, cB s]) K := by
  have big : z ≤ 1 * 1000000007 ^ 63 := by
    have h1 : (10 : Int) ^ 100 ≤ 1 * 1000000007 ^ 63 := by decide +kernel
    omega
  have hz0 : z ≠ 0 := by omega
  obtain ⟨xs, x, ys, k⟩ := s
  dsimp only at hk0 hk hK
  unfold takeRest
  by_cases hx : 0 < x
  · unfold cA cB at hK ⊢
    simp only [↓ws_seq, ↓ws_nil, ↓ws_lift, ↓ws_drop, ↓ws_ret, ↓ws_retN, ↓ws_brk, ↓ws_cont, ↓ws_if, ↓ws_set, ↓ws_asg, ↓ws_gset, ↓ws_gnone, ↓ws_gmore, ↓ws_gtup, ↓ws_gstar, ↓ws_gsub, ↓ws_par, ↓ws_aug, ↓ws_forI, ↓ws_nx, ↓ws_rt, ↓ws_ex, ↓ws_no, ↓w_fn, ↓w_lit, ↓w_var, ↓w_bin, ↓w_esNil, ↓w_esCons, ↓w_tup, ↓w_lst, ↓w_dct0, ↓w_blt, ↓w_bm, ↓w_eand, ↓w_eor, ↓w_enot, ↓w_if, ↓w_chain, ↓w_neg, ↓w_isi, ↓w_isi2, ↓w_sl, ↓w_pn, ↓w_ps, ↓w_revL, ↓w_get2, ↓w_get1, ↓w_inT, ↓w_ixT, ↓w_getT, ↓w_fld, ↓w_call, ↓w_comp, ↓w_yes, ↓w_bcmp, ↓w_bof, ↓w_band, ↓w_bor, ↓w_bnot, ↓w_of, ↓w_srcOf, ↓w_srcSeq, ↓w_srcRev, ↓w_ok, ↓w_ex, ↓w_no, ↓w_bind, ↓w_ite, ↓w_sub, ↓w_mod, ↓w_div, ↓w_pow, ↓w_lt, ↓w_le, ↓w_gt, ↓w_ge, ↓w_addI, ↓w_mulI, ↓w_eqI, ↓w_neI, ↓w_eqS, ↓w_neS, ↓w_isNon, ↓w_isNotNon, ↓w_isB, ↓w_mkT, ↓w_mkF, ↓w_addL, ↓w_addS, ↓w_addT, ↓w_addR, ↓w_mulL, ↓w_ixL, ↓w_ixT2, ↓w_ixR, ↓w_oSl, ↓w_eqLL, ↓w_neLL, ↓w_eqTT, ↓w_neTT, ↓w_eqR, ↓w_neR, ↓w_popAt0, ↓w_append, ↓w_pop, ↓w_lenL, ↓w_lenT, ↓w_lenS, ↓w_lenD, ↓w_lenR, ↓w_tupleL, ↓w_tupleT, ↓w_listL, ↓w_listT, ↓w_min, ↓w_max, ↓w_intI, ↓w_intB, ↓w_abs, ↓w_seqL, ↓w_seqT, ↓w_seqS, ↓w_kR1, ↓w_kR2, ↓w_kEnumL, ↓w_kZipT, ↓w_kZipL, ↓w_inS, vw_non, vw_bl, vw_int, vw_str, vw_lst, vw_tup, vw_dct, vw_obj, vw_ref, vwC_lst, vwC_tup, vwC_dct, vwC_obj, vwC_frz, List.map_cons, List.map_nil, List.nil_append, List.cons_append, List.append_nil, List.length_cons, List.length_nil, List.replicate_zero, List.replicate_succ, List.getElem?_cons_zero, List.getElem?_cons_succ, List.set_cons_zero, List.set_cons_succ, decide_eq_true_eq, Bool.not_eq_true, pureRs_cons, pureRs_nil, pureRs_map, pureRs_ref, Option.map_some, Option.map_none, atI_lit, ixN_lit, oSet_ref, isTy, beq_self_eq_true, pv_d, pv_ref, plain, plains, dep, deps, eqD, eqDs, Nat.zero_le, Nat.max_self, Nat.zero_max, Nat.max_zero, ↓reduceIte, Nat.reduceAdd, Nat.reduceSub, Nat.reduceMul, Nat.reduceLT, Nat.reduceLeDiff, Nat.reduceEqDiff, Nat.zero_add, Int.reduceAdd, Int.reduceSub, Int.reduceMul, Int.reduceLT, Int.reduceLE, Int.reduceEq, Int.reduceNe, Int.reduceNeg, Int.reduceToNat, Int.reducePow, Nat.reducePow, Int.reduceAbs, SL, reduceCtorEq, true_and, and_true, false_and, and_false, ne_eq, not_false_eq_true, not_true_eq_false, Bool.not_true, Bool.not_false, Bool.true_and, Bool.and_true, Bool.false_and, Bool.and_false, Bool.false_eq_true, decide_true, decide_false, Bool.not_eq_eq_eq_not, decide_not, pureC_lst, pureC_tup, pureC_dct, pureC_obj, pureC_frz, hx, hz0]
    refine ⟨divOk_z hz hl, ?_⟩
    exact hK (x.fmod z) ⟨xs, x.fdiv z, ys, k⟩ (fmod_bd x hz).1 (fmod_bd x hz).2 rfl
  · have fin : ∀ found : Int, 0 ≤ found → K.rt (.d (.int (found.fmod z))) [cA 1 ⟨xs, x, ys, k⟩, cB ⟨xs, x, ys, k⟩] := fun found _ => hK (found.fmod z) ⟨xs, x, ys, k⟩ (fmod_bd _ hz).1 (fmod_bd _ hz).2 rfl
    by_cases hy : ys = []
    · subst hy
      unfold cA cB
      simp only [↓ws_seq, ↓ws_nil, ↓ws_lift, ↓ws_drop, ↓ws_ret, ↓ws_retN, ↓ws_brk, ↓ws_cont, ↓ws_if, ↓ws_set, ↓ws_asg, ↓ws_gset, ↓ws_gnone, ↓ws_gmore, ↓ws_gtup, ↓ws_gstar, ↓ws_gsub, ↓ws_par, ↓ws_aug, ↓ws_forI, ↓ws_nx, ↓ws_rt, ↓ws_ex, ↓ws_no, ↓w_fn, ↓w_lit, ↓w_var, ↓w_bin, ↓w_esNil, ↓w_esCons, ↓w_tup, ↓w_lst, ↓w_dct0, ↓w_blt, ↓w_bm, ↓w_eand, ↓w_eor, ↓w_enot, ↓w_if, ↓w_chain, ↓w_neg, ↓w_isi, ↓w_isi2, ↓w_sl, ↓w_pn, ↓w_ps, ↓w_revL, ↓w_get2, ↓w_get1, ↓w_inT, ↓w_ixT, ↓w_getT, ↓w_fld, ↓w_call, ↓w_comp, ↓w_yes, ↓w_bcmp, ↓w_bof, ↓w_band, ↓w_bor, ↓w_bnot, ↓w_of, ↓w_srcOf, ↓w_srcSeq, ↓w_srcRev, ↓w_ok, ↓w_ex, ↓w_no, ↓w_bind, ↓w_ite, ↓w_sub, ↓w_mod, ↓w_div, ↓w_pow, ↓w_lt, ↓w_le, ↓w_gt, ↓w_ge, ↓w_addI, ↓w_mulI, ↓w_eqI, ↓w_neI, ↓w_eqS, ↓w_neS, ↓w_isNon, ↓w_isNotNon, ↓w_isB, ↓w_mkT, ↓w_mkF, ↓w_addL, ↓w_addS, ↓w_addT, ↓w_addR, ↓w_mulL, ↓w_ixL, ↓w_ixT2, ↓w_ixR, ↓w_oSl, ↓w_eqLL, ↓w_neLL, ↓w_eqTT, ↓w_neTT, ↓w_eqR, ↓w_neR, ↓w_popAt0, ↓w_append, ↓w_pop, ↓w_lenL, ↓w_lenT, ↓w_lenS, ↓w_lenD, ↓w_lenR, ↓w_tupleL, ↓w_tupleT, ↓w_listL, ↓w_listT, ↓w_min, ↓w_max, ↓w_intI, ↓w_intB, ↓w_abs, ↓w_seqL, ↓w_seqT, ↓w_seqS, ↓w_kR1, ↓w_kR2, ↓w_kEnumL, ↓w_kZipT, ↓w_kZipL, ↓w_inS, vw_non, vw_bl, vw_int, vw_str, vw_lst, vw_tup, vw_dct, vw_obj, vw_ref, vwC_lst, vwC_tup, vwC_dct, vwC_obj, vwC_frz, List.map_cons, List.map_nil, List.nil_append, List.cons_append, List.append_nil, List.length_cons, List.length_nil, List.replicate_zero, List.replicate_succ, List.getElem?_cons_zero, List.getElem?_cons_succ, List.set_cons_zero, List.set_cons_succ, decide_eq_true_eq, Bool.not_eq_true, pureRs_cons, pureRs_nil, pureRs_map, pureRs_ref, Option.map_some, Option.map_none, atI_lit, ixN_lit, oSet_ref, isTy, beq_self_eq_true, pv_d, pv_ref, plain, plains, dep, deps, eqD, eqDs, Nat.zero_le, Nat.max_self, Nat.zero_max, Nat.max_zero, ↓reduceIte, Nat.reduceAdd, Nat.reduceSub, Nat.reduceMul, Nat.reduceLT, Nat.reduceLeDiff, Nat.reduceEqDiff, Nat.zero_add, Int.reduceAdd, Int.reduceSub, Int.reduceMul, Int.reduceLT, Int.reduceLE, Int.reduceEq, Int.reduceNe, Int.reduceNeg, Int.reduceToNat, Int.reducePow, Nat.reducePow, Int.reduceAbs, SL, reduceCtorEq, true_and, and_true, false_and, and_false, ne_eq, not_false_eq_true, not_true_eq_false, Bool.not_true, Bool.not_false, Bool.true_and, Bool.and_true, Bool.false_and, Bool.and_false, Bool.false_eq_true, decide_true, decide_false, Bool.not_eq_eq_eq_not, decide_not, pureC_lst, pureC_tup, pureC_dct, pureC_obj, pureC_frz, hx, iDs_nil]
      refine takeLoop_wp z 17 ⟨xs, x, [], k⟩ _ hk0 hk (fun found reach h0 => ?_) 63 0 1 (by decide) (by decide) big
      unfold cA cB at fin ⊢
      simp only [↓ws_seq, ↓ws_nil, ↓ws_lift, ↓ws_drop, ↓ws_ret, ↓ws_retN, ↓ws_brk, ↓ws_cont, ↓ws_if, ↓ws_set, ↓ws_asg, ↓ws_gset, ↓ws_gnone, ↓ws_gmore, ↓ws_gtup, ↓ws_gstar, ↓ws_gsub, ↓ws_par, ↓ws_aug, ↓ws_forI, ↓ws_nx, ↓ws_rt, ↓ws_ex, ↓ws_no, ↓w_fn, ↓w_lit, ↓w_var, ↓w_bin, ↓w_esNil, ↓w_esCons, ↓w_tup, ↓w_lst, ↓w_dct0, ↓w_blt, ↓w_bm, ↓w_eand, ↓w_eor, ↓w_enot, ↓w_if, ↓w_chain, ↓w_neg, ↓w_isi, ↓w_isi2, ↓w_sl, ↓w_pn, ↓w_ps, ↓w_revL, ↓w_get2, ↓w_get1, ↓w_inT, ↓w_ixT, ↓w_getT, ↓w_fld, ↓w_call, ↓w_comp, ↓w_yes, ↓w_bcmp, ↓w_bof, ↓w_band, ↓w_bor, ↓w_bnot, ↓w_of, ↓w_srcOf, ↓w_srcSeq, ↓w_srcRev, ↓w_ok, ↓w_ex, ↓w_no, ↓w_bind, ↓w_ite, ↓w_sub, ↓w_mod, ↓w_div, ↓w_pow, ↓w_lt, ↓w_le, ↓w_gt, ↓w_ge, ↓w_addI, ↓w_mulI, ↓w_eqI, ↓w_neI, ↓w_eqS, ↓w_neS, ↓w_isNon, ↓w_isNotNon, ↓w_isB, ↓w_mkT, ↓w_mkF, ↓w_addL, ↓w_addS, ↓w_addT, ↓w_addR, ↓w_mulL, ↓w_ixL, ↓w_ixT2, ↓w_ixR, ↓w_oSl, ↓w_eqLL, ↓w_neLL, ↓w_eqTT, ↓w_neTT, ↓w_eqR, ↓w_neR, ↓w_popAt0, ↓w_append, ↓w_pop, ↓w_lenL, ↓w_lenT, ↓w_lenS, ↓w_lenD, ↓w_lenR, ↓w_tupleL, ↓w_tupleT, ↓w_listL, ↓w_listT, ↓w_min, ↓w_max, ↓w_intI, ↓w_intB, ↓w_abs, ↓w_seqL, ↓w_seqT, ↓w_seqS, ↓w_kR1, ↓w_kR2, ↓w_kEnumL, ↓w_kZipT, ↓w_kZipL, ↓w_inS, vw_non, vw_bl, vw_int, vw_str, vw_lst, vw_tup, vw_dct, vw_obj, vw_ref, vwC_lst, vwC_tup, vwC_dct, vwC_obj, vwC_frz, List.map_cons, List.map_nil, List.nil_append, List.cons_append, List.append_nil, List.length_cons, List.length_nil, List.replicate_zero, List.replicate_succ, List.getElem?_cons_zero, List.getElem?_cons_succ, List.set_cons_zero, List.set_cons_succ, decide_eq_true_eq, Bool.not_eq_true, pureRs_cons, pureRs_nil, pureRs_map, pureRs_ref, Option.map_some, Option.map_none, atI_lit, ixN_lit, oSet_ref, isTy, beq_self_eq_true, pv_d, pv_ref, plain, plains, dep, deps, eqD, eqDs, Nat.zero_le, Nat.max_self, Nat.zero_max, Nat.max_zero, ↓reduceIte, Nat.reduceAdd, Nat.reduceSub, Nat.reduceMul, Nat.reduceLT, Nat.reduceLeDiff, Nat.reduceEqDiff, Nat.zero_add, Int.reduceAdd, Int.reduceSub, Int.reduceMul, Int.reduceLT, Int.reduceLE, Int.reduceEq, Int.reduceNe, Int.reduceNeg, Int.reduceToNat, Int.reducePow, Nat.reducePow, Int.reduceAbs, SL, reduceCtorEq, true_and, and_true, false_and, and_false, ne_eq, not_false_eq_true, not_true_eq_false, Bool.not_true, Bool.not_false, Bool.true_and, Bool.and_true, Bool.false_and, Bool.and_false, Bool.false_eq_true, decide_true, decide_false, Bool.not_eq_eq_eq_not, decide_not, pureC_lst, pureC_tup, pureC_dct, pureC_obj, pureC_frz, hz0]
      exact fin found h0
    · obtain ⟨sd, hsd⟩ := seed_at ys k hy
      obtain ⟨q1, q2⟩ := plains_iDs ys
      have hne : eqDs (iDs ys) [] = false := by
        cases ys with
        | nil => exact absurd rfl hy
        | cons y ys => rfl
      have hl0 : (ys.length : Int) ≠ 0 := by
        have := List.length_pos_iff.mpr hy
        omega
      have hll : (iDs ys).length = ys.length := by unfold iDs; simp
      unfold cA cB
      simp only [↓ws_seq, ↓ws_nil, ↓ws_lift, ↓ws_drop, ↓ws_ret, ↓ws_retN, ↓ws_brk, ↓ws_cont, ↓ws_if, ↓ws_set, ↓ws_asg, ↓ws_gset, ↓ws_gnone, ↓ws_gmore, ↓ws_gtup, ↓ws_gstar, ↓ws_gsub, ↓ws_par, ↓ws_aug, ↓ws_forI, ↓ws_nx, ↓ws_rt, ↓ws_ex, ↓ws_no, ↓w_fn, ↓w_lit, ↓w_var, ↓w_bin, ↓w_esNil, ↓w_esCons, ↓w_tup, ↓w_lst, ↓w_dct0, ↓w_blt, ↓w_bm, ↓w_eand, ↓w_eor, ↓w_enot, ↓w_if, ↓w_chain, ↓w_neg, ↓w_isi, ↓w_isi2, ↓w_sl, ↓w_pn, ↓w_ps, ↓w_revL, ↓w_get2, ↓w_get1, ↓w_inT, ↓w_ixT, ↓w_getT, ↓w_fld, ↓w_call, ↓w_comp, ↓w_yes, ↓w_bcmp, ↓w_bof, ↓w_band, ↓w_bor, ↓w_bnot, ↓w_of, ↓w_srcOf, ↓w_srcSeq, ↓w_srcRev, ↓w_ok, ↓w_ex, ↓w_no, ↓w_bind, ↓w_ite, ↓w_sub, ↓w_mod, ↓w_div, ↓w_pow, ↓w_lt, ↓w_le, ↓w_gt, ↓w_ge, ↓w_addI, ↓w_mulI, ↓w_eqI, ↓w_neI, ↓w_eqS, ↓w_neS, ↓w_isNon, ↓w_isNotNon, ↓w_isB, ↓w_mkT, ↓w_mkF, ↓w_addL, ↓w_addS, ↓w_addT, ↓w_addR, ↓w_mulL, ↓w_ixL, ↓w_ixT2, ↓w_ixR, ↓w_oSl, ↓w_eqLL, ↓w_neLL, ↓w_eqTT, ↓w_neTT, ↓w_eqR, ↓w_neR, ↓w_popAt0, ↓w_append, ↓w_pop, ↓w_lenL, ↓w_lenT, ↓w_lenS, ↓w_lenD, ↓w_lenR, ↓w_tupleL, ↓w_tupleT, ↓w_listL, ↓w_listT, ↓w_min, ↓w_max, ↓w_intI, ↓w_intB, ↓w_abs, ↓w_seqL, ↓w_seqT, ↓w_seqS, ↓w_kR1, ↓w_kR2, ↓w_kEnumL, ↓w_kZipT, ↓w_kZipL, ↓w_inS, vw_non, vw_bl, vw_int, vw_str, vw_lst, vw_tup, vw_dct, vw_obj, vw_ref, vwC_lst, vwC_tup, vwC_dct, vwC_obj, vwC_frz, List.map_cons, List.map_nil, List.nil_append, List.cons_append, List.append_nil, List.length_cons, List.length_nil, List.replicate_zero, List.replicate_succ, List.getElem?_cons_zero, List.getElem?_cons_succ, List.set_cons_zero, List.set_cons_succ, decide_eq_true_eq, Bool.not_eq_true, pureRs_cons, pureRs_nil, pureRs_map, pureRs_ref, Option.map_some, Option.map_none, atI_lit, ixN_lit, oSet_ref, isTy, beq_self_eq_true, pv_d, pv_ref, plain, plains, dep, deps, eqD, eqDs, Nat.zero_le, Nat.max_self, Nat.zero_max, Nat.max_zero, ↓reduceIte, Nat.reduceAdd, Nat.reduceSub, Nat.reduceMul, Nat.reduceLT, Nat.reduceLeDiff, Nat.reduceEqDiff, Nat.zero_add, Int.reduceAdd, Int.reduceSub, Int.reduceMul, Int.reduceLT, Int.reduceLE, Int.reduceEq, Int.reduceNe, Int.reduceNeg, Int.reduceToNat, Int.reducePow, Nat.reducePow, Int.reduceAbs, SL, reduceCtorEq, true_and, and_true, false_and, and_false, ne_eq, not_false_eq_true, not_true_eq_false, Bool.not_true, Bool.not_false, Bool.true_and, Bool.and_true, Bool.false_and, Bool.and_false, Bool.false_eq_true, decide_true, decide_false, Bool.not_eq_eq_eq_not, decide_not, pureC_lst, pureC_tup, pureC_dct, pureC_obj, pureC_frz, hx, q1, q2, hne]
      rw [hll]
      refine ⟨hl0, ?_⟩
      rw [hsd]
      refine takeLoop_wp z sd ⟨xs, x, ys, k⟩ _ hk0 hk (fun found reach h0 => ?_) 63 0 1 (by decide) (by decide) big
      unfold cA cB at fin ⊢
      simp only [↓ws_seq, ↓ws_nil, ↓ws_lift, ↓ws_drop, ↓ws_ret, ↓ws_retN, ↓ws_brk, ↓ws_cont, ↓ws_if, ↓ws_set, ↓ws_asg, ↓ws_gset, ↓ws_gnone, ↓ws_gmore, ↓ws_gtup, ↓ws_gstar, ↓ws_gsub, ↓ws_par, ↓ws_aug, ↓ws_forI, ↓ws_nx, ↓ws_rt, ↓ws_ex, ↓ws_no, ↓w_fn, ↓w_lit, ↓w_var, ↓w_bin, ↓w_esNil, ↓w_esCons, ↓w_tup, ↓w_lst, ↓w_dct0, ↓w_blt, ↓w_bm, ↓w_eand, ↓w_eor, ↓w_enot, ↓w_if, ↓w_chain, ↓w_neg, ↓w_isi, ↓w_isi2, ↓w_sl, ↓w_pn, ↓w_ps, ↓w_revL, ↓w_get2, ↓w_get1, ↓w_inT, ↓w_ixT, ↓w_getT, ↓w_fld, ↓w_call, ↓w_comp, ↓w_yes, ↓w_bcmp, ↓w_bof, ↓w_band, ↓w_bor, ↓w_bnot, ↓w_of, ↓w_srcOf, ↓w_srcSeq, ↓w_srcRev, ↓w_ok, ↓w_ex, ↓w_no, ↓w_bind, ↓w_ite, ↓w_sub, ↓w_mod, ↓w_div, ↓w_pow, ↓w_lt, ↓w_le, ↓w_gt, ↓w_ge, ↓w_addI, ↓w_mulI, ↓w_eqI, ↓w_neI, ↓w_eqS, ↓w_neS, ↓w_isNon, ↓w_isNotNon, ↓w_isB, ↓w_mkT, ↓w_mkF, ↓w_addL, ↓w_addS, ↓w_addT, ↓w_addR, ↓w_mulL, ↓w_ixL, ↓w_ixT2, ↓w_ixR, ↓w_oSl, ↓w_eqLL, ↓w_neLL, ↓w_eqTT, ↓w_neTT, ↓w_eqR, ↓w_neR, ↓w_popAt0, ↓w_append, ↓w_pop, ↓w_lenL, ↓w_lenT, ↓w_lenS, ↓w_lenD, ↓w_lenR, ↓w_tupleL, ↓w_tupleT, ↓w_listL, ↓w_listT, ↓w_min, ↓w_max, ↓w_intI, ↓w_intB, ↓w_abs, ↓w_seqL, ↓w_seqT, ↓w_seqS, ↓w_kR1, ↓w_kR2, ↓w_kEnumL, ↓w_kZipT, ↓w_kZipL, ↓w_inS, vw_non, vw_bl, vw_int, vw_str, vw_lst, vw_tup, vw_dct, vw_obj, vw_ref, vwC_lst, vwC_tup, vwC_dct, vwC_obj, vwC_frz, List.map_cons, List.map_nil, List.nil_append, List.cons_append, List.append_nil, List.length_cons, List.length_nil, List.replicate_zero, List.replicate_succ, List.getElem?_cons_zero, List.getElem?_cons_succ, List.set_cons_zero, List.set_cons_succ, decide_eq_true_eq, Bool.not_eq_true, pureRs_cons, pureRs_nil, pureRs_map, pureRs_ref, Option.map_some, Option.map_none, atI_lit, ixN_lit, oSet_ref, isTy, beq_self_eq_true, pv_d, pv_ref, plain, plains, dep, deps, eqD, eqDs, Nat.zero_le, Nat.max_self, Nat.zero_max, Nat.max_zero, ↓reduceIte, Nat.reduceAdd, Nat.reduceSub, Nat.reduceMul, Nat.reduceLT, Nat.reduceLeDiff, Nat.reduceEqDiff, Nat.zero_add, Int.reduceAdd, Int.reduceSub, Int.reduceMul, Int.reduceLT, Int.reduceLE, Int.reduceEq, Int.reduceNe, Int.reduceNeg, Int.reduceToNat, Int.reducePow, Nat.reducePow, Int.reduceAbs, SL, reduceCtorEq, true_and, and_true, false_and, and_false, ne_eq, not_false_eq_true, not_true_eq_false, Bool.not_true, Bool.not_false, Bool.true_and, Bool.and_true, Bool.false_and, Bool.and_false, Bool.false_eq_true, decide_true, decide_false, Bool.not_eq_eq_eq_not, decide_not, pureC_lst, pureC_tup, pureC_dct, pureC_obj, pureC_frz, hz0]
      exact fin found h0
theorem take_wp (s : Dr) (z : Int) (hz : 0 < z) (hk0 : 0 ≤ s.k) (hk : s.k ≤ 1000000) (hl : z < 10 ^ 100) : wR (mTake [.ref 0, .d (.int z)] [cA 1 s, cB s]) (fun r m => ∃ (n : Int) (s' : Dr), 0 ≤ n ∧ n < z ∧ s'.k = s.k + 1 ∧ r = .d (.int n) ∧ m = [cA 1 s', cB s']) (fun _ _ => False) := by
  obtain ⟨xs, x, ys, k⟩ := s
  dsimp only at hk0 hk ⊢
  obtain ⟨p1, p2⟩ := plains_iDs xs
  have go : ∀ (xs : List Int) (x : Int) (K : Kon), (∀ (n : Int) (s' : Dr), 0 ≤ n → n < z → s'.k = k + 1 → K.rt (.d (.int n)) [cA 1 s', cB s']) → wS (takeRest [some (.ref 0), some (.d (.int z)), none, none, none] [cA 1 ⟨xs, x, ys, k + 1⟩, cB ⟨xs, x, ys, k + 1⟩]) K := fun xs x K h => takeRest_wp z ⟨xs, x, ys, k + 1⟩ K hz hl (by show 0 ≤ k + 1; omega) (by show k + 1 ≤ 1000001; omega) h
  unfold mTake
  by_cases hx : x = 0
  · cases xs with
    | nil =>
      unfold cA cB at go ⊢
      rw [iDs_nil]
      simp only [↓ws_seq, ↓ws_nil, ↓ws_lift, ↓ws_drop, ↓ws_ret, ↓ws_retN, ↓ws_brk, ↓ws_cont, ↓ws_if, ↓ws_set, ↓ws_asg, ↓ws_gset, ↓ws_gnone, ↓ws_gmore, ↓ws_gtup, ↓ws_gstar, ↓ws_gsub, ↓ws_par, ↓ws_aug, ↓ws_forI, ↓ws_nx, ↓ws_rt, ↓ws_ex, ↓ws_no, ↓w_fn, ↓w_lit, ↓w_var, ↓w_bin, ↓w_esNil, ↓w_esCons, ↓w_tup, ↓w_lst, ↓w_dct0, ↓w_blt, ↓w_bm, ↓w_eand, ↓w_eor, ↓w_enot, ↓w_if, ↓w_chain, ↓w_neg, ↓w_isi, ↓w_isi2, ↓w_sl, ↓w_pn, ↓w_ps, ↓w_revL, ↓w_get2, ↓w_get1, ↓w_inT, ↓w_ixT, ↓w_getT, ↓w_fld, ↓w_call, ↓w_comp, ↓w_yes, ↓w_bcmp, ↓w_bof, ↓w_band, ↓w_bor, ↓w_bnot, ↓w_of, ↓w_srcOf, ↓w_srcSeq, ↓w_srcRev, ↓w_ok, ↓w_ex, ↓w_no, ↓w_bind, ↓w_ite, ↓w_sub, ↓w_mod, ↓w_div, ↓w_pow, ↓w_lt, ↓w_le, ↓w_gt, ↓w_ge, ↓w_addI, ↓w_mulI, ↓w_eqI, ↓w_neI, ↓w_eqS, ↓w_neS, ↓w_isNon, ↓w_isNotNon, ↓w_isB, ↓w_mkT, ↓w_mkF, ↓w_addL, ↓w_addS, ↓w_addT, ↓w_addR, ↓w_mulL, ↓w_ixL, ↓w_ixT2, ↓w_ixR, ↓w_oSl, ↓w_eqLL, ↓w_neLL, ↓w_eqTT, ↓w_neTT, ↓w_eqR, ↓w_neR, ↓w_popAt0, ↓w_append, ↓w_pop, ↓w_lenL, ↓w_lenT, ↓w_lenS, ↓w_lenD, ↓w_lenR, ↓w_tupleL, ↓w_tupleT, ↓w_listL, ↓w_listT, ↓w_min, ↓w_max, ↓w_intI, ↓w_intB, ↓w_abs, ↓w_seqL, ↓w_seqT, ↓w_seqS, ↓w_kR1, ↓w_kR2, ↓w_kEnumL, ↓w_kZipT, ↓w_kZipL, ↓w_inS, vw_non, vw_bl, vw_int, vw_str, vw_lst, vw_tup, vw_dct, vw_obj, vw_ref, vwC_lst, vwC_tup, vwC_dct, vwC_obj, vwC_frz, List.map_cons, List.map_nil, List.nil_append, List.cons_append, List.append_nil, List.length_cons, List.length_nil, List.replicate_zero, List.replicate_succ, List.getElem?_cons_zero, List.getElem?_cons_succ, List.set_cons_zero, List.set_cons_succ, decide_eq_true_eq, Bool.not_eq_true, pureRs_cons, pureRs_nil, pureRs_map, pureRs_ref, Option.map_some, Option.map_none, atI_lit, ixN_lit, oSet_ref, isTy, beq_self_eq_true, pv_d, pv_ref, plain, plains, dep, deps, eqD, eqDs, Nat.zero_le, Nat.max_self, Nat.zero_max, Nat.max_zero, ↓reduceIte, Nat.reduceAdd, Nat.reduceSub, Nat.reduceMul, Nat.reduceLT, Nat.reduceLeDiff, Nat.reduceEqDiff, Nat.zero_add, Int.reduceAdd, Int.reduceSub, Int.reduceMul, Int.reduceLT, Int.reduceLE, Int.reduceEq, Int.reduceNe, Int.reduceNeg, Int.reduceToNat, Int.reducePow, Nat.reducePow, Int.reduceAbs, SL, reduceCtorEq, true_and, and_true, false_and, and_false, ne_eq, not_false_eq_true, not_true_eq_false, Bool.not_true, Bool.not_false, Bool.true_and, Bool.and_true, Bool.false_and, Bool.and_false, Bool.false_eq_true, decide_true, decide_false, Bool.not_eq_eq_eq_not, decide_not, pureC_lst, pureC_tup, pureC_dct, pureC_obj, pureC_frz, hx]
      refine go [] 0 _ (fun n s' h0 h1 h2 => ?_)
      exact ⟨n, s', h0, h1, h2, rfl, rfl⟩
    | cons a xs =>
      have e : iDs (a :: xs) = .int a :: iDs xs := rfl
      obtain ⟨p1, p2⟩ := plains_iDs xs
      unfold cA cB at go ⊢
      rw [e]
      simp only [↓ws_seq, ↓ws_nil, ↓ws_lift, ↓ws_drop, ↓ws_ret, ↓ws_retN, ↓ws_brk, ↓ws_cont, ↓ws_if, ↓ws_set, ↓ws_asg, ↓ws_gset, ↓ws_gnone, ↓ws_gmore, ↓ws_gtup, ↓ws_gstar, ↓ws_gsub, ↓ws_par, ↓ws_aug, ↓ws_forI, ↓ws_nx, ↓ws_rt, ↓ws_ex, ↓ws_no, ↓w_fn, ↓w_lit, ↓w_var, ↓w_bin, ↓w_esNil, ↓w_esCons, ↓w_tup, ↓w_lst, ↓w_dct0, ↓w_blt, ↓w_bm, ↓w_eand, ↓w_eor, ↓w_enot, ↓w_if, ↓w_chain, ↓w_neg, ↓w_isi, ↓w_isi2, ↓w_sl, ↓w_pn, ↓w_ps, ↓w_revL, ↓w_get2, ↓w_get1, ↓w_inT, ↓w_ixT, ↓w_getT, ↓w_fld, ↓w_call, ↓w_comp, ↓w_yes, ↓w_bcmp, ↓w_bof, ↓w_band, ↓w_bor, ↓w_bnot, ↓w_of, ↓w_srcOf, ↓w_srcSeq, ↓w_srcRev, ↓w_ok, ↓w_ex, ↓w_no, ↓w_bind, ↓w_ite, ↓w_sub, ↓w_mod, ↓w_div, ↓w_pow, ↓w_lt, ↓w_le, ↓w_gt, ↓w_ge, ↓w_addI, ↓w_mulI, ↓w_eqI, ↓w_neI, ↓w_eqS, ↓w_neS, ↓w_isNon, ↓w_isNotNon, ↓w_isB, ↓w_mkT, ↓w_mkF, ↓w_addL, ↓w_addS, ↓w_addT, ↓w_addR, ↓w_mulL, ↓w_ixL, ↓w_ixT2, ↓w_ixR, ↓w_oSl, ↓w_eqLL, ↓w_neLL, ↓w_eqTT, ↓w_neTT, ↓w_eqR, ↓w_neR, ↓w_popAt0, ↓w_append, ↓w_pop, ↓w_lenL, ↓w_lenT, ↓w_lenS, ↓w_lenD, ↓w_lenR, ↓w_tupleL, ↓w_tupleT, ↓w_listL, ↓w_listT, ↓w_min, ↓w_max, ↓w_intI, ↓w_intB, ↓w_abs, ↓w_seqL, ↓w_seqT, ↓w_seqS, ↓w_kR1, ↓w_kR2, ↓w_kEnumL, ↓w_kZipT, ↓w_kZipL, ↓w_inS, vw_non, vw_bl, vw_int, vw_str, vw_lst, vw_tup, vw_dct, vw_obj, vw_ref, vwC_lst, vwC_tup, vwC_dct, vwC_obj, vwC_frz, List.map_cons, List.map_nil, List.nil_append, List.cons_append, List.append_nil, List.length_cons, List.length_nil, List.replicate_zero, List.replicate_succ, List.getElem?_cons_zero, List.getElem?_cons_succ, List.set_cons_zero, List.set_cons_succ, decide_eq_true_eq, Bool.not_eq_true, pureRs_cons, pureRs_nil, pureRs_map, pureRs_ref, Option.map_some, Option.map_none, atI_lit, ixN_lit, oSet_ref, isTy, beq_self_eq_true, pv_d, pv_ref, plain, plains, dep, deps, eqD, eqDs, Nat.zero_le, Nat.max_self, Nat.zero_max, Nat.max_zero, ↓reduceIte, Nat.reduceAdd, Nat.reduceSub, Nat.reduceMul, Nat.reduceLT, Nat.reduceLeDiff, Nat.reduceEqDiff, Nat.zero_add, Int.reduceAdd, Int.reduceSub, Int.reduceMul, Int.reduceLT, Int.reduceLE, Int.reduceEq, Int.reduceNe, Int.reduceNeg, Int.reduceToNat, Int.reducePow, Nat.reducePow, Int.reduceAbs, SL, reduceCtorEq, true_and, and_true, false_and, and_false, ne_eq, not_false_eq_true, not_true_eq_false, Bool.not_true, Bool.not_false, Bool.true_and, Bool.and_true, Bool.false_and, Bool.and_false, Bool.false_eq_true, decide_true, decide_false, Bool.not_eq_eq_eq_not, decide_not, pureC_lst, pureC_tup, pureC_dct, pureC_obj, pureC_frz, hx, p1, p2]
      exact go xs a _ fun n s' h0 h1 h2 => ⟨n, s', h0, h1, h2, rfl, rfl⟩
  · unfold cA cB at go ⊢
    simp only [↓ws_seq, ↓ws_nil, ↓ws_lift, ↓ws_drop, ↓ws_ret, ↓ws_retN, ↓ws_brk, ↓ws_cont, ↓ws_if, ↓ws_set, ↓ws_asg, ↓ws_gset, ↓ws_gnone, ↓ws_gmore, ↓ws_gtup, ↓ws_gstar, ↓ws_gsub, ↓ws_par, ↓ws_aug, ↓ws_forI, ↓ws_nx, ↓ws_rt, ↓ws_ex, ↓ws_no, ↓w_fn, ↓w_lit, ↓w_var, ↓w_bin, ↓w_esNil, ↓w_esCons, ↓w_tup, ↓w_lst, ↓w_dct0, ↓w_blt, ↓w_bm, ↓w_eand, ↓w_eor, ↓w_enot, ↓w_if, ↓w_chain, ↓w_neg, ↓w_isi, ↓w_isi2, ↓w_sl, ↓w_pn, ↓w_ps, ↓w_revL, ↓w_get2, ↓w_get1, ↓w_inT, ↓w_ixT, ↓w_getT, ↓w_fld, ↓w_call, ↓w_comp, ↓w_yes, ↓w_bcmp, ↓w_bof, ↓w_band, ↓w_bor, ↓w_bnot, ↓w_of, ↓w_srcOf, ↓w_srcSeq, ↓w_srcRev, ↓w_ok, ↓w_ex, ↓w_no, ↓w_bind, ↓w_ite, ↓w_sub, ↓w_mod, ↓w_div, ↓w_pow, ↓w_lt, ↓w_le, ↓w_gt, ↓w_ge, ↓w_addI, ↓w_mulI, ↓w_eqI, ↓w_neI, ↓w_eqS, ↓w_neS, ↓w_isNon, ↓w_isNotNon, ↓w_isB, ↓w_mkT, ↓w_mkF, ↓w_addL, ↓w_addS, ↓w_addT, ↓w_addR, ↓w_mulL, ↓w_ixL, ↓w_ixT2, ↓w_ixR, ↓w_oSl, ↓w_eqLL, ↓w_neLL, ↓w_eqTT, ↓w_neTT, ↓w_eqR, ↓w_neR, ↓w_popAt0, ↓w_append, ↓w_pop, ↓w_lenL, ↓w_lenT, ↓w_lenS, ↓w_lenD, ↓w_lenR, ↓w_tupleL, ↓w_tupleT, ↓w_listL, ↓w_listT, ↓w_min, ↓w_max, ↓w_intI, ↓w_intB, ↓w_abs, ↓w_seqL, ↓w_seqT, ↓w_seqS, ↓w_kR1, ↓w_kR2, ↓w_kEnumL, ↓w_kZipT, ↓w_kZipL, ↓w_inS, vw_non, vw_bl, vw_int, vw_str, vw_lst, vw_tup, vw_dct, vw_obj, vw_ref, vwC_lst, vwC_tup, vwC_dct, vwC_obj, vwC_frz, List.map_cons, List.map_nil, List.nil_append, List.cons_append, List.append_nil, List.length_cons, List.length_nil, List.replicate_zero, List.replicate_succ, List.getElem?_cons_zero, List.getElem?_cons_succ, List.set_cons_zero, List.set_cons_succ, decide_eq_true_eq, Bool.not_eq_true, pureRs_cons, pureRs_nil, pureRs_map, pureRs_ref, Option.map_some, Option.map_none, atI_lit, ixN_lit, oSet_ref, isTy, beq_self_eq_true, pv_d, pv_ref, plain, plains, dep, deps, eqD, eqDs, Nat.zero_le, Nat.max_self, Nat.zero_max, Nat.max_zero, ↓reduceIte, Nat.reduceAdd, Nat.reduceSub, Nat.reduceMul, Nat.reduceLT, Nat.reduceLeDiff, Nat.reduceEqDiff, Nat.zero_add, Int.reduceAdd, Int.reduceSub, Int.reduceMul, Int.reduceLT, Int.reduceLE, Int.reduceEq, Int.reduceNe, Int.reduceNeg, Int.reduceToNat, Int.reducePow, Nat.reducePow, Int.reduceAbs, SL, reduceCtorEq, true_and, and_true, false_and, and_false, ne_eq, not_false_eq_true, not_true_eq_false, Bool.not_true, Bool.not_false, Bool.true_and, Bool.and_true, Bool.false_and, Bool.and_false, Bool.false_eq_true, decide_true, decide_false, Bool.not_eq_eq_eq_not, decide_not, pureC_lst, pureC_tup, pureC_dct, pureC_obj, pureC_frz, hx]
    exact go xs x _ fun n s' h0 h1 h2 => ⟨n, s', h0, h1, h2, rfl, rfl⟩
end Lc
set_option Elab.async false
set_option linter.all false
set_option maxRecDepth 100000
set_option maxHeartbeats 4000000
/-! Calls that draw. -/
namespace Lc
open PySem PySem.Spec PyProof.Rows L2 LcX
structure AtD (M : Mem) (i j : Nat) (s : Dr) : Prop where
  a : M[i]? = some (cA j s)
  b : M[j]? = some (cB s)
  ne : i ≠ j
def putD (M : Mem) (i j : Nat) (s : Dr) : Mem := (M.set i (cA j s)).set j (cB s)
theorem AtD.put {M : Mem} {i j : Nat} {s : Dr} (h : AtD M i j s) (s' : Dr) : AtD (putD M i j s') i j s' := by
  have hi : i < M.length := (List.getElem?_eq_some_iff.mp h.a).1
  have hj : j < M.length := (List.getElem?_eq_some_iff.mp h.b).1
  have ne := h.ne
  refine ⟨?_, ?_, h.ne⟩
  · unfold putD
    rw [List.getElem?_set_ne (Ne.symm ne), List.getElem?_set_self hi]
  · unfold putD
    rw [List.getElem?_set_self (by simpa using hj)]
theorem putD_len (M : Mem) (i j : Nat) (s : Dr) : (putD M i j s).length = M.length := by simp [putD]
theorem putD_get {M : Mem} {i j k : Nat} {s : Dr} (h1 : k ≠ i) (h2 : k ≠ j) : (putD M i j s)[k]? = M[k]? := by
  unfold putD
  rw [List.getElem?_set_ne (Ne.symm h2), List.getElem?_set_ne (Ne.symm h1)]
theorem putD_01 (s s' : Dr) (ex : Mem) : putD (cA 1 s :: cB s :: ex) 0 1 s' = cA 1 s' :: cB s' :: ex := rfl
theorem atD_01 (s : Dr) (ex : Mem) : AtD (cA 1 s :: cB s :: ex) 0 1 s := ⟨rfl, rfl, by decide⟩
theorem gcRs_cB (n : Nat) (M : Mem) (s : Dr) : gcC n M (cB s) = some (cB s) := by
  show (gcRs n M ((iDs s.xs).map .d)).map Cell.lst = _
  rw [gcRs_map]
  rfl
theorem gcC_cA (M : Mem) (s : Dr) : gcC 2 M (cA 1 s) = some (cA 1 s) := rfl
theorem subRs_d {is : List Nat} {r r' : R} {ds : List D} (h : subR is r = some r') : subRs is (r :: ds.map .d) = some (r' :: ds.map .d) := by
  show (match subR is r, subRs is (ds.map .d) with
    | some a, some as => some (a :: as)
    | _, _ => none) = _
  rw [h, subRs_mapD]
theorem call_draw {m : Fn} {ds : List D} {M : Mem} {i j : Nat} {s : Dr} (h : AtD M i j s) {P : D → Dr → Prop} {Q : R → Mem → Prop} {X : Xn → Mem → Prop}
    (hm : wR (m (.ref 0 :: ds.map .d) [cA 1 s, cB s]) (fun r m1 => ∃ v s' ex, P v s' ∧ m1 = cA 1 s' :: cB s' :: ex ∧ gcR 2 m1 r = some (.d v)) (fun _ _ => False)) (hQ : ∀ v s', P v s' → Q (.d v) (putD M i j s')) :
    wR (call false m (.ref i :: ds.map .d) M) Q X := by
  obtain ⟨r, m1, e, v, s', ex, p, rfl, hg⟩ := ok_of_wR hm
  have ha := h.a
  have hb := h.b
  have ne := h.ne
  have pi : place [i, j] i = some 0 := by simp [place, List.findIdx?_cons]
  have pj : place [i, j] j = some 1 := by simp [place, List.findIdx?_cons, ne]
  have hr : reach M 60 (refsRs (.ref i :: ds.map .d)) [] = [i, j] := by
    show reach M 60 ([i] ++ refsRs (ds.map .d)) [] = _
    rw [refsRs_map]
    show (if i ∈ ([] : List Nat) then _ else match M[i]? with
      | some c => reach M 59 (refsC c ++ []) ([] ++ [i])
      | none => _) = _
    rw [if_neg (by simp), ha]
    show reach M 59 [j] [i] = _
    show (if j ∈ [i] then _ else match M[j]? with
      | some c => reach M 58 (refsC c ++ []) ([i] ++ [j])
      | none => _) = _
    rw [if_neg (by simpa using Ne.symm ne), hb]
    show reach M 58 (refsRs ((iDs s.xs).map .d) ++ []) [i, j] = _
    rw [refsRs_map]
    rfl
  have hs1 : subRs [i, j] (.ref i :: ds.map .d) = some (.ref 0 :: ds.map .d) := subRs_d (by simp [subR, pi])
  have cAs : subC [i, j] (cA j s) = some (cA 1 s) := by
    show (subRs [i, j] (.ref j :: [D.int s.x, D.lst (iDs s.ys), D.int s.k].map .d)).map Cell.lst = _
    rw [subRs_d (r' := .ref 1) (by simp [subR, pj])]
    rfl
  have cBs : subC [i, j] (cB s) = some (cB s) := by
    show (subRs [i, j] ((iDs s.xs).map .d)).map Cell.lst = _
    rw [subRs_mapD]
    rfl
  have hs2 : subM [i, j] M [i, j] = some [cA 1 s, cB s] := by
    simp [subM, ha, hb, cAs, cBs]
  unfold call
  dsimp only
  rw [hr, hs1, hs2]
  dsimp only
  rw [e]
  have hgc : gc 2 r (cA 1 s' :: cB s' :: ex) = .ok (.d v) [cA 1 s', cB s'] := by
    unfold gc
    rw [hg]
    have z : gcM 2 (cA 1 s' :: cB s' :: ex) (List.take 2 (cA 1 s' :: cB s' :: ex)) = some [cA 1 s', cB s'] := by
      show (match gcC 2 _ (cA 1 s'), gcM 2 _ [cB s'] with
        | some a, some as => some (a :: as)
        | _, _ => none) = _
      rw [gcC_cA]
      show (match some (cA 1 s'), (match gcC 2 _ (cB s'), gcM 2 _ [] with
        | some a, some as => some (a :: as)
        | _, _ => none) with
        | some a, some as => some (a :: as)
        | _, _ => none) = _
      rw [gcRs_cB]
      rfl
    rw [z]
  show wR (match gc 2 r (cA 1 s' :: cB s' :: ex) with
    | .ok r M2 => .ok (backR [i, j] M.length r) (wb [i, j] M M2)
    | _ => .no) Q X
  rw [hgc]
  have hw : wb [i, j] M [cA 1 s', cB s'] = putD M i j s' := by
    have b1 : backC [i, j] M.length (cA 1 s') = cA j s' := rfl
    have b2 : backC [i, j] M.length (cB s') = cB s' := by
      show Cell.lst (((iDs s'.xs).map R.d).map (backR [i, j] M.length)) = Cell.lst ((iDs s'.xs).map R.d)
      rw [List.map_map]
      rfl
    show wr [i, j] [backC [i, j] M.length (cA 1 s'), backC [i, j] M.length (cB s')] M ++ [] = _
    rw [b1, b2, List.append_nil]
    rfl
  show Q (.d v) (wb [i, j] M [cA 1 s', cB s'])
  rw [hw]
  exact hQ v s' p
/-- a draw below z -/
theorem take_call {M : Mem} {i j : Nat} {s : Dr} {z : Int} {Q : R → Mem → Prop} {X : Xn → Mem → Prop} (h : AtD M i j s) (hz : 0 < z) (hk0 : 0 ≤ s.k) (hk : s.k ≤ 1000000) (hl : z < 10 ^ 100)
    (hQ : ∀ (n : Int) s', 0 ≤ n → n < z → s'.k = s.k + 1 → Q (.d (.int n)) (putD M i j s')) : wR (call false mTake [.ref i, .d (.int z)] M) Q X :=
  call_draw (ds := [.int z]) h (P := fun v s' => ∃ n : Int, 0 ≤ n ∧ n < z ∧ s'.k = s.k + 1 ∧ v = .int n) (wR.mono (take_wp s z hz hk0 hk hl) fun r m1 q => by
    obtain ⟨n, s', h1, h2, h3, rfl, rfl⟩ := q
    exact ⟨_, s', [], ⟨n, h1, h2, h3, rfl⟩, rfl, rfl⟩) fun v s' q => by
    obtain ⟨n, h1, h2, h3, rfl⟩ := q
    exact hQ n s' h1 h2 h3
/-- .. where the draws are the first two cells -/
theorem take01 {s : Dr} {ex : Mem} {z : Int} {Q : R → Mem → Prop} {X : Xn → Mem → Prop} (hz : 0 < z) (hk0 : 0 ≤ s.k) (hk : s.k ≤ 1000000) (hl : z < 10 ^ 100)
    (hQ : ∀ (n : Int) s', 0 ≤ n → n < z → s'.k = s.k + 1 → Q (.d (.int n)) (cA 1 s' :: cB s' :: ex)) : wR (call false mTake [.ref 0, .d (.int z)] (cA 1 s :: cB s :: ex)) Q X :=
  take_call (atD_01 s ex) hz hk0 hk hl fun n s' h1 h2 h3 => hQ n s' h1 h2 h3
def mNumber : Fn := fnOf 3 (sSeq (sSet 1 (eCall false 2 mTake (esCons (eVar 0) (esCons (eLit (.int 8)) esNil)) []))
  (sSeq (sIf (bCmp (eBin oLt (eVar 1) (eLit (.int 6)))) (sRet (eBin oSub (eCall false 2 mTake (esCons (eVar 0) (esCons (eLit (.int 12)) esNil)) []) (eLit (.int 3))))
  sNil)
  (sSeq (sSet 2 (eCall false 2 mTake (esCons (eVar 0) (esCons (eBin oIx (eLst false (esCons (eBin oPow (eLit (.int 10)) (eLit (.int 6))) (esCons (eBin oPow (eLit (.int 10)) (eLit (.int 40))) esNil))) (eBin oSub (eVar 1) (eLit (.int 6)))) esNil)) []))
  (sRet (eBin oIx (eLst false (esCons (eVar 2) (esCons (eBin oSub (eLit (.int 0)) (eVar 2)) esNil))) (eCall false 2 mTake (esCons (eVar 0) (esCons (eLit (.int 2)) esNil)) []))))))
def numOk (n : Int) : Prop := -(10 ^ 40) < n ∧ n < 10 ^ 40
theorem number_wp (s : Dr) (hk0 : 0 ≤ s.k) (hk : s.k ≤ 900000) : wR (mNumber [.ref 0] [cA 1 s, cB s]) (fun r m => ∃ (n : Int) (s' : Dr), numOk n ∧ s.k ≤ s'.k ∧ s'.k ≤ s.k + 3 ∧ r = .d (.int n) ∧ m = [cA 1 s', cB s']) (fun _ _ => False) := by
  unfold mNumber
  simp only [↓ws_seq, ↓ws_nil, ↓ws_lift, ↓ws_drop, ↓ws_ret, ↓ws_retN, ↓ws_brk, ↓ws_cont, ↓ws_if, ↓ws_set, ↓ws_asg, ↓ws_gset, ↓ws_gnone, ↓ws_gmore, ↓ws_gtup, ↓ws_gstar, ↓ws_gsub, ↓ws_par, ↓ws_aug, ↓ws_forI, ↓ws_nx, ↓ws_rt, ↓ws_ex, ↓ws_no, ↓w_fn, ↓w_lit, ↓w_var, ↓w_bin, ↓w_esNil, ↓w_esCons, ↓w_tup, ↓w_lst, ↓w_dct0, ↓w_blt, ↓w_bm, ↓w_eand, ↓w_eor, ↓w_enot, ↓w_if, ↓w_chain, ↓w_neg, ↓w_isi, ↓w_isi2, ↓w_sl, ↓w_pn, ↓w_ps, ↓w_revL, ↓w_get2, ↓w_get1, ↓w_inT, ↓w_ixT, ↓w_getT, ↓w_fld, ↓w_call, ↓w_comp, ↓w_yes, ↓w_bcmp, ↓w_bof, ↓w_band, ↓w_bor, ↓w_bnot, ↓w_of, ↓w_srcOf, ↓w_srcSeq, ↓w_srcRev, ↓w_ok, ↓w_ex, ↓w_no, ↓w_bind, ↓w_ite, ↓w_sub, ↓w_mod, ↓w_div, ↓w_pow, ↓w_lt, ↓w_le, ↓w_gt, ↓w_ge, ↓w_addI, ↓w_mulI, ↓w_eqI, ↓w_neI, ↓w_eqS, ↓w_neS, ↓w_isNon, ↓w_isNotNon, ↓w_isB, ↓w_mkT, ↓w_mkF, ↓w_addL, ↓w_addS, ↓w_addT, ↓w_addR, ↓w_mulL, ↓w_ixL, ↓w_ixT2, ↓w_ixR, ↓w_oSl, ↓w_eqLL, ↓w_neLL, ↓w_eqTT, ↓w_neTT, ↓w_eqR, ↓w_neR, ↓w_popAt0, ↓w_append, ↓w_pop, ↓w_lenL, ↓w_lenT, ↓w_lenS, ↓w_lenD, ↓w_lenR, ↓w_tupleL, ↓w_tupleT, ↓w_listL, ↓w_listT, ↓w_min, ↓w_max, ↓w_intI, ↓w_intB, ↓w_abs, ↓w_seqL, ↓w_seqT, ↓w_seqS, ↓w_kR1, ↓w_kR2, ↓w_kEnumL, ↓w_kZipT, ↓w_kZipL, ↓w_inS, vw_non, vw_bl, vw_int, vw_str, vw_lst, vw_tup, vw_dct, vw_obj, vw_ref, vwC_lst, vwC_tup, vwC_dct, vwC_obj, vwC_frz, List.map_cons, List.map_nil, List.nil_append, List.cons_append, List.append_nil, List.length_cons, List.length_nil, List.replicate_zero, List.replicate_succ, List.getElem?_cons_zero, List.getElem?_cons_succ, List.set_cons_zero, List.set_cons_succ, decide_eq_true_eq, Bool.not_eq_true, pureRs_cons, pureRs_nil, pureRs_map, pureRs_ref, Option.map_some, Option.map_none, atI_lit, ixN_lit, oSet_ref, isTy, beq_self_eq_true, pv_d, pv_ref, plain, plains, dep, deps, eqD, eqDs, Nat.zero_le, Nat.max_self, Nat.zero_max, Nat.max_zero, ↓reduceIte, Nat.reduceAdd, Nat.reduceSub, Nat.reduceMul, Nat.reduceLT, Nat.reduceLeDiff, Nat.reduceEqDiff, Nat.zero_add, Int.reduceAdd, Int.reduceSub, Int.reduceMul, Int.reduceLT, Int.reduceLE, Int.reduceEq, Int.reduceNe, Int.reduceNeg, Int.reduceToNat, Int.reducePow, Nat.reducePow, Int.reduceAbs, SL, reduceCtorEq, true_and, and_true, false_and, and_false, ne_eq, not_false_eq_true, not_true_eq_false, Bool.not_true, Bool.not_false, Bool.true_and, Bool.and_true, Bool.false_and, Bool.and_false, Bool.false_eq_true, decide_true, decide_false, Bool.not_eq_eq_eq_not, decide_not, pureC_lst, pureC_tup, pureC_dct, pureC_obj, pureC_frz]
  refine take01 (by decide) hk0 (by omega) (by decide) fun n s1 h0 h1 hk1 => ?_
  by_cases c : n < 6
  · simp only [↓ws_seq, ↓ws_nil, ↓ws_lift, ↓ws_drop, ↓ws_ret, ↓ws_retN, ↓ws_brk, ↓ws_cont, ↓ws_if, ↓ws_set, ↓ws_asg, ↓ws_gset, ↓ws_gnone, ↓ws_gmore, ↓ws_gtup, ↓ws_gstar, ↓ws_gsub, ↓ws_par, ↓ws_aug, ↓ws_forI, ↓ws_nx, ↓ws_rt, ↓ws_ex, ↓ws_no, ↓w_fn, ↓w_lit, ↓w_var, ↓w_bin, ↓w_esNil, ↓w_esCons, ↓w_tup, ↓w_lst, ↓w_dct0, ↓w_blt, ↓w_bm, ↓w_eand, ↓w_eor, ↓w_enot, ↓w_if, ↓w_chain, ↓w_neg, ↓w_isi, ↓w_isi2, ↓w_sl, ↓w_pn, ↓w_ps, ↓w_revL, ↓w_get2, ↓w_get1, ↓w_inT, ↓w_ixT, ↓w_getT, ↓w_fld, ↓w_call, ↓w_comp, ↓w_yes, ↓w_bcmp, ↓w_bof, ↓w_band, ↓w_bor, ↓w_bnot, ↓w_of, ↓w_srcOf, ↓w_srcSeq, ↓w_srcRev, ↓w_ok, ↓w_ex, ↓w_no, ↓w_bind, ↓w_ite, ↓w_sub, ↓w_mod, ↓w_div, ↓w_pow, ↓w_lt, ↓w_le, ↓w_gt, ↓w_ge, ↓w_addI, ↓w_mulI, ↓w_eqI, ↓w_neI, ↓w_eqS, ↓w_neS, ↓w_isNon, ↓w_isNotNon, ↓w_isB, ↓w_mkT, ↓w_mkF, ↓w_addL, ↓w_addS, ↓w_addT, ↓w_addR, ↓w_mulL, ↓w_ixL, ↓w_ixT2, ↓w_ixR, ↓w_oSl, ↓w_eqLL, ↓w_neLL, ↓w_eqTT, ↓w_neTT, ↓w_eqR, ↓w_neR, ↓w_popAt0, ↓w_append, ↓w_pop, ↓w_lenL, ↓w_lenT, ↓w_lenS, ↓w_lenD, ↓w_lenR, ↓w_tupleL, ↓w_tupleT, ↓w_listL, ↓w_listT, ↓w_min, ↓w_max, ↓w_intI, ↓w_intB, ↓w_abs, ↓w_seqL, ↓w_seqT, ↓w_seqS, ↓w_kR1, ↓w_kR2, ↓w_kEnumL, ↓w_kZipT, ↓w_kZipL, ↓w_inS, vw_non, vw_bl, vw_int, vw_str, vw_lst, vw_tup, vw_dct, vw_obj, vw_ref, vwC_lst, vwC_tup, vwC_dct, vwC_obj, vwC_frz, List.map_cons, List.map_nil, List.nil_append, List.cons_append, List.append_nil, List.length_cons, List.length_nil, List.replicate_zero, List.replicate_succ, List.getElem?_cons_zero, List.getElem?_cons_succ, List.set_cons_zero, List.set_cons_succ, decide_eq_true_eq, Bool.not_eq_true, pureRs_cons, pureRs_nil, pureRs_map, pureRs_ref, Option.map_some, Option.map_none, atI_lit, ixN_lit, oSet_ref, isTy, beq_self_eq_true, pv_d, pv_ref, plain, plains, dep, deps, eqD, eqDs, Nat.zero_le, Nat.max_self, Nat.zero_max, Nat.max_zero, ↓reduceIte, Nat.reduceAdd, Nat.reduceSub, Nat.reduceMul, Nat.reduceLT, Nat.reduceLeDiff, Nat.reduceEqDiff, Nat.zero_add, Int.reduceAdd, Int.reduceSub, Int.reduceMul, Int.reduceLT, Int.reduceLE, Int.reduceEq, Int.reduceNe, Int.reduceNeg, Int.reduceToNat, Int.reducePow, Nat.reducePow, Int.reduceAbs, SL, reduceCtorEq, true_and, and_true, false_and, and_false, ne_eq, not_false_eq_true, not_true_eq_false, Bool.not_true, Bool.not_false, Bool.true_and, Bool.and_true, Bool.false_and, Bool.and_false, Bool.false_eq_true, decide_true, decide_false, Bool.not_eq_eq_eq_not, decide_not, pureC_lst, pureC_tup, pureC_dct, pureC_obj, pureC_frz, c]
    refine take01 (by decide) (by omega) (by omega) (by decide) fun n2 s2 g0 g1 hk2 => ?_
    simp only [↓ws_seq, ↓ws_nil, ↓ws_lift, ↓ws_drop, ↓ws_ret, ↓ws_retN, ↓ws_brk, ↓ws_cont, ↓ws_if, ↓ws_set, ↓ws_asg, ↓ws_gset, ↓ws_gnone, ↓ws_gmore, ↓ws_gtup, ↓ws_gstar, ↓ws_gsub, ↓ws_par, ↓ws_aug, ↓ws_forI, ↓ws_nx, ↓ws_rt, ↓ws_ex, ↓ws_no, ↓w_fn, ↓w_lit, ↓w_var, ↓w_bin, ↓w_esNil, ↓w_esCons, ↓w_tup, ↓w_lst, ↓w_dct0, ↓w_blt, ↓w_bm, ↓w_eand, ↓w_eor, ↓w_enot, ↓w_if, ↓w_chain, ↓w_neg, ↓w_isi, ↓w_isi2, ↓w_sl, ↓w_pn, ↓w_ps, ↓w_revL, ↓w_get2, ↓w_get1, ↓w_inT, ↓w_ixT, ↓w_getT, ↓w_fld, ↓w_call, ↓w_comp, ↓w_yes, ↓w_bcmp, ↓w_bof, ↓w_band, ↓w_bor, ↓w_bnot, ↓w_of, ↓w_srcOf, ↓w_srcSeq, ↓w_srcRev, ↓w_ok, ↓w_ex, ↓w_no, ↓w_bind, ↓w_ite, ↓w_sub, ↓w_mod, ↓w_div, ↓w_pow, ↓w_lt, ↓w_le, ↓w_gt, ↓w_ge, ↓w_addI, ↓w_mulI, ↓w_eqI, ↓w_neI, ↓w_eqS, ↓w_neS, ↓w_isNon, ↓w_isNotNon, ↓w_isB, ↓w_mkT, ↓w_mkF, ↓w_addL, ↓w_addS, ↓w_addT, ↓w_addR, ↓w_mulL, ↓w_ixL, ↓w_ixT2, ↓w_ixR, ↓w_oSl, ↓w_eqLL, ↓w_neLL, ↓w_eqTT, ↓w_neTT, ↓w_eqR, ↓w_neR, ↓w_popAt0, ↓w_append, ↓w_pop, ↓w_lenL, ↓w_lenT, ↓w_lenS, ↓w_lenD, ↓w_lenR, ↓w_tupleL, ↓w_tupleT, ↓w_listL, ↓w_listT, ↓w_min, ↓w_max, ↓w_intI, ↓w_intB, ↓w_abs, ↓w_seqL, ↓w_seqT, ↓w_seqS, ↓w_kR1, ↓w_kR2, ↓w_kEnumL, ↓w_kZipT, ↓w_kZipL, ↓w_inS, vw_non, vw_bl, vw_int, vw_str, vw_lst, vw_tup, vw_dct, vw_obj, vw_ref, vwC_lst, vwC_tup, vwC_dct, vwC_obj, vwC_frz, List.map_cons, List.map_nil, List.nil_append, List.cons_append, List.append_nil, List.length_cons, List.length_nil, List.replicate_zero, List.replicate_succ, List.getElem?_cons_zero, List.getElem?_cons_succ, List.set_cons_zero, List.set_cons_succ, decide_eq_true_eq, Bool.not_eq_true, pureRs_cons, pureRs_nil, pureRs_map, pureRs_ref, Option.map_some, Option.map_none, atI_lit, ixN_lit, oSet_ref, isTy, beq_self_eq_true, pv_d, pv_ref, plain, plains, dep, deps, eqD, eqDs, Nat.zero_le, Nat.max_self, Nat.zero_max, Nat.max_zero, ↓reduceIte, Nat.reduceAdd, Nat.reduceSub, Nat.reduceMul, Nat.reduceLT, Nat.reduceLeDiff, Nat.reduceEqDiff, Nat.zero_add, Int.reduceAdd, Int.reduceSub, Int.reduceMul, Int.reduceLT, Int.reduceLE, Int.reduceEq, Int.reduceNe, Int.reduceNeg, Int.reduceToNat, Int.reducePow, Nat.reducePow, Int.reduceAbs, SL, reduceCtorEq, true_and, and_true, false_and, and_false, ne_eq, not_false_eq_true, not_true_eq_false, Bool.not_true, Bool.not_false, Bool.true_and, Bool.and_true, Bool.false_and, Bool.and_false, Bool.false_eq_true, decide_true, decide_false, Bool.not_eq_eq_eq_not, decide_not, pureC_lst, pureC_tup, pureC_dct, pureC_obj, pureC_frz]
    exact ⟨_, s2, ⟨by omega, by omega⟩, by omega, by omega, rfl, rfl⟩
  · have key : ∀ z : Int, 0 < z → z ≤ 10 ^ 40 → wR (call false mTake [.ref 0, .d (.int z)] [cA 1 s1, cB s1]) (fun r m => ∃ (n : Int) (s' : Dr), 0 ≤ n ∧ n < 10 ^ 40 ∧ s'.k = s1.k + 1 ∧ r = .d (.int n) ∧ m = [cA 1 s', cB s']) (fun _ _ => False) := fun z z0 z1 =>
      take01 z0 (by omega) (by omega) (by omega) fun n s' h1 h2 h3 => ⟨n, s', h1, by omega, h3, rfl, rfl⟩
    have n67 : n = 6 ∨ n = 7 := by omega
    have fin : ∀ z : Int, 0 < z → z ≤ 10 ^ 40 → wR (call false mTake [.ref 0, .d (.int z)] [cA 1 s1, cB s1]) (fun r m => ∃ (n : Int) (s' : Dr), 0 ≤ n ∧ n < 10 ^ 40 ∧ s'.k = s1.k + 1 ∧ r = .d (.int n) ∧ m = [cA 1 s', cB s']) (fun _ _ => False) := key
    have last : ∀ (g : Int) (s2 : Dr), 0 ≤ g → g < 10 ^ 40 → s2.k = s1.k + 1 → wR (call false mTake [.ref 0, .d (.int 2)] [cA 1 s2, cB s2]) (fun y m => wR (oIx (.d (.lst [.int g, .int (0 - g)])) y m) (fun r m => ∃ (n : Int) (s' : Dr), numOk n ∧ s.k ≤ s'.k ∧ s'.k ≤ s.k + 3 ∧ r = .d (.int n) ∧ m = [cA 1 s', cB s']) (fun _ _ => False)) (fun _ _ => False) := by
      intro g s2 g0 g1 hk2
      refine take01 (by decide) (by omega) (by omega) (by decide) fun n3 s3 e0 e1 hk3 => ?_
      have n01 : n3 = 0 ∨ n3 = 1 := by omega
      rcases n01 with rfl | rfl
      · simp only [↓ws_seq, ↓ws_nil, ↓ws_lift, ↓ws_drop, ↓ws_ret, ↓ws_retN, ↓ws_brk, ↓ws_cont, ↓ws_if, ↓ws_set, ↓ws_asg, ↓ws_gset, ↓ws_gnone, ↓ws_gmore, ↓ws_gtup, ↓ws_gstar, ↓ws_gsub, ↓ws_par, ↓ws_aug, ↓ws_forI, ↓ws_nx, ↓ws_rt, ↓ws_ex, ↓ws_no, ↓w_fn, ↓w_lit, ↓w_var, ↓w_bin, ↓w_esNil, ↓w_esCons, ↓w_tup, ↓w_lst, ↓w_dct0, ↓w_blt, ↓w_bm, ↓w_eand, ↓w_eor, ↓w_enot, ↓w_if, ↓w_chain, ↓w_neg, ↓w_isi, ↓w_isi2, ↓w_sl, ↓w_pn, ↓w_ps, ↓w_revL, ↓w_get2, ↓w_get1, ↓w_inT, ↓w_ixT, ↓w_getT, ↓w_fld, ↓w_call, ↓w_comp, ↓w_yes, ↓w_bcmp, ↓w_bof, ↓w_band, ↓w_bor, ↓w_bnot, ↓w_of, ↓w_srcOf, ↓w_srcSeq, ↓w_srcRev, ↓w_ok, ↓w_ex, ↓w_no, ↓w_bind, ↓w_ite, ↓w_sub, ↓w_mod, ↓w_div, ↓w_pow, ↓w_lt, ↓w_le, ↓w_gt, ↓w_ge, ↓w_addI, ↓w_mulI, ↓w_eqI, ↓w_neI, ↓w_eqS, ↓w_neS, ↓w_isNon, ↓w_isNotNon, ↓w_isB, ↓w_mkT, ↓w_mkF, ↓w_addL, ↓w_addS, ↓w_addT, ↓w_addR, ↓w_mulL, ↓w_ixL, ↓w_ixT2, ↓w_ixR, ↓w_oSl, ↓w_eqLL, ↓w_neLL, ↓w_eqTT, ↓w_neTT, ↓w_eqR, ↓w_neR, ↓w_popAt0, ↓w_append, ↓w_pop, ↓w_lenL, ↓w_lenT, ↓w_lenS, ↓w_lenD, ↓w_lenR, ↓w_tupleL, ↓w_tupleT, ↓w_listL, ↓w_listT, ↓w_min, ↓w_max, ↓w_intI, ↓w_intB, ↓w_abs, ↓w_seqL, ↓w_seqT, ↓w_seqS, ↓w_kR1, ↓w_kR2, ↓w_kEnumL, ↓w_kZipT, ↓w_kZipL, ↓w_inS, vw_non, vw_bl, vw_int, vw_str, vw_lst, vw_tup, vw_dct, vw_obj, vw_ref, vwC_lst, vwC_tup, vwC_dct, vwC_obj, vwC_frz, List.map_cons, List.map_nil, List.nil_append, List.cons_append, List.append_nil, List.length_cons, List.length_nil, List.replicate_zero, List.replicate_succ, List.getElem?_cons_zero, List.getElem?_cons_succ, List.set_cons_zero, List.set_cons_succ, decide_eq_true_eq, Bool.not_eq_true, pureRs_cons, pureRs_nil, pureRs_map, pureRs_ref, Option.map_some, Option.map_none, atI_lit, ixN_lit, oSet_ref, isTy, beq_self_eq_true, pv_d, pv_ref, plain, plains, dep, deps, eqD, eqDs, Nat.zero_le, Nat.max_self, Nat.zero_max, Nat.max_zero, ↓reduceIte, Nat.reduceAdd, Nat.reduceSub, Nat.reduceMul, Nat.reduceLT, Nat.reduceLeDiff, Nat.reduceEqDiff, Nat.zero_add, Int.reduceAdd, Int.reduceSub, Int.reduceMul, Int.reduceLT, Int.reduceLE, Int.reduceEq, Int.reduceNe, Int.reduceNeg, Int.reduceToNat, Int.reducePow, Nat.reducePow, Int.reduceAbs, SL, reduceCtorEq, true_and, and_true, false_and, and_false, ne_eq, not_false_eq_true, not_true_eq_false, Bool.not_true, Bool.not_false, Bool.true_and, Bool.and_true, Bool.false_and, Bool.and_false, Bool.false_eq_true, decide_true, decide_false, Bool.not_eq_eq_eq_not, decide_not, pureC_lst, pureC_tup, pureC_dct, pureC_obj, pureC_frz]
        exact ⟨_, s3, ⟨by omega, by omega⟩, by omega, by omega, rfl, rfl⟩
      · simp only [↓ws_seq, ↓ws_nil, ↓ws_lift, ↓ws_drop, ↓ws_ret, ↓ws_retN, ↓ws_brk, ↓ws_cont, ↓ws_if, ↓ws_set, ↓ws_asg, ↓ws_gset, ↓ws_gnone, ↓ws_gmore, ↓ws_gtup, ↓ws_gstar, ↓ws_gsub, ↓ws_par, ↓ws_aug, ↓ws_forI, ↓ws_nx, ↓ws_rt, ↓ws_ex, ↓ws_no, ↓w_fn, ↓w_lit, ↓w_var, ↓w_bin, ↓w_esNil, ↓w_esCons, ↓w_tup, ↓w_lst, ↓w_dct0, ↓w_blt, ↓w_bm, ↓w_eand, ↓w_eor, ↓w_enot, ↓w_if, ↓w_chain, ↓w_neg, ↓w_isi, ↓w_isi2, ↓w_sl, ↓w_pn, ↓w_ps, ↓w_revL, ↓w_get2, ↓w_get1, ↓w_inT, ↓w_ixT, ↓w_getT, ↓w_fld, ↓w_call, ↓w_comp, ↓w_yes, ↓w_bcmp, ↓w_bof, ↓w_band, ↓w_bor, ↓w_bnot, ↓w_of, ↓w_srcOf, ↓w_srcSeq, ↓w_srcRev, ↓w_ok, ↓w_ex, ↓w_no, ↓w_bind, ↓w_ite, ↓w_sub, ↓w_mod, ↓w_div, ↓w_pow, ↓w_lt, ↓w_le, ↓w_gt, ↓w_ge, ↓w_addI, ↓w_mulI, ↓w_eqI, ↓w_neI, ↓w_eqS, ↓w_neS, ↓w_isNon, ↓w_isNotNon, ↓w_isB, ↓w_mkT, ↓w_mkF, ↓w_addL, ↓w_addS, ↓w_addT, ↓w_addR, ↓w_mulL, ↓w_ixL, ↓w_ixT2, ↓w_ixR, ↓w_oSl, ↓w_eqLL, ↓w_neLL, ↓w_eqTT, ↓w_neTT, ↓w_eqR, ↓w_neR, ↓w_popAt0, ↓w_append, ↓w_pop, ↓w_lenL, ↓w_lenT, ↓w_lenS, ↓w_lenD, ↓w_lenR, ↓w_tupleL, ↓w_tupleT, ↓w_listL, ↓w_listT, ↓w_min, ↓w_max, ↓w_intI, ↓w_intB, ↓w_abs, ↓w_seqL, ↓w_seqT, ↓w_seqS, ↓w_kR1, ↓w_kR2, ↓w_kEnumL, ↓w_kZipT, ↓w_kZipL, ↓w_inS, vw_non, vw_bl, vw_int, vw_str, vw_lst, vw_tup, vw_dct, vw_obj, vw_ref, vwC_lst, vwC_tup, vwC_dct, vwC_obj, vwC_frz, List.map_cons, List.map_nil, List.nil_append, List.cons_append, List.append_nil, List.length_cons, List.length_nil, List.replicate_zero, List.replicate_succ, List.getElem?_cons_zero, List.getElem?_cons_succ, List.set_cons_zero, List.set_cons_succ, decide_eq_true_eq, Bool.not_eq_true, pureRs_cons, pureRs_nil, pureRs_map, pureRs_ref, Option.map_some, Option.map_none, atI_lit, ixN_lit, oSet_ref, isTy, beq_self_eq_true, pv_d, pv_ref, plain, plains, dep, deps, eqD, eqDs, Nat.zero_le, Nat.max_self, Nat.zero_max, Nat.max_zero, ↓reduceIte, Nat.reduceAdd, Nat.reduceSub, Nat.reduceMul, Nat.reduceLT, Nat.reduceLeDiff, Nat.reduceEqDiff, Nat.zero_add, Int.reduceAdd, Int.reduceSub, Int.reduceMul, Int.reduceLT, Int.reduceLE, Int.reduceEq, Int.reduceNe, Int.reduceNeg, Int.reduceToNat, Int.reducePow, Nat.reducePow, Int.reduceAbs, SL, reduceCtorEq, true_and, and_true, false_and, and_false, ne_eq, not_false_eq_true, not_true_eq_false, Bool.not_true, Bool.not_false, Bool.true_and, Bool.and_true, Bool.false_and, Bool.and_false, Bool.false_eq_true, decide_true, decide_false, Bool.not_eq_eq_eq_not, decide_not, pureC_lst, pureC_tup, pureC_dct, pureC_obj, pureC_frz]
        exact ⟨_, s3, ⟨by omega, by omega⟩, by omega, by omega, rfl, rfl⟩
    rcases n67 with rfl | rfl
    · simp only [↓ws_seq, ↓ws_nil, ↓ws_lift, ↓ws_drop, ↓ws_ret, ↓ws_retN, ↓ws_brk, ↓ws_cont, ↓ws_if, ↓ws_set, ↓ws_asg, ↓ws_gset, ↓ws_gnone, ↓ws_gmore, ↓ws_gtup, ↓ws_gstar, ↓ws_gsub, ↓ws_par, ↓ws_aug, ↓ws_forI, ↓ws_nx, ↓ws_rt, ↓ws_ex, ↓ws_no, ↓w_fn, ↓w_lit, ↓w_var, ↓w_bin, ↓w_esNil, ↓w_esCons, ↓w_tup, ↓w_lst, ↓w_dct0, ↓w_blt, ↓w_bm, ↓w_eand, ↓w_eor, ↓w_enot, ↓w_if, ↓w_chain, ↓w_neg, ↓w_isi, ↓w_isi2, ↓w_sl, ↓w_pn, ↓w_ps, ↓w_revL, ↓w_get2, ↓w_get1, ↓w_inT, ↓w_ixT, ↓w_getT, ↓w_fld, ↓w_call, ↓w_comp, ↓w_yes, ↓w_bcmp, ↓w_bof, ↓w_band, ↓w_bor, ↓w_bnot, ↓w_of, ↓w_srcOf, ↓w_srcSeq, ↓w_srcRev, ↓w_ok, ↓w_ex, ↓w_no, ↓w_bind, ↓w_ite, ↓w_sub, ↓w_mod, ↓w_div, ↓w_pow, ↓w_lt, ↓w_le, ↓w_gt, ↓w_ge, ↓w_addI, ↓w_mulI, ↓w_eqI, ↓w_neI, ↓w_eqS, ↓w_neS, ↓w_isNon, ↓w_isNotNon, ↓w_isB, ↓w_mkT, ↓w_mkF, ↓w_addL, ↓w_addS, ↓w_addT, ↓w_addR, ↓w_mulL, ↓w_ixL, ↓w_ixT2, ↓w_ixR, ↓w_oSl, ↓w_eqLL, ↓w_neLL, ↓w_eqTT, ↓w_neTT, ↓w_eqR, ↓w_neR, ↓w_popAt0, ↓w_append, ↓w_pop, ↓w_lenL, ↓w_lenT, ↓w_lenS, ↓w_lenD, ↓w_lenR, ↓w_tupleL, ↓w_tupleT, ↓w_listL, ↓w_listT, ↓w_min, ↓w_max, ↓w_intI, ↓w_intB, ↓w_abs, ↓w_seqL, ↓w_seqT, ↓w_seqS, ↓w_kR1, ↓w_kR2, ↓w_kEnumL, ↓w_kZipT, ↓w_kZipL, ↓w_inS, vw_non, vw_bl, vw_int, vw_str, vw_lst, vw_tup, vw_dct, vw_obj, vw_ref, vwC_lst, vwC_tup, vwC_dct, vwC_obj, vwC_frz, List.map_cons, List.map_nil, List.nil_append, List.cons_append, List.append_nil, List.length_cons, List.length_nil, List.replicate_zero, List.replicate_succ, List.getElem?_cons_zero, List.getElem?_cons_succ, List.set_cons_zero, List.set_cons_succ, decide_eq_true_eq, Bool.not_eq_true, pureRs_cons, pureRs_nil, pureRs_map, pureRs_ref, Option.map_some, Option.map_none, atI_lit, ixN_lit, oSet_ref, isTy, beq_self_eq_true, pv_d, pv_ref, plain, plains, dep, deps, eqD, eqDs, Nat.zero_le, Nat.max_self, Nat.zero_max, Nat.max_zero, ↓reduceIte, Nat.reduceAdd, Nat.reduceSub, Nat.reduceMul, Nat.reduceLT, Nat.reduceLeDiff, Nat.reduceEqDiff, Nat.zero_add, Int.reduceAdd, Int.reduceSub, Int.reduceMul, Int.reduceLT, Int.reduceLE, Int.reduceEq, Int.reduceNe, Int.reduceNeg, Int.reduceToNat, Int.reducePow, Nat.reducePow, Int.reduceAbs, SL, reduceCtorEq, true_and, and_true, false_and, and_false, ne_eq, not_false_eq_true, not_true_eq_false, Bool.not_true, Bool.not_false, Bool.true_and, Bool.and_true, Bool.false_and, Bool.and_false, Bool.false_eq_true, decide_true, decide_false, Bool.not_eq_eq_eq_not, decide_not, pureC_lst, pureC_tup, pureC_dct, pureC_obj, pureC_frz]
      refine wR.mono (key 1000000 (by decide) (by decide)) fun r m q => ?_
      obtain ⟨g, s2, g0, g1, hk2, rfl, rfl⟩ := q
      simp only [↓ws_seq, ↓ws_nil, ↓ws_lift, ↓ws_drop, ↓ws_ret, ↓ws_retN, ↓ws_brk, ↓ws_cont, ↓ws_if, ↓ws_set, ↓ws_asg, ↓ws_gset, ↓ws_gnone, ↓ws_gmore, ↓ws_gtup, ↓ws_gstar, ↓ws_gsub, ↓ws_par, ↓ws_aug, ↓ws_forI, ↓ws_nx, ↓ws_rt, ↓ws_ex, ↓ws_no, ↓w_fn, ↓w_lit, ↓w_var, ↓w_bin, ↓w_esNil, ↓w_esCons, ↓w_tup, ↓w_lst, ↓w_dct0, ↓w_blt, ↓w_bm, ↓w_eand, ↓w_eor, ↓w_enot, ↓w_if, ↓w_chain, ↓w_neg, ↓w_isi, ↓w_isi2, ↓w_sl, ↓w_pn, ↓w_ps, ↓w_revL, ↓w_get2, ↓w_get1, ↓w_inT, ↓w_ixT, ↓w_getT, ↓w_fld, ↓w_call, ↓w_comp, ↓w_yes, ↓w_bcmp, ↓w_bof, ↓w_band, ↓w_bor, ↓w_bnot, ↓w_of, ↓w_srcOf, ↓w_srcSeq, ↓w_srcRev, ↓w_ok, ↓w_ex, ↓w_no, ↓w_bind, ↓w_ite, ↓w_sub, ↓w_mod, ↓w_div, ↓w_pow, ↓w_lt, ↓w_le, ↓w_gt, ↓w_ge, ↓w_addI, ↓w_mulI, ↓w_eqI, ↓w_neI, ↓w_eqS, ↓w_neS, ↓w_isNon, ↓w_isNotNon, ↓w_isB, ↓w_mkT, ↓w_mkF, ↓w_addL, ↓w_addS, ↓w_addT, ↓w_addR, ↓w_mulL, ↓w_ixL, ↓w_ixT2, ↓w_ixR, ↓w_oSl, ↓w_eqLL, ↓w_neLL, ↓w_eqTT, ↓w_neTT, ↓w_eqR, ↓w_neR, ↓w_popAt0, ↓w_append, ↓w_pop, ↓w_lenL, ↓w_lenT, ↓w_lenS, ↓w_lenD, ↓w_lenR, ↓w_tupleL, ↓w_tupleT, ↓w_listL, ↓w_listT, ↓w_min, ↓w_max, ↓w_intI, ↓w_intB, ↓w_abs, ↓w_seqL, ↓w_seqT, ↓w_seqS, ↓w_kR1, ↓w_kR2, ↓w_kEnumL, ↓w_kZipT, ↓w_kZipL, ↓w_inS, vw_non, vw_bl, vw_int, vw_str, vw_lst, vw_tup, vw_dct, vw_obj, vw_ref, vwC_lst, vwC_tup, vwC_dct, vwC_obj, vwC_frz, List.map_cons, List.map_nil, List.nil_append, List.cons_append, List.append_nil, List.length_cons, List.length_nil, List.replicate_zero, List.replicate_succ, List.getElem?_cons_zero, List.getElem?_cons_succ, List.set_cons_zero, List.set_cons_succ, decide_eq_true_eq, Bool.not_eq_true, pureRs_cons, pureRs_nil, pureRs_map, pureRs_ref, Option.map_some, Option.map_none, atI_lit, ixN_lit, oSet_ref, isTy, beq_self_eq_true, pv_d, pv_ref, plain, plains, dep, deps, eqD, eqDs, Nat.zero_le, Nat.max_self, Nat.zero_max, Nat.max_zero, ↓reduceIte, Nat.reduceAdd, Nat.reduceSub, Nat.reduceMul, Nat.reduceLT, Nat.reduceLeDiff, Nat.reduceEqDiff, Nat.zero_add, Int.reduceAdd, Int.reduceSub, Int.reduceMul, Int.reduceLT, Int.reduceLE, Int.reduceEq, Int.reduceNe, Int.reduceNeg, Int.reduceToNat, Int.reducePow, Nat.reducePow, Int.reduceAbs, SL, reduceCtorEq, true_and, and_true, false_and, and_false, ne_eq, not_false_eq_true, not_true_eq_false, Bool.not_true, Bool.not_false, Bool.true_and, Bool.and_true, Bool.false_and, Bool.and_false, Bool.false_eq_true, decide_true, decide_false, Bool.not_eq_eq_eq_not, decide_not, pureC_lst, pureC_tup, pureC_dct, pureC_obj, pureC_frz]
      exact last g s2 g0 g1 hk2
    · simp only [↓ws_seq, ↓ws_nil, ↓ws_lift, ↓ws_drop, ↓ws_ret, ↓ws_retN, ↓ws_brk, ↓ws_cont, ↓ws_if, ↓ws_set, ↓ws_asg, ↓ws_gset, ↓ws_gnone, ↓ws_gmore, ↓ws_gtup, ↓ws_gstar, ↓ws_gsub, ↓ws_par, ↓ws_aug, ↓ws_forI, ↓ws_nx, ↓ws_rt, ↓ws_ex, ↓ws_no, ↓w_fn, ↓w_lit, ↓w_var, ↓w_bin, ↓w_esNil, ↓w_esCons, ↓w_tup, ↓w_lst, ↓w_dct0, ↓w_blt, ↓w_bm, ↓w_eand, ↓w_eor, ↓w_enot, ↓w_if, ↓w_chain, ↓w_neg, ↓w_isi, ↓w_isi2, ↓w_sl, ↓w_pn, ↓w_ps, ↓w_revL, ↓w_get2, ↓w_get1, ↓w_inT, ↓w_ixT, ↓w_getT, ↓w_fld, ↓w_call, ↓w_comp, ↓w_yes, ↓w_bcmp, ↓w_bof, ↓w_band, ↓w_bor, ↓w_bnot, ↓w_of, ↓w_srcOf, ↓w_srcSeq, ↓w_srcRev, ↓w_ok, ↓w_ex, ↓w_no, ↓w_bind, ↓w_ite, ↓w_sub, ↓w_mod, ↓w_div, ↓w_pow, ↓w_lt, ↓w_le, ↓w_gt, ↓w_ge, ↓w_addI, ↓w_mulI, ↓w_eqI, ↓w_neI, ↓w_eqS, ↓w_neS, ↓w_isNon, ↓w_isNotNon, ↓w_isB, ↓w_mkT, ↓w_mkF, ↓w_addL, ↓w_addS, ↓w_addT, ↓w_addR, ↓w_mulL, ↓w_ixL, ↓w_ixT2, ↓w_ixR, ↓w_oSl, ↓w_eqLL, ↓w_neLL, ↓w_eqTT, ↓w_neTT, ↓w_eqR, ↓w_neR, ↓w_popAt0, ↓w_append, ↓w_pop, ↓w_lenL, ↓w_lenT, ↓w_lenS, ↓w_lenD, ↓w_lenR, ↓w_tupleL, ↓w_tupleT, ↓w_listL, ↓w_listT, ↓w_min, ↓w_max, ↓w_intI, ↓w_intB, ↓w_abs, ↓w_seqL, ↓w_seqT, ↓w_seqS, ↓w_kR1, ↓w_kR2, ↓w_kEnumL, ↓w_kZipT, ↓w_kZipL, ↓w_inS, vw_non, vw_bl, vw_int, vw_str, vw_lst, vw_tup, vw_dct, vw_obj, vw_ref, vwC_lst, vwC_tup, vwC_dct, vwC_obj, vwC_frz, List.map_cons, List.map_nil, List.nil_append, List.cons_append, List.append_nil, List.length_cons, List.length_nil, List.replicate_zero, List.replicate_succ, List.getElem?_cons_zero, List.getElem?_cons_succ, List.set_cons_zero, List.set_cons_succ, decide_eq_true_eq, Bool.not_eq_true, pureRs_cons, pureRs_nil, pureRs_map, pureRs_ref, Option.map_some, Option.map_none, atI_lit, ixN_lit, oSet_ref, isTy, beq_self_eq_true, pv_d, pv_ref, plain, plains, dep, deps, eqD, eqDs, Nat.zero_le, Nat.max_self, Nat.zero_max, Nat.max_zero, ↓reduceIte, Nat.reduceAdd, Nat.reduceSub, Nat.reduceMul, Nat.reduceLT, Nat.reduceLeDiff, Nat.reduceEqDiff, Nat.zero_add, Int.reduceAdd, Int.reduceSub, Int.reduceMul, Int.reduceLT, Int.reduceLE, Int.reduceEq, Int.reduceNe, Int.reduceNeg, Int.reduceToNat, Int.reducePow, Nat.reducePow, Int.reduceAbs, SL, reduceCtorEq, true_and, and_true, false_and, and_false, ne_eq, not_false_eq_true, not_true_eq_false, Bool.not_true, Bool.not_false, Bool.true_and, Bool.and_true, Bool.false_and, Bool.and_false, Bool.false_eq_true, decide_true, decide_false, Bool.not_eq_eq_eq_not, decide_not, pureC_lst, pureC_tup, pureC_dct, pureC_obj, pureC_frz]
      refine wR.mono (key (10 ^ 40) (by decide) (by decide)) fun r m q => ?_
      obtain ⟨g, s2, g0, g1, hk2, rfl, rfl⟩ := q
      simp only [↓ws_seq, ↓ws_nil, ↓ws_lift, ↓ws_drop, ↓ws_ret, ↓ws_retN, ↓ws_brk, ↓ws_cont, ↓ws_if, ↓ws_set, ↓ws_asg, ↓ws_gset, ↓ws_gnone, ↓ws_gmore, ↓ws_gtup, ↓ws_gstar, ↓ws_gsub, ↓ws_par, ↓ws_aug, ↓ws_forI, ↓ws_nx, ↓ws_rt, ↓ws_ex, ↓ws_no, ↓w_fn, ↓w_lit, ↓w_var, ↓w_bin, ↓w_esNil, ↓w_esCons, ↓w_tup, ↓w_lst, ↓w_dct0, ↓w_blt, ↓w_bm, ↓w_eand, ↓w_eor, ↓w_enot, ↓w_if, ↓w_chain, ↓w_neg, ↓w_isi, ↓w_isi2, ↓w_sl, ↓w_pn, ↓w_ps, ↓w_revL, ↓w_get2, ↓w_get1, ↓w_inT, ↓w_ixT, ↓w_getT, ↓w_fld, ↓w_call, ↓w_comp, ↓w_yes, ↓w_bcmp, ↓w_bof, ↓w_band, ↓w_bor, ↓w_bnot, ↓w_of, ↓w_srcOf, ↓w_srcSeq, ↓w_srcRev, ↓w_ok, ↓w_ex, ↓w_no, ↓w_bind, ↓w_ite, ↓w_sub, ↓w_mod, ↓w_div, ↓w_pow, ↓w_lt, ↓w_le, ↓w_gt, ↓w_ge, ↓w_addI, ↓w_mulI, ↓w_eqI, ↓w_neI, ↓w_eqS, ↓w_neS, ↓w_isNon, ↓w_isNotNon, ↓w_isB, ↓w_mkT, ↓w_mkF, ↓w_addL, ↓w_addS, ↓w_addT, ↓w_addR, ↓w_mulL, ↓w_ixL, ↓w_ixT2, ↓w_ixR, ↓w_oSl, ↓w_eqLL, ↓w_neLL, ↓w_eqTT, ↓w_neTT, ↓w_eqR, ↓w_neR, ↓w_popAt0, ↓w_append, ↓w_pop, ↓w_lenL, ↓w_lenT, ↓w_lenS, ↓w_lenD, ↓w_lenR, ↓w_tupleL, ↓w_tupleT, ↓w_listL, ↓w_listT, ↓w_min, ↓w_max, ↓w_intI, ↓w_intB, ↓w_abs, ↓w_seqL, ↓w_seqT, ↓w_seqS, ↓w_kR1, ↓w_kR2, ↓w_kEnumL, ↓w_kZipT, ↓w_kZipL, ↓w_inS, vw_non, vw_bl, vw_int, vw_str, vw_lst, vw_tup, vw_dct, vw_obj, vw_ref, vwC_lst, vwC_tup, vwC_dct, vwC_obj, vwC_frz, List.map_cons, List.map_nil, List.nil_append, List.cons_append, List.append_nil, List.length_cons, List.length_nil, List.replicate_zero, List.replicate_succ, List.getElem?_cons_zero, List.getElem?_cons_succ, List.set_cons_zero, List.set_cons_succ, decide_eq_true_eq, Bool.not_eq_true, pureRs_cons, pureRs_nil, pureRs_map, pureRs_ref, Option.map_some, Option.map_none, atI_lit, ixN_lit, oSet_ref, isTy, beq_self_eq_true, pv_d, pv_ref, plain, plains, dep, deps, eqD, eqDs, Nat.zero_le, Nat.max_self, Nat.zero_max, Nat.max_zero, ↓reduceIte, Nat.reduceAdd, Nat.reduceSub, Nat.reduceMul, Nat.reduceLT, Nat.reduceLeDiff, Nat.reduceEqDiff, Nat.zero_add, Int.reduceAdd, Int.reduceSub, Int.reduceMul, Int.reduceLT, Int.reduceLE, Int.reduceEq, Int.reduceNe, Int.reduceNeg, Int.reduceToNat, Int.reducePow, Nat.reducePow, Int.reduceAbs, SL, reduceCtorEq, true_and, and_true, false_and, and_false, ne_eq, not_false_eq_true, not_true_eq_false, Bool.not_true, Bool.not_false, Bool.true_and, Bool.and_true, Bool.false_and, Bool.and_false, Bool.false_eq_true, decide_true, decide_false, Bool.not_eq_eq_eq_not, decide_not, pureC_lst, pureC_tup, pureC_dct, pureC_obj, pureC_frz]
      exact last g s2 g0 g1 hk2
end Lc
set_option Elab.async false
set_option linter.all false
set_option maxRecDepth 100000
set_option maxHeartbeats 4000000
/-! From the plain law to the promise. -/
namespace Lc
open PySem PySem.Spec PyProof.Rows L2 LcX
def CXe (P : Program) : CXT := fun outer H s E u sx => ∃ w, LcX.CX P w outer H s E u sx
theorem fnOk_cxe {P : Program} {w : World} {K : PySem.W.Frag} {mg : Str → Option Value} {base : Heap} {k : Nat} {f : Addr} {fd : FuncData} {ps : List Str} {sp : Sp} (F : FnOk P w K mg base (LcX.CX P w) k f fd ps sp) : FnOk P w K mg base (CXe P) k f fd ps sp :=
  ⟨F.len, fun A outer s H args us vs Q E hr e b r q => codeAny_mono (F.run A outer s H args us vs Q E hr e b r q) fun rs sx z => by
    cases rs with
    | ok fl =>
      cases fl with
      | ret u => exact z
      | _ => exact z
    | error er => exact ⟨w, z⟩⟩
theorem cxe_no {P : Program} {H : Hp} {s : Shared} {e : Value} {s' : Shared} (h : CXe P [] H s (fun _ _ _ => False) e s') : False := by
  obtain ⟨w, a, B, Hx, cls, d, _, _, _, _, _, _, _, z⟩ := h
  exact z
theorem isL_ints {t : Tx} {F : Hp} : ∀ ns : List Int, IsL t F (iDs ns) (ns.map V.int)
  | [] => by
    show IsL t F [] []
    unfold IsL
    rfl
  | n :: ns => by
    show IsL t F (.int n :: iDs ns) _
    unfold IsL
    exact ⟨.int n, ns.map V.int, rfl, by unfold Is; rfl, isL_ints ns⟩
/-- the law's promise by its mirror -/
theorem spF_law {t : Tx} {m : Fn} {H : Hp} {a : Addr} {ns : List Int} (hl : noLst t.K = true) (hS : SqL t.K H a (ns.map V.int)) (h : wR (m [.d (.lst (iDs ns))] []) (fun r _ => r = .d (.bl true)) (fun _ _ => False)) : spF t 1 m [.ref a] H (fun v _ => v = .bl true) (fun _ _ _ => False) := by
  obtain ⟨r, M', e, rfl⟩ := ok_of_wR h
  have hr : IsR t H [] (.d (.lst (iDs ns))) (.ref a) := by
    show Is t H (.lst (iDs ns)) (.ref a)
    unfold Is
    exact ⟨a, ns.map V.int, rfl, noLst_ok hl hS, isL_ints ns⟩
  refine ⟨rfl, [], H, [.d (.lst (iDs ns))], [], ⟨fun _ _ z => z, by simp, rfl, by simp, by simp⟩, .cons hr .nil, ?_⟩
  rw [e]
  intro ads' F' H' b s Rr hb
  have hb2 : Is t F' (.bl true) b := hb
  unfold Is at hb2
  exact hb2
end Lc
set_option Elab.async false
set_option linter.all false
set_option maxRecDepth 100000
set_option maxHeartbeats 4000000
/-! The plain law of k90. -/
namespace G90
open PySem PySem.Spec PyProof.Rows L2 LcX Lc
theorem take_eq : m__law_take = mTake := rfl
theorem number_eq : m__law_number = mNumber := rfl
theorem draws_eq : m__law_draws = mDraws := rfl
theorem number01 {s : Dr} {ex : Mem} {Q : R → Mem → Prop} {X : Xn → Mem → Prop} (hk0 : 0 ≤ s.k) (hk : s.k ≤ 900000)
    (hQ : ∀ (n : Int) s', numOk n → s.k ≤ s'.k → s'.k ≤ s.k + 3 → Q (.d (.int n)) (cA 1 s' :: cB s' :: ex)) : wR (call false mNumber [.ref 0] (cA 1 s :: cB s :: ex)) Q X :=
  call_draw (ds := []) (atD_01 s ex) (P := fun v s' => ∃ n : Int, numOk n ∧ s.k ≤ s'.k ∧ s'.k ≤ s.k + 3 ∧ v = .int n) (wR.mono (number_wp s hk0 hk) fun r m1 q => by
    obtain ⟨n, s', h1, h2, h3, rfl, rfl⟩ := q
    exact ⟨_, s', [], ⟨n, h1, h2, h3, rfl⟩, rfl, rfl⟩) fun v s' q => by
    obtain ⟨n, h1, h2, h3, rfl⟩ := q
    exact hQ n s' h1 h2 h3
/-- what is drawn -/
inductive Good : D → Prop where
  | int (n : Int) (h : numOk n) : Good (.int n)
  | str (t : T) (h : t.length ≤ 10) : Good (.str t)
  | tup (ns : List Int) (h : ∀ n ∈ ns, numOk n) (l : ns.length ≤ 3) : Good (.tup (iDs ns))
theorem value_wp (s : Dr) (hk0 : 0 ≤ s.k) (hk : s.k ≤ 800000) : wR (m__law_value [.ref 0] [cA 1 s, cB s]) (fun r m => ∃ (v : D) (s' : Dr), Good v ∧ s.k ≤ s'.k ∧ s'.k ≤ s.k + 20 ∧ r = .d v ∧ m = [cA 1 s', cB s']) (fun _ _ => False) := by
  unfold m__law_value
  rw [take_eq, number_eq]
  simp only [↓ws_seq, ↓ws_nil, ↓ws_lift, ↓ws_drop, ↓ws_ret, ↓ws_retN, ↓ws_brk, ↓ws_cont, ↓ws_if, ↓ws_set, ↓ws_asg, ↓ws_gset, ↓ws_gnone, ↓ws_gmore, ↓ws_gtup, ↓ws_gstar, ↓ws_gsub, ↓ws_par, ↓ws_aug, ↓ws_forI, ↓ws_nx, ↓ws_rt, ↓ws_ex, ↓ws_no, ↓w_fn, ↓w_lit, ↓w_var, ↓w_bin, ↓w_esNil, ↓w_esCons, ↓w_tup, ↓w_lst, ↓w_dct0, ↓w_blt, ↓w_bm, ↓w_eand, ↓w_eor, ↓w_enot, ↓w_if, ↓w_chain, ↓w_neg, ↓w_isi, ↓w_isi2, ↓w_sl, ↓w_pn, ↓w_ps, ↓w_revL, ↓w_get2, ↓w_get1, ↓w_inT, ↓w_ixT, ↓w_getT, ↓w_fld, ↓w_call, ↓w_comp, ↓w_yes, ↓w_bcmp, ↓w_bof, ↓w_band, ↓w_bor, ↓w_bnot, ↓w_of, ↓w_srcOf, ↓w_srcSeq, ↓w_srcRev, ↓w_ok, ↓w_ex, ↓w_no, ↓w_bind, ↓w_ite, ↓w_sub, ↓w_mod, ↓w_div, ↓w_pow, ↓w_lt, ↓w_le, ↓w_gt, ↓w_ge, ↓w_addI, ↓w_mulI, ↓w_eqI, ↓w_neI, ↓w_eqBB, ↓w_neBB, ↓w_eqS, ↓w_neS, ↓w_isNon, ↓w_isNotNon, ↓w_isB, ↓w_mkT, ↓w_mkF, ↓w_addL, ↓w_addS, ↓w_addT, ↓w_addR, ↓w_mulL, ↓w_ixL, ↓w_ixT2, ↓w_ixR, ↓w_oSl, ↓w_eqLL, ↓w_neLL, ↓w_eqTT, ↓w_neTT, ↓w_eqR, ↓w_neR, ↓w_popAt0, ↓w_append, ↓w_pop, ↓w_lenL, ↓w_lenT, ↓w_lenS, ↓w_lenD, ↓w_lenR, ↓w_tupleL, ↓w_tupleT, ↓w_listL, ↓w_listT, ↓w_min, ↓w_max, ↓w_intI, ↓w_intB, ↓w_abs, ↓w_seqL, ↓w_seqT, ↓w_seqS, ↓w_kR1, ↓w_kR2, ↓w_kEnumL, ↓w_kZipT, ↓w_kZipL, ↓w_inS, vw_non, vw_bl, vw_int, vw_str, vw_lst, vw_tup, vw_dct, vw_obj, vw_ref, vwC_lst, vwC_tup, vwC_dct, vwC_obj, vwC_frz, List.map_cons, List.map_nil, List.nil_append, List.cons_append, List.append_nil, List.length_cons, List.length_nil, List.replicate_zero, List.replicate_succ, List.getElem?_cons_zero, List.getElem?_cons_succ, List.set_cons_zero, List.set_cons_succ, decide_eq_true_eq, Bool.not_eq_true, pureRs_cons, pureRs_nil, pureRs_map, pureRs_ref, Option.map_some, Option.map_none, atI_lit, ixN_lit, oSet_ref, isTy, tyName, two_eq2, one_eq1, wipeE, beq_self_eq_true, pv_d, pv_ref, Lc.plain, Lc.plains, Lc.dep, Lc.deps, Lc.eqD, Lc.eqDs, Nat.zero_le, Nat.max_self, Nat.zero_max, Nat.max_zero, ↓reduceIte, Nat.reduceAdd, Nat.reduceSub, Nat.reduceMul, Nat.reduceLT, Nat.reduceLeDiff, Nat.reduceEqDiff, Nat.zero_add, Int.reduceAdd, Int.reduceSub, Int.reduceMul, Int.reduceLT, Int.reduceLE, Int.reduceEq, Int.reduceNe, Int.reduceNeg, Int.reduceToNat, Int.reducePow, Nat.reducePow, Int.reduceAbs, SL, reduceCtorEq, true_and, and_true, false_and, and_false, ne_eq, not_false_eq_true, not_true_eq_false, Bool.not_true, Bool.not_false, Bool.true_and, Bool.and_true, Bool.false_and, Bool.and_false, Bool.false_eq_true, decide_true, decide_false, Bool.not_eq_eq_eq_not, decide_not, pureC_lst, pureC_tup, pureC_dct, pureC_obj, pureC_frz]
  refine take01 (by decide) hk0 (by omega) (by decide) fun n s1 h0 h1 hk1 => ?_
  have n3 : n = 0 ∨ n = 1 ∨ n = 2 := by omega
  rcases n3 with rfl | rfl | rfl
  · simp only [↓ws_seq, ↓ws_nil, ↓ws_lift, ↓ws_drop, ↓ws_ret, ↓ws_retN, ↓ws_brk, ↓ws_cont, ↓ws_if, ↓ws_set, ↓ws_asg, ↓ws_gset, ↓ws_gnone, ↓ws_gmore, ↓ws_gtup, ↓ws_gstar, ↓ws_gsub, ↓ws_par, ↓ws_aug, ↓ws_forI, ↓ws_nx, ↓ws_rt, ↓ws_ex, ↓ws_no, ↓w_fn, ↓w_lit, ↓w_var, ↓w_bin, ↓w_esNil, ↓w_esCons, ↓w_tup, ↓w_lst, ↓w_dct0, ↓w_blt, ↓w_bm, ↓w_eand, ↓w_eor, ↓w_enot, ↓w_if, ↓w_chain, ↓w_neg, ↓w_isi, ↓w_isi2, ↓w_sl, ↓w_pn, ↓w_ps, ↓w_revL, ↓w_get2, ↓w_get1, ↓w_inT, ↓w_ixT, ↓w_getT, ↓w_fld, ↓w_call, ↓w_comp, ↓w_yes, ↓w_bcmp, ↓w_bof, ↓w_band, ↓w_bor, ↓w_bnot, ↓w_of, ↓w_srcOf, ↓w_srcSeq, ↓w_srcRev, ↓w_ok, ↓w_ex, ↓w_no, ↓w_bind, ↓w_ite, ↓w_sub, ↓w_mod, ↓w_div, ↓w_pow, ↓w_lt, ↓w_le, ↓w_gt, ↓w_ge, ↓w_addI, ↓w_mulI, ↓w_eqI, ↓w_neI, ↓w_eqBB, ↓w_neBB, ↓w_eqS, ↓w_neS, ↓w_isNon, ↓w_isNotNon, ↓w_isB, ↓w_mkT, ↓w_mkF, ↓w_addL, ↓w_addS, ↓w_addT, ↓w_addR, ↓w_mulL, ↓w_ixL, ↓w_ixT2, ↓w_ixR, ↓w_oSl, ↓w_eqLL, ↓w_neLL, ↓w_eqTT, ↓w_neTT, ↓w_eqR, ↓w_neR, ↓w_popAt0, ↓w_append, ↓w_pop, ↓w_lenL, ↓w_lenT, ↓w_lenS, ↓w_lenD, ↓w_lenR, ↓w_tupleL, ↓w_tupleT, ↓w_listL, ↓w_listT, ↓w_min, ↓w_max, ↓w_intI, ↓w_intB, ↓w_abs, ↓w_seqL, ↓w_seqT, ↓w_seqS, ↓w_kR1, ↓w_kR2, ↓w_kEnumL, ↓w_kZipT, ↓w_kZipL, ↓w_inS, vw_non, vw_bl, vw_int, vw_str, vw_lst, vw_tup, vw_dct, vw_obj, vw_ref, vwC_lst, vwC_tup, vwC_dct, vwC_obj, vwC_frz, List.map_cons, List.map_nil, List.nil_append, List.cons_append, List.append_nil, List.length_cons, List.length_nil, List.replicate_zero, List.replicate_succ, List.getElem?_cons_zero, List.getElem?_cons_succ, List.set_cons_zero, List.set_cons_succ, decide_eq_true_eq, Bool.not_eq_true, pureRs_cons, pureRs_nil, pureRs_map, pureRs_ref, Option.map_some, Option.map_none, atI_lit, ixN_lit, oSet_ref, isTy, tyName, two_eq2, one_eq1, wipeE, beq_self_eq_true, pv_d, pv_ref, Lc.plain, Lc.plains, Lc.dep, Lc.deps, Lc.eqD, Lc.eqDs, Nat.zero_le, Nat.max_self, Nat.zero_max, Nat.max_zero, ↓reduceIte, Nat.reduceAdd, Nat.reduceSub, Nat.reduceMul, Nat.reduceLT, Nat.reduceLeDiff, Nat.reduceEqDiff, Nat.zero_add, Int.reduceAdd, Int.reduceSub, Int.reduceMul, Int.reduceLT, Int.reduceLE, Int.reduceEq, Int.reduceNe, Int.reduceNeg, Int.reduceToNat, Int.reducePow, Nat.reducePow, Int.reduceAbs, SL, reduceCtorEq, true_and, and_true, false_and, and_false, ne_eq, not_false_eq_true, not_true_eq_false, Bool.not_true, Bool.not_false, Bool.true_and, Bool.and_true, Bool.false_and, Bool.and_false, Bool.false_eq_true, decide_true, decide_false, Bool.not_eq_eq_eq_not, decide_not, pureC_lst, pureC_tup, pureC_dct, pureC_obj, pureC_frz]
    refine number01 (by omega) (by omega) fun n s2 g1 g2 g3 => ?_
    exact ⟨_, s2, .int n g1, by omega, by omega, rfl, rfl⟩
  · simp only [↓ws_seq, ↓ws_nil, ↓ws_lift, ↓ws_drop, ↓ws_ret, ↓ws_retN, ↓ws_brk, ↓ws_cont, ↓ws_if, ↓ws_set, ↓ws_asg, ↓ws_gset, ↓ws_gnone, ↓ws_gmore, ↓ws_gtup, ↓ws_gstar, ↓ws_gsub, ↓ws_par, ↓ws_aug, ↓ws_forI, ↓ws_nx, ↓ws_rt, ↓ws_ex, ↓ws_no, ↓w_fn, ↓w_lit, ↓w_var, ↓w_bin, ↓w_esNil, ↓w_esCons, ↓w_tup, ↓w_lst, ↓w_dct0, ↓w_blt, ↓w_bm, ↓w_eand, ↓w_eor, ↓w_enot, ↓w_if, ↓w_chain, ↓w_neg, ↓w_isi, ↓w_isi2, ↓w_sl, ↓w_pn, ↓w_ps, ↓w_revL, ↓w_get2, ↓w_get1, ↓w_inT, ↓w_ixT, ↓w_getT, ↓w_fld, ↓w_call, ↓w_comp, ↓w_yes, ↓w_bcmp, ↓w_bof, ↓w_band, ↓w_bor, ↓w_bnot, ↓w_of, ↓w_srcOf, ↓w_srcSeq, ↓w_srcRev, ↓w_ok, ↓w_ex, ↓w_no, ↓w_bind, ↓w_ite, ↓w_sub, ↓w_mod, ↓w_div, ↓w_pow, ↓w_lt, ↓w_le, ↓w_gt, ↓w_ge, ↓w_addI, ↓w_mulI, ↓w_eqI, ↓w_neI, ↓w_eqBB, ↓w_neBB, ↓w_eqS, ↓w_neS, ↓w_isNon, ↓w_isNotNon, ↓w_isB, ↓w_mkT, ↓w_mkF, ↓w_addL, ↓w_addS, ↓w_addT, ↓w_addR, ↓w_mulL, ↓w_ixL, ↓w_ixT2, ↓w_ixR, ↓w_oSl, ↓w_eqLL, ↓w_neLL, ↓w_eqTT, ↓w_neTT, ↓w_eqR, ↓w_neR, ↓w_popAt0, ↓w_append, ↓w_pop, ↓w_lenL, ↓w_lenT, ↓w_lenS, ↓w_lenD, ↓w_lenR, ↓w_tupleL, ↓w_tupleT, ↓w_listL, ↓w_listT, ↓w_min, ↓w_max, ↓w_intI, ↓w_intB, ↓w_abs, ↓w_seqL, ↓w_seqT, ↓w_seqS, ↓w_kR1, ↓w_kR2, ↓w_kEnumL, ↓w_kZipT, ↓w_kZipL, ↓w_inS, vw_non, vw_bl, vw_int, vw_str, vw_lst, vw_tup, vw_dct, vw_obj, vw_ref, vwC_lst, vwC_tup, vwC_dct, vwC_obj, vwC_frz, List.map_cons, List.map_nil, List.nil_append, List.cons_append, List.append_nil, List.length_cons, List.length_nil, List.replicate_zero, List.replicate_succ, List.getElem?_cons_zero, List.getElem?_cons_succ, List.set_cons_zero, List.set_cons_succ, decide_eq_true_eq, Bool.not_eq_true, pureRs_cons, pureRs_nil, pureRs_map, pureRs_ref, Option.map_some, Option.map_none, atI_lit, ixN_lit, oSet_ref, isTy, tyName, two_eq2, one_eq1, wipeE, beq_self_eq_true, pv_d, pv_ref, Lc.plain, Lc.plains, Lc.dep, Lc.deps, Lc.eqD, Lc.eqDs, Nat.zero_le, Nat.max_self, Nat.zero_max, Nat.max_zero, ↓reduceIte, Nat.reduceAdd, Nat.reduceSub, Nat.reduceMul, Nat.reduceLT, Nat.reduceLeDiff, Nat.reduceEqDiff, Nat.zero_add, Int.reduceAdd, Int.reduceSub, Int.reduceMul, Int.reduceLT, Int.reduceLE, Int.reduceEq, Int.reduceNe, Int.reduceNeg, Int.reduceToNat, Int.reducePow, Nat.reducePow, Int.reduceAbs, SL, reduceCtorEq, true_and, and_true, false_and, and_false, ne_eq, not_false_eq_true, not_true_eq_false, Bool.not_true, Bool.not_false, Bool.true_and, Bool.and_true, Bool.false_and, Bool.and_false, Bool.false_eq_true, decide_true, decide_false, Bool.not_eq_eq_eq_not, decide_not, pureC_lst, pureC_tup, pureC_dct, pureC_obj, pureC_frz]
    refine take01 (by decide) (by omega) (by omega) (by decide) fun n s2 g0 g1 hk2 => ?_
    have n4 : n = 0 ∨ n = 1 ∨ n = 2 ∨ n = 3 := by omega
    rcases n4 with rfl | rfl | rfl | rfl
    · simp only [↓ws_seq, ↓ws_nil, ↓ws_lift, ↓ws_drop, ↓ws_ret, ↓ws_retN, ↓ws_brk, ↓ws_cont, ↓ws_if, ↓ws_set, ↓ws_asg, ↓ws_gset, ↓ws_gnone, ↓ws_gmore, ↓ws_gtup, ↓ws_gstar, ↓ws_gsub, ↓ws_par, ↓ws_aug, ↓ws_forI, ↓ws_nx, ↓ws_rt, ↓ws_ex, ↓ws_no, ↓w_fn, ↓w_lit, ↓w_var, ↓w_bin, ↓w_esNil, ↓w_esCons, ↓w_tup, ↓w_lst, ↓w_dct0, ↓w_blt, ↓w_bm, ↓w_eand, ↓w_eor, ↓w_enot, ↓w_if, ↓w_chain, ↓w_neg, ↓w_isi, ↓w_isi2, ↓w_sl, ↓w_pn, ↓w_ps, ↓w_revL, ↓w_get2, ↓w_get1, ↓w_inT, ↓w_ixT, ↓w_getT, ↓w_fld, ↓w_call, ↓w_comp, ↓w_yes, ↓w_bcmp, ↓w_bof, ↓w_band, ↓w_bor, ↓w_bnot, ↓w_of, ↓w_srcOf, ↓w_srcSeq, ↓w_srcRev, ↓w_ok, ↓w_ex, ↓w_no, ↓w_bind, ↓w_ite, ↓w_sub, ↓w_mod, ↓w_div, ↓w_pow, ↓w_lt, ↓w_le, ↓w_gt, ↓w_ge, ↓w_addI, ↓w_mulI, ↓w_eqI, ↓w_neI, ↓w_eqBB, ↓w_neBB, ↓w_eqS, ↓w_neS, ↓w_isNon, ↓w_isNotNon, ↓w_isB, ↓w_mkT, ↓w_mkF, ↓w_addL, ↓w_addS, ↓w_addT, ↓w_addR, ↓w_mulL, ↓w_ixL, ↓w_ixT2, ↓w_ixR, ↓w_oSl, ↓w_eqLL, ↓w_neLL, ↓w_eqTT, ↓w_neTT, ↓w_eqR, ↓w_neR, ↓w_popAt0, ↓w_append, ↓w_pop, ↓w_lenL, ↓w_lenT, ↓w_lenS, ↓w_lenD, ↓w_lenR, ↓w_tupleL, ↓w_tupleT, ↓w_listL, ↓w_listT, ↓w_min, ↓w_max, ↓w_intI, ↓w_intB, ↓w_abs, ↓w_seqL, ↓w_seqT, ↓w_seqS, ↓w_kR1, ↓w_kR2, ↓w_kEnumL, ↓w_kZipT, ↓w_kZipL, ↓w_inS, vw_non, vw_bl, vw_int, vw_str, vw_lst, vw_tup, vw_dct, vw_obj, vw_ref, vwC_lst, vwC_tup, vwC_dct, vwC_obj, vwC_frz, List.map_cons, List.map_nil, List.nil_append, List.cons_append, List.append_nil, List.length_cons, List.length_nil, List.replicate_zero, List.replicate_succ, List.getElem?_cons_zero, List.getElem?_cons_succ, List.set_cons_zero, List.set_cons_succ, decide_eq_true_eq, Bool.not_eq_true, pureRs_cons, pureRs_nil, pureRs_map, pureRs_ref, Option.map_some, Option.map_none, atI_lit, ixN_lit, oSet_ref, isTy, tyName, two_eq2, one_eq1, wipeE, beq_self_eq_true, pv_d, pv_ref, Lc.plain, Lc.plains, Lc.dep, Lc.deps, Lc.eqD, Lc.eqDs, Nat.zero_le, Nat.max_self, Nat.zero_max, Nat.max_zero, ↓reduceIte, Nat.reduceAdd, Nat.reduceSub, Nat.reduceMul, Nat.reduceLT, Nat.reduceLeDiff, Nat.reduceEqDiff, Nat.zero_add, Int.reduceAdd, Int.reduceSub, Int.reduceMul, Int.reduceLT, Int.reduceLE, Int.reduceEq, Int.reduceNe, Int.reduceNeg, Int.reduceToNat, Int.reducePow, Nat.reducePow, Int.reduceAbs, SL, reduceCtorEq, true_and, and_true, false_and, and_false, ne_eq, not_false_eq_true, not_true_eq_false, Bool.not_true, Bool.not_false, Bool.true_and, Bool.and_true, Bool.false_and, Bool.and_false, Bool.false_eq_true, decide_true, decide_false, Bool.not_eq_eq_eq_not, decide_not, pureC_lst, pureC_tup, pureC_dct, pureC_obj, pureC_frz]
      exact ⟨_, s2, .str _ (by decide), by omega, by omega, rfl, rfl⟩
    · simp only [↓ws_seq, ↓ws_nil, ↓ws_lift, ↓ws_drop, ↓ws_ret, ↓ws_retN, ↓ws_brk, ↓ws_cont, ↓ws_if, ↓ws_set, ↓ws_asg, ↓ws_gset, ↓ws_gnone, ↓ws_gmore, ↓ws_gtup, ↓ws_gstar, ↓ws_gsub, ↓ws_par, ↓ws_aug, ↓ws_forI, ↓ws_nx, ↓ws_rt, ↓ws_ex, ↓ws_no, ↓w_fn, ↓w_lit, ↓w_var, ↓w_bin, ↓w_esNil, ↓w_esCons, ↓w_tup, ↓w_lst, ↓w_dct0, ↓w_blt, ↓w_bm, ↓w_eand, ↓w_eor, ↓w_enot, ↓w_if, ↓w_chain, ↓w_neg, ↓w_isi, ↓w_isi2, ↓w_sl, ↓w_pn, ↓w_ps, ↓w_revL, ↓w_get2, ↓w_get1, ↓w_inT, ↓w_ixT, ↓w_getT, ↓w_fld, ↓w_call, ↓w_comp, ↓w_yes, ↓w_bcmp, ↓w_bof, ↓w_band, ↓w_bor, ↓w_bnot, ↓w_of, ↓w_srcOf, ↓w_srcSeq, ↓w_srcRev, ↓w_ok, ↓w_ex, ↓w_no, ↓w_bind, ↓w_ite, ↓w_sub, ↓w_mod, ↓w_div, ↓w_pow, ↓w_lt, ↓w_le, ↓w_gt, ↓w_ge, ↓w_addI, ↓w_mulI, ↓w_eqI, ↓w_neI, ↓w_eqBB, ↓w_neBB, ↓w_eqS, ↓w_neS, ↓w_isNon, ↓w_isNotNon, ↓w_isB, ↓w_mkT, ↓w_mkF, ↓w_addL, ↓w_addS, ↓w_addT, ↓w_addR, ↓w_mulL, ↓w_ixL, ↓w_ixT2, ↓w_ixR, ↓w_oSl, ↓w_eqLL, ↓w_neLL, ↓w_eqTT, ↓w_neTT, ↓w_eqR, ↓w_neR, ↓w_popAt0, ↓w_append, ↓w_pop, ↓w_lenL, ↓w_lenT, ↓w_lenS, ↓w_lenD, ↓w_lenR, ↓w_tupleL, ↓w_tupleT, ↓w_listL, ↓w_listT, ↓w_min, ↓w_max, ↓w_intI, ↓w_intB, ↓w_abs, ↓w_seqL, ↓w_seqT, ↓w_seqS, ↓w_kR1, ↓w_kR2, ↓w_kEnumL, ↓w_kZipT, ↓w_kZipL, ↓w_inS, vw_non, vw_bl, vw_int, vw_str, vw_lst, vw_tup, vw_dct, vw_obj, vw_ref, vwC_lst, vwC_tup, vwC_dct, vwC_obj, vwC_frz, List.map_cons, List.map_nil, List.nil_append, List.cons_append, List.append_nil, List.length_cons, List.length_nil, List.replicate_zero, List.replicate_succ, List.getElem?_cons_zero, List.getElem?_cons_succ, List.set_cons_zero, List.set_cons_succ, decide_eq_true_eq, Bool.not_eq_true, pureRs_cons, pureRs_nil, pureRs_map, pureRs_ref, Option.map_some, Option.map_none, atI_lit, ixN_lit, oSet_ref, isTy, tyName, two_eq2, one_eq1, wipeE, beq_self_eq_true, pv_d, pv_ref, Lc.plain, Lc.plains, Lc.dep, Lc.deps, Lc.eqD, Lc.eqDs, Nat.zero_le, Nat.max_self, Nat.zero_max, Nat.max_zero, ↓reduceIte, Nat.reduceAdd, Nat.reduceSub, Nat.reduceMul, Nat.reduceLT, Nat.reduceLeDiff, Nat.reduceEqDiff, Nat.zero_add, Int.reduceAdd, Int.reduceSub, Int.reduceMul, Int.reduceLT, Int.reduceLE, Int.reduceEq, Int.reduceNe, Int.reduceNeg, Int.reduceToNat, Int.reducePow, Nat.reducePow, Int.reduceAbs, SL, reduceCtorEq, true_and, and_true, false_and, and_false, ne_eq, not_false_eq_true, not_true_eq_false, Bool.not_true, Bool.not_false, Bool.true_and, Bool.and_true, Bool.false_and, Bool.and_false, Bool.false_eq_true, decide_true, decide_false, Bool.not_eq_eq_eq_not, decide_not, pureC_lst, pureC_tup, pureC_dct, pureC_obj, pureC_frz]
      exact ⟨_, s2, .str _ (by decide), by omega, by omega, rfl, rfl⟩
    · simp only [↓ws_seq, ↓ws_nil, ↓ws_lift, ↓ws_drop, ↓ws_ret, ↓ws_retN, ↓ws_brk, ↓ws_cont, ↓ws_if, ↓ws_set, ↓ws_asg, ↓ws_gset, ↓ws_gnone, ↓ws_gmore, ↓ws_gtup, ↓ws_gstar, ↓ws_gsub, ↓ws_par, ↓ws_aug, ↓ws_forI, ↓ws_nx, ↓ws_rt, ↓ws_ex, ↓ws_no, ↓w_fn, ↓w_lit, ↓w_var, ↓w_bin, ↓w_esNil, ↓w_esCons, ↓w_tup, ↓w_lst, ↓w_dct0, ↓w_blt, ↓w_bm, ↓w_eand, ↓w_eor, ↓w_enot, ↓w_if, ↓w_chain, ↓w_neg, ↓w_isi, ↓w_isi2, ↓w_sl, ↓w_pn, ↓w_ps, ↓w_revL, ↓w_get2, ↓w_get1, ↓w_inT, ↓w_ixT, ↓w_getT, ↓w_fld, ↓w_call, ↓w_comp, ↓w_yes, ↓w_bcmp, ↓w_bof, ↓w_band, ↓w_bor, ↓w_bnot, ↓w_of, ↓w_srcOf, ↓w_srcSeq, ↓w_srcRev, ↓w_ok, ↓w_ex, ↓w_no, ↓w_bind, ↓w_ite, ↓w_sub, ↓w_mod, ↓w_div, ↓w_pow, ↓w_lt, ↓w_le, ↓w_gt, ↓w_ge, ↓w_addI, ↓w_mulI, ↓w_eqI, ↓w_neI, ↓w_eqBB, ↓w_neBB, ↓w_eqS, ↓w_neS, ↓w_isNon, ↓w_isNotNon, ↓w_isB, ↓w_mkT, ↓w_mkF, ↓w_addL, ↓w_addS, ↓w_addT, ↓w_addR, ↓w_mulL, ↓w_ixL, ↓w_ixT2, ↓w_ixR, ↓w_oSl, ↓w_eqLL, ↓w_neLL, ↓w_eqTT, ↓w_neTT, ↓w_eqR, ↓w_neR, ↓w_popAt0, ↓w_append, ↓w_pop, ↓w_lenL, ↓w_lenT, ↓w_lenS, ↓w_lenD, ↓w_lenR, ↓w_tupleL, ↓w_tupleT, ↓w_listL, ↓w_listT, ↓w_min, ↓w_max, ↓w_intI, ↓w_intB, ↓w_abs, ↓w_seqL, ↓w_seqT, ↓w_seqS, ↓w_kR1, ↓w_kR2, ↓w_kEnumL, ↓w_kZipT, ↓w_kZipL, ↓w_inS, vw_non, vw_bl, vw_int, vw_str, vw_lst, vw_tup, vw_dct, vw_obj, vw_ref, vwC_lst, vwC_tup, vwC_dct, vwC_obj, vwC_frz, List.map_cons, List.map_nil, List.nil_append, List.cons_append, List.append_nil, List.length_cons, List.length_nil, List.replicate_zero, List.replicate_succ, List.getElem?_cons_zero, List.getElem?_cons_succ, List.set_cons_zero, List.set_cons_succ, decide_eq_true_eq, Bool.not_eq_true, pureRs_cons, pureRs_nil, pureRs_map, pureRs_ref, Option.map_some, Option.map_none, atI_lit, ixN_lit, oSet_ref, isTy, tyName, two_eq2, one_eq1, wipeE, beq_self_eq_true, pv_d, pv_ref, Lc.plain, Lc.plains, Lc.dep, Lc.deps, Lc.eqD, Lc.eqDs, Nat.zero_le, Nat.max_self, Nat.zero_max, Nat.max_zero, ↓reduceIte, Nat.reduceAdd, Nat.reduceSub, Nat.reduceMul, Nat.reduceLT, Nat.reduceLeDiff, Nat.reduceEqDiff, Nat.zero_add, Int.reduceAdd, Int.reduceSub, Int.reduceMul, Int.reduceLT, Int.reduceLE, Int.reduceEq, Int.reduceNe, Int.reduceNeg, Int.reduceToNat, Int.reducePow, Nat.reducePow, Int.reduceAbs, SL, reduceCtorEq, true_and, and_true, false_and, and_false, ne_eq, not_false_eq_true, not_true_eq_false, Bool.not_true, Bool.not_false, Bool.true_and, Bool.and_true, Bool.false_and, Bool.and_false, Bool.false_eq_true, decide_true, decide_false, Bool.not_eq_eq_eq_not, decide_not, pureC_lst, pureC_tup, pureC_dct, pureC_obj, pureC_frz]
      exact ⟨_, s2, .str _ (by decide), by omega, by omega, rfl, rfl⟩
    · simp only [↓ws_seq, ↓ws_nil, ↓ws_lift, ↓ws_drop, ↓ws_ret, ↓ws_retN, ↓ws_brk, ↓ws_cont, ↓ws_if, ↓ws_set, ↓ws_asg, ↓ws_gset, ↓ws_gnone, ↓ws_gmore, ↓ws_gtup, ↓ws_gstar, ↓ws_gsub, ↓ws_par, ↓ws_aug, ↓ws_forI, ↓ws_nx, ↓ws_rt, ↓ws_ex, ↓ws_no, ↓w_fn, ↓w_lit, ↓w_var, ↓w_bin, ↓w_esNil, ↓w_esCons, ↓w_tup, ↓w_lst, ↓w_dct0, ↓w_blt, ↓w_bm, ↓w_eand, ↓w_eor, ↓w_enot, ↓w_if, ↓w_chain, ↓w_neg, ↓w_isi, ↓w_isi2, ↓w_sl, ↓w_pn, ↓w_ps, ↓w_revL, ↓w_get2, ↓w_get1, ↓w_inT, ↓w_ixT, ↓w_getT, ↓w_fld, ↓w_call, ↓w_comp, ↓w_yes, ↓w_bcmp, ↓w_bof, ↓w_band, ↓w_bor, ↓w_bnot, ↓w_of, ↓w_srcOf, ↓w_srcSeq, ↓w_srcRev, ↓w_ok, ↓w_ex, ↓w_no, ↓w_bind, ↓w_ite, ↓w_sub, ↓w_mod, ↓w_div, ↓w_pow, ↓w_lt, ↓w_le, ↓w_gt, ↓w_ge, ↓w_addI, ↓w_mulI, ↓w_eqI, ↓w_neI, ↓w_eqBB, ↓w_neBB, ↓w_eqS, ↓w_neS, ↓w_isNon, ↓w_isNotNon, ↓w_isB, ↓w_mkT, ↓w_mkF, ↓w_addL, ↓w_addS, ↓w_addT, ↓w_addR, ↓w_mulL, ↓w_ixL, ↓w_ixT2, ↓w_ixR, ↓w_oSl, ↓w_eqLL, ↓w_neLL, ↓w_eqTT, ↓w_neTT, ↓w_eqR, ↓w_neR, ↓w_popAt0, ↓w_append, ↓w_pop, ↓w_lenL, ↓w_lenT, ↓w_lenS, ↓w_lenD, ↓w_lenR, ↓w_tupleL, ↓w_tupleT, ↓w_listL, ↓w_listT, ↓w_min, ↓w_max, ↓w_intI, ↓w_intB, ↓w_abs, ↓w_seqL, ↓w_seqT, ↓w_seqS, ↓w_kR1, ↓w_kR2, ↓w_kEnumL, ↓w_kZipT, ↓w_kZipL, ↓w_inS, vw_non, vw_bl, vw_int, vw_str, vw_lst, vw_tup, vw_dct, vw_obj, vw_ref, vwC_lst, vwC_tup, vwC_dct, vwC_obj, vwC_frz, List.map_cons, List.map_nil, List.nil_append, List.cons_append, List.append_nil, List.length_cons, List.length_nil, List.replicate_zero, List.replicate_succ, List.getElem?_cons_zero, List.getElem?_cons_succ, List.set_cons_zero, List.set_cons_succ, decide_eq_true_eq, Bool.not_eq_true, pureRs_cons, pureRs_nil, pureRs_map, pureRs_ref, Option.map_some, Option.map_none, atI_lit, ixN_lit, oSet_ref, isTy, tyName, two_eq2, one_eq1, wipeE, beq_self_eq_true, pv_d, pv_ref, Lc.plain, Lc.plains, Lc.dep, Lc.deps, Lc.eqD, Lc.eqDs, Nat.zero_le, Nat.max_self, Nat.zero_max, Nat.max_zero, ↓reduceIte, Nat.reduceAdd, Nat.reduceSub, Nat.reduceMul, Nat.reduceLT, Nat.reduceLeDiff, Nat.reduceEqDiff, Nat.zero_add, Int.reduceAdd, Int.reduceSub, Int.reduceMul, Int.reduceLT, Int.reduceLE, Int.reduceEq, Int.reduceNe, Int.reduceNeg, Int.reduceToNat, Int.reducePow, Nat.reducePow, Int.reduceAbs, SL, reduceCtorEq, true_and, and_true, false_and, and_false, ne_eq, not_false_eq_true, not_true_eq_false, Bool.not_true, Bool.not_false, Bool.true_and, Bool.and_true, Bool.false_and, Bool.and_false, Bool.false_eq_true, decide_true, decide_false, Bool.not_eq_eq_eq_not, decide_not, pureC_lst, pureC_tup, pureC_dct, pureC_obj, pureC_frz]
      exact ⟨_, s2, .str _ (by decide), by omega, by omega, rfl, rfl⟩
  · simp only [↓ws_seq, ↓ws_nil, ↓ws_lift, ↓ws_drop, ↓ws_ret, ↓ws_retN, ↓ws_brk, ↓ws_cont, ↓ws_if, ↓ws_set, ↓ws_asg, ↓ws_gset, ↓ws_gnone, ↓ws_gmore, ↓ws_gtup, ↓ws_gstar, ↓ws_gsub, ↓ws_par, ↓ws_aug, ↓ws_forI, ↓ws_nx, ↓ws_rt, ↓ws_ex, ↓ws_no, ↓w_fn, ↓w_lit, ↓w_var, ↓w_bin, ↓w_esNil, ↓w_esCons, ↓w_tup, ↓w_lst, ↓w_dct0, ↓w_blt, ↓w_bm, ↓w_eand, ↓w_eor, ↓w_enot, ↓w_if, ↓w_chain, ↓w_neg, ↓w_isi, ↓w_isi2, ↓w_sl, ↓w_pn, ↓w_ps, ↓w_revL, ↓w_get2, ↓w_get1, ↓w_inT, ↓w_ixT, ↓w_getT, ↓w_fld, ↓w_call, ↓w_comp, ↓w_yes, ↓w_bcmp, ↓w_bof, ↓w_band, ↓w_bor, ↓w_bnot, ↓w_of, ↓w_srcOf, ↓w_srcSeq, ↓w_srcRev, ↓w_ok, ↓w_ex, ↓w_no, ↓w_bind, ↓w_ite, ↓w_sub, ↓w_mod, ↓w_div, ↓w_pow, ↓w_lt, ↓w_le, ↓w_gt, ↓w_ge, ↓w_addI, ↓w_mulI, ↓w_eqI, ↓w_neI, ↓w_eqBB, ↓w_neBB, ↓w_eqS, ↓w_neS, ↓w_isNon, ↓w_isNotNon, ↓w_isB, ↓w_mkT, ↓w_mkF, ↓w_addL, ↓w_addS, ↓w_addT, ↓w_addR, ↓w_mulL, ↓w_ixL, ↓w_ixT2, ↓w_ixR, ↓w_oSl, ↓w_eqLL, ↓w_neLL, ↓w_eqTT, ↓w_neTT, ↓w_eqR, ↓w_neR, ↓w_popAt0, ↓w_append, ↓w_pop, ↓w_lenL, ↓w_lenT, ↓w_lenS, ↓w_lenD, ↓w_lenR, ↓w_tupleL, ↓w_tupleT, ↓w_listL, ↓w_listT, ↓w_min, ↓w_max, ↓w_intI, ↓w_intB, ↓w_abs, ↓w_seqL, ↓w_seqT, ↓w_seqS, ↓w_kR1, ↓w_kR2, ↓w_kEnumL, ↓w_kZipT, ↓w_kZipL, ↓w_inS, vw_non, vw_bl, vw_int, vw_str, vw_lst, vw_tup, vw_dct, vw_obj, vw_ref, vwC_lst, vwC_tup, vwC_dct, vwC_obj, vwC_frz, List.map_cons, List.map_nil, List.nil_append, List.cons_append, List.append_nil, List.length_cons, List.length_nil, List.replicate_zero, List.replicate_succ, List.getElem?_cons_zero, List.getElem?_cons_succ, List.set_cons_zero, List.set_cons_succ, decide_eq_true_eq, Bool.not_eq_true, pureRs_cons, pureRs_nil, pureRs_map, pureRs_ref, Option.map_some, Option.map_none, atI_lit, ixN_lit, oSet_ref, isTy, tyName, two_eq2, one_eq1, wipeE, beq_self_eq_true, pv_d, pv_ref, Lc.plain, Lc.plains, Lc.dep, Lc.deps, Lc.eqD, Lc.eqDs, Nat.zero_le, Nat.max_self, Nat.zero_max, Nat.max_zero, ↓reduceIte, Nat.reduceAdd, Nat.reduceSub, Nat.reduceMul, Nat.reduceLT, Nat.reduceLeDiff, Nat.reduceEqDiff, Nat.zero_add, Int.reduceAdd, Int.reduceSub, Int.reduceMul, Int.reduceLT, Int.reduceLE, Int.reduceEq, Int.reduceNe, Int.reduceNeg, Int.reduceToNat, Int.reducePow, Nat.reducePow, Int.reduceAbs, SL, reduceCtorEq, true_and, and_true, false_and, and_false, ne_eq, not_false_eq_true, not_true_eq_false, Bool.not_true, Bool.not_false, Bool.true_and, Bool.and_true, Bool.false_and, Bool.and_false, Bool.false_eq_true, decide_true, decide_false, Bool.not_eq_eq_eq_not, decide_not, pureC_lst, pureC_tup, pureC_dct, pureC_obj, pureC_frz]
    refine take01 (by decide) (by omega) (by omega) (by decide) fun n s2 g0 g1 hk2 => ?_
    simp only [↓ws_seq, ↓ws_nil, ↓ws_lift, ↓ws_drop, ↓ws_ret, ↓ws_retN, ↓ws_brk, ↓ws_cont, ↓ws_if, ↓ws_set, ↓ws_asg, ↓ws_gset, ↓ws_gnone, ↓ws_gmore, ↓ws_gtup, ↓ws_gstar, ↓ws_gsub, ↓ws_par, ↓ws_aug, ↓ws_forI, ↓ws_nx, ↓ws_rt, ↓ws_ex, ↓ws_no, ↓w_fn, ↓w_lit, ↓w_var, ↓w_bin, ↓w_esNil, ↓w_esCons, ↓w_tup, ↓w_lst, ↓w_dct0, ↓w_blt, ↓w_bm, ↓w_eand, ↓w_eor, ↓w_enot, ↓w_if, ↓w_chain, ↓w_neg, ↓w_isi, ↓w_isi2, ↓w_sl, ↓w_pn, ↓w_ps, ↓w_revL, ↓w_get2, ↓w_get1, ↓w_inT, ↓w_ixT, ↓w_getT, ↓w_fld, ↓w_call, ↓w_comp, ↓w_yes, ↓w_bcmp, ↓w_bof, ↓w_band, ↓w_bor, ↓w_bnot, ↓w_of, ↓w_srcOf, ↓w_srcSeq, ↓w_srcRev, ↓w_ok, ↓w_ex, ↓w_no, ↓w_bind, ↓w_ite, ↓w_sub, ↓w_mod, ↓w_div, ↓w_pow, ↓w_lt, ↓w_le, ↓w_gt, ↓w_ge, ↓w_addI, ↓w_mulI, ↓w_eqI, ↓w_neI, ↓w_eqBB, ↓w_neBB, ↓w_eqS, ↓w_neS, ↓w_isNon, ↓w_isNotNon, ↓w_isB, ↓w_mkT, ↓w_mkF, ↓w_addL, ↓w_addS, ↓w_addT, ↓w_addR, ↓w_mulL, ↓w_ixL, ↓w_ixT2, ↓w_ixR, ↓w_oSl, ↓w_eqLL, ↓w_neLL, ↓w_eqTT, ↓w_neTT, ↓w_eqR, ↓w_neR, ↓w_popAt0, ↓w_append, ↓w_pop, ↓w_lenL, ↓w_lenT, ↓w_lenS, ↓w_lenD, ↓w_lenR, ↓w_tupleL, ↓w_tupleT, ↓w_listL, ↓w_listT, ↓w_min, ↓w_max, ↓w_intI, ↓w_intB, ↓w_abs, ↓w_seqL, ↓w_seqT, ↓w_seqS, ↓w_kR1, ↓w_kR2, ↓w_kEnumL, ↓w_kZipT, ↓w_kZipL, ↓w_inS, vw_non, vw_bl, vw_int, vw_str, vw_lst, vw_tup, vw_dct, vw_obj, vw_ref, vwC_lst, vwC_tup, vwC_dct, vwC_obj, vwC_frz, List.map_cons, List.map_nil, List.nil_append, List.cons_append, List.append_nil, List.length_cons, List.length_nil, List.replicate_zero, List.replicate_succ, List.getElem?_cons_zero, List.getElem?_cons_succ, List.set_cons_zero, List.set_cons_succ, decide_eq_true_eq, Bool.not_eq_true, pureRs_cons, pureRs_nil, pureRs_map, pureRs_ref, Option.map_some, Option.map_none, atI_lit, ixN_lit, oSet_ref, isTy, tyName, two_eq2, one_eq1, wipeE, beq_self_eq_true, pv_d, pv_ref, Lc.plain, Lc.plains, Lc.dep, Lc.deps, Lc.eqD, Lc.eqDs, Nat.zero_le, Nat.max_self, Nat.zero_max, Nat.max_zero, ↓reduceIte, Nat.reduceAdd, Nat.reduceSub, Nat.reduceMul, Nat.reduceLT, Nat.reduceLeDiff, Nat.reduceEqDiff, Nat.zero_add, Int.reduceAdd, Int.reduceSub, Int.reduceMul, Int.reduceLT, Int.reduceLE, Int.reduceEq, Int.reduceNe, Int.reduceNeg, Int.reduceToNat, Int.reducePow, Nat.reducePow, Int.reduceAbs, SL, reduceCtorEq, true_and, and_true, false_and, and_false, ne_eq, not_false_eq_true, not_true_eq_false, Bool.not_true, Bool.not_false, Bool.true_and, Bool.and_true, Bool.false_and, Bool.and_false, Bool.false_eq_true, decide_true, decide_false, Bool.not_eq_eq_eq_not, decide_not, pureC_lst, pureC_tup, pureC_dct, pureC_obj, pureC_frz]
    refine ⟨by simp [rgOk]; omega, ?_⟩
    refine w_compI (fun as acc m => ∃ (s' : Dr) (ns : List Int), m = [cA 1 s', cB s'] ∧ acc = (iDs ns).map .d ∧ (∀ n ∈ ns, numOk n) ∧ ns.length + as.length = n.toNat ∧ s2.k ≤ s'.k ∧ s'.k ≤ s2.k + 3 * ns.length) ?_ ?_ ?_
    · exact ⟨s2, [], rfl, rfl, by simp, by simp [rngL], by omega, by simp⟩
    · rintro acc m ⟨s', ns, rfl, rfl, h1, h2, h3, h4⟩
      simp only [↓ws_seq, ↓ws_nil, ↓ws_lift, ↓ws_drop, ↓ws_ret, ↓ws_retN, ↓ws_brk, ↓ws_cont, ↓ws_if, ↓ws_set, ↓ws_asg, ↓ws_gset, ↓ws_gnone, ↓ws_gmore, ↓ws_gtup, ↓ws_gstar, ↓ws_gsub, ↓ws_par, ↓ws_aug, ↓ws_forI, ↓ws_nx, ↓ws_rt, ↓ws_ex, ↓ws_no, ↓w_fn, ↓w_lit, ↓w_var, ↓w_bin, ↓w_esNil, ↓w_esCons, ↓w_tup, ↓w_lst, ↓w_dct0, ↓w_blt, ↓w_bm, ↓w_eand, ↓w_eor, ↓w_enot, ↓w_if, ↓w_chain, ↓w_neg, ↓w_isi, ↓w_isi2, ↓w_sl, ↓w_pn, ↓w_ps, ↓w_revL, ↓w_get2, ↓w_get1, ↓w_inT, ↓w_ixT, ↓w_getT, ↓w_fld, ↓w_call, ↓w_comp, ↓w_yes, ↓w_bcmp, ↓w_bof, ↓w_band, ↓w_bor, ↓w_bnot, ↓w_of, ↓w_srcOf, ↓w_srcSeq, ↓w_srcRev, ↓w_ok, ↓w_ex, ↓w_no, ↓w_bind, ↓w_ite, ↓w_sub, ↓w_mod, ↓w_div, ↓w_pow, ↓w_lt, ↓w_le, ↓w_gt, ↓w_ge, ↓w_addI, ↓w_mulI, ↓w_eqI, ↓w_neI, ↓w_eqBB, ↓w_neBB, ↓w_eqS, ↓w_neS, ↓w_isNon, ↓w_isNotNon, ↓w_isB, ↓w_mkT, ↓w_mkF, ↓w_addL, ↓w_addS, ↓w_addT, ↓w_addR, ↓w_mulL, ↓w_ixL, ↓w_ixT2, ↓w_ixR, ↓w_oSl, ↓w_eqLL, ↓w_neLL, ↓w_eqTT, ↓w_neTT, ↓w_eqR, ↓w_neR, ↓w_popAt0, ↓w_append, ↓w_pop, ↓w_lenL, ↓w_lenT, ↓w_lenS, ↓w_lenD, ↓w_lenR, ↓w_tupleL, ↓w_tupleT, ↓w_listL, ↓w_listT, ↓w_min, ↓w_max, ↓w_intI, ↓w_intB, ↓w_abs, ↓w_seqL, ↓w_seqT, ↓w_seqS, ↓w_kR1, ↓w_kR2, ↓w_kEnumL, ↓w_kZipT, ↓w_kZipL, ↓w_inS, vw_non, vw_bl, vw_int, vw_str, vw_lst, vw_tup, vw_dct, vw_obj, vw_ref, vwC_lst, vwC_tup, vwC_dct, vwC_obj, vwC_frz, List.map_cons, List.map_nil, List.nil_append, List.cons_append, List.append_nil, List.length_cons, List.length_nil, List.replicate_zero, List.replicate_succ, List.getElem?_cons_zero, List.getElem?_cons_succ, List.set_cons_zero, List.set_cons_succ, decide_eq_true_eq, Bool.not_eq_true, pureRs_cons, pureRs_nil, pureRs_map, pureRs_ref, Option.map_some, Option.map_none, atI_lit, ixN_lit, oSet_ref, isTy, tyName, two_eq2, one_eq1, wipeE, beq_self_eq_true, pv_d, pv_ref, Lc.plain, Lc.plains, Lc.dep, Lc.deps, Lc.eqD, Lc.eqDs, Nat.zero_le, Nat.max_self, Nat.zero_max, Nat.max_zero, ↓reduceIte, Nat.reduceAdd, Nat.reduceSub, Nat.reduceMul, Nat.reduceLT, Nat.reduceLeDiff, Nat.reduceEqDiff, Nat.zero_add, Int.reduceAdd, Int.reduceSub, Int.reduceMul, Int.reduceLT, Int.reduceLE, Int.reduceEq, Int.reduceNe, Int.reduceNeg, Int.reduceToNat, Int.reducePow, Nat.reducePow, Int.reduceAbs, SL, reduceCtorEq, true_and, and_true, false_and, and_false, ne_eq, not_false_eq_true, not_true_eq_false, Bool.not_true, Bool.not_false, Bool.true_and, Bool.and_true, Bool.false_and, Bool.and_false, Bool.false_eq_true, decide_true, decide_false, Bool.not_eq_eq_eq_not, decide_not, pureC_lst, pureC_tup, pureC_dct, pureC_obj, pureC_frz]
      have l3 : ns.length ≤ 3 := by simp at h2; omega
      exact ⟨_, s', .tup ns h1 l3, by omega, by omega, rfl, rfl⟩
    · rintro a as acc m ⟨s', ns, rfl, rfl, h1, h2, h3, h4⟩
      have l3 : ns.length < 3 := by simp at h2; omega
      simp only [↓ws_seq, ↓ws_nil, ↓ws_lift, ↓ws_drop, ↓ws_ret, ↓ws_retN, ↓ws_brk, ↓ws_cont, ↓ws_if, ↓ws_set, ↓ws_asg, ↓ws_gset, ↓ws_gnone, ↓ws_gmore, ↓ws_gtup, ↓ws_gstar, ↓ws_gsub, ↓ws_par, ↓ws_aug, ↓ws_forI, ↓ws_nx, ↓ws_rt, ↓ws_ex, ↓ws_no, ↓w_fn, ↓w_lit, ↓w_var, ↓w_bin, ↓w_esNil, ↓w_esCons, ↓w_tup, ↓w_lst, ↓w_dct0, ↓w_blt, ↓w_bm, ↓w_eand, ↓w_eor, ↓w_enot, ↓w_if, ↓w_chain, ↓w_neg, ↓w_isi, ↓w_isi2, ↓w_sl, ↓w_pn, ↓w_ps, ↓w_revL, ↓w_get2, ↓w_get1, ↓w_inT, ↓w_ixT, ↓w_getT, ↓w_fld, ↓w_call, ↓w_comp, ↓w_yes, ↓w_bcmp, ↓w_bof, ↓w_band, ↓w_bor, ↓w_bnot, ↓w_of, ↓w_srcOf, ↓w_srcSeq, ↓w_srcRev, ↓w_ok, ↓w_ex, ↓w_no, ↓w_bind, ↓w_ite, ↓w_sub, ↓w_mod, ↓w_div, ↓w_pow, ↓w_lt, ↓w_le, ↓w_gt, ↓w_ge, ↓w_addI, ↓w_mulI, ↓w_eqI, ↓w_neI, ↓w_eqBB, ↓w_neBB, ↓w_eqS, ↓w_neS, ↓w_isNon, ↓w_isNotNon, ↓w_isB, ↓w_mkT, ↓w_mkF, ↓w_addL, ↓w_addS, ↓w_addT, ↓w_addR, ↓w_mulL, ↓w_ixL, ↓w_ixT2, ↓w_ixR, ↓w_oSl, ↓w_eqLL, ↓w_neLL, ↓w_eqTT, ↓w_neTT, ↓w_eqR, ↓w_neR, ↓w_popAt0, ↓w_append, ↓w_pop, ↓w_lenL, ↓w_lenT, ↓w_lenS, ↓w_lenD, ↓w_lenR, ↓w_tupleL, ↓w_tupleT, ↓w_listL, ↓w_listT, ↓w_min, ↓w_max, ↓w_intI, ↓w_intB, ↓w_abs, ↓w_seqL, ↓w_seqT, ↓w_seqS, ↓w_kR1, ↓w_kR2, ↓w_kEnumL, ↓w_kZipT, ↓w_kZipL, ↓w_inS, vw_non, vw_bl, vw_int, vw_str, vw_lst, vw_tup, vw_dct, vw_obj, vw_ref, vwC_lst, vwC_tup, vwC_dct, vwC_obj, vwC_frz, List.map_cons, List.map_nil, List.nil_append, List.cons_append, List.append_nil, List.length_cons, List.length_nil, List.replicate_zero, List.replicate_succ, List.getElem?_cons_zero, List.getElem?_cons_succ, List.set_cons_zero, List.set_cons_succ, decide_eq_true_eq, Bool.not_eq_true, pureRs_cons, pureRs_nil, pureRs_map, pureRs_ref, Option.map_some, Option.map_none, atI_lit, ixN_lit, oSet_ref, isTy, tyName, two_eq2, one_eq1, wipeE, beq_self_eq_true, pv_d, pv_ref, Lc.plain, Lc.plains, Lc.dep, Lc.deps, Lc.eqD, Lc.eqDs, Nat.zero_le, Nat.max_self, Nat.zero_max, Nat.max_zero, ↓reduceIte, Nat.reduceAdd, Nat.reduceSub, Nat.reduceMul, Nat.reduceLT, Nat.reduceLeDiff, Nat.reduceEqDiff, Nat.zero_add, Int.reduceAdd, Int.reduceSub, Int.reduceMul, Int.reduceLT, Int.reduceLE, Int.reduceEq, Int.reduceNe, Int.reduceNeg, Int.reduceToNat, Int.reducePow, Nat.reducePow, Int.reduceAbs, SL, reduceCtorEq, true_and, and_true, false_and, and_false, ne_eq, not_false_eq_true, not_true_eq_false, Bool.not_true, Bool.not_false, Bool.true_and, Bool.and_true, Bool.false_and, Bool.and_false, Bool.false_eq_true, decide_true, decide_false, Bool.not_eq_eq_eq_not, decide_not, pureC_lst, pureC_tup, pureC_dct, pureC_obj, pureC_frz]
      refine number01 (by omega) (by omega) fun n s3 g1 g2 g3 => ⟨by simp [iDs]; omega, s3, ns ++ [n], rfl, by simp [iDs], fun x hx => ?_, by simp at h2 ⊢; omega, by omega, by simp; omega⟩
      rcases List.mem_append.mp hx with z | z
      · exact h1 x z
      · cases List.mem_singleton.mp z
        exact g1
/-! ### same -/
theorem k2_int : kit2 "int" "list" "tuple" = some false := by decide +kernel
theorem k2_str : kit2 "str" "list" "tuple" = some false := by decide +kernel
theorem k2_lst : kit2 "list" "list" "tuple" = some true := by decide +kernel
theorem k2_tup : kit2 "tuple" "list" "tuple" = some true := by decide +kernel
theorem k2b_int : kit2 "int" "bool" "int" = some true := by decide +kernel
theorem k2b_str : kit2 "str" "bool" "int" = some false := by decide +kernel
theorem k_ll : kitB "list" "list" = some true := by decide +kernel
theorem k_lt : kitB "list" "tuple" = some false := by decide +kernel
theorem k_tl : kitB "tuple" "list" = some false := by decide +kernel
theorem k_tt : kitB "tuple" "tuple" = some true := by decide +kernel
theorem k_ii : kitB "int" "int" = some true := by decide +kernel
theorem k_ib : kitB "int" "bool" = some false := by decide +kernel
theorem k_sb : kitB "str" "bool" = some false := by decide +kernel
theorem same_int (r : Nat → Fn) (i : Int) : s__law_same r [.d (.int i), .d (.int i)] [] = .ok (.d (.bl true)) [] := by
  refine eq_of_wR ?_
  unfold s__law_same
  simp only [↓ws_seq, ↓ws_nil, ↓ws_lift, ↓ws_drop, ↓ws_ret, ↓ws_retN, ↓ws_brk, ↓ws_cont, ↓ws_if, ↓ws_set, ↓ws_asg, ↓ws_gset, ↓ws_gnone, ↓ws_gmore, ↓ws_gtup, ↓ws_gstar, ↓ws_gsub, ↓ws_par, ↓ws_aug, ↓ws_forI, ↓ws_nx, ↓ws_rt, ↓ws_ex, ↓ws_no, ↓w_fn, ↓w_lit, ↓w_var, ↓w_bin, ↓w_esNil, ↓w_esCons, ↓w_tup, ↓w_lst, ↓w_dct0, ↓w_blt, ↓w_bm, ↓w_eand, ↓w_eor, ↓w_enot, ↓w_if, ↓w_chain, ↓w_neg, ↓w_isi, ↓w_isi2, ↓w_sl, ↓w_pn, ↓w_ps, ↓w_revL, ↓w_get2, ↓w_get1, ↓w_inT, ↓w_ixT, ↓w_getT, ↓w_fld, ↓w_call, ↓w_comp, ↓w_yes, ↓w_bcmp, ↓w_bof, ↓w_band, ↓w_bor, ↓w_bnot, ↓w_of, ↓w_srcOf, ↓w_srcSeq, ↓w_srcRev, ↓w_ok, ↓w_ex, ↓w_no, ↓w_bind, ↓w_ite, ↓w_sub, ↓w_mod, ↓w_div, ↓w_pow, ↓w_lt, ↓w_le, ↓w_gt, ↓w_ge, ↓w_addI, ↓w_mulI, ↓w_eqI, ↓w_neI, ↓w_eqBB, ↓w_neBB, ↓w_eqS, ↓w_neS, ↓w_isNon, ↓w_isNotNon, ↓w_isB, ↓w_mkT, ↓w_mkF, ↓w_addL, ↓w_addS, ↓w_addT, ↓w_addR, ↓w_mulL, ↓w_ixL, ↓w_ixT2, ↓w_ixR, ↓w_oSl, ↓w_eqLL, ↓w_neLL, ↓w_eqTT, ↓w_neTT, ↓w_eqR, ↓w_neR, ↓w_popAt0, ↓w_append, ↓w_pop, ↓w_lenL, ↓w_lenT, ↓w_lenS, ↓w_lenD, ↓w_lenR, ↓w_tupleL, ↓w_tupleT, ↓w_listL, ↓w_listT, ↓w_min, ↓w_max, ↓w_intI, ↓w_intB, ↓w_abs, ↓w_seqL, ↓w_seqT, ↓w_seqS, ↓w_kR1, ↓w_kR2, ↓w_kEnumL, ↓w_kZipT, ↓w_kZipL, ↓w_inS, vw_non, vw_bl, vw_int, vw_str, vw_lst, vw_tup, vw_dct, vw_obj, vw_ref, vwC_lst, vwC_tup, vwC_dct, vwC_obj, vwC_frz, List.map_cons, List.map_nil, List.nil_append, List.cons_append, List.append_nil, List.length_cons, List.length_nil, List.replicate_zero, List.replicate_succ, List.getElem?_cons_zero, List.getElem?_cons_succ, List.set_cons_zero, List.set_cons_succ, decide_eq_true_eq, Bool.not_eq_true, pureRs_cons, pureRs_nil, pureRs_map, pureRs_ref, Option.map_some, Option.map_none, atI_lit, ixN_lit, oSet_ref, isTy, tyName, two_eq2, one_eq1, wipeE, beq_self_eq_true, pv_d, pv_ref, Lc.plain, Lc.plains, Lc.dep, Lc.deps, Lc.eqD, Lc.eqDs, Nat.zero_le, Nat.max_self, Nat.zero_max, Nat.max_zero, ↓reduceIte, Nat.reduceAdd, Nat.reduceSub, Nat.reduceMul, Nat.reduceLT, Nat.reduceLeDiff, Nat.reduceEqDiff, Nat.zero_add, Int.reduceAdd, Int.reduceSub, Int.reduceMul, Int.reduceLT, Int.reduceLE, Int.reduceEq, Int.reduceNe, Int.reduceNeg, Int.reduceToNat, Int.reducePow, Nat.reducePow, Int.reduceAbs, SL, reduceCtorEq, true_and, and_true, false_and, and_false, ne_eq, not_false_eq_true, not_true_eq_false, Bool.not_true, Bool.not_false, Bool.true_and, Bool.and_true, Bool.false_and, Bool.and_false, Bool.false_eq_true, decide_true, decide_false, Bool.not_eq_eq_eq_not, decide_not, pureC_lst, pureC_tup, pureC_dct, pureC_obj, pureC_frz, k2_int, k2b_int, k_ii, k_ib, asB, tru]
theorem same_str (r : Nat → Fn) (i : T) : s__law_same r [.d (.str i), .d (.str i)] [] = .ok (.d (.bl true)) [] := by
  refine eq_of_wR ?_
  unfold s__law_same
  simp only [↓ws_seq, ↓ws_nil, ↓ws_lift, ↓ws_drop, ↓ws_ret, ↓ws_retN, ↓ws_brk, ↓ws_cont, ↓ws_if, ↓ws_set, ↓ws_asg, ↓ws_gset, ↓ws_gnone, ↓ws_gmore, ↓ws_gtup, ↓ws_gstar, ↓ws_gsub, ↓ws_par, ↓ws_aug, ↓ws_forI, ↓ws_nx, ↓ws_rt, ↓ws_ex, ↓ws_no, ↓w_fn, ↓w_lit, ↓w_var, ↓w_bin, ↓w_esNil, ↓w_esCons, ↓w_tup, ↓w_lst, ↓w_dct0, ↓w_blt, ↓w_bm, ↓w_eand, ↓w_eor, ↓w_enot, ↓w_if, ↓w_chain, ↓w_neg, ↓w_isi, ↓w_isi2, ↓w_sl, ↓w_pn, ↓w_ps, ↓w_revL, ↓w_get2, ↓w_get1, ↓w_inT, ↓w_ixT, ↓w_getT, ↓w_fld, ↓w_call, ↓w_comp, ↓w_yes, ↓w_bcmp, ↓w_bof, ↓w_band, ↓w_bor, ↓w_bnot, ↓w_of, ↓w_srcOf, ↓w_srcSeq, ↓w_srcRev, ↓w_ok, ↓w_ex, ↓w_no, ↓w_bind, ↓w_ite, ↓w_sub, ↓w_mod, ↓w_div, ↓w_pow, ↓w_lt, ↓w_le, ↓w_gt, ↓w_ge, ↓w_addI, ↓w_mulI, ↓w_eqI, ↓w_neI, ↓w_eqBB, ↓w_neBB, ↓w_eqS, ↓w_neS, ↓w_isNon, ↓w_isNotNon, ↓w_isB, ↓w_mkT, ↓w_mkF, ↓w_addL, ↓w_addS, ↓w_addT, ↓w_addR, ↓w_mulL, ↓w_ixL, ↓w_ixT2, ↓w_ixR, ↓w_oSl, ↓w_eqLL, ↓w_neLL, ↓w_eqTT, ↓w_neTT, ↓w_eqR, ↓w_neR, ↓w_popAt0, ↓w_append, ↓w_pop, ↓w_lenL, ↓w_lenT, ↓w_lenS, ↓w_lenD, ↓w_lenR, ↓w_tupleL, ↓w_tupleT, ↓w_listL, ↓w_listT, ↓w_min, ↓w_max, ↓w_intI, ↓w_intB, ↓w_abs, ↓w_seqL, ↓w_seqT, ↓w_seqS, ↓w_kR1, ↓w_kR2, ↓w_kEnumL, ↓w_kZipT, ↓w_kZipL, ↓w_inS, vw_non, vw_bl, vw_int, vw_str, vw_lst, vw_tup, vw_dct, vw_obj, vw_ref, vwC_lst, vwC_tup, vwC_dct, vwC_obj, vwC_frz, List.map_cons, List.map_nil, List.nil_append, List.cons_append, List.append_nil, List.length_cons, List.length_nil, List.replicate_zero, List.replicate_succ, List.getElem?_cons_zero, List.getElem?_cons_succ, List.set_cons_zero, List.set_cons_succ, decide_eq_true_eq, Bool.not_eq_true, pureRs_cons, pureRs_nil, pureRs_map, pureRs_ref, Option.map_some, Option.map_none, atI_lit, ixN_lit, oSet_ref, isTy, tyName, two_eq2, one_eq1, wipeE, beq_self_eq_true, pv_d, pv_ref, Lc.plain, Lc.plains, Lc.dep, Lc.deps, Lc.eqD, Lc.eqDs, Nat.zero_le, Nat.max_self, Nat.zero_max, Nat.max_zero, ↓reduceIte, Nat.reduceAdd, Nat.reduceSub, Nat.reduceMul, Nat.reduceLT, Nat.reduceLeDiff, Nat.reduceEqDiff, Nat.zero_add, Int.reduceAdd, Int.reduceSub, Int.reduceMul, Int.reduceLT, Int.reduceLE, Int.reduceEq, Int.reduceNe, Int.reduceNeg, Int.reduceToNat, Int.reducePow, Nat.reducePow, Int.reduceAbs, SL, reduceCtorEq, true_and, and_true, false_and, and_false, ne_eq, not_false_eq_true, not_true_eq_false, Bool.not_true, Bool.not_false, Bool.true_and, Bool.and_true, Bool.false_and, Bool.and_false, Bool.false_eq_true, decide_true, decide_false, Bool.not_eq_eq_eq_not, decide_not, pureC_lst, pureC_tup, pureC_dct, pureC_obj, pureC_frz, k2_str, k2b_str, k_sb, asB, tru]
theorem zipL_cons (d : D) (ds : List D) : zipL (d :: ds) (d :: ds) = [.d d, .d d] :: zipL ds ds := rfl
theorem same_comp (r : Nat → Fn) (ds : List D) (hl : ds.length ≤ 1000) (h : ∀ d ∈ ds, r 0 [.d d, .d d] [] = .ok (.d (.bl true)) []) (env : Lc.Env) (hv : env.length = 4) {Qs : List R → Mem → Prop} {X : Xn → Mem → Prop} (hQ : Qs (((List.replicate ds.length true).map D.bl).map R.d) []) :
    wR (compL (gMore (gSet 2) (gMore (gSet 3) gNone)) bYes (eCall false 2 (r 0) (esCons (eVar 2) (esCons (eVar 3) esNil)) []) (wipeE env [2, 3]) (zipL ds ds) [] []) Qs X := by
  obtain ⟨e0, e1, e2, e3, rfl⟩ : ∃ a b c d, env = [a, b, c, d] := by
    match env, hv with
    | [a, b, c, d], _ => exact ⟨a, b, c, d, rfl⟩
  refine w_compI (fun as acc m => m = [] ∧ ∃ es, (∀ d ∈ es, d ∈ ds) ∧ as = zipL es es ∧ acc.length + es.length = ds.length ∧ acc = ((List.replicate acc.length true).map D.bl).map R.d) ⟨rfl, ds, fun d h => h, rfl, by simp, rfl⟩ ?_ ?_
  · rintro acc m ⟨rfl, es, h1, h2, h3, h4⟩
    have : es = [] := by
      cases es with
      | nil => rfl
      | cons e es => rw [zipL_cons] at h2; cases h2
    subst this
    have hl2 : acc.length = ds.length := by simpa using h3
    rw [h4, hl2]
    exact hQ
  · rintro a as acc m ⟨rfl, es, h1, h2, h3, h4⟩
    cases es with
    | nil => cases h2
    | cons e es =>
      rw [zipL_cons] at h2
      obtain ⟨rfl, rfl⟩ := List.cons.inj h2
      have ec := call_pure (keep := false) (ds := [e, e]) (M := []) (h e (h1 e List.mem_cons_self))
      simp only [List.map_cons, List.map_nil] at ec
      show wS (gMore (gSet 2) (gMore (gSet 3) gNone) [.d e, .d e] [e0, e1, none, none] []) _
      simp only [↓ws_seq, ↓ws_nil, ↓ws_lift, ↓ws_drop, ↓ws_ret, ↓ws_retN, ↓ws_brk, ↓ws_cont, ↓ws_if, ↓ws_set, ↓ws_asg, ↓ws_gset, ↓ws_gnone, ↓ws_gmore, ↓ws_gtup, ↓ws_gstar, ↓ws_gsub, ↓ws_par, ↓ws_aug, ↓ws_forI, ↓ws_nx, ↓ws_rt, ↓ws_ex, ↓ws_no, ↓w_fn, ↓w_lit, ↓w_var, ↓w_bin, ↓w_esNil, ↓w_esCons, ↓w_tup, ↓w_lst, ↓w_dct0, ↓w_blt, ↓w_bm, ↓w_eand, ↓w_eor, ↓w_enot, ↓w_if, ↓w_chain, ↓w_neg, ↓w_isi, ↓w_isi2, ↓w_sl, ↓w_pn, ↓w_ps, ↓w_revL, ↓w_get2, ↓w_get1, ↓w_inT, ↓w_ixT, ↓w_getT, ↓w_fld, ↓w_call, ↓w_comp, ↓w_yes, ↓w_bcmp, ↓w_bof, ↓w_band, ↓w_bor, ↓w_bnot, ↓w_of, ↓w_srcOf, ↓w_srcSeq, ↓w_srcRev, ↓w_ok, ↓w_ex, ↓w_no, ↓w_bind, ↓w_ite, ↓w_sub, ↓w_mod, ↓w_div, ↓w_pow, ↓w_lt, ↓w_le, ↓w_gt, ↓w_ge, ↓w_addI, ↓w_mulI, ↓w_eqI, ↓w_neI, ↓w_eqBB, ↓w_neBB, ↓w_eqS, ↓w_neS, ↓w_isNon, ↓w_isNotNon, ↓w_isB, ↓w_mkT, ↓w_mkF, ↓w_addL, ↓w_addS, ↓w_addT, ↓w_addR, ↓w_mulL, ↓w_ixL, ↓w_ixT2, ↓w_ixR, ↓w_oSl, ↓w_eqLL, ↓w_neLL, ↓w_eqTT, ↓w_neTT, ↓w_eqR, ↓w_neR, ↓w_popAt0, ↓w_append, ↓w_pop, ↓w_lenL, ↓w_lenT, ↓w_lenS, ↓w_lenD, ↓w_lenR, ↓w_tupleL, ↓w_tupleT, ↓w_listL, ↓w_listT, ↓w_min, ↓w_max, ↓w_intI, ↓w_intB, ↓w_abs, ↓w_seqL, ↓w_seqT, ↓w_seqS, ↓w_kR1, ↓w_kR2, ↓w_kEnumL, ↓w_kZipT, ↓w_kZipL, ↓w_inS, vw_non, vw_bl, vw_int, vw_str, vw_lst, vw_tup, vw_dct, vw_obj, vw_ref, vwC_lst, vwC_tup, vwC_dct, vwC_obj, vwC_frz, List.map_cons, List.map_nil, List.nil_append, List.cons_append, List.append_nil, List.length_cons, List.length_nil, List.replicate_zero, List.replicate_succ, List.getElem?_cons_zero, List.getElem?_cons_succ, List.set_cons_zero, List.set_cons_succ, decide_eq_true_eq, Bool.not_eq_true, pureRs_cons, pureRs_nil, pureRs_map, pureRs_ref, Option.map_some, Option.map_none, atI_lit, ixN_lit, oSet_ref, isTy, tyName, two_eq2, one_eq1, wipeE, beq_self_eq_true, pv_d, pv_ref, Lc.plain, Lc.plains, Lc.dep, Lc.deps, Lc.eqD, Lc.eqDs, Nat.zero_le, Nat.max_self, Nat.zero_max, Nat.max_zero, ↓reduceIte, Nat.reduceAdd, Nat.reduceSub, Nat.reduceMul, Nat.reduceLT, Nat.reduceLeDiff, Nat.reduceEqDiff, Nat.zero_add, Int.reduceAdd, Int.reduceSub, Int.reduceMul, Int.reduceLT, Int.reduceLE, Int.reduceEq, Int.reduceNe, Int.reduceNeg, Int.reduceToNat, Int.reducePow, Nat.reducePow, Int.reduceAbs, SL, reduceCtorEq, true_and, and_true, false_and, and_false, ne_eq, not_false_eq_true, not_true_eq_false, Bool.not_true, Bool.not_false, Bool.true_and, Bool.and_true, Bool.false_and, Bool.and_false, Bool.false_eq_true, decide_true, decide_false, Bool.not_eq_eq_eq_not, decide_not, pureC_lst, pureC_tup, pureC_dct, pureC_obj, pureC_frz]
      rw [ec]
      simp only [w_ok]
      refine ⟨by simp at h3; omega, trivial, es, fun d hd => h1 d (List.mem_cons_of_mem _ hd), rfl, by simp at h3 ⊢; omega, ?_⟩
      rw [h4]
      simp [List.replicate_succ']
theorem all_true (n : Nat) : (List.replicate n true).all id = true := by
  rw [List.all_eq_true]
  intro x hx
  rw [List.eq_of_mem_replicate hx]
  rfl
theorem same_tup (r : Nat → Fn) (ds : List D) (hl : ds.length ≤ 1000) (h : ∀ d ∈ ds, r 0 [.d d, .d d] [] = .ok (.d (.bl true)) []) : s__law_same r [.d (.tup ds), .d (.tup ds)] [] = .ok (.d (.bl true)) [] := by
  refine eq_of_wR ?_
  unfold s__law_same
  simp only [↓ws_seq, ↓ws_nil, ↓ws_lift, ↓ws_drop, ↓ws_ret, ↓ws_retN, ↓ws_brk, ↓ws_cont, ↓ws_if, ↓ws_set, ↓ws_asg, ↓ws_gset, ↓ws_gnone, ↓ws_gmore, ↓ws_gtup, ↓ws_gstar, ↓ws_gsub, ↓ws_par, ↓ws_aug, ↓ws_forI, ↓ws_nx, ↓ws_rt, ↓ws_ex, ↓ws_no, ↓w_fn, ↓w_lit, ↓w_var, ↓w_bin, ↓w_esNil, ↓w_esCons, ↓w_tup, ↓w_lst, ↓w_dct0, ↓w_blt, ↓w_bm, ↓w_eand, ↓w_eor, ↓w_enot, ↓w_if, ↓w_chain, ↓w_neg, ↓w_isi, ↓w_isi2, ↓w_sl, ↓w_pn, ↓w_ps, ↓w_revL, ↓w_get2, ↓w_get1, ↓w_inT, ↓w_ixT, ↓w_getT, ↓w_fld, ↓w_call, ↓w_comp, ↓w_yes, ↓w_bcmp, ↓w_bof, ↓w_band, ↓w_bor, ↓w_bnot, ↓w_of, ↓w_srcOf, ↓w_srcSeq, ↓w_srcRev, ↓w_ok, ↓w_ex, ↓w_no, ↓w_bind, ↓w_ite, ↓w_sub, ↓w_mod, ↓w_div, ↓w_pow, ↓w_lt, ↓w_le, ↓w_gt, ↓w_ge, ↓w_addI, ↓w_mulI, ↓w_eqI, ↓w_neI, ↓w_eqBB, ↓w_neBB, ↓w_eqS, ↓w_neS, ↓w_isNon, ↓w_isNotNon, ↓w_isB, ↓w_mkT, ↓w_mkF, ↓w_addL, ↓w_addS, ↓w_addT, ↓w_addR, ↓w_mulL, ↓w_ixL, ↓w_ixT2, ↓w_ixR, ↓w_oSl, ↓w_eqLL, ↓w_neLL, ↓w_eqTT, ↓w_neTT, ↓w_eqR, ↓w_neR, ↓w_popAt0, ↓w_append, ↓w_pop, ↓w_lenL, ↓w_lenT, ↓w_lenS, ↓w_lenD, ↓w_lenR, ↓w_tupleL, ↓w_tupleT, ↓w_listL, ↓w_listT, ↓w_min, ↓w_max, ↓w_intI, ↓w_intB, ↓w_abs, ↓w_seqL, ↓w_seqT, ↓w_seqS, ↓w_kR1, ↓w_kR2, ↓w_kEnumL, ↓w_kZipT, ↓w_kZipL, ↓w_inS, vw_non, vw_bl, vw_int, vw_str, vw_lst, vw_tup, vw_dct, vw_obj, vw_ref, vwC_lst, vwC_tup, vwC_dct, vwC_obj, vwC_frz, List.map_cons, List.map_nil, List.nil_append, List.cons_append, List.append_nil, List.length_cons, List.length_nil, List.replicate_zero, List.replicate_succ, List.getElem?_cons_zero, List.getElem?_cons_succ, List.set_cons_zero, List.set_cons_succ, decide_eq_true_eq, Bool.not_eq_true, pureRs_cons, pureRs_nil, pureRs_map, pureRs_ref, Option.map_some, Option.map_none, atI_lit, ixN_lit, oSet_ref, isTy, tyName, two_eq2, one_eq1, wipeE, beq_self_eq_true, pv_d, pv_ref, Lc.plain, Lc.plains, Lc.dep, Lc.deps, Lc.eqD, Lc.eqDs, Nat.zero_le, Nat.max_self, Nat.zero_max, Nat.max_zero, ↓reduceIte, Nat.reduceAdd, Nat.reduceSub, Nat.reduceMul, Nat.reduceLT, Nat.reduceLeDiff, Nat.reduceEqDiff, Nat.zero_add, Int.reduceAdd, Int.reduceSub, Int.reduceMul, Int.reduceLT, Int.reduceLE, Int.reduceEq, Int.reduceNe, Int.reduceNeg, Int.reduceToNat, Int.reducePow, Nat.reducePow, Int.reduceAbs, SL, reduceCtorEq, true_and, and_true, false_and, and_false, ne_eq, not_false_eq_true, not_true_eq_false, Bool.not_true, Bool.not_false, Bool.true_and, Bool.and_true, Bool.false_and, Bool.and_false, Bool.false_eq_true, decide_true, decide_false, Bool.not_eq_eq_eq_not, decide_not, pureC_lst, pureC_tup, pureC_dct, pureC_obj, pureC_frz, k2_tup, k_tl, k_tt, asB, tru]
  refine same_comp r ds hl h [some (.d (.tup ds)), some (.d (.tup ds)), none, none] rfl ?_
  simp only [↓ws_seq, ↓ws_nil, ↓ws_lift, ↓ws_drop, ↓ws_ret, ↓ws_retN, ↓ws_brk, ↓ws_cont, ↓ws_if, ↓ws_set, ↓ws_asg, ↓ws_gset, ↓ws_gnone, ↓ws_gmore, ↓ws_gtup, ↓ws_gstar, ↓ws_gsub, ↓ws_par, ↓ws_aug, ↓ws_forI, ↓ws_nx, ↓ws_rt, ↓ws_ex, ↓ws_no, ↓w_fn, ↓w_lit, ↓w_var, ↓w_bin, ↓w_esNil, ↓w_esCons, ↓w_tup, ↓w_lst, ↓w_dct0, ↓w_blt, ↓w_bm, ↓w_eand, ↓w_eor, ↓w_enot, ↓w_if, ↓w_chain, ↓w_neg, ↓w_isi, ↓w_isi2, ↓w_sl, ↓w_pn, ↓w_ps, ↓w_revL, ↓w_get2, ↓w_get1, ↓w_inT, ↓w_ixT, ↓w_getT, ↓w_fld, ↓w_call, ↓w_comp, ↓w_yes, ↓w_bcmp, ↓w_bof, ↓w_band, ↓w_bor, ↓w_bnot, ↓w_of, ↓w_srcOf, ↓w_srcSeq, ↓w_srcRev, ↓w_ok, ↓w_ex, ↓w_no, ↓w_bind, ↓w_ite, ↓w_sub, ↓w_mod, ↓w_div, ↓w_pow, ↓w_lt, ↓w_le, ↓w_gt, ↓w_ge, ↓w_addI, ↓w_mulI, ↓w_eqI, ↓w_neI, ↓w_eqBB, ↓w_neBB, ↓w_eqS, ↓w_neS, ↓w_isNon, ↓w_isNotNon, ↓w_isB, ↓w_mkT, ↓w_mkF, ↓w_addL, ↓w_addS, ↓w_addT, ↓w_addR, ↓w_mulL, ↓w_ixL, ↓w_ixT2, ↓w_ixR, ↓w_oSl, ↓w_eqLL, ↓w_neLL, ↓w_eqTT, ↓w_neTT, ↓w_eqR, ↓w_neR, ↓w_popAt0, ↓w_append, ↓w_pop, ↓w_lenL, ↓w_lenT, ↓w_lenS, ↓w_lenD, ↓w_lenR, ↓w_tupleL, ↓w_tupleT, ↓w_listL, ↓w_listT, ↓w_min, ↓w_max, ↓w_intI, ↓w_intB, ↓w_abs, ↓w_seqL, ↓w_seqT, ↓w_seqS, ↓w_kR1, ↓w_kR2, ↓w_kEnumL, ↓w_kZipT, ↓w_kZipL, ↓w_inS, vw_non, vw_bl, vw_int, vw_str, vw_lst, vw_tup, vw_dct, vw_obj, vw_ref, vwC_lst, vwC_tup, vwC_dct, vwC_obj, vwC_frz, List.map_cons, List.map_nil, List.nil_append, List.cons_append, List.append_nil, List.length_cons, List.length_nil, List.replicate_zero, List.replicate_succ, List.getElem?_cons_zero, List.getElem?_cons_succ, List.set_cons_zero, List.set_cons_succ, decide_eq_true_eq, Bool.not_eq_true, pureRs_cons, pureRs_nil, pureRs_map, pureRs_ref, Option.map_some, Option.map_none, atI_lit, ixN_lit, oSet_ref, isTy, tyName, two_eq2, one_eq1, wipeE, beq_self_eq_true, pv_d, pv_ref, Lc.plain, Lc.plains, Lc.dep, Lc.deps, Lc.eqD, Lc.eqDs, Nat.zero_le, Nat.max_self, Nat.zero_max, Nat.max_zero, ↓reduceIte, Nat.reduceAdd, Nat.reduceSub, Nat.reduceMul, Nat.reduceLT, Nat.reduceLeDiff, Nat.reduceEqDiff, Nat.zero_add, Int.reduceAdd, Int.reduceSub, Int.reduceMul, Int.reduceLT, Int.reduceLE, Int.reduceEq, Int.reduceNe, Int.reduceNeg, Int.reduceToNat, Int.reducePow, Nat.reducePow, Int.reduceAbs, SL, reduceCtorEq, true_and, and_true, false_and, and_false, ne_eq, not_false_eq_true, not_true_eq_false, Bool.not_true, Bool.not_false, Bool.true_and, Bool.and_true, Bool.false_and, Bool.and_false, Bool.false_eq_true, decide_true, decide_false, Bool.not_eq_eq_eq_not, decide_not, pureC_lst, pureC_tup, pureC_dct, pureC_obj, pureC_frz, w_all, all_true]
theorem same_lst (r : Nat → Fn) (ds : List D) (hl : ds.length ≤ 1000) (h : ∀ d ∈ ds, r 0 [.d d, .d d] [] = .ok (.d (.bl true)) []) : s__law_same r [.d (.lst ds), .d (.lst ds)] [] = .ok (.d (.bl true)) [] := by
  refine eq_of_wR ?_
  unfold s__law_same
  simp only [↓ws_seq, ↓ws_nil, ↓ws_lift, ↓ws_drop, ↓ws_ret, ↓ws_retN, ↓ws_brk, ↓ws_cont, ↓ws_if, ↓ws_set, ↓ws_asg, ↓ws_gset, ↓ws_gnone, ↓ws_gmore, ↓ws_gtup, ↓ws_gstar, ↓ws_gsub, ↓ws_par, ↓ws_aug, ↓ws_forI, ↓ws_nx, ↓ws_rt, ↓ws_ex, ↓ws_no, ↓w_fn, ↓w_lit, ↓w_var, ↓w_bin, ↓w_esNil, ↓w_esCons, ↓w_tup, ↓w_lst, ↓w_dct0, ↓w_blt, ↓w_bm, ↓w_eand, ↓w_eor, ↓w_enot, ↓w_if, ↓w_chain, ↓w_neg, ↓w_isi, ↓w_isi2, ↓w_sl, ↓w_pn, ↓w_ps, ↓w_revL, ↓w_get2, ↓w_get1, ↓w_inT, ↓w_ixT, ↓w_getT, ↓w_fld, ↓w_call, ↓w_comp, ↓w_yes, ↓w_bcmp, ↓w_bof, ↓w_band, ↓w_bor, ↓w_bnot, ↓w_of, ↓w_srcOf, ↓w_srcSeq, ↓w_srcRev, ↓w_ok, ↓w_ex, ↓w_no, ↓w_bind, ↓w_ite, ↓w_sub, ↓w_mod, ↓w_div, ↓w_pow, ↓w_lt, ↓w_le, ↓w_gt, ↓w_ge, ↓w_addI, ↓w_mulI, ↓w_eqI, ↓w_neI, ↓w_eqBB, ↓w_neBB, ↓w_eqS, ↓w_neS, ↓w_isNon, ↓w_isNotNon, ↓w_isB, ↓w_mkT, ↓w_mkF, ↓w_addL, ↓w_addS, ↓w_addT, ↓w_addR, ↓w_mulL, ↓w_ixL, ↓w_ixT2, ↓w_ixR, ↓w_oSl, ↓w_eqLL, ↓w_neLL, ↓w_eqTT, ↓w_neTT, ↓w_eqR, ↓w_neR, ↓w_popAt0, ↓w_append, ↓w_pop, ↓w_lenL, ↓w_lenT, ↓w_lenS, ↓w_lenD, ↓w_lenR, ↓w_tupleL, ↓w_tupleT, ↓w_listL, ↓w_listT, ↓w_min, ↓w_max, ↓w_intI, ↓w_intB, ↓w_abs, ↓w_seqL, ↓w_seqT, ↓w_seqS, ↓w_kR1, ↓w_kR2, ↓w_kEnumL, ↓w_kZipT, ↓w_kZipL, ↓w_inS, vw_non, vw_bl, vw_int, vw_str, vw_lst, vw_tup, vw_dct, vw_obj, vw_ref, vwC_lst, vwC_tup, vwC_dct, vwC_obj, vwC_frz, List.map_cons, List.map_nil, List.nil_append, List.cons_append, List.append_nil, List.length_cons, List.length_nil, List.replicate_zero, List.replicate_succ, List.getElem?_cons_zero, List.getElem?_cons_succ, List.set_cons_zero, List.set_cons_succ, decide_eq_true_eq, Bool.not_eq_true, pureRs_cons, pureRs_nil, pureRs_map, pureRs_ref, Option.map_some, Option.map_none, atI_lit, ixN_lit, oSet_ref, isTy, tyName, two_eq2, one_eq1, wipeE, beq_self_eq_true, pv_d, pv_ref, Lc.plain, Lc.plains, Lc.dep, Lc.deps, Lc.eqD, Lc.eqDs, Nat.zero_le, Nat.max_self, Nat.zero_max, Nat.max_zero, ↓reduceIte, Nat.reduceAdd, Nat.reduceSub, Nat.reduceMul, Nat.reduceLT, Nat.reduceLeDiff, Nat.reduceEqDiff, Nat.zero_add, Int.reduceAdd, Int.reduceSub, Int.reduceMul, Int.reduceLT, Int.reduceLE, Int.reduceEq, Int.reduceNe, Int.reduceNeg, Int.reduceToNat, Int.reducePow, Nat.reducePow, Int.reduceAbs, SL, reduceCtorEq, true_and, and_true, false_and, and_false, ne_eq, not_false_eq_true, not_true_eq_false, Bool.not_true, Bool.not_false, Bool.true_and, Bool.and_true, Bool.false_and, Bool.and_false, Bool.false_eq_true, decide_true, decide_false, Bool.not_eq_eq_eq_not, decide_not, pureC_lst, pureC_tup, pureC_dct, pureC_obj, pureC_frz, k2_lst, k_ll, k_lt, asB, tru]
  refine same_comp r ds hl h [some (.d (.lst ds)), some (.d (.lst ds)), none, none] rfl ?_
  simp only [↓ws_seq, ↓ws_nil, ↓ws_lift, ↓ws_drop, ↓ws_ret, ↓ws_retN, ↓ws_brk, ↓ws_cont, ↓ws_if, ↓ws_set, ↓ws_asg, ↓ws_gset, ↓ws_gnone, ↓ws_gmore, ↓ws_gtup, ↓ws_gstar, ↓ws_gsub, ↓ws_par, ↓ws_aug, ↓ws_forI, ↓ws_nx, ↓ws_rt, ↓ws_ex, ↓ws_no, ↓w_fn, ↓w_lit, ↓w_var, ↓w_bin, ↓w_esNil, ↓w_esCons, ↓w_tup, ↓w_lst, ↓w_dct0, ↓w_blt, ↓w_bm, ↓w_eand, ↓w_eor, ↓w_enot, ↓w_if, ↓w_chain, ↓w_neg, ↓w_isi, ↓w_isi2, ↓w_sl, ↓w_pn, ↓w_ps, ↓w_revL, ↓w_get2, ↓w_get1, ↓w_inT, ↓w_ixT, ↓w_getT, ↓w_fld, ↓w_call, ↓w_comp, ↓w_yes, ↓w_bcmp, ↓w_bof, ↓w_band, ↓w_bor, ↓w_bnot, ↓w_of, ↓w_srcOf, ↓w_srcSeq, ↓w_srcRev, ↓w_ok, ↓w_ex, ↓w_no, ↓w_bind, ↓w_ite, ↓w_sub, ↓w_mod, ↓w_div, ↓w_pow, ↓w_lt, ↓w_le, ↓w_gt, ↓w_ge, ↓w_addI, ↓w_mulI, ↓w_eqI, ↓w_neI, ↓w_eqBB, ↓w_neBB, ↓w_eqS, ↓w_neS, ↓w_isNon, ↓w_isNotNon, ↓w_isB, ↓w_mkT, ↓w_mkF, ↓w_addL, ↓w_addS, ↓w_addT, ↓w_addR, ↓w_mulL, ↓w_ixL, ↓w_ixT2, ↓w_ixR, ↓w_oSl, ↓w_eqLL, ↓w_neLL, ↓w_eqTT, ↓w_neTT, ↓w_eqR, ↓w_neR, ↓w_popAt0, ↓w_append, ↓w_pop, ↓w_lenL, ↓w_lenT, ↓w_lenS, ↓w_lenD, ↓w_lenR, ↓w_tupleL, ↓w_tupleT, ↓w_listL, ↓w_listT, ↓w_min, ↓w_max, ↓w_intI, ↓w_intB, ↓w_abs, ↓w_seqL, ↓w_seqT, ↓w_seqS, ↓w_kR1, ↓w_kR2, ↓w_kEnumL, ↓w_kZipT, ↓w_kZipL, ↓w_inS, vw_non, vw_bl, vw_int, vw_str, vw_lst, vw_tup, vw_dct, vw_obj, vw_ref, vwC_lst, vwC_tup, vwC_dct, vwC_obj, vwC_frz, List.map_cons, List.map_nil, List.nil_append, List.cons_append, List.append_nil, List.length_cons, List.length_nil, List.replicate_zero, List.replicate_succ, List.getElem?_cons_zero, List.getElem?_cons_succ, List.set_cons_zero, List.set_cons_succ, decide_eq_true_eq, Bool.not_eq_true, pureRs_cons, pureRs_nil, pureRs_map, pureRs_ref, Option.map_some, Option.map_none, atI_lit, ixN_lit, oSet_ref, isTy, tyName, two_eq2, one_eq1, wipeE, beq_self_eq_true, pv_d, pv_ref, Lc.plain, Lc.plains, Lc.dep, Lc.deps, Lc.eqD, Lc.eqDs, Nat.zero_le, Nat.max_self, Nat.zero_max, Nat.max_zero, ↓reduceIte, Nat.reduceAdd, Nat.reduceSub, Nat.reduceMul, Nat.reduceLT, Nat.reduceLeDiff, Nat.reduceEqDiff, Nat.zero_add, Int.reduceAdd, Int.reduceSub, Int.reduceMul, Int.reduceLT, Int.reduceLE, Int.reduceEq, Int.reduceNe, Int.reduceNeg, Int.reduceToNat, Int.reducePow, Nat.reducePow, Int.reduceAbs, SL, reduceCtorEq, true_and, and_true, false_and, and_false, ne_eq, not_false_eq_true, not_true_eq_false, Bool.not_true, Bool.not_false, Bool.true_and, Bool.and_true, Bool.false_and, Bool.and_false, Bool.false_eq_true, decide_true, decide_false, Bool.not_eq_eq_eq_not, decide_not, pureC_lst, pureC_tup, pureC_dct, pureC_obj, pureC_frz, w_all, all_true]
theorem same_good (n : Nat) {v : D} (h : Good v) : cy__law_same (n + 2) 0 [.d v, .d v] [] = .ok (.d (.bl true)) [] := by
  cases h with
  | int i h => exact same_int _ i
  | str t h => exact same_str _ t
  | tup ns h l =>
    refine same_tup (cy__law_same (n + 1)) (iDs ns) (by rw [iDs_len]; omega) fun d hd => ?_
    obtain ⟨i, _, rfl⟩ := List.mem_map.mp hd
    exact same_int _ i
theorem same_all (ds : List D) (hl : ds.length ≤ 1000) (h : ∀ d ∈ ds, Good d) : cy__law_same 6 0 [.d (.lst ds), .d (.lst ds)] [] = .ok (.d (.bl true)) [] :=
  same_lst (cy__law_same 5) ds hl fun d hd => same_good 3 (h d hd)
/-! ### the law's turn -/
def law_c1 : B := (bOr (bNot (bOf (eIsV kA_LateCopyError (eBin oIx (eVar 7) (eVar 8))))) (bNot (bOf (eIsV kA_ValueError (eBin oIx (eVar 7) (eVar 8))))))
def law_c2 : B := (bCmp (eBin oNe (eCall false 1 m__law_classes (esCons (eBin oIx (eVar 7) (eVar 8)) esNil) []) (eLst false (esCons (eVar 8) esNil))))
def law_c3 : B := (bNot (bOf (eCall false 2 (cy__law_same 6 0) (esCons (eCall false 2 m__law_fields (esCons (eVar 8) (esCons (eBin oIx (eVar 7) (eVar 8)) esNil)) []) (esCons (eSl false (eLst false (esCons (eVar 3) (esCons (eVar 4) esNil))) none (some (eBin oIx (eVar 6) (eVar 8)))) esNil)) [])))
@[irreducible] def law_b : S := (sSeq (sIf law_c1 (sRet (eLit (.bl false)))
  sNil)
  (sSeq (sIf law_c2 (sRet (eLit (.bl false)))
  sNil)
  (sIf law_c3 (sRet (eLit (.bl false)))
  sNil)))
@[irreducible] def law_in : S := (sForI (srcOf (esCons (eBlt bLen (esCons (eVar 7) esNil)) esNil) kR1) (gSet 8)
  law_b)
@[irreducible] def law_mid : S := (sForI (srcSeq (eTup (esCons (eVar 5) (esCons (eCall false 2 m__law_named (esCons (eVar 3) (esCons (eVar 4) esNil)) []) esNil)))) (gSet 7)
  law_in)
@[irreducible] def law_turn : S := (sSeq (sPar 3 4 (esCons (eCall false 1 m__law_value (esCons (eVar 1) esNil) []) (esCons (eCall false 1 m__law_value (esCons (eVar 1) esNil) []) esNil)))
  (sSeq (sSet 5 (eComp (srcSeq (eCall false 2 m__law_made (esCons (eVar 3) (esCons (eVar 4) esNil)) [])) (gSet 9) bYes (eBin oIx (eVar 9) (eLit (.int 0))) [9] false))
  (sSeq (sSet 6 (eComp (srcSeq (eCall false 2 m__law_made (esCons (eVar 3) (esCons (eVar 4) esNil)) [])) (gSet 9) bYes (eBlt bLen (esCons (eBin oIx (eVar 9) (eLit (.int 1))) esNil)) [9] false))
  law_mid)))
theorem law_eq : m_law = fnOf 10 (sSeq (sSet 1 (eCall true 1 m__law_draws (esCons (eVar 0) esNil) []))
  (sSeq (sForI (srcOf (esCons (eLit (.int 3)) esNil) kR1) (gSet 2)
  law_turn)
  (sRet (eCall false 0 m__law_caught esNil [])))) := by kernel_rfl
def exs (a b : D) : List D := [.exc 0 [a], .exc 1 [a], .exc 2 [a], .exc 3 [a], .exc 4 [a], .exc 5 [a], .exc 6 [a], .exc 7 [a], .exc 8 [a, b], .exc 9 [a], .exc 10 [a], .exc 11 [a], .exc 13 [a], .exc 14 [a], .exc 16 [a], .exc 15 [a, b], .exc 17 [a, b], .exc 18 [a], .exc 12 []]
def madeL (a b : D) : List D := [.tup [.exc 0 [a], .lst [.str [114, 101, 97, 115, 111, 110]]], .tup [.exc 1 [a], .lst [.str [97, 120, 105, 115]]], .tup [.exc 2 [a], .lst [.str [118, 97, 108, 117, 101]]], .tup [.exc 3 [a], .lst [.str [112, 111, 115, 105, 116, 105, 111, 110]]], .tup [.exc 4 [a], .lst [.str [111, 114, 100, 101, 114]]], .tup [.exc 5 [a], .lst [.str [97, 120, 105, 115]]], .tup [.exc 6 [a], .lst [.str [110, 117, 109, 98, 101, 114]]], .tup [.exc 7 [a], .lst [.str [105, 110, 100, 101, 120]]], .tup [.exc 8 [a, b], .lst [.str [115, 104, 97, 112, 101], .str [111, 116, 104, 101, 114]]], .tup [.exc 9 [a], .lst [.str [98, 117, 102, 102, 101, 114]]], .tup [.exc 10 [a], .lst [.str [110, 117, 109, 98, 101, 114]]], .tup [.exc 11 [a], .lst [.str [99, 111, 117, 110, 116]]], .tup [.exc 13 [a], .lst [.str [111, 112, 101, 114, 97, 116, 111, 114]]], .tup [.exc 14 [a], .lst [.str [114, 101, 97, 115, 111, 110]]], .tup [.exc 16 [a], .lst [.str [97, 116]]], .tup [.exc 15 [a, b], .lst [.str [97, 116], .str [114, 101, 97, 115, 111, 110]]], .tup [.exc 17 [a, b], .lst [.str [108, 105, 110, 101], .str [114, 101, 97, 115, 111, 110]]], .tup [.exc 18 [a], .lst [.str [114, 101, 97, 115, 111, 110]]], .tup [.exc 12 [], .lst []]]
def cnt : List D := [.int 1, .int 1, .int 1, .int 1, .int 1, .int 1, .int 1, .int 1, .int 2, .int 1, .int 1, .int 1, .int 1, .int 1, .int 1, .int 2, .int 2, .int 1, .int 0]
def fl (a b : D) : Nat → List D
  | 0 => [a]
  | 1 => [a]
  | 2 => [a]
  | 3 => [a]
  | 4 => [a]
  | 5 => [a]
  | 6 => [a]
  | 7 => [a]
  | 8 => [a, b]
  | 9 => [a]
  | 10 => [a]
  | 11 => [a]
  | 12 => [a]
  | 13 => [a]
  | 14 => [a]
  | 15 => [a, b]
  | 16 => [a, b]
  | 17 => [a]
  | 18 => []
  | _ => []
abbrev lawE (scr : R) (o2 : Option R) (a b : D) (k : Nat) (o9 : Option R) : Lc.Env := [some scr, some (.ref 1), o2, some (.d a), some (.d b), some (.d (.lst (exs a b))), some (.d (.lst cnt)), some (.d (.lst (exs a b))), some (.d (.int k)), o9]
section
variable (scr : R) (o2 o9 : Option R) (a b : D) (s : Dr)
theorem law_c1_ok : ∀ (k : Nat), k < 19 → law_c1 (lawE scr o2 a b k o9) [cB s, cA 0 s] = .ok false [cB s, cA 0 s]
  | 0, _ => by kernel_rfl
  | 1, _ => by kernel_rfl
  | 2, _ => by kernel_rfl
  | 3, _ => by kernel_rfl
  | 4, _ => by kernel_rfl
  | 5, _ => by kernel_rfl
  | 6, _ => by kernel_rfl
  | 7, _ => by kernel_rfl
  | 8, _ => by kernel_rfl
  | 9, _ => by kernel_rfl
  | 10, _ => by kernel_rfl
  | 11, _ => by kernel_rfl
  | 12, _ => by kernel_rfl
  | 13, _ => by kernel_rfl
  | 14, _ => by kernel_rfl
  | 15, _ => by kernel_rfl
  | 16, _ => by kernel_rfl
  | 17, _ => by kernel_rfl
  | 18, _ => by kernel_rfl
  | k + 19, h => absurd h (by omega)
theorem law_c2_ok : ∀ (k : Nat), k < 19 → law_c2 (lawE scr o2 a b k o9) [cB s, cA 0 s] = .ok false [cB s, cA 0 s]
  | 0, _ => by kernel_rfl
  | 1, _ => by kernel_rfl
  | 2, _ => by kernel_rfl
  | 3, _ => by kernel_rfl
  | 4, _ => by kernel_rfl
  | 5, _ => by kernel_rfl
  | 6, _ => by kernel_rfl
  | 7, _ => by kernel_rfl
  | 8, _ => by kernel_rfl
  | 9, _ => by kernel_rfl
  | 10, _ => by kernel_rfl
  | 11, _ => by kernel_rfl
  | 12, _ => by kernel_rfl
  | 13, _ => by kernel_rfl
  | 14, _ => by kernel_rfl
  | 15, _ => by kernel_rfl
  | 16, _ => by kernel_rfl
  | 17, _ => by kernel_rfl
  | 18, _ => by kernel_rfl
  | k + 19, h => absurd h (by omega)
theorem law_fl_ok : ∀ (k : Nat), k < 19 → eCall false 2 m__law_fields (esCons (eVar 8) (esCons (eBin oIx (eVar 7) (eVar 8)) esNil)) [] (lawE scr o2 a b k o9) [cB s, cA 0 s] = .ok (.d (.lst (fl a b k))) [cB s, cA 0 s]
  | 0, _ => by kernel_rfl
  | 1, _ => by kernel_rfl
  | 2, _ => by kernel_rfl
  | 3, _ => by kernel_rfl
  | 4, _ => by kernel_rfl
  | 5, _ => by kernel_rfl
  | 6, _ => by kernel_rfl
  | 7, _ => by kernel_rfl
  | 8, _ => by kernel_rfl
  | 9, _ => by kernel_rfl
  | 10, _ => by kernel_rfl
  | 11, _ => by kernel_rfl
  | 12, _ => by kernel_rfl
  | 13, _ => by kernel_rfl
  | 14, _ => by kernel_rfl
  | 15, _ => by kernel_rfl
  | 16, _ => by kernel_rfl
  | 17, _ => by kernel_rfl
  | 18, _ => by kernel_rfl
  | k + 19, h => absurd h (by omega)
theorem law_sl_ok : ∀ (k : Nat), k < 19 → eSl false (eLst false (esCons (eVar 3) (esCons (eVar 4) esNil))) none (some (eBin oIx (eVar 6) (eVar 8))) (lawE scr o2 a b k o9) [cB s, cA 0 s] = .ok (.d (.lst (fl a b k))) [cB s, cA 0 s]
  | 0, _ => by kernel_rfl
  | 1, _ => by kernel_rfl
  | 2, _ => by kernel_rfl
  | 3, _ => by kernel_rfl
  | 4, _ => by kernel_rfl
  | 5, _ => by kernel_rfl
  | 6, _ => by kernel_rfl
  | 7, _ => by kernel_rfl
  | 8, _ => by kernel_rfl
  | 9, _ => by kernel_rfl
  | 10, _ => by kernel_rfl
  | 11, _ => by kernel_rfl
  | 12, _ => by kernel_rfl
  | 13, _ => by kernel_rfl
  | 14, _ => by kernel_rfl
  | 15, _ => by kernel_rfl
  | 16, _ => by kernel_rfl
  | 17, _ => by kernel_rfl
  | 18, _ => by kernel_rfl
  | k + 19, h => absurd h (by omega)
end
/-! ### the end -/
theorem law_c3_ok (scr : R) (o2 o9 : Option R) {a b : D} (s : Dr) (ha : Good a) (hb : Good b) (k : Nat) (hk : k < 19) : law_c3 (lawE scr o2 a b k o9) [cB s, cA 0 s] = .ok false [cB s, cA 0 s] := by
  have hf : ∀ d ∈ fl a b k, Good d := by
    intro d hd
    have key : ∀ k, ∀ d ∈ fl a b k, d = a ∨ d = b := by
      intro k
      unfold fl
      split <;> intro d hd <;> simp at hd
      all_goals first
        | exact .inl hd
        | exact hd
    rcases key k d hd with rfl | rfl
    · exact ha
    · exact hb
  have hl : (fl a b k).length ≤ 1000 := by
    unfold fl
    split <;> simp
  refine eq_of_wR ?_
  unfold law_c3
  rw [w_bnot, w_bof, w_call, w_esCons, law_fl_ok scr o2 o9 a b s k hk, w_ok, w_esCons, law_sl_ok scr o2 o9 a b s k hk, w_ok, w_esNil]
  have z := call_pure (keep := false) (ds := [.lst (fl a b k), .lst (fl a b k)]) (M := [cB s, cA 0 s]) (same_all _ hl hf)
  simp only [List.map_cons, List.map_nil] at z
  rw [z]
  exact ⟨rfl, rfl⟩
theorem law_b_ok (scr : R) (o2 o9 : Option R) {a b : D} (s : Dr) (ha : Good a) (hb : Good b) (k : Nat) (hk : k < 19) (K : Kon) (h : K.nx (lawE scr o2 a b k o9) [cB s, cA 0 s]) : wS (law_b (lawE scr o2 a b k o9) [cB s, cA 0 s]) K := by
  unfold law_b
  simp only [ws_seq, ws_if]
  rw [law_c1_ok scr o2 o9 a b s k hk]
  simp only [w_ok, Bool.false_eq_true, if_false, ws_nil]
  rw [law_c2_ok scr o2 o9 a b s k hk]
  simp only [w_ok, Bool.false_eq_true, if_false, ws_nil]
  rw [law_c3_ok scr o2 o9 s ha hb k hk]
  simp only [w_ok, Bool.false_eq_true, if_false, ws_nil]
  exact h
abbrev lawE8 (scr : R) (o2 : Option R) (a b : D) (o8 o9 : Option R) : Lc.Env := [some scr, some (.ref 1), o2, some (.d a), some (.d b), some (.d (.lst (exs a b))), some (.d (.lst cnt)), some (.d (.lst (exs a b))), o8, o9]
theorem law_for_ok (scr : R) (o2 o9 : Option R) {a b : D} (s : Dr) (ha : Good a) (hb : Good b) (K : Kon) (h : ∀ o8, K.nx (lawE8 scr o2 a b o8 o9) [cB s, cA 0 s]) :
    ∀ (ks : List Nat) (o8 : Option R), (∀ k ∈ ks, k < 19) → wS (sFor (gSet 8) law_b (ks.map fun (k : Nat) => R.d (D.int (k : Int))) (lawE8 scr o2 a b o8 o9) [cB s, cA 0 s]) K
  | [], o8, _ => h o8
  | k :: ks, o8, hk => by
    rw [List.map_cons, ws_for_cons]
    show wS (law_b (lawE scr o2 a b k o9) [cB s, cA 0 s]) _
    exact law_b_ok scr o2 o9 s ha hb k (hk k List.mem_cons_self) _ (law_for_ok scr o2 o9 s ha hb K h ks _ fun j hj => hk j (List.mem_cons_of_mem _ hj))
theorem rng19 : rngL 0 19 = (List.range 19).map fun (k : Nat) => R.d (D.int (k : Int)) := by
  unfold rngL
  congr 1
  funext k
  rw [Int.zero_add]
theorem exs_len (a b : D) : (exs a b).length = 19 := rfl
theorem law_in_ok (scr : R) (o2 o8 o9 : Option R) {a b : D} (s : Dr) (ha : Good a) (hb : Good b) (K : Kon) (h : ∀ o8, K.nx (lawE8 scr o2 a b o8 o9) [cB s, cA 0 s]) : wS (law_in (lawE8 scr o2 a b o8 o9) [cB s, cA 0 s]) K := by
  unfold law_in
  simp only [↓ws_seq, ↓ws_nil, ↓ws_lift, ↓ws_drop, ↓ws_ret, ↓ws_retN, ↓ws_brk, ↓ws_cont, ↓ws_if, ↓ws_set, ↓ws_asg, ↓ws_gset, ↓ws_gnone, ↓ws_gmore, ↓ws_gtup, ↓ws_gstar, ↓ws_gsub, ↓ws_par, ↓ws_aug, ↓ws_forI, ↓ws_nx, ↓ws_rt, ↓ws_ex, ↓ws_no, ↓w_fn, ↓w_lit, ↓w_var, ↓w_bin, ↓w_esNil, ↓w_esCons, ↓w_tup, ↓w_lst, ↓w_dct0, ↓w_blt, ↓w_bm, ↓w_eand, ↓w_eor, ↓w_enot, ↓w_if, ↓w_chain, ↓w_neg, ↓w_isi, ↓w_isi2, ↓w_sl, ↓w_pn, ↓w_ps, ↓w_revL, ↓w_get2, ↓w_get1, ↓w_inT, ↓w_ixT, ↓w_getT, ↓w_fld, ↓w_call, ↓w_comp, ↓w_yes, ↓w_bcmp, ↓w_bof, ↓w_band, ↓w_bor, ↓w_bnot, ↓w_of, ↓w_srcOf, ↓w_srcSeq, ↓w_srcRev, ↓w_ok, ↓w_ex, ↓w_no, ↓w_bind, ↓w_ite, ↓w_sub, ↓w_mod, ↓w_div, ↓w_pow, ↓w_lt, ↓w_le, ↓w_gt, ↓w_ge, ↓w_addI, ↓w_mulI, ↓w_eqI, ↓w_neI, ↓w_eqBB, ↓w_neBB, ↓w_eqS, ↓w_neS, ↓w_isNon, ↓w_isNotNon, ↓w_isB, ↓w_mkT, ↓w_mkF, ↓w_addL, ↓w_addS, ↓w_addT, ↓w_addR, ↓w_mulL, ↓w_ixL, ↓w_ixT2, ↓w_ixR, ↓w_oSl, ↓w_eqLL, ↓w_neLL, ↓w_eqTT, ↓w_neTT, ↓w_eqR, ↓w_neR, ↓w_popAt0, ↓w_append, ↓w_pop, ↓w_lenL, ↓w_lenT, ↓w_lenS, ↓w_lenD, ↓w_lenR, ↓w_tupleL, ↓w_tupleT, ↓w_listL, ↓w_listT, ↓w_min, ↓w_max, ↓w_intI, ↓w_intB, ↓w_abs, ↓w_seqL, ↓w_seqT, ↓w_seqS, ↓w_kR1, ↓w_kR2, ↓w_kEnumL, ↓w_kZipT, ↓w_kZipL, ↓w_inS, vw_non, vw_bl, vw_int, vw_str, vw_lst, vw_tup, vw_dct, vw_obj, vw_ref, vwC_lst, vwC_tup, vwC_dct, vwC_obj, vwC_frz, List.map_cons, List.map_nil, List.nil_append, List.cons_append, List.append_nil, List.length_cons, List.length_nil, List.replicate_zero, List.replicate_succ, List.getElem?_cons_zero, List.getElem?_cons_succ, List.set_cons_zero, List.set_cons_succ, decide_eq_true_eq, Bool.not_eq_true, pureRs_cons, pureRs_nil, pureRs_map, pureRs_ref, Option.map_some, Option.map_none, atI_lit, ixN_lit, oSet_ref, isTy, tyName, two_eq2, one_eq1, wipeE, beq_self_eq_true, pv_d, pv_ref, Lc.plain, Lc.plains, Lc.dep, Lc.deps, Lc.eqD, Lc.eqDs, Nat.zero_le, Nat.max_self, Nat.zero_max, Nat.max_zero, ↓reduceIte, Nat.reduceAdd, Nat.reduceSub, Nat.reduceMul, Nat.reduceLT, Nat.reduceLeDiff, Nat.reduceEqDiff, Nat.zero_add, Int.reduceAdd, Int.reduceSub, Int.reduceMul, Int.reduceLT, Int.reduceLE, Int.reduceEq, Int.reduceNe, Int.reduceNeg, Int.reduceToNat, Int.reducePow, Nat.reducePow, Int.reduceAbs, SL, reduceCtorEq, true_and, and_true, false_and, and_false, ne_eq, not_false_eq_true, not_true_eq_false, Bool.not_true, Bool.not_false, Bool.true_and, Bool.and_true, Bool.false_and, Bool.and_false, Bool.false_eq_true, decide_true, decide_false, Bool.not_eq_eq_eq_not, decide_not, pureC_lst, pureC_tup, pureC_dct, pureC_obj, pureC_frz, exs_len]
  refine ⟨by decide, ?_⟩
  show wS (sFor (gSet 8) law_b (rngL 0 19) _ _) K
  rw [rng19]
  exact law_for_ok scr o2 o9 s ha hb K h (List.range 19) o8 fun k hk => List.mem_range.mp hk
theorem w_mkx {Q : R → Mem → Prop} {X : Xn → Mem → Prop} {env : Lc.Env} {M : Mem} (c n kp : Nat) (rv : Bool) (fs : Es) : wR (eMkX c n kp rv fs env M) Q X = wR (fs env M) (fun rs m => wR (match pureRs (if rv then rs.reverse else rs) with
  | some ds => if ds.length = n ∧ ds.all shownD = true then .ok (.d (.exc c (ds.take kp))) m else .no
  | none => .no) Q X) X := w_bind _ _
theorem small_of {n : Int} (h : numOk n) : smallI n = true := by
  unfold smallI
  rw [decide_eq_true_eq]
  by_cases h0 : n.natAbs = 0
  · rw [h0]; decide
  · rw [Nat.log2_lt h0]
    have h1 : n.natAbs < 10 ^ 40 := by have := h.1; have := h.2; omega
    exact Nat.lt_trans h1 (by decide +kernel)
theorem intsD_iDs (ns : List Int) : intsD (iDs ns) = some ns := intsD_map ns
theorem shown_good {v : D} (h : Good v) : shownD v = true := by
  cases h with
  | int n h => exact small_of h
  | str t h => show decide (t.length ≤ 10000) = true; rw [decide_eq_true_eq]; omega
  | tup ns h l =>
    show (match intsD (iDs ns) with
      | some ns => decide (ns.length ≤ 100) && ns.all smallI
      | none => false) = true
    rw [intsD_iDs]
    have h2 : ns.all smallI = true := List.all_eq_true.mpr fun n hn => small_of (h n hn)
    simp [h2]
    omega
theorem made_ok {a b : D} (ha : shownD a = true) (hb : shownD b = true) : m__law_made [.d a, .d b] [] = .ok (.d (.lst (madeL a b))) [] := by
  refine eq_of_wR ?_
  unfold m__law_made
  simp only [↓ws_seq, ↓ws_nil, ↓ws_lift, ↓ws_drop, ↓ws_ret, ↓ws_retN, ↓ws_brk, ↓ws_cont, ↓ws_if, ↓ws_set, ↓ws_asg, ↓ws_gset, ↓ws_gnone, ↓ws_gmore, ↓ws_gtup, ↓ws_gstar, ↓ws_gsub, ↓ws_par, ↓ws_aug, ↓ws_forI, ↓ws_nx, ↓ws_rt, ↓ws_ex, ↓ws_no, ↓w_fn, ↓w_lit, ↓w_var, ↓w_bin, ↓w_esNil, ↓w_esCons, ↓w_tup, ↓w_lst, ↓w_dct0, ↓w_blt, ↓w_bm, ↓w_eand, ↓w_eor, ↓w_enot, ↓w_if, ↓w_chain, ↓w_neg, ↓w_isi, ↓w_isi2, ↓w_sl, ↓w_pn, ↓w_ps, ↓w_revL, ↓w_get2, ↓w_get1, ↓w_inT, ↓w_ixT, ↓w_getT, ↓w_fld, ↓w_call, ↓w_comp, ↓w_yes, ↓w_bcmp, ↓w_bof, ↓w_band, ↓w_bor, ↓w_bnot, ↓w_of, ↓w_srcOf, ↓w_srcSeq, ↓w_srcRev, ↓w_ok, ↓w_ex, ↓w_no, ↓w_bind, ↓w_ite, ↓w_sub, ↓w_mod, ↓w_div, ↓w_pow, ↓w_lt, ↓w_le, ↓w_gt, ↓w_ge, ↓w_addI, ↓w_mulI, ↓w_eqI, ↓w_neI, ↓w_eqBB, ↓w_neBB, ↓w_eqS, ↓w_neS, ↓w_isNon, ↓w_isNotNon, ↓w_isB, ↓w_mkT, ↓w_mkF, ↓w_addL, ↓w_addS, ↓w_addT, ↓w_addR, ↓w_mulL, ↓w_ixL, ↓w_ixT2, ↓w_ixR, ↓w_oSl, ↓w_eqLL, ↓w_neLL, ↓w_eqTT, ↓w_neTT, ↓w_eqR, ↓w_neR, ↓w_popAt0, ↓w_append, ↓w_pop, ↓w_lenL, ↓w_lenT, ↓w_lenS, ↓w_lenD, ↓w_lenR, ↓w_tupleL, ↓w_tupleT, ↓w_listL, ↓w_listT, ↓w_min, ↓w_max, ↓w_intI, ↓w_intB, ↓w_abs, ↓w_seqL, ↓w_seqT, ↓w_seqS, ↓w_kR1, ↓w_kR2, ↓w_kEnumL, ↓w_kZipT, ↓w_kZipL, ↓w_inS, vw_non, vw_bl, vw_int, vw_str, vw_lst, vw_tup, vw_dct, vw_obj, vw_ref, vwC_lst, vwC_tup, vwC_dct, vwC_obj, vwC_frz, List.map_cons, List.map_nil, List.nil_append, List.cons_append, List.append_nil, List.length_cons, List.length_nil, List.replicate_zero, List.replicate_succ, List.getElem?_cons_zero, List.getElem?_cons_succ, List.set_cons_zero, List.set_cons_succ, decide_eq_true_eq, Bool.not_eq_true, pureRs_cons, pureRs_nil, pureRs_map, pureRs_ref, Option.map_some, Option.map_none, atI_lit, ixN_lit, oSet_ref, isTy, tyName, two_eq2, one_eq1, wipeE, beq_self_eq_true, pv_d, pv_ref, Lc.plain, Lc.plains, Lc.dep, Lc.deps, Lc.eqD, Lc.eqDs, Nat.zero_le, Nat.max_self, Nat.zero_max, Nat.max_zero, ↓reduceIte, Nat.reduceAdd, Nat.reduceSub, Nat.reduceMul, Nat.reduceLT, Nat.reduceLeDiff, Nat.reduceEqDiff, Nat.zero_add, Int.reduceAdd, Int.reduceSub, Int.reduceMul, Int.reduceLT, Int.reduceLE, Int.reduceEq, Int.reduceNe, Int.reduceNeg, Int.reduceToNat, Int.reducePow, Nat.reducePow, Int.reduceAbs, SL, reduceCtorEq, true_and, and_true, false_and, and_false, ne_eq, not_false_eq_true, not_true_eq_false, Bool.not_true, Bool.not_false, Bool.true_and, Bool.and_true, Bool.false_and, Bool.and_false, Bool.false_eq_true, decide_true, decide_false, Bool.not_eq_eq_eq_not, decide_not, pureC_lst, pureC_tup, pureC_dct, pureC_obj, pureC_frz, w_mkx, ha, hb, List.all_cons, List.all_nil, List.take_succ_cons, List.take_zero, List.take_nil]
  trivial
theorem named_ok {a b : D} (ha : shownD a = true) (hb : shownD b = true) : m__law_named [.d a, .d b] [] = .ok (.d (.lst (exs a b))) [] := by
  refine eq_of_wR ?_
  unfold m__law_named
  simp only [↓ws_seq, ↓ws_nil, ↓ws_lift, ↓ws_drop, ↓ws_ret, ↓ws_retN, ↓ws_brk, ↓ws_cont, ↓ws_if, ↓ws_set, ↓ws_asg, ↓ws_gset, ↓ws_gnone, ↓ws_gmore, ↓ws_gtup, ↓ws_gstar, ↓ws_gsub, ↓ws_par, ↓ws_aug, ↓ws_forI, ↓ws_nx, ↓ws_rt, ↓ws_ex, ↓ws_no, ↓w_fn, ↓w_lit, ↓w_var, ↓w_bin, ↓w_esNil, ↓w_esCons, ↓w_tup, ↓w_lst, ↓w_dct0, ↓w_blt, ↓w_bm, ↓w_eand, ↓w_eor, ↓w_enot, ↓w_if, ↓w_chain, ↓w_neg, ↓w_isi, ↓w_isi2, ↓w_sl, ↓w_pn, ↓w_ps, ↓w_revL, ↓w_get2, ↓w_get1, ↓w_inT, ↓w_ixT, ↓w_getT, ↓w_fld, ↓w_call, ↓w_comp, ↓w_yes, ↓w_bcmp, ↓w_bof, ↓w_band, ↓w_bor, ↓w_bnot, ↓w_of, ↓w_srcOf, ↓w_srcSeq, ↓w_srcRev, ↓w_ok, ↓w_ex, ↓w_no, ↓w_bind, ↓w_ite, ↓w_sub, ↓w_mod, ↓w_div, ↓w_pow, ↓w_lt, ↓w_le, ↓w_gt, ↓w_ge, ↓w_addI, ↓w_mulI, ↓w_eqI, ↓w_neI, ↓w_eqBB, ↓w_neBB, ↓w_eqS, ↓w_neS, ↓w_isNon, ↓w_isNotNon, ↓w_isB, ↓w_mkT, ↓w_mkF, ↓w_addL, ↓w_addS, ↓w_addT, ↓w_addR, ↓w_mulL, ↓w_ixL, ↓w_ixT2, ↓w_ixR, ↓w_oSl, ↓w_eqLL, ↓w_neLL, ↓w_eqTT, ↓w_neTT, ↓w_eqR, ↓w_neR, ↓w_popAt0, ↓w_append, ↓w_pop, ↓w_lenL, ↓w_lenT, ↓w_lenS, ↓w_lenD, ↓w_lenR, ↓w_tupleL, ↓w_tupleT, ↓w_listL, ↓w_listT, ↓w_min, ↓w_max, ↓w_intI, ↓w_intB, ↓w_abs, ↓w_seqL, ↓w_seqT, ↓w_seqS, ↓w_kR1, ↓w_kR2, ↓w_kEnumL, ↓w_kZipT, ↓w_kZipL, ↓w_inS, vw_non, vw_bl, vw_int, vw_str, vw_lst, vw_tup, vw_dct, vw_obj, vw_ref, vwC_lst, vwC_tup, vwC_dct, vwC_obj, vwC_frz, List.map_cons, List.map_nil, List.nil_append, List.cons_append, List.append_nil, List.length_cons, List.length_nil, List.replicate_zero, List.replicate_succ, List.getElem?_cons_zero, List.getElem?_cons_succ, List.set_cons_zero, List.set_cons_succ, decide_eq_true_eq, Bool.not_eq_true, pureRs_cons, pureRs_nil, pureRs_map, pureRs_ref, Option.map_some, Option.map_none, atI_lit, ixN_lit, oSet_ref, isTy, tyName, two_eq2, one_eq1, wipeE, beq_self_eq_true, pv_d, pv_ref, Lc.plain, Lc.plains, Lc.dep, Lc.deps, Lc.eqD, Lc.eqDs, Nat.zero_le, Nat.max_self, Nat.zero_max, Nat.max_zero, ↓reduceIte, Nat.reduceAdd, Nat.reduceSub, Nat.reduceMul, Nat.reduceLT, Nat.reduceLeDiff, Nat.reduceEqDiff, Nat.zero_add, Int.reduceAdd, Int.reduceSub, Int.reduceMul, Int.reduceLT, Int.reduceLE, Int.reduceEq, Int.reduceNe, Int.reduceNeg, Int.reduceToNat, Int.reducePow, Nat.reducePow, Int.reduceAbs, SL, reduceCtorEq, true_and, and_true, false_and, and_false, ne_eq, not_false_eq_true, not_true_eq_false, Bool.not_true, Bool.not_false, Bool.true_and, Bool.and_true, Bool.false_and, Bool.and_false, Bool.false_eq_true, decide_true, decide_false, Bool.not_eq_eq_eq_not, decide_not, pureC_lst, pureC_tup, pureC_dct, pureC_obj, pureC_frz, w_mkx, ha, hb, List.all_cons, List.all_nil, List.take_succ_cons, List.take_zero, List.take_nil, List.reverse_cons, List.reverse_nil]
  trivial
end G90
set_option Elab.async false
set_option linter.all false
set_option maxRecDepth 100000
set_option maxHeartbeats 4000000
/-! The plain law of k90, its end. -/
namespace G90
open PySem PySem.Spec PyProof.Rows L2 LcX Lc
theorem put10 (s s' : Dr) : putD [cB s, cA 0 s] 1 0 s' = [cB s', cA 0 s'] := rfl
theorem value_call {M : Mem} {i j : Nat} {s : Dr} {Q : R → Mem → Prop} {X : Xn → Mem → Prop} (h : AtD M i j s) (hk0 : 0 ≤ s.k) (hk : s.k ≤ 800000)
    (hQ : ∀ (v : D) s', Good v → s.k ≤ s'.k → s'.k ≤ s.k + 20 → Q (.d v) (putD M i j s')) : wR (call false m__law_value [.ref i] M) Q X :=
  call_draw (ds := []) h (P := fun v s' => Good v ∧ s.k ≤ s'.k ∧ s'.k ≤ s.k + 20) (wR.mono (value_wp s hk0 hk) fun r m1 q => by
    obtain ⟨v, s', h1, h2, h3, rfl, rfl⟩ := q
    exact ⟨v, s', [], ⟨h1, h2, h3⟩, rfl, rfl⟩) fun v s' q => hQ v s' q.1 q.2.1 q.2.2
theorem at10 (s : Dr) : AtD [cB s, cA 0 s] 1 0 s := ⟨rfl, rfl, by decide⟩
theorem comp5 (scr : R) (o2 o6 o7 o8 : Option R) (o5 : Option R) (a b : D) (s : Dr) : compL (gSet 9) bYes (eBin oIx (eVar 9) (eLit (.int 0))) [some scr, some (.ref 1), o2, some (.d a), some (.d b), o5, o6, o7, o8, none] ((madeL a b).map .d) [] [cB s, cA 0 s] = .ok ((exs a b).map .d) [cB s, cA 0 s] := by kernel_rfl
theorem comp6 (scr : R) (o2 o6 o7 o8 : Option R) (o5 : Option R) (a b : D) (s : Dr) : compL (gSet 9) bYes (eBlt bLen (esCons (eBin oIx (eVar 9) (eLit (.int 1))) esNil)) [some scr, some (.ref 1), o2, some (.d a), some (.d b), o5, o6, o7, o8, none] ((madeL a b).map .d) [] [cB s, cA 0 s] = .ok (cnt.map .d) [cB s, cA 0 s] := by kernel_rfl
theorem law_turn_ok (scr : R) (o2 o3 o4 o5 o6 o7 o8 o9 : Option R) (s : Dr) (hk0 : 0 ≤ s.k) (hk : s.k ≤ 700000) (K : Kon) (h : ∀ o3 o4 o5 o6 o7 o8 o9 s', s.k ≤ s'.k → s'.k ≤ s.k + 40 → K.nx [some scr, some (.ref 1), o2, o3, o4, o5, o6, o7, o8, o9] [cB s', cA 0 s']) :
    wS (law_turn [some scr, some (.ref 1), o2, o3, o4, o5, o6, o7, o8, o9] [cB s, cA 0 s]) K := by
  unfold law_turn
  simp only [↓ws_seq, ↓ws_nil, ↓ws_lift, ↓ws_drop, ↓ws_ret, ↓ws_retN, ↓ws_brk, ↓ws_cont, ↓ws_if, ↓ws_set, ↓ws_asg, ↓ws_gset, ↓ws_gnone, ↓ws_gmore, ↓ws_gtup, ↓ws_gstar, ↓ws_gsub, ↓ws_par, ↓ws_aug, ↓ws_forI, ↓ws_nx, ↓ws_rt, ↓ws_ex, ↓ws_no, ↓w_fn, ↓w_lit, ↓w_var, ↓w_bin, ↓w_esNil, ↓w_esCons, ↓w_tup, ↓w_lst, ↓w_dct0, ↓w_blt, ↓w_bm, ↓w_eand, ↓w_eor, ↓w_enot, ↓w_if, ↓w_chain, ↓w_neg, ↓w_isi, ↓w_isi2, ↓w_sl, ↓w_pn, ↓w_ps, ↓w_revL, ↓w_get2, ↓w_get1, ↓w_inT, ↓w_ixT, ↓w_getT, ↓w_fld, ↓w_call, ↓w_comp, ↓w_yes, ↓w_bcmp, ↓w_bof, ↓w_band, ↓w_bor, ↓w_bnot, ↓w_of, ↓w_srcOf, ↓w_srcSeq, ↓w_srcRev, ↓w_ok, ↓w_ex, ↓w_no, ↓w_bind, ↓w_ite, ↓w_sub, ↓w_mod, ↓w_div, ↓w_pow, ↓w_lt, ↓w_le, ↓w_gt, ↓w_ge, ↓w_addI, ↓w_mulI, ↓w_eqI, ↓w_neI, ↓w_eqBB, ↓w_neBB, ↓w_eqS, ↓w_neS, ↓w_isNon, ↓w_isNotNon, ↓w_isB, ↓w_mkT, ↓w_mkF, ↓w_addL, ↓w_addS, ↓w_addT, ↓w_addR, ↓w_mulL, ↓w_ixL, ↓w_ixT2, ↓w_ixR, ↓w_oSl, ↓w_eqLL, ↓w_neLL, ↓w_eqTT, ↓w_neTT, ↓w_eqR, ↓w_neR, ↓w_popAt0, ↓w_append, ↓w_pop, ↓w_lenL, ↓w_lenT, ↓w_lenS, ↓w_lenD, ↓w_lenR, ↓w_tupleL, ↓w_tupleT, ↓w_listL, ↓w_listT, ↓w_min, ↓w_max, ↓w_intI, ↓w_intB, ↓w_abs, ↓w_seqL, ↓w_seqT, ↓w_seqS, ↓w_kR1, ↓w_kR2, ↓w_kEnumL, ↓w_kZipT, ↓w_kZipL, ↓w_inS, vw_non, vw_bl, vw_int, vw_str, vw_lst, vw_tup, vw_dct, vw_obj, vw_ref, vwC_lst, vwC_tup, vwC_dct, vwC_obj, vwC_frz, List.map_cons, List.map_nil, List.nil_append, List.cons_append, List.append_nil, List.length_cons, List.length_nil, List.replicate_zero, List.replicate_succ, List.getElem?_cons_zero, List.getElem?_cons_succ, List.set_cons_zero, List.set_cons_succ, decide_eq_true_eq, Bool.not_eq_true, pureRs_cons, pureRs_nil, pureRs_map, pureRs_ref, Option.map_some, Option.map_none, atI_lit, ixN_lit, oSet_ref, isTy, tyName, two_eq2, one_eq1, wipeE, beq_self_eq_true, pv_d, pv_ref, Lc.plain, Lc.plains, Lc.dep, Lc.deps, Lc.eqD, Lc.eqDs, Nat.zero_le, Nat.max_self, Nat.zero_max, Nat.max_zero, ↓reduceIte, Nat.reduceAdd, Nat.reduceSub, Nat.reduceMul, Nat.reduceLT, Nat.reduceLeDiff, Nat.reduceEqDiff, Nat.zero_add, Int.reduceAdd, Int.reduceSub, Int.reduceMul, Int.reduceLT, Int.reduceLE, Int.reduceEq, Int.reduceNe, Int.reduceNeg, Int.reduceToNat, Int.reducePow, Nat.reducePow, Int.reduceAbs, SL, reduceCtorEq, true_and, and_true, false_and, and_false, ne_eq, not_false_eq_true, not_true_eq_false, Bool.not_true, Bool.not_false, Bool.true_and, Bool.and_true, Bool.false_and, Bool.and_false, Bool.false_eq_true, decide_true, decide_false, Bool.not_eq_eq_eq_not, decide_not, pureC_lst, pureC_tup, pureC_dct, pureC_obj, pureC_frz]
  refine value_call (at10 s) hk0 (by omega) fun a s1 ga ka0 ka1 => ?_
  rw [put10]
  refine value_call (at10 s1) (by omega) (by omega) fun b s2 gb kb0 kb1 => ?_
  rw [put10]
  have sa := shown_good ga
  have sb := shown_good gb
  have mk0 := call_pure (keep := false) (ds := [a, b]) (M := [cB s2, cA 0 s2]) (made_ok sa sb)
  have nm0 := call_pure (keep := false) (ds := [a, b]) (M := [cB s2, cA 0 s2]) (named_ok sa sb)
  simp only [List.map_cons, List.map_nil] at mk0 nm0
  rw [mk0]
  simp only [↓ws_seq, ↓ws_nil, ↓ws_lift, ↓ws_drop, ↓ws_ret, ↓ws_retN, ↓ws_brk, ↓ws_cont, ↓ws_if, ↓ws_set, ↓ws_asg, ↓ws_gset, ↓ws_gnone, ↓ws_gmore, ↓ws_gtup, ↓ws_gstar, ↓ws_gsub, ↓ws_par, ↓ws_aug, ↓ws_forI, ↓ws_nx, ↓ws_rt, ↓ws_ex, ↓ws_no, ↓w_fn, ↓w_lit, ↓w_var, ↓w_bin, ↓w_esNil, ↓w_esCons, ↓w_tup, ↓w_lst, ↓w_dct0, ↓w_blt, ↓w_bm, ↓w_eand, ↓w_eor, ↓w_enot, ↓w_if, ↓w_chain, ↓w_neg, ↓w_isi, ↓w_isi2, ↓w_sl, ↓w_pn, ↓w_ps, ↓w_revL, ↓w_get2, ↓w_get1, ↓w_inT, ↓w_ixT, ↓w_getT, ↓w_fld, ↓w_call, ↓w_comp, ↓w_yes, ↓w_bcmp, ↓w_bof, ↓w_band, ↓w_bor, ↓w_bnot, ↓w_of, ↓w_srcOf, ↓w_srcSeq, ↓w_srcRev, ↓w_ok, ↓w_ex, ↓w_no, ↓w_bind, ↓w_ite, ↓w_sub, ↓w_mod, ↓w_div, ↓w_pow, ↓w_lt, ↓w_le, ↓w_gt, ↓w_ge, ↓w_addI, ↓w_mulI, ↓w_eqI, ↓w_neI, ↓w_eqBB, ↓w_neBB, ↓w_eqS, ↓w_neS, ↓w_isNon, ↓w_isNotNon, ↓w_isB, ↓w_mkT, ↓w_mkF, ↓w_addL, ↓w_addS, ↓w_addT, ↓w_addR, ↓w_mulL, ↓w_ixL, ↓w_ixT2, ↓w_ixR, ↓w_oSl, ↓w_eqLL, ↓w_neLL, ↓w_eqTT, ↓w_neTT, ↓w_eqR, ↓w_neR, ↓w_popAt0, ↓w_append, ↓w_pop, ↓w_lenL, ↓w_lenT, ↓w_lenS, ↓w_lenD, ↓w_lenR, ↓w_tupleL, ↓w_tupleT, ↓w_listL, ↓w_listT, ↓w_min, ↓w_max, ↓w_intI, ↓w_intB, ↓w_abs, ↓w_seqL, ↓w_seqT, ↓w_seqS, ↓w_kR1, ↓w_kR2, ↓w_kEnumL, ↓w_kZipT, ↓w_kZipL, ↓w_inS, vw_non, vw_bl, vw_int, vw_str, vw_lst, vw_tup, vw_dct, vw_obj, vw_ref, vwC_lst, vwC_tup, vwC_dct, vwC_obj, vwC_frz, List.map_cons, List.map_nil, List.nil_append, List.cons_append, List.append_nil, List.length_cons, List.length_nil, List.replicate_zero, List.replicate_succ, List.getElem?_cons_zero, List.getElem?_cons_succ, List.set_cons_zero, List.set_cons_succ, decide_eq_true_eq, Bool.not_eq_true, pureRs_cons, pureRs_nil, pureRs_map, pureRs_ref, Option.map_some, Option.map_none, atI_lit, ixN_lit, oSet_ref, isTy, tyName, two_eq2, one_eq1, wipeE, beq_self_eq_true, pv_d, pv_ref, Lc.plain, Lc.plains, Lc.dep, Lc.deps, Lc.eqD, Lc.eqDs, Nat.zero_le, Nat.max_self, Nat.zero_max, Nat.max_zero, ↓reduceIte, Nat.reduceAdd, Nat.reduceSub, Nat.reduceMul, Nat.reduceLT, Nat.reduceLeDiff, Nat.reduceEqDiff, Nat.zero_add, Int.reduceAdd, Int.reduceSub, Int.reduceMul, Int.reduceLT, Int.reduceLE, Int.reduceEq, Int.reduceNe, Int.reduceNeg, Int.reduceToNat, Int.reducePow, Nat.reducePow, Int.reduceAbs, SL, reduceCtorEq, true_and, and_true, false_and, and_false, ne_eq, not_false_eq_true, not_true_eq_false, Bool.not_true, Bool.not_false, Bool.true_and, Bool.and_true, Bool.false_and, Bool.and_false, Bool.false_eq_true, decide_true, decide_false, Bool.not_eq_eq_eq_not, decide_not, pureC_lst, pureC_tup, pureC_dct, pureC_obj, pureC_frz]
  rw [comp5]
  simp only [↓ws_seq, ↓ws_nil, ↓ws_lift, ↓ws_drop, ↓ws_ret, ↓ws_retN, ↓ws_brk, ↓ws_cont, ↓ws_if, ↓ws_set, ↓ws_asg, ↓ws_gset, ↓ws_gnone, ↓ws_gmore, ↓ws_gtup, ↓ws_gstar, ↓ws_gsub, ↓ws_par, ↓ws_aug, ↓ws_forI, ↓ws_nx, ↓ws_rt, ↓ws_ex, ↓ws_no, ↓w_fn, ↓w_lit, ↓w_var, ↓w_bin, ↓w_esNil, ↓w_esCons, ↓w_tup, ↓w_lst, ↓w_dct0, ↓w_blt, ↓w_bm, ↓w_eand, ↓w_eor, ↓w_enot, ↓w_if, ↓w_chain, ↓w_neg, ↓w_isi, ↓w_isi2, ↓w_sl, ↓w_pn, ↓w_ps, ↓w_revL, ↓w_get2, ↓w_get1, ↓w_inT, ↓w_ixT, ↓w_getT, ↓w_fld, ↓w_call, ↓w_comp, ↓w_yes, ↓w_bcmp, ↓w_bof, ↓w_band, ↓w_bor, ↓w_bnot, ↓w_of, ↓w_srcOf, ↓w_srcSeq, ↓w_srcRev, ↓w_ok, ↓w_ex, ↓w_no, ↓w_bind, ↓w_ite, ↓w_sub, ↓w_mod, ↓w_div, ↓w_pow, ↓w_lt, ↓w_le, ↓w_gt, ↓w_ge, ↓w_addI, ↓w_mulI, ↓w_eqI, ↓w_neI, ↓w_eqBB, ↓w_neBB, ↓w_eqS, ↓w_neS, ↓w_isNon, ↓w_isNotNon, ↓w_isB, ↓w_mkT, ↓w_mkF, ↓w_addL, ↓w_addS, ↓w_addT, ↓w_addR, ↓w_mulL, ↓w_ixL, ↓w_ixT2, ↓w_ixR, ↓w_oSl, ↓w_eqLL, ↓w_neLL, ↓w_eqTT, ↓w_neTT, ↓w_eqR, ↓w_neR, ↓w_popAt0, ↓w_append, ↓w_pop, ↓w_lenL, ↓w_lenT, ↓w_lenS, ↓w_lenD, ↓w_lenR, ↓w_tupleL, ↓w_tupleT, ↓w_listL, ↓w_listT, ↓w_min, ↓w_max, ↓w_intI, ↓w_intB, ↓w_abs, ↓w_seqL, ↓w_seqT, ↓w_seqS, ↓w_kR1, ↓w_kR2, ↓w_kEnumL, ↓w_kZipT, ↓w_kZipL, ↓w_inS, vw_non, vw_bl, vw_int, vw_str, vw_lst, vw_tup, vw_dct, vw_obj, vw_ref, vwC_lst, vwC_tup, vwC_dct, vwC_obj, vwC_frz, List.map_cons, List.map_nil, List.nil_append, List.cons_append, List.append_nil, List.length_cons, List.length_nil, List.replicate_zero, List.replicate_succ, List.getElem?_cons_zero, List.getElem?_cons_succ, List.set_cons_zero, List.set_cons_succ, decide_eq_true_eq, Bool.not_eq_true, pureRs_cons, pureRs_nil, pureRs_map, pureRs_ref, Option.map_some, Option.map_none, atI_lit, ixN_lit, oSet_ref, isTy, tyName, two_eq2, one_eq1, wipeE, beq_self_eq_true, pv_d, pv_ref, Lc.plain, Lc.plains, Lc.dep, Lc.deps, Lc.eqD, Lc.eqDs, Nat.zero_le, Nat.max_self, Nat.zero_max, Nat.max_zero, ↓reduceIte, Nat.reduceAdd, Nat.reduceSub, Nat.reduceMul, Nat.reduceLT, Nat.reduceLeDiff, Nat.reduceEqDiff, Nat.zero_add, Int.reduceAdd, Int.reduceSub, Int.reduceMul, Int.reduceLT, Int.reduceLE, Int.reduceEq, Int.reduceNe, Int.reduceNeg, Int.reduceToNat, Int.reducePow, Nat.reducePow, Int.reduceAbs, SL, reduceCtorEq, true_and, and_true, false_and, and_false, ne_eq, not_false_eq_true, not_true_eq_false, Bool.not_true, Bool.not_false, Bool.true_and, Bool.and_true, Bool.false_and, Bool.and_false, Bool.false_eq_true, decide_true, decide_false, Bool.not_eq_eq_eq_not, decide_not, pureC_lst, pureC_tup, pureC_dct, pureC_obj, pureC_frz]
  rw [mk0]
  simp only [↓ws_seq, ↓ws_nil, ↓ws_lift, ↓ws_drop, ↓ws_ret, ↓ws_retN, ↓ws_brk, ↓ws_cont, ↓ws_if, ↓ws_set, ↓ws_asg, ↓ws_gset, ↓ws_gnone, ↓ws_gmore, ↓ws_gtup, ↓ws_gstar, ↓ws_gsub, ↓ws_par, ↓ws_aug, ↓ws_forI, ↓ws_nx, ↓ws_rt, ↓ws_ex, ↓ws_no, ↓w_fn, ↓w_lit, ↓w_var, ↓w_bin, ↓w_esNil, ↓w_esCons, ↓w_tup, ↓w_lst, ↓w_dct0, ↓w_blt, ↓w_bm, ↓w_eand, ↓w_eor, ↓w_enot, ↓w_if, ↓w_chain, ↓w_neg, ↓w_isi, ↓w_isi2, ↓w_sl, ↓w_pn, ↓w_ps, ↓w_revL, ↓w_get2, ↓w_get1, ↓w_inT, ↓w_ixT, ↓w_getT, ↓w_fld, ↓w_call, ↓w_comp, ↓w_yes, ↓w_bcmp, ↓w_bof, ↓w_band, ↓w_bor, ↓w_bnot, ↓w_of, ↓w_srcOf, ↓w_srcSeq, ↓w_srcRev, ↓w_ok, ↓w_ex, ↓w_no, ↓w_bind, ↓w_ite, ↓w_sub, ↓w_mod, ↓w_div, ↓w_pow, ↓w_lt, ↓w_le, ↓w_gt, ↓w_ge, ↓w_addI, ↓w_mulI, ↓w_eqI, ↓w_neI, ↓w_eqBB, ↓w_neBB, ↓w_eqS, ↓w_neS, ↓w_isNon, ↓w_isNotNon, ↓w_isB, ↓w_mkT, ↓w_mkF, ↓w_addL, ↓w_addS, ↓w_addT, ↓w_addR, ↓w_mulL, ↓w_ixL, ↓w_ixT2, ↓w_ixR, ↓w_oSl, ↓w_eqLL, ↓w_neLL, ↓w_eqTT, ↓w_neTT, ↓w_eqR, ↓w_neR, ↓w_popAt0, ↓w_append, ↓w_pop, ↓w_lenL, ↓w_lenT, ↓w_lenS, ↓w_lenD, ↓w_lenR, ↓w_tupleL, ↓w_tupleT, ↓w_listL, ↓w_listT, ↓w_min, ↓w_max, ↓w_intI, ↓w_intB, ↓w_abs, ↓w_seqL, ↓w_seqT, ↓w_seqS, ↓w_kR1, ↓w_kR2, ↓w_kEnumL, ↓w_kZipT, ↓w_kZipL, ↓w_inS, vw_non, vw_bl, vw_int, vw_str, vw_lst, vw_tup, vw_dct, vw_obj, vw_ref, vwC_lst, vwC_tup, vwC_dct, vwC_obj, vwC_frz, List.map_cons, List.map_nil, List.nil_append, List.cons_append, List.append_nil, List.length_cons, List.length_nil, List.replicate_zero, List.replicate_succ, List.getElem?_cons_zero, List.getElem?_cons_succ, List.set_cons_zero, List.set_cons_succ, decide_eq_true_eq, Bool.not_eq_true, pureRs_cons, pureRs_nil, pureRs_map, pureRs_ref, Option.map_some, Option.map_none, atI_lit, ixN_lit, oSet_ref, isTy, tyName, two_eq2, one_eq1, wipeE, beq_self_eq_true, pv_d, pv_ref, Lc.plain, Lc.plains, Lc.dep, Lc.deps, Lc.eqD, Lc.eqDs, Nat.zero_le, Nat.max_self, Nat.zero_max, Nat.max_zero, ↓reduceIte, Nat.reduceAdd, Nat.reduceSub, Nat.reduceMul, Nat.reduceLT, Nat.reduceLeDiff, Nat.reduceEqDiff, Nat.zero_add, Int.reduceAdd, Int.reduceSub, Int.reduceMul, Int.reduceLT, Int.reduceLE, Int.reduceEq, Int.reduceNe, Int.reduceNeg, Int.reduceToNat, Int.reducePow, Nat.reducePow, Int.reduceAbs, SL, reduceCtorEq, true_and, and_true, false_and, and_false, ne_eq, not_false_eq_true, not_true_eq_false, Bool.not_true, Bool.not_false, Bool.true_and, Bool.and_true, Bool.false_and, Bool.and_false, Bool.false_eq_true, decide_true, decide_false, Bool.not_eq_eq_eq_not, decide_not, pureC_lst, pureC_tup, pureC_dct, pureC_obj, pureC_frz]
  rw [comp6]
  simp only [↓ws_seq, ↓ws_nil, ↓ws_lift, ↓ws_drop, ↓ws_ret, ↓ws_retN, ↓ws_brk, ↓ws_cont, ↓ws_if, ↓ws_set, ↓ws_asg, ↓ws_gset, ↓ws_gnone, ↓ws_gmore, ↓ws_gtup, ↓ws_gstar, ↓ws_gsub, ↓ws_par, ↓ws_aug, ↓ws_forI, ↓ws_nx, ↓ws_rt, ↓ws_ex, ↓ws_no, ↓w_fn, ↓w_lit, ↓w_var, ↓w_bin, ↓w_esNil, ↓w_esCons, ↓w_tup, ↓w_lst, ↓w_dct0, ↓w_blt, ↓w_bm, ↓w_eand, ↓w_eor, ↓w_enot, ↓w_if, ↓w_chain, ↓w_neg, ↓w_isi, ↓w_isi2, ↓w_sl, ↓w_pn, ↓w_ps, ↓w_revL, ↓w_get2, ↓w_get1, ↓w_inT, ↓w_ixT, ↓w_getT, ↓w_fld, ↓w_call, ↓w_comp, ↓w_yes, ↓w_bcmp, ↓w_bof, ↓w_band, ↓w_bor, ↓w_bnot, ↓w_of, ↓w_srcOf, ↓w_srcSeq, ↓w_srcRev, ↓w_ok, ↓w_ex, ↓w_no, ↓w_bind, ↓w_ite, ↓w_sub, ↓w_mod, ↓w_div, ↓w_pow, ↓w_lt, ↓w_le, ↓w_gt, ↓w_ge, ↓w_addI, ↓w_mulI, ↓w_eqI, ↓w_neI, ↓w_eqBB, ↓w_neBB, ↓w_eqS, ↓w_neS, ↓w_isNon, ↓w_isNotNon, ↓w_isB, ↓w_mkT, ↓w_mkF, ↓w_addL, ↓w_addS, ↓w_addT, ↓w_addR, ↓w_mulL, ↓w_ixL, ↓w_ixT2, ↓w_ixR, ↓w_oSl, ↓w_eqLL, ↓w_neLL, ↓w_eqTT, ↓w_neTT, ↓w_eqR, ↓w_neR, ↓w_popAt0, ↓w_append, ↓w_pop, ↓w_lenL, ↓w_lenT, ↓w_lenS, ↓w_lenD, ↓w_lenR, ↓w_tupleL, ↓w_tupleT, ↓w_listL, ↓w_listT, ↓w_min, ↓w_max, ↓w_intI, ↓w_intB, ↓w_abs, ↓w_seqL, ↓w_seqT, ↓w_seqS, ↓w_kR1, ↓w_kR2, ↓w_kEnumL, ↓w_kZipT, ↓w_kZipL, ↓w_inS, vw_non, vw_bl, vw_int, vw_str, vw_lst, vw_tup, vw_dct, vw_obj, vw_ref, vwC_lst, vwC_tup, vwC_dct, vwC_obj, vwC_frz, List.map_cons, List.map_nil, List.nil_append, List.cons_append, List.append_nil, List.length_cons, List.length_nil, List.replicate_zero, List.replicate_succ, List.getElem?_cons_zero, List.getElem?_cons_succ, List.set_cons_zero, List.set_cons_succ, decide_eq_true_eq, Bool.not_eq_true, pureRs_cons, pureRs_nil, pureRs_map, pureRs_ref, Option.map_some, Option.map_none, atI_lit, ixN_lit, oSet_ref, isTy, tyName, two_eq2, one_eq1, wipeE, beq_self_eq_true, pv_d, pv_ref, Lc.plain, Lc.plains, Lc.dep, Lc.deps, Lc.eqD, Lc.eqDs, Nat.zero_le, Nat.max_self, Nat.zero_max, Nat.max_zero, ↓reduceIte, Nat.reduceAdd, Nat.reduceSub, Nat.reduceMul, Nat.reduceLT, Nat.reduceLeDiff, Nat.reduceEqDiff, Nat.zero_add, Int.reduceAdd, Int.reduceSub, Int.reduceMul, Int.reduceLT, Int.reduceLE, Int.reduceEq, Int.reduceNe, Int.reduceNeg, Int.reduceToNat, Int.reducePow, Nat.reducePow, Int.reduceAbs, SL, reduceCtorEq, true_and, and_true, false_and, and_false, ne_eq, not_false_eq_true, not_true_eq_false, Bool.not_true, Bool.not_false, Bool.true_and, Bool.and_true, Bool.false_and, Bool.and_false, Bool.false_eq_true, decide_true, decide_false, Bool.not_eq_eq_eq_not, decide_not, pureC_lst, pureC_tup, pureC_dct, pureC_obj, pureC_frz]
  unfold law_mid
  simp only [↓ws_seq, ↓ws_nil, ↓ws_lift, ↓ws_drop, ↓ws_ret, ↓ws_retN, ↓ws_brk, ↓ws_cont, ↓ws_if, ↓ws_set, ↓ws_asg, ↓ws_gset, ↓ws_gnone, ↓ws_gmore, ↓ws_gtup, ↓ws_gstar, ↓ws_gsub, ↓ws_par, ↓ws_aug, ↓ws_forI, ↓ws_nx, ↓ws_rt, ↓ws_ex, ↓ws_no, ↓w_fn, ↓w_lit, ↓w_var, ↓w_bin, ↓w_esNil, ↓w_esCons, ↓w_tup, ↓w_lst, ↓w_dct0, ↓w_blt, ↓w_bm, ↓w_eand, ↓w_eor, ↓w_enot, ↓w_if, ↓w_chain, ↓w_neg, ↓w_isi, ↓w_isi2, ↓w_sl, ↓w_pn, ↓w_ps, ↓w_revL, ↓w_get2, ↓w_get1, ↓w_inT, ↓w_ixT, ↓w_getT, ↓w_fld, ↓w_call, ↓w_comp, ↓w_yes, ↓w_bcmp, ↓w_bof, ↓w_band, ↓w_bor, ↓w_bnot, ↓w_of, ↓w_srcOf, ↓w_srcSeq, ↓w_srcRev, ↓w_ok, ↓w_ex, ↓w_no, ↓w_bind, ↓w_ite, ↓w_sub, ↓w_mod, ↓w_div, ↓w_pow, ↓w_lt, ↓w_le, ↓w_gt, ↓w_ge, ↓w_addI, ↓w_mulI, ↓w_eqI, ↓w_neI, ↓w_eqBB, ↓w_neBB, ↓w_eqS, ↓w_neS, ↓w_isNon, ↓w_isNotNon, ↓w_isB, ↓w_mkT, ↓w_mkF, ↓w_addL, ↓w_addS, ↓w_addT, ↓w_addR, ↓w_mulL, ↓w_ixL, ↓w_ixT2, ↓w_ixR, ↓w_oSl, ↓w_eqLL, ↓w_neLL, ↓w_eqTT, ↓w_neTT, ↓w_eqR, ↓w_neR, ↓w_popAt0, ↓w_append, ↓w_pop, ↓w_lenL, ↓w_lenT, ↓w_lenS, ↓w_lenD, ↓w_lenR, ↓w_tupleL, ↓w_tupleT, ↓w_listL, ↓w_listT, ↓w_min, ↓w_max, ↓w_intI, ↓w_intB, ↓w_abs, ↓w_seqL, ↓w_seqT, ↓w_seqS, ↓w_kR1, ↓w_kR2, ↓w_kEnumL, ↓w_kZipT, ↓w_kZipL, ↓w_inS, vw_non, vw_bl, vw_int, vw_str, vw_lst, vw_tup, vw_dct, vw_obj, vw_ref, vwC_lst, vwC_tup, vwC_dct, vwC_obj, vwC_frz, List.map_cons, List.map_nil, List.nil_append, List.cons_append, List.append_nil, List.length_cons, List.length_nil, List.replicate_zero, List.replicate_succ, List.getElem?_cons_zero, List.getElem?_cons_succ, List.set_cons_zero, List.set_cons_succ, decide_eq_true_eq, Bool.not_eq_true, pureRs_cons, pureRs_nil, pureRs_map, pureRs_ref, Option.map_some, Option.map_none, atI_lit, ixN_lit, oSet_ref, isTy, tyName, two_eq2, one_eq1, wipeE, beq_self_eq_true, pv_d, pv_ref, Lc.plain, Lc.plains, Lc.dep, Lc.deps, Lc.eqD, Lc.eqDs, Nat.zero_le, Nat.max_self, Nat.zero_max, Nat.max_zero, ↓reduceIte, Nat.reduceAdd, Nat.reduceSub, Nat.reduceMul, Nat.reduceLT, Nat.reduceLeDiff, Nat.reduceEqDiff, Nat.zero_add, Int.reduceAdd, Int.reduceSub, Int.reduceMul, Int.reduceLT, Int.reduceLE, Int.reduceEq, Int.reduceNe, Int.reduceNeg, Int.reduceToNat, Int.reducePow, Nat.reducePow, Int.reduceAbs, SL, reduceCtorEq, true_and, and_true, false_and, and_false, ne_eq, not_false_eq_true, not_true_eq_false, Bool.not_true, Bool.not_false, Bool.true_and, Bool.and_true, Bool.false_and, Bool.and_false, Bool.false_eq_true, decide_true, decide_false, Bool.not_eq_eq_eq_not, decide_not, pureC_lst, pureC_tup, pureC_dct, pureC_obj, pureC_frz]
  rw [nm0]
  simp only [↓ws_seq, ↓ws_nil, ↓ws_lift, ↓ws_drop, ↓ws_ret, ↓ws_retN, ↓ws_brk, ↓ws_cont, ↓ws_if, ↓ws_set, ↓ws_asg, ↓ws_gset, ↓ws_gnone, ↓ws_gmore, ↓ws_gtup, ↓ws_gstar, ↓ws_gsub, ↓ws_par, ↓ws_aug, ↓ws_forI, ↓ws_nx, ↓ws_rt, ↓ws_ex, ↓ws_no, ↓w_fn, ↓w_lit, ↓w_var, ↓w_bin, ↓w_esNil, ↓w_esCons, ↓w_tup, ↓w_lst, ↓w_dct0, ↓w_blt, ↓w_bm, ↓w_eand, ↓w_eor, ↓w_enot, ↓w_if, ↓w_chain, ↓w_neg, ↓w_isi, ↓w_isi2, ↓w_sl, ↓w_pn, ↓w_ps, ↓w_revL, ↓w_get2, ↓w_get1, ↓w_inT, ↓w_ixT, ↓w_getT, ↓w_fld, ↓w_call, ↓w_comp, ↓w_yes, ↓w_bcmp, ↓w_bof, ↓w_band, ↓w_bor, ↓w_bnot, ↓w_of, ↓w_srcOf, ↓w_srcSeq, ↓w_srcRev, ↓w_ok, ↓w_ex, ↓w_no, ↓w_bind, ↓w_ite, ↓w_sub, ↓w_mod, ↓w_div, ↓w_pow, ↓w_lt, ↓w_le, ↓w_gt, ↓w_ge, ↓w_addI, ↓w_mulI, ↓w_eqI, ↓w_neI, ↓w_eqBB, ↓w_neBB, ↓w_eqS, ↓w_neS, ↓w_isNon, ↓w_isNotNon, ↓w_isB, ↓w_mkT, ↓w_mkF, ↓w_addL, ↓w_addS, ↓w_addT, ↓w_addR, ↓w_mulL, ↓w_ixL, ↓w_ixT2, ↓w_ixR, ↓w_oSl, ↓w_eqLL, ↓w_neLL, ↓w_eqTT, ↓w_neTT, ↓w_eqR, ↓w_neR, ↓w_popAt0, ↓w_append, ↓w_pop, ↓w_lenL, ↓w_lenT, ↓w_lenS, ↓w_lenD, ↓w_lenR, ↓w_tupleL, ↓w_tupleT, ↓w_listL, ↓w_listT, ↓w_min, ↓w_max, ↓w_intI, ↓w_intB, ↓w_abs, ↓w_seqL, ↓w_seqT, ↓w_seqS, ↓w_kR1, ↓w_kR2, ↓w_kEnumL, ↓w_kZipT, ↓w_kZipL, ↓w_inS, vw_non, vw_bl, vw_int, vw_str, vw_lst, vw_tup, vw_dct, vw_obj, vw_ref, vwC_lst, vwC_tup, vwC_dct, vwC_obj, vwC_frz, List.map_cons, List.map_nil, List.nil_append, List.cons_append, List.append_nil, List.length_cons, List.length_nil, List.replicate_zero, List.replicate_succ, List.getElem?_cons_zero, List.getElem?_cons_succ, List.set_cons_zero, List.set_cons_succ, decide_eq_true_eq, Bool.not_eq_true, pureRs_cons, pureRs_nil, pureRs_map, pureRs_ref, Option.map_some, Option.map_none, atI_lit, ixN_lit, oSet_ref, isTy, tyName, two_eq2, one_eq1, wipeE, beq_self_eq_true, pv_d, pv_ref, Lc.plain, Lc.plains, Lc.dep, Lc.deps, Lc.eqD, Lc.eqDs, Nat.zero_le, Nat.max_self, Nat.zero_max, Nat.max_zero, ↓reduceIte, Nat.reduceAdd, Nat.reduceSub, Nat.reduceMul, Nat.reduceLT, Nat.reduceLeDiff, Nat.reduceEqDiff, Nat.zero_add, Int.reduceAdd, Int.reduceSub, Int.reduceMul, Int.reduceLT, Int.reduceLE, Int.reduceEq, Int.reduceNe, Int.reduceNeg, Int.reduceToNat, Int.reducePow, Nat.reducePow, Int.reduceAbs, SL, reduceCtorEq, true_and, and_true, false_and, and_false, ne_eq, not_false_eq_true, not_true_eq_false, Bool.not_true, Bool.not_false, Bool.true_and, Bool.and_true, Bool.false_and, Bool.and_false, Bool.false_eq_true, decide_true, decide_false, Bool.not_eq_eq_eq_not, decide_not, pureC_lst, pureC_tup, pureC_dct, pureC_obj, pureC_frz]
  simp only [ws_for_cons, ws_gset, ws_for_nil, List.set_cons_succ, List.set_cons_zero]
  refine law_in_ok scr o2 o8 o9 s2 ga gb _ (fun o8a => ?_)
  simp only [List.set_cons_succ, List.set_cons_zero]
  refine @law_in_ok scr o2 o8a o9 a b s2 ga gb _ (fun o8b => ?_)
  exact h _ _ _ _ _ _ _ s2 (by omega) (by omega)
theorem comp_filter {tst : B} {env : Lc.Env} {M : Mem} (hl : env.length = 2) (p : Int → Bool) (hp : ∀ (o0 : Option R) (i : Int), tst [o0, some (.d (.int i))] M = .ok (p i) M) {Qs : List R → Mem → Prop} {X : Xn → Mem → Prop} (ns : List Int) (hn : ns.length ≤ 1000) (hQ : ∀ xs : List Int, xs.length ≤ ns.length → Qs ((iDs xs).map .d) M) :
    wR (compL (gSet 1) tst (eVar 1) env ((iDs ns).map .d) [] M) Qs X := by
  obtain ⟨o0, o1, rfl⟩ : ∃ a b, env = [a, b] := by
    match env, hl with
    | [a, b], _ => exact ⟨a, b, rfl⟩
  refine w_compI (fun as acc m => m = M ∧ ∃ r xs, as = (iDs r).map .d ∧ acc = (iDs xs).map .d ∧ xs.length + r.length ≤ ns.length) ⟨rfl, ns, [], rfl, rfl, by simp⟩ ?_ ?_
  · rintro acc m ⟨rfl, r, xs, h1, rfl, h2⟩
    exact hQ xs (by omega)
  · rintro a as acc m ⟨rfl, r, xs, h1, rfl, h2⟩
    cases r with
    | nil => cases h1
    | cons i r =>
      obtain ⟨rfl, rfl⟩ := List.cons.inj h1
      show wR (tst [o0, some (.d (.int i))] m) _ _
      rw [hp]
      simp only [w_ok]
      simp only [List.length_cons] at h2
      by_cases c : p i = true
      · rw [if_pos c]
        refine ⟨?_, rfl, r, xs ++ [i], rfl, by simp [iDs], by simp; omega⟩
        simp [iDs]
        unfold SL
        omega
      · rw [if_neg c]
        exact ⟨trivial, r, xs, rfl, rfl, by omega⟩
theorem draws_wp (ns : List Int) (hn : ns.length ≤ 1000) : ∃ s : Dr, s.k = 0 ∧ call true mDraws [.d (.lst (iDs ns))] [] = .ok (.ref 1) [cB s, cA 0 s] := by
  have key : wR (mDraws [.d (.lst (iDs ns))] []) (fun r m => ∃ s : Dr, s.k = 0 ∧ r = .ref 1 ∧ m = [cB s, cA 0 s]) (fun _ _ => False) := by
    unfold mDraws
    simp only [↓ws_seq, ↓ws_nil, ↓ws_lift, ↓ws_drop, ↓ws_ret, ↓ws_retN, ↓ws_brk, ↓ws_cont, ↓ws_if, ↓ws_set, ↓ws_asg, ↓ws_gset, ↓ws_gnone, ↓ws_gmore, ↓ws_gtup, ↓ws_gstar, ↓ws_gsub, ↓ws_par, ↓ws_aug, ↓ws_forI, ↓ws_nx, ↓ws_rt, ↓ws_ex, ↓ws_no, ↓w_fn, ↓w_lit, ↓w_var, ↓w_bin, ↓w_esNil, ↓w_esCons, ↓w_tup, ↓w_lst, ↓w_dct0, ↓w_blt, ↓w_bm, ↓w_eand, ↓w_eor, ↓w_enot, ↓w_if, ↓w_chain, ↓w_neg, ↓w_isi, ↓w_isi2, ↓w_sl, ↓w_pn, ↓w_ps, ↓w_revL, ↓w_get2, ↓w_get1, ↓w_inT, ↓w_ixT, ↓w_getT, ↓w_fld, ↓w_call, ↓w_comp, ↓w_yes, ↓w_bcmp, ↓w_bof, ↓w_band, ↓w_bor, ↓w_bnot, ↓w_of, ↓w_srcOf, ↓w_srcSeq, ↓w_srcRev, ↓w_ok, ↓w_ex, ↓w_no, ↓w_bind, ↓w_ite, ↓w_sub, ↓w_mod, ↓w_div, ↓w_pow, ↓w_lt, ↓w_le, ↓w_gt, ↓w_ge, ↓w_addI, ↓w_mulI, ↓w_eqI, ↓w_neI, ↓w_eqBB, ↓w_neBB, ↓w_eqS, ↓w_neS, ↓w_isNon, ↓w_isNotNon, ↓w_isB, ↓w_mkT, ↓w_mkF, ↓w_addL, ↓w_addS, ↓w_addT, ↓w_addR, ↓w_mulL, ↓w_ixL, ↓w_ixT2, ↓w_ixR, ↓w_oSl, ↓w_eqLL, ↓w_neLL, ↓w_eqTT, ↓w_neTT, ↓w_eqR, ↓w_neR, ↓w_popAt0, ↓w_append, ↓w_pop, ↓w_lenL, ↓w_lenT, ↓w_lenS, ↓w_lenD, ↓w_lenR, ↓w_tupleL, ↓w_tupleT, ↓w_listL, ↓w_listT, ↓w_min, ↓w_max, ↓w_intI, ↓w_intB, ↓w_abs, ↓w_seqL, ↓w_seqT, ↓w_seqS, ↓w_kR1, ↓w_kR2, ↓w_kEnumL, ↓w_kZipT, ↓w_kZipL, ↓w_inS, vw_non, vw_bl, vw_int, vw_str, vw_lst, vw_tup, vw_dct, vw_obj, vw_ref, vwC_lst, vwC_tup, vwC_dct, vwC_obj, vwC_frz, List.map_cons, List.map_nil, List.nil_append, List.cons_append, List.append_nil, List.length_cons, List.length_nil, List.replicate_zero, List.replicate_succ, List.getElem?_cons_zero, List.getElem?_cons_succ, List.set_cons_zero, List.set_cons_succ, decide_eq_true_eq, Bool.not_eq_true, pureRs_cons, pureRs_nil, pureRs_map, pureRs_ref, Option.map_some, Option.map_none, atI_lit, ixN_lit, oSet_ref, isTy, tyName, two_eq2, one_eq1, wipeE, beq_self_eq_true, pv_d, pv_ref, Lc.plain, Lc.plains, Lc.dep, Lc.deps, Lc.eqD, Lc.eqDs, Nat.zero_le, Nat.max_self, Nat.zero_max, Nat.max_zero, ↓reduceIte, Nat.reduceAdd, Nat.reduceSub, Nat.reduceMul, Nat.reduceLT, Nat.reduceLeDiff, Nat.reduceEqDiff, Nat.zero_add, Int.reduceAdd, Int.reduceSub, Int.reduceMul, Int.reduceLT, Int.reduceLE, Int.reduceEq, Int.reduceNe, Int.reduceNeg, Int.reduceToNat, Int.reducePow, Nat.reducePow, Int.reduceAbs, SL, reduceCtorEq, true_and, and_true, false_and, and_false, ne_eq, not_false_eq_true, not_true_eq_false, Bool.not_true, Bool.not_false, Bool.true_and, Bool.and_true, Bool.false_and, Bool.and_false, Bool.false_eq_true, decide_true, decide_false, Bool.not_eq_eq_eq_not, decide_not, pureC_lst, pureC_tup, pureC_dct, pureC_obj, pureC_frz]
    refine comp_filter rfl (fun i => decide (10 ^ 18 ≤ i)) (fun o0 i => rfl) ns hn fun xs hx => ?_
    simp only [↓ws_seq, ↓ws_nil, ↓ws_lift, ↓ws_drop, ↓ws_ret, ↓ws_retN, ↓ws_brk, ↓ws_cont, ↓ws_if, ↓ws_set, ↓ws_asg, ↓ws_gset, ↓ws_gnone, ↓ws_gmore, ↓ws_gtup, ↓ws_gstar, ↓ws_gsub, ↓ws_par, ↓ws_aug, ↓ws_forI, ↓ws_nx, ↓ws_rt, ↓ws_ex, ↓ws_no, ↓w_fn, ↓w_lit, ↓w_var, ↓w_bin, ↓w_esNil, ↓w_esCons, ↓w_tup, ↓w_lst, ↓w_dct0, ↓w_blt, ↓w_bm, ↓w_eand, ↓w_eor, ↓w_enot, ↓w_if, ↓w_chain, ↓w_neg, ↓w_isi, ↓w_isi2, ↓w_sl, ↓w_pn, ↓w_ps, ↓w_revL, ↓w_get2, ↓w_get1, ↓w_inT, ↓w_ixT, ↓w_getT, ↓w_fld, ↓w_call, ↓w_comp, ↓w_yes, ↓w_bcmp, ↓w_bof, ↓w_band, ↓w_bor, ↓w_bnot, ↓w_of, ↓w_srcOf, ↓w_srcSeq, ↓w_srcRev, ↓w_ok, ↓w_ex, ↓w_no, ↓w_bind, ↓w_ite, ↓w_sub, ↓w_mod, ↓w_div, ↓w_pow, ↓w_lt, ↓w_le, ↓w_gt, ↓w_ge, ↓w_addI, ↓w_mulI, ↓w_eqI, ↓w_neI, ↓w_eqBB, ↓w_neBB, ↓w_eqS, ↓w_neS, ↓w_isNon, ↓w_isNotNon, ↓w_isB, ↓w_mkT, ↓w_mkF, ↓w_addL, ↓w_addS, ↓w_addT, ↓w_addR, ↓w_mulL, ↓w_ixL, ↓w_ixT2, ↓w_ixR, ↓w_oSl, ↓w_eqLL, ↓w_neLL, ↓w_eqTT, ↓w_neTT, ↓w_eqR, ↓w_neR, ↓w_popAt0, ↓w_append, ↓w_pop, ↓w_lenL, ↓w_lenT, ↓w_lenS, ↓w_lenD, ↓w_lenR, ↓w_tupleL, ↓w_tupleT, ↓w_listL, ↓w_listT, ↓w_min, ↓w_max, ↓w_intI, ↓w_intB, ↓w_abs, ↓w_seqL, ↓w_seqT, ↓w_seqS, ↓w_kR1, ↓w_kR2, ↓w_kEnumL, ↓w_kZipT, ↓w_kZipL, ↓w_inS, vw_non, vw_bl, vw_int, vw_str, vw_lst, vw_tup, vw_dct, vw_obj, vw_ref, vwC_lst, vwC_tup, vwC_dct, vwC_obj, vwC_frz, List.map_cons, List.map_nil, List.nil_append, List.cons_append, List.append_nil, List.length_cons, List.length_nil, List.replicate_zero, List.replicate_succ, List.getElem?_cons_zero, List.getElem?_cons_succ, List.set_cons_zero, List.set_cons_succ, decide_eq_true_eq, Bool.not_eq_true, pureRs_cons, pureRs_nil, pureRs_map, pureRs_ref, Option.map_some, Option.map_none, atI_lit, ixN_lit, oSet_ref, isTy, tyName, two_eq2, one_eq1, wipeE, beq_self_eq_true, pv_d, pv_ref, Lc.plain, Lc.plains, Lc.dep, Lc.deps, Lc.eqD, Lc.eqDs, Nat.zero_le, Nat.max_self, Nat.zero_max, Nat.max_zero, ↓reduceIte, Nat.reduceAdd, Nat.reduceSub, Nat.reduceMul, Nat.reduceLT, Nat.reduceLeDiff, Nat.reduceEqDiff, Nat.zero_add, Int.reduceAdd, Int.reduceSub, Int.reduceMul, Int.reduceLT, Int.reduceLE, Int.reduceEq, Int.reduceNe, Int.reduceNeg, Int.reduceToNat, Int.reducePow, Nat.reducePow, Int.reduceAbs, SL, reduceCtorEq, true_and, and_true, false_and, and_false, ne_eq, not_false_eq_true, not_true_eq_false, Bool.not_true, Bool.not_false, Bool.true_and, Bool.and_true, Bool.false_and, Bool.and_false, Bool.false_eq_true, decide_true, decide_false, Bool.not_eq_eq_eq_not, decide_not, pureC_lst, pureC_tup, pureC_dct, pureC_obj, pureC_frz]
    refine comp_filter rfl (fun i => decide (i < 10 ^ 18)) (fun o0 i => rfl) ns hn fun ys hy => ?_
    simp only [↓ws_seq, ↓ws_nil, ↓ws_lift, ↓ws_drop, ↓ws_ret, ↓ws_retN, ↓ws_brk, ↓ws_cont, ↓ws_if, ↓ws_set, ↓ws_asg, ↓ws_gset, ↓ws_gnone, ↓ws_gmore, ↓ws_gtup, ↓ws_gstar, ↓ws_gsub, ↓ws_par, ↓ws_aug, ↓ws_forI, ↓ws_nx, ↓ws_rt, ↓ws_ex, ↓ws_no, ↓w_fn, ↓w_lit, ↓w_var, ↓w_bin, ↓w_esNil, ↓w_esCons, ↓w_tup, ↓w_lst, ↓w_dct0, ↓w_blt, ↓w_bm, ↓w_eand, ↓w_eor, ↓w_enot, ↓w_if, ↓w_chain, ↓w_neg, ↓w_isi, ↓w_isi2, ↓w_sl, ↓w_pn, ↓w_ps, ↓w_revL, ↓w_get2, ↓w_get1, ↓w_inT, ↓w_ixT, ↓w_getT, ↓w_fld, ↓w_call, ↓w_comp, ↓w_yes, ↓w_bcmp, ↓w_bof, ↓w_band, ↓w_bor, ↓w_bnot, ↓w_of, ↓w_srcOf, ↓w_srcSeq, ↓w_srcRev, ↓w_ok, ↓w_ex, ↓w_no, ↓w_bind, ↓w_ite, ↓w_sub, ↓w_mod, ↓w_div, ↓w_pow, ↓w_lt, ↓w_le, ↓w_gt, ↓w_ge, ↓w_addI, ↓w_mulI, ↓w_eqI, ↓w_neI, ↓w_eqBB, ↓w_neBB, ↓w_eqS, ↓w_neS, ↓w_isNon, ↓w_isNotNon, ↓w_isB, ↓w_mkT, ↓w_mkF, ↓w_addL, ↓w_addS, ↓w_addT, ↓w_addR, ↓w_mulL, ↓w_ixL, ↓w_ixT2, ↓w_ixR, ↓w_oSl, ↓w_eqLL, ↓w_neLL, ↓w_eqTT, ↓w_neTT, ↓w_eqR, ↓w_neR, ↓w_popAt0, ↓w_append, ↓w_pop, ↓w_lenL, ↓w_lenT, ↓w_lenS, ↓w_lenD, ↓w_lenR, ↓w_tupleL, ↓w_tupleT, ↓w_listL, ↓w_listT, ↓w_min, ↓w_max, ↓w_intI, ↓w_intB, ↓w_abs, ↓w_seqL, ↓w_seqT, ↓w_seqS, ↓w_kR1, ↓w_kR2, ↓w_kEnumL, ↓w_kZipT, ↓w_kZipL, ↓w_inS, vw_non, vw_bl, vw_int, vw_str, vw_lst, vw_tup, vw_dct, vw_obj, vw_ref, vwC_lst, vwC_tup, vwC_dct, vwC_obj, vwC_frz, List.map_cons, List.map_nil, List.nil_append, List.cons_append, List.append_nil, List.length_cons, List.length_nil, List.replicate_zero, List.replicate_succ, List.getElem?_cons_zero, List.getElem?_cons_succ, List.set_cons_zero, List.set_cons_succ, decide_eq_true_eq, Bool.not_eq_true, pureRs_cons, pureRs_nil, pureRs_map, pureRs_ref, Option.map_some, Option.map_none, atI_lit, ixN_lit, oSet_ref, isTy, tyName, two_eq2, one_eq1, wipeE, beq_self_eq_true, pv_d, pv_ref, Lc.plain, Lc.plains, Lc.dep, Lc.deps, Lc.eqD, Lc.eqDs, Nat.zero_le, Nat.max_self, Nat.zero_max, Nat.max_zero, ↓reduceIte, Nat.reduceAdd, Nat.reduceSub, Nat.reduceMul, Nat.reduceLT, Nat.reduceLeDiff, Nat.reduceEqDiff, Nat.zero_add, Int.reduceAdd, Int.reduceSub, Int.reduceMul, Int.reduceLT, Int.reduceLE, Int.reduceEq, Int.reduceNe, Int.reduceNeg, Int.reduceToNat, Int.reducePow, Nat.reducePow, Int.reduceAbs, SL, reduceCtorEq, true_and, and_true, false_and, and_false, ne_eq, not_false_eq_true, not_true_eq_false, Bool.not_true, Bool.not_false, Bool.true_and, Bool.and_true, Bool.false_and, Bool.and_false, Bool.false_eq_true, decide_true, decide_false, Bool.not_eq_eq_eq_not, decide_not, pureC_lst, pureC_tup, pureC_dct, pureC_obj, pureC_frz]
    exact ⟨⟨xs, 0, ys, 0⟩, rfl, rfl⟩
  obtain ⟨r, m, e, s, h0, rfl, rfl⟩ := ok_of_wR key
  refine ⟨s, h0, ?_⟩
  unfold Lc.call
  have e2 : mDraws ([D.lst (iDs ns)].map R.d) [] = .ok (.ref 1) [cB s, cA 0 s] := e
  show (match mDraws [.d (.lst (iDs ns))] [] with
    | .ok r M1 => (Ro.ok (backR [] 0 r) (wb [] [] M1) : Ro R)
    | .ex x M1 => _
    | .no => _) = _
  rw [e]
  have b1 : backC [] 0 (cB s) = cB s := by
    show Cell.lst (((iDs s.xs).map R.d).map (backR [] 0)) = Cell.lst ((iDs s.xs).map R.d)
    rw [List.map_map]
    rfl
  show Ro.ok (R.ref 1) ([] ++ [backC [] 0 (cB s), backC [] 0 (cA 0 s)]) = _
  rw [b1]
  rfl
theorem law_ok (ns : List Int) (hn : ns.length ≤ 63) : wR (m_law [.d (.lst (iDs ns))] []) (fun r _ => r = .d (.bl true)) (fun _ _ => False) := by
  rw [law_eq, draws_eq]
  obtain ⟨s, h0, e⟩ := draws_wp ns (by omega)
  simp only [↓ws_seq, ↓ws_nil, ↓ws_lift, ↓ws_drop, ↓ws_ret, ↓ws_retN, ↓ws_brk, ↓ws_cont, ↓ws_if, ↓ws_set, ↓ws_asg, ↓ws_gset, ↓ws_gnone, ↓ws_gmore, ↓ws_gtup, ↓ws_gstar, ↓ws_gsub, ↓ws_par, ↓ws_aug, ↓ws_forI, ↓ws_nx, ↓ws_rt, ↓ws_ex, ↓ws_no, ↓w_fn, ↓w_lit, ↓w_var, ↓w_bin, ↓w_esNil, ↓w_esCons, ↓w_tup, ↓w_lst, ↓w_dct0, ↓w_blt, ↓w_bm, ↓w_eand, ↓w_eor, ↓w_enot, ↓w_if, ↓w_chain, ↓w_neg, ↓w_isi, ↓w_isi2, ↓w_sl, ↓w_pn, ↓w_ps, ↓w_revL, ↓w_get2, ↓w_get1, ↓w_inT, ↓w_ixT, ↓w_getT, ↓w_fld, ↓w_call, ↓w_comp, ↓w_yes, ↓w_bcmp, ↓w_bof, ↓w_band, ↓w_bor, ↓w_bnot, ↓w_of, ↓w_srcOf, ↓w_srcSeq, ↓w_srcRev, ↓w_ok, ↓w_ex, ↓w_no, ↓w_bind, ↓w_ite, ↓w_sub, ↓w_mod, ↓w_div, ↓w_pow, ↓w_lt, ↓w_le, ↓w_gt, ↓w_ge, ↓w_addI, ↓w_mulI, ↓w_eqI, ↓w_neI, ↓w_eqBB, ↓w_neBB, ↓w_eqS, ↓w_neS, ↓w_isNon, ↓w_isNotNon, ↓w_isB, ↓w_mkT, ↓w_mkF, ↓w_addL, ↓w_addS, ↓w_addT, ↓w_addR, ↓w_mulL, ↓w_ixL, ↓w_ixT2, ↓w_ixR, ↓w_oSl, ↓w_eqLL, ↓w_neLL, ↓w_eqTT, ↓w_neTT, ↓w_eqR, ↓w_neR, ↓w_popAt0, ↓w_append, ↓w_pop, ↓w_lenL, ↓w_lenT, ↓w_lenS, ↓w_lenD, ↓w_lenR, ↓w_tupleL, ↓w_tupleT, ↓w_listL, ↓w_listT, ↓w_min, ↓w_max, ↓w_intI, ↓w_intB, ↓w_abs, ↓w_seqL, ↓w_seqT, ↓w_seqS, ↓w_kR1, ↓w_kR2, ↓w_kEnumL, ↓w_kZipT, ↓w_kZipL, ↓w_inS, vw_non, vw_bl, vw_int, vw_str, vw_lst, vw_tup, vw_dct, vw_obj, vw_ref, vwC_lst, vwC_tup, vwC_dct, vwC_obj, vwC_frz, List.map_cons, List.map_nil, List.nil_append, List.cons_append, List.append_nil, List.length_cons, List.length_nil, List.replicate_zero, List.replicate_succ, List.getElem?_cons_zero, List.getElem?_cons_succ, List.set_cons_zero, List.set_cons_succ, decide_eq_true_eq, Bool.not_eq_true, pureRs_cons, pureRs_nil, pureRs_map, pureRs_ref, Option.map_some, Option.map_none, atI_lit, ixN_lit, oSet_ref, isTy, tyName, two_eq2, one_eq1, wipeE, beq_self_eq_true, pv_d, pv_ref, Lc.plain, Lc.plains, Lc.dep, Lc.deps, Lc.eqD, Lc.eqDs, Nat.zero_le, Nat.max_self, Nat.zero_max, Nat.max_zero, ↓reduceIte, Nat.reduceAdd, Nat.reduceSub, Nat.reduceMul, Nat.reduceLT, Nat.reduceLeDiff, Nat.reduceEqDiff, Nat.zero_add, Int.reduceAdd, Int.reduceSub, Int.reduceMul, Int.reduceLT, Int.reduceLE, Int.reduceEq, Int.reduceNe, Int.reduceNeg, Int.reduceToNat, Int.reducePow, Nat.reducePow, Int.reduceAbs, SL, reduceCtorEq, true_and, and_true, false_and, and_false, ne_eq, not_false_eq_true, not_true_eq_false, Bool.not_true, Bool.not_false, Bool.true_and, Bool.and_true, Bool.false_and, Bool.and_false, Bool.false_eq_true, decide_true, decide_false, Bool.not_eq_eq_eq_not, decide_not, pureC_lst, pureC_tup, pureC_dct, pureC_obj, pureC_frz]
  rw [e]
  simp only [↓ws_seq, ↓ws_nil, ↓ws_lift, ↓ws_drop, ↓ws_ret, ↓ws_retN, ↓ws_brk, ↓ws_cont, ↓ws_if, ↓ws_set, ↓ws_asg, ↓ws_gset, ↓ws_gnone, ↓ws_gmore, ↓ws_gtup, ↓ws_gstar, ↓ws_gsub, ↓ws_par, ↓ws_aug, ↓ws_forI, ↓ws_nx, ↓ws_rt, ↓ws_ex, ↓ws_no, ↓w_fn, ↓w_lit, ↓w_var, ↓w_bin, ↓w_esNil, ↓w_esCons, ↓w_tup, ↓w_lst, ↓w_dct0, ↓w_blt, ↓w_bm, ↓w_eand, ↓w_eor, ↓w_enot, ↓w_if, ↓w_chain, ↓w_neg, ↓w_isi, ↓w_isi2, ↓w_sl, ↓w_pn, ↓w_ps, ↓w_revL, ↓w_get2, ↓w_get1, ↓w_inT, ↓w_ixT, ↓w_getT, ↓w_fld, ↓w_call, ↓w_comp, ↓w_yes, ↓w_bcmp, ↓w_bof, ↓w_band, ↓w_bor, ↓w_bnot, ↓w_of, ↓w_srcOf, ↓w_srcSeq, ↓w_srcRev, ↓w_ok, ↓w_ex, ↓w_no, ↓w_bind, ↓w_ite, ↓w_sub, ↓w_mod, ↓w_div, ↓w_pow, ↓w_lt, ↓w_le, ↓w_gt, ↓w_ge, ↓w_addI, ↓w_mulI, ↓w_eqI, ↓w_neI, ↓w_eqBB, ↓w_neBB, ↓w_eqS, ↓w_neS, ↓w_isNon, ↓w_isNotNon, ↓w_isB, ↓w_mkT, ↓w_mkF, ↓w_addL, ↓w_addS, ↓w_addT, ↓w_addR, ↓w_mulL, ↓w_ixL, ↓w_ixT2, ↓w_ixR, ↓w_oSl, ↓w_eqLL, ↓w_neLL, ↓w_eqTT, ↓w_neTT, ↓w_eqR, ↓w_neR, ↓w_popAt0, ↓w_append, ↓w_pop, ↓w_lenL, ↓w_lenT, ↓w_lenS, ↓w_lenD, ↓w_lenR, ↓w_tupleL, ↓w_tupleT, ↓w_listL, ↓w_listT, ↓w_min, ↓w_max, ↓w_intI, ↓w_intB, ↓w_abs, ↓w_seqL, ↓w_seqT, ↓w_seqS, ↓w_kR1, ↓w_kR2, ↓w_kEnumL, ↓w_kZipT, ↓w_kZipL, ↓w_inS, vw_non, vw_bl, vw_int, vw_str, vw_lst, vw_tup, vw_dct, vw_obj, vw_ref, vwC_lst, vwC_tup, vwC_dct, vwC_obj, vwC_frz, List.map_cons, List.map_nil, List.nil_append, List.cons_append, List.append_nil, List.length_cons, List.length_nil, List.replicate_zero, List.replicate_succ, List.getElem?_cons_zero, List.getElem?_cons_succ, List.set_cons_zero, List.set_cons_succ, decide_eq_true_eq, Bool.not_eq_true, pureRs_cons, pureRs_nil, pureRs_map, pureRs_ref, Option.map_some, Option.map_none, atI_lit, ixN_lit, oSet_ref, isTy, tyName, two_eq2, one_eq1, wipeE, beq_self_eq_true, pv_d, pv_ref, Lc.plain, Lc.plains, Lc.dep, Lc.deps, Lc.eqD, Lc.eqDs, Nat.zero_le, Nat.max_self, Nat.zero_max, Nat.max_zero, ↓reduceIte, Nat.reduceAdd, Nat.reduceSub, Nat.reduceMul, Nat.reduceLT, Nat.reduceLeDiff, Nat.reduceEqDiff, Nat.zero_add, Int.reduceAdd, Int.reduceSub, Int.reduceMul, Int.reduceLT, Int.reduceLE, Int.reduceEq, Int.reduceNe, Int.reduceNeg, Int.reduceToNat, Int.reducePow, Nat.reducePow, Int.reduceAbs, SL, reduceCtorEq, true_and, and_true, false_and, and_false, ne_eq, not_false_eq_true, not_true_eq_false, Bool.not_true, Bool.not_false, Bool.true_and, Bool.and_true, Bool.false_and, Bool.and_false, Bool.false_eq_true, decide_true, decide_false, Bool.not_eq_eq_eq_not, decide_not, pureC_lst, pureC_tup, pureC_dct, pureC_obj, pureC_frz]
  refine ⟨by decide, ?_⟩
  refine ws_for (fun as env M => ∃ o2 o3 o4 o5 o6 o7 o8 o9 s, env = [some (.d (.lst (iDs ns))), some (.ref 1), o2, o3, o4, o5, o6, o7, o8, o9] ∧ M = [cB s, cA 0 s] ∧ 0 ≤ s.k ∧ s.k + 40 * as.length ≤ 1000 ∧ ∀ r ∈ as, ∃ d, r = .d d) ?_ ?_ ?_
  · exact ⟨_, _, _, _, _, _, _, _, s, rfl, rfl, by omega, by rw [h0]; decide, fun r hr => by
      obtain ⟨k, _, rfl⟩ := List.mem_map.mp hr
      exact ⟨_, rfl⟩⟩
  · rintro env M ⟨o2, o3, o4, o5, o6, o7, o8, o9, s, rfl, rfl, _, _⟩
    dsimp only
    have z := call_pure (keep := false) (ds := []) (M := [cB s, cA 0 s]) (show m__law_caught [] [] = .ok (.d (.bl true)) [] from rfl)
    show wR (Lc.call false m__law_caught [] [cB s, cA 0 s]) _ _
    rw [show ([] : List R) = ([] : List D).map .d from rfl, z]
    rfl
  · rintro a as env M ⟨o2, o3, o4, o5, o6, o7, o8, o9, s, rfl, rfl, k0, k1, hd⟩
    rw [ws_gset]
    simp only [List.length_cons] at k1
    show wS (law_turn [some (.d (.lst (iDs ns))), some (.ref 1), some a, o3, o4, o5, o6, o7, o8, o9] [cB s, cA 0 s]) _
    refine law_turn_ok _ _ o3 o4 o5 o6 o7 o8 o9 s k0 (by omega) _ fun p3 p4 p5 p6 p7 p8 p9 s' h1 h2 => ?_
    exact ⟨_, p3, p4, p5, p6, p7, p8, p9, s', rfl, rfl, by omega, by omega, fun r hr => hd r (List.mem_cons_of_mem _ hr)⟩
end G90
set_option Elab.async false
set_option linter.all false
set_option maxRecDepth 100000
set_option maxHeartbeats 0
namespace G90
open PySem PySem.Spec PyProof.Rows L2 LcX Lc
theorem facts {w : World} {K : PySem.W.Frag} {h : Heap} {mg : Str → Option Value} {f : Addr} (X : K.In h) (G : h.Ns mainGlobals mg) (hfa : mg ("law" : Str) = some (.ref f)) (c : He.SaysX fa fn ts [] exB w h K) :
    ∃ (fd : FuncData), (∀ (s : Shared) (v : Value), BindsTo s fd ⟨[v], []⟩ [("_law_script", v)]) ∧ noLst K = true ∧ ∀ base : Heap, K.In base → base.Ns mainGlobals mg → FnOk (PySem.Challenge.rw_latecopy_k90_error_classes).prog w K mg base (CXe (PySem.Challenge.rw_latecopy_k90_error_classes).prog) 7 f fd ["_law_script"] (spF (tx K) 1 m_law) := by
  have B : Bun w K mg := ⟨h, X, G, c⟩
  obtain ⟨fd, F⟩ := df_law B
  have e := hfa.symm.trans (g_law B)
  cases e
  have b := FunD.bindsA (ps := ["_law_script"]) F fun _ _ _ _ _ _ us hl => match us, hl with | [_], _ => rfl
  exact ⟨fd, fun s v => b s [v] rfl, nl_K B, fun base _ _ => fnOk_cxe (ok_law B F)⟩
end G90
open PySem PySem.W PySem.Calls PyProof.Rows
theorem PySem.Challenge.cw_latecopy_k90_error_classes_holds : PySem.Challenge.rw_latecopy_k90_error_classes.Holds := by
  w_on; o_law
  refine HandSHeadRun.head_any (r := OpenLaw.row PySem.Challenge.rw_latecopy_k90_error_classes) (q := view (OpenLaw.row PySem.Challenge.rw_latecopy_k90_error_classes).prog [34]) (H := G90.hk) (ob := G90.ob) (M := 8000) (loose := G90.loose) (d := HandSHeadRun.topDef (OpenLaw.row PySem.Challenge.rw_latecopy_k90_error_classes).prog 34) (kwd := []) G90.ob_eq
    (by kernel_rfl) (fun s => by kernel_rfl) G90.run (by kernel_rfl) (by kernel_rfl) (by kernel_rfl) (by rfl) (by first | assumption | decide +kernel) (by decide +kernel) ⟨rfl, rfl, rfl, rfl, rfl, by decide +kernel⟩ ?hw ?hc
  case hw => w_witness2
  case hc =>
    refine L2.walk_ofE (l := PySem.Challenge.rw_latecopy_k90_error_classes) (n := 63) (k := 7) (x := "_law_script") (CX := Lc.CXe (PySem.Challenge.rw_latecopy_k90_error_classes).prog) rfl (by decide) (by kernel_rfl) ⟨rfl, by decide, by decide⟩ ?F (fun _ _ _ _ z => Lc.cxe_no z)
    intro w mg fa h Y G hmg0
    obtain ⟨K, KX, c⟩ := Y
    have hmg : mg ("law" : PySem.Str) = some (.ref fa) := by
      have e : (HandSHeadRun.topDef (OpenLaw.row PySem.Challenge.rw_latecopy_k90_error_classes).prog 34).name = ("law" : PySem.Str) := by kernel_rfl
      rw [← e]
      exact hmg0
    obtain ⟨fd, hb, hl, hF⟩ := G90.facts (w := w) KX G hmg c
    exact ⟨K, fd, Lc.spF (G90.tx K) 1 G90.m_law, KX, hb, fun H a ns hn _ hS => Lc.spF_law (t := G90.tx K) hl hS (G90.law_ok ns hn), hF⟩
