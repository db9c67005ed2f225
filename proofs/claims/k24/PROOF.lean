import PyProof.Rows.All
import Wide.All
import OpenK.AllK
import Wide.FinOn
import HandS.ForMost
import HandS.ForExc
import HandS.Wide
import HandS.TupAny
import HandS.IsInst
import PyProof.StrOps2
import KE.KStateDown
import HandS.More
import HandS.Defaults
import HandS.EndBits
import HandS.Head0
import HandS.Head1
import HandS.Head2
import HandS.HeadHook1
import HandS.HeadHook2
import HandS.HeadHook3
import PySem.Challenge.RW_ringheld_k24_place_of_a_key
set_option Elab.async false
set_option linter.all false
set_option maxRecDepth 100000
set_option maxHeartbeats 4000000
/-! Q: own values, own heap, own monad; the relation to HandS. -/
namespace Z
open PySem L2

/-! ### values, objects, results -/
inductive W where
  | non | bl (b : Bool) | int (i : Int) | str (x : Str) | tup (xs : List W) | frz (xs : List W) | ref (n : Nat)
inductive Ob where
  | lst (t : Nat) (xs : List W)
  | dct (t : Nat) (k : Bool) (kvs : List (W × W))
  | ins (c : Str) (fs : List (Str × W))
abbrev Hq := List Ob
inductive Res (α : Type) where
  | ok (a : α) (h : Hq) | exc (c : Str) (h : Hq) | stuck
def Res.bind {α β : Type} (r : Res α) (f : α → Hq → Res β) : Res β :=
  match r with
  | .ok a h => f a h
  | .exc c h => .exc c h
  | .stuck => .stuck
abbrev Ev := List (Option W)
inductive Fl where
  | nx | bk | ct | rt (w : W)
inductive RS where
  | ok (f : Fl) (ρ : Ev) (h : Hq) | exc (c : Str) (ρ : Ev) (h : Hq) | stuck
abbrev ME := Ev → Hq → Res W
abbrev MA := Ev → Hq → Res (List W)
abbrev MT := Ev → Hq → Res Bool
abbrev MS := Ev → Hq → RS
abbrev MF := List W → Hq → Res W

/-! ### the relation -/
/-- a list that nobody changes: the law's script -/
def SqF (K : PySem.W.Frag) (H : Hp) (a : Addr) (xs : List V) : Prop :=
  (∃ o, H a = some (.frz o (.lst xs))) ∨
    ∃ (o : Obj) (its : Array Value) (n : Nat), K.lookup a = some o ∧ o.cls = .type "list" ∧ o.dict = none ∧ o.data = .seq its n ∧ its.size ≤ sizeLine ∧ Vals xs its.toList
theorem SqF.sqL {K : PySem.W.Frag} {H : Hp} {a : Addr} {xs : List V} (h : SqF K H a xs) : SqL K H a xs := by
  rcases h with h | h
  · exact .inl (.inr h)
  · exact .inr h
section
variable (K : PySem.W.Frag) (H : Hp) (R : List Addr)
mutual
inductive RV : W → V → Prop
  | non : RV .non .non
  | bl (b : Bool) : RV (.bl b) (.bl b)
  | int (i : Int) : RV (.int i) (.int i)
  | str (x : Str) : RV (.str x) (.str x)
  | tup {xs : List W} {a : Addr} {vs : List V} : SqT K H a vs → RVs xs vs → RV (.tup xs) (.ref a)
  | frz {xs : List W} {a : Addr} {vs : List V} : SqF K H a vs → RVs xs vs → RV (.frz xs) (.ref a)
  | ref {n : Nat} {a : Addr} : R[n]? = some a → RV (.ref n) (.ref a)
inductive RVs : List W → List V → Prop
  | nil : RVs [] []
  | cons {x : W} {v : V} {xs : List W} {vs : List V} : RV x v → RVs xs vs → RVs (x :: xs) (v :: vs)
end
end

def Ext (K : PySem.W.Frag) (R : List Addr) (H : Hp) (R' : List Addr) (H' : Hp) : Prop :=
  (∃ t, R' = R ++ t ∧ ∀ a ∈ t, H a = none) ∧ (∀ a xs, SqT K H a xs → SqT K H' a xs) ∧ (∀ a xs, SqF K H a xs → SqF K H' a xs) ∧ ∀ a o, H a = some o → a ∉ R → H' a = some o

theorem Ext.refl {K R H} : Ext K R H R H := ⟨⟨[], by simp, by simp⟩, fun _ _ h => h, fun _ _ h => h, fun _ _ h _ => h⟩
theorem Ext.trans {K R H R1 H1 R2 H2} (a : Ext K R H R1 H1) (b : Ext K R1 H1 R2 H2) (nd : R2.Nodup) : Ext K R H R2 H2 := by
  obtain ⟨⟨t1, e1, f1⟩, s1, g1, k1⟩ := a
  obtain ⟨⟨t2, e2, f2⟩, s2, g2, k2⟩ := b
  have nin : ∀ c, c ∈ t2 → c ∉ R1 := fun c hc hr => by
    rw [e2, List.nodup_append] at nd
    exact nd.2.2 c hr c hc rfl
  refine ⟨⟨t1 ++ t2, by rw [e2, e1, List.append_assoc], fun c hc => ?_⟩, fun c xs h => s2 c xs (s1 c xs h), fun c xs h => g2 c xs (g1 c xs h), fun c o h hr => ?_⟩
  · rcases List.mem_append.mp hc with hc | hc
    · exact f1 c hc
    · cases q : H c with
      | none => rfl
      | some o =>
        have : c ∉ R := fun z => nin c hc (by rw [e1]; exact List.mem_append_left _ z)
        have := k1 c o q this
        rw [f2 c hc] at this; cases this
  · have h1 := k1 c o h hr
    refine k2 c o h1 fun z => ?_
    rw [e1] at z
    rcases List.mem_append.mp z with z | z
    · exact hr z
    · rw [f1 c z] at h; cases h
theorem Ext.at_ {K R H R' H'} {n : Nat} {a : Addr} (e : Ext K R H R' H') (h : R[n]? = some a) : R'[n]? = some a := by
  obtain ⟨⟨t, rfl, _⟩, _⟩ := e
  rw [List.getElem?_append_left (List.getElem?_eq_some_iff.mp h).1]; exact h

mutual
theorem RV.ext {K R H R' H'} (e : Ext K R H R' H') : ∀ (w : W) (v : V), RV K H R w v → RV K H' R' w v
  | .non, _, h => by cases h; exact .non
  | .bl _, _, h => by cases h; exact .bl _
  | .int _, _, h => by cases h; exact .int _
  | .str _, _, h => by cases h; exact .str _
  | .tup xs, _, h => by
    cases h with
    | tup s r => exact .tup (e.2.1 _ _ s) (RVs.ext e xs _ r)
  | .frz xs, _, h => by
    cases h with
    | frz s r => exact .frz (e.2.2.1 _ _ s) (RVs.ext e xs _ r)
  | .ref _, _, h => by
    cases h with
    | ref q => exact .ref (e.at_ q)
theorem RVs.ext {K R H R' H'} (e : Ext K R H R' H') : ∀ (ws : List W) (vs : List V), RVs K H R ws vs → RVs K H' R' ws vs
  | [], _, h => by cases h; exact .nil
  | w :: ws, _, h => by
    cases h with
    | cons a b => exact .cons (RV.ext e w _ a) (RVs.ext e ws _ b)
end
theorem RVs.length {K H R} : ∀ {ws : List W} {vs : List V}, RVs K H R ws vs → ws.length = vs.length
  | [], _, h => by cases h; rfl
  | w :: ws, _, h => by
    cases h with
    | cons a b => simp [RVs.length b]
theorem RVs.get {K H R} : ∀ {ws : List W} {vs : List V} {i : Nat} {w : W}, RVs K H R ws vs → ws[i]? = some w → ∃ v, vs[i]? = some v ∧ RV K H R w v
  | [], _, _, _, _, e => by simp at e
  | w :: ws, _, i, x, h, e => by
    cases h with
    | cons a b =>
      cases i with
      | zero => simp at e; subst e; exact ⟨_, rfl, a⟩
      | succ i => exact RVs.get (i := i) b e
theorem RVs.getV {K H R} {ws : List W} {vs : List V} {i : Nat} {v : V} (h : RVs K H R ws vs) (e : vs[i]? = some v) : ∃ w, ws[i]? = some w ∧ RV K H R w v := by
  have hi : i < ws.length := by rw [h.length]; exact (List.getElem?_eq_some_iff.mp e).1
  obtain ⟨u, hu, r⟩ := h.get (w := ws[i]) (List.getElem?_eq_getElem hi)
  rw [e] at hu; cases hu
  exact ⟨ws[i], List.getElem?_eq_getElem hi, r⟩
theorem RVs.append {K H R} : ∀ {ws ws' : List W} {vs vs' : List V}, RVs K H R ws vs → RVs K H R ws' vs' → RVs K H R (ws ++ ws') (vs ++ vs')
  | [], _, _, _, h, h' => by cases h; exact h'
  | w :: ws, _, _, _, h, h' => by
    cases h with
    | cons a b => exact .cons a (RVs.append b h')
theorem RVs.take {K H R} : ∀ {ws : List W} {vs : List V} (n : Nat), RVs K H R ws vs → RVs K H R (ws.take n) (vs.take n)
  | _, _, 0, _ => by rw [List.take_zero, List.take_zero]; exact .nil
  | [], _, n + 1, h => by cases h; exact .nil
  | w :: ws, _, n + 1, h => by
    cases h with
    | cons a b => simpa using .cons a (RVs.take n b)
theorem RVs.drop {K H R} : ∀ {ws : List W} {vs : List V} (n : Nat), RVs K H R ws vs → RVs K H R (ws.drop n) (vs.drop n)
  | _, _, 0, h => by simpa using h
  | [], _, n + 1, h => by cases h; exact .nil
  | w :: ws, _, n + 1, h => by
    cases h with
    | cons a b => simpa using RVs.drop n b
theorem RVs.set {K H R} {x : W} {v : V} (hx : RV K H R x v) : ∀ {ws : List W} {vs : List V} (n : Nat), RVs K H R ws vs → RVs K H R (ws.set n x) (vs.set n v)
  | [], _, n, h => by cases h; exact .nil
  | w :: ws, _, 0, h => by
    cases h with
    | cons a b => simpa using .cons hx b
  | w :: ws, _, n + 1, h => by
    cases h with
    | cons a b => simpa using .cons a (RVs.set hx n b)
theorem RVs.reverse {K H R} : ∀ {ws : List W} {vs : List V}, RVs K H R ws vs → RVs K H R ws.reverse vs.reverse
  | [], _, h => by cases h; exact .nil
  | w :: ws, _, h => by
    cases h with
    | cons a b =>
      rw [List.reverse_cons, List.reverse_cons]
      exact RVs.append (RVs.reverse b) (.cons a .nil)

/-- a key of a dict -/
inductive RK : W → Key → Prop
  | int (i : Int) : RK (.int i) (.inl i)
  | str (x : Str) : RK (.str x) (.inr x)
inductive RKs : List W → List Key → Prop
  | nil : RKs [] []
  | cons {x k xs ks} : RK x k → RKs xs ks → RKs (x :: xs) (k :: ks)
/-- what must be known of an own class whose instances are told -/
def isiTs : List String := ["int", "bool", "str", "list", "tuple", "dict"]
structure CI (K : PySem.W.Frag) (C : Addr) : Prop where
  cl : Cls K C
  ha : PySem.W.findIn K (.ref C) "__class__" = some (some (.builtin "object.__class__"))
  hn : PySem.W.specialIn K (.builtin "object.__class__") "__get__" = some (some (.builtin "getset_descriptor.__get__"))
  htk : PySem.W.takesIn K (.builtin "object.__class__") = some true
  hm : PySem.W.mroIn K C (.type "object") = some true
  no : ∀ T ∈ isiTs, PySem.W.kitOne K (.ref C) (.type T) = some false
section
variable (K : PySem.W.Frag) (H : Hp) (R : List Addr)
inductive RD : List (W × W) → List (Key × V) → Prop
  | nil : RD [] []
  | cons {k x kvs l v vs} : RK k l → RV K H R x v → RD kvs vs → RD ((k, x) :: kvs) ((l, v) :: vs)
inductive RT : List (W × W) → List (List Key × V) → Prop
  | nil : RT [] []
  | cons {ks x kvs l v vs} : RKs ks l → RV K H R x v → RT kvs vs → RT ((.tup ks, x) :: kvs) ((l, v) :: vs)
inductive RF : List (Str × W) → List (Str × V) → Prop
  | nil : RF [] []
  | cons {f x fs v vs} : RV K H R x v → RF fs vs → RF ((f, x) :: fs) ((f, v) :: vs)
inductive RO (cm : Str → Addr) : Ob → Addr → Prop
  | lst {t xs a vs} : H a = some (.lst vs) → RVs K H R xs vs → RO cm (.lst t xs) a
  | dK {t kvs a vs} : H a = some (.dK vs) → RD K H R kvs vs → RO cm (.dct t false kvs) a
  | dT {t kvs a vs} : H a = some (.dT vs) → RT K H R kvs vs → RO cm (.dct t true kvs) a
  | ins {c fs a dx vs} : H a = some (.ins (cm c) dx vs) → RF K H R fs vs → CI K (cm c) → RO cm (.ins c fs) a
end
theorem RD.ext {K R H R' H'} (e : Ext K R H R' H') : ∀ {l r}, RD K H R l r → RD K H' R' l r := by
  intro l r h
  induction h with
  | nil => exact .nil
  | cons a b _ ih => exact .cons a (RV.ext e _ _ b) ih
theorem RT.ext {K R H R' H'} (e : Ext K R H R' H') : ∀ {l r}, RT K H R l r → RT K H' R' l r := by
  intro l r h
  induction h with
  | nil => exact .nil
  | cons a b _ ih => exact .cons a (RV.ext e _ _ b) ih
theorem RF.ext {K R H R' H'} (e : Ext K R H R' H') : ∀ {l r}, RF K H R l r → RF K H' R' l r := by
  intro l r h
  induction h with
  | nil => exact .nil
  | cons b _ ih => exact .cons (RV.ext e _ _ b) ih

structure RH (K : PySem.W.Frag) (cm : Str → Addr) (h : Hq) (R : List Addr) (H : Hp) : Prop where
  len : h.length = R.length
  nd : R.Nodup
  ob : ∀ (n : Nat) (o : Ob), h[n]? = some o → ∃ a, R[n]? = some a ∧ RO K H R cm o a
def REnv (K : PySem.W.Frag) (H : Hp) (R : List Addr) (ρ : Ev) (σ : St) : Prop :=
  ρ.length = σ.length ∧ ∀ (i : Nat) (w : W), ρ[i]? = some (some w) → ∃ v, σ[i]? = some (some v) ∧ RV K H R w v
theorem REnv.ext {K R H R' H' ρ σ} (e : Ext K R H R' H') (h : REnv K H R ρ σ) : REnv K H' R' ρ σ :=
  ⟨h.1, fun i w q => let ⟨v, a, b⟩ := h.2 i w q; ⟨v, a, RV.ext e _ _ b⟩⟩
theorem REnv.set {K R H ρ σ w v} (h : REnv K H R ρ σ) (i : Nat) (r : RV K H R w v) : REnv K H R (ρ.set i (some w)) (σ.set i (some v)) := by
  refine ⟨by simp [h.1], fun j x q => ?_⟩
  by_cases e : i = j
  · subst e
    have hl : i < ρ.length := by
      have := (List.getElem?_eq_some_iff.mp q).1; simpa using this
    rw [List.getElem?_set_self hl] at q
    cases q
    exact ⟨v, List.getElem?_set_self (by rw [← h.1]; exact hl), r⟩
  · rw [List.getElem?_set_ne e] at q
    obtain ⟨v', a, b⟩ := h.2 j x q
    exact ⟨v', by rw [List.getElem?_set_ne e]; exact a, b⟩
def wipeW (ρ : Ev) : List Nat → Ev
  | [] => ρ
  | v :: vs => (wipeW ρ vs).set v none
theorem REnv.unset {K R H ρ σ} (h : REnv K H R ρ σ) (i : Nat) : REnv K H R (ρ.set i none) (σ.set i none) := by
  refine ⟨by simp [h.1], fun j x q => ?_⟩
  by_cases e : i = j
  · subst e
    have hl : i < ρ.length := by
      have := (List.getElem?_eq_some_iff.mp q).1; simpa using this
    rw [List.getElem?_set_self hl] at q
    cases q
  · rw [List.getElem?_set_ne e] at q
    obtain ⟨v', a, b⟩ := h.2 j x q
    exact ⟨v', by rw [List.getElem?_set_ne e]; exact a, b⟩
theorem REnv.wipe {K R H ρ σ} (h : REnv K H R ρ σ) : ∀ vs, REnv K H R (wipeW ρ vs) (wipe σ vs)
  | [] => h
  | v :: vs => (REnv.wipe h vs).unset v

/-! ### changing the heap -/
/-- a new object that is not told -/
theorem sqT_new {K : PySem.W.Frag} {H : Hp} {p a : Addr} {o : HO} {xs : List V} (hp : H p = none) (h : SqT K H a xs) : SqT K (upd H p o) a xs := by
  rcases h with (h | ⟨ob, h⟩) | h
  · exact .inl (.inl (by rw [upd_ne (ne_of_none h hp)]; exact h))
  · exact .inl (.inr ⟨ob, by rw [upd_ne (ne_of_none h hp)]; exact h⟩)
  · exact .inr h
theorem sqL_new {K : PySem.W.Frag} {H : Hp} {p a : Addr} {o : HO} {xs : List V} (hp : H p = none) (h : SqL K H a xs) : SqL K (upd H p o) a xs := by
  rcases h with (h | ⟨ob, h⟩) | h
  · exact .inl (.inl (by rw [upd_ne (ne_of_none h hp)]; exact h))
  · exact .inl (.inr ⟨ob, by rw [upd_ne (ne_of_none h hp)]; exact h⟩)
  · exact .inr h
theorem sqF_new {K : PySem.W.Frag} {H : Hp} {p a : Addr} {o : HO} {xs : List V} (hp : H p = none) (h : SqF K H a xs) : SqF K (upd H p o) a xs := by
  rcases h with ⟨ob, h⟩ | h
  · exact .inl ⟨ob, by rw [upd_ne (ne_of_none h hp)]; exact h⟩
  · exact .inr h
theorem Ext.new {K : PySem.W.Frag} {R : List Addr} {H : Hp} {p : Addr} {o : HO} (hp : H p = none) : Ext K R H R (upd H p o) :=
  ⟨⟨[], by simp, by simp⟩, fun _ _ h => sqT_new hp h, fun _ _ h => sqF_new hp h, fun a u h _ => by rw [upd_ne (ne_of_none h hp)]; exact h⟩
theorem Ext.newR {K : PySem.W.Frag} {R : List Addr} {H : Hp} {p : Addr} {o : HO} (hp : H p = none) : Ext K R H (R ++ [p]) (upd H p o) :=
  ⟨⟨[p], by simp, by simpa using hp⟩, fun _ _ h => sqT_new hp h, fun _ _ h => sqF_new hp h, fun a u h _ => by rw [upd_ne (ne_of_none h hp)]; exact h⟩
/-- an object stays told -/
theorem RO.ext {K R H R' H' cm o a} (e : Ext K R H R' H') (k : ∀ u, H a = some u → H' a = some u) (h : RO K H R cm o a) : RO K H' R' cm o a := by
  cases h with
  | lst q r => exact .lst (k _ q) (RVs.ext e _ _ r)
  | dK q r => exact .dK (k _ q) (RD.ext e r)
  | dT q r => exact .dT (k _ q) (RT.ext e r)
  | ins q r c => exact .ins (k _ q) (RF.ext e r) c
theorem RH.mem {K cm h R H} {n : Nat} {a : Addr} (x : RH K cm h R H) (e : R[n]? = some a) : ∃ o, h[n]? = some o ∧ RO K H R cm o a := by
  have hn : n < h.length := by rw [x.len]; exact (List.getElem?_eq_some_iff.mp e).1
  obtain ⟨b, q, r⟩ := x.ob n h[n] (by simp [hn])
  rw [e] at q; cases q
  exact ⟨_, by simp [hn], r⟩
theorem RH.get {K cm h R H} {n : Nat} {a : Addr} {o : Ob} (x : RH K cm h R H) (e : R[n]? = some a) (q : h[n]? = some o) : RO K H R cm o a := by
  obtain ⟨b, q', r⟩ := x.ob n o q
  rw [e] at q'; cases q'; exact r
/-- a new object, not told -/
theorem RH.new {K cm h R H p o} (x : RH K cm h R H) (hp : H p = none) : RH K cm h R (upd H p o) := by
  refine ⟨x.len, x.nd, fun n ob q => ?_⟩
  obtain ⟨a, e, r⟩ := x.ob n ob q
  exact ⟨a, e, r.ext (Ext.new hp) (fun u z => by rw [upd_ne (ne_of_none z hp)]; exact z)⟩
/-- a new object, told -/
theorem RH.newR {K cm h R H p o ob} (x : RH K cm h R H) (hp : H p = none) (hr : p ∉ R) (r : RO K (upd H p o) (R ++ [p]) cm ob p) : RH K cm (h ++ [ob]) (R ++ [p]) (upd H p o) := by
  refine ⟨by simp [x.len], ?_, fun n u q => ?_⟩
  · rw [List.nodup_append]
    exact ⟨x.nd, by simp, fun a ha b hb => by simp at hb; subst hb; rintro rfl; exact hr ha⟩
  · by_cases hn : n < h.length
    · rw [List.getElem?_append_left hn] at q
      obtain ⟨a, e, r⟩ := x.ob n u q
      refine ⟨a, (Ext.newR (o := o) hp).at_ (K := K) e, r.ext (Ext.newR hp) (fun u z => by rw [upd_ne (ne_of_none z hp)]; exact z)⟩
    · rw [List.getElem?_append_right (by omega)] at q
      have hz : n - h.length = 0 := by
        cases e : n - h.length with
        | zero => rfl
        | succ k => rw [e] at q; simp at q
      rw [hz] at q
      simp at q
      subst q
      refine ⟨p, ?_, r⟩
      rw [List.getElem?_append_right (by rw [← x.len]; omega), ← x.len, hz]; rfl
/-- what is told stands -/
theorem RO.some {K H R cm o a} (h : RO K H R cm o a) : ∃ u, H a = Option.some u := by
  cases h with
  | lst q _ => exact ⟨_, q⟩
  | dK q _ => exact ⟨_, q⟩
  | dT q _ => exact ⟨_, q⟩
  | ins q _ _ => exact ⟨_, q⟩
theorem RH.free {K cm h R H} {p : Addr} (x : RH K cm h R H) (hp : H p = none) : p ∉ R := fun z => by
  obtain ⟨n, hn, e⟩ := List.mem_iff_getElem.mp z
  obtain ⟨o, _, r⟩ := x.mem (n := n) (a := p) (by rw [List.getElem?_eq_getElem hn, e])
  obtain ⟨u, hu⟩ := r.some
  rw [hp] at hu; cases hu
/-- a told object is written -/
theorem sqT_at {K : PySem.W.Frag} {H : Hp} {p a : Addr} {u o : HO} {xs : List V} (hu : H p = some u) (h1 : ∀ ys, u ≠ .tup ys) (h2 : ∀ ob w, u ≠ .frz ob w) (h : SqT K H a xs) : SqT K (upd H p o) a xs := by
  rcases h with (h | ⟨ob, h⟩) | h
  · have ne : a ≠ p := fun z => by subst z; rw [hu] at h; cases h; exact h1 _ rfl
    exact .inl (.inl (by rw [upd_ne ne]; exact h))
  · have ne : a ≠ p := fun z => by subst z; rw [hu] at h; cases h; exact h2 _ _ rfl
    exact .inl (.inr ⟨ob, by rw [upd_ne ne]; exact h⟩)
  · exact .inr h
theorem sqL_ne {K : PySem.W.Frag} {H : Hp} {p a : Addr} {o : HO} {xs : List V} (ne : a ≠ p) (h : SqL K H a xs) : SqL K (upd H p o) a xs := by
  rcases h with (h | ⟨ob, h⟩) | h
  · exact .inl (.inl (by rw [L2.upd_ne ne]; exact h))
  · exact .inl (.inr ⟨ob, by rw [L2.upd_ne ne]; exact h⟩)
  · exact .inr h
theorem sqF_at {K : PySem.W.Frag} {H : Hp} {p a : Addr} {u o : HO} {xs : List V} (hu : H p = some u) (h2 : ∀ ob w, u ≠ .frz ob w) (h : SqF K H a xs) : SqF K (upd H p o) a xs := by
  rcases h with ⟨ob, h⟩ | h
  · have ne : a ≠ p := fun z => by subst z; rw [hu] at h; cases h; exact h2 _ _ rfl
    exact .inl ⟨ob, by rw [upd_ne ne]; exact h⟩
  · exact .inr h
theorem Ext.write {K : PySem.W.Frag} {R : List Addr} {H : Hp} {n : Nat} {p : Addr} {u o : HO} (hn : R[n]? = some p) (hu : H p = some u) (h1 : ∀ ys, u ≠ .tup ys) (h2 : ∀ ob w, u ≠ .frz ob w) : Ext K R H R (upd H p o) :=
  ⟨⟨[], by simp, by simp⟩, fun _ _ h => sqT_at hu h1 h2 h, fun _ _ h => sqF_at hu h2 h, fun a v h hr => by
    rw [upd_ne (fun z => hr (by rw [z]; exact List.mem_of_getElem? hn))]; exact h⟩
theorem RH.write {K cm h R H} {n : Nat} {p : Addr} {u o : HO} {ob : Ob} (x : RH K cm h R H) (hn : R[n]? = some p) (hu : H p = some u) (h1 : ∀ ys, u ≠ .tup ys) (h2 : ∀ ob w, u ≠ .frz ob w) (r : RO K (upd H p o) R cm ob p) : RH K cm (h.set n ob) R (upd H p o) := by
  refine ⟨by simp [x.len], x.nd, fun m v q => ?_⟩
  by_cases e : n = m
  · subst e
    have hl : n < h.length := by rw [x.len]; exact (List.getElem?_eq_some_iff.mp hn).1
    rw [List.getElem?_set_self hl] at q
    cases q
    exact ⟨p, hn, r⟩
  · rw [List.getElem?_set_ne e] at q
    obtain ⟨a, ea, ra⟩ := x.ob m v q
    have ne : a ≠ p := fun z => by
      subst z
      obtain ⟨h1, e1⟩ := List.getElem?_eq_some_iff.mp hn
      obtain ⟨h2, e2⟩ := List.getElem?_eq_some_iff.mp ea
      exact e ((List.getElem_inj x.nd).mp (e1.trans e2.symm))
    exact ⟨a, ea, ra.ext (Ext.write hn hu h1 h2) (fun u z => by rw [upd_ne ne]; exact z)⟩

/-! ### what is wanted behind a result -/
section
variable (K : PySem.W.Frag) (cm : Str → Addr)
def Post {α : Type} (R : List Addr) (H : Hp) (EX : Str → Hp → Prop) (OK : α → Hq → List Addr → Hp → Prop) : Res α → Prop
  | .ok a h' => ∀ R' H', Ext K R H R' H' → RH K cm h' R' H' → OK a h' R' H'
  | .exc c h' => ∀ R' H', Ext K R H R' H' → RH K cm h' R' H' → EX c H'
  | .stuck => False
end
theorem Post.from_ {K cm α R H R1 H1 EX OK} {r : Res α} (e : Ext K R H R1 H1) (h : Post K cm R H EX OK r) : Post K cm R1 H1 EX OK r := by
  cases r with
  | ok a h' => exact fun R' H' e' x => h R' H' (e.trans e' x.nd) x
  | exc c h' => exact fun R' H' e' x => h R' H' (e.trans e' x.nd) x
  | stuck => exact h
theorem Post.mono {K cm α R H EX OK OK'} {r : Res α} (h : Post K cm R H EX OK r) (k : ∀ a h' R' H', Ext K R H R' H' → RH K cm h' R' H' → OK a h' R' H' → OK' a h' R' H') : Post K cm R H EX OK' r := by
  cases r with
  | ok a h' => exact fun R' H' e' x => k _ _ _ _ e' x (h R' H' e' x)
  | exc c h' => exact h
  | stuck => exact h
theorem Post.bind {K cm α β R H EX OK} {r : Res α} {f : α → Hq → Res β} (h : Post K cm R H EX OK (r.bind f)) : Post K cm R H EX (fun a h1 R1 H1 => Post K cm R1 H1 EX OK (f a h1)) r := by
  cases r with
  | ok a h1 => exact fun R1 H1 e x => Post.from_ e h
  | exc c h' => exact h
  | stuck => exact h

/-- one law's fixed things -/
structure Cg where
  K : PySem.W.Frag
  cm : Str → Addr
abbrev EXw (cm : Str → Addr) (Wx : WX) (σ : St) : Str → Hp → Prop := fun c H' => Wx (.ref (cm c)) none σ H'
abbrev OKv (K : PySem.W.Frag) (Q : VK) : W → Hq → List Addr → Hp → Prop := fun w _ R' H' => ∀ v, RV K H' R' w v → Q v H'
abbrev OKs (K : PySem.W.Frag) (Q : List V → Hp → Prop) : List W → Hq → List Addr → Hp → Prop := fun w _ R' H' => ∀ v, RVs K H' R' w v → Q v H'
abbrev OKb (Q : Bool → Hp → Prop) : Bool → Hq → List Addr → Hp → Prop := fun w _ _ H' => Q w H'
section
variable (cm : Str → Addr) (X : Cx) (Wx : WX)
def QE (e : Expr) (m : ME) : Prop := ∃ t, PE X e t ∧ ∀ σ ρ h R H Q, REnv X.K H R ρ σ → RH X.K cm h R H → Post X.K cm R H (EXw cm Wx σ) (OKv X.K Q) (m ρ h) → t σ H Q
def QA (es : List Expr) (m : MA) : Prop := ∃ t, PA X es t ∧ ∀ σ ρ h R H Q, REnv X.K H R ρ σ → RH X.K cm h R H → Post X.K cm R H (EXw cm Wx σ) (OKs X.K Q) (m ρ h) → t σ H Q
def QT (e : Expr) (m : MT) : Prop := ∃ t, PT X e t ∧ ∀ σ ρ h R H Q, REnv X.K H R ρ σ → RH X.K cm h R H → Post X.K cm R H (EXw cm Wx σ) (OKb Q) (m ρ h) → t σ H Q
def QW (e : Expr) (m : MT) : Prop := ∃ t, PW X e t ∧ ∀ σ ρ h R H Q, REnv X.K H R ρ σ → RH X.K cm h R H → Post X.K cm R H (EXw cm Wx σ) (OKb Q) (m ρ h) → t σ H Q
def PostS (R : List Addr) (H : Hp) (D : Ends) : RS → Prop
  | .ok f ρ' h' => ∀ R' H' σ', Ext X.K R H R' H' → RH X.K cm h' R' H' → REnv X.K H' R' ρ' σ' → (match f with
      | .nx => D.nx σ' H'
      | .bk => D.bk σ' H'
      | .ct => D.ct σ' H'
      | .rt w => ∀ v, RV X.K H' R' w v → D.rt v H')
  | .exc c ρ' h' => ∀ R' H' σ', Ext X.K R H R' H' → RH X.K cm h' R' H' → REnv X.K H' R' ρ' σ' → Wx (.ref (cm c)) none σ' H'
  | .stuck => False
def QS (st : Stmt) (m : MS) : Prop := ∃ t, PS X st t ∧ ∀ σ ρ h R H D, REnv X.K H R ρ σ → RH X.K cm h R H → PostS cm X Wx R H D (m ρ h) → t D σ H
def QB (sts : List Stmt) (m : MS) : Prop := ∃ t, PSs X sts t ∧ ∀ σ ρ h R H D, REnv X.K H R ρ σ → RH X.K cm h R H → PostS cm X Wx R H D (m ρ h) → t D σ H
end
theorem PostS.from_ {cm X Wx R H R1 H1 D} {r : RS} (e : Ext X.K R H R1 H1) (h : PostS cm X Wx R H D r) : PostS cm X Wx R1 H1 D r := by
  cases r with
  | ok a ρ h' => exact fun R' H' σ' e' x => h R' H' σ' (e.trans e' x.nd) x
  | exc c ρ h' => exact fun R' H' σ' e' x => h R' H' σ' (e.trans e' x.nd) x
  | stuck => exact h
/-- from an expression's result to a statement's -/
def Res.toS {α : Type} (r : Res α) (ρ : Ev) (f : α → Hq → RS) : RS :=
  match r with
  | .ok a h => f a h
  | .exc c h => .exc c ρ h
  | .stuck => .stuck
theorem PostS.toS {cm X Wx R H D} {α : Type} {r : Res α} {ρ : Ev} {σ : St} {f : α → Hq → RS} (hρ : REnv X.K H R ρ σ) (h : PostS cm X Wx R H D (r.toS ρ f)) :
    Post X.K cm R H (EXw cm Wx σ) (fun a h1 R1 H1 => PostS cm X Wx R1 H1 D (f a h1)) r := by
  cases r with
  | ok a h1 => exact fun R1 H1 e x => PostS.from_ e h
  | exc c h' => exact fun R' H' e x => h R' H' σ e x (hρ.ext e)
  | stuck => exact h
end Z

/-! Q: combinators and their soundness. -/
namespace Z
open PySem PySem.Spec PyProof.Rows L2

/-! ### ends -/
section
variable {K : PySem.W.Frag} {cm : Str → Addr} {R : List Addr} {H : Hp} {h : Hq} {EX : Str → Hp → Prop} {Q : VK}
theorem post_v {w : W} {v : V} (p : Post K cm R H EX (OKv K Q) (.ok w h)) (x : RH K cm h R H) (r : RV K H R w v) : Q v H := p R H Ext.refl x v r
theorem post_lst {t : Nat} {xs : List W} {vs : List V} (p : Post K cm R H EX (OKv K Q) (.ok (.ref h.length) (h ++ [.lst t xs]))) (x : RH K cm h R H) (r : RVs K H R xs vs) {q : Addr} (hq : H q = none) : Q (.ref q) (upd H q (.lst vs)) := by
  refine p (R ++ [q]) _ (Ext.newR hq) (x.newR hq (x.free hq) (.lst upd_same (RVs.ext (Ext.newR hq) _ _ r))) _ (.ref ?_)
  rw [List.getElem?_append_right (by rw [x.len]; exact Nat.le_refl _), x.len, Nat.sub_self]; rfl
theorem post_tup {xs : List W} {vs : List V} (p : Post K cm R H EX (OKv K Q) (.ok (.tup xs) h)) (x : RH K cm h R H) (r : RVs K H R xs vs) {q : Addr} (hq : H q = none) : Q (.ref q) (upd H q (.tup vs)) :=
  p R _ (Ext.new hq) (x.new hq) _ (.tup (SqT.of upd_same) (RVs.ext (Ext.new hq) _ _ r))
end

/-! ### names, constants -/
section
variable {cm : Str → Addr} {X : Cx} {Wx : WX}
def eV (i : Nat) : ME := fun ρ h => match ρ[i]? with
  | some (some w) => .ok w h
  | _ => .stuck
def eC (w : W) : ME := fun _ h => .ok w h
theorem qv (i : Nat) {x : Str} {pos : Pos} (hN : X.N[i]? = some x := by rfl) (hv : Vis X.env.scope x := by first | exact Or.inl rfl | exact Or.inr (Or.inl rfl) | exact Or.inr (Or.inr rfl)) (hd : (x == ("__debug__" : Str)) = false := by decide)
    (hcd : (x == ("__classdict__" : Str)) = false := by decide) : QE cm X Wx (.Name x pos) (eV i) := by
  refine ⟨_, pe_var hN hv hd hcd, fun σ ρ h R H Q hρ hh p => ?_⟩
  unfold eV at p
  split at p
  · rename_i w e
    obtain ⟨v, a, r⟩ := hρ.2 i w e
    exact ⟨v, a, post_v p hh r⟩
  · exact p.elim
theorem q_int {i j pos} : QE cm X Wx (.Constant (.int i) j pos) (eC (.int i)) := ⟨_, pe_int, fun _ _ _ _ _ _ _ hh p => post_v p hh (.int i)⟩
theorem q_bl {i j pos} : QE cm X Wx (.Constant (.bool i) j pos) (eC (.bl i)) := ⟨_, pe_bl, fun _ _ _ _ _ _ _ hh p => post_v p hh (.bl i)⟩
theorem q_non {j pos} : QE cm X Wx (.Constant .none j pos) (eC .non) := ⟨_, pe_non, fun _ _ _ _ _ _ _ hh p => post_v p hh .non⟩
theorem q_str {x j pos} : QE cm X Wx (.Constant (.str x) j pos) (eC (.str x)) := ⟨_, pe_str, fun _ _ _ _ _ _ _ hh p => post_v p hh (.str x)⟩
theorem q_globI {x : Str} {i : Int} {pos : Pos} (hg : Gl X x) (hm : ∃ t, X.mg x = some (.int i t)) (hd : (x == ("__debug__" : Str)) = false := by decide) : QE cm X Wx (.Name x pos) (eC (.int i)) := by
  obtain ⟨t, hm⟩ := hm
  exact ⟨_, pe_glob (v := .int i) hg hm ⟨t, rfl⟩ hd, fun _ _ _ _ _ _ _ hh p => post_v p hh (.int i)⟩
theorem q_globS {x z : Str} {pos : Pos} (hg : Gl X x) (hm : ∃ t, X.mg x = some (.str z t)) (hd : (x == ("__debug__" : Str)) = false := by decide) : QE cm X Wx (.Name x pos) (eC (.str z)) := by
  obtain ⟨t, hm⟩ := hm
  exact ⟨_, pe_glob (v := .str z) hg hm ⟨t, rfl⟩ hd, fun _ _ _ _ _ _ _ hh p => post_v p hh (.str z)⟩

/-! ### operators by values -/
abbrev F2 := W → W → Hq → Res W
def QOp (cm : Str → Addr) (X : Cx) (r : R2) (f : F2) : Prop := ∀ (EX : Str → Hp → Prop) h R H x y vx vy Q, RH X.K cm h R H → RV X.K H R x vx → RV X.K H R y vy → Post X.K cm R H EX (OKv X.K Q) (f x y h) → r vx vy H Q
def eBin (f : F2) (a b : ME) : ME := fun ρ h => (a ρ h).bind fun x h1 => (b ρ h1).bind fun y h2 => f x y h2
theorem bin_ok {ta tb : TE} {r : R2} {f : F2} {ma mb : ME} (hf : QOp cm X r f)
    (sa : ∀ σ ρ h R H Q, REnv X.K H R ρ σ → RH X.K cm h R H → Post X.K cm R H (EXw cm Wx σ) (OKv X.K Q) (ma ρ h) → ta σ H Q)
    (sb : ∀ σ ρ h R H Q, REnv X.K H R ρ σ → RH X.K cm h R H → Post X.K cm R H (EXw cm Wx σ) (OKv X.K Q) (mb ρ h) → tb σ H Q) :
    ∀ σ ρ h R H Q, REnv X.K H R ρ σ → RH X.K cm h R H → Post X.K cm R H (EXw cm Wx σ) (OKv X.K Q) (eBin f ma mb ρ h) → tOp r ta tb σ H Q := fun σ ρ h R H Q hρ hh p =>
  sa σ ρ h R H _ hρ hh (Post.mono (Post.bind p) fun x h1 R1 H1 e1 x1 p1 => fun vx rx =>
    sb σ ρ h1 R1 H1 _ (hρ.ext e1) x1 (Post.mono (Post.bind p1) fun y h2 R2 H2 e2 x2 p2 => fun vy ry => hf _ _ _ _ _ _ _ _ _ x2 (RV.ext e2 _ _ rx) ry p2))
theorem qe_bin {op : Operator} {r : R2} {f : F2} {a b : Expr} {ma mb : ME} {pos : Pos} (ho : OpR X (binaryOp op) r) (hf : QOp cm X r f) (ha : QE cm X Wx a ma) (hb : QE cm X Wx b mb) : QE cm X Wx (.BinOp a op b pos) (eBin f ma mb) := by
  obtain ⟨ta, pa, sa⟩ := ha
  obtain ⟨tb, pb, sb⟩ := hb
  exact ⟨_, pe_op ho pa pb, bin_ok hf sa sb⟩
/-- a list told, by its value -/
def asL (h : Hq) : W → Option (List W)
  | .frz xs => some xs
  | .ref n => match h[n]? with
    | some (.lst _ xs) => some xs
    | _ => none
  | _ => none
theorem asL_ok {h : Hq} {R H} {x : W} {xs : List W} {v : V} (hh : RH X.K cm h R H) (r : RV X.K H R x v) (e : asL h x = some xs) : ∃ a vs, v = .ref a ∧ SqL X.K H a vs ∧ RVs X.K H R xs vs := by
  cases x with
  | frz ys =>
    cases r with
    | frz s r => cases e; exact ⟨_, _, rfl, s.sqL, r⟩
  | ref n =>
    cases r with
    | ref q =>
      unfold asL at e
      cases z : h[n]? with
      | none => simp [z] at e
      | some o =>
        have ro := hh.get q z
        cases o with
        | lst t ys => simp [z] at e; subst e; cases ro with | lst a b => exact ⟨_, _, rfl, SqL.of a, b⟩
        | dct _ _ _ => simp [z] at e
        | ins _ _ => simp [z] at e
  | _ => simp [asL] at e
def mkL (t : Nat) (xs : List W) (h : Hq) : Res W := .ok (.ref h.length) (h ++ [.lst t xs])
def isMut (h : Hq) : W → Bool
  | .ref n => match h[n]? with
    | some (.lst _ _) => true
    | _ => false
  | _ => false
theorem asLm_ok {h : Hq} {R H} {x : W} {xs : List W} {v : V} (hh : RH X.K cm h R H) (r : RV X.K H R x v) (e : asL h x = some xs) (m : isMut h x = true) : ∃ a vs, v = .ref a ∧ H a = some (.lst vs) ∧ RVs X.K H R xs vs := by
  cases x with
  | ref n =>
    cases r with
    | ref q =>
      unfold asL at e
      unfold isMut at m
      cases z : h[n]? with
      | none => simp [z] at e
      | some o =>
        have ro := hh.get q z
        cases o with
        | lst t ys => simp [z] at e; subst e; cases ro with | lst a b => exact ⟨_, _, rfl, a, b⟩
        | dct _ _ _ => simp [z] at e
        | ins _ _ => simp [z] at e
  | frz xs => cases m
  | _ => simp [asL] at e
/-- + -/
def addW (t : Nat) : F2 := fun x y h => match x, y with
  | .int i, .int j => .ok (.int (i + j)) h
  | .str a, .str b => if a.length + b.length ≤ sizeLine then .ok (.str (a ++ b)) h else .stuck
  | .tup a, .tup b => if a.length + b.length ≤ sizeLine then .ok (.tup (a ++ b)) h else .stuck
  | .ref m, .ref n => match asL h (.ref m), asL h (.ref n) with
    | some xs, some ys => if isMut h (.ref m) && isMut h (.ref n) && decide (xs.length + ys.length ≤ sizeLine) then mkL t (xs ++ ys) h else .stuck
    | _, _ => .stuck
  | _, _ => .stuck
theorem op_addW : OpR X (binaryOp .Add) (fun x y H Q => rI0 (fun i j => .int (i + j)) x y H Q ∨ ((∃ i j, x = .str i ∧ y = .str j ∧ i.length + j.length ≤ sizeLine ∧ Q (.str (i ++ j)) H) ∨ (rCatA X.K x y H Q ∨ rCat x y H Q))) := OpR.or op_add (OpR.or op_add_str (OpR.or op_catA op_cat))
theorem q_addW {t : Nat} : QOp cm X (fun x y H Q => rI0 (fun i j => .int (i + j)) x y H Q ∨ ((∃ i j, x = .str i ∧ y = .str j ∧ i.length + j.length ≤ sizeLine ∧ Q (.str (i ++ j)) H) ∨ (rCatA X.K x y H Q ∨ rCat x y H Q))) (addW t) := by
  intro EX h R H x y vx vy Q hh rx ry p
  cases x with
  | int i =>
    cases y with
    | int j => cases rx; cases ry; exact .inl ⟨i, j, rfl, rfl, post_v p hh (.int _)⟩
    | _ => exact p.elim
  | str a =>
    cases y with
    | str b =>
      cases rx; cases ry
      unfold addW at p
      dsimp only at p
      split at p
      · rename_i z; exact .inr (.inl ⟨a, b, rfl, rfl, z, post_v p hh (.str _)⟩)
      · exact p.elim
    | _ => exact p.elim
  | tup a =>
    cases y with
    | tup b =>
      cases rx with
      | tup s1 r1 =>
      cases ry with
      | tup s2 r2 =>
      unfold addW at p
      dsimp only at p
      split at p
      · rename_i z
        refine .inr (.inr (.inl ⟨_, _, _, _, rfl, rfl, s1, s2, by rw [← r1.length, ← r2.length]; exact z, fun e => ?_, fun _ e => ?_, fun _ _ q hq => post_tup p hh (RVs.append r1 r2) hq⟩))
        · subst e
          cases r1
          exact post_v p hh (.tup s2 r2)
        · subst e
          cases r2
          rw [List.append_nil] at p
          exact post_v p hh (.tup s1 r1)
      · exact p.elim
    | _ => exact p.elim
  | ref m =>
    cases y with
    | ref n =>
      unfold addW at p
      dsimp only at p
      split at p
      · rename_i xs ys e1 e2
        split at p
        · rename_i z
          simp only [Bool.and_eq_true, decide_eq_true_eq] at z
          obtain ⟨⟨z1, z2⟩, z3⟩ := z
          obtain ⟨a, vs, rfl, ha, r1⟩ := asLm_ok hh rx e1 z1
          obtain ⟨b, ws, rfl, hb, r2⟩ := asLm_ok hh ry e2 z2
          exact .inr (.inr (.inr ⟨a, b, vs, ws, rfl, rfl, ha, hb, by rw [← r1.length, ← r2.length]; exact z3, fun q hq => post_lst p hh (RVs.append r1 r2) hq⟩))
        · exact p.elim
      · exact p.elim
    | _ => exact p.elim
  | _ => exact p.elim
theorem q_add {t : Nat} {a b : Expr} {ma mb : ME} {pos : Pos} (ha : QE cm X Wx a ma) (hb : QE cm X Wx b mb) : QE cm X Wx (.BinOp a .Add b pos) (eBin (addW t) ma mb) := qe_bin op_addW q_addW ha hb

/-- two ints -/
def intW (c : Int → Int → Bool) (g : Int → Int → W) : F2 := fun x y h => match x, y with
  | .int i, .int j => if c i j then .ok (g i j) h else .stuck
  | _, _ => .stuck
theorem q_intW {C : Int → Int → Prop} {g : Int → Int → V} {c : Int → Int → Bool} {gw : Int → Int → W} (hc : ∀ i j, c i j = true → C i j) (hg : ∀ K H R i j, RV K H R (gw i j) (g i j)) : QOp cm X (rI C g) (intW c gw) := by
  intro EX h R H x y vx vy Q hh rx ry p
  cases x with
  | int i =>
    cases y with
    | int j =>
      cases rx; cases ry
      unfold intW at p
      dsimp only at p
      split at p
      · rename_i z; exact ⟨i, j, rfl, rfl, hc i j z, post_v p hh (hg _ _ _ i j)⟩
      · exact p.elim
    | _ => exact p.elim
  | _ => exact p.elim
def subW : F2 := fun x y h => match x, y with
  | .int i, .int j => .ok (.int (i - j)) h
  | _, _ => .stuck
theorem q_sub {a b : Expr} {ma mb : ME} {pos : Pos} (ha : QE cm X Wx a ma) (hb : QE cm X Wx b mb) : QE cm X Wx (.BinOp a .Sub b pos) (eBin subW ma mb) := qe_bin op_sub (by
  intro EX h R H x y vx vy Q hh rx ry p
  cases x with
  | int i =>
    cases y with
    | int j => cases rx; cases ry; exact ⟨i, j, rfl, rfl, post_v p hh (.int _)⟩
    | _ => exact p.elim
  | _ => exact p.elim) ha hb
/-- * : ints of any size as long as both have less than some 400,000 bits; a text by a number -/
def small (i : Int) : Bool := decide (-(2 ^ 64) < i) && decide (i < 2 ^ 64)
def mulW : F2 := fun x y h => match x, y with
  | .int i, .int j => if small i || small j then .ok (.int (i * j)) h else .stuck
  | _, _ => .stuck
theorem cmul_of {i j : Int} (h : (small i || small j) = true) : CMul i j := by
  unfold small at h
  simp only [Bool.or_eq_true, Bool.and_eq_true, decide_eq_true_eq] at h
  exact h
theorem q_mulW : QOp cm X (rI CMul fun i j => .int (i * j)) mulW := by
  intro EX h R H x y vx vy Q hh rx ry p
  cases x with
  | int i =>
    cases y with
    | int j =>
      cases rx; cases ry
      unfold mulW at p
      dsimp only at p
      split at p
      · rename_i z; exact ⟨i, j, rfl, rfl, cmul_of z, post_v p hh (.int _)⟩
      · exact p.elim
    | _ => exact p.elim
  | _ => exact p.elim
theorem q_mul {a b : Expr} {ma mb : ME} {pos : Pos} (ha : QE cm X Wx a ma) (hb : QE cm X Wx b mb) : QE cm X Wx (.BinOp a .Mult b pos) (eBin mulW ma mb) := qe_bin op_mul q_mulW ha hb
/-- // by a positive number below 2 ^ 9000 -/
def wideB : Nat := 2 ^ 9000
def fdivW : F2 := fun x y h => match x, y with
  | .int i, .int j => if decide (0 < j) && decide (j.natAbs < wideB) then .ok (.int (i / j)) h else .stuck
  | _, _ => .stuck
theorem q_fdiv {a b : Expr} {ma mb : ME} {pos : Pos} (ha : QE cm X Wx a ma) (hb : QE cm X Wx b mb) : QE cm X Wx (.BinOp a .FloorDiv b pos) (eBin fdivW ma mb) := qe_bin op_fdivW (by
  intro EX h R H x y vx vy Q hh rx ry p
  cases x with
  | int i =>
    cases y with
    | int j =>
      cases rx; cases ry
      unfold fdivW at p
      dsimp only at p
      split at p
      · rename_i z
        simp only [Bool.and_eq_true, decide_eq_true_eq] at z
        exact ⟨i, j, rfl, rfl, wide_div z.1 z.2 (by decide) (Nat.le_refl _), post_v p hh (.int _)⟩
      · exact p.elim
    | _ => exact p.elim
  | _ => exact p.elim) ha hb
def modW : F2 := fun x y h => match x, y with
  | .int i, .int j => if 0 < j then .ok (.int (i % j)) h else .stuck
  | _, _ => .stuck
theorem q_mod {a b : Expr} {ma mb : ME} {pos : Pos} (ha : QE cm X Wx a ma) (hb : QE cm X Wx b mb) : QE cm X Wx (.BinOp a .Mod b pos) (eBin modW ma mb) := qe_bin op_mod (by
  intro EX h R H x y vx vy Q hh rx ry p
  cases x with
  | int i =>
    cases y with
    | int j =>
      cases rx; cases ry
      unfold modW at p
      dsimp only at p
      split at p
      · rename_i z; exact ⟨i, j, rfl, rfl, z, post_v p hh (.int _)⟩
      · exact p.elim
    | _ => exact p.elim
  | _ => exact p.elim) ha hb
def powW : F2 := fun x y h => match x, y with
  | .int i, .int j => if decide (0 ≤ j ∧ j ≤ 1000000) && decide (i.natAbs < 2 ^ 64) then .ok (.int (i ^ j.toNat)) h else .stuck
  | _, _ => .stuck
theorem q_pow {a b : Expr} {ma mb : ME} {pos : Pos} (ha : QE cm X Wx a ma) (hb : QE cm X Wx b mb) : QE cm X Wx (.BinOp a .Pow b pos) (eBin powW ma mb) := qe_bin op_pow (by
  intro EX h R H x y vx vy Q hh rx ry p
  cases x with
  | int i =>
    cases y with
    | int j =>
      cases rx; cases ry
      unfold powW at p
      dsimp only at p
      split at p
      · rename_i z
        simp only [Bool.and_eq_true, decide_eq_true_eq] at z
        exact ⟨i, j, rfl, rfl, ⟨z.1.1, z.1.2, z.2⟩, post_v p hh (.int _)⟩
      · exact p.elim
    | _ => exact p.elim
  | _ => exact p.elim) ha hb
def eNeg (a : ME) : ME := fun ρ h => (a ρ h).bind fun x h1 => match x with
  | .int i => .ok (.int (-i)) h1
  | _ => .stuck
theorem q_neg {a : Expr} {ma : ME} {pos : Pos} (ha : QE cm X Wx a ma) : QE cm X Wx (.UnaryOp .USub a pos) (eNeg ma) := by
  obtain ⟨ta, pa, sa⟩ := ha
  refine ⟨_, pe_un un_neg pa, fun σ ρ h R H Q hρ hh p => ?_⟩
  refine sa σ ρ h R H _ hρ hh (Post.mono (Post.bind p) fun x h1 R1 H1 e1 x1 p1 => fun vx rx => ?_)
  cases x with
  | int i => cases rx; exact ⟨i, rfl, post_v p1 x1 (.int _)⟩
  | _ => exact p1.elim

/-! ### comparisons -/
mutual
def toD (L : Nat → Option PyData) : W → Option PyData
  | .non => some .none
  | .bl b => some (.bool b)
  | .int i => some (.int i)
  | .str x => some (.str x)
  | .tup xs => (toDs L xs).map .tuple
  | .frz xs => (toDs L xs).map .list
  | .ref n => L n
def toDs (L : Nat → Option PyData) : List W → Option (List PyData)
  | [] => some []
  | x :: xs => match toD L x, toDs L xs with
    | some d, some ds => some (d :: ds)
    | _, _ => none
end
/-- the data at a list, n deep -/
def refD (h : Hq) : Nat → Nat → Option PyData
  | 0, _ => none
  | k + 1, n => match asL h (.ref n) with
    | some xs => (toDs (refD h k) xs).map .list
    | none => none
section
variable {h : Hq} {R : List Addr} {H : Hp}
mutual
theorem toD_ok {L : Nat → Option PyData} (hL : ∀ n d v, RV X.K H R (.ref n) v → L n = some d → Dp X.K H v d) : ∀ (w : W) (d : PyData) (v : V), RV X.K H R w v → toD L w = some d → Dp X.K H v d
  | .non, _, _, r, e => by cases r; simp [toD] at e; subst e; exact .non
  | .bl b, _, _, r, e => by cases r; simp [toD] at e; subst e; exact .bl b
  | .int b, _, _, r, e => by cases r; simp [toD] at e; subst e; exact .int b
  | .str b, _, _, r, e => by cases r; simp [toD] at e; subst e; exact .str b
  | .tup xs, _, _, r, e => by
    cases r with
    | tup s rs =>
      simp [toD] at e
      obtain ⟨ds, e1, rfl⟩ := e
      exact .tup s (toDs_ok hL xs ds _ rs e1)
  | .frz xs, _, _, r, e => by
    cases r with
    | frz s rs =>
      simp [toD] at e
      obtain ⟨ds, e1, rfl⟩ := e
      exact .lst s.sqL (toDs_ok hL xs ds _ rs e1)
  | .ref n, d, _, r, e => hL n d _ r (by simpa [toD] using e)
theorem toDs_ok {L : Nat → Option PyData} (hL : ∀ n d v, RV X.K H R (.ref n) v → L n = some d → Dp X.K H v d) : ∀ (ws : List W) (ds : List PyData) (vs : List V), RVs X.K H R ws vs → toDs L ws = some ds → DpAll X.K H vs ds
  | [], _, _, r, e => by cases r; simp [toDs] at e; subst e; exact .nil
  | w :: ws, _, _, r, e => by
    cases r with
    | cons a b =>
      unfold toDs at e
      split at e
      · rename_i d ds e1 e2
        cases e
        exact .cons (toD_ok hL w d _ a e1) (toDs_ok hL ws ds _ b e2)
      · cases e
end
theorem refD_ok (hh : RH X.K cm h R H) : ∀ (k n : Nat) (d : PyData) (v : V), RV X.K H R (.ref n) v → refD h k n = some d → Dp X.K H v d
  | 0, _, _, _, _, e => by cases e
  | k + 1, n, d, v, r, e => by
    unfold refD at e
    split at e
    · rename_i xs z
      obtain ⟨a, vs, rfl, s, rs⟩ := asL_ok hh r z
      simp at e
      obtain ⟨ds, e1, rfl⟩ := e
      exact .lst s (toDs_ok (refD_ok hh k) xs ds vs rs e1)
    · cases e
end
def dataW (h : Hq) (w : W) : Option PyData := toD (refD h 60) w
/-- == -/
def eqW (neg : Bool) : F2 := fun x y h => match x, y with
  | .int i, .int j => .ok (.bl (xor neg (decide (i = j)))) h
  | .str i, .str j => .ok (.bl (xor neg (decide (i = j)))) h
  | .bl i, .bl j => .ok (.bl (xor neg (decide (i = j)))) h
  | .non, .non => .ok (.bl (xor neg true)) h
  | .non, .int _ | .int _, .non | .non, .bl _ | .bl _, .non | .non, .str _ | .str _, .non | .int _, .str _ | .str _, .int _ | .bl _, .str _ | .str _, .bl _ => .ok (.bl neg) h
  | x, y => match dataW h x, dataW h y with
    | some d, some e => if SeqAt.shaped d && SeqAt.shaped e then .ok (.bl (xor neg (PyData.eqv d e))) h else .stuck
    | _, _ => .stuck
def rEqW (K : PySem.W.Frag) (neg : Bool) : R2 := fun x y H Q => (scal x y = true ∧ Q (.bl (xor neg (decide (x = y)))) H) ∨ (∃ d e, Dp K H x d ∧ Dp K H y e ∧ SeqAt.shaped d = true ∧ SeqAt.shaped e = true ∧ Q (.bl (xor neg (PyData.eqv d e))) H)
theorem op_eqW (hu : X.A.units + 64 < cLine) : OpR X (compareOp .Eq) (rEqW X.K false) := by
  intro pins s σ H x y v u Q I rx ry h
  refine OpR.or op_eq (op_eqD hu) pins s σ H x y v u Q I rx ry ?_
  rcases h with ⟨a, b⟩ | h
  · exact .inl ⟨a, by simpa using b⟩
  · obtain ⟨d, e, h1, h2, h3, h4, q⟩ := h
    exact .inr ⟨d, e, h1, h2, h3, h4, by simpa using q⟩
theorem op_neW (hu : X.A.units + 64 < cLine) : OpR X (compareOp .NotEq) (rEqW X.K true) := by
  intro pins s σ H x y v u Q I rx ry h
  refine OpR.or op_ne (op_neD hu) pins s σ H x y v u Q I rx ry ?_
  rcases h with ⟨a, b⟩ | h
  · exact .inl ⟨a, by simpa using b⟩
  · obtain ⟨d, e, h1, h2, h3, h4, q⟩ := h
    exact .inr ⟨d, e, h1, h2, h3, h4, by simpa using q⟩
theorem dec_V_int {i j : Int} : decide (V.int i = V.int j) = decide (i = j) := by
  by_cases e : i = j
  · subst e; simp
  · rw [decide_eq_false e, decide_eq_false (fun z => e (by cases z; rfl))]
theorem dec_V_str {i j : Str} : decide (V.str i = V.str j) = decide (i = j) := by
  by_cases e : i = j
  · subst e; simp
  · rw [decide_eq_false e, decide_eq_false (fun z => e (by cases z; rfl))]
theorem dec_V_bl {i j : Bool} : decide (V.bl i = V.bl j) = decide (i = j) := by
  cases i <;> cases j <;> rfl
theorem eqW_data {neg : Bool} {x y : W} {h : Hq} {R H EX Q vx vy} (hh : RH X.K cm h R H) (rx : RV X.K H R x vx) (ry : RV X.K H R y vy)
    (p : Post X.K cm R H EX (OKv X.K Q) (match dataW h x, dataW h y with
    | some d, some e => if SeqAt.shaped d && SeqAt.shaped e then .ok (.bl (xor neg (PyData.eqv d e))) h else .stuck
    | _, _ => .stuck)) : rEqW X.K neg vx vy H Q := by
  split at p
  · rename_i d e e1 e2
    split at p
    · rename_i z
      simp only [Bool.and_eq_true] at z
      exact .inr ⟨d, e, toD_ok (refD_ok hh 60) x d _ rx e1, toD_ok (refD_ok hh 60) y e _ ry e2, z.1, z.2, post_v p hh (.bl _)⟩
    · exact p.elim
  · exact p.elim
theorem q_eqW {neg : Bool} : QOp cm X (rEqW X.K neg) (eqW neg) := by
  intro EX h R H x y vx vy Q hh rx ry p
  cases x with
  | non =>
    cases y with
    | non => cases rx; cases ry; exact .inl ⟨rfl, post_v p hh (.bl _)⟩
    | int j => cases rx; cases ry; exact .inl ⟨rfl, by simpa using post_v p hh (.bl _)⟩
    | bl j => cases rx; cases ry; exact .inl ⟨rfl, by simpa using post_v p hh (.bl _)⟩
    | str j => cases rx; cases ry; exact .inl ⟨rfl, by simpa using post_v p hh (.bl _)⟩
    | _ => exact eqW_data hh rx ry p
  | bl i =>
    cases y with
    | bl j => cases rx; cases ry; exact .inl ⟨rfl, by rw [dec_V_bl]; exact post_v p hh (.bl _)⟩
    | non => cases rx; cases ry; exact .inl ⟨rfl, by simpa using post_v p hh (.bl _)⟩
    | str j => cases rx; cases ry; exact .inl ⟨rfl, by simpa using post_v p hh (.bl _)⟩
    | _ => exact eqW_data hh rx ry p
  | int i =>
    cases y with
    | int j => cases rx; cases ry; exact .inl ⟨rfl, by rw [dec_V_int]; exact post_v p hh (.bl _)⟩
    | non => cases rx; cases ry; exact .inl ⟨rfl, by simpa using post_v p hh (.bl _)⟩
    | str j => cases rx; cases ry; exact .inl ⟨rfl, by simpa using post_v p hh (.bl _)⟩
    | _ => exact eqW_data hh rx ry p
  | str i =>
    cases y with
    | str j => cases rx; cases ry; exact .inl ⟨rfl, by rw [dec_V_str]; exact post_v p hh (.bl _)⟩
    | non => cases rx; cases ry; exact .inl ⟨rfl, by simpa using post_v p hh (.bl _)⟩
    | int j => cases rx; cases ry; exact .inl ⟨rfl, by simpa using post_v p hh (.bl _)⟩
    | bl j => cases rx; cases ry; exact .inl ⟨rfl, by simpa using post_v p hh (.bl _)⟩
    | _ => exact eqW_data hh rx ry p
  | tup xs => cases y <;> exact eqW_data hh rx ry p
  | frz xs => cases y <;> exact eqW_data hh rx ry p
  | ref n => cases y <;> exact eqW_data hh rx ry p
/-- < and the like: ints, texts -/
def ordW (g : Int → Int → Bool) (s : Str → Str → Bool) : F2 := fun x y h => match x, y with
  | .int i, .int j => .ok (.bl (g i j)) h
  | .str i, .str j => .ok (.bl (s i j)) h
  | _, _ => .stuck
def rOrdW (g : Int → Int → Bool) (s : Str → Str → Bool) : R2 := fun x y H Q => rI0 (fun i j => .bl (g i j)) x y H Q ∨ ∃ i j, x = .str i ∧ y = .str j ∧ Q (.bl (s i j)) H
theorem q_ordW {g s} : QOp cm X (rOrdW g s) (ordW g s) := by
  intro EX h R H x y vx vy Q hh rx ry p
  cases x with
  | int i =>
    cases y with
    | int j => cases rx; cases ry; exact .inl ⟨i, j, rfl, rfl, post_v p hh (.bl _)⟩
    | _ => exact p.elim
  | str i =>
    cases y with
    | str j => cases rx; cases ry; exact .inr ⟨i, j, rfl, rfl, post_v p hh (.bl _)⟩
    | _ => exact p.elim
  | _ => exact p.elim
def sLt (i j : Str) : Bool := decide (i.cps.toList < j.cps.toList)
def sLe (i j : Str) : Bool := !decide (j.cps.toList < i.cps.toList)
abbrev ltW : F2 := ordW (fun i j => decide (i < j)) sLt
abbrev leW : F2 := ordW (fun i j => decide (i ≤ j)) sLe
abbrev gtW : F2 := ordW (fun i j => decide (j < i)) (fun i j => sLt j i)
abbrev geW : F2 := ordW (fun i j => decide (j ≤ i)) (fun i j => sLe j i)
theorem op_ltW : OpR X (compareOp .Lt) (rOrdW (fun i j => decide (i < j)) sLt) := OpR.or op_lt op_lt_str
theorem op_leW : OpR X (compareOp .LtE) (rOrdW (fun i j => decide (i ≤ j)) sLe) := OpR.or op_le op_le_str
theorem op_gtW : OpR X (compareOp .Gt) (rOrdW (fun i j => decide (j < i)) (fun i j => sLt j i)) := OpR.or op_gt op_gt_str
theorem op_geW : OpR X (compareOp .GtE) (rOrdW (fun i j => decide (j ≤ i)) (fun i j => sLe j i)) := OpR.or op_ge op_ge_str
/-- is None, is not None -/
def isNW (neg : Bool) : F2 := fun x y h => match y with
  | .non => .ok (.bl (xor neg (match x with | .non => true | _ => false))) h
  | _ => .stuck
theorem q_isN : QOp cm X (fun x y H Q => y = .non ∧ Q (.bl (decide (x = .non))) H) (isNW false) := by
  intro EX h R H x y vx vy Q hh rx ry p
  cases y with
  | non =>
    cases ry
    refine ⟨rfl, ?_⟩
    cases x <;> cases rx <;> simpa using post_v p hh (.bl _)
  | _ => exact p.elim
theorem q_notN : QOp cm X (fun x y H Q => y = .non ∧ Q (.bl (!decide (x = .non))) H) (isNW true) := by
  intro EX h R H x y vx vy Q hh rx ry p
  cases y with
  | non =>
    cases ry
    refine ⟨rfl, ?_⟩
    cases x <;> cases rx <;> simpa using post_v p hh (.bl _)
  | _ => exact p.elim
/-- one comparison, as a value and as a test -/
def tB (m : ME) : MT := fun ρ h => (m ρ h).bind fun x h1 => match x with
  | .bl b => .ok b h1
  | _ => .stuck
theorem qe_cmp {op : CmpOp} {r : R2} {f : F2} {a b : Expr} {ma mb : ME} {pos : Pos} (ho : OpR X (compareOp op) r) (hf : QOp cm X r f) (ha : QE cm X Wx a ma) (hb : QE cm X Wx b mb) (hm : behindInMarks op b = false) : QE cm X Wx (.Compare a [op] [b] pos) (eBin f ma mb) := by
  obtain ⟨ta, pa, sa⟩ := ha
  obtain ⟨tb, pb, sb⟩ := hb
  exact ⟨_, pe_cmpR ho pa pb hm, bin_ok hf sa sb⟩
theorem test_ok {ta : TE} {ma : ME} (sa : ∀ σ ρ h R H Q, REnv X.K H R ρ σ → RH X.K cm h R H → Post X.K cm R H (EXw cm Wx σ) (OKv X.K Q) (ma ρ h) → ta σ H Q) :
    ∀ σ ρ h R H Q, REnv X.K H R ρ σ → RH X.K cm h R H → Post X.K cm R H (EXw cm Wx σ) (OKb Q) (tB ma ρ h) → tTest ta σ H Q := fun σ ρ h R H Q hρ hh p =>
  sa σ ρ h R H _ hρ hh (Post.mono (Post.bind p) fun x h1 R1 H1 e1 x1 p1 => fun vx rx => by
    cases x with
    | bl b => cases rx; exact ⟨b, rfl, p1 R1 H1 Ext.refl x1⟩
    | _ => exact p1.elim)
theorem qt_cmp {op : CmpOp} {r : R2} {f : F2} {a b : Expr} {ma mb : ME} {pos : Pos} (ho : OpR X (compareOp op) r) (hf : QOp cm X r f) (ha : QE cm X Wx a ma) (hb : QE cm X Wx b mb) (hm : behindInMarks op b = false) : QT cm X Wx (.Compare a [op] [b] pos) (tB (eBin f ma mb)) := by
  obtain ⟨ta, pa, sa⟩ := ha
  obtain ⟨tb, pb, sb⟩ := hb
  exact ⟨_, pt_cmpR ho pa pb hm, test_ok (bin_ok hf sa sb)⟩
/-- a < b < c -/
def eChain (f g : F2) (a b c : ME) : ME := fun ρ h => (a ρ h).bind fun x h1 => (b ρ h1).bind fun y h2 => (f x y h2).bind fun k h3 => match k with
  | .bl true => (c ρ h3).bind fun z h4 => g y z h4
  | .bl false => .ok (.bl false) h3
  | _ => .stuck
theorem chain_ok {ta tb tc : TE} {r r' : R2} {f g : F2} {ma mb mc : ME} (hf : QOp cm X r f) (hg : QOp cm X r' g)
    (sa : ∀ σ ρ h R H Q, REnv X.K H R ρ σ → RH X.K cm h R H → Post X.K cm R H (EXw cm Wx σ) (OKv X.K Q) (ma ρ h) → ta σ H Q)
    (sb : ∀ σ ρ h R H Q, REnv X.K H R ρ σ → RH X.K cm h R H → Post X.K cm R H (EXw cm Wx σ) (OKv X.K Q) (mb ρ h) → tb σ H Q)
    (sc : ∀ σ ρ h R H Q, REnv X.K H R ρ σ → RH X.K cm h R H → Post X.K cm R H (EXw cm Wx σ) (OKv X.K Q) (mc ρ h) → tc σ H Q) :
    ∀ σ ρ h R H Q, REnv X.K H R ρ σ → RH X.K cm h R H → Post X.K cm R H (EXw cm Wx σ) (OKv X.K Q) (eChain f g ma mb mc ρ h) → tChain r r' ta tb tc σ H Q := fun σ ρ h R H Q hρ hh p => by
  refine sa σ ρ h R H _ hρ hh (Post.mono (Post.bind p) fun x h1 R1 H1 e1 x1 p1 => fun vx rx => ?_)
  refine sb σ ρ h1 R1 H1 _ (hρ.ext e1) x1 (Post.mono (Post.bind p1) fun y h2 R2 H2 e2 x2 p2 => fun vy ry => ?_)
  refine hf (EXw cm Wx σ) _ _ _ _ _ _ _ _ x2 (RV.ext e2 _ _ rx) ry (Post.mono (Post.bind p2) fun k h3 R3 H3 e3 x3 p3 => fun vk rk => ?_)
  cases k with
  | bl b =>
    cases rk
    refine ⟨b, rfl, ?_⟩
    cases b with
    | true =>
      rw [if_pos rfl]
      refine sc σ ρ h3 R3 H3 _ ((hρ.ext e1).ext (e2.trans e3 x3.nd)) x3 (Post.mono (Post.bind p3) fun z h4 R4 H4 e4 x4 p4 => fun vz rz => ?_)
      exact hg _ _ _ _ _ _ _ _ _ x4 (RV.ext (e3.trans e4 x4.nd) _ _ ry) rz p4
    | false =>
      rw [if_neg Bool.false_ne_true]
      exact post_v p3 x3 (.bl false)
  | _ => exact p3.elim
theorem qe_chain {op op' : CmpOp} {r r' : R2} {f g : F2} {a b c : Expr} {ma mb mc : ME} {pos : Pos} (ho : OpR X (compareOp op) r) (hf : QOp cm X r f) (ho' : OpR X (compareOp op') r') (hg : QOp cm X r' g) (ha : QE cm X Wx a ma) (hb : QE cm X Wx b mb) (hc : QE cm X Wx c mc)
    (hm : lastMarks [op, op'] [b, c] = false := by with_unfolding_all rfl) : QE cm X Wx (.Compare a [op, op'] [b, c] pos) (eChain f g ma mb mc) := by
  obtain ⟨ta, pa, sa⟩ := ha
  obtain ⟨tb, pb, sb⟩ := hb
  obtain ⟨tc, pc, sc⟩ := hc
  exact ⟨_, pe_chain ho ho' pa pb pc hm, chain_ok hf hg sa sb sc⟩
theorem qt_chain {op op' : CmpOp} {r r' : R2} {f g : F2} {a b c : Expr} {ma mb mc : ME} {pos : Pos} (ho : OpR X (compareOp op) r) (hf : QOp cm X r f) (ho' : OpR X (compareOp op') r') (hg : QOp cm X r' g) (ha : QE cm X Wx a ma) (hb : QE cm X Wx b mb) (hc : QE cm X Wx c mc)
    (hm : lastMarks [op, op'] [b, c] = false := by with_unfolding_all rfl) : QT cm X Wx (.Compare a [op, op'] [b, c] pos) (tB (eChain f g ma mb mc)) := by
  obtain ⟨ta, pa, sa⟩ := ha
  obtain ⟨tb, pb, sb⟩ := hb
  obtain ⟨tc, pc, sc⟩ := hc
  exact ⟨_, pt_chain ho ho' pa pb pc hm, test_ok (chain_ok hf hg sa sb sc)⟩

/-! ### truth, and, or, not -/
def truW (h : Hq) : W → Option Bool
  | .non => some false
  | .bl b => some b
  | .int i => some (i != 0)
  | .str x => if x.length ≤ sizeLine then some ((x.length : Int) != 0) else none
  | .tup xs => some (!xs.isEmpty)
  | .frz xs => some (!xs.isEmpty)
  | .ref n => match h[n]? with
    | some (.lst _ xs) => some (!xs.isEmpty)
    | some (.dct _ false kvs) => some (!kvs.isEmpty)
    | _ => none
def tTru (m : ME) : MT := fun ρ h => (m ρ h).bind fun x h1 => match truW h1 x with
  | some b => .ok b h1
  | none => .stuck
theorem RVs.empty {K H R} {xs : List W} {vs : List V} (r : RVs K H R xs vs) : vs.isEmpty = xs.isEmpty := by cases r <;> rfl
theorem RD.empty {K H R} {xs vs} (r : RD K H R xs vs) : vs.isEmpty = xs.isEmpty := by cases r <;> rfl
theorem truW_ok {h : Hq} {R H} {x : W} {v : V} {k : Bool} (hh : RH X.K cm h R H) (r : RV X.K H R x v) (e : truW h x = some k) : TruV X.K v H k := by
  cases x with
  | non => cases r; exact (Option.some.inj e).symm
  | bl b => cases r; exact (Option.some.inj e).symm
  | int i => cases r; exact (Option.some.inj e).symm
  | str x =>
    cases r
    unfold truW at e
    dsimp only at e
    by_cases z : x.length ≤ sizeLine
    · rw [if_pos z] at e; exact ⟨z, (Option.some.inj e).symm⟩
    · rw [if_neg z] at e; cases e
  | tup xs => cases r with | tup s rs => exact .inr (.inl ⟨_, s, by rw [rs.empty]; exact (Option.some.inj e).symm⟩)
  | frz xs => cases r with | frz s rs => exact .inl ⟨_, s.sqL, by rw [rs.empty]; exact (Option.some.inj e).symm⟩
  | ref n =>
    cases r with
    | ref q =>
      unfold truW at e
      cases z : h[n]? with
      | none => simp [z] at e
      | some o =>
        have ro := hh.get q z
        cases o with
        | lst t ys => simp only [z, Option.some.injEq] at e; subst e; cases ro with | lst a b => exact .inl ⟨_, SqL.of a, by rw [b.empty]⟩
        | dct t c kvs =>
          cases c with
          | false => simp only [z, Option.some.injEq] at e; subst e; cases ro with | dK a b => exact .inr (.inr ⟨_, a, by rw [b.empty]⟩)
          | true => simp [z] at e
        | ins _ _ => simp [z] at e
theorem qt_truth {a : Expr} {ma : ME} (ha : QE cm X Wx a ma) (he : ∀ whole, isTrue a X.env whole = (do let v ← whole; standAt a.pos; holding [v] (truthy v)) := by intro _; rfl) : QT cm X Wx a (tTru ma) := by
  obtain ⟨ta, pa, sa⟩ := ha
  refine ⟨_, pt_truth pa he, fun σ ρ h R H Q hρ hh p => ?_⟩
  refine sa σ ρ h R H _ hρ hh (Post.mono (Post.bind p) fun x h1 R1 H1 e1 x1 p1 => fun vx rx => ?_)
  cases z : truW h1 x with
  | some b => simp only [z] at p1; exact ⟨b, truW_ok x1 rx z, p1 R1 H1 Ext.refl x1⟩
  | none => simp only [z] at p1; exact p1.elim
def tAndM (a b : MT) : MT := fun ρ h => (a ρ h).bind fun k h1 => if k then b ρ h1 else .ok false h1
def tOrM (a b : MT) : MT := fun ρ h => (a ρ h).bind fun k h1 => if k then .ok true h1 else b ρ h1
def tNotM (a : MT) : MT := fun ρ h => (a ρ h).bind fun k h1 => .ok (!k) h1
theorem post_b {K cm R H EX Q} {b : Bool} {h : Hq} (p : Post K cm R H EX (OKb Q) (.ok b h)) (x : RH K cm h R H) : Q b H := p R H Ext.refl x
theorem qt_not {a : Expr} {ma : MT} {pos : Pos} (ha : QT cm X Wx a ma) (he : ∀ whole, isTrue (.UnaryOp .Not a pos) X.env whole = (do return !(← isTrue a X.env (eval a X.env))) := by intro _; rfl) : QT cm X Wx (.UnaryOp .Not a pos) (tNotM ma) := by
  obtain ⟨ta, pa, sa⟩ := ha
  refine ⟨_, pt_not pa, fun σ ρ h R H Q hρ hh p => ?_⟩
  exact sa σ ρ h R H _ hρ hh (Post.mono (Post.bind p) fun k h1 R1 H1 e1 x1 p1 => post_b p1 x1)
theorem qw_one {op : PySem.BoolOp} {a : Expr} {ma : MT} {pos : Pos} (h : ∀ t, PT X a t → PW X (.BoolOp op [a] pos) t) (ha : QT cm X Wx a ma) : QW cm X Wx (.BoolOp op [a] pos) ma := by
  obtain ⟨ta, pa, sa⟩ := ha
  exact ⟨_, h _ pa, sa⟩
theorem qw_and1 {a : Expr} {ma : MT} {pos : Pos} (ha : QT cm X Wx a ma) : QW cm X Wx (.BoolOp .And [a] pos) ma := qw_one (fun _ p => pw_and1 p) ha
theorem qw_or1 {a : Expr} {ma : MT} {pos : Pos} (ha : QT cm X Wx a ma) : QW cm X Wx (.BoolOp .Or [a] pos) ma := qw_one (fun _ p => pw_or1 p) ha
theorem qw_and {a b : Expr} {rest : List Expr} {ma mb : MT} {pos : Pos} (ha : QT cm X Wx a ma) (hb : QW cm X Wx (.BoolOp .And (b :: rest) pos) mb) : QW cm X Wx (.BoolOp .And (a :: b :: rest) pos) (tAndM ma mb) := by
  obtain ⟨ta, pa, sa⟩ := ha
  obtain ⟨tb, pb, sb⟩ := hb
  refine ⟨_, pw_and pa pb, fun σ ρ h R H Q hρ hh p => ?_⟩
  refine sa σ ρ h R H _ hρ hh (Post.mono (Post.bind p) fun k h1 R1 H1 e1 x1 p1 => ?_)
  cases k with
  | true => exact sb σ ρ h1 R1 H1 _ (hρ.ext e1) x1 p1
  | false => exact post_b p1 x1
theorem qw_or {a b : Expr} {rest : List Expr} {ma mb : MT} {pos : Pos} (ha : QT cm X Wx a ma) (hb : QW cm X Wx (.BoolOp .Or (b :: rest) pos) mb) : QW cm X Wx (.BoolOp .Or (a :: b :: rest) pos) (tOrM ma mb) := by
  obtain ⟨ta, pa, sa⟩ := ha
  obtain ⟨tb, pb, sb⟩ := hb
  refine ⟨_, pw_or pa pb, fun σ ρ h R H Q hρ hh p => ?_⟩
  refine sa σ ρ h R H _ hρ hh (Post.mono (Post.bind p) fun k h1 R1 H1 e1 x1 p1 => ?_)
  cases k with
  | true => exact post_b p1 x1
  | false => exact sb σ ρ h1 R1 H1 _ (hρ.ext e1) x1 p1
theorem QW.pt {e : Expr} {m : MT} (h : QW cm X Wx e m) : QT cm X Wx e m := by
  obtain ⟨t, p, s⟩ := h
  exact ⟨t, p.pt, s⟩
/-- as values, of True and False -/
def eAnd (a b : ME) : ME := fun ρ h => (a ρ h).bind fun x h1 => match x with
  | .bl true => b ρ h1
  | .bl false => .ok (.bl false) h1
  | _ => .stuck
def eOr (a b : ME) : ME := fun ρ h => (a ρ h).bind fun x h1 => match x with
  | .bl true => .ok (.bl true) h1
  | .bl false => b ρ h1
  | _ => .stuck
def eNot (a : ME) : ME := fun ρ h => (a ρ h).bind fun x h1 => match x with
  | .bl k => .ok (.bl (!k)) h1
  | _ => .stuck
theorem qe_one {op : PySem.BoolOp} {a : Expr} {ma : ME} {pos : Pos} (ha : QE cm X Wx a ma) : QE cm X Wx (.BoolOp op [a] pos) ma := by
  obtain ⟨ta, pa, sa⟩ := ha
  exact ⟨_, pe_one pa, sa⟩
theorem qe_and {a b : Expr} {rest : List Expr} {ma mb : ME} {pos : Pos} (ha : QE cm X Wx a ma) (hb : QE cm X Wx (.BoolOp .And (b :: rest) pos) mb) : QE cm X Wx (.BoolOp .And (a :: b :: rest) pos) (eAnd ma mb) := by
  obtain ⟨ta, pa, sa⟩ := ha
  obtain ⟨tb, pb, sb⟩ := hb
  refine ⟨_, pe_and pa pb, fun σ ρ h R H Q hρ hh p => ?_⟩
  refine sa σ ρ h R H _ hρ hh (Post.mono (Post.bind p) fun x h1 R1 H1 e1 x1 p1 => fun vx rx => ?_)
  cases x with
  | bl k =>
    cases rx
    refine ⟨k, rfl, ?_⟩
    cases k with
    | true => exact sb σ ρ h1 R1 H1 _ (hρ.ext e1) x1 p1
    | false => exact post_v p1 x1 (.bl false)
  | _ => exact p1.elim
theorem qe_or {a b : Expr} {rest : List Expr} {ma mb : ME} {pos : Pos} (ha : QE cm X Wx a ma) (hb : QE cm X Wx (.BoolOp .Or (b :: rest) pos) mb) : QE cm X Wx (.BoolOp .Or (a :: b :: rest) pos) (eOr ma mb) := by
  obtain ⟨ta, pa, sa⟩ := ha
  obtain ⟨tb, pb, sb⟩ := hb
  refine ⟨_, pe_or pa pb, fun σ ρ h R H Q hρ hh p => ?_⟩
  refine sa σ ρ h R H _ hρ hh (Post.mono (Post.bind p) fun x h1 R1 H1 e1 x1 p1 => fun vx rx => ?_)
  cases x with
  | bl k =>
    cases rx
    refine ⟨k, rfl, ?_⟩
    cases k with
    | true => exact post_v p1 x1 (.bl true)
    | false => exact sb σ ρ h1 R1 H1 _ (hρ.ext e1) x1 p1
  | _ => exact p1.elim
theorem qe_not {a : Expr} {ma : ME} {pos : Pos} (ha : QE cm X Wx a ma) : QE cm X Wx (.UnaryOp .Not a pos) (eNot ma) := by
  obtain ⟨ta, pa, sa⟩ := ha
  refine ⟨_, pe_not pa, fun σ ρ h R H Q hρ hh p => ?_⟩
  refine sa σ ρ h R H _ hρ hh (Post.mono (Post.bind p) fun x h1 R1 H1 e1 x1 p1 => fun vx rx => ?_)
  cases x with
  | bl k => cases rx; exact ⟨k, rfl, post_v p1 x1 (.bl _)⟩
  | _ => exact p1.elim
end
end Z

/-! Q: arguments, displays, calls of built-ins, subscripts, statements, loops, defs. -/
namespace Z
open PySem PySem.Spec PyProof.Rows L2
section
variable {cm : Str → Addr} {X : Cx} {Wx : WX}

/-! ### argument lists, displays -/
def aNil : MA := fun _ h => .ok [] h
def aCons (a : ME) (r : MA) : MA := fun ρ h => (a ρ h).bind fun x h1 => (r ρ h1).bind fun xs h2 => .ok (x :: xs) h2
structure QAn (cm : Str → Addr) (X : Cx) (Wx : WX) (es : List Expr) (m : MA) : Prop where
  q : QA cm X Wx es m
  len : ∀ ρ h ws h', m ρ h = .ok ws h' → ws.length = es.length
theorem qa_nil : QAn cm X Wx [] aNil := ⟨⟨_, pa_nil, fun _ _ h R H Q _ hh p => p R H Ext.refl hh [] .nil⟩, fun _ _ _ _ e => by cases e; rfl⟩
theorem qa_cons {e : Expr} {es : List Expr} {m : ME} {r : MA} (ha : QE cm X Wx e m) (hr : QAn cm X Wx es r) (hs : starEach (e :: es) X.env = (false, eval e X.env) :: starEach es X.env := by rfl) : QAn cm X Wx (e :: es) (aCons m r) := by
  obtain ⟨ta, pa, sa⟩ := ha
  obtain ⟨⟨tr, pr, sr⟩, hl⟩ := hr
  refine ⟨⟨_, pa_cons pa pr hs, fun σ ρ h R H Q hρ hh p => ?_⟩, fun ρ h ws h' e => ?_⟩
  · refine sa σ ρ h R H _ hρ hh (Post.mono (Post.bind p) fun x h1 R1 H1 e1 x1 p1 => fun vx rx => ?_)
    refine sr σ ρ h1 R1 H1 _ (hρ.ext e1) x1 (Post.mono (Post.bind p1) fun xs h2 R2 H2 e2 x2 p2 => fun vs rs => ?_)
    exact p2 R2 H2 Ext.refl x2 _ (.cons (RV.ext e2 _ _ rx) rs)
  · unfold aCons at e
    cases q1 : m ρ h with
    | ok x h1 =>
      rw [q1] at e
      cases q2 : r ρ h1 with
      | ok xs h2 =>
        have e' : Res.ok (x :: xs) h2 = Res.ok ws h' := by simpa only [Res.bind, q2] using e
        cases e'
        rw [List.length_cons, hl _ _ _ _ q2]; rfl
      | exc c h2 => simp [Res.bind, q2] at e
      | stuck => simp [Res.bind, q2] at e
    | exc c h1 => rw [q1] at e; cases e
    | stuck => rw [q1] at e; cases e
def eTup (a : MA) : ME := fun ρ h => (a ρ h).bind fun xs h1 => .ok (.tup xs) h1
theorem q_tup {es : List Expr} {m : MA} {pos : Pos} {x1} (ha : QAn cm X Wx es m) (hl : es.length ≤ sizeLine := by decide) : QE cm X Wx (.Tuple es x1 pos) (eTup m) := by
  obtain ⟨⟨t, p, s⟩, hn⟩ := ha
  refine ⟨_, pe_tup p, fun σ ρ h R H Q hρ hh pp => ?_⟩
  have pp' := Post.bind pp
  have key : ∀ (r : Res (List W)), (∀ ws h', r = .ok ws h' → ws.length = es.length) → Post X.K cm R H (EXw cm Wx σ) (fun a h1 R1 H1 => Post X.K cm R1 H1 (EXw cm Wx σ) (OKv X.K Q) (.ok (.tup a) h1)) r →
      Post X.K cm R H (EXw cm Wx σ) (OKs X.K (fun xs H1 => xs.length ≤ sizeLine ∧ ∀ q, H1 q = none → Q (.ref q) (upd H1 q (.tup xs)))) r := fun r hr pr => by
    cases r with
    | ok a h1 => exact fun R1 H1 e1 x1 vs rs => ⟨by rw [← rs.length, hr a h1 rfl]; exact hl, fun q hq => post_tup (pr R1 H1 e1 x1) x1 rs hq⟩
    | exc c h1 => exact pr
    | stuck => exact pr
  exact s σ ρ h R H _ hρ hh (key _ (fun ws h' e => hn ρ h ws h' e) pp')
def eLst (t : Nat) (a : MA) : ME := fun ρ h => (a ρ h).bind fun xs h1 => mkL t xs h1
theorem q_lst {t : Nat} {es : List Expr} {m : MA} {pos : Pos} (ha : QAn cm X Wx es m) (hl : es.length ≤ sizeLine := by decide) : QE cm X Wx (.List es pos) (eLst t m) := by
  obtain ⟨⟨tt, p, s⟩, hn⟩ := ha
  refine ⟨_, pe_lst p, fun σ ρ h R H Q hρ hh pp => ?_⟩
  have pp' := Post.bind pp
  have key : ∀ (r : Res (List W)), (∀ ws h', r = .ok ws h' → ws.length = es.length) → Post X.K cm R H (EXw cm Wx σ) (fun a h1 R1 H1 => Post X.K cm R1 H1 (EXw cm Wx σ) (OKv X.K Q) (mkL t a h1)) r →
      Post X.K cm R H (EXw cm Wx σ) (OKs X.K (fun xs H1 => xs.length ≤ sizeLine ∧ ∀ q, H1 q = none → Q (.ref q) (upd H1 q (.lst xs)))) r := fun r hr pr => by
    cases r with
    | ok a h1 => exact fun R1 H1 e1 x1 vs rs => ⟨by rw [← rs.length, hr a h1 rfl]; exact hl, fun q hq => post_lst (pr R1 H1 e1 x1) x1 rs hq⟩
    | exc c h1 => exact pr
    | stuck => exact pr
  exact s σ ρ h R H _ hρ hh (key _ (fun ws h' e => hn ρ h ws h' e) pp')

/-! ### calls of built-ins by values -/
def QCl (cm : Str → Addr) (X : Cx) (r : List V → Hp → VK → Prop) (f : MF) : Prop := ∀ (EX : Str → Hp → Prop) h R H xs vs Q, RH X.K cm h R H → RVs X.K H R xs vs → Post X.K cm R H EX (OKv X.K Q) (f xs h) → r vs H Q
def eCB (f : MF) (a : MA) : ME := fun ρ h => (a ρ h).bind fun xs h1 => f xs h1
theorem cb_ok {t : TA} {m : MA} {r : List V → Hp → VK → Prop} {f : MF} (hf : QCl cm X r f) (s : ∀ σ ρ h R H Q, REnv X.K H R ρ σ → RH X.K cm h R H → Post X.K cm R H (EXw cm Wx σ) (OKs X.K Q) (m ρ h) → t σ H Q) :
    ∀ σ ρ h R H Q, REnv X.K H R ρ σ → RH X.K cm h R H → Post X.K cm R H (EXw cm Wx σ) (OKv X.K Q) (eCB f m ρ h) → tCB r t σ H Q := fun σ ρ h R H Q hρ hh p =>
  s σ ρ h R H _ hρ hh (Post.mono (Post.bind p) fun xs h1 R1 H1 e1 x1 p1 => fun vs rs => hf _ _ _ _ _ _ _ x1 rs p1)
theorem q_cb {x : Str} {p pos : Pos} {e : Expr} {es : List Expr} {id : String} {r : List V → Hp → VK → Prop} {f : MF} {m : MA} (hc : CallR X (.builtin id) r) (hf : QCl cm X r f) (hg : Gl X x) (hm : X.mg x = none) (hv : bootBuiltins x = some (.builtin id)) (ha : QAn cm X Wx (e :: es) m) (hn : x ≠ "__name__" := by decide) (hdb : (x == ("__debug__" : Str)) = false := by decide) (he : starEach (e :: es) X.env = (false, eval e X.env) :: starEach es X.env := by rfl) (hpl : (backTo pos (starEach es X.env)).any (·.1) = false := by rfl) :
    QE cm X Wx (.Call (.Name x p) (e :: es) [] pos) (eCB f m) := by
  obtain ⟨⟨t, pa, s⟩, _⟩ := ha
  exact ⟨_, pe_callB hc hg hm hv pa hn hdb he hpl, cb_ok hf s⟩
theorem q_cty {x : Str} {p pos : Pos} {e : Expr} {es : List Expr} {T : String} {r : List V → Hp → VK → Prop} {f : MF} {m : MA} (hc : CallR X (.type T) r) (hf : QCl cm X r f) (hg : Gl X x) (hm : X.mg x = none) (hv : bootBuiltins x = some (.type T)) (ha : QAn cm X Wx (e :: es) m) (hn : x ≠ "__name__" := by decide) (hdb : (x == ("__debug__" : Str)) = false := by decide) (he : starEach (e :: es) X.env = (false, eval e X.env) :: starEach es X.env := by rfl) (hpl : (backTo pos (starEach es X.env)).any (·.1) = false := by rfl) :
    QE cm X Wx (.Call (.Name x p) (e :: es) [] pos) (eCB f m) := by
  obtain ⟨⟨t, pa, s⟩, _⟩ := ha
  exact ⟨_, pe_callTy hc hg hm hv pa hn hdb he hpl, cb_ok hf s⟩
/-- len -/
def lenW : MF := fun xs h => match xs with
  | [.str x] => if x.length ≤ sizeLine then .ok (.int x.length) h else .stuck
  | [.tup ys] => .ok (.int ys.length) h
  | [.frz ys] => .ok (.int ys.length) h
  | [.ref n] => match h[n]? with
    | some (.lst _ ys) => .ok (.int ys.length) h
    | some (.dct _ false kvs) => .ok (.int kvs.length) h
    | _ => .stuck
  | _ => .stuck
theorem RD.length {K H R} {xs vs} (r : RD K H R xs vs) : xs.length = vs.length := by
  induction r with
  | nil => rfl
  | cons _ _ _ ih => simp [ih]
theorem RT.length {K H R} {xs vs} (r : RT K H R xs vs) : xs.length = vs.length := by
  induction r with
  | nil => rfl
  | cons _ _ _ ih => simp [ih]
theorem call_lenW : CallR X (.builtin "len") (fun xs H Q => (∃ x n, xs = [x] ∧ LenV X.K x H n ∧ Q (.int n) H) ∨ ∃ a kvs, xs = [V.ref a] ∧ H a = some (.dK kvs) ∧ Q (.int kvs.length) H) := CallR.or call_len call_lenD
theorem q_lenW : QCl cm X (fun xs H Q => (∃ x n, xs = [x] ∧ LenV X.K x H n ∧ Q (.int n) H) ∨ ∃ a kvs, xs = [V.ref a] ∧ H a = some (.dK kvs) ∧ Q (.int kvs.length) H) lenW := by
  intro EX h R H xs vs Q hh rs p
  unfold lenW at p
  split at p
  · rename_i x
    cases rs with | cons a b =>
    cases a; cases b
    split at p
    · rename_i z; exact .inl ⟨_, x.length, rfl, ⟨z, rfl⟩, post_v p hh (.int _)⟩
    · exact p.elim
  · rename_i ys
    cases rs with | cons a b =>
    cases b
    cases a with
    | tup s r => exact .inl ⟨_, ys.length, rfl, .inr ⟨_, s, r.length⟩, post_v p hh (.int _)⟩
  · rename_i ys
    cases rs with | cons a b =>
    cases b
    cases a with
    | frz s r => exact .inl ⟨_, ys.length, rfl, .inl ⟨_, s.sqL, r.length⟩, post_v p hh (.int _)⟩
  · rename_i n
    cases rs with | cons a b =>
    cases b
    cases a with
    | ref q =>
      cases z : h[n]? with
      | none => simp only [z] at p; exact p.elim
      | some o =>
        have ro := hh.get q z
        simp only [z] at p
        cases o with
        | lst t ys => cases ro with | lst a b => exact .inl ⟨_, ys.length, rfl, .inl ⟨_, SqL.of a, b.length⟩, post_v p hh (.int _)⟩
        | dct t c kvs =>
          cases c with
          | false => cases ro with | dK a b => exact .inr ⟨_, _, rfl, a, by rw [← b.length]; exact post_v p hh (.int _)⟩
          | true => exact p.elim
        | ins _ _ => exact p.elim
  · exact p.elim
def absW : MF := fun xs h => match xs with
  | [.int i] => .ok (.int (if i < 0 then -i else i)) h
  | _ => .stuck
theorem q_absW : QCl cm X (fun xs H Q => ∃ i, xs = [.int i] ∧ Q (.int (if i < 0 then -i else i)) H) absW := by
  intro EX h R H xs vs Q hh rs p
  unfold absW at p
  split at p
  · cases rs with | cons a b => cases a; cases b; exact ⟨_, rfl, post_v p hh (.int _)⟩
  · exact p.elim
def max2W : MF := fun xs h => match xs with
  | [.int i, .int j] => .ok (.int (if j > i then j else i)) h
  | _ => .stuck
theorem q_max2W : QCl cm X (fun xs H Q => ∃ i j, xs = [.int i, .int j] ∧ Q (.int (if j > i then j else i)) H) max2W := by
  intro EX h R H xs vs Q hh rs p
  unfold max2W at p
  split at p
  · cases rs with | cons a b => cases a; cases b with | cons a b => cases a; cases b; exact ⟨_, _, rfl, post_v p hh (.int _)⟩
  · exact p.elim
def min2W : MF := fun xs h => match xs with
  | [.int i, .int j] => .ok (.int (if j < i then j else i)) h
  | _ => .stuck
theorem q_min2W : QCl cm X (fun xs H Q => ∃ i j, xs = [.int i, .int j] ∧ Q (.int (if j < i then j else i)) H) min2W := by
  intro EX h R H xs vs Q hh rs p
  unfold min2W at p
  split at p
  · cases rs with | cons a b => cases a; cases b with | cons a b => cases a; cases b; exact ⟨_, _, rfl, post_v p hh (.int _)⟩
  · exact p.elim
def intcW : MF := fun xs h => match xs with
  | [.int i] => .ok (.int i) h
  | [.bl k] => .ok (.int (if k then 1 else 0)) h
  | _ => .stuck
theorem q_intcW : QCl cm X (fun xs H Q => (∃ i, xs = [.int i] ∧ Q (.int i) H) ∨ ∃ k, xs = [.bl k] ∧ Q (.int (if k then 1 else 0)) H) intcW := by
  intro EX h R H xs vs Q hh rs p
  unfold intcW at p
  split at p
  · cases rs with | cons a b => cases a; cases b; exact .inl ⟨_, rfl, post_v p hh (.int _)⟩
  · cases rs with | cons a b => cases a; cases b; exact .inr ⟨_, rfl, post_v p hh (.int _)⟩
  · exact p.elim
def ordcW : MF := fun xs h => match xs with
  | [.str x] => if x.length = 1 then .ok (.int (x.cps.getD 0 0 : Nat)) h else .stuck
  | _ => .stuck
theorem q_ordcW : QCl cm X (fun xs H Q => ∃ x, xs = [.str x] ∧ x.length = 1 ∧ Q (.int (x.cps.getD 0 0 : Nat)) H) ordcW := by
  intro EX h R H xs vs Q hh rs p
  unfold ordcW at p
  split at p
  · cases rs with | cons a b =>
    cases a; cases b
    split at p
    · rename_i z; exact ⟨_, rfl, z, post_v p hh (.int _)⟩
    · exact p.elim
  · exact p.elim

/-! ### isinstance, of a built-in class or an own class -/
/-- the type of a value; own: which classes' instances may be asked -/
def tyW (h : Hq) : W → Option (String ⊕ Str)
  | .non => some (.inl "NoneType")
  | .bl _ => some (.inl "bool")
  | .int _ => some (.inl "int")
  | .str _ => some (.inl "str")
  | .tup _ => some (.inl "tuple")
  | .frz _ => some (.inl "list")
  | .ref n => match h[n]? with
    | some (.lst _ _) => some (.inl "list")
    | some (.dct _ _ _) => some (.inl "dict")
    | some (.ins c _) => some (.inr c)
    | none => none
def isiW (T : String) (a : ME) : ME := fun ρ h => (a ρ h).bind fun x h1 => match tyW h1 x with
  | some (.inl s) => match kitB s T with
    | some b => .ok (.bl b) h1
    | none => .stuck
  | some (.inr _) => if isiTs.contains T then .ok (.bl false) h1 else .stuck
  | none => .stuck
theorem tyW_ok {h : Hq} {R H} {x : W} {v : V} {s : String} (hh : RH X.K cm h R H) (r : RV X.K H R x v) (e : tyW h x = some (.inl s)) : TyX X.K H v (.type s) := by
  cases x with
  | non => cases r; cases e; exact .base .non
  | bl b => cases r; cases e; exact .base (.bl _)
  | int i => cases r; cases e; exact .base (.int _)
  | str i => cases r; cases e; exact .base (.str _)
  | tup xs =>
    cases e
    cases r with
    | tup sq rs =>
      rcases sq with (sq | ⟨o, sq⟩) | ⟨o, its, n, hk, hc, _⟩
      · exact .base (.tup sq)
      · exact .fTuple sq
      · exact .kTuple hk hc
  | frz xs =>
    cases e
    cases r with
    | frz s rs =>
      rcases s with ⟨o, s⟩ | ⟨o, its, n, hk, hc, _⟩
      · exact .base (.frz s)
      · exact .kList hk hc
  | ref n =>
    cases r with
    | ref q =>
      unfold tyW at e
      cases z : h[n]? with
      | none => simp [z] at e
      | some o =>
        have ro := hh.get q z
        simp only [z] at e
        cases o with
        | lst t ys => cases e; cases ro with | lst a b => exact .base (.lst a)
        | dct t c kvs =>
          cases e
          cases c with
          | false => cases ro with | dK a b => exact .base (.dK a)
          | true => cases ro with | dT a b => exact .base (.dT a)
        | ins _ _ => cases e
theorem q_isi {T : String} {e : Expr} {m : ME} {x y : Str} {p py pos : Pos} (hg : Gl X x) (hm : X.mg x = none) (hv : bootBuiltins x = some (.builtin "isinstance"))
    (hgy : Gl X y) (hmy : X.mg y = none) (hvy : bootBuiltins y = some (.type T)) (ha : QE cm X Wx e m) (hny : y ≠ "__name__" := by decide) (hd : (y == ("__debug__" : Str)) = false := by decide)
    (hs1 : starEach [e, .Name y py] X.env = (false, eval e X.env) :: starEach [.Name y py] X.env := by rfl) (hs2 : starEach [.Name y py] X.env = (false, eval (.Name y py) X.env) :: starEach [] X.env := by rfl)
    (hnx : x ≠ "__name__" := by decide) (hdx : (x == ("__debug__" : Str)) = false := by decide) (hpl : (backTo pos (starEach [.Name y py] X.env)).any (·.1) = false := by rfl) :
    QE cm X Wx (.Call (.Name x p) [e, .Name y py] [] pos) (isiW T m) := by
  obtain ⟨ta, pa, sa⟩ := ha
  refine ⟨_, pe_callB call_isi hg hm hv (pa_cons pa (pa_cons (pe_bltn (v := .ty T) hgy hmy hvy rfl hny hd) pa_nil hs2) hs1) hnx hdx hs1 hpl, fun σ ρ h R H Q hρ hh p => ?_⟩
  refine sa σ ρ h R H _ hρ hh (Post.mono (Post.bind p) fun w h1 R1 H1 e1 x1 p1 => fun v r => ?_)
  cases z : tyW h1 w with
  | none => simp only [z] at p1; exact p1.elim
  | some k =>
    simp only [z] at p1
    cases k with
    | inl s =>
      dsimp only at p1
      cases z2 : kitB s T with
      | none => simp only [z2] at p1; exact p1.elim
      | some b =>
        simp only [z2] at p1
        exact ⟨v, .ty T, _, _, b, rfl, .ty T, tyW_ok x1 r z, kit_ty z2, post_v p1 x1 (.bl b)⟩
    | inr c =>
      dsimp only at p1
      split at p1
      · rename_i hc
        have hc' : T ∈ isiTs := by simpa using hc
        cases w with
        | ref n =>
          cases r with
          | ref q =>
            unfold tyW at z
            cases zz : h1[n]? with
            | none => simp [zz] at z
            | some o =>
              simp only [zz] at z
              cases o with
              | ins c' fs =>
                simp only [Option.some.injEq, Sum.inr.injEq] at z
                subst z
                cases x1.get q zz with
                | ins a b I => exact ⟨_, .ty T, _, _, false, rfl, .ty T, .base (.ins a I.cl I.ha I.hn I.htk I.hm), I.no T hc', post_v p1 x1 (.bl false)⟩
              | _ => cases z
        | _ => cases z
      · exact p1.elim

/-! ### subscripts -/
theorem atI_rv {K H R} {ws : List W} {vs : List V} {i : Int} {w : W} (r : RVs K H R ws vs) (e : atI ws i = some w) : ∃ v, atI vs i = some v ∧ RV K H R w v := by
  unfold atI at e ⊢
  rw [← r.length]
  cases q : ixN ws.length i with
  | none => rw [q] at e; cases e
  | some j =>
    rw [q] at e
    obtain ⟨v, a, b⟩ := r.get e
    exact ⟨v, a, b⟩
def ixW : F2 := fun x y h => match x, y with
  | .tup xs, .int i => match atI xs i with
    | some w => .ok w h
    | none => .stuck
  | .str z, .int i => if z.length ≤ sizeLine then (match atI z.cps.toList i with
    | some c => .ok (.str ⟨#[c]⟩) h
    | none => .stuck) else .stuck
  | x, .int i => match asL h x with
    | some xs => match atI xs i with
      | some w => .ok w h
      | none => .stuck
    | none => .stuck
  | _, _ => .stuck
theorem q_ixW : QOp cm X (rIx X.K) ixW := by
  intro EX h R H x y vx vy Q hh rx ry p
  unfold ixW at p
  split at p
  · rename_i xs i
    cases ry
    cases rx with
    | tup s r =>
      split at p
      · rename_i w e
        obtain ⟨v, a, b⟩ := atI_rv r e
        exact .inr (.inl ⟨_, _, i, v, rfl, rfl, s, a, post_v p hh b⟩)
      · exact p.elim
  · rename_i z i
    cases ry; cases rx
    split at p
    · rename_i hz
      split at p
      · rename_i c e; exact .inr (.inr ⟨z, i, c, rfl, rfl, hz, e, post_v p hh (.str _)⟩)
      · exact p.elim
    · exact p.elim
  · rename_i n i _ _
    cases ry
    split at p
    · rename_i xs e0
      split at p
      · rename_i w e
        obtain ⟨a, vs, rfl, s, r⟩ := asL_ok hh rx e0
        obtain ⟨v, q, b⟩ := atI_rv r e
        exact .inl ⟨a, vs, i, v, rfl, rfl, s, q, post_v p hh b⟩
      · exact p.elim
    · exact p.elim
  · exact p.elim
theorem q_ix {a b : Expr} {ma mb : ME} {pos : Pos} (ha : QE cm X Wx a ma) (hb : QE cm X Wx b mb) (hs : PlainIx b := by intro _ _; rfl) : QE cm X Wx (.Subscript a b pos) (eBin ixW ma mb) := by
  obtain ⟨ta, pa, sa⟩ := ha
  obtain ⟨tb, pb, sb⟩ := hb
  exact ⟨_, pe_ix ix_seq pa pb hs, bin_ok q_ixW sa sb⟩
/-- slices -/
abbrev MO := Ev → Hq → Res (Option Int)
def oNone : MO := fun _ h => .ok none h
def oSome (a : ME) : MO := fun ρ h => (a ρ h).bind fun x h1 => match x with
  | .int i => .ok (some i) h1
  | _ => .stuck
def QO (cm : Str → Addr) (X : Cx) (Wx : WX) (e : Option Expr) (m : MO) : Prop := ∃ t, PO X e t ∧ ∀ σ ρ h R H Q, REnv X.K H R ρ σ → RH X.K cm h R H → Post X.K cm R H (EXw cm Wx σ) (fun o _ _ H' => Q o H') (m ρ h) → t σ H Q
theorem qo_none : QO cm X Wx none oNone := ⟨_, po_none, fun σ ρ h R H Q _ hh p => p R H Ext.refl hh⟩
theorem qo_some {e : Expr} {m : ME} (ha : QE cm X Wx e m) : QO cm X Wx (some e) (oSome m) := by
  obtain ⟨t, p, s⟩ := ha
  refine ⟨_, po_some p, fun σ ρ h R H Q hρ hh pp => ?_⟩
  refine s σ ρ h R H _ hρ hh (Post.mono (Post.bind pp) fun x h1 R1 H1 e1 x1 p1 => fun v r => ?_)
  cases x with
  | int i => cases r; exact ⟨i, rfl, p1 R1 H1 Ext.refl x1⟩
  | _ => exact p1.elim
def cutL {α : Type} (xs : List α) (lo hi : Option Int) : List α := (xs.drop (HT.sIx xs.length 0 lo)).take (HT.sIx xs.length xs.length hi - HT.sIx xs.length 0 lo)
def slW (t : Nat) (x : W) (lo hi : Option Int) (h : Hq) : Res W := match x with
  | .tup xs => .ok (.tup (cutL xs lo hi)) h
  | .str z => if z.length ≤ sizeLine then .ok (.str (cutS z lo hi)) h else .stuck
  | x => match asL h x with
    | some xs => mkL t (cutL xs lo hi) h
    | none => .stuck
def eSl (t : Nat) (a : ME) (lo hi : MO) : ME := fun ρ h => (a ρ h).bind fun x h1 => (lo ρ h1).bind fun l h2 => (hi ρ h2).bind fun u h3 => slW t x l u h3
theorem sl_any : SlR X (fun x lo hi H Q => rSlL X.K x lo hi H Q ∨ (rSlS x lo hi H Q ∨ rSlA X.K x lo hi H Q)) := SlR.or sl_list (SlR.or sl_str sl_tupA)
theorem cut_rv {K H R} {ws : List W} {vs : List V} (r : RVs K H R ws vs) (lo hi : Option Int) : RVs K H R (cutL ws lo hi) (cutV vs lo hi) := by
  unfold cutL cutV
  rw [r.length]
  exact (r.drop _).take _
theorem cut_all {α : Type} {xs : List α} {lo hi : Option Int} (h : HT.sIx xs.length 0 lo = 0 ∧ HT.sIx xs.length xs.length hi = xs.length) : cutL xs lo hi = xs := by
  unfold cutL
  rw [h.1, h.2]; simp
theorem q_sl {t : Nat} {a : Expr} {lo hi : Option Expr} {ma : ME} {ml mh : MO} {p2 pos : Pos} (ha : QE cm X Wx a ma) (hl : QO cm X Wx lo ml) (hu : QO cm X Wx hi mh) : QE cm X Wx (.Subscript a (.Slice lo hi none p2) pos) (eSl t ma ml mh) := by
  obtain ⟨ta, pa, sa⟩ := ha
  obtain ⟨tl, pl, sl⟩ := hl
  obtain ⟨tu, pu, su⟩ := hu
  refine ⟨_, pe_slice sl_any pa pl pu, fun σ ρ h R H Q hρ hh p => ?_⟩
  refine sa σ ρ h R H _ hρ hh (Post.mono (Post.bind p) fun x h1 R1 H1 e1 x1 p1 => fun vx rx => ?_)
  refine sl σ ρ h1 R1 H1 _ (hρ.ext e1) x1 (Post.mono (Post.bind p1) fun l h2 R2 H2 e2 x2 p2 => ?_)
  refine su σ ρ h2 R2 H2 _ ((hρ.ext e1).ext e2) x2 (Post.mono (Post.bind p2) fun u h3 R3 H3 e3 x3 p3 => ?_)
  have r := RV.ext (e2.trans e3 x3.nd) _ _ rx
  unfold slW at p3
  split at p3
  · rename_i xs
    cases r with
    | tup s rs =>
      refine .inr (.inr ⟨_, _, rfl, s, fun e => ?_, fun e q hq => post_tup p3 x3 (cut_rv rs l u) hq⟩)
      rw [← rs.length] at e
      rw [cut_all e] at p3
      exact post_v p3 x3 (.tup s rs)
  · rename_i z
    cases r
    split at p3
    · rename_i hz; exact .inr (.inl ⟨z, rfl, hz, post_v p3 x3 (.str _)⟩)
    · exact p3.elim
  · split at p3
    · rename_i xs e0
      obtain ⟨a, vs, rfl, s, rs⟩ := asL_ok x3 r e0
      exact .inl ⟨a, vs, rfl, s, fun q hq => post_lst p3 x3 (cut_rv rs l u) hq⟩
    · exact p3.elim

/-! ### statements -/
def thenS (r : RS) (f : Ev → Hq → RS) : RS := match r with
  | .ok .nx ρ h => f ρ h
  | r => r
def sNop : MS := fun ρ h => .ok .nx ρ h
def sSeq (a b : MS) : MS := fun ρ h => thenS (a ρ h) b
theorem PostS.then_ {R H D} {r : RS} {f : Ev → Hq → RS} {u : TS} (h : PostS cm X Wx R H D (thenS r f)) (hu : ∀ σ ρ h R H D, REnv X.K H R ρ σ → RH X.K cm h R H → PostS cm X Wx R H D (f ρ h) → u D σ H) :
    PostS cm X Wx R H { D with nx := u D } r := by
  cases r with
  | ok fl ρ h1 =>
    cases fl with
    | nx => exact fun R' H' σ' e x rr => hu σ' ρ h1 R' H' D rr x (PostS.from_ e h)
    | bk => exact h
    | ct => exact h
    | rt w => exact h
  | exc c ρ h1 => exact h
  | stuck => exact h
theorem qb_nil : QB cm X Wx [] sNop := ⟨_, pss_nil, fun σ ρ h R H D hρ hh p => p R H σ Ext.refl hh hρ⟩
theorem qb_cons {st : Stmt} {rest : List Stmt} {a b : MS} (h1 : QS cm X Wx st a) (h2 : QB cm X Wx rest b) : QB cm X Wx (st :: rest) (sSeq a b) := by
  obtain ⟨t, p, s⟩ := h1
  obtain ⟨u, q, v⟩ := h2
  exact ⟨_, pss_cons p q, fun σ ρ h R H D hρ hh pp => s σ ρ h R H _ hρ hh (PostS.then_ pp v)⟩
theorem qb_one {st : Stmt} {a : MS} (h1 : QS cm X Wx st a) : QB cm X Wx [st] a := by
  obtain ⟨t, p, s⟩ := h1
  exact ⟨_, pss_one p, s⟩
def sExpr (a : ME) : MS := fun ρ h => (a ρ h).toS ρ fun _ h1 => .ok .nx ρ h1
theorem qs_expr {e : Expr} {m : ME} {pos : Pos} (he : QE cm X Wx e m) (hs : swapsWith e none pos.line X.env = pure false := by rfl) : QS cm X Wx (.Expr e pos) (sExpr m) := by
  obtain ⟨t, p, s⟩ := he
  refine ⟨_, ps_expr p hs, fun σ ρ h R H D hρ hh pp => ?_⟩
  exact s σ ρ h R H _ hρ hh (Post.mono (PostS.toS hρ pp) fun a h1 R1 H1 e1 x1 p1 => fun v r => p1 R1 H1 σ Ext.refl x1 (hρ.ext e1))
theorem qs_doc {x j pos pos'} : QS cm X Wx (.Expr (.Constant (.str x) j pos) pos') sNop := ⟨_, ps_doc, fun σ ρ h R H D hρ hh p => p R H σ Ext.refl hh hρ⟩
def sRet (a : ME) : MS := fun ρ h => (a ρ h).toS ρ fun w h1 => .ok (.rt w) ρ h1
theorem qs_ret {e : Expr} {m : ME} {pos : Pos} (he : QE cm X Wx e m) : QS cm X Wx (.Return (some e) pos) (sRet m) := by
  obtain ⟨t, p, s⟩ := he
  refine ⟨_, ps_ret p, fun σ ρ h R H D hρ hh pp => ?_⟩
  exact s σ ρ h R H _ hρ hh (Post.mono (PostS.toS hρ pp) fun a h1 R1 H1 e1 x1 p1 => fun v r => p1 R1 H1 σ Ext.refl x1 (hρ.ext e1) v r)
def sRetN : MS := fun ρ h => .ok (.rt .non) ρ h
theorem qs_retN {pos : Pos} : QS cm X Wx (.Return none pos) sRetN := ⟨_, ps_retN, fun σ ρ h R H D hρ hh p => p R H σ Ext.refl hh hρ _ .non⟩
theorem qs_pass {pos : Pos} : QS cm X Wx (.Pass pos) sNop := ⟨_, ps_pass, fun σ ρ h R H D hρ hh p => p R H σ Ext.refl hh hρ⟩
def sBrk : MS := fun ρ h => .ok .bk ρ h
theorem qs_break {pos : Pos} : QS cm X Wx (.Break pos) sBrk := ⟨_, ps_break, fun σ ρ h R H D hρ hh p => p R H σ Ext.refl hh hρ⟩
def sCont : MS := fun ρ h => .ok .ct ρ h
theorem qs_continue {pos : Pos} : QS cm X Wx (.Continue pos) sCont := ⟨_, ps_continue, fun σ ρ h R H D hρ hh p => p R H σ Ext.refl hh hρ⟩
def sIf (c : MT) (a b : MS) : MS := fun ρ h => (c ρ h).toS ρ fun k h1 => if k then a ρ h1 else b ρ h1
theorem qs_if {c : Expr} {a b : List Stmt} {mc : MT} {ma mb : MS} {pos : Pos} (hc : QT cm X Wx c mc) (ha : QB cm X Wx a ma) (hb : QB cm X Wx b mb) : QS cm X Wx (.If c a b pos) (sIf mc ma mb) := by
  obtain ⟨tc, pc, sc⟩ := hc
  obtain ⟨ta, pa, sa⟩ := ha
  obtain ⟨tb, pb, sb⟩ := hb
  refine ⟨_, ps_if pc pa pb, fun σ ρ h R H D hρ hh pp => ?_⟩
  refine sc σ ρ h R H _ hρ hh (Post.mono (PostS.toS hρ pp) fun k h1 R1 H1 e1 x1 p1 => ?_)
  cases k with
  | true => exact sa σ ρ h1 R1 H1 D (hρ.ext e1) x1 p1
  | false => exact sb σ ρ h1 R1 H1 D (hρ.ext e1) x1 p1
/-! targets -/
abbrev MG := W → Ev → Option Ev
def QG (X : Cx) (tg : Expr) (g : MG) : Prop := ∃ t, PG X tg t ∧ ∀ σ ρ R H w v Q, REnv X.K H R ρ σ → RV X.K H R w v → (match g w ρ with
  | some ρ' => ∀ σ', REnv X.K H R ρ' σ' → Q σ' H
  | none => False) → t v σ H Q
def gN (i : Nat) : MG := fun w ρ => some (ρ.set i (some w))
theorem qg_name (i : Nat) {x : Str} {pos : Pos} (hN : X.N.Nodup) (hi : X.N[i]? = some x := by rfl) (hx : Loc X.env.scope x := by first | exact Or.inl rfl | exact Or.inr rfl) (hf : X.fn x = true ∨ X.env.scope.names.lookup x = some .local := by first | exact .inl rfl | exact .inr rfl | assumption) : QG X (.Name x pos) (gN i) :=
  ⟨_, pg_name hN hi hx hf, fun σ ρ R H w v Q hρ r p => p _ (hρ.set i r)⟩
abbrev MGs := List W → Ev → Option Ev
def QGs (X : Cx) (ts : List Expr) (g : MGs) : Prop := ∃ t, PGs X ts t ∧ ∀ σ ρ R H ws vs Q, REnv X.K H R ρ σ → RVs X.K H R ws vs → (match g ws ρ with
  | some ρ' => ∀ σ', REnv X.K H R ρ' σ' → Q σ' H
  | none => False) → t vs σ H Q
def gsNil : MGs := fun ws ρ => match ws with
  | [] => some ρ
  | _ => none
def gsCons (a : MG) (r : MGs) : MGs := fun ws ρ => match ws with
  | w :: ws => match a w ρ with
    | some ρ' => r ws ρ'
    | none => none
  | [] => none
theorem qgs_nil : QGs X [] gsNil := ⟨_, pgs_nil, fun σ ρ R H ws vs Q hρ r p => by
  cases r with
  | nil => exact ⟨rfl, p σ hρ⟩
  | cons _ _ => exact p.elim⟩
theorem qgs_cons {e : Expr} {es : List Expr} {a : MG} {r : MGs} (h1 : QG X e a) (h2 : QGs X es r) (hs : (assignEach (e :: es) X.env).map (·.2) = assign e X.env :: (assignEach es X.env).map (·.2) := by rfl) : QGs X (e :: es) (gsCons a r) := by
  obtain ⟨t, p, s⟩ := h1
  obtain ⟨u, q, v⟩ := h2
  refine ⟨_, pgs_cons p q hs, fun σ ρ R H ws vs Q hρ rr pp => ?_⟩
  cases rr with
  | nil => exact pp.elim
  | @cons x v1 xs vs x1 y =>
    refine ⟨_, _, rfl, s σ ρ R H x v1 _ hρ x1 ?_⟩
    have e : gsCons a r (x :: xs) ρ = (match a x ρ with
      | some ρ' => r xs ρ'
      | none => none) := rfl
    rw [e] at pp
    cases q2 : a x ρ with
    | some ρ' =>
      simp only [q2] at pp
      exact fun σ' hρ' => v σ' ρ' R H _ _ _ hρ' y pp
    | none => simp only [q2] at pp
def gT (n : Nat) (g : MGs) : MG := fun w ρ => match w with
  | .tup xs => if xs.length = n then g xs ρ else none
  | _ => none
theorem qg_tup {es : List Expr} {k : Nat} {g : MGs} {n : Nat} {pos : Pos} (hc : X.calm = true) (h : QGs X es g) (hn : (assignEach es X.env).length = n := by rfl) (hst : (assignEach es X.env).findIdx? (·.1) = none := by rfl) : QG X (.Tuple es k pos) (gT n g) := by
  obtain ⟨t, p, s⟩ := h
  refine ⟨_, pg_tup hc p hn hst, fun σ ρ R H w v Q hρ r pp => ?_⟩
  cases w with
  | tup xs =>
    cases r with
    | tup sq rs =>
      unfold gT at pp
      dsimp only at pp
      by_cases e : xs.length = n
      · rw [if_pos e] at pp
        exact ⟨_, _, rfl, sq, rs.length.symm.trans e, s σ ρ R H _ _ _ hρ rs pp⟩
      · rw [if_neg e] at pp; exact pp.elim
  | _ => exact pp.elim
def sAsg (a : ME) (g : MG) : MS := fun ρ h => (a ρ h).toS ρ fun w h1 => match g w ρ with
  | some ρ' => .ok .nx ρ' h1
  | none => .stuck
theorem asg_ok {te : TE} {tg : TG} {m : ME} {g : MG} (s : ∀ σ ρ h R H Q, REnv X.K H R ρ σ → RH X.K cm h R H → Post X.K cm R H (EXw cm Wx σ) (OKv X.K Q) (m ρ h) → te σ H Q)
    (sg : ∀ σ ρ R H w v Q, REnv X.K H R ρ σ → RV X.K H R w v → (match g w ρ with
      | some ρ' => ∀ σ', REnv X.K H R ρ' σ' → Q σ' H
      | none => False) → tg v σ H Q) : ∀ σ ρ h R H D, REnv X.K H R ρ σ → RH X.K cm h R H → PostS cm X Wx R H D (sAsg m g ρ h) → tAsg te tg D σ H := fun σ ρ h R H D hρ hh pp =>
  s σ ρ h R H _ hρ hh (Post.mono (PostS.toS hρ pp) fun w h1 R1 H1 e1 x1 p1 => fun v r => sg σ ρ R1 H1 w v _ (hρ.ext e1) r (by
    cases q : g w ρ with
    | some ρ' => simp only [q] at p1; exact fun σ' hρ' => p1 R1 H1 σ' Ext.refl x1 hρ'
    | none => simp only [q] at p1; exact p1.elim))
theorem qs_asg {tg e : Expr} {m : ME} {g : MG} {pos : Pos} (he : QE cm X Wx e m) (hg : QG X tg g) (hs : swapsWithSole [tg] e pos.line X.env = pure false := by rfl) (hw : swappedStores [tg] e X.env = pure none := by rfl)
    (h1 : (assignEach [tg] X.env).map (·.2) = [assign tg X.env] := by rfl) : QS cm X Wx (.Assign [tg] e pos) (sAsg m g) := by
  obtain ⟨te, pe, s⟩ := he
  obtain ⟨t, p, sg⟩ := hg
  exact ⟨_, ps_asg pe p hs hw h1, asg_ok s sg⟩
theorem qs_set (i : Nat) {x : Str} {e : Expr} {m : ME} {pos pos' : Pos} (hN : X.N.Nodup) (he : QE cm X Wx e m) (hi : X.N[i]? = some x := by rfl) (hx : Loc X.env.scope x := by first | exact Or.inl rfl | exact Or.inr rfl)
    (hs : swapsWith e (some (.Name x pos')) pos.line X.env = pure false := by rfl) (hf : X.fn x = true ∨ X.env.scope.names.lookup x = some .local := by first | exact .inl rfl | exact .inr rfl | assumption) : QS cm X Wx (.Assign [.Name x pos'] e pos) (sAsg m (gN i)) := by
  obtain ⟨te, pe, s⟩ := he
  exact ⟨_, ps_set hN hi hx pe hs hf, asg_ok s fun σ ρ R H w v Q hρ r p => p _ (hρ.set i r)⟩

/-! ### what is walked -/
/-- the items, and what must hold of the heap at each turn -/
structure Src where
  items : List W
  chk : Hq → Bool
abbrev MI := Ev → Hq → Res Src
def JRel (cm : Str → Addr) (X : Cx) (R1 : List Addr) (H1 : Hp) (s : Src) (J : It) : Prop :=
  ∀ i h2 R2 H2, Ext X.K R1 H1 R2 H2 → RH X.K cm h2 R2 H2 → s.chk h2 = true → (∀ w, s.items[i]? = some w → J.go i H2 ∧ ∀ x H', J.yld i H2 x H' → Ext X.K R2 H2 R2 H' ∧ RH X.K cm h2 R2 H' ∧ RV X.K H' R2 w x) ∧ (s.items.length ≤ i → J.stop i H2)
def QI (cm : Str → Addr) (X : Cx) (Wx : WX) (tg iter : Expr) (m : MI) : Prop := ∃ wi, PI X tg iter wi ∧ ∀ σ ρ h R H Rk, REnv X.K H R ρ σ → RH X.K cm h R H → Post X.K cm R H (EXw cm Wx σ) (fun s _ R1 H1 => ∀ J, JRel cm X R1 H1 s J → Rk J H1) (m ρ h) → wi σ H Rk
theorem PI.or {tg e : Expr} {w1 w2 : TI} (h1 : PI X tg e w1) (h2 : PI X tg e w2) : PI X tg e (fun σ H R => w1 σ H R ∨ w2 σ H R) := ⟨fun pins s σ H R I h => h.elim (h1.run pins s σ H R I) (h2.run pins s σ H R I)⟩
mutual
def W.beq : W → W → Bool
  | .non, .non => true
  | .bl a, .bl b => a == b
  | .int a, .int b => a == b
  | .str a, .str b => a == b
  | .tup a, .tup b => W.beqs a b
  | .frz a, .frz b => W.beqs a b
  | .ref a, .ref b => a == b
  | _, _ => false
def W.beqs : List W → List W → Bool
  | [], [] => true
  | a :: x, b :: y => W.beq a b && W.beqs x y
  | _, _ => false
end
mutual
theorem W.beq_eq : ∀ (a b : W), W.beq a b = true → a = b
  | .non, b, h => by cases b <;> first | rfl | cases h
  | .bl a, b, h => by
    cases b with
    | bl b => rw [eq_of_beq (show (a == b) = true by simpa [W.beq] using h)]
    | _ => cases h
  | .int a, b, h => by
    cases b with
    | int b => rw [eq_of_beq (show (a == b) = true by simpa [W.beq] using h)]
    | _ => cases h
  | .str a, b, h => by
    cases b with
    | str b => rw [eq_of_beq (show (a == b) = true by simpa [W.beq] using h)]
    | _ => cases h
  | .tup a, b, h => by
    cases b with
    | tup b => rw [W.beqs_eq a b (by simpa [W.beq] using h)]
    | _ => cases h
  | .frz a, b, h => by
    cases b with
    | frz b => rw [W.beqs_eq a b (by simpa [W.beq] using h)]
    | _ => cases h
  | .ref a, b, h => by
    cases b with
    | ref b => rw [eq_of_beq (show (a == b) = true by simpa [W.beq] using h)]
    | _ => cases h
theorem W.beqs_eq : ∀ (a b : List W), W.beqs a b = true → a = b
  | [], [], _ => rfl
  | [], _ :: _, h => by cases h
  | _ :: _, [], h => by cases h
  | a :: x, b :: y, h => by
    have h' : (W.beq a b && W.beqs x y) = true := by simpa [W.beqs] using h
    rw [Bool.and_eq_true] at h'
    rw [W.beq_eq a b h'.1, W.beqs_eq x y h'.2]
end
mutual
theorem W.beq_refl : ∀ a : W, W.beq a a = true
  | .non => rfl
  | .bl a => by simp [W.beq]
  | .int a => by simp [W.beq]
  | .str a => by simp [W.beq]
  | .tup a => by simp [W.beq, W.beqs_refl a]
  | .frz a => by simp [W.beq, W.beqs_refl a]
  | .ref a => by simp [W.beq]
theorem W.beqs_refl : ∀ a : List W, W.beqs a a = true
  | [] => rfl
  | a :: x => by simp [W.beqs, W.beq_refl a, W.beqs_refl x]
end
def stillL (x : W) (xs : List W) (h : Hq) : Bool := match asL h x with
  | some ys => W.beqs xs ys
  | none => false
theorem stillL_ok {x xs h} (e : stillL x xs h = true) : asL h x = some xs := by
  unfold stillL at e
  split at e
  · rename_i ys z; rw [z, W.beqs_eq _ _ e]
  · cases e
theorem stillL_of {x xs h} (e : asL h x = some xs) : stillL x xs h = true := by
  unfold stillL; rw [e]; exact W.beqs_refl xs
def iterW (x : W) (h : Hq) : Res Src := match x with
  | .tup xs => .ok ⟨xs, fun _ => true⟩ h
  | .str z => .ok ⟨z.cps.toList.map fun c => .str ⟨#[c]⟩, fun _ => true⟩ h
  | x => match asL h x with
    | some xs => .ok ⟨xs, stillL x xs⟩ h
    | none => .stuck
def iAny (a : ME) : MI := fun ρ h => (a ρ h).bind iterW
theorem iter_list {R H EX} {Rk : It → Hp → Prop} {w : W} {h1 : Hq} (pb : Post X.K cm R H EX (fun a h1 R1 H1 => Post X.K cm R1 H1 EX (fun s _ R1 H1 => ∀ J, JRel cm X R1 H1 s J → Rk J H1) (match asL h1 w with
    | some xs => .ok ⟨xs, stillL w xs⟩ h1
    | none => .stuck)) (Res.ok w h1)) : Post X.K cm R H EX (OKv X.K fun x H1 => ∃ a, x = .ref a ∧ (∃ xs, SqL X.K H1 a xs) ∧ Rk (Itl X.K a) H1) (Res.ok w h1) := by
  intro R1 H1 e1 x1 v r
  have pb' := pb R1 H1 e1 x1
  dsimp only at pb'
  split at pb'
  · rename_i xs e0
    obtain ⟨a, vs, rfl, sq, rs⟩ := asL_ok x1 r e0
    refine ⟨_, rfl, ⟨_, sq⟩, pb' R1 H1 Ext.refl x1 _ fun i h2 R2 H2 e2 x2 hk => ?_⟩
    obtain ⟨a', vs', ea, sq2, rs2⟩ := asL_ok x2 (RV.ext e2 _ _ r) (stillL_ok hk)
    cases ea
    refine ⟨fun w hw => ?_, fun hi => ⟨_, sq2, by rw [← rs2.length]; exact hi⟩⟩
    obtain ⟨v, hv, rv⟩ := rs2.get hw
    refine ⟨⟨_, v, sq2, hv⟩, fun x H' y => ?_⟩
    obtain ⟨rfl, y⟩ := y
    have := y _ sq2
    rw [hv] at this; cases this
    exact ⟨Ext.refl, x2, rv⟩
  · exact pb'.elim
theorem qi_any {tg e : Expr} {m : ME} (he : QE cm X Wx e m) : QI cm X Wx tg e (iAny m) := by
  obtain ⟨t, p, s⟩ := he
  refine ⟨_, PI.or (pi_list p) (PI.or (pi_tup p) (pi_str p)), fun σ ρ h R H Rk hρ hh pp => ?_⟩
  have pb := Post.bind pp
  cases q : m ρ h with
  | stuck => rw [q] at pb; exact pb.elim
  | exc c h1 =>
    rw [q] at pb
    exact .inl (s σ ρ h R H _ hρ hh (by rw [q]; exact pb))
  | ok w h1 =>
    rw [q] at pb
    cases w with
    | tup xs =>
      refine .inr (.inl (s σ ρ h R H _ hρ hh ?_))
      rw [q]
      intro R1 H1 e1 x1 v r
      cases r with
      | tup sq rs =>
        refine ⟨_, rfl, ⟨_, sq⟩, pb R1 H1 e1 x1 R1 H1 Ext.refl x1 _ fun i h2 R2 H2 e2 x2 _ => ⟨fun w hw => ?_, fun hi => ?_⟩⟩
        · obtain ⟨v, hv, rv⟩ := rs.get hw
          refine ⟨⟨_, v, e2.2.1 _ _ sq, hv⟩, fun x H' y => ?_⟩
          obtain ⟨rfl, y⟩ := y
          have := y _ (e2.2.1 _ _ sq)
          rw [hv] at this; cases this
          exact ⟨Ext.refl, x2, RV.ext e2 _ _ rv⟩
        · exact ⟨_, e2.2.1 _ _ sq, by rw [← rs.length]; exact hi⟩
    | str z =>
      refine .inr (.inr (s σ ρ h R H _ hρ hh ?_))
      rw [q]
      intro R1 H1 e1 x1 v r
      cases r
      refine ⟨z, rfl, pb R1 H1 e1 x1 R1 H1 Ext.refl x1 _ fun i h2 R2 H2 e2 x2 _ => ⟨fun w hw => ?_, fun hi => ?_⟩⟩
      · rw [List.getElem?_map] at hw
        cases hc : z.cps.toList[i]? with
        | none => rw [hc] at hw; cases hw
        | some c =>
          rw [hc] at hw
          cases hw
          have hi : i < z.cps.size := by
            have := (List.getElem?_eq_some_iff.mp hc).1; simpa using this
          refine ⟨hi, fun x H' y => ?_⟩
          obtain ⟨rfl, c', hc', rfl⟩ := y
          have : c' = c := by
            rw [Array.getElem?_toList] at hc
            rw [hc] at hc'; exact (Option.some.inj hc').symm
          subst this
          exact ⟨Ext.refl, x2, .str _⟩
      · show z.cps.size ≤ i
        simpa using hi
    | non => exact .inl (s σ ρ h R H _ hρ hh (by rw [q]; exact fun R1 H1 e1 x1 v r => (pb R1 H1 e1 x1).elim))
    | bl b => exact .inl (s σ ρ h R H _ hρ hh (by rw [q]; exact fun R1 H1 e1 x1 v r => (pb R1 H1 e1 x1).elim))
    | int b => exact .inl (s σ ρ h R H _ hρ hh (by rw [q]; exact fun R1 H1 e1 x1 v r => (pb R1 H1 e1 x1).elim))
    | frz n => exact .inl (s σ ρ h R H _ hρ hh (by rw [q]; exact iter_list pb))
    | ref n => exact .inl (s σ ρ h R H _ hρ hh (by rw [q]; exact iter_list pb))
def rngL (lo : Int) (n : Nat) : List W := (List.range n).map fun (k : Nat) => .int (lo + (k : Int))
def i62 (i : Int) : Bool := decide (-(2 ^ 62) ≤ i) && decide (i < 2 ^ 62)
def iRng1W (a : MA) : MI := fun ρ h => (a ρ h).bind fun xs h1 => match xs with
  | [.int j] => if i62 j then .ok ⟨rngL 0 j.toNat, fun _ => true⟩ h1 else .stuck
  | _ => .stuck
def iRng2W (a : MA) : MI := fun ρ h => (a ρ h).bind fun xs h1 => match xs with
  | [.int i, .int j] => if i62 i && i62 j then .ok ⟨rngL i (j - i).toNat, fun _ => true⟩ h1 else .stuck
  | _ => .stuck
theorem jrel_rng {R1 H1} {lo : Int} {n : Nat} : JRel cm X R1 H1 ⟨rngL lo n, fun _ => true⟩ (Itr lo n) := fun i h2 R2 H2 e2 x2 _ => by
  refine ⟨fun w hw => ?_, fun hi => ?_⟩
  · have hw' : (rngL lo n)[i]? = some w := hw
    unfold rngL at hw'
    rw [List.getElem?_map] at hw'
    cases hc : (List.range n)[i]? with
    | none => rw [hc] at hw'; cases hw'
    | some c =>
      rw [hc] at hw'
      cases hw'
      obtain ⟨hlt, e⟩ := List.getElem?_eq_some_iff.mp hc
      rw [List.getElem_range] at e
      subst e
      refine ⟨show i < n by simpa using hlt, fun x H' y => ?_⟩
      obtain ⟨rfl, rfl⟩ := y
      exact ⟨Ext.refl, x2, .int _⟩
  · show n ≤ i
    have : (rngL lo n).length ≤ i := hi
    simpa [rngL] using this
theorem qi_rng1 {tg a : Expr} {m : MA} {p pos : Pos} (hg : Gl X "range") (hm : X.mg "range" = none) (ha : QAn cm X Wx [a] m) (hs : starEach [a] X.env = [(false, eval a X.env)] := by rfl) : QI cm X Wx tg (.Call (.Name "range" p) [a] [] pos) (iRng1W m) := by
  obtain ⟨⟨t, pa, s⟩, _⟩ := ha
  refine ⟨_, pi_range1 hg hm pa hs, fun σ ρ h R H Rk hρ hh pp => ?_⟩
  refine s σ ρ h R H _ hρ hh (Post.mono (Post.bind pp) fun xs h1 R1 H1 e1 x1 p1 => fun vs rs => ?_)
  split at p1
  · rename_i j
    cases rs with | cons a b =>
    cases a; cases b
    split at p1
    · rename_i z
      unfold i62 at z
      simp only [Bool.and_eq_true, decide_eq_true_eq] at z
      exact ⟨j, rfl, z.1, z.2, p1 R1 H1 Ext.refl x1 _ jrel_rng⟩
    · exact p1.elim
  · exact p1.elim
theorem qi_rng2 {tg a b : Expr} {m : MA} {p pos : Pos} (hg : Gl X "range") (hm : X.mg "range" = none) (ha : QAn cm X Wx [a, b] m) (hs : starEach [a, b] X.env = [(false, eval a X.env), (false, eval b X.env)] := by rfl) (hs2 : starEach [b] X.env = [(false, eval b X.env)] := by rfl) : QI cm X Wx tg (.Call (.Name "range" p) [a, b] [] pos) (iRng2W m) := by
  obtain ⟨⟨t, pa, s⟩, _⟩ := ha
  refine ⟨_, pi_range2 hg hm pa hs hs2, fun σ ρ h R H Rk hρ hh pp => ?_⟩
  refine s σ ρ h R H _ hρ hh (Post.mono (Post.bind pp) fun xs h1 R1 H1 e1 x1 p1 => fun vs rs => ?_)
  split at p1
  · rename_i i j
    cases rs with | cons a b =>
    cases a; cases b with | cons a b =>
    cases a; cases b
    split at p1
    · rename_i z
      unfold i62 at z
      simp only [Bool.and_eq_true, decide_eq_true_eq] at z
      exact ⟨i, j, rfl, ⟨z.1.1, z.1.2, z.2.1, z.2.2⟩, p1 R1 H1 Ext.refl x1 _ jrel_rng⟩
    · exact p1.elim
  · exact p1.elim

/-! ### for, while -/
def loopF (chk : Hq → Bool) (g : MG) (b : MS) : List W → MS
  | [] => fun ρ h => if chk h then .ok .nx ρ h else .stuck
  | w :: ws => fun ρ h => if chk h then (match g w ρ with
    | some ρ1 => (match b ρ1 h with
      | .ok .nx ρ2 h2 => loopF chk g b ws ρ2 h2
      | .ok .ct ρ2 h2 => loopF chk g b ws ρ2 h2
      | .ok .bk ρ2 h2 => .ok .nx ρ2 h2
      | r => r)
    | none => .stuck) else .stuck
def sFor (i : MI) (g : MG) (b : MS) : MS := fun ρ h => (i ρ h).toS ρ fun s h1 => loopF s.chk g b s.items ρ h1
theorem qs_for {tg iter : Expr} {body : List Stmt} {mi : MI} {g : MG} {mb : MS} {pos : Pos} (hp : PassesOwn (model X.prog X.w) X.A X.env X.xe) (hc : X.calm = true) (hi : QI cm X Wx tg iter mi) (hg : QG X tg g) (hb : QB cm X Wx body mb)
    (hs : ∀ x, foldedSetIterable iter X.env x = pure x := by intro _; rfl) : QS cm X Wx (.For tg iter body [] pos) (sFor mi g mb) := by
  obtain ⟨wi, pi, si⟩ := hi
  obtain ⟨tg', pg, sg⟩ := hg
  obtain ⟨tb, pb, sb⟩ := hb
  refine ⟨_, ps_for hp hc pi pg pb hs, fun σ ρ h R H D hρ hh pp => ?_⟩
  refine si σ ρ h R H _ hρ hh (Post.mono (PostS.toS hρ pp) fun s h1 R1 H1 e1 x1 p1 => fun J hJ => ?_)
  refine ⟨fun i m σ2 H2 => ∃ ρ2 h2 R2, Ext X.K R1 H1 R2 H2 ∧ RH X.K cm h2 R2 H2 ∧ REnv X.K H2 R2 ρ2 σ2 ∧ PostS cm X Wx R2 H2 D (loopF s.chk g mb (s.items.drop i) ρ2 h2) ∧ m = s.items.length - i ∧ i ≤ s.items.length,
    ⟨s.items.length, ρ, h1, R1, Ext.refl, x1, hρ.ext e1, by simpa using p1, by simp, Nat.zero_le _⟩, ?_⟩
  rintro i m σ2 H2 ⟨ρ2, h2, R2, e2, x2, r2, p2, rfl, hle⟩
  by_cases hlt : i < s.items.length
  · refine .inr ?_
    have hd : s.items.drop i = s.items[i] :: s.items.drop (i + 1) := List.drop_eq_getElem_cons hlt
    rw [hd] at p2
    unfold loopF at p2
    by_cases hk : s.chk h2 = true
    · rw [if_pos hk] at p2
      have J1 := (hJ i h2 R2 H2 e2 x2 hk).1 s.items[i] (by simp [hlt])
      refine ⟨J1.1, fun σ' H' => ∃ m', m' < s.items.length - i ∧ ∃ ρ2 h2 R2, Ext X.K R1 H1 R2 H' ∧ RH X.K cm h2 R2 H' ∧ REnv X.K H' R2 ρ2 σ' ∧ PostS cm X Wx R2 H' D (loopF s.chk g mb (s.items.drop (i + 1)) ρ2 h2) ∧ m' = s.items.length - (i + 1) ∧ i + 1 ≤ s.items.length, fun σ' H' z => z, fun x H' y => ?_⟩
      obtain ⟨e3, x3, rv⟩ := J1.2 x H' y
      refine sg σ2 ρ2 R2 H' _ x _ (r2.ext e3) rv ?_
      cases q : g s.items[i] ρ2 with
      | none => simp only [q] at p2; exact p2.elim
      | some ρ3 =>
        simp only [q] at p2
        intro σ3 hρ3
        refine sb σ3 ρ3 h2 R2 H' _ hρ3 x3 ?_
        have p3 := PostS.from_ e3 p2
        have e13 : Ext X.K R1 H1 R2 H' := e2.trans e3 x3.nd
        cases qb : mb ρ3 h2 with
        | stuck => simp only [qb] at p3; exact p3.elim
        | exc c ρ4 h4 => simp only [qb] at p3; exact p3
        | ok f ρ4 h4 =>
          simp only [qb] at p3
          cases f with
          | nx => exact fun R4 H4 σ4 e4 x4 r4 => ⟨s.items.length - (i + 1), by omega, ρ4, h4, R4, e13.trans e4 x4.nd, x4, r4, PostS.from_ e4 p3, rfl, hlt⟩
          | ct => exact fun R4 H4 σ4 e4 x4 r4 => ⟨s.items.length - (i + 1), by omega, ρ4, h4, R4, e13.trans e4 x4.nd, x4, r4, PostS.from_ e4 p3, rfl, hlt⟩
          | bk => exact fun R4 H4 σ4 e4 x4 r4 => p3 R4 H4 σ4 e4 x4 r4
          | rt w => exact fun R4 H4 σ4 e4 x4 r4 => p3 R4 H4 σ4 e4 x4 r4
    · rw [if_neg hk] at p2; exact p2.elim
  · have he : s.items.length ≤ i := by omega
    rw [List.drop_eq_nil_of_le he] at p2
    unfold loopF at p2
    by_cases hk : s.chk h2 = true
    · rw [if_pos hk] at p2
      exact .inl ⟨(hJ i h2 R2 H2 e2 x2 hk).2 he, p2 R2 H2 σ2 Ext.refl x2 r2⟩
    · rw [if_neg hk] at p2; exact p2.elim
def loopW (c : MT) (b : MS) : Nat → MS
  | 0 => fun _ _ => .stuck
  | n + 1 => fun ρ h => (c ρ h).toS ρ fun k h1 => if k then (match b ρ h1 with
      | .ok .nx ρ2 h2 => loopW c b n ρ2 h2
      | .ok .ct ρ2 h2 => loopW c b n ρ2 h2
      | .ok .bk ρ2 h2 => .ok .nx ρ2 h2
      | r => r) else .ok .nx ρ h1
def fuelW : Nat := 1000000000
def sWhile (c : MT) (b : MS) : MS := loopW c b fuelW
theorem qs_while {c : Expr} {body : List Stmt} {mc : MT} {mb : MS} {pos : Pos} (hp : PassesOwn (model X.prog X.w) X.A X.env X.xe) (hc : QT cm X Wx c mc) (hb : QB cm X Wx body mb) : QS cm X Wx (.While c body [] pos) (sWhile mc mb) := by
  obtain ⟨tc, pc, sc⟩ := hc
  obtain ⟨tb, pb, sb⟩ := hb
  refine ⟨_, ps_while hp pc pb, fun σ ρ h R H D hρ hh pp => ?_⟩
  refine ⟨fun m σ2 H2 => ∃ ρ2 h2 R2, Ext X.K R H R2 H2 ∧ RH X.K cm h2 R2 H2 ∧ REnv X.K H2 R2 ρ2 σ2 ∧ PostS cm X Wx R2 H2 D (loopW mc mb m ρ2 h2), ⟨fuelW, ρ, h, R, Ext.refl, hh, hρ, pp⟩, ?_⟩
  rintro m σ2 H2 ⟨ρ2, h2, R2, e2, x2, r2, p2⟩
  cases m with
  | zero => exact p2.elim
  | succ n =>
    unfold loopW at p2
    refine sc σ2 ρ2 h2 R2 H2 _ r2 x2 (Post.mono (PostS.toS r2 p2) fun k h3 R3 H3 e3 x3 p3 => ?_)
    cases k with
    | false => exact p3 R3 H3 σ2 Ext.refl x3 (r2.ext e3)
    | true =>
      refine iteT ?_
      refine ⟨fun σ' H' => ∃ m', m' < n + 1 ∧ ∃ ρ2 h2 R2, Ext X.K R H R2 H' ∧ RH X.K cm h2 R2 H' ∧ REnv X.K H' R2 ρ2 σ' ∧ PostS cm X Wx R2 H' D (loopW mc mb m' ρ2 h2), fun σ' H' z => z, ?_⟩
      refine sb σ2 ρ2 h3 R3 H3 _ (r2.ext e3) x3 ?_
      have e03 := e2.trans e3 x3.nd
      rw [if_pos rfl] at p3
      cases qb : mb ρ2 h3 with
      | stuck => simp only [qb] at p3; exact p3.elim
      | exc c ρ4 h4 => simp only [qb] at p3; exact p3
      | ok f ρ4 h4 =>
        simp only [qb] at p3
        cases f with
        | nx => exact fun R4 H4 σ4 e4 x4 r4 => ⟨n, by omega, ρ4, h4, R4, e03.trans e4 x4.nd, x4, r4, PostS.from_ e4 p3⟩
        | ct => exact fun R4 H4 σ4 e4 x4 r4 => ⟨n, by omega, ρ4, h4, R4, e03.trans e4 x4.nd, x4, r4, PostS.from_ e4 p3⟩
        | bk => exact fun R4 H4 σ4 e4 x4 r4 => p3 R4 H4 σ4 e4 x4 r4
        | rt w => exact fun R4 H4 σ4 e4 x4 r4 => p3 R4 H4 σ4 e4 x4 r4
end

/-! ### defs -/
/-- a def: np parameters, nn names in all -/
def fnB (np nn : Nat) (b : MS) : MF := fun ws h => if ws.length = np then (match b (ws.map some ++ List.replicate (nn - ws.length) none) h with
  | .ok .nx _ h' => .ok .non h'
  | .ok (.rt w) _ h' => .ok w h'
  | .exc c _ h' => .exc c h'
  | _ => .stuck) else .stuck
def spM (K : PySem.W.Frag) (cm : Str → Addr) (f : MF) : Sp := fun vs H Q E => ∃ ws h R, RVs K H R ws vs ∧ RH K cm h R H ∧ Post K cm R H (fun c H' => E (.ref (cm c)) none H') (OKv K Q) (f ws h)
theorem renv_start {K H R N ws vs} (r : RVs K H R ws vs) : REnv K H R (ws.map some ++ List.replicate (N.length - ws.length) none) (L2.start N vs) := by
  unfold L2.start
  refine ⟨by simp [r.length], fun i w e => ?_⟩
  by_cases hi : i < ws.length
  · rw [List.getElem?_append_left (by simpa using hi), List.getElem?_map] at e
    cases q : ws[i]? with
    | none => rw [q] at e; cases e
    | some w' =>
      rw [q] at e; cases e
      obtain ⟨v, hv, rv⟩ := r.get q
      refine ⟨v, ?_, rv⟩
      rw [List.getElem?_append_left (by rw [List.length_map, ← r.length]; exact hi), List.getElem?_map, hv]; rfl
  · rw [List.getElem?_append_right (by simpa using hi), List.getElem?_replicate] at e
    split at e <;> cases e
section
variable {P : Program} {w : World} {K : PySem.W.Frag} {mg : Str → Option Value} {base : Heap} {cm : Str → Addr}
theorem qf_ok {x qual : Str} {st : Stmt} {f : Addr} {fd : FuncData} {N ps : List Str} {k : Nat} {m : MS} (F : Fun K x qual st f fd) (S : FnScope N ps (defScope st))
    (hb : ∀ (cdv : Value) (A : Around) (outer : List Env) (s : Shared) (H : Hp) (E : XK), Room k (A.deeper (envOfC qual (defScope st) s.heap.objs.size f cdv)) →
      QB cm (cxOf (L2.CX P w) P w K mg base N qual (defScope st) f cdv A outer s H E) (fun cls d _ H => E cls d H) (defBody st) m) :
    FnOk P w K mg base (L2.CX P w) (k + 1) f fd ps (spM K cm (fnB ps.length N.length m)) := by
  refine F.okX S (fun vs H Q E h => ?_) (fun cdv A outer s H vs Q E hr h => ?_)
  · obtain ⟨ws, h, R, rs, _, p⟩ := h
    unfold fnB at p
    by_cases e : ws.length = ps.length
    · rw [← rs.length]; exact e
    · rw [if_neg e] at p; exact p.elim
  · obtain ⟨ws, h, R, rs, hh, p⟩ := h
    obtain ⟨t, pt, st'⟩ := hb cdv A outer s H E hr
    refine ⟨t, pt, st' _ _ h R H _ (renv_start rs) hh ?_⟩
    unfold fnB at p
    by_cases e : ws.length = ps.length
    · rw [if_pos e] at p
      cases q : m (ws.map some ++ List.replicate (N.length - ws.length) none) h with
      | stuck => rw [q] at p; exact p.elim
      | exc c ρ' h' => rw [q] at p; exact fun R' H' σ' e' x' _ => p R' H' e' x'
      | ok fl ρ' h' =>
        rw [q] at p
        cases fl with
        | nx => exact fun R' H' σ' e' x' _ => p R' H' e' x' _ .non
        | rt w => exact fun R' H' σ' e' x' _ v rv => p R' H' e' x' v rv
        | bk => exact p.elim
        | ct => exact p.elim
    · rw [if_neg e] at p; exact p.elim
end
section
variable {cm : Str → Addr} {X : Cx} {Wx : WX}
/-- f(e, ..), a def of the text, every parameter given -/
theorem q_call {x : Str} {p pos : Pos} {e : Expr} {es : List Expr} {k : Nat} {f : Addr} {fd : FuncData} {ps : List Str} {g : MF} {m : MA} (F : FnOk X.prog X.w X.K X.mg X.base (L2.CX X.prog X.w) k f fd ps (spM X.K cm g)) (tk : Takes X Wx) (hr : Room k X.A) (hg : Gl X x) (hm : X.mg x = some (.ref f)) (hk : PySem.W.keepIn X.K (.ref f) = true) (hb : Binds X.K fd ps [])
    (ha : QAn cm X Wx (e :: es) m) (hdb : (x == ("__debug__" : Str)) = false := by decide) (he : starEach (e :: es) X.env = (false, eval e X.env) :: starEach es X.env := by rfl) (hpl : (backTo pos (starEach es X.env)).any (·.1) = false := by rfl) :
    QE cm X Wx (.Call (.Name x p) (e :: es) [] pos) (eCB g m) := by
  obtain ⟨⟨t, pa, s⟩, _⟩ := ha
  refine ⟨_, pe_callS F hr hg hm hk hb (fun σ => passAt tk σ) pa hdb he hpl, fun σ ρ h R H Q hρ hh p => ?_⟩
  exact s σ ρ h R H _ hρ hh (Post.mono (Post.bind p) fun ws h1 R1 H1 e1 x1 p1 => fun vs rs => ⟨ws, h1, R1, rs, x1, p1⟩)
/-- f() -/
def eCB0 (f : MF) : ME := fun _ h => f [] h
theorem q_call0 {x : Str} {p pos : Pos} {k : Nat} {f : Addr} {fd : FuncData} {ps : List Str} {g : MF} (F : FnOk X.prog X.w X.K X.mg X.base (L2.CX X.prog X.w) k f fd ps (spM X.K cm g)) (tk : Takes X Wx) (hr : Room k X.A) (hg : Gl X x) (hm : X.mg x = some (.ref f)) (hk : PySem.W.keepIn X.K (.ref f) = true) (hb : Binds X.K fd ps [])
    (hdb : (x == ("__debug__" : Str)) = false := by decide) : QE cm X Wx (.Call (.Name x p) [] [] pos) (eCB0 g) := by
  refine ⟨fun σ H Q => spM X.K cm g [] H Q (WE Wx σ), ⟨fun pins s σ H Q I h => ?_⟩, fun σ ρ h R H Q hρ hh p => ⟨[], h, R, .nil, hh, p⟩⟩
  refine wpAny_Call_Name_kw (ld_glob I hg hm ?_ hdb)
  exact PySem.W.callWith_K0 I.kIn hk (run_fnS (us := []) (E := WE Wx) F hr hb (passAt tk σ) I .nil h)
end
end Z

/-! Q: more operators. -/
namespace Z
open PySem PySem.Spec PyProof.Rows L2
section
variable {prog : Program} {w : World} {A : Around} {E : Value → Shared → Prop} {s : Shared}
theorem left_declines {M : Model} {a b : Value} {T U nm id : String} {Q : Option Value → Shared → Prop} (hTU : (Value.type T == Value.type U) = false) (ha : s.TypeIs a T) (hb : s.TypeIs b U)
    (hfT : fillsNumberSlot (.type T) nm = pure true) (hfU : fillsNumberSlot (.type U) nm = pure false) (h : Slot T (dunder nm) id)
    (hc : wpAny M A (call (.builtin id) [a, b]) (fun v s' => v = .notImplemented ∧ Q none s') E s) : wpAny M A (binaryOp1 nm a b) Q E s := by
  simp only [binaryOp1]
  refine wpAny_bind (wpAny_typeOf ha (wpAny_bind (wpAny_typeOf hb (wpAny_bind (wpAny_of_eq hfT ?_)))))
  simp only [hTU, Bool.false_eq_true, if_false]
  refine wpAny_bind (wpAny_of_eq hfU ?_)
  simp only [pure_bind, Bool.and_false, Bool.false_and, Bool.false_eq_true, if_false, Bool.not_false, Bool.and_self, if_true]
  exact wpAny_bind (wpAny_tryMethod_declines ha h (wpAny_mono hc (fun v s' h' => ⟨h'.1, wpAny_pure h'.2⟩) fun _ _ e => e))
theorem repeat_int : seqRepeat? (.type "int") = pure none := by
  unfold seqRepeat? seqSlot?
  kernel_rfl
theorem mul_int_str {x : Str} {n : Int} {t u : Tok} {Q : Value → Shared → Prop} (hr : (decide (n < -(2 ^ 63 : Int)) || decide (n ≥ 2 ^ 63)) = false)
    (hb : ¬ n < 1 → (n == 1 || x.length == 0) = false → ¬ ((x.length : Int) > (2 ^ 63 - 1) / n)) (hl : ¬ n < 1 → (n == 1 || x.length == 0) = false → Builtin.Str.tooLong (x.length * n.toNat) = false)
    (h : (if n < 1 then Made.str Str.empty else if (n == 1 || x.length == 0) = true then Made.val (.str x t) else Made.str ⟨(List.replicate n.toNat x.cps).foldl (· ++ ·) #[]⟩).post Q s) :
    wpAny (model prog w) A (binaryOp .Mult (.int n u) (.str x t)) Q E s := by
  unfold binaryOp
  refine wpAny_holding ?_
  refine wpAny_bind (left_declines (nm := "mul") (T := "int") (U := "str") (by decide) (typeIs_int s n u) (typeIs_str s x t) F.fills_int_mul noFill_str_mul F.slot_int_mul
    (call_gives F.slot_int_mul (typeIs_int s n u) F.entry_int_mul (F.args_int_mul_2 _ _) (AutoIntG3.int___mul___int_str_0 n u x t) ⟨rfl, ?_⟩))
  refine wpAny_bind (wpAny_typeOf (typeIs_int s n u) ?_)
  refine wpAny_bind (wpAny_of_eq repeat_int ?_)
  refine wpAny_bind (wpAny_typeOf (typeIs_str s x t) ?_)
  refine wpAny_bind (wpAny_of_eq repeat_str ?_)
  unfold sequenceRepeat
  refine wpAny_bind (wpAny_specialOf (typeIs_int s n u) F.slot_int_index.lookup ?_)
  exact wpAny_bind (wpAny_rule (call_gives F.slot_str_mul (typeIs_str s x t) F.entry_str_mul (F.args_str_mul_2 _ _) (gives_str_mul x n t u hr hb hl) h))
end
section
variable {cm : Str → Addr} {X : Cx} {Wx : WX}
def mulNS : F2 := fun x y h => match x, y with
  | .int n, .str z => if decide (2 ≤ n ∧ n ≤ 1000) && decide (1 ≤ z.length ∧ z.length ≤ 1000) then .ok (.str ⟨(List.replicate n.toNat z.cps).foldl (· ++ ·) #[]⟩) h else .stuck
  | _, _ => .stuck
theorem op_mulNS : OpR X (binaryOp .Mult) (fun x y H Q => ∃ (n : Int) (z : Str), x = .int n ∧ y = .str z ∧ (2 ≤ n ∧ n ≤ 1000) ∧ (1 ≤ z.length ∧ z.length ≤ 1000) ∧ Q (.str ⟨(List.replicate n.toNat z.cps).foldl (· ++ ·) #[]⟩) H) := by
  intro pins s σ H x y v u Q I rx ry h
  obtain ⟨n, z, rfl, rfl, ⟨n1, n2⟩, ⟨z1, z2⟩, q⟩ := h
  obtain ⟨t, rfl⟩ := rx
  obtain ⟨t', rfl⟩ := ry
  have hm : z.length * n.toNat ≤ 1000000 := Nat.le_trans (Nat.mul_le_mul z2 (show n.toNat ≤ 1000 by omega)) (by decide)
  have htl : Builtin.Str.tooLong (z.length * n.toNat) = false := by
    have e := sizeLine_eq
    unfold Builtin.Str.tooLong
    simp only [decide_eq_false_iff_not]
    omega
  refine mul_int_str (by simp only [Bool.or_eq_false_iff, decide_eq_false_iff_not]; omega) (fun _ _ => ?_) (fun _ _ => htl) ?_
  · have : (9223372036854775807 : Int) / n ≥ 1000 := by
      rw [ge_iff_le, Int.le_ediv_iff_mul_le (by omega)]
      omega
    have h9 : (2 : Int) ^ 63 - 1 = 9223372036854775807 := by decide
    rw [h9]
    omega
  · rw [if_neg (by omega), if_neg (by simp; omega)]
    exact ⟨fits_reps htl, ⟨.str _, H, I.tok _, ⟨_, rfl⟩, q⟩⟩
theorem q_mulNS {a b : Expr} {ma mb : ME} {pos : Pos} (ha : QE cm X Wx a ma) (hb : QE cm X Wx b mb) : QE cm X Wx (.BinOp a .Mult b pos) (eBin mulNS ma mb) := qe_bin op_mulNS (by
  intro EX h R H x y vx vy Q hh rx ry p
  unfold mulNS at p
  split at p
  · cases rx; cases ry
    split at p
    · rename_i z
      simp only [Bool.and_eq_true, decide_eq_true_eq] at z
      exact ⟨_, _, rfl, rfl, z.1, z.2, post_v p hh (.str _)⟩
    · exact p.elim
  · exact p.elim) ha hb
end
end Z

/-! Q: a def by the head's facts; the law's end. -/
namespace Z
open PySem PySem.Spec PyProof.Rows L2
/-- what is known behind the top -/
structure Bs (fa : List He.Fa) (fn : List He.DefD) (ts : List He.Tab) (P : Program) (w : World) (K : PySem.W.Frag) (mg : Str → Option Value) (base : Heap) : Prop where
  says : He.SaysT fa fn ts w K
  ex : ∃ h : Heap, K.In h ∧ h.Ns mainGlobals mg
section
variable {fa : List He.Fa} {fn : List He.DefD} {ts : List He.Tab} {P : Program} {w : World} {K : PySem.W.Frag} {mg : Str → Option Value} {base : Heap}
theorem Bs.glo (B : Bs fa fn ts P w K mg base) (i : Nat) {x : Str} (h : fa[i]? = some (.glo x) := by rfl) : mg x = some (.ref (He.ga K x)) := by
  obtain ⟨hh, a, b⟩ := B.ex
  exact He.glo_ok a b (B.says.d.fact i h)
theorem Bs.free (B : Bs fa fn ts P w K mg base) (i : Nat) {x : Str} (h : fa[i]? = some (.free x) := by rfl) : mg x = none := by
  obtain ⟨hh, a, b⟩ := B.ex
  exact He.free_ok a b (B.says.d.fact i h)
theorem Bs.int (B : Bs fa fn ts P w K mg base) (i : Nat) {x : Str} {n : Int} (h : fa[i]? = some (.int x n) := by rfl) : ∃ t, mg x = some (.int n t) := by
  obtain ⟨hh, a, b⟩ := B.ex
  exact He.int_ok a b (B.says.d.fact i h)
theorem Bs.str (B : Bs fa fn ts P w K mg base) (i : Nat) {x z : Str} (h : fa[i]? = some (.str x z) := by rfl) : ∃ t, mg x = some (.str z t) := by
  obtain ⟨hh, a, b⟩ := B.ex
  exact He.str_ok a b (B.says.d.fact i h)
/-- a global def, by its shallow function -/
structure Cal (P : Program) (w : World) (K : PySem.W.Frag) (mg : Str → Option Value) (base : Heap) (k : Nat) (x : Str) (g : MF) : Prop where
  ex : ∃ (f : Addr) (fd : FuncData) (ps : List Str), FnOk P w K mg base (L2.CX P w) k f fd ps (spM K (He.ga K) g) ∧ mg x = some (.ref f) ∧ PySem.W.keepIn K (.ref f) = true ∧ Binds K fd ps []
theorem qf_okD {x qual : Str} {params : Arguments} {body : List Stmt} {scope : Scope} {dvs : List V} {kws : List (Str × V)} {f : Addr} {fd : FuncData} {cm : Str → Addr} {N ps : List Str} {k : Nat} {m : MS} (F : FunD K x qual params body scope dvs kws f fd) (S : FnScope N ps scope)
    (hb : ∀ (cdv : Value) (A : Around) (outer : List Env) (s : Shared) (H : Hp) (E : XK), Room k (A.deeper (envOfC qual scope s.heap.objs.size f cdv)) →
      QB cm (cxOf (L2.CX P w) P w K mg base N qual scope f cdv A outer s H E) (fun cls d _ H => E cls d H) body m) :
    FnOk P w K mg base (L2.CX P w) (k + 1) f fd ps (spM K cm (fnB ps.length N.length m)) := by
  refine F.ok S (fun vs H Q E h => ?_) (fun cdv A outer s H vs Q E hr h => ?_)
  · obtain ⟨ws, h, R, rs, _, p⟩ := h
    unfold fnB at p
    by_cases e : ws.length = ps.length
    · rw [← rs.length]; exact e
    · rw [if_neg e] at p; exact p.elim
  · obtain ⟨ws, h, R, rs, hh, p⟩ := h
    obtain ⟨t, pt, st'⟩ := hb cdv A outer s H E hr
    refine ⟨t, pt, st' _ _ h R H _ (renv_start rs) hh ?_⟩
    unfold fnB at p
    by_cases e : ws.length = ps.length
    · rw [if_pos e] at p
      cases q : m (ws.map some ++ List.replicate (N.length - ws.length) none) h with
      | stuck => rw [q] at p; exact p.elim
      | exc c ρ' h' => rw [q] at p; exact fun R' H' σ' e' x' _ => p R' H' e' x'
      | ok fl ρ' h' =>
        rw [q] at p
        cases fl with
        | nx => exact fun R' H' σ' e' x' _ => p R' H' e' x' _ .non
        | rt w => exact fun R' H' σ' e' x' _ v rv => p R' H' e' x' v rv
        | bk => exact p.elim
        | ct => exact p.elim
    · rw [if_neg e] at p; exact p.elim
end
section
variable {X : Cx} {Wx : WX}
theorem q_cal {x : Str} {p pos : Pos} {e : Expr} {es : List Expr} {k j : Nat} {g : MF} {m : MA} (c : Cal X.prog X.w X.K X.mg X.base k x g) (tk : Takes X Wx) (hr : Room j X.A) (hk : k ≤ j) (hg : Gl X x)
    (ha : QAn (He.ga X.K) X Wx (e :: es) m) (hdb : (x == ("__debug__" : Str)) = false := by decide) (he : starEach (e :: es) X.env = (false, eval e X.env) :: starEach es X.env := by rfl) (hpl : (backTo pos (starEach es X.env)).any (·.1) = false := by rfl) :
    QE (He.ga X.K) X Wx (.Call (.Name x p) (e :: es) [] pos) (eCB g m) := by
  obtain ⟨f, fd, ps, F, hm, kp, hb⟩ := c.ex
  exact q_call F tk (hr.mono hk) hg hm kp hb ha hdb he hpl
theorem q_cal0 {x : Str} {p pos : Pos} {k j : Nat} {g : MF} (c : Cal X.prog X.w X.K X.mg X.base k x g) (tk : Takes X Wx) (hr : Room j X.A) (hk : k ≤ j) (hg : Gl X x)
    (hdb : (x == ("__debug__" : Str)) = false := by decide) : QE (He.ga X.K) X Wx (.Call (.Name x p) [] [] pos) (eCB0 g) := by
  obtain ⟨f, fd, ps, F, hm, kp, hb⟩ := c.ex
  exact q_call0 F tk (hr.mono hk) hg hm kp hb hdb
end
/-- the end: the head's facts Y, the law's def by its shallow function, which gives True -/
theorem law_end {l : PySem.W.OpenLaw} {n k : Nat} {q : Program} {loose : List Str} {XP : (Str → Option Value) → Heap → Prop} {YP : World → Heap → Prop} {d : DefRec} {x : Str} {g : MF}
    (hn : l.most = some n) (hn2 : n ≤ sizeLine) (hdf : d.params.defaults = []) (hr : Room k callerA)
    (F : ∀ (w : World) (mg : Str → Option Value) (fa : Addr) (h : Heap), YP w h → h.Ns mainGlobals mg → mg d.name = some (.ref fa) →
      ∃ (K : PySem.W.Frag) (fd : FuncData), K.In h ∧ (∀ (s : Shared) (u : Value), BindsTo s fd ⟨[u], []⟩ [(x, u)]) ∧ ∀ base : Heap, FnOk l.prog w K mg base (L2.CX l.prog w) k fa fd [x] (spM K (He.ga K) g))
    (hg : ∀ ns : List Int, ns.length ≤ n → (∀ z ∈ ns, Builtin.Int.intBits z ≤ 1048576) → ∃ h', g [.frz (ns.map W.int)] [] = .ok (.bl true) h') :
    PySem.W.WalkO q loose XP YP l.row.toRowW d [] (fun f vs => PySem.call f vs) := by
  refine Att.attach_callB hn hdf fun w s₀ s₁ mg mb fa o pm cd doc a vs ns G Y _ _ _ hmg hobj hints hlen hbits hgens => ?_
  obtain ⟨K, fd, KX, hb, hF⟩ := F w mg fa _ Y G.T.g hmg
  refine law_call KX G.T.g G.T.b G.T.builtins G.T.nolimit hgens hobj hints (Nat.le_trans hlen hn2) hr (fun base _ _ => hF base) hb (fun H hO hS => ?_) (fun H e s' hc => ?_)
  · obtain ⟨h', e⟩ := hg ns hlen hbits
    have sq : SqF K H a (ns.map V.int) := by
      rcases hS with (hS | hS) | hS
      · rcases hO a with z | ⟨o', xs, z⟩
        · rw [z] at hS; cases hS
        · rw [z] at hS; cases hS
      · exact .inl hS
      · exact .inr hS
    have rs : RVs K H [] (ns.map W.int) (ns.map V.int) := by
      clear sq hS e hints hlen hbits
      induction ns with
      | nil => exact .nil
      | cons z r ih => exact .cons (.int z) ih
    refine ⟨[.frz (ns.map W.int)], [], [], .cons (.frz sq rs) .nil, ⟨rfl, List.nodup_nil, fun n o z => by simp at z⟩, ?_⟩
    rw [e]
    exact fun R' H' _ _ v r => by cases r; rfl
  · obtain ⟨_, _, _, _, _, _, _, _, _, _, _, _, z⟩ := hc
    exact z
end Z

/-! Q: reasoning about the shallow functions. -/
namespace Z
open PySem L2
/-- it ends well, and so -/
def okp {α : Type} (r : Res α) (Q : α → Hq → Prop) : Prop := match r with
  | .ok a h => Q a h
  | _ => False
def oks (r : RS) (Q : Fl → Ev → Hq → Prop) : Prop := match r with
  | .ok f ρ h => Q f ρ h
  | _ => False
theorem okp_iff {α : Type} {r : Res α} {Q : α → Hq → Prop} : okp r Q ↔ ∃ a h, r = .ok a h ∧ Q a h := by
  cases r with
  | ok a h => exact ⟨fun q => ⟨a, h, rfl, q⟩, fun ⟨_, _, e, q⟩ => by cases e; exact q⟩
  | exc c h => exact ⟨fun q => q.elim, fun ⟨_, _, e, _⟩ => by cases e⟩
  | stuck => exact ⟨fun q => q.elim, fun ⟨_, _, e, _⟩ => by cases e⟩
theorem okp_ok {α : Type} {a : α} {h : Hq} {Q : α → Hq → Prop} : okp (.ok a h) Q = Q a h := id rfl
theorem oks_ok {f : Fl} {ρ : Ev} {h : Hq} {Q : Fl → Ev → Hq → Prop} : oks (.ok f ρ h) Q = Q f ρ h := id rfl
theorem okp_bind {α β : Type} {r : Res α} {f : α → Hq → Res β} {Q : β → Hq → Prop} : okp (r.bind f) Q = okp r (fun a h => okp (f a h) Q) := by cases r <;> rfl
theorem oks_toS {α : Type} {r : Res α} {ρ : Ev} {f : α → Hq → RS} {Q : Fl → Ev → Hq → Prop} : oks (r.toS ρ f) Q = okp r (fun a h => oks (f a h) Q) := by cases r <;> rfl
theorem okp_mono {α : Type} {r : Res α} {Q Q' : α → Hq → Prop} (p : okp r Q) (k : ∀ a h, Q a h → Q' a h) : okp r Q' := by
  cases r with
  | ok a h => exact k a h p
  | exc c h => exact p
  | stuck => exact p
theorem oks_mono {r : RS} {Q Q' : Fl → Ev → Hq → Prop} (p : oks r Q) (k : ∀ f ρ h, Q f ρ h → Q' f ρ h) : oks r Q' := by
  cases r with
  | ok f ρ h => exact k f ρ h p
  | exc c ρ h => exact p
  | stuck => exact p
theorem bind_ok {α β : Type} {a : α} {h : Hq} {f : α → Hq → Res β} : (Res.ok a h).bind f = f a h := id rfl
theorem bind_exc {α β : Type} {c : Str} {h : Hq} {f : α → Hq → Res β} : (Res.exc c h : Res α).bind f = .exc c h := id rfl
theorem toS_ok {α : Type} {a : α} {h : Hq} {ρ : Ev} {f : α → Hq → RS} : (Res.ok a h).toS ρ f = f a h := id rfl
theorem toS_exc {α : Type} {c : Str} {h : Hq} {ρ : Ev} {f : α → Hq → RS} : (Res.exc c h : Res α).toS ρ f = .exc c ρ h := id rfl
theorem thenS_nx {ρ : Ev} {h : Hq} {f : Ev → Hq → RS} : thenS (.ok .nx ρ h) f = f ρ h := id rfl
theorem thenS_rt {w : W} {ρ : Ev} {h : Hq} {f : Ev → Hq → RS} : thenS (.ok (.rt w) ρ h) f = .ok (.rt w) ρ h := id rfl
theorem thenS_bk {ρ : Ev} {h : Hq} {f : Ev → Hq → RS} : thenS (.ok .bk ρ h) f = .ok .bk ρ h := id rfl
theorem thenS_ct {ρ : Ev} {h : Hq} {f : Ev → Hq → RS} : thenS (.ok .ct ρ h) f = .ok .ct ρ h := id rfl
theorem thenS_exc {c : Str} {ρ : Ev} {h : Hq} {f : Ev → Hq → RS} : thenS (.exc c ρ h) f = .exc c ρ h := id rfl
theorem oks_then {r : RS} {f : Ev → Hq → RS} {Q : Fl → Ev → Hq → Prop} : oks (thenS r f) Q = oks r (fun fl ρ h => match fl with
  | .nx => oks (f ρ h) Q
  | fl => Q fl ρ h) := by
  cases r with
  | ok fl ρ h => cases fl <;> rfl
  | _ => rfl
/-- a def's result from its body's -/
theorem okp_fnB {np nn : Nat} {b : MS} {ws : List W} {h : Hq} {Q : W → Hq → Prop} (hl : ws.length = np) (p : oks (b (ws.map some ++ List.replicate (nn - ws.length) none) h) (fun f _ h' => match f with
    | .nx => Q .non h'
    | .rt w => Q w h'
    | _ => False)) : okp (fnB np nn b ws h) Q := by
  unfold fnB
  rw [if_pos hl]
  cases q : b (ws.map some ++ List.replicate (nn - ws.length) none) h with
  | ok f ρ h' => rw [q] at p; cases f <;> first | exact p | exact p.elim
  | exc c ρ h' => rw [q] at p; exact p.elim
  | stuck => rw [q] at p; exact p.elim
def endF (r : RS) : Res W := match r with
  | .ok .nx _ h' => .ok .non h'
  | .ok (.rt w) _ h' => .ok w h'
  | .exc c _ h' => .exc c h'
  | _ => .stuck
theorem endF_rt {w : W} {ρ : Ev} {h : Hq} : endF (.ok (.rt w) ρ h) = .ok w h := id rfl
theorem endF_nx {ρ : Ev} {h : Hq} : endF (.ok .nx ρ h) = .ok .non h := id rfl
theorem endF_exc {c : Str} {ρ : Ev} {h : Hq} : endF (.exc c ρ h) = .exc c h := id rfl
theorem okp_endF {r : RS} {Q : W → Hq → Prop} : okp (endF r) Q = oks r (fun f _ h' => match f with
  | .nx => Q .non h'
  | .rt w => Q w h'
  | _ => False) := by
  cases r with
  | ok f ρ h => cases f <;> rfl
  | _ => rfl
/-- a loop by what holds behind i turns -/
theorem oks_loop {chk : Hq → Bool} {g : MG} {b : MS} {Q : Fl → Ev → Hq → Prop} (P : Nat → Ev → Hq → Prop) (ws : List W) {ρ : Ev} {h : Hq} (h0 : P 0 ρ h) (hc : ∀ i ρ h, P i ρ h → chk h = true)
    (step : ∀ i w ρ h, ws[i]? = some w → P i ρ h → ∃ ρ1, g w ρ = some ρ1 ∧ oks (b ρ1 h) (fun f ρ' h' => match f with
      | .nx => P (i + 1) ρ' h'
      | .ct => P (i + 1) ρ' h'
      | .bk => Q .nx ρ' h'
      | .rt w => Q (.rt w) ρ' h'))
    (hd : ∀ ρ h, P ws.length ρ h → Q .nx ρ h) : oks (loopF chk g b ws ρ h) Q := by
  have key : ∀ (us : List W) (i : Nat) (ρ : Ev) (h : Hq), us = ws.drop i → i ≤ ws.length → P i ρ h → oks (loopF chk g b us ρ h) Q := by
    intro us
    induction us with
    | nil =>
      intro i ρ h e hi p
      have : i = ws.length := by
        have := congrArg List.length e
        simp at this; omega
      subst this
      unfold loopF
      rw [if_pos (hc _ _ _ p)]
      exact hd _ _ p
    | cons u us ih =>
      intro i ρ h e hi p
      have hlt : i < ws.length := by
        have := congrArg List.length e
        simp at this; omega
      rw [List.drop_eq_getElem_cons hlt] at e
      cases e
      unfold loopF
      rw [if_pos (hc _ _ _ p)]
      obtain ⟨ρ1, e1, q⟩ := step i _ ρ h (List.getElem?_eq_getElem hlt) p
      rw [e1]
      dsimp only
      cases z : b ρ1 h with
      | ok f ρ2 h2 =>
        rw [z] at q
        cases f with
        | nx => exact ih (i + 1) ρ2 h2 rfl hlt q
        | ct => exact ih (i + 1) ρ2 h2 rfl hlt q
        | bk => exact q
        | rt w => exact q
      | exc c ρ2 h2 => rw [z] at q; exact q.elim
      | stuck => rw [z] at q; exact q.elim
  exact key ws 0 ρ h (by simp) (Nat.zero_le _) h0
theorem sizeL : sizeLine = 16777216 := sizeLine_eq

/-! ### the combinators, applied -/
section
variable {ρ : Ev} {h : Hq} {a b c : ME} {f f2 : F2} {m : MA} {t t2 : MT} {s s2 : MS} {g : MG} {gs : MGs} {mf : MF} {w : W} {i n : Nat} {ws : List W}
theorem eV_ap : eV i ρ h = (match ρ[i]? with
  | some (some w) => .ok w h
  | _ => .stuck) := id rfl
theorem eC_ap : eC w ρ h = .ok w h := id rfl
theorem eBin_ap : eBin f a b ρ h = (a ρ h).bind fun x h1 => (b ρ h1).bind fun y h2 => f x y h2 := id rfl
theorem eNeg_ap : eNeg a ρ h = (a ρ h).bind fun x h1 => match x with
  | .int i => .ok (.int (-i)) h1
  | _ => .stuck := id rfl
theorem tB_ap : tB a ρ h = (a ρ h).bind fun x h1 => match x with
  | .bl b => .ok b h1
  | _ => .stuck := id rfl
theorem eChain_ap : eChain f f2 a b c ρ h = (a ρ h).bind fun x h1 => (b ρ h1).bind fun y h2 => (f x y h2).bind fun k h3 => match k with
  | .bl true => (c ρ h3).bind fun z h4 => f2 y z h4
  | .bl false => .ok (.bl false) h3
  | _ => .stuck := id rfl
theorem tTru_ap : tTru a ρ h = (a ρ h).bind fun x h1 => match truW h1 x with
  | some b => .ok b h1
  | none => .stuck := id rfl
theorem tAndM_ap : tAndM t t2 ρ h = (t ρ h).bind fun k h1 => if k then t2 ρ h1 else .ok false h1 := id rfl
theorem tOrM_ap : tOrM t t2 ρ h = (t ρ h).bind fun k h1 => if k then .ok true h1 else t2 ρ h1 := id rfl
theorem tNotM_ap : tNotM t ρ h = (t ρ h).bind fun k h1 => .ok (!k) h1 := id rfl
theorem eAnd_ap : eAnd a b ρ h = (a ρ h).bind fun x h1 => match x with
  | .bl true => b ρ h1
  | .bl false => .ok (.bl false) h1
  | _ => .stuck := id rfl
theorem eOr_ap : eOr a b ρ h = (a ρ h).bind fun x h1 => match x with
  | .bl true => .ok (.bl true) h1
  | .bl false => b ρ h1
  | _ => .stuck := id rfl
theorem eNot_ap : eNot a ρ h = (a ρ h).bind fun x h1 => match x with
  | .bl k => .ok (.bl (!k)) h1
  | _ => .stuck := id rfl
theorem aNil_ap : aNil ρ h = .ok [] h := id rfl
theorem aCons_ap : aCons a m ρ h = (a ρ h).bind fun x h1 => (m ρ h1).bind fun xs h2 => .ok (x :: xs) h2 := id rfl
theorem eTup_ap : eTup m ρ h = (m ρ h).bind fun xs h1 => .ok (.tup xs) h1 := id rfl
theorem eLst_ap : eLst n m ρ h = (m ρ h).bind fun xs h1 => mkL n xs h1 := id rfl
theorem eCB_ap : eCB mf m ρ h = (m ρ h).bind fun xs h1 => mf xs h1 := id rfl
theorem eCB0_ap : eCB0 mf ρ h = mf [] h := id rfl
theorem isiW_ap {T : String} : isiW T a ρ h = (a ρ h).bind fun x h1 => match tyW h1 x with
  | some (.inl s) => match kitB s T with
    | some b => .ok (.bl b) h1
    | none => .stuck
  | some (.inr _) => if isiTs.contains T then .ok (.bl false) h1 else .stuck
  | none => .stuck := id rfl
theorem oNone_ap : oNone ρ h = .ok none h := id rfl
theorem oSome_ap : oSome a ρ h = (a ρ h).bind fun x h1 => match x with
  | .int i => .ok (some i) h1
  | _ => .stuck := id rfl
theorem eSl_ap {lo hi : MO} : eSl n a lo hi ρ h = (a ρ h).bind fun x h1 => (lo ρ h1).bind fun l h2 => (hi ρ h2).bind fun u h3 => slW n x l u h3 := id rfl
theorem sNop_ap : sNop ρ h = .ok .nx ρ h := id rfl
theorem sSeq_ap : sSeq s s2 ρ h = thenS (s ρ h) s2 := id rfl
theorem sExpr_ap : sExpr a ρ h = (a ρ h).toS ρ fun _ h1 => .ok .nx ρ h1 := id rfl
theorem sRet_ap : sRet a ρ h = (a ρ h).toS ρ fun w h1 => .ok (.rt w) ρ h1 := id rfl
theorem sRetN_ap : sRetN ρ h = .ok (.rt .non) ρ h := id rfl
theorem sBrk_ap : sBrk ρ h = .ok .bk ρ h := id rfl
theorem sCont_ap : sCont ρ h = .ok .ct ρ h := id rfl
theorem sIf_ap : sIf t s s2 ρ h = (t ρ h).toS ρ fun k h1 => if k then s ρ h1 else s2 ρ h1 := id rfl
theorem gN_ap : gN i w ρ = some (ρ.set i (some w)) := id rfl
theorem gT_ap : gT n gs (.tup ws) ρ = if ws.length = n then gs ws ρ else none := id rfl
theorem gsNil_ap : gsNil [] ρ = some ρ := id rfl
theorem gsCons_ap : gsCons g gs (w :: ws) ρ = match g w ρ with
  | some ρ' => gs ws ρ'
  | none => none := id rfl
theorem sAsg_ap : sAsg a g ρ h = (a ρ h).toS ρ fun w h1 => match g w ρ with
  | some ρ' => .ok .nx ρ' h1
  | none => .stuck := id rfl
theorem iAny_ap : iAny a ρ h = (a ρ h).bind iterW := id rfl
theorem iRng1W_ap : iRng1W m ρ h = (m ρ h).bind fun xs h1 => match xs with
  | [.int j] => if i62 j then .ok ⟨rngL 0 j.toNat, fun _ => true⟩ h1 else .stuck
  | _ => .stuck := id rfl
theorem iRng2W_ap : iRng2W m ρ h = (m ρ h).bind fun xs h1 => match xs with
  | [.int i, .int j] => if i62 i && i62 j then .ok ⟨rngL i (j - i).toNat, fun _ => true⟩ h1 else .stuck
  | _ => .stuck := id rfl
theorem sFor_ap {mi : MI} : sFor mi g s ρ h = (mi ρ h).toS ρ fun r h1 => loopF r.chk g s r.items ρ h1 := id rfl
theorem iterW_tup : iterW (.tup ws) h = .ok ⟨ws, fun _ => true⟩ h := id rfl
theorem iterW_str {z : Str} : iterW (.str z) h = .ok ⟨z.cps.toList.map fun c => .str ⟨#[c]⟩, fun _ => true⟩ h := id rfl
theorem iterW_frz : iterW (.frz ws) h = .ok ⟨ws, stillL (.frz ws) ws⟩ h := id rfl
theorem iterW_ref {t : Nat} (e : h[n]? = some (.lst t ws)) : iterW (.ref n) h = .ok ⟨ws, stillL (.ref n) ws⟩ h := by
  unfold iterW asL
  simp only [e]
theorem stillL_frz : stillL (.frz ws) ws h = true := stillL_of rfl
theorem stillL_ref {t : Nat} (e : h[n]? = some (.lst t ws)) : stillL (.ref n) ws h = true := stillL_of (by unfold asL; simp only [e])
theorem mkL_ap : mkL n ws h = .ok (.ref h.length) (h ++ [.lst n ws]) := id rfl
end
theorem wideB_big : 10 ^ 60 < wideB := by unfold wideB; decide +kernel
theorem fdivW_ok {i j : Int} {h : Hq} (h0 : 0 < j) (h1 : j ≤ 1000000000000000000000000000000000000000000000000000000000000) : fdivW (.int i) (.int j) h = .ok (.int (i / j)) h := by
  have h2 : j.natAbs < wideB := Nat.lt_of_le_of_lt (show j.natAbs ≤ 10 ^ 60 by omega) wideB_big
  unfold fdivW
  simp only [h0, h2, decide_true, Bool.and_self, if_true]
theorem modW_ok {i j : Int} {h : Hq} (h0 : 0 < j) : modW (.int i) (.int j) h = .ok (.int (i % j)) h := by
  unfold modW
  simp only [h0, if_true]
theorem mulW_l {i j : Int} {h : Hq} (h0 : -18446744073709551616 < i) (h1 : i < 18446744073709551616) : mulW (.int i) (.int j) h = .ok (.int (i * j)) h := by
  unfold mulW small
  have e : ((2 : Int) ^ 64) = 18446744073709551616 := by decide
  simp only [e, h0, h1, decide_true, Bool.and_self, Bool.true_or, if_true]
theorem mulW_r {i j : Int} {h : Hq} (h0 : -18446744073709551616 < j) (h1 : j < 18446744073709551616) : mulW (.int i) (.int j) h = .ok (.int (i * j)) h := by
  unfold mulW small
  have e : ((2 : Int) ^ 64) = 18446744073709551616 := by decide
  simp only [e, h0, h1, decide_true, Bool.and_self, Bool.or_true, if_true]
theorem asL_frz {xs : List W} {h : Hq} : asL h (.frz xs) = some xs := id rfl
theorem asL_ref {n t : Nat} {xs : List W} {h : Hq} (e : h[n]? = some (.lst t xs)) : asL h (.ref n) = some xs := by
  unfold asL
  simp only [e]
theorem slen_app (a b : Str) : (a ++ b).length = a.length + b.length := by
  show (a.cps ++ b.cps).size = _
  rw [Array.size_append]; rfl
theorem slen_one (c : Nat) : (⟨#[c]⟩ : Str).length = 1 := id rfl
theorem i62_of {i : Int} (h : -4611686018427387904 ≤ i) (h2 : i < 4611686018427387904) : i62 i = true := by
  unfold i62
  simp only [Bool.and_eq_true, decide_eq_true_eq]
  omega
theorem rng_get {lo : Int} {n i : Nat} {w : W} (h : (rngL lo n)[i]? = some w) : w = .int (lo + i) ∧ i < n := by
  unfold rngL at h
  rw [List.getElem?_map] at h
  cases q : (List.range n)[i]? with
  | none => rw [q] at h; cases h
  | some c =>
    rw [q] at h
    obtain ⟨hl, e⟩ := List.getElem?_eq_some_iff.mp q
    rw [List.getElem_range] at e
    subst e
    have hn : i < n := by simpa using hl
    cases h
    exact ⟨rfl, hn⟩
theorem rng_len {lo : Int} {n : Nat} : (rngL lo n).length = n := by simp [rngL]
/-- an item of a text -/
theorem str_at {z : Str} {i : Int} (h0 : 0 ≤ i) (h1 : i < z.length) : ∃ c, atI z.cps.toList i = some c ∧ c ∈ z.cps.toList := by
  obtain ⟨k, rfl⟩ := Int.eq_ofNat_of_zero_le h0
  have hk : k < z.cps.toList.length := by
    have : k < z.length := by omega
    simpa [Str.length] using this
  exact ⟨z.cps.toList[k], atI_nat (by simp), List.getElem_mem _⟩
theorem list_at {α : Type} {z : List α} {i : Int} (h0 : 0 ≤ i) (h1 : i < z.length) : ∃ c, atI z i = some c ∧ z[i.toNat]? = some c ∧ c ∈ z := by
  obtain ⟨k, rfl⟩ := Int.eq_ofNat_of_zero_le h0
  have hk : k < z.length := by omega
  exact ⟨z[k], atI_nat (by simp), by simp, List.getElem_mem _⟩
theorem ordcW_one {c : Nat} {h : Hq} : ordcW [.str ⟨#[c]⟩] h = .ok (.int (c : Nat)) h := id rfl
theorem kit_NoneType_int : kitB "NoneType" "int" = some false := by decide +kernel
theorem kit_NoneType_bool : kitB "NoneType" "bool" = some false := by decide +kernel
theorem kit_NoneType_str : kitB "NoneType" "str" = some false := by decide +kernel
theorem kit_NoneType_list : kitB "NoneType" "list" = some false := by decide +kernel
theorem kit_NoneType_tuple : kitB "NoneType" "tuple" = some false := by decide +kernel
theorem kit_NoneType_dict : kitB "NoneType" "dict" = some false := by decide +kernel
theorem kit_bool_int : kitB "bool" "int" = some true := by decide +kernel
theorem kit_bool_bool : kitB "bool" "bool" = some true := by decide +kernel
theorem kit_bool_str : kitB "bool" "str" = some false := by decide +kernel
theorem kit_bool_list : kitB "bool" "list" = some false := by decide +kernel
theorem kit_bool_tuple : kitB "bool" "tuple" = some false := by decide +kernel
theorem kit_bool_dict : kitB "bool" "dict" = some false := by decide +kernel
theorem kit_int_int : kitB "int" "int" = some true := by decide +kernel
theorem kit_int_bool : kitB "int" "bool" = some false := by decide +kernel
theorem kit_int_str : kitB "int" "str" = some false := by decide +kernel
theorem kit_int_list : kitB "int" "list" = some false := by decide +kernel
theorem kit_int_tuple : kitB "int" "tuple" = some false := by decide +kernel
theorem kit_int_dict : kitB "int" "dict" = some false := by decide +kernel
theorem kit_str_int : kitB "str" "int" = some false := by decide +kernel
theorem kit_str_bool : kitB "str" "bool" = some false := by decide +kernel
theorem kit_str_str : kitB "str" "str" = some true := by decide +kernel
theorem kit_str_list : kitB "str" "list" = some false := by decide +kernel
theorem kit_str_tuple : kitB "str" "tuple" = some false := by decide +kernel
theorem kit_str_dict : kitB "str" "dict" = some false := by decide +kernel
theorem kit_tuple_int : kitB "tuple" "int" = some false := by decide +kernel
theorem kit_tuple_bool : kitB "tuple" "bool" = some false := by decide +kernel
theorem kit_tuple_str : kitB "tuple" "str" = some false := by decide +kernel
theorem kit_tuple_list : kitB "tuple" "list" = some false := by decide +kernel
theorem kit_tuple_tuple : kitB "tuple" "tuple" = some true := by decide +kernel
theorem kit_tuple_dict : kitB "tuple" "dict" = some false := by decide +kernel
theorem kit_list_int : kitB "list" "int" = some false := by decide +kernel
theorem kit_list_bool : kitB "list" "bool" = some false := by decide +kernel
theorem kit_list_str : kitB "list" "str" = some false := by decide +kernel
theorem kit_list_list : kitB "list" "list" = some true := by decide +kernel
theorem kit_list_tuple : kitB "list" "tuple" = some false := by decide +kernel
theorem kit_list_dict : kitB "list" "dict" = some false := by decide +kernel
theorem kit_dict_int : kitB "dict" "int" = some false := by decide +kernel
theorem kit_dict_bool : kitB "dict" "bool" = some false := by decide +kernel
theorem kit_dict_str : kitB "dict" "str" = some false := by decide +kernel
theorem kit_dict_list : kitB "dict" "list" = some false := by decide +kernel
theorem kit_dict_tuple : kitB "dict" "tuple" = some false := by decide +kernel
theorem kit_dict_dict : kitB "dict" "dict" = some true := by decide +kernel
section
variable {t : Nat} {i j : Int} {a b : Str} {xs ys : List W} {m n : Nat} {h : Hq} {neg p r : Bool}
theorem addW_ii : addW t (.int i) (.int j) h = .ok (.int (i + j)) h := id rfl
theorem addW_ss : addW t (.str a) (.str b) h = if a.length + b.length ≤ sizeLine then .ok (.str (a ++ b)) h else .stuck := id rfl
theorem addW_tt : addW t (.tup xs) (.tup ys) h = if xs.length + ys.length ≤ sizeLine then .ok (.tup (xs ++ ys)) h else .stuck := id rfl
theorem subW_ii : subW (.int i) (.int j) h = .ok (.int (i - j)) h := id rfl
theorem eqW_ii : eqW neg (.int i) (.int j) h = .ok (.bl (xor neg (decide (i = j)))) h := id rfl
theorem eqW_ss : eqW neg (.str a) (.str b) h = .ok (.bl (xor neg (decide (a = b)))) h := id rfl
theorem eqW_bb : eqW neg (.bl p) (.bl r) h = .ok (.bl (xor neg (decide (p = r)))) h := id rfl
theorem eqW_nn : eqW neg .non .non h = .ok (.bl (xor neg true)) h := id rfl
theorem eqW_ni : eqW neg .non (.int i) h = .ok (.bl neg) h := id rfl
theorem eqW_in : eqW neg (.int i) .non h = .ok (.bl neg) h := id rfl
theorem eqW_nb : eqW neg .non (.bl p) h = .ok (.bl neg) h := id rfl
theorem eqW_bn : eqW neg (.bl p) .non h = .ok (.bl neg) h := id rfl
theorem eqW_ns : eqW neg .non (.str a) h = .ok (.bl neg) h := id rfl
theorem eqW_sn : eqW neg (.str a) .non h = .ok (.bl neg) h := id rfl
theorem eqW_is : eqW neg (.int i) (.str a) h = .ok (.bl neg) h := id rfl
theorem eqW_si : eqW neg (.str a) (.int i) h = .ok (.bl neg) h := id rfl
theorem eqW_bs : eqW neg (.bl p) (.str a) h = .ok (.bl neg) h := id rfl
theorem eqW_sb : eqW neg (.str a) (.bl p) h = .ok (.bl neg) h := id rfl
theorem ltW_ii : ltW (.int i) (.int j) h = .ok (.bl (decide (i < j))) h := id rfl
theorem leW_ii : leW (.int i) (.int j) h = .ok (.bl (decide (i ≤ j))) h := id rfl
theorem gtW_ii : gtW (.int i) (.int j) h = .ok (.bl (decide (j < i))) h := id rfl
theorem geW_ii : geW (.int i) (.int j) h = .ok (.bl (decide (j ≤ i))) h := id rfl
theorem lenW_s : lenW [.str a] h = if a.length ≤ sizeLine then .ok (.int a.length) h else .stuck := id rfl
theorem lenW_t : lenW [.tup xs] h = .ok (.int xs.length) h := id rfl
theorem lenW_f : lenW [.frz xs] h = .ok (.int xs.length) h := id rfl
theorem lenW_r : lenW [.ref n] h = (match h[n]? with
  | some (.lst _ ys) => .ok (.int ys.length) h
  | some (.dct _ false kvs) => .ok (.int kvs.length) h
  | _ => .stuck) := id rfl
theorem absW_i : absW [.int i] h = .ok (.int (if i < 0 then -i else i)) h := id rfl
theorem max2W_i : max2W [.int i, .int j] h = .ok (.int (if j > i then j else i)) h := id rfl
theorem min2W_i : min2W [.int i, .int j] h = .ok (.int (if j < i then j else i)) h := id rfl
theorem intcW_i : intcW [.int i] h = .ok (.int i) h := id rfl
theorem intcW_b : intcW [.bl p] h = .ok (.int (if p then 1 else 0)) h := id rfl
theorem ixW_t : ixW (.tup xs) (.int i) h = (match atI xs i with
  | some w => .ok w h
  | none => .stuck) := id rfl
theorem ixW_s : ixW (.str a) (.int i) h = if a.length ≤ sizeLine then (match atI a.cps.toList i with
    | some c => .ok (.str ⟨#[c]⟩) h
    | none => .stuck) else .stuck := id rfl
theorem ixW_f : ixW (.frz xs) (.int i) h = (match atI xs i with
  | some w => .ok w h
  | none => .stuck) := id rfl
theorem asL_r : asL h (.ref n) = (match h[n]? with
  | some (.lst _ xs) => some xs
  | _ => none) := id rfl
theorem ixW_r : ixW (.ref n) (.int i) h = (match asL h (.ref n) with
  | some xs => (match atI xs i with
    | some w => .ok w h
    | none => .stuck)
  | none => .stuck) := id rfl
theorem slW_t {lo hi : Option Int} : slW t (.tup xs) lo hi h = .ok (.tup (cutL xs lo hi)) h := id rfl
theorem slW_s {lo hi : Option Int} : slW t (.str a) lo hi h = if a.length ≤ sizeLine then .ok (.str (cutS a lo hi)) h else .stuck := id rfl
theorem slW_f {lo hi : Option Int} : slW t (.frz xs) lo hi h = mkL t (cutL xs lo hi) h := id rfl
theorem slW_r {lo hi : Option Int} : slW t (.ref n) lo hi h = (match asL h (.ref n) with
  | some xs => mkL t (cutL xs lo hi) h
  | none => .stuck) := id rfl
theorem iterW_r : iterW (.ref n) h = (match asL h (.ref n) with
  | some ys => .ok ⟨ys, stillL (.ref n) ys⟩ h
  | none => .stuck) := id rfl
theorem isNW_n : isNW neg .non .non h = .ok (.bl (xor neg true)) h := id rfl
theorem isNW_i : isNW neg (.int i) .non h = .ok (.bl (xor neg false)) h := id rfl
theorem isNW_b : isNW neg (.bl p) .non h = .ok (.bl (xor neg false)) h := id rfl
theorem isNW_s : isNW neg (.str a) .non h = .ok (.bl (xor neg false)) h := id rfl
theorem isNW_t : isNW neg (.tup xs) .non h = .ok (.bl (xor neg false)) h := id rfl
theorem isNW_f : isNW neg (.frz xs) .non h = .ok (.bl (xor neg false)) h := id rfl
theorem isNW_r : isNW neg (.ref n) .non h = .ok (.bl (xor neg false)) h := id rfl
theorem mulNS_ap : mulNS (.int i) (.str a) h = if decide (2 ≤ i ∧ i ≤ 1000) && decide (1 ≤ a.length ∧ a.length ≤ 1000) then .ok (.str ⟨(List.replicate i.toNat a.cps).foldl (· ++ ·) #[]⟩) h else .stuck := id rfl
theorem powW_ap : powW (.int i) (.int j) h = if decide (0 ≤ j ∧ j ≤ 1000000) && decide (i.natAbs < 2 ^ 64) then .ok (.int (i ^ j.toNat)) h else .stuck := id rfl
end
theorem cutS_len (z : Str) (lo hi : Option Int) : (cutS z lo hi).length ≤ z.length := by
  unfold cutS Str.length
  simp
  omega
theorem cutS_pos (z : Str) (k : Int) (h0 : 1 ≤ k) (hz : 0 < z.length) : 0 < (cutS z none (some k)).length := by
  unfold cutS
  show 0 < Array.size _
  simp only [HT.sIx, List.drop_zero, List.size_toArray, List.length_take]
  rw [if_neg (by omega)]
  have : z.cps.toList.length = z.length := by simp [Str.length]
  omega
theorem cutS_to (z : Str) (k : Int) (h0 : 0 ≤ k) : (cutS z none (some k)).length ≤ k.toNat := by
  unfold cutS
  show Array.size _ ≤ _
  simp only [HT.sIx, List.drop_zero, List.size_toArray, List.length_take]
  rw [if_neg (by omega)]
  omega

theorem loopF_nil {chk : Hq → Bool} {g : MG} {b : MS} {ρ : Ev} {h : Hq} : loopF chk g b [] ρ h = if chk h then .ok .nx ρ h else .stuck := id rfl
def turnF (r : RS) (k : Ev → Hq → RS) : RS := match r with
  | .ok .nx ρ h => k ρ h
  | .ok .ct ρ h => k ρ h
  | .ok .bk ρ h => .ok .nx ρ h
  | r => r
theorem turnF_nx {ρ : Ev} {h : Hq} {k : Ev → Hq → RS} : turnF (.ok .nx ρ h) k = k ρ h := id rfl
theorem turnF_ct {ρ : Ev} {h : Hq} {k : Ev → Hq → RS} : turnF (.ok .ct ρ h) k = k ρ h := id rfl
theorem turnF_bk {ρ : Ev} {h : Hq} {k : Ev → Hq → RS} : turnF (.ok .bk ρ h) k = .ok .nx ρ h := id rfl
theorem turnF_rt {w : W} {ρ : Ev} {h : Hq} {k : Ev → Hq → RS} : turnF (.ok (.rt w) ρ h) k = .ok (.rt w) ρ h := id rfl
theorem turnF_exc {c : Str} {ρ : Ev} {h : Hq} {k : Ev → Hq → RS} : turnF (.exc c ρ h) k = .exc c ρ h := id rfl
theorem loopF_cons {chk : Hq → Bool} {g : MG} {b : MS} {w : W} {ws : List W} {ρ : Ev} {h : Hq} : loopF chk g b (w :: ws) ρ h = if chk h then (match g w ρ with
    | some ρ1 => turnF (b ρ1 h) (loopF chk g b ws)
    | none => .stuck) else .stuck := by
  conv => lhs; unfold loopF
  by_cases c : chk h = true
  · rw [if_pos c, if_pos c]
    cases g w ρ with
    | none => rfl
    | some ρ1 =>
      dsimp only
      cases b ρ1 h with
      | ok f ρ2 h2 => cases f <;> rfl
      | exc c ρ2 h2 => rfl
      | stuck => rfl
  · rw [if_neg c, if_neg c]
theorem stillL_ap {x : W} {xs : List W} {h : Hq} : stillL x xs h = (match asL h x with
  | some ys => W.beqs xs ys
  | none => false) := id rfl
end Z

namespace Y
open PySem L2 Z
/-- place_of(key) -/
def F_place_of_b : MS := sSeq (sAsg (eC (.int 7)) (gN 1))
      (sSeq (sFor (iAny (eV 0)) (gN 2) (sAsg (eBin (modW) (eBin (addW 0) (eBin (mulW) (eV 1) (eC (.int 31))) (eCB ordcW (aCons (eV 2) (aNil)))) (eC (.int (256)))) (gN 1)))
      (sRet (eV 1)))
def F_place_of : MF := fnB 1 3 F_place_of_b
theorem F_place_of_ap {x0 : W} {h : Hq} : F_place_of [x0] h = endF (F_place_of_b [some x0, none, none] h) := id rfl
/-- _law_cell(_law_script, _law_k) -/
def F_law_cell_b : MS := sSeq (sIf (tB (eBin (ltW) (eV 1) (eCB lenW (aCons (eV 0) (aNil))))) (sRet (eBin ixW (eV 0) (eV 1))) (sNop))
      (sRet (eC (.int 0)))
def F_law_cell : MF := fnB 2 2 F_law_cell_b
theorem F_law_cell_ap {x0 x1 : W} {h : Hq} : F_law_cell [x0, x1] h = endF (F_law_cell_b [some x0, some x1] h) := id rfl
/-- _law_chars() -/
def F_law_chars_b : MS := sSeq (sAsg (eC (.str " !\"#$&'()*+,-./0123456789:;<=>?@ABCDEFGHIJKLMNOPQRSTUVWXYZ[\\]^_`")) (gN 0))
      (sRet (eBin (addW 0) (eV 0) (eC (.str "abcdefghijklmnopqrstuvwxyz{|}~"))))
def F_law_chars : MF := fnB 0 1 F_law_chars_b
theorem F_law_chars_ap {h : Hq} : F_law_chars [] h = endF (F_law_chars_b [none] h) := id rfl
/-- _law_word(_law_cell_here, _law_letters, _law_most) -/
def F_law_word_b : MS := sSeq (sAsg (eC (.str "")) (gN 3))
      (sSeq (sAsg (eCB absW (aCons (eV 0) (aNil))) (gN 4))
      (sSeq (sFor (iRng1W (aCons (eV 2) (aNil))) (gN 5) (sIf (tB (eBin (gtW) (eV 4) (eC (.int 0)))) (sSeq (sAsg (eBin (subW) (eV 4) (eC (.int 1))) (gN 4))
      (sSeq (sAsg (eBin (addW 0) (eV 3) (eBin ixW (eV 1) (eBin (modW) (eCB intcW (aCons (eV 4) (aNil))) (eCB lenW (aCons (eV 1) (aNil)))))) (gN 3))
      (sAsg (eBin (fdivW) (eV 4) (eCB lenW (aCons (eV 1) (aNil)))) (gN 4)))) (sNop)))
      (sRet (eV 3))))
def F_law_word : MF := fnB 3 6 F_law_word_b
theorem F_law_word_ap {x0 x1 x2 : W} {h : Hq} : F_law_word [x0, x1, x2] h = endF (F_law_word_b [some x0, some x1, some x2, none, none, none] h) := id rfl
/-- _law_due(_law_key) -/
def F_law_due_b : MS := sSeq (sAsg (eC (.int 7)) (gN 1))
      (sSeq (sFor (iAny (eV 0)) (gN 2) (sAsg (eBin (addW 0) (eBin (mulW) (eV 1) (eC (.int 31))) (eCB ordcW (aCons (eV 2) (aNil)))) (gN 1)))
      (sRet (eBin (modW) (eCB intcW (aCons (eV 1) (aNil))) (eC (.int 256)))))
def F_law_due : MF := fnB 1 3 F_law_due_b
theorem F_law_due_ap {x0 : W} {h : Hq} : F_law_due [x0] h = endF (F_law_due_b [some x0, none, none] h) := id rfl
/-- _law_right(_law_key) -/
def F_law_right_b : MS := sSeq (sAsg (eCB F_place_of (aCons (eV 0) (aNil))) (gN 1))
      (sRet (eAnd (isiW "int" (eV 1)) (eAnd (eNot (isiW "bool" (eV 1))) (eBin (eqW false) (eV 1) (eCB F_law_due (aCons (eV 0) (aNil)))))))
def F_law_right : MF := fnB 1 2 F_law_right_b
theorem F_law_right_ap {x0 : W} {h : Hq} : F_law_right [x0] h = endF (F_law_right_b [some x0, none] h) := id rfl
/-- law(_law_script) -/
def F_law_b : MS := sSeq (sAsg (eCB0 F_law_chars) (gN 1))
      (sSeq (sAsg (eCB absW (aCons (eCB F_law_cell (aCons (eV 0) (aCons (eC (.int 1)) (aNil)))) (aNil))) (gN 2))
      (sSeq (sAsg (eCB F_law_word (aCons (eBin (addW 0) (eC (.int 1)) (eCB absW (aCons (eCB F_law_cell (aCons (eV 0) (aCons (eC (.int 0)) (aNil)))) (aNil)))) (aCons (eV 1) (aCons (eC (.int 20)) (aNil))))) (gN 3))
      (sSeq (sIf (tB (eBin (eqW false) (eBin (modW) (eCB intcW (aCons (eV 2) (aNil))) (eC (.int 5))) (eC (.int 1)))) (sAsg (eSl 0 (eBin (addW 0) (eV 3) (eBin mulNS (eC (.int 4)) (eC (.str "place")))) oNone (oSome (eC (.int 20)))) (gN 3)) (sNop))
      (sSeq (sAsg (eBin (modW) (eCB intcW (aCons (eBin (fdivW) (eV 2) (eC (.int 5))) (aNil))) (eCB lenW (aCons (eV 3) (aNil)))) (gN 4))
      (sSeq (sAsg (eBin (addW 0) (eBin (addW 0) (eSl 0 (eV 3) oNone (oSome (eV 4))) (eBin ixW (eV 1) (eBin (modW) (eCB intcW (aCons (eBin (fdivW) (eV 2) (eC (.int 100))) (aNil))) (eC (.int 94))))) (eSl 0 (eV 3) (oSome (eBin (addW 0) (eV 4) (eC (.int 1)))) oNone)) (gN 5))
      (sSeq (sAsg (eLst 0 (aCons (eV 3) (aCons (eV 5) (aCons (eSl 0 (eBin (addW 0) (eV 3) (eV 5)) oNone (oSome (eBin (addW 0) (eBin (modW) (eCB lenW (aCons (eV 3) (aNil))) (eC (.int 20))) (eC (.int 1))))) (aCons (eSl 0 (eV 3) oNone (oSome (eCB max2W (aCons (eC (.int 1)) (aCons (eV 4) (aNil)))))) (aCons (eV 3) (aNil))))))) (gN 6))
      (sSeq (sFor (iAny (eV 6)) (gN 7) (sIf (tNotM (tTru (eCB F_law_right (aCons (eV 7) (aNil))))) (sRet (eC (.bl false))) (sNop)))
      (sRet (eC (.bl true))))))))))
def F_law : MF := fnB 1 8 F_law_b
theorem F_law_ap {x0 : W} {h : Hq} : F_law [x0] h = endF (F_law_b [some x0, none, none, none, none, none, none, none] h) := id rfl
end Y

namespace Y
open PySem L2 Z
local macro_rules | `(tactic| walk_at "q") => `(tactic| simp only [Int.reduceLT, Int.reduceLE, Int.reduceGT, Int.reduceGE, Int.reduceNeg, Int.reducePow, Int.reduceAdd, Int.reduceSub, Int.reduceMul, Int.reduceEq, Int.reduceToNat, Int.reduceMod, Nat.reduceLT, Nat.reduceLeDiff, Nat.reduceAdd, Nat.reduceSub, Nat.reduceEqDiff, Nat.reduceMul, decide_true, decide_false, Bool.and_self, Bool.and_true, Bool.true_and, Bool.and_false, Bool.false_and, Bool.or_true, Bool.true_or, Bool.or_false, Bool.false_or, Bool.or_self, reduceCtorEq, sizeL, eV_ap, eC_ap, eBin_ap, eNeg_ap, tB_ap, eChain_ap, tTru_ap, tAndM_ap, tOrM_ap, tNotM_ap, eAnd_ap, eOr_ap, eNot_ap, aNil_ap, aCons_ap, eTup_ap, eLst_ap, eCB_ap, eCB0_ap, isiW_ap, oNone_ap, oSome_ap, eSl_ap, sNop_ap, sSeq_ap, endF_rt, endF_nx, endF_exc, sExpr_ap, sRet_ap, sRetN_ap, sBrk_ap, sCont_ap, sIf_ap, gN_ap, gT_ap, gsNil_ap, gsCons_ap, sAsg_ap, iAny_ap, iRng1W_ap, iRng2W_ap, sFor_ap, iterW_tup, iterW_str, iterW_frz, bind_ok, bind_exc, toS_ok, toS_exc, thenS_nx, thenS_rt, thenS_bk, thenS_ct, thenS_exc, mkL_ap, tyW, truW, addW_ii, addW_ss, addW_tt, subW_ii, fdivW_ok, modW_ok, powW_ap, asL_frz, mulNS_ap, eqW_ii, eqW_ss, eqW_bb, eqW_nn, eqW_ni, eqW_in, eqW_nb, eqW_bn, eqW_ns, eqW_sn, eqW_is, eqW_si, eqW_bs, eqW_sb, ltW_ii, leW_ii, gtW_ii, geW_ii, isNW_n, isNW_i, isNW_b, isNW_s, isNW_t, isNW_f, isNW_r, lenW_s, lenW_t, lenW_f, lenW_r, iterW_r, asL_r, loopF_nil, loopF_cons, turnF_nx, turnF_ct, turnF_bk, turnF_rt, turnF_exc, stillL_ap, W.beqs_refl, absW_i, max2W_i, min2W_i, intcW_i, intcW_b, ordcW_one, mulW_l, mulW_r, slen_one, kit_NoneType_int, kit_NoneType_bool, kit_NoneType_str, kit_NoneType_list, kit_NoneType_tuple, kit_NoneType_dict, kit_bool_int, kit_bool_bool, kit_bool_str, kit_bool_list, kit_bool_tuple, kit_bool_dict, kit_int_int, kit_int_bool, kit_int_str, kit_int_list, kit_int_tuple, kit_int_dict, kit_str_int, kit_str_bool, kit_str_str, kit_str_list, kit_str_tuple, kit_str_dict, kit_tuple_int, kit_tuple_bool, kit_tuple_str, kit_tuple_list, kit_tuple_tuple, kit_tuple_dict, kit_list_int, kit_list_bool, kit_list_str, kit_list_list, kit_list_tuple, kit_list_dict, kit_dict_int, kit_dict_bool, kit_dict_str, kit_dict_list, kit_dict_tuple, kit_dict_dict, ixW_t, ixW_s, ixW_f, ixW_r, slW_r, slW_t, slW_s, slW_f, List.getElem?_cons_zero, List.getElem?_cons_succ, List.set_cons_zero, List.set_cons_succ, List.map_cons, List.map_nil, List.replicate, List.cons_append, List.nil_append, List.length_cons, List.length_nil, Bool.false_xor, Bool.true_xor, if_true, if_false, Bool.false_eq_true, Bool.not_true, Bool.not_false])
local macro_rules | `(tactic| walk_at "qh") => `(tactic| simp only [Int.reduceLT, Int.reduceLE, Int.reduceGT, Int.reduceGE, Int.reduceNeg, Int.reducePow, Int.reduceAdd, Int.reduceSub, Int.reduceMul, Int.reduceEq, Int.reduceToNat, Int.reduceMod, Nat.reduceLT, Nat.reduceLeDiff, Nat.reduceAdd, Nat.reduceSub, Nat.reduceEqDiff, Nat.reduceMul, decide_true, decide_false, Bool.and_self, Bool.and_true, Bool.true_and, Bool.and_false, Bool.false_and, Bool.or_true, Bool.true_or, Bool.or_false, Bool.false_or, Bool.or_self, reduceCtorEq, sizeL, eV_ap, eC_ap, eBin_ap, eNeg_ap, tB_ap, eChain_ap, tTru_ap, tAndM_ap, tOrM_ap, tNotM_ap, eAnd_ap, eOr_ap, eNot_ap, aNil_ap, aCons_ap, eTup_ap, eLst_ap, eCB_ap, eCB0_ap, isiW_ap, oNone_ap, oSome_ap, eSl_ap, sNop_ap, sSeq_ap, endF_rt, endF_nx, endF_exc, sExpr_ap, sRet_ap, sRetN_ap, sBrk_ap, sCont_ap, sIf_ap, gN_ap, gT_ap, gsNil_ap, gsCons_ap, sAsg_ap, iAny_ap, iRng1W_ap, iRng2W_ap, sFor_ap, iterW_tup, iterW_str, iterW_frz, bind_ok, bind_exc, toS_ok, toS_exc, thenS_nx, thenS_rt, thenS_bk, thenS_ct, thenS_exc, mkL_ap, tyW, truW, addW_ii, addW_ss, addW_tt, subW_ii, fdivW_ok, modW_ok, powW_ap, asL_frz, mulNS_ap, eqW_ii, eqW_ss, eqW_bb, eqW_nn, eqW_ni, eqW_in, eqW_nb, eqW_bn, eqW_ns, eqW_sn, eqW_is, eqW_si, eqW_bs, eqW_sb, ltW_ii, leW_ii, gtW_ii, geW_ii, isNW_n, isNW_i, isNW_b, isNW_s, isNW_t, isNW_f, isNW_r, lenW_s, lenW_t, lenW_f, lenW_r, iterW_r, asL_r, loopF_nil, loopF_cons, turnF_nx, turnF_ct, turnF_bk, turnF_rt, turnF_exc, stillL_ap, W.beqs_refl, absW_i, max2W_i, min2W_i, intcW_i, intcW_b, ordcW_one, mulW_l, mulW_r, slen_one, kit_NoneType_int, kit_NoneType_bool, kit_NoneType_str, kit_NoneType_list, kit_NoneType_tuple, kit_NoneType_dict, kit_bool_int, kit_bool_bool, kit_bool_str, kit_bool_list, kit_bool_tuple, kit_bool_dict, kit_int_int, kit_int_bool, kit_int_str, kit_int_list, kit_int_tuple, kit_int_dict, kit_str_int, kit_str_bool, kit_str_str, kit_str_list, kit_str_tuple, kit_str_dict, kit_tuple_int, kit_tuple_bool, kit_tuple_str, kit_tuple_list, kit_tuple_tuple, kit_tuple_dict, kit_list_int, kit_list_bool, kit_list_str, kit_list_list, kit_list_tuple, kit_list_dict, kit_dict_int, kit_dict_bool, kit_dict_str, kit_dict_list, kit_dict_tuple, kit_dict_dict, ixW_t, ixW_s, ixW_f, ixW_r, slW_r, slW_t, slW_s, slW_f, List.getElem?_cons_zero, List.getElem?_cons_succ, List.set_cons_zero, List.set_cons_succ, List.map_cons, List.map_nil, List.replicate, List.cons_append, List.nil_append, List.length_cons, List.length_nil, Bool.false_xor, Bool.true_xor, if_true, if_false, Bool.false_eq_true, Bool.not_true, Bool.not_false, *])
theorem law_cell (ns : List Int) (k : Nat) (h : Hq) : F_law_cell [.frz (ns.map W.int), .int k] h = .ok (.int (ns.getD k 0)) h := by
  rw [F_law_cell_ap]
  unfold F_law_cell_b
  walk_at "q"
  by_cases e : (k : Int) < ((ns.map W.int).length : Int)
  · have e' : k < ns.length := by simpa using e
    have : atI (ns.map W.int) (k : Int) = some (W.int (ns.getD k 0)) := atI_nat (by simp [e', List.getD])
    simp only [decide_eq_true e, this]
    walk_at "q"
  · have e' : ns.length ≤ k := by simpa using e
    simp only [decide_eq_false e]
    walk_at "q"
    simp [List.getD, List.getElem?_eq_none e']
def CH : Str := " !\"#$&'()*+,-./0123456789:;<=>?@ABCDEFGHIJKLMNOPQRSTUVWXYZ[\\]^_`" ++ "abcdefghijklmnopqrstuvwxyz{|}~"
theorem CH_len : CH.length = 94 := by decide +kernel
theorem law_chars (h : Hq) : F_law_chars [] h = .ok (.str CH) h := by
  rw [F_law_chars_ap]
  unfold F_law_chars_b
  walk_at "q"
  rw [if_pos (by decide +kernel)]
  walk_at "q"
  rfl
theorem law_word (c : Int) (L : Str) (m : Nat) (h : Hq) (hL : 0 < L.length) (hL2 : L.length ≤ 1000) (hm : m ≤ 1000) :
    okp (F_law_word [.int c, .str L, .int m] h) (fun w h' => h' = h ∧ ∃ s : Str, w = .str s ∧ s.length ≤ m ∧ (c ≠ 0 → 0 < m → 0 < s.length)) := by
  rw [F_law_word_ap, okp_endF]
  unfold F_law_word_b
  have h62 : i62 (m : Int) = true := i62_of (by omega) (by omega)
  walk_at "q"
  simp only [h62]
  walk_at "q"
  rw [oks_then]
  refine oks_loop (fun i ρ h' => h' = h ∧ ∃ (s : Str) (r : Int) (v : Option W), ρ = [some (.int c), some (.str L), some (.int m), some (.str s), some (.int r), v] ∧ s.length ≤ i ∧ 0 ≤ r ∧ (c ≠ 0 → (i = 0 ∧ 0 < r) ∨ 0 < s.length)) _ ?_ ?_ ?_ ?_
  · exact ⟨rfl, "", _, _, rfl, Nat.le_refl _, by split <;> omega, fun hc => .inl ⟨rfl, by split <;> omega⟩⟩
  · exact fun _ _ _ _ => rfl
  · rintro i w ρ h' hw ⟨rfl, s, r, v, rfl, hs, hr, hc⟩
    obtain ⟨rfl, hi⟩ := rng_get hw
    refine ⟨_, rfl, ?_⟩
    walk_at "q"
    by_cases e : 0 < r
    · have hLs : L.length ≤ 16777216 := by omega
      have hL0 : (0 : Int) < (L.length : Int) := by omega
      have hL1 : (L.length : Int) ≤ 1000000000000000000000000000000000000000000000000000000000000 := by omega
      obtain ⟨k, ha, _⟩ := str_at (z := L) (i := (r - 1) % (L.length : Int)) (Int.emod_nonneg _ (by omega)) (Int.emod_lt_of_pos _ hL0)
      have hlen : s.length + 1 ≤ 16777216 := by omega
      have e2 := decide_eq_true e
      simp only [e2]
      walk_at "qh"
      rw [oks_ok]
      refine And.intro rfl ⟨_, _, _, rfl, ?_, Int.ediv_nonneg (by omega) (by omega), fun _ => .inr ?_⟩
      · rw [slen_app, slen_one]; omega
      · rw [slen_app, slen_one]; omega
    · simp only [decide_eq_false e]
      walk_at "q"
      rw [oks_ok]
      refine And.intro rfl ⟨s, r, _, rfl, by omega, hr, fun z => ?_⟩
      rcases hc z with q | q
      · omega
      · exact .inr q
  · rintro ρ h' ⟨rfl, s, r, v, rfl, hs, hr, hc⟩
    walk_at "q"
    rw [oks_ok]
    rw [rng_len] at hs hc
    refine And.intro rfl ⟨s, rfl, by omega, fun z hm0 => ?_⟩
    rcases hc z with q | q
    · omega
    · exact q

def fmod (p : Int) (c : Nat) : Int := (p * 31 + c) % 256
def fraw (p : Int) (c : Nat) : Int := p * 31 + c
theorem fold_mod : ∀ (l : List Nat) (p q : Int), p % 256 = q % 256 → (l.foldl fmod p) % 256 = (l.foldl fraw q) % 256
  | [], p, q, h => h
  | c :: l, p, q, h => by
    refine fold_mod l _ _ ?_
    unfold fmod fraw
    omega
theorem fmod_small : ∀ (l : List Nat) (p : Int), 0 ≤ p → p < 256 → (l.foldl fmod p) % 256 = l.foldl fmod p
  | [], p, h0, h1 => Int.emod_eq_of_lt h0 h1
  | c :: l, p, _, _ => fmod_small l _ (by unfold fmod; omega) (by unfold fmod; omega)
theorem chr_get {l : List Nat} {i : Nat} {w : W} (h : (l.map fun c => W.str ⟨#[c]⟩)[i]? = some w) : ∃ c, w = .str ⟨#[c]⟩ ∧ l.take (i + 1) = l.take i ++ [c] := by
  rw [List.getElem?_map] at h
  cases q : l[i]? with
  | none => rw [q] at h; cases h
  | some c =>
    rw [q] at h
    cases h
    exact ⟨c, rfl, by rw [List.take_succ, q]; rfl⟩
theorem place_of_ok (z : Str) (h : Hq) : F_place_of [.str z] h = .ok (.int (z.cps.toList.foldl fmod 7)) h := by
  have key : okp (F_place_of [.str z] h) (fun w h' => w = .int (z.cps.toList.foldl fmod 7) ∧ h' = h) := by
    rw [F_place_of_ap, okp_endF]
    unfold F_place_of_b
    walk_at "q"
    rw [oks_then]
    refine oks_loop (fun i ρ h' => h' = h ∧ ∃ v, ρ = [some (.str z), some (.int ((z.cps.toList.take i).foldl fmod 7)), v]) _ ?_ ?_ ?_ ?_
    · exact ⟨rfl, _, rfl⟩
    · exact fun _ _ _ _ => rfl
    · rintro i w ρ h' hw ⟨rfl, v, rfl⟩
      obtain ⟨c, rfl, e⟩ := chr_get hw
      refine ⟨_, rfl, ?_⟩
      walk_at "q"
      rw [oks_ok]
      refine And.intro rfl ⟨some (.str ⟨#[c]⟩), ?_⟩
      rw [e, List.foldl_append]
      rfl
    · rintro ρ h' ⟨rfl, v, rfl⟩
      walk_at "q"
      rw [oks_ok]
      refine And.intro ?_ rfl
      rw [List.length_map, List.take_length]
  obtain ⟨a, h', e, rfl, rfl⟩ := okp_iff.1 key
  exact e
theorem due_ok (z : Str) (h : Hq) : F_law_due [.str z] h = .ok (.int ((z.cps.toList.foldl fraw 7) % 256)) h := by
  have key : okp (F_law_due [.str z] h) (fun w h' => w = .int ((z.cps.toList.foldl fraw 7) % 256) ∧ h' = h) := by
    rw [F_law_due_ap, okp_endF]
    unfold F_law_due_b
    walk_at "q"
    rw [oks_then]
    refine oks_loop (fun i ρ h' => h' = h ∧ ∃ v, ρ = [some (.str z), some (.int ((z.cps.toList.take i).foldl fraw 7)), v]) _ ?_ ?_ ?_ ?_
    · exact ⟨rfl, _, rfl⟩
    · exact fun _ _ _ _ => rfl
    · rintro i w ρ h' hw ⟨rfl, v, rfl⟩
      obtain ⟨c, rfl, e⟩ := chr_get hw
      refine ⟨_, rfl, ?_⟩
      walk_at "q"
      rw [oks_ok]
      refine And.intro rfl ⟨some (.str ⟨#[c]⟩), ?_⟩
      rw [e, List.foldl_append]
      rfl
    · rintro ρ h' ⟨rfl, v, rfl⟩
      walk_at "q"
      rw [oks_ok]
      refine And.intro ?_ rfl
      rw [List.length_map, List.take_length]
  obtain ⟨a, h', e, rfl, rfl⟩ := okp_iff.1 key
  exact e
theorem right_ok (z : Str) (h : Hq) : F_law_right [.str z] h = .ok (.bl true) h := by
  rw [F_law_right_ap]
  unfold F_law_right_b
  walk_at "q"
  simp only [place_of_ok, due_ok]
  walk_at "q"
  simp only [place_of_ok, due_ok]
  walk_at "q"
  have e : z.cps.toList.foldl fmod 7 = (z.cps.toList.foldl fraw 7) % 256 := by
    rw [← fold_mod z.cps.toList 7 7 rfl, fmod_small _ 7 (by omega) (by omega)]
  rw [decide_eq_true e]
theorem law_cell_i (ns : List Int) (k : Int) (h : Hq) (h0 : 0 ≤ k) : F_law_cell [.frz (ns.map W.int), .int k] h = .ok (.int (ns.getD k.toNat 0)) h := by
  obtain ⟨j, rfl⟩ := Int.eq_ofNat_of_zero_le h0
  exact law_cell ns j h
local macro_rules | `(tactic| walk_at "q1") => `(tactic| simp only [Int.reduceLT, Int.reduceLE, Int.reduceGT, Int.reduceGE, Int.reduceNeg, Int.reducePow, Int.reduceAdd, Int.reduceSub, Int.reduceMul, Int.reduceEq, Int.reduceToNat, Int.reduceMod, Nat.reduceLT, Nat.reduceLeDiff, Nat.reduceAdd, Nat.reduceSub, Nat.reduceEqDiff, Nat.reduceMul, decide_true, decide_false, Bool.and_self, Bool.and_true, Bool.true_and, Bool.and_false, Bool.false_and, Bool.or_true, Bool.true_or, Bool.or_false, Bool.false_or, Bool.or_self, reduceCtorEq, sizeL, eV_ap, eC_ap, eBin_ap, eNeg_ap, tB_ap, eChain_ap, tTru_ap, tAndM_ap, tOrM_ap, tNotM_ap, eAnd_ap, eOr_ap, eNot_ap, aNil_ap, aCons_ap, eTup_ap, eLst_ap, eCB_ap, eCB0_ap, isiW_ap, oNone_ap, oSome_ap, eSl_ap, sNop_ap, sSeq_ap, endF_rt, endF_nx, endF_exc, sExpr_ap, sRet_ap, sRetN_ap, sBrk_ap, sCont_ap, sIf_ap, gN_ap, gT_ap, gsNil_ap, gsCons_ap, sAsg_ap, iAny_ap, iRng1W_ap, iRng2W_ap, sFor_ap, iterW_tup, iterW_str, iterW_frz, bind_ok, bind_exc, toS_ok, toS_exc, thenS_nx, thenS_rt, thenS_bk, thenS_ct, thenS_exc, mkL_ap, tyW, truW, addW_ii, addW_ss, addW_tt, subW_ii, fdivW_ok, modW_ok, powW_ap, asL_frz, mulNS_ap, eqW_ii, eqW_ss, eqW_bb, eqW_nn, eqW_ni, eqW_in, eqW_nb, eqW_bn, eqW_ns, eqW_sn, eqW_is, eqW_si, eqW_bs, eqW_sb, ltW_ii, leW_ii, gtW_ii, geW_ii, isNW_n, isNW_i, isNW_b, isNW_s, isNW_t, isNW_f, isNW_r, lenW_s, lenW_t, lenW_f, lenW_r, iterW_r, asL_r, loopF_nil, loopF_cons, turnF_nx, turnF_ct, turnF_bk, turnF_rt, turnF_exc, stillL_ap, W.beqs_refl, absW_i, max2W_i, min2W_i, intcW_i, intcW_b, ordcW_one, mulW_l, mulW_r, slen_one, kit_NoneType_int, kit_NoneType_bool, kit_NoneType_str, kit_NoneType_list, kit_NoneType_tuple, kit_NoneType_dict, kit_bool_int, kit_bool_bool, kit_bool_str, kit_bool_list, kit_bool_tuple, kit_bool_dict, kit_int_int, kit_int_bool, kit_int_str, kit_int_list, kit_int_tuple, kit_int_dict, kit_str_int, kit_str_bool, kit_str_str, kit_str_list, kit_str_tuple, kit_str_dict, kit_tuple_int, kit_tuple_bool, kit_tuple_str, kit_tuple_list, kit_tuple_tuple, kit_tuple_dict, kit_list_int, kit_list_bool, kit_list_str, kit_list_list, kit_list_tuple, kit_list_dict, kit_dict_int, kit_dict_bool, kit_dict_str, kit_dict_list, kit_dict_tuple, kit_dict_dict, ixW_t, ixW_s, ixW_f, ixW_r, slW_r, slW_t, slW_s, slW_f, List.getElem?_cons_zero, List.getElem?_cons_succ, List.set_cons_zero, List.set_cons_succ, List.map_cons, List.map_nil, List.replicate, List.cons_append, List.nil_append, List.length_cons, List.length_nil, Bool.false_xor, Bool.true_xor, if_true, if_false, Bool.false_eq_true, Bool.not_true, Bool.not_false, law_chars, law_cell_i, right_ok, slen_app])
local macro_rules | `(tactic| walk_at "q1h") => `(tactic| simp only [Int.reduceLT, Int.reduceLE, Int.reduceGT, Int.reduceGE, Int.reduceNeg, Int.reducePow, Int.reduceAdd, Int.reduceSub, Int.reduceMul, Int.reduceEq, Int.reduceToNat, Int.reduceMod, Nat.reduceLT, Nat.reduceLeDiff, Nat.reduceAdd, Nat.reduceSub, Nat.reduceEqDiff, Nat.reduceMul, decide_true, decide_false, Bool.and_self, Bool.and_true, Bool.true_and, Bool.and_false, Bool.false_and, Bool.or_true, Bool.true_or, Bool.or_false, Bool.false_or, Bool.or_self, reduceCtorEq, sizeL, eV_ap, eC_ap, eBin_ap, eNeg_ap, tB_ap, eChain_ap, tTru_ap, tAndM_ap, tOrM_ap, tNotM_ap, eAnd_ap, eOr_ap, eNot_ap, aNil_ap, aCons_ap, eTup_ap, eLst_ap, eCB_ap, eCB0_ap, isiW_ap, oNone_ap, oSome_ap, eSl_ap, sNop_ap, sSeq_ap, endF_rt, endF_nx, endF_exc, sExpr_ap, sRet_ap, sRetN_ap, sBrk_ap, sCont_ap, sIf_ap, gN_ap, gT_ap, gsNil_ap, gsCons_ap, sAsg_ap, iAny_ap, iRng1W_ap, iRng2W_ap, sFor_ap, iterW_tup, iterW_str, iterW_frz, bind_ok, bind_exc, toS_ok, toS_exc, thenS_nx, thenS_rt, thenS_bk, thenS_ct, thenS_exc, mkL_ap, tyW, truW, addW_ii, addW_ss, addW_tt, subW_ii, fdivW_ok, modW_ok, powW_ap, asL_frz, mulNS_ap, eqW_ii, eqW_ss, eqW_bb, eqW_nn, eqW_ni, eqW_in, eqW_nb, eqW_bn, eqW_ns, eqW_sn, eqW_is, eqW_si, eqW_bs, eqW_sb, ltW_ii, leW_ii, gtW_ii, geW_ii, isNW_n, isNW_i, isNW_b, isNW_s, isNW_t, isNW_f, isNW_r, lenW_s, lenW_t, lenW_f, lenW_r, iterW_r, asL_r, loopF_nil, loopF_cons, turnF_nx, turnF_ct, turnF_bk, turnF_rt, turnF_exc, stillL_ap, W.beqs_refl, absW_i, max2W_i, min2W_i, intcW_i, intcW_b, ordcW_one, mulW_l, mulW_r, slen_one, kit_NoneType_int, kit_NoneType_bool, kit_NoneType_str, kit_NoneType_list, kit_NoneType_tuple, kit_NoneType_dict, kit_bool_int, kit_bool_bool, kit_bool_str, kit_bool_list, kit_bool_tuple, kit_bool_dict, kit_int_int, kit_int_bool, kit_int_str, kit_int_list, kit_int_tuple, kit_int_dict, kit_str_int, kit_str_bool, kit_str_str, kit_str_list, kit_str_tuple, kit_str_dict, kit_tuple_int, kit_tuple_bool, kit_tuple_str, kit_tuple_list, kit_tuple_tuple, kit_tuple_dict, kit_list_int, kit_list_bool, kit_list_str, kit_list_list, kit_list_tuple, kit_list_dict, kit_dict_int, kit_dict_bool, kit_dict_str, kit_dict_list, kit_dict_tuple, kit_dict_dict, ixW_t, ixW_s, ixW_f, ixW_r, slW_r, slW_t, slW_s, slW_f, List.getElem?_cons_zero, List.getElem?_cons_succ, List.set_cons_zero, List.set_cons_succ, List.map_cons, List.map_nil, List.replicate, List.cons_append, List.nil_append, List.length_cons, List.length_nil, Bool.false_xor, Bool.true_xor, if_true, if_false, Bool.false_eq_true, Bool.not_true, Bool.not_false, *, law_chars, law_cell_i, right_ok, slen_app])
theorem law_true (ns : List Int) (hl : ns.length ≤ 63) (hb : ∀ z ∈ ns, Builtin.Int.intBits z ≤ 1048576) : ∃ h', F_law [.frz (ns.map W.int)] [] = .ok (.bl true) h' := by
  have key : okp (F_law [.frz (ns.map W.int)] []) (fun w _ => w = .bl true) := by
    rw [F_law_ap, okp_endF]
    unfold F_law_b
    walk_at "q1"
    generalize hc0 : (1 : Int) + (if ns.getD 0 0 < 0 then -ns.getD 0 0 else ns.getD 0 0) = c0
    generalize hc1 : (if ns.getD 1 0 < 0 then -ns.getD 1 0 else ns.getD 1 0) = c1
    have h0 : 1 ≤ c0 := by rw [← hc0]; split <;> omega
    have h1 : 0 ≤ c1 := by rw [← hc1]; split <;> omega
    obtain ⟨_, _, e, rfl, s, rfl, hs, hs0⟩ := okp_iff.1 (law_word c0 CH 20 [] (by rw [CH_len]; decide) (by rw [CH_len]; decide) (by decide))
    have hs1 : 0 < s.length := hs0 (by omega) (by decide)
    have e' : F_law_word [W.int c0, W.str CH, W.int 20] [] = .ok (.str s) [] := e
    simp only [e']
    walk_at "q1"
    rw [oks_then]
    refine oks_mono (Q := fun f ρ h => f = .nx ∧ h = [] ∧ ∃ k : Str, ρ = [some (W.frz (List.map W.int ns)), some (W.str CH), some (W.int c1), some (W.str k), none, none, none, none] ∧ 0 < k.length ∧ k.length ≤ 20) ?_ ?_
    · have hP : (Str.ofString "place").length = 5 := by decide +kernel
      have hB : (⟨List.foldl (fun x1 x2 => x1 ++ x2) #[] (List.replicate 4 (Str.ofString "place").cps)⟩ : Str).length = 20 := by decide +kernel
      have hs16 : s.length + 20 ≤ 16777216 := by omega
      by_cases e5 : c1 % 5 = 1
      · simp only [decide_eq_true e5]
        walk_at "q1"
        simp only [hP, and_self, Nat.reduceLeDiff, decide_true, Bool.and_self, if_true]
        walk_at "q1"
        simp only [List.replicate] at hB
        simp only [hB, hs16, if_true]
        walk_at "q1"
        simp only [slen_app, hB, hs16, if_true]
        walk_at "q1"
        rw [oks_ok]
        refine And.intro rfl ⟨rfl, _, rfl, cutS_pos _ _ (by decide) (by rw [slen_app]; omega), cutS_to _ _ (by decide)⟩
      · simp only [decide_eq_false e5]
        walk_at "q1"
        rw [oks_ok]
        exact And.intro rfl ⟨rfl, s, rfl, hs1, hs⟩
    · rintro f ρ h ⟨rfl, rfl, k, rfl, hk0, hk⟩
      dsimp only
      have hk2 : k.length ≤ 16777216 := by omega
      have hk3 : (0 : Int) < (k.length : Int) := by omega
      have hCH := CH_len
      obtain ⟨ch, hch, _⟩ := str_at (z := CH) (i := c1 / 100 % 94) (by omega) (by rw [hCH]; omega)
      have hc1 := cutS_len k none (some (c1 / 5 % (k.length : Int)))
      have hc2 := cutS_len k (some (c1 / 5 % (k.length : Int) + 1)) none
      have hl1 : (cutS k none (some (c1 / 5 % (k.length : Int)))).length + 1 ≤ 16777216 := by omega
      have hl2 : (cutS k none (some (c1 / 5 % (k.length : Int)))).length + 1 + (cutS k (some (c1 / 5 % (k.length : Int) + 1)) none).length ≤ 16777216 := by omega
      have hl3 : k.length + ((cutS k none (some (c1 / 5 % (k.length : Int)))).length + 1 + (cutS k (some (c1 / 5 % (k.length : Int) + 1)) none).length) ≤ 16777216 := by omega
      have hk4 : (k.length : Int) ≤ 1000000000000000000000000000000000000000000000000000000000000 := by omega
      walk_at "q1h"
      rw [oks_ok]
  obtain ⟨a, h', e, rfl⟩ := okp_iff.1 key
  exact ⟨h', e⟩
end Y

namespace Y
open PySem PySem.Spec PyProof.Rows L2 Z
def top (i : Nat) : Stmt := PySem.Challenge.pw_ringheld_k24_place_of_a_key.main.body.getD i (.Pass ⟨0, 0, 0, 0⟩)
abbrev st_place_of : Stmt := top 2
def d_place_of : He.DefD := ⟨("place_of", none), "place_of", "place_of", defArgs st_place_of, defBody st_place_of, defScope st_place_of, [], []⟩
abbrev st__law_cell : Stmt := top 4
def d__law_cell : He.DefD := ⟨("_law_cell", none), "_law_cell", "_law_cell", defArgs st__law_cell, defBody st__law_cell, defScope st__law_cell, [], []⟩
abbrev st__law_chars : Stmt := top 5
def d__law_chars : He.DefD := ⟨("_law_chars", none), "_law_chars", "_law_chars", defArgs st__law_chars, defBody st__law_chars, defScope st__law_chars, [], []⟩
abbrev st__law_word : Stmt := top 6
def d__law_word : He.DefD := ⟨("_law_word", none), "_law_word", "_law_word", defArgs st__law_word, defBody st__law_word, defScope st__law_word, [], []⟩
abbrev st__law_due : Stmt := top 7
def d__law_due : He.DefD := ⟨("_law_due", none), "_law_due", "_law_due", defArgs st__law_due, defBody st__law_due, defScope st__law_due, [], []⟩
abbrev st__law_right : Stmt := top 8
def d__law_right : He.DefD := ⟨("_law_right", none), "_law_right", "_law_right", defArgs st__law_right, defBody st__law_right, defScope st__law_right, [], []⟩
abbrev st_law : Stmt := top 9
def d_law : He.DefD := ⟨("law", none), "law", "law", defArgs st_law, defBody st_law, defScope st_law, [], []⟩
def fnl : List He.DefD := [d_place_of, d__law_cell, d__law_chars, d__law_word, d__law_due, d__law_right, d_law]
def fal : List He.Fa := [.free "ord", .int "PLACES" (256), .free "len", .free "abs", .free "range", .free "int", .free "isinstance", .free "bool", .free "max", .glo "place_of", .glo "_law_cell", .glo "_law_chars", .glo "_law_word", .glo "_law_due", .glo "_law_right", .glo "law"]
section
variable {P : Program} {w : World} {K : PySem.W.Frag} {mg : Str → Option Value} {base : Heap}
abbrev Bl := Bs fal fnl []
theorem bt_abs : bootBuiltins "abs" = some (.builtin "abs") := by decide +kernel
theorem bt_bool : bootBuiltins "bool" = some (.type "bool") := by decide +kernel
theorem bt_dict : bootBuiltins "dict" = some (.type "dict") := by decide +kernel
theorem bt_enumerate : bootBuiltins "enumerate" = some (.type "enumerate") := by decide +kernel
theorem bt_int : bootBuiltins "int" = some (.type "int") := by decide +kernel
theorem bt_isinstance : bootBuiltins "isinstance" = some (.builtin "isinstance") := by decide +kernel
theorem bt_len : bootBuiltins "len" = some (.builtin "len") := by decide +kernel
theorem bt_list : bootBuiltins "list" = some (.type "list") := by decide +kernel
theorem bt_max : bootBuiltins "max" = some (.builtin "max") := by decide +kernel
theorem bt_object : bootBuiltins "object" = some (.type "object") := by decide +kernel
theorem bt_ord : bootBuiltins "ord" = some (.builtin "ord") := by decide +kernel
theorem bt_range : bootBuiltins "range" = some (.type "range") := by decide +kernel
theorem bt_set : bootBuiltins "set" = some (.type "set") := by decide +kernel
theorem bt_str : bootBuiltins "str" = some (.type "str") := by decide +kernel
theorem bt_tuple : bootBuiltins "tuple" = some (.type "tuple") := by decide +kernel
theorem bt_zip : bootBuiltins "zip" = some (.type "zip") := by decide +kernel
theorem sc_place_of : FnScope ["key", "place", "char"] ["key"] (defScope st_place_of) := ⟨rfl, rfl, rfl, by decide +kernel, rfl, by decide +kernel, by decide +kernel⟩
theorem c_place_of (B : Bl P w K mg base) : Cal P w K mg base 1 "place_of" F_place_of := by
  obtain ⟨fd, F⟩ := B.says.d.def_ 0 (d := d_place_of) rfl
  refine ⟨_, fd, ["key"], ?_, B.glo 9, F.kp, F.bindsN fun _ _ _ _ _ _ us hl => match us, hl with | [_], _ => rfl⟩
  refine qf_okD F sc_place_of fun cdv A outer s H E hr => ?_
  have tk := takes_of (X := cxOf (L2.CX P w) P w K mg base ["key", "place", "char"] "place_of" (defScope st_place_of) (He.fAd K d_place_of.at_) cdv A outer s H E) rfl rfl rfl rfl
  have nd := sc_place_of.nd
  have hu := hr.units
  have hpo := passes_of (X := cxOf (L2.CX P w) P w K mg base ["key", "place", "char"] "place_of" (defScope st_place_of) (He.fAd K d_place_of.at_) cdv A outer s H E) rfl
  show QB _ _ _ _ F_place_of_b
  exact qb_cons (qs_set 1 nd (q_int))
      (qb_cons (qs_for hpo rfl (qi_any (qv 0)) (qg_name 2 nd) (qb_one (qs_set 1 nd (q_mod (q_add (q_mul (qv 1) (q_int)) (q_cb call_ord q_ordcW (by rfl) (B.free 0) bt_ord (qa_cons (qv 2) (qa_nil)))) (q_globI (by rfl) (B.int 1))))))
      (qb_one (qs_ret (qv 1))))
theorem sc__law_cell : FnScope ["_law_script", "_law_k"] ["_law_script", "_law_k"] (defScope st__law_cell) := ⟨rfl, rfl, rfl, by decide +kernel, rfl, by decide +kernel, by decide +kernel⟩
theorem c__law_cell (B : Bl P w K mg base) : Cal P w K mg base 1 "_law_cell" F_law_cell := by
  obtain ⟨fd, F⟩ := B.says.d.def_ 1 (d := d__law_cell) rfl
  refine ⟨_, fd, ["_law_script", "_law_k"], ?_, B.glo 10, F.kp, F.bindsN fun _ _ _ _ _ _ us hl => match us, hl with | [_, _], _ => rfl⟩
  refine qf_okD F sc__law_cell fun cdv A outer s H E hr => ?_
  have tk := takes_of (X := cxOf (L2.CX P w) P w K mg base ["_law_script", "_law_k"] "_law_cell" (defScope st__law_cell) (He.fAd K d__law_cell.at_) cdv A outer s H E) rfl rfl rfl rfl
  have nd := sc__law_cell.nd
  have hu := hr.units
  have hpo := passes_of (X := cxOf (L2.CX P w) P w K mg base ["_law_script", "_law_k"] "_law_cell" (defScope st__law_cell) (He.fAd K d__law_cell.at_) cdv A outer s H E) rfl
  show QB _ _ _ _ F_law_cell_b
  exact qb_cons (qs_if (qt_cmp (op_ltW) q_ordW (qv 1) (q_cb call_lenW q_lenW (by rfl) (B.free 2) bt_len (qa_cons (qv 0) (qa_nil))) (nomark _)) (qb_one (qs_ret (q_ix (qv 0) (qv 1)))) (qb_nil))
      (qb_one (qs_ret (q_int)))
theorem sc__law_chars : FnScope ["_law_chars_here"] [] (defScope st__law_chars) := ⟨rfl, rfl, rfl, by decide +kernel, rfl, by decide +kernel, by decide +kernel⟩
theorem c__law_chars (B : Bl P w K mg base) : Cal P w K mg base 1 "_law_chars" F_law_chars := by
  obtain ⟨fd, F⟩ := B.says.d.def_ 2 (d := d__law_chars) rfl
  refine ⟨_, fd, [], ?_, B.glo 11, F.kp, F.bindsN fun _ _ _ _ _ _ us hl => match us, hl with | [], _ => rfl⟩
  refine qf_okD F sc__law_chars fun cdv A outer s H E hr => ?_
  have tk := takes_of (X := cxOf (L2.CX P w) P w K mg base ["_law_chars_here"] "_law_chars" (defScope st__law_chars) (He.fAd K d__law_chars.at_) cdv A outer s H E) rfl rfl rfl rfl
  have nd := sc__law_chars.nd
  have hu := hr.units
  have hpo := passes_of (X := cxOf (L2.CX P w) P w K mg base ["_law_chars_here"] "_law_chars" (defScope st__law_chars) (He.fAd K d__law_chars.at_) cdv A outer s H E) rfl
  show QB _ _ _ _ F_law_chars_b
  exact qb_cons (qs_set 0 nd (q_str))
      (qb_one (qs_ret (q_add (qv 0) (q_str))))
theorem sc__law_word : FnScope ["_law_cell_here", "_law_letters", "_law_most", "_law_word_here", "_law_rest", "_law_k"] ["_law_cell_here", "_law_letters", "_law_most"] (defScope st__law_word) := ⟨rfl, rfl, rfl, by decide +kernel, rfl, by decide +kernel, by decide +kernel⟩
theorem c__law_word (B : Bl P w K mg base) : Cal P w K mg base 1 "_law_word" F_law_word := by
  obtain ⟨fd, F⟩ := B.says.d.def_ 3 (d := d__law_word) rfl
  refine ⟨_, fd, ["_law_cell_here", "_law_letters", "_law_most"], ?_, B.glo 12, F.kp, F.bindsN fun _ _ _ _ _ _ us hl => match us, hl with | [_, _, _], _ => rfl⟩
  refine qf_okD F sc__law_word fun cdv A outer s H E hr => ?_
  have tk := takes_of (X := cxOf (L2.CX P w) P w K mg base ["_law_cell_here", "_law_letters", "_law_most", "_law_word_here", "_law_rest", "_law_k"] "_law_word" (defScope st__law_word) (He.fAd K d__law_word.at_) cdv A outer s H E) rfl rfl rfl rfl
  have nd := sc__law_word.nd
  have hu := hr.units
  have hpo := passes_of (X := cxOf (L2.CX P w) P w K mg base ["_law_cell_here", "_law_letters", "_law_most", "_law_word_here", "_law_rest", "_law_k"] "_law_word" (defScope st__law_word) (He.fAd K d__law_word.at_) cdv A outer s H E) rfl
  show QB _ _ _ _ F_law_word_b
  exact qb_cons (qs_set 3 nd (q_str))
      (qb_cons (qs_set 4 nd (q_cb call_abs q_absW (by rfl) (B.free 3) bt_abs (qa_cons (qv 0) (qa_nil))))
      (qb_cons (qs_for hpo rfl (qi_rng1 (by rfl) (B.free 4) (qa_cons (qv 2) (qa_nil))) (qg_name 5 nd) (qb_one (qs_if (qt_cmp (op_gtW) q_ordW (qv 4) (q_int) (nomark _)) (qb_cons (qs_set 4 nd (q_sub (qv 4) (q_int)))
      (qb_cons (qs_set 3 nd (q_add (qv 3) (q_ix (qv 1) (q_mod (q_cty call_int1 q_intcW (by rfl) (B.free 5) bt_int (qa_cons (qv 4) (qa_nil))) (q_cb call_lenW q_lenW (by rfl) (B.free 2) bt_len (qa_cons (qv 1) (qa_nil)))))))
      (qb_one (qs_set 4 nd (q_fdiv (qv 4) (q_cb call_lenW q_lenW (by rfl) (B.free 2) bt_len (qa_cons (qv 1) (qa_nil)))))))) (qb_nil))))
      (qb_one (qs_ret (qv 3)))))
theorem sc__law_due : FnScope ["_law_key", "_law_total", "_law_char"] ["_law_key"] (defScope st__law_due) := ⟨rfl, rfl, rfl, by decide +kernel, rfl, by decide +kernel, by decide +kernel⟩
theorem c__law_due (B : Bl P w K mg base) : Cal P w K mg base 1 "_law_due" F_law_due := by
  obtain ⟨fd, F⟩ := B.says.d.def_ 4 (d := d__law_due) rfl
  refine ⟨_, fd, ["_law_key"], ?_, B.glo 13, F.kp, F.bindsN fun _ _ _ _ _ _ us hl => match us, hl with | [_], _ => rfl⟩
  refine qf_okD F sc__law_due fun cdv A outer s H E hr => ?_
  have tk := takes_of (X := cxOf (L2.CX P w) P w K mg base ["_law_key", "_law_total", "_law_char"] "_law_due" (defScope st__law_due) (He.fAd K d__law_due.at_) cdv A outer s H E) rfl rfl rfl rfl
  have nd := sc__law_due.nd
  have hu := hr.units
  have hpo := passes_of (X := cxOf (L2.CX P w) P w K mg base ["_law_key", "_law_total", "_law_char"] "_law_due" (defScope st__law_due) (He.fAd K d__law_due.at_) cdv A outer s H E) rfl
  show QB _ _ _ _ F_law_due_b
  exact qb_cons (qs_set 1 nd (q_int))
      (qb_cons (qs_for hpo rfl (qi_any (qv 0)) (qg_name 2 nd) (qb_one (qs_set 1 nd (q_add (q_mul (qv 1) (q_int)) (q_cb call_ord q_ordcW (by rfl) (B.free 0) bt_ord (qa_cons (qv 2) (qa_nil)))))))
      (qb_one (qs_ret (q_mod (q_cty call_int1 q_intcW (by rfl) (B.free 5) bt_int (qa_cons (qv 1) (qa_nil))) (q_int)))))
theorem sc__law_right : FnScope ["_law_key", "_law_told"] ["_law_key"] (defScope st__law_right) := ⟨rfl, rfl, rfl, by decide +kernel, rfl, by decide +kernel, by decide +kernel⟩
theorem c__law_right (B : Bl P w K mg base) : Cal P w K mg base 2 "_law_right" F_law_right := by
  obtain ⟨fd, F⟩ := B.says.d.def_ 5 (d := d__law_right) rfl
  refine ⟨_, fd, ["_law_key"], ?_, B.glo 14, F.kp, F.bindsN fun _ _ _ _ _ _ us hl => match us, hl with | [_], _ => rfl⟩
  refine qf_okD F sc__law_right fun cdv A outer s H E hr => ?_
  have tk := takes_of (X := cxOf (L2.CX P w) P w K mg base ["_law_key", "_law_told"] "_law_right" (defScope st__law_right) (He.fAd K d__law_right.at_) cdv A outer s H E) rfl rfl rfl rfl
  have nd := sc__law_right.nd
  have hu := hr.units
  have hpo := passes_of (X := cxOf (L2.CX P w) P w K mg base ["_law_key", "_law_told"] "_law_right" (defScope st__law_right) (He.fAd K d__law_right.at_) cdv A outer s H E) rfl
  show QB _ _ _ _ F_law_right_b
  exact qb_cons (qs_set 1 nd (q_cal (c_place_of B) tk hr (by decide) (by rfl) (qa_cons (qv 0) (qa_nil))))
      (qb_one (qs_ret (qe_and (q_isi (by rfl) (B.free 6) bt_isinstance (by rfl) (B.free 5) bt_int (qv 1)) (qe_and (qe_not (q_isi (by rfl) (B.free 6) bt_isinstance (by rfl) (B.free 7) bt_bool (qv 1))) (qe_one (qe_cmp (op_eqW hu) q_eqW (qv 1) (q_cal (c__law_due B) tk hr (by decide) (by rfl) (qa_cons (qv 0) (qa_nil))) (nomark _)))))))
theorem sc_law : FnScope ["_law_script", "_law_chars_here", "_law_cell_here", "_law_key", "_law_place", "_law_other", "_law_keys", "_law_one"] ["_law_script"] (defScope st_law) := ⟨rfl, rfl, rfl, by decide +kernel, rfl, by decide +kernel, by decide +kernel⟩
theorem f_law {fd : FuncData} (B : Bl P w K mg base) (F : FunD K d_law.name d_law.qual d_law.params d_law.body d_law.scope (d_law.dvs K) (d_law.kws K) (He.fAd K d_law.at_) fd) : FnOk P w K mg base (L2.CX P w) 3 (He.ga K "law") fd ["_law_script"] (spM K (He.ga K) F_law) := by
  refine qf_okD F sc_law fun cdv A outer s H E hr => ?_
  have tk := takes_of (X := cxOf (L2.CX P w) P w K mg base ["_law_script", "_law_chars_here", "_law_cell_here", "_law_key", "_law_place", "_law_other", "_law_keys", "_law_one"] "law" (defScope st_law) (He.fAd K d_law.at_) cdv A outer s H E) rfl rfl rfl rfl
  have nd := sc_law.nd
  have hu := hr.units
  have hpo := passes_of (X := cxOf (L2.CX P w) P w K mg base ["_law_script", "_law_chars_here", "_law_cell_here", "_law_key", "_law_place", "_law_other", "_law_keys", "_law_one"] "law" (defScope st_law) (He.fAd K d_law.at_) cdv A outer s H E) rfl
  show QB _ _ _ _ F_law_b
  exact qb_cons (qs_set 1 nd (q_cal0 (c__law_chars B) tk hr (by decide) (by rfl)))
      (qb_cons (qs_set 2 nd (q_cb call_abs q_absW (by rfl) (B.free 3) bt_abs (qa_cons (q_cal (c__law_cell B) tk hr (by decide) (by rfl) (qa_cons (qv 0) (qa_cons (q_int) (qa_nil)))) (qa_nil))))
      (qb_cons (qs_set 3 nd (q_cal (c__law_word B) tk hr (by decide) (by rfl) (qa_cons (q_add (q_int) (q_cb call_abs q_absW (by rfl) (B.free 3) bt_abs (qa_cons (q_cal (c__law_cell B) tk hr (by decide) (by rfl) (qa_cons (qv 0) (qa_cons (q_int) (qa_nil)))) (qa_nil)))) (qa_cons (qv 1) (qa_cons (q_int) (qa_nil))))))
      (qb_cons (qs_if (qt_cmp (op_eqW hu) q_eqW (q_mod (q_cty call_int1 q_intcW (by rfl) (B.free 5) bt_int (qa_cons (qv 2) (qa_nil))) (q_int)) (q_int) (nomark _)) (qb_one (qs_set 3 nd (q_sl (q_add (qv 3) (q_mulNS (q_int) (q_str))) qo_none (qo_some (q_int))))) (qb_nil))
      (qb_cons (qs_set 4 nd (q_mod (q_cty call_int1 q_intcW (by rfl) (B.free 5) bt_int (qa_cons (q_fdiv (qv 2) (q_int)) (qa_nil))) (q_cb call_lenW q_lenW (by rfl) (B.free 2) bt_len (qa_cons (qv 3) (qa_nil)))))
      (qb_cons (qs_set 5 nd (q_add (q_add (q_sl (qv 3) qo_none (qo_some (qv 4))) (q_ix (qv 1) (q_mod (q_cty call_int1 q_intcW (by rfl) (B.free 5) bt_int (qa_cons (q_fdiv (qv 2) (q_int)) (qa_nil))) (q_int)))) (q_sl (qv 3) (qo_some (q_add (qv 4) (q_int))) qo_none)))
      (qb_cons (qs_set 6 nd (q_lst (qa_cons (qv 3) (qa_cons (qv 5) (qa_cons (q_sl (q_add (qv 3) (qv 5)) qo_none (qo_some (q_add (q_mod (q_cb call_lenW q_lenW (by rfl) (B.free 2) bt_len (qa_cons (qv 3) (qa_nil))) (q_int)) (q_int)))) (qa_cons (q_sl (qv 3) qo_none (qo_some (q_cb (call_max2 rfl) q_max2W (by rfl) (B.free 8) bt_max (qa_cons (q_int) (qa_cons (qv 4) (qa_nil)))))) (qa_cons (qv 3) (qa_nil))))))))
      (qb_cons (qs_for hpo rfl (qi_any (qv 6)) (qg_name 7 nd) (qb_one (qs_if (qt_not (qt_truth (q_cal (c__law_right B) tk hr (by decide) (by rfl) (qa_cons (qv 7) (qa_nil))))) (qb_one (qs_ret (q_bl))) (qb_nil))))
      (qb_one (qs_ret (q_bl))))))))))
end
theorem law_fn {P : Program} {w : World} {K : PySem.W.Frag} {mg : Str → Option Value} {fa : Addr} {h : Heap} (Q : He.SaysT fal fnl [] w K ∧ ∃ h2 : Heap, h2 = h ∧ K.In h2 ∧ h2.Ns mainGlobals mg) (hmg : mg ("law" : Str) = some (.ref fa)) :
    ∃ (K : PySem.W.Frag) (fd : FuncData), K.In h ∧ (∀ (s : Shared) (u : Value), BindsTo s fd ⟨[u], []⟩ [("_law_script", u)]) ∧ ∀ base : Heap, FnOk P w K mg base (L2.CX P w) 3 fa fd ["_law_script"] (spM K (He.ga K) F_law) := by
  obtain ⟨c, h2, rfl, KX, G⟩ := Q
  obtain ⟨fd, F⟩ := c.d.def_ 6 (d := d_law) rfl
  have e := hmg.symm.trans (He.glo_ok KX G (c.d.fact 15 (f := .glo "law") rfl))
  cases e
  refine ⟨K, fd, KX, fun s v => FunD.bindsA (ps := ["_law_script"]) F (fun _ _ _ _ _ _ us hl => match us, hl with | [_], _ => rfl) s [v] rfl, fun base => ?_⟩
  have B : Bs fal fnl [] P w K mg base := ⟨c, h2, KX, G⟩
  exact f_law B F
abbrev Rr : PySem.W.OpenRow := PySem.W.OpenLaw.row PySem.Challenge.rw_ringheld_k24_place_of_a_key
abbrev hk : PySem.W.Hook := He.hookT 6 fal fnl []
def ob (s : PySem.W.SharedT) : He.AlT := He.obsTG 6 fal fnl [] (HandSHeadRun.getT s)
theorem ob_eq (s : PySem.W.SharedT) : ob s = hk.obs s.abs := He.obsTG_eq (HandSHeadRun.getT_eq s)
def looseN : List PySem.Str := ["place_of", "_law_cell", "_law_chars", "_law_word", "_law_due", "_law_right", "PLACES"]
theorem run (w : World) : HandSHeadRun.RunEq Rr (PySem.W.view Rr.prog [9]) hk ob 2000 looseN w := by
  intro os
  kernel_rfl
end Y


open PySem PySem.W PySem.Calls PyProof.Rows in
set_option maxHeartbeats 0 in
theorem PySem.Challenge.cw_ringheld_k24_place_of_a_key_holds : PySem.Challenge.rw_ringheld_k24_place_of_a_key.Holds := by
  w_on; o_law
  refine HandSHeadRun.head_any (r := OpenLaw.row PySem.Challenge.rw_ringheld_k24_place_of_a_key) (q := view (OpenLaw.row PySem.Challenge.rw_ringheld_k24_place_of_a_key).prog [9]) (H := Y.hk) (ob := Y.ob) (M := 2000) (loose := Y.looseN) (d := HandSHeadRun.topDef (OpenLaw.row PySem.Challenge.rw_ringheld_k24_place_of_a_key).prog 9) (kwd := []) Y.ob_eq
    (by kernel_rfl) (fun s => by kernel_rfl) Y.run (by kernel_rfl) (by kernel_rfl) (by kernel_rfl) (by rfl) (by first | assumption | decide +kernel) (by decide +kernel) ⟨rfl, rfl, rfl, rfl, rfl, by decide +kernel⟩ ?hw ?hc
  case hw => w_witness2
  case hc =>
    refine Z.law_end (l := PySem.Challenge.rw_ringheld_k24_place_of_a_key) (n := 63) (k := 3) (x := "_law_script") (g := Y.F_law) rfl (by decide) (by kernel_rfl) ⟨rfl, by decide, by decide⟩ ?F Y.law_true
    intro w mg fa h Yy G hmg0
    obtain ⟨K, KX, c⟩ := Yy
    have hmg : mg ("law" : PySem.Str) = some (.ref fa) := by
      have e : (HandSHeadRun.topDef (OpenLaw.row PySem.Challenge.rw_ringheld_k24_place_of_a_key).prog 9).name = ("law" : PySem.Str) := by kernel_rfl
      rw [← e]
      exact hmg0
    exact Y.law_fn ⟨c, h, rfl, KX, G⟩ hmg
