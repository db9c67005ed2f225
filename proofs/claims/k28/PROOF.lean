import PyProof.Rows.All
import Wide.All
import OpenK.AllK
import Wide.FinOn
import HandS.ForMost
import HandS.ForExc
import HandS.Wide
import HandS.TupAny
import HandS.IsInst
import PyProof.StrOps2
import KE.KStateDown
import HandS.More
import HandS.Defaults
import HandS.EndBits
import HandS.Head0
import HandS.Head1
import HandS.Head2
import HandS.HeadHook1
import HandS.HeadHook2
import HandS.HeadHook3
import HandS.Property
import HandS.ClsMeth
import HandS.Comp
import HandS.Deep
import HandS.ExcIs
import PySem.Challenge.RW_ringheld_k28_terms
set_option Elab.async false
set_option linter.all false
set_option maxRecDepth 100000
set_option maxHeartbeats 4000000
/-! Q: own values, own heap, own monad; the relation to HandS. -/
namespace Z
open PySem L2

/-! ### values, objects, results -/
inductive W where
  | non | bl (b : Bool) | int (i : Int) | str (x : Str) | tup (xs : List W) | frz (xs : List W) | ref (n : Nat) | exn (a : Nat) (c : Str)
inductive Ob where
  | lst (t : Nat) (xs : List W)
  | dct (t : Nat) (k : Bool) (kvs : List (W × W))
  | ins (c : Str) (fs : List (Str × W))
abbrev Hq := List Ob
inductive Res (α : Type) where
  | ok (a : α) (h : Hq) | exc (c : Str) (h : Hq) | stuck
def Res.bind {α β : Type} (r : Res α) (f : α → Hq → Res β) : Res β :=
  match r with
  | .ok a h => f a h
  | .exc c h => .exc c h
  | .stuck => .stuck
abbrev Ev := List (Option W)
inductive Fl where
  | nx | bk | ct | rt (w : W)
inductive RS where
  | ok (f : Fl) (ρ : Ev) (h : Hq) | exc (c : Str) (ρ : Ev) (h : Hq) | stuck
abbrev ME := Ev → Hq → Res W
abbrev MA := Ev → Hq → Res (List W)
abbrev MT := Ev → Hq → Res Bool
abbrev MS := Ev → Hq → RS
abbrev MF := List W → Hq → Res W

/-! ### the relation -/
/-- a list that nobody changes: the law's script -/
def SqF (K : PySem.W.Frag) (H : Hp) (a : Addr) (xs : List V) : Prop :=
  (∃ o, H a = some (.frz o (.lst xs))) ∨
    ∃ (o : Obj) (its : Array Value) (n : Nat), K.lookup a = some o ∧ o.cls = .type "list" ∧ o.dict = none ∧ o.data = .seq its n ∧ its.size ≤ sizeLine ∧ Vals xs its.toList
theorem SqF.sqL {K : PySem.W.Frag} {H : Hp} {a : Addr} {xs : List V} (h : SqF K H a xs) : SqL K H a xs := by
  rcases h with h | h
  · exact .inl (.inr h)
  · exact .inr h
section
variable (K : PySem.W.Frag) (H : Hp) (R : List Addr)
mutual
inductive RV : W → V → Prop
  | non : RV .non .non
  | bl (b : Bool) : RV (.bl b) (.bl b)
  | int (i : Int) : RV (.int i) (.int i)
  | str (x : Str) : RV (.str x) (.str x)
  | tup {xs : List W} {a : Addr} {vs : List V} : SqT K H a vs → RVs xs vs → RV (.tup xs) (.ref a)
  | frz {xs : List W} {a : Addr} {vs : List V} : SqF K H a vs → RVs xs vs → RV (.frz xs) (.ref a)
  | ref {n : Nat} {a : Addr} : R[n]? = some a → RV (.ref n) (.ref a)
  | exn (a : Nat) (c : Str) : RV (.exn a c) (.ref a)
inductive RVs : List W → List V → Prop
  | nil : RVs [] []
  | cons {x : W} {v : V} {xs : List W} {vs : List V} : RV x v → RVs xs vs → RVs (x :: xs) (v :: vs)
end
end

def Ext (K : PySem.W.Frag) (R : List Addr) (H : Hp) (R' : List Addr) (H' : Hp) : Prop :=
  (∃ t, R' = R ++ t ∧ ∀ a ∈ t, H a = none) ∧ (∀ a xs, SqT K H a xs → SqT K H' a xs) ∧ (∀ a xs, SqF K H a xs → SqF K H' a xs) ∧ ∀ a o, H a = some o → a ∉ R → H' a = some o

theorem Ext.refl {K R H} : Ext K R H R H := ⟨⟨[], by simp, by simp⟩, fun _ _ h => h, fun _ _ h => h, fun _ _ h _ => h⟩
theorem Ext.trans {K R H R1 H1 R2 H2} (a : Ext K R H R1 H1) (b : Ext K R1 H1 R2 H2) (nd : R2.Nodup) : Ext K R H R2 H2 := by
  obtain ⟨⟨t1, e1, f1⟩, s1, g1, k1⟩ := a
  obtain ⟨⟨t2, e2, f2⟩, s2, g2, k2⟩ := b
  have nin : ∀ c, c ∈ t2 → c ∉ R1 := fun c hc hr => by
    rw [e2, List.nodup_append] at nd
    exact nd.2.2 c hr c hc rfl
  refine ⟨⟨t1 ++ t2, by rw [e2, e1, List.append_assoc], fun c hc => ?_⟩, fun c xs h => s2 c xs (s1 c xs h), fun c xs h => g2 c xs (g1 c xs h), fun c o h hr => ?_⟩
  · rcases List.mem_append.mp hc with hc | hc
    · exact f1 c hc
    · cases q : H c with
      | none => rfl
      | some o =>
        have : c ∉ R := fun z => nin c hc (by rw [e1]; exact List.mem_append_left _ z)
        have := k1 c o q this
        rw [f2 c hc] at this; cases this
  · have h1 := k1 c o h hr
    refine k2 c o h1 fun z => ?_
    rw [e1] at z
    rcases List.mem_append.mp z with z | z
    · exact hr z
    · rw [f1 c z] at h; cases h
theorem Ext.at_ {K R H R' H'} {n : Nat} {a : Addr} (e : Ext K R H R' H') (h : R[n]? = some a) : R'[n]? = some a := by
  obtain ⟨⟨t, rfl, _⟩, _⟩ := e
  rw [List.getElem?_append_left (List.getElem?_eq_some_iff.mp h).1]; exact h

mutual
theorem RV.ext {K R H R' H'} (e : Ext K R H R' H') : ∀ (w : W) (v : V), RV K H R w v → RV K H' R' w v
  | .non, _, h => by cases h; exact .non
  | .bl _, _, h => by cases h; exact .bl _
  | .int _, _, h => by cases h; exact .int _
  | .str _, _, h => by cases h; exact .str _
  | .tup xs, _, h => by
    cases h with
    | tup s r => exact .tup (e.2.1 _ _ s) (RVs.ext e xs _ r)
  | .frz xs, _, h => by
    cases h with
    | frz s r => exact .frz (e.2.2.1 _ _ s) (RVs.ext e xs _ r)
  | .ref _, _, h => by
    cases h with
    | ref q => exact .ref (e.at_ q)
  | .exn _ _, _, h => by cases h; exact .exn _ _
theorem RVs.ext {K R H R' H'} (e : Ext K R H R' H') : ∀ (ws : List W) (vs : List V), RVs K H R ws vs → RVs K H' R' ws vs
  | [], _, h => by cases h; exact .nil
  | w :: ws, _, h => by
    cases h with
    | cons a b => exact .cons (RV.ext e w _ a) (RVs.ext e ws _ b)
end
theorem RVs.length {K H R} : ∀ {ws : List W} {vs : List V}, RVs K H R ws vs → ws.length = vs.length
  | [], _, h => by cases h; rfl
  | w :: ws, _, h => by
    cases h with
    | cons a b => simp [RVs.length b]
theorem RVs.get {K H R} : ∀ {ws : List W} {vs : List V} {i : Nat} {w : W}, RVs K H R ws vs → ws[i]? = some w → ∃ v, vs[i]? = some v ∧ RV K H R w v
  | [], _, _, _, _, e => by simp at e
  | w :: ws, _, i, x, h, e => by
    cases h with
    | cons a b =>
      cases i with
      | zero => simp at e; subst e; exact ⟨_, rfl, a⟩
      | succ i => exact RVs.get (i := i) b e
theorem RVs.getV {K H R} {ws : List W} {vs : List V} {i : Nat} {v : V} (h : RVs K H R ws vs) (e : vs[i]? = some v) : ∃ w, ws[i]? = some w ∧ RV K H R w v := by
  have hi : i < ws.length := by rw [h.length]; exact (List.getElem?_eq_some_iff.mp e).1
  obtain ⟨u, hu, r⟩ := h.get (w := ws[i]) (List.getElem?_eq_getElem hi)
  rw [e] at hu; cases hu
  exact ⟨ws[i], List.getElem?_eq_getElem hi, r⟩
theorem RVs.append {K H R} : ∀ {ws ws' : List W} {vs vs' : List V}, RVs K H R ws vs → RVs K H R ws' vs' → RVs K H R (ws ++ ws') (vs ++ vs')
  | [], _, _, _, h, h' => by cases h; exact h'
  | w :: ws, _, _, _, h, h' => by
    cases h with
    | cons a b => exact .cons a (RVs.append b h')
theorem RVs.take {K H R} : ∀ {ws : List W} {vs : List V} (n : Nat), RVs K H R ws vs → RVs K H R (ws.take n) (vs.take n)
  | _, _, 0, _ => by rw [List.take_zero, List.take_zero]; exact .nil
  | [], _, n + 1, h => by cases h; exact .nil
  | w :: ws, _, n + 1, h => by
    cases h with
    | cons a b => simpa using .cons a (RVs.take n b)
theorem RVs.drop {K H R} : ∀ {ws : List W} {vs : List V} (n : Nat), RVs K H R ws vs → RVs K H R (ws.drop n) (vs.drop n)
  | _, _, 0, h => by simpa using h
  | [], _, n + 1, h => by cases h; exact .nil
  | w :: ws, _, n + 1, h => by
    cases h with
    | cons a b => simpa using RVs.drop n b
theorem RVs.set {K H R} {x : W} {v : V} (hx : RV K H R x v) : ∀ {ws : List W} {vs : List V} (n : Nat), RVs K H R ws vs → RVs K H R (ws.set n x) (vs.set n v)
  | [], _, n, h => by cases h; exact .nil
  | w :: ws, _, 0, h => by
    cases h with
    | cons a b => simpa using .cons hx b
  | w :: ws, _, n + 1, h => by
    cases h with
    | cons a b => simpa using .cons a (RVs.set hx n b)
theorem RVs.reverse {K H R} : ∀ {ws : List W} {vs : List V}, RVs K H R ws vs → RVs K H R ws.reverse vs.reverse
  | [], _, h => by cases h; exact .nil
  | w :: ws, _, h => by
    cases h with
    | cons a b =>
      rw [List.reverse_cons, List.reverse_cons]
      exact RVs.append (RVs.reverse b) (.cons a .nil)

/-- a key of a dict -/
inductive RK : W → Key → Prop
  | int (i : Int) : RK (.int i) (.inl i)
  | str (x : Str) : RK (.str x) (.inr x)
inductive RKs : List W → List Key → Prop
  | nil : RKs [] []
  | cons {x k xs ks} : RK x k → RKs xs ks → RKs (x :: xs) (k :: ks)
/-- what must be known of an own class whose instances are told -/
def isiTs : List String := ["int", "bool", "str", "list", "tuple", "dict"]
/-- the attributes of the program's objects, by their classes -/
def fieldsOf (c : Str) : List Str :=
  if c = "Book" then ["_events"] else
  if c = "Client" then ["number", "terms", "_ticket", "_known", "_kind", "_key", "_told", "_dot", "_view", "_owners", "_counted"] else
  if c = "Clock" then ["_rows"] else
  if c = "Hall" then ["terms", "notary", "network", "book", "_houses", "_clients", "_down"] else
  if c = "Handover" then ["owner", "target", "_old", "_new", "_terms", "_heard", "_taken"] else
  if c = "House" then ["number", "terms", "floor", "_keeps", "_opened", "_sealed", "_handover"] else
  if c = "Keep" then ["_entries", "_clock"] else
  if c = "Network" then ["sent", "_bag"] else
  if c = "Notary" then ["terms", "_rings"] else
  if c = "Terms" then ["_copies", "_write", "_read"] else
  if c = "Ring" then ["_points", "_copies", "_owners"] else
  []
structure CI (K : PySem.W.Frag) (c : Str) (C : Addr) : Prop where
  cl : Cls K C
  ha : PySem.W.findIn K (.ref C) "__class__" = some (some (.builtin "object.__class__"))
  hn : PySem.W.specialIn K (.builtin "object.__class__") "__get__" = some (some (.builtin "getset_descriptor.__get__"))
  htk : PySem.W.takesIn K (.builtin "object.__class__") = some true
  hm : PySem.W.mroIn K C (.type "object") = some true
  no : ∀ T ∈ isiTs, PySem.W.kitOne K (.ref C) (.type T) = some false
  na : ∀ f ∈ fieldsOf c, NoAttr K C f
section
variable (K : PySem.W.Frag) (H : Hp) (R : List Addr)
inductive RD : List (W × W) → List (Key × V) → Prop
  | nil : RD [] []
  | cons {k x kvs l v vs} : RK k l → RV K H R x v → RD kvs vs → RD ((k, x) :: kvs) ((l, v) :: vs)
inductive RT : List (W × W) → List (List Key × V) → Prop
  | nil : RT [] []
  | cons {ks x kvs l v vs} : RKs ks l → RV K H R x v → RT kvs vs → RT ((.tup ks, x) :: kvs) ((l, v) :: vs)
inductive RF : List (Str × W) → List (Str × V) → Prop
  | nil : RF [] []
  | cons {f x fs v vs} : RV K H R x v → RF fs vs → RF ((f, x) :: fs) ((f, v) :: vs)
inductive RO (cm : Str → Addr) : Ob → Addr → Prop
  | lst {t xs a vs} : H a = some (.lst vs) → RVs K H R xs vs → RO cm (.lst t xs) a
  | dK {t kvs a vs} : H a = some (.dK vs) → RD K H R kvs vs → RO cm (.dct t false kvs) a
  | dT {t kvs a vs} : H a = some (.dT vs) → RT K H R kvs vs → RO cm (.dct t true kvs) a
  | ins {c fs a dx vs} : H a = some (.ins (cm c) dx vs) → RF K H R fs vs → CI K c (cm c) → RO cm (.ins c fs) a
end
theorem RD.ext {K R H R' H'} (e : Ext K R H R' H') : ∀ {l r}, RD K H R l r → RD K H' R' l r := by
  intro l r h
  induction h with
  | nil => exact .nil
  | cons a b _ ih => exact .cons a (RV.ext e _ _ b) ih
theorem RT.ext {K R H R' H'} (e : Ext K R H R' H') : ∀ {l r}, RT K H R l r → RT K H' R' l r := by
  intro l r h
  induction h with
  | nil => exact .nil
  | cons a b _ ih => exact .cons a (RV.ext e _ _ b) ih
theorem RF.ext {K R H R' H'} (e : Ext K R H R' H') : ∀ {l r}, RF K H R l r → RF K H' R' l r := by
  intro l r h
  induction h with
  | nil => exact .nil
  | cons b _ ih => exact .cons (RV.ext e _ _ b) ih

structure RH (K : PySem.W.Frag) (cm : Str → Addr) (h : Hq) (R : List Addr) (H : Hp) : Prop where
  len : h.length = R.length
  nd : R.Nodup
  ob : ∀ (n : Nat) (o : Ob), h[n]? = some o → ∃ a, R[n]? = some a ∧ RO K H R cm o a
def REnv (K : PySem.W.Frag) (H : Hp) (R : List Addr) (ρ : Ev) (σ : St) : Prop :=
  ρ.length = σ.length ∧ ∀ (i : Nat) (w : W), ρ[i]? = some (some w) → ∃ v, σ[i]? = some (some v) ∧ RV K H R w v
theorem REnv.ext {K R H R' H' ρ σ} (e : Ext K R H R' H') (h : REnv K H R ρ σ) : REnv K H' R' ρ σ :=
  ⟨h.1, fun i w q => let ⟨v, a, b⟩ := h.2 i w q; ⟨v, a, RV.ext e _ _ b⟩⟩
theorem REnv.set {K R H ρ σ w v} (h : REnv K H R ρ σ) (i : Nat) (r : RV K H R w v) : REnv K H R (ρ.set i (some w)) (σ.set i (some v)) := by
  refine ⟨by simp [h.1], fun j x q => ?_⟩
  by_cases e : i = j
  · subst e
    have hl : i < ρ.length := by
      have := (List.getElem?_eq_some_iff.mp q).1; simpa using this
    rw [List.getElem?_set_self hl] at q
    cases q
    exact ⟨v, List.getElem?_set_self (by rw [← h.1]; exact hl), r⟩
  · rw [List.getElem?_set_ne e] at q
    obtain ⟨v', a, b⟩ := h.2 j x q
    exact ⟨v', by rw [List.getElem?_set_ne e]; exact a, b⟩
def wipeW (ρ : Ev) : List Nat → Ev
  | [] => ρ
  | v :: vs => (wipeW ρ vs).set v none
theorem REnv.unset {K R H ρ σ} (h : REnv K H R ρ σ) (i : Nat) : REnv K H R (ρ.set i none) (σ.set i none) := by
  refine ⟨by simp [h.1], fun j x q => ?_⟩
  by_cases e : i = j
  · subst e
    have hl : i < ρ.length := by
      have := (List.getElem?_eq_some_iff.mp q).1; simpa using this
    rw [List.getElem?_set_self hl] at q
    cases q
  · rw [List.getElem?_set_ne e] at q
    obtain ⟨v', a, b⟩ := h.2 j x q
    exact ⟨v', by rw [List.getElem?_set_ne e]; exact a, b⟩
theorem REnv.wipe {K R H ρ σ} (h : REnv K H R ρ σ) : ∀ vs, REnv K H R (wipeW ρ vs) (wipe σ vs)
  | [] => h
  | v :: vs => (REnv.wipe h vs).unset v

/-! ### changing the heap -/
/-- a new object that is not told -/
theorem sqT_new {K : PySem.W.Frag} {H : Hp} {p a : Addr} {o : HO} {xs : List V} (hp : H p = none) (h : SqT K H a xs) : SqT K (upd H p o) a xs := by
  rcases h with (h | ⟨ob, h⟩) | h
  · exact .inl (.inl (by rw [upd_ne (ne_of_none h hp)]; exact h))
  · exact .inl (.inr ⟨ob, by rw [upd_ne (ne_of_none h hp)]; exact h⟩)
  · exact .inr h
theorem sqL_new {K : PySem.W.Frag} {H : Hp} {p a : Addr} {o : HO} {xs : List V} (hp : H p = none) (h : SqL K H a xs) : SqL K (upd H p o) a xs := by
  rcases h with (h | ⟨ob, h⟩) | h
  · exact .inl (.inl (by rw [upd_ne (ne_of_none h hp)]; exact h))
  · exact .inl (.inr ⟨ob, by rw [upd_ne (ne_of_none h hp)]; exact h⟩)
  · exact .inr h
theorem sqF_new {K : PySem.W.Frag} {H : Hp} {p a : Addr} {o : HO} {xs : List V} (hp : H p = none) (h : SqF K H a xs) : SqF K (upd H p o) a xs := by
  rcases h with ⟨ob, h⟩ | h
  · exact .inl ⟨ob, by rw [upd_ne (ne_of_none h hp)]; exact h⟩
  · exact .inr h
theorem Ext.new {K : PySem.W.Frag} {R : List Addr} {H : Hp} {p : Addr} {o : HO} (hp : H p = none) : Ext K R H R (upd H p o) :=
  ⟨⟨[], by simp, by simp⟩, fun _ _ h => sqT_new hp h, fun _ _ h => sqF_new hp h, fun a u h _ => by rw [upd_ne (ne_of_none h hp)]; exact h⟩
theorem Ext.newR {K : PySem.W.Frag} {R : List Addr} {H : Hp} {p : Addr} {o : HO} (hp : H p = none) : Ext K R H (R ++ [p]) (upd H p o) :=
  ⟨⟨[p], by simp, by simpa using hp⟩, fun _ _ h => sqT_new hp h, fun _ _ h => sqF_new hp h, fun a u h _ => by rw [upd_ne (ne_of_none h hp)]; exact h⟩
/-- an object stays told -/
theorem RO.ext {K R H R' H' cm o a} (e : Ext K R H R' H') (k : ∀ u, H a = some u → H' a = some u) (h : RO K H R cm o a) : RO K H' R' cm o a := by
  cases h with
  | lst q r => exact .lst (k _ q) (RVs.ext e _ _ r)
  | dK q r => exact .dK (k _ q) (RD.ext e r)
  | dT q r => exact .dT (k _ q) (RT.ext e r)
  | ins q r c => exact .ins (k _ q) (RF.ext e r) c
theorem RH.mem {K cm h R H} {n : Nat} {a : Addr} (x : RH K cm h R H) (e : R[n]? = some a) : ∃ o, h[n]? = some o ∧ RO K H R cm o a := by
  have hn : n < h.length := by rw [x.len]; exact (List.getElem?_eq_some_iff.mp e).1
  obtain ⟨b, q, r⟩ := x.ob n h[n] (by simp [hn])
  rw [e] at q; cases q
  exact ⟨_, by simp [hn], r⟩
theorem RH.get {K cm h R H} {n : Nat} {a : Addr} {o : Ob} (x : RH K cm h R H) (e : R[n]? = some a) (q : h[n]? = some o) : RO K H R cm o a := by
  obtain ⟨b, q', r⟩ := x.ob n o q
  rw [e] at q'; cases q'; exact r
/-- a new object, not told -/
theorem RH.new {K cm h R H p o} (x : RH K cm h R H) (hp : H p = none) : RH K cm h R (upd H p o) := by
  refine ⟨x.len, x.nd, fun n ob q => ?_⟩
  obtain ⟨a, e, r⟩ := x.ob n ob q
  exact ⟨a, e, r.ext (Ext.new hp) (fun u z => by rw [upd_ne (ne_of_none z hp)]; exact z)⟩
/-- a new object, told -/
theorem RH.newR {K cm h R H p o ob} (x : RH K cm h R H) (hp : H p = none) (hr : p ∉ R) (r : RO K (upd H p o) (R ++ [p]) cm ob p) : RH K cm (h ++ [ob]) (R ++ [p]) (upd H p o) := by
  refine ⟨by simp [x.len], ?_, fun n u q => ?_⟩
  · rw [List.nodup_append]
    exact ⟨x.nd, by simp, fun a ha b hb => by simp at hb; subst hb; rintro rfl; exact hr ha⟩
  · by_cases hn : n < h.length
    · rw [List.getElem?_append_left hn] at q
      obtain ⟨a, e, r⟩ := x.ob n u q
      refine ⟨a, (Ext.newR (o := o) hp).at_ (K := K) e, r.ext (Ext.newR hp) (fun u z => by rw [upd_ne (ne_of_none z hp)]; exact z)⟩
    · rw [List.getElem?_append_right (by omega)] at q
      have hz : n - h.length = 0 := by
        cases e : n - h.length with
        | zero => rfl
        | succ k => rw [e] at q; simp at q
      rw [hz] at q
      simp at q
      subst q
      refine ⟨p, ?_, r⟩
      rw [List.getElem?_append_right (by rw [← x.len]; omega), ← x.len, hz]; rfl
/-- what is told stands -/
theorem RO.some {K H R cm o a} (h : RO K H R cm o a) : ∃ u, H a = Option.some u := by
  cases h with
  | lst q _ => exact ⟨_, q⟩
  | dK q _ => exact ⟨_, q⟩
  | dT q _ => exact ⟨_, q⟩
  | ins q _ _ => exact ⟨_, q⟩
theorem RH.free {K cm h R H} {p : Addr} (x : RH K cm h R H) (hp : H p = none) : p ∉ R := fun z => by
  obtain ⟨n, hn, e⟩ := List.mem_iff_getElem.mp z
  obtain ⟨o, _, r⟩ := x.mem (n := n) (a := p) (by rw [List.getElem?_eq_getElem hn, e])
  obtain ⟨u, hu⟩ := r.some
  rw [hp] at hu; cases hu
/-- a told object is written -/
theorem sqT_at {K : PySem.W.Frag} {H : Hp} {p a : Addr} {u o : HO} {xs : List V} (hu : H p = some u) (h1 : ∀ ys, u ≠ .tup ys) (h2 : ∀ ob w, u ≠ .frz ob w) (h : SqT K H a xs) : SqT K (upd H p o) a xs := by
  rcases h with (h | ⟨ob, h⟩) | h
  · have ne : a ≠ p := fun z => by subst z; rw [hu] at h; cases h; exact h1 _ rfl
    exact .inl (.inl (by rw [upd_ne ne]; exact h))
  · have ne : a ≠ p := fun z => by subst z; rw [hu] at h; cases h; exact h2 _ _ rfl
    exact .inl (.inr ⟨ob, by rw [upd_ne ne]; exact h⟩)
  · exact .inr h
theorem sqL_ne {K : PySem.W.Frag} {H : Hp} {p a : Addr} {o : HO} {xs : List V} (ne : a ≠ p) (h : SqL K H a xs) : SqL K (upd H p o) a xs := by
  rcases h with (h | ⟨ob, h⟩) | h
  · exact .inl (.inl (by rw [L2.upd_ne ne]; exact h))
  · exact .inl (.inr ⟨ob, by rw [L2.upd_ne ne]; exact h⟩)
  · exact .inr h
theorem sqF_at {K : PySem.W.Frag} {H : Hp} {p a : Addr} {u o : HO} {xs : List V} (hu : H p = some u) (h2 : ∀ ob w, u ≠ .frz ob w) (h : SqF K H a xs) : SqF K (upd H p o) a xs := by
  rcases h with ⟨ob, h⟩ | h
  · have ne : a ≠ p := fun z => by subst z; rw [hu] at h; cases h; exact h2 _ _ rfl
    exact .inl ⟨ob, by rw [upd_ne ne]; exact h⟩
  · exact .inr h
theorem Ext.write {K : PySem.W.Frag} {R : List Addr} {H : Hp} {n : Nat} {p : Addr} {u o : HO} (hn : R[n]? = some p) (hu : H p = some u) (h1 : ∀ ys, u ≠ .tup ys) (h2 : ∀ ob w, u ≠ .frz ob w) : Ext K R H R (upd H p o) :=
  ⟨⟨[], by simp, by simp⟩, fun _ _ h => sqT_at hu h1 h2 h, fun _ _ h => sqF_at hu h2 h, fun a v h hr => by
    rw [upd_ne (fun z => hr (by rw [z]; exact List.mem_of_getElem? hn))]; exact h⟩
theorem RH.write {K cm h R H} {n : Nat} {p : Addr} {u o : HO} {ob : Ob} (x : RH K cm h R H) (hn : R[n]? = some p) (hu : H p = some u) (h1 : ∀ ys, u ≠ .tup ys) (h2 : ∀ ob w, u ≠ .frz ob w) (r : RO K (upd H p o) R cm ob p) : RH K cm (h.set n ob) R (upd H p o) := by
  refine ⟨by simp [x.len], x.nd, fun m v q => ?_⟩
  by_cases e : n = m
  · subst e
    have hl : n < h.length := by rw [x.len]; exact (List.getElem?_eq_some_iff.mp hn).1
    rw [List.getElem?_set_self hl] at q
    cases q
    exact ⟨p, hn, r⟩
  · rw [List.getElem?_set_ne e] at q
    obtain ⟨a, ea, ra⟩ := x.ob m v q
    have ne : a ≠ p := fun z => by
      subst z
      obtain ⟨h1, e1⟩ := List.getElem?_eq_some_iff.mp hn
      obtain ⟨h2, e2⟩ := List.getElem?_eq_some_iff.mp ea
      exact e ((List.getElem_inj x.nd).mp (e1.trans e2.symm))
    exact ⟨a, ea, ra.ext (Ext.write hn hu h1 h2) (fun u z => by rw [upd_ne ne]; exact z)⟩

/-! ### what is wanted behind a result -/
section
variable (K : PySem.W.Frag) (cm : Str → Addr)
def Post {α : Type} (R : List Addr) (H : Hp) (EX : Str → Hp → Prop) (OK : α → Hq → List Addr → Hp → Prop) : Res α → Prop
  | .ok a h' => ∀ R' H', Ext K R H R' H' → RH K cm h' R' H' → OK a h' R' H'
  | .exc c h' => ∀ R' H', Ext K R H R' H' → RH K cm h' R' H' → EX c H'
  | .stuck => False
end
theorem Post.from_ {K cm α R H R1 H1 EX OK} {r : Res α} (e : Ext K R H R1 H1) (h : Post K cm R H EX OK r) : Post K cm R1 H1 EX OK r := by
  cases r with
  | ok a h' => exact fun R' H' e' x => h R' H' (e.trans e' x.nd) x
  | exc c h' => exact fun R' H' e' x => h R' H' (e.trans e' x.nd) x
  | stuck => exact h
theorem Post.mono {K cm α R H EX OK OK'} {r : Res α} (h : Post K cm R H EX OK r) (k : ∀ a h' R' H', Ext K R H R' H' → RH K cm h' R' H' → OK a h' R' H' → OK' a h' R' H') : Post K cm R H EX OK' r := by
  cases r with
  | ok a h' => exact fun R' H' e' x => k _ _ _ _ e' x (h R' H' e' x)
  | exc c h' => exact h
  | stuck => exact h
theorem Post.bind {K cm α β R H EX OK} {r : Res α} {f : α → Hq → Res β} (h : Post K cm R H EX OK (r.bind f)) : Post K cm R H EX (fun a h1 R1 H1 => Post K cm R1 H1 EX OK (f a h1)) r := by
  cases r with
  | ok a h1 => exact fun R1 H1 e x => Post.from_ e h
  | exc c h' => exact h
  | stuck => exact h

/-- one law's fixed things -/
structure Cg where
  K : PySem.W.Frag
  cm : Str → Addr
abbrev EXw (cm : Str → Addr) (Wx : WX) (σ : St) : Str → Hp → Prop := fun c H' => Wx (.ref (cm c)) none σ H'
abbrev OKv (K : PySem.W.Frag) (Q : VK) : W → Hq → List Addr → Hp → Prop := fun w _ R' H' => ∀ v, RV K H' R' w v → Q v H'
abbrev OKs (K : PySem.W.Frag) (Q : List V → Hp → Prop) : List W → Hq → List Addr → Hp → Prop := fun w _ R' H' => ∀ v, RVs K H' R' w v → Q v H'
abbrev OKb (Q : Bool → Hp → Prop) : Bool → Hq → List Addr → Hp → Prop := fun w _ _ H' => Q w H'
section
variable (cm : Str → Addr) (X : Cx) (Wx : WX)
def QE (e : Expr) (m : ME) : Prop := ∃ t, PE X e t ∧ ∀ σ ρ h R H Q, REnv X.K H R ρ σ → RH X.K cm h R H → Post X.K cm R H (EXw cm Wx σ) (OKv X.K Q) (m ρ h) → t σ H Q
def QA (es : List Expr) (m : MA) : Prop := ∃ t, PA X es t ∧ ∀ σ ρ h R H Q, REnv X.K H R ρ σ → RH X.K cm h R H → Post X.K cm R H (EXw cm Wx σ) (OKs X.K Q) (m ρ h) → t σ H Q
def QT (e : Expr) (m : MT) : Prop := ∃ t, PT X e t ∧ ∀ σ ρ h R H Q, REnv X.K H R ρ σ → RH X.K cm h R H → Post X.K cm R H (EXw cm Wx σ) (OKb Q) (m ρ h) → t σ H Q
def QW (e : Expr) (m : MT) : Prop := ∃ t, PW X e t ∧ ∀ σ ρ h R H Q, REnv X.K H R ρ σ → RH X.K cm h R H → Post X.K cm R H (EXw cm Wx σ) (OKb Q) (m ρ h) → t σ H Q
def PostS (R : List Addr) (H : Hp) (D : Ends) : RS → Prop
  | .ok f ρ' h' => ∀ R' H' σ', Ext X.K R H R' H' → RH X.K cm h' R' H' → REnv X.K H' R' ρ' σ' → (match f with
      | .nx => D.nx σ' H'
      | .bk => D.bk σ' H'
      | .ct => D.ct σ' H'
      | .rt w => ∀ v, RV X.K H' R' w v → D.rt v H')
  | .exc c ρ' h' => ∀ R' H' σ', Ext X.K R H R' H' → RH X.K cm h' R' H' → REnv X.K H' R' ρ' σ' → Wx (.ref (cm c)) none σ' H'
  | .stuck => False
def QS (st : Stmt) (m : MS) : Prop := ∃ t, PS X st t ∧ ∀ σ ρ h R H D, REnv X.K H R ρ σ → RH X.K cm h R H → PostS cm X Wx R H D (m ρ h) → t D σ H
def QB (sts : List Stmt) (m : MS) : Prop := ∃ t, PSs X sts t ∧ ∀ σ ρ h R H D, REnv X.K H R ρ σ → RH X.K cm h R H → PostS cm X Wx R H D (m ρ h) → t D σ H
end
theorem PostS.from_ {cm X Wx R H R1 H1 D} {r : RS} (e : Ext X.K R H R1 H1) (h : PostS cm X Wx R H D r) : PostS cm X Wx R1 H1 D r := by
  cases r with
  | ok a ρ h' => exact fun R' H' σ' e' x => h R' H' σ' (e.trans e' x.nd) x
  | exc c ρ h' => exact fun R' H' σ' e' x => h R' H' σ' (e.trans e' x.nd) x
  | stuck => exact h
/-- from an expression's result to a statement's -/
def Res.toS {α : Type} (r : Res α) (ρ : Ev) (f : α → Hq → RS) : RS :=
  match r with
  | .ok a h => f a h
  | .exc c h => .exc c ρ h
  | .stuck => .stuck
theorem PostS.toS {cm X Wx R H D} {α : Type} {r : Res α} {ρ : Ev} {σ : St} {f : α → Hq → RS} (hρ : REnv X.K H R ρ σ) (h : PostS cm X Wx R H D (r.toS ρ f)) :
    Post X.K cm R H (EXw cm Wx σ) (fun a h1 R1 H1 => PostS cm X Wx R1 H1 D (f a h1)) r := by
  cases r with
  | ok a h1 => exact fun R1 H1 e x => PostS.from_ e h
  | exc c h' => exact fun R' H' e x => h R' H' σ e x (hρ.ext e)
  | stuck => exact h
end Z

/-! Q: combinators and their soundness. -/
namespace Z
open PySem PySem.Spec PyProof.Rows L2

/-! ### ends -/
section
variable {K : PySem.W.Frag} {cm : Str → Addr} {R : List Addr} {H : Hp} {h : Hq} {EX : Str → Hp → Prop} {Q : VK}
theorem post_v {w : W} {v : V} (p : Post K cm R H EX (OKv K Q) (.ok w h)) (x : RH K cm h R H) (r : RV K H R w v) : Q v H := p R H Ext.refl x v r
theorem post_lst {t : Nat} {xs : List W} {vs : List V} (p : Post K cm R H EX (OKv K Q) (.ok (.ref h.length) (h ++ [.lst t xs]))) (x : RH K cm h R H) (r : RVs K H R xs vs) {q : Addr} (hq : H q = none) : Q (.ref q) (upd H q (.lst vs)) := by
  refine p (R ++ [q]) _ (Ext.newR hq) (x.newR hq (x.free hq) (.lst upd_same (RVs.ext (Ext.newR hq) _ _ r))) _ (.ref ?_)
  rw [List.getElem?_append_right (by rw [x.len]; exact Nat.le_refl _), x.len, Nat.sub_self]; rfl
theorem post_tup {xs : List W} {vs : List V} (p : Post K cm R H EX (OKv K Q) (.ok (.tup xs) h)) (x : RH K cm h R H) (r : RVs K H R xs vs) {q : Addr} (hq : H q = none) : Q (.ref q) (upd H q (.tup vs)) :=
  p R _ (Ext.new hq) (x.new hq) _ (.tup (SqT.of upd_same) (RVs.ext (Ext.new hq) _ _ r))
end

/-! ### names, constants -/
section
variable {cm : Str → Addr} {X : Cx} {Wx : WX}
def eV (i : Nat) : ME := fun ρ h => match ρ[i]? with
  | some (some w) => .ok w h
  | _ => .stuck
def eC (w : W) : ME := fun _ h => .ok w h
theorem qv (i : Nat) {x : Str} {pos : Pos} (hN : X.N[i]? = some x := by rfl) (hv : Vis X.env.scope x := by first | exact Or.inl rfl | exact Or.inr (Or.inl rfl) | exact Or.inr (Or.inr rfl)) (hd : (x == ("__debug__" : Str)) = false := by decide)
    (hcd : (x == ("__classdict__" : Str)) = false := by decide) : QE cm X Wx (.Name x pos) (eV i) := by
  refine ⟨_, pe_var hN hv hd hcd, fun σ ρ h R H Q hρ hh p => ?_⟩
  unfold eV at p
  split at p
  · rename_i w e
    obtain ⟨v, a, r⟩ := hρ.2 i w e
    exact ⟨v, a, post_v p hh r⟩
  · exact p.elim
theorem q_int {i j pos} : QE cm X Wx (.Constant (.int i) j pos) (eC (.int i)) := ⟨_, pe_int, fun _ _ _ _ _ _ _ hh p => post_v p hh (.int i)⟩
theorem q_bl {i j pos} : QE cm X Wx (.Constant (.bool i) j pos) (eC (.bl i)) := ⟨_, pe_bl, fun _ _ _ _ _ _ _ hh p => post_v p hh (.bl i)⟩
theorem q_non {j pos} : QE cm X Wx (.Constant .none j pos) (eC .non) := ⟨_, pe_non, fun _ _ _ _ _ _ _ hh p => post_v p hh .non⟩
theorem q_str {x j pos} : QE cm X Wx (.Constant (.str x) j pos) (eC (.str x)) := ⟨_, pe_str, fun _ _ _ _ _ _ _ hh p => post_v p hh (.str x)⟩
theorem q_globI {x : Str} {i : Int} {pos : Pos} (hg : Gl X x) (hm : ∃ t, X.mg x = some (.int i t)) (hd : (x == ("__debug__" : Str)) = false := by decide) : QE cm X Wx (.Name x pos) (eC (.int i)) := by
  obtain ⟨t, hm⟩ := hm
  exact ⟨_, pe_glob (v := .int i) hg hm ⟨t, rfl⟩ hd, fun _ _ _ _ _ _ _ hh p => post_v p hh (.int i)⟩
theorem q_globS {x z : Str} {pos : Pos} (hg : Gl X x) (hm : ∃ t, X.mg x = some (.str z t)) (hd : (x == ("__debug__" : Str)) = false := by decide) : QE cm X Wx (.Name x pos) (eC (.str z)) := by
  obtain ⟨t, hm⟩ := hm
  exact ⟨_, pe_glob (v := .str z) hg hm ⟨t, rfl⟩ hd, fun _ _ _ _ _ _ _ hh p => post_v p hh (.str z)⟩

/-! ### operators by values -/
abbrev F2 := W → W → Hq → Res W
def QOp (cm : Str → Addr) (X : Cx) (r : R2) (f : F2) : Prop := ∀ (EX : Str → Hp → Prop) h R H x y vx vy Q, RH X.K cm h R H → RV X.K H R x vx → RV X.K H R y vy → Post X.K cm R H EX (OKv X.K Q) (f x y h) → r vx vy H Q
def eBin (f : F2) (a b : ME) : ME := fun ρ h => (a ρ h).bind fun x h1 => (b ρ h1).bind fun y h2 => f x y h2
theorem bin_ok {ta tb : TE} {r : R2} {f : F2} {ma mb : ME} (hf : QOp cm X r f)
    (sa : ∀ σ ρ h R H Q, REnv X.K H R ρ σ → RH X.K cm h R H → Post X.K cm R H (EXw cm Wx σ) (OKv X.K Q) (ma ρ h) → ta σ H Q)
    (sb : ∀ σ ρ h R H Q, REnv X.K H R ρ σ → RH X.K cm h R H → Post X.K cm R H (EXw cm Wx σ) (OKv X.K Q) (mb ρ h) → tb σ H Q) :
    ∀ σ ρ h R H Q, REnv X.K H R ρ σ → RH X.K cm h R H → Post X.K cm R H (EXw cm Wx σ) (OKv X.K Q) (eBin f ma mb ρ h) → tOp r ta tb σ H Q := fun σ ρ h R H Q hρ hh p =>
  sa σ ρ h R H _ hρ hh (Post.mono (Post.bind p) fun x h1 R1 H1 e1 x1 p1 => fun vx rx =>
    sb σ ρ h1 R1 H1 _ (hρ.ext e1) x1 (Post.mono (Post.bind p1) fun y h2 R2 H2 e2 x2 p2 => fun vy ry => hf _ _ _ _ _ _ _ _ _ x2 (RV.ext e2 _ _ rx) ry p2))
theorem qe_bin {op : Operator} {r : R2} {f : F2} {a b : Expr} {ma mb : ME} {pos : Pos} (ho : OpR X (binaryOp op) r) (hf : QOp cm X r f) (ha : QE cm X Wx a ma) (hb : QE cm X Wx b mb) : QE cm X Wx (.BinOp a op b pos) (eBin f ma mb) := by
  obtain ⟨ta, pa, sa⟩ := ha
  obtain ⟨tb, pb, sb⟩ := hb
  exact ⟨_, pe_op ho pa pb, bin_ok hf sa sb⟩
/-- a list told, by its value -/
def asL (h : Hq) : W → Option (List W)
  | .frz xs => some xs
  | .ref n => match h[n]? with
    | some (.lst _ xs) => some xs
    | _ => none
  | _ => none
theorem asL_ok {h : Hq} {R H} {x : W} {xs : List W} {v : V} (hh : RH X.K cm h R H) (r : RV X.K H R x v) (e : asL h x = some xs) : ∃ a vs, v = .ref a ∧ SqL X.K H a vs ∧ RVs X.K H R xs vs := by
  cases x with
  | frz ys =>
    cases r with
    | frz s r => cases e; exact ⟨_, _, rfl, s.sqL, r⟩
  | ref n =>
    cases r with
    | ref q =>
      unfold asL at e
      cases z : h[n]? with
      | none => simp [z] at e
      | some o =>
        have ro := hh.get q z
        cases o with
        | lst t ys => simp [z] at e; subst e; cases ro with | lst a b => exact ⟨_, _, rfl, SqL.of a, b⟩
        | dct _ _ _ => simp [z] at e
        | ins _ _ => simp [z] at e
  | _ => simp [asL] at e
def mkL (t : Nat) (xs : List W) (h : Hq) : Res W := .ok (.ref h.length) (h ++ [.lst t xs])
def isMut (h : Hq) : W → Bool
  | .ref n => match h[n]? with
    | some (.lst _ _) => true
    | _ => false
  | _ => false
theorem asLm_ok {h : Hq} {R H} {x : W} {xs : List W} {v : V} (hh : RH X.K cm h R H) (r : RV X.K H R x v) (e : asL h x = some xs) (m : isMut h x = true) : ∃ a vs, v = .ref a ∧ H a = some (.lst vs) ∧ RVs X.K H R xs vs := by
  cases x with
  | ref n =>
    cases r with
    | ref q =>
      unfold asL at e
      unfold isMut at m
      cases z : h[n]? with
      | none => simp [z] at e
      | some o =>
        have ro := hh.get q z
        cases o with
        | lst t ys => simp [z] at e; subst e; cases ro with | lst a b => exact ⟨_, _, rfl, a, b⟩
        | dct _ _ _ => simp [z] at e
        | ins _ _ => simp [z] at e
  | frz xs => cases m
  | _ => simp [asL] at e
/-- + -/
def addW (t : Nat) : F2 := fun x y h => match x, y with
  | .int i, .int j => .ok (.int (i + j)) h
  | .str a, .str b => if a.length + b.length ≤ sizeLine then .ok (.str (a ++ b)) h else .stuck
  | .tup a, .tup b => if a.length + b.length ≤ sizeLine then .ok (.tup (a ++ b)) h else .stuck
  | .ref m, .ref n => match asL h (.ref m), asL h (.ref n) with
    | some xs, some ys => if isMut h (.ref m) && isMut h (.ref n) && decide (xs.length + ys.length ≤ sizeLine) then mkL t (xs ++ ys) h else .stuck
    | _, _ => .stuck
  | _, _ => .stuck
theorem op_addW : OpR X (binaryOp .Add) (fun x y H Q => rI0 (fun i j => .int (i + j)) x y H Q ∨ ((∃ i j, x = .str i ∧ y = .str j ∧ i.length + j.length ≤ sizeLine ∧ Q (.str (i ++ j)) H) ∨ (rCatA X.K x y H Q ∨ rCat x y H Q))) := OpR.or op_add (OpR.or op_add_str (OpR.or op_catA op_cat))
theorem q_addW {t : Nat} : QOp cm X (fun x y H Q => rI0 (fun i j => .int (i + j)) x y H Q ∨ ((∃ i j, x = .str i ∧ y = .str j ∧ i.length + j.length ≤ sizeLine ∧ Q (.str (i ++ j)) H) ∨ (rCatA X.K x y H Q ∨ rCat x y H Q))) (addW t) := by
  intro EX h R H x y vx vy Q hh rx ry p
  cases x with
  | int i =>
    cases y with
    | int j => cases rx; cases ry; exact .inl ⟨i, j, rfl, rfl, post_v p hh (.int _)⟩
    | _ => exact p.elim
  | str a =>
    cases y with
    | str b =>
      cases rx; cases ry
      unfold addW at p
      dsimp only at p
      split at p
      · rename_i z; exact .inr (.inl ⟨a, b, rfl, rfl, z, post_v p hh (.str _)⟩)
      · exact p.elim
    | _ => exact p.elim
  | tup a =>
    cases y with
    | tup b =>
      cases rx with
      | tup s1 r1 =>
      cases ry with
      | tup s2 r2 =>
      unfold addW at p
      dsimp only at p
      split at p
      · rename_i z
        refine .inr (.inr (.inl ⟨_, _, _, _, rfl, rfl, s1, s2, by rw [← r1.length, ← r2.length]; exact z, fun e => ?_, fun _ e => ?_, fun _ _ q hq => post_tup p hh (RVs.append r1 r2) hq⟩))
        · subst e
          cases r1
          exact post_v p hh (.tup s2 r2)
        · subst e
          cases r2
          rw [List.append_nil] at p
          exact post_v p hh (.tup s1 r1)
      · exact p.elim
    | _ => exact p.elim
  | ref m =>
    cases y with
    | ref n =>
      unfold addW at p
      dsimp only at p
      split at p
      · rename_i xs ys e1 e2
        split at p
        · rename_i z
          simp only [Bool.and_eq_true, decide_eq_true_eq] at z
          obtain ⟨⟨z1, z2⟩, z3⟩ := z
          obtain ⟨a, vs, rfl, ha, r1⟩ := asLm_ok hh rx e1 z1
          obtain ⟨b, ws, rfl, hb, r2⟩ := asLm_ok hh ry e2 z2
          exact .inr (.inr (.inr ⟨a, b, vs, ws, rfl, rfl, ha, hb, by rw [← r1.length, ← r2.length]; exact z3, fun q hq => post_lst p hh (RVs.append r1 r2) hq⟩))
        · exact p.elim
      · exact p.elim
    | _ => exact p.elim
  | _ => exact p.elim
theorem q_add {t : Nat} {a b : Expr} {ma mb : ME} {pos : Pos} (ha : QE cm X Wx a ma) (hb : QE cm X Wx b mb) : QE cm X Wx (.BinOp a .Add b pos) (eBin (addW t) ma mb) := qe_bin op_addW q_addW ha hb

/-- two ints -/
def intW (c : Int → Int → Bool) (g : Int → Int → W) : F2 := fun x y h => match x, y with
  | .int i, .int j => if c i j then .ok (g i j) h else .stuck
  | _, _ => .stuck
theorem q_intW {C : Int → Int → Prop} {g : Int → Int → V} {c : Int → Int → Bool} {gw : Int → Int → W} (hc : ∀ i j, c i j = true → C i j) (hg : ∀ K H R i j, RV K H R (gw i j) (g i j)) : QOp cm X (rI C g) (intW c gw) := by
  intro EX h R H x y vx vy Q hh rx ry p
  cases x with
  | int i =>
    cases y with
    | int j =>
      cases rx; cases ry
      unfold intW at p
      dsimp only at p
      split at p
      · rename_i z; exact ⟨i, j, rfl, rfl, hc i j z, post_v p hh (hg _ _ _ i j)⟩
      · exact p.elim
    | _ => exact p.elim
  | _ => exact p.elim
def subW : F2 := fun x y h => match x, y with
  | .int i, .int j => .ok (.int (i - j)) h
  | _, _ => .stuck
theorem q_sub {a b : Expr} {ma mb : ME} {pos : Pos} (ha : QE cm X Wx a ma) (hb : QE cm X Wx b mb) : QE cm X Wx (.BinOp a .Sub b pos) (eBin subW ma mb) := qe_bin op_sub (by
  intro EX h R H x y vx vy Q hh rx ry p
  cases x with
  | int i =>
    cases y with
    | int j => cases rx; cases ry; exact ⟨i, j, rfl, rfl, post_v p hh (.int _)⟩
    | _ => exact p.elim
  | _ => exact p.elim) ha hb
/-- * : ints of any size as long as both have less than some 400,000 bits; a text by a number -/
def small (i : Int) : Bool := decide (-(2 ^ 64) < i) && decide (i < 2 ^ 64)
def mulW : F2 := fun x y h => match x, y with
  | .int i, .int j => if small i || small j then .ok (.int (i * j)) h else .stuck
  | _, _ => .stuck
theorem cmul_of {i j : Int} (h : (small i || small j) = true) : CMul i j := by
  unfold small at h
  simp only [Bool.or_eq_true, Bool.and_eq_true, decide_eq_true_eq] at h
  exact h
theorem q_mulW : QOp cm X (rI CMul fun i j => .int (i * j)) mulW := by
  intro EX h R H x y vx vy Q hh rx ry p
  cases x with
  | int i =>
    cases y with
    | int j =>
      cases rx; cases ry
      unfold mulW at p
      dsimp only at p
      split at p
      · rename_i z; exact ⟨i, j, rfl, rfl, cmul_of z, post_v p hh (.int _)⟩
      · exact p.elim
    | _ => exact p.elim
  | _ => exact p.elim
theorem q_mul {a b : Expr} {ma mb : ME} {pos : Pos} (ha : QE cm X Wx a ma) (hb : QE cm X Wx b mb) : QE cm X Wx (.BinOp a .Mult b pos) (eBin mulW ma mb) := qe_bin op_mul q_mulW ha hb
/-- // by a positive number below 2 ^ 9000 -/
def wideB : Nat := 2 ^ 9000
def fdivW : F2 := fun x y h => match x, y with
  | .int i, .int j => if decide (0 < j) && decide (j.natAbs < wideB) then .ok (.int (i / j)) h else .stuck
  | _, _ => .stuck
theorem q_fdiv {a b : Expr} {ma mb : ME} {pos : Pos} (ha : QE cm X Wx a ma) (hb : QE cm X Wx b mb) : QE cm X Wx (.BinOp a .FloorDiv b pos) (eBin fdivW ma mb) := qe_bin op_fdivW (by
  intro EX h R H x y vx vy Q hh rx ry p
  cases x with
  | int i =>
    cases y with
    | int j =>
      cases rx; cases ry
      unfold fdivW at p
      dsimp only at p
      split at p
      · rename_i z
        simp only [Bool.and_eq_true, decide_eq_true_eq] at z
        exact ⟨i, j, rfl, rfl, wide_div z.1 z.2 (by decide) (Nat.le_refl _), post_v p hh (.int _)⟩
      · exact p.elim
    | _ => exact p.elim
  | _ => exact p.elim) ha hb
def modW : F2 := fun x y h => match x, y with
  | .int i, .int j => if 0 < j then .ok (.int (i % j)) h else .stuck
  | _, _ => .stuck
theorem q_mod {a b : Expr} {ma mb : ME} {pos : Pos} (ha : QE cm X Wx a ma) (hb : QE cm X Wx b mb) : QE cm X Wx (.BinOp a .Mod b pos) (eBin modW ma mb) := qe_bin op_mod (by
  intro EX h R H x y vx vy Q hh rx ry p
  cases x with
  | int i =>
    cases y with
    | int j =>
      cases rx; cases ry
      unfold modW at p
      dsimp only at p
      split at p
      · rename_i z; exact ⟨i, j, rfl, rfl, z, post_v p hh (.int _)⟩
      · exact p.elim
    | _ => exact p.elim
  | _ => exact p.elim) ha hb
def powW : F2 := fun x y h => match x, y with
  | .int i, .int j => if decide (0 ≤ j ∧ j ≤ 1000000) && decide (i.natAbs < 2 ^ 64) then .ok (.int (i ^ j.toNat)) h else .stuck
  | _, _ => .stuck
theorem q_pow {a b : Expr} {ma mb : ME} {pos : Pos} (ha : QE cm X Wx a ma) (hb : QE cm X Wx b mb) : QE cm X Wx (.BinOp a .Pow b pos) (eBin powW ma mb) := qe_bin op_pow (by
  intro EX h R H x y vx vy Q hh rx ry p
  cases x with
  | int i =>
    cases y with
    | int j =>
      cases rx; cases ry
      unfold powW at p
      dsimp only at p
      split at p
      · rename_i z
        simp only [Bool.and_eq_true, decide_eq_true_eq] at z
        exact ⟨i, j, rfl, rfl, ⟨z.1.1, z.1.2, z.2⟩, post_v p hh (.int _)⟩
      · exact p.elim
    | _ => exact p.elim
  | _ => exact p.elim) ha hb
def eNeg (a : ME) : ME := fun ρ h => (a ρ h).bind fun x h1 => match x with
  | .int i => .ok (.int (-i)) h1
  | _ => .stuck
theorem q_neg {a : Expr} {ma : ME} {pos : Pos} (ha : QE cm X Wx a ma) : QE cm X Wx (.UnaryOp .USub a pos) (eNeg ma) := by
  obtain ⟨ta, pa, sa⟩ := ha
  refine ⟨_, pe_un un_neg pa, fun σ ρ h R H Q hρ hh p => ?_⟩
  refine sa σ ρ h R H _ hρ hh (Post.mono (Post.bind p) fun x h1 R1 H1 e1 x1 p1 => fun vx rx => ?_)
  cases x with
  | int i => cases rx; exact ⟨i, rfl, post_v p1 x1 (.int _)⟩
  | _ => exact p1.elim

/-! ### comparisons -/
mutual
def toD (L : Nat → Option PyData) : W → Option PyData
  | .non => some .none
  | .bl b => some (.bool b)
  | .int i => some (.int i)
  | .str x => some (.str x)
  | .tup xs => (toDs L xs).map .tuple
  | .frz xs => (toDs L xs).map .list
  | .ref n => L n
  | .exn _ _ => none
def toDs (L : Nat → Option PyData) : List W → Option (List PyData)
  | [] => some []
  | x :: xs => match toD L x, toDs L xs with
    | some d, some ds => some (d :: ds)
    | _, _ => none
end
/-- the data at a list, n deep -/
def refD (h : Hq) : Nat → Nat → Option PyData
  | 0, _ => none
  | k + 1, n => match asL h (.ref n) with
    | some xs => (toDs (refD h k) xs).map .list
    | none => none
section
variable {h : Hq} {R : List Addr} {H : Hp}
mutual
theorem toD_ok {L : Nat → Option PyData} (hL : ∀ n d v, RV X.K H R (.ref n) v → L n = some d → Dp X.K H v d) : ∀ (w : W) (d : PyData) (v : V), RV X.K H R w v → toD L w = some d → Dp X.K H v d
  | .non, _, _, r, e => by cases r; simp [toD] at e; subst e; exact .non
  | .bl b, _, _, r, e => by cases r; simp [toD] at e; subst e; exact .bl b
  | .int b, _, _, r, e => by cases r; simp [toD] at e; subst e; exact .int b
  | .str b, _, _, r, e => by cases r; simp [toD] at e; subst e; exact .str b
  | .tup xs, _, _, r, e => by
    cases r with
    | tup s rs =>
      simp [toD] at e
      obtain ⟨ds, e1, rfl⟩ := e
      exact .tup s (toDs_ok hL xs ds _ rs e1)
  | .frz xs, _, _, r, e => by
    cases r with
    | frz s rs =>
      simp [toD] at e
      obtain ⟨ds, e1, rfl⟩ := e
      exact .lst s.sqL (toDs_ok hL xs ds _ rs e1)
  | .ref n, d, _, r, e => hL n d _ r (by simpa [toD] using e)
theorem toDs_ok {L : Nat → Option PyData} (hL : ∀ n d v, RV X.K H R (.ref n) v → L n = some d → Dp X.K H v d) : ∀ (ws : List W) (ds : List PyData) (vs : List V), RVs X.K H R ws vs → toDs L ws = some ds → DpAll X.K H vs ds
  | [], _, _, r, e => by cases r; simp [toDs] at e; subst e; exact .nil
  | w :: ws, _, _, r, e => by
    cases r with
    | cons a b =>
      unfold toDs at e
      split at e
      · rename_i d ds e1 e2
        cases e
        exact .cons (toD_ok hL w d _ a e1) (toDs_ok hL ws ds _ b e2)
      · cases e
end
theorem refD_ok (hh : RH X.K cm h R H) : ∀ (k n : Nat) (d : PyData) (v : V), RV X.K H R (.ref n) v → refD h k n = some d → Dp X.K H v d
  | 0, _, _, _, _, e => by cases e
  | k + 1, n, d, v, r, e => by
    unfold refD at e
    split at e
    · rename_i xs z
      obtain ⟨a, vs, rfl, s, rs⟩ := asL_ok hh r z
      simp at e
      obtain ⟨ds, e1, rfl⟩ := e
      exact .lst s (toDs_ok (refD_ok hh k) xs ds vs rs e1)
    · cases e
end
def dataW (h : Hq) (w : W) : Option PyData := toD (refD h 60) w
/-- == -/
def eqW (neg : Bool) : F2 := fun x y h => match x, y with
  | .int i, .int j => .ok (.bl (xor neg (decide (i = j)))) h
  | .str i, .str j => .ok (.bl (xor neg (decide (i = j)))) h
  | .bl i, .bl j => .ok (.bl (xor neg (decide (i = j)))) h
  | .non, .non => .ok (.bl (xor neg true)) h
  | .non, .int _ | .int _, .non | .non, .bl _ | .bl _, .non | .non, .str _ | .str _, .non | .int _, .str _ | .str _, .int _ | .bl _, .str _ | .str _, .bl _ => .ok (.bl neg) h
  | x, y => match dataW h x, dataW h y with
    | some d, some e => if SeqAt.shaped d && SeqAt.shaped e then .ok (.bl (xor neg (PyData.eqv d e))) h else .stuck
    | _, _ => .stuck
def rEqW (K : PySem.W.Frag) (neg : Bool) : R2 := fun x y H Q => (scal x y = true ∧ Q (.bl (xor neg (decide (x = y)))) H) ∨ (∃ d e, Dp K H x d ∧ Dp K H y e ∧ SeqAt.shaped d = true ∧ SeqAt.shaped e = true ∧ Q (.bl (xor neg (PyData.eqv d e))) H)
theorem op_eqW (hu : X.A.units + 64 < cLine) : OpR X (compareOp .Eq) (rEqW X.K false) := by
  intro pins s σ H x y v u Q I rx ry h
  refine OpR.or op_eq (op_eqD hu) pins s σ H x y v u Q I rx ry ?_
  rcases h with ⟨a, b⟩ | h
  · exact .inl ⟨a, by simpa using b⟩
  · obtain ⟨d, e, h1, h2, h3, h4, q⟩ := h
    exact .inr ⟨d, e, h1, h2, h3, h4, by simpa using q⟩
theorem op_neW (hu : X.A.units + 64 < cLine) : OpR X (compareOp .NotEq) (rEqW X.K true) := by
  intro pins s σ H x y v u Q I rx ry h
  refine OpR.or op_ne (op_neD hu) pins s σ H x y v u Q I rx ry ?_
  rcases h with ⟨a, b⟩ | h
  · exact .inl ⟨a, by simpa using b⟩
  · obtain ⟨d, e, h1, h2, h3, h4, q⟩ := h
    exact .inr ⟨d, e, h1, h2, h3, h4, by simpa using q⟩
theorem dec_V_int {i j : Int} : decide (V.int i = V.int j) = decide (i = j) := by
  by_cases e : i = j
  · subst e; simp
  · rw [decide_eq_false e, decide_eq_false (fun z => e (by cases z; rfl))]
theorem dec_V_str {i j : Str} : decide (V.str i = V.str j) = decide (i = j) := by
  by_cases e : i = j
  · subst e; simp
  · rw [decide_eq_false e, decide_eq_false (fun z => e (by cases z; rfl))]
theorem dec_V_bl {i j : Bool} : decide (V.bl i = V.bl j) = decide (i = j) := by
  cases i <;> cases j <;> rfl
theorem eqW_data {neg : Bool} {x y : W} {h : Hq} {R H EX Q vx vy} (hh : RH X.K cm h R H) (rx : RV X.K H R x vx) (ry : RV X.K H R y vy)
    (p : Post X.K cm R H EX (OKv X.K Q) (match dataW h x, dataW h y with
    | some d, some e => if SeqAt.shaped d && SeqAt.shaped e then .ok (.bl (xor neg (PyData.eqv d e))) h else .stuck
    | _, _ => .stuck)) : rEqW X.K neg vx vy H Q := by
  split at p
  · rename_i d e e1 e2
    split at p
    · rename_i z
      simp only [Bool.and_eq_true] at z
      exact .inr ⟨d, e, toD_ok (refD_ok hh 60) x d _ rx e1, toD_ok (refD_ok hh 60) y e _ ry e2, z.1, z.2, post_v p hh (.bl _)⟩
    · exact p.elim
  · exact p.elim
theorem q_eqW {neg : Bool} : QOp cm X (rEqW X.K neg) (eqW neg) := by
  intro EX h R H x y vx vy Q hh rx ry p
  cases x with
  | non =>
    cases y with
    | non => cases rx; cases ry; exact .inl ⟨rfl, post_v p hh (.bl _)⟩
    | int j => cases rx; cases ry; exact .inl ⟨rfl, by simpa using post_v p hh (.bl _)⟩
    | bl j => cases rx; cases ry; exact .inl ⟨rfl, by simpa using post_v p hh (.bl _)⟩
    | str j => cases rx; cases ry; exact .inl ⟨rfl, by simpa using post_v p hh (.bl _)⟩
    | _ => exact eqW_data hh rx ry p
  | bl i =>
    cases y with
    | bl j => cases rx; cases ry; exact .inl ⟨rfl, by rw [dec_V_bl]; exact post_v p hh (.bl _)⟩
    | non => cases rx; cases ry; exact .inl ⟨rfl, by simpa using post_v p hh (.bl _)⟩
    | str j => cases rx; cases ry; exact .inl ⟨rfl, by simpa using post_v p hh (.bl _)⟩
    | _ => exact eqW_data hh rx ry p
  | int i =>
    cases y with
    | int j => cases rx; cases ry; exact .inl ⟨rfl, by rw [dec_V_int]; exact post_v p hh (.bl _)⟩
    | non => cases rx; cases ry; exact .inl ⟨rfl, by simpa using post_v p hh (.bl _)⟩
    | str j => cases rx; cases ry; exact .inl ⟨rfl, by simpa using post_v p hh (.bl _)⟩
    | _ => exact eqW_data hh rx ry p
  | str i =>
    cases y with
    | str j => cases rx; cases ry; exact .inl ⟨rfl, by rw [dec_V_str]; exact post_v p hh (.bl _)⟩
    | non => cases rx; cases ry; exact .inl ⟨rfl, by simpa using post_v p hh (.bl _)⟩
    | int j => cases rx; cases ry; exact .inl ⟨rfl, by simpa using post_v p hh (.bl _)⟩
    | bl j => cases rx; cases ry; exact .inl ⟨rfl, by simpa using post_v p hh (.bl _)⟩
    | _ => exact eqW_data hh rx ry p
  | tup xs => cases y <;> exact eqW_data hh rx ry p
  | frz xs => cases y <;> exact eqW_data hh rx ry p
  | ref n => cases y <;> exact eqW_data hh rx ry p
  | exn a c => cases y <;> exact eqW_data hh rx ry p
/-- < and the like: ints, texts -/
def ordW (g : Int → Int → Bool) (s : Str → Str → Bool) : F2 := fun x y h => match x, y with
  | .int i, .int j => .ok (.bl (g i j)) h
  | .str i, .str j => .ok (.bl (s i j)) h
  | _, _ => .stuck
def rOrdW (g : Int → Int → Bool) (s : Str → Str → Bool) : R2 := fun x y H Q => rI0 (fun i j => .bl (g i j)) x y H Q ∨ ∃ i j, x = .str i ∧ y = .str j ∧ Q (.bl (s i j)) H
theorem q_ordW {g s} : QOp cm X (rOrdW g s) (ordW g s) := by
  intro EX h R H x y vx vy Q hh rx ry p
  cases x with
  | int i =>
    cases y with
    | int j => cases rx; cases ry; exact .inl ⟨i, j, rfl, rfl, post_v p hh (.bl _)⟩
    | _ => exact p.elim
  | str i =>
    cases y with
    | str j => cases rx; cases ry; exact .inr ⟨i, j, rfl, rfl, post_v p hh (.bl _)⟩
    | _ => exact p.elim
  | _ => exact p.elim
def sLt (i j : Str) : Bool := decide (i.cps.toList < j.cps.toList)
def sLe (i j : Str) : Bool := !decide (j.cps.toList < i.cps.toList)
abbrev ltW : F2 := ordW (fun i j => decide (i < j)) sLt
abbrev leW : F2 := ordW (fun i j => decide (i ≤ j)) sLe
abbrev gtW : F2 := ordW (fun i j => decide (j < i)) (fun i j => sLt j i)
abbrev geW : F2 := ordW (fun i j => decide (j ≤ i)) (fun i j => sLe j i)
theorem op_ltW : OpR X (compareOp .Lt) (rOrdW (fun i j => decide (i < j)) sLt) := OpR.or op_lt op_lt_str
theorem op_leW : OpR X (compareOp .LtE) (rOrdW (fun i j => decide (i ≤ j)) sLe) := OpR.or op_le op_le_str
theorem op_gtW : OpR X (compareOp .Gt) (rOrdW (fun i j => decide (j < i)) (fun i j => sLt j i)) := OpR.or op_gt op_gt_str
theorem op_geW : OpR X (compareOp .GtE) (rOrdW (fun i j => decide (j ≤ i)) (fun i j => sLe j i)) := OpR.or op_ge op_ge_str
/-- is None, is not None -/
def isNW (neg : Bool) : F2 := fun x y h => match y with
  | .non => .ok (.bl (xor neg (match x with | .non => true | _ => false))) h
  | _ => .stuck
theorem q_isN : QOp cm X (fun x y H Q => y = .non ∧ Q (.bl (decide (x = .non))) H) (isNW false) := by
  intro EX h R H x y vx vy Q hh rx ry p
  cases y with
  | non =>
    cases ry
    refine ⟨rfl, ?_⟩
    cases x <;> cases rx <;> simpa using post_v p hh (.bl _)
  | _ => exact p.elim
theorem q_notN : QOp cm X (fun x y H Q => y = .non ∧ Q (.bl (!decide (x = .non))) H) (isNW true) := by
  intro EX h R H x y vx vy Q hh rx ry p
  cases y with
  | non =>
    cases ry
    refine ⟨rfl, ?_⟩
    cases x <;> cases rx <;> simpa using post_v p hh (.bl _)
  | _ => exact p.elim
/-- one comparison, as a value and as a test -/
def tB (m : ME) : MT := fun ρ h => (m ρ h).bind fun x h1 => match x with
  | .bl b => .ok b h1
  | _ => .stuck
theorem qe_cmp {op : CmpOp} {r : R2} {f : F2} {a b : Expr} {ma mb : ME} {pos : Pos} (ho : OpR X (compareOp op) r) (hf : QOp cm X r f) (ha : QE cm X Wx a ma) (hb : QE cm X Wx b mb) (hm : behindInMarks op b = false) : QE cm X Wx (.Compare a [op] [b] pos) (eBin f ma mb) := by
  obtain ⟨ta, pa, sa⟩ := ha
  obtain ⟨tb, pb, sb⟩ := hb
  exact ⟨_, pe_cmpR ho pa pb hm, bin_ok hf sa sb⟩
theorem test_ok {ta : TE} {ma : ME} (sa : ∀ σ ρ h R H Q, REnv X.K H R ρ σ → RH X.K cm h R H → Post X.K cm R H (EXw cm Wx σ) (OKv X.K Q) (ma ρ h) → ta σ H Q) :
    ∀ σ ρ h R H Q, REnv X.K H R ρ σ → RH X.K cm h R H → Post X.K cm R H (EXw cm Wx σ) (OKb Q) (tB ma ρ h) → tTest ta σ H Q := fun σ ρ h R H Q hρ hh p =>
  sa σ ρ h R H _ hρ hh (Post.mono (Post.bind p) fun x h1 R1 H1 e1 x1 p1 => fun vx rx => by
    cases x with
    | bl b => cases rx; exact ⟨b, rfl, p1 R1 H1 Ext.refl x1⟩
    | _ => exact p1.elim)
theorem qt_cmp {op : CmpOp} {r : R2} {f : F2} {a b : Expr} {ma mb : ME} {pos : Pos} (ho : OpR X (compareOp op) r) (hf : QOp cm X r f) (ha : QE cm X Wx a ma) (hb : QE cm X Wx b mb) (hm : behindInMarks op b = false) : QT cm X Wx (.Compare a [op] [b] pos) (tB (eBin f ma mb)) := by
  obtain ⟨ta, pa, sa⟩ := ha
  obtain ⟨tb, pb, sb⟩ := hb
  exact ⟨_, pt_cmpR ho pa pb hm, test_ok (bin_ok hf sa sb)⟩
/-- a < b < c -/
def eChain (f g : F2) (a b c : ME) : ME := fun ρ h => (a ρ h).bind fun x h1 => (b ρ h1).bind fun y h2 => (f x y h2).bind fun k h3 => match k with
  | .bl true => (c ρ h3).bind fun z h4 => g y z h4
  | .bl false => .ok (.bl false) h3
  | _ => .stuck
theorem chain_ok {ta tb tc : TE} {r r' : R2} {f g : F2} {ma mb mc : ME} (hf : QOp cm X r f) (hg : QOp cm X r' g)
    (sa : ∀ σ ρ h R H Q, REnv X.K H R ρ σ → RH X.K cm h R H → Post X.K cm R H (EXw cm Wx σ) (OKv X.K Q) (ma ρ h) → ta σ H Q)
    (sb : ∀ σ ρ h R H Q, REnv X.K H R ρ σ → RH X.K cm h R H → Post X.K cm R H (EXw cm Wx σ) (OKv X.K Q) (mb ρ h) → tb σ H Q)
    (sc : ∀ σ ρ h R H Q, REnv X.K H R ρ σ → RH X.K cm h R H → Post X.K cm R H (EXw cm Wx σ) (OKv X.K Q) (mc ρ h) → tc σ H Q) :
    ∀ σ ρ h R H Q, REnv X.K H R ρ σ → RH X.K cm h R H → Post X.K cm R H (EXw cm Wx σ) (OKv X.K Q) (eChain f g ma mb mc ρ h) → tChain r r' ta tb tc σ H Q := fun σ ρ h R H Q hρ hh p => by
  refine sa σ ρ h R H _ hρ hh (Post.mono (Post.bind p) fun x h1 R1 H1 e1 x1 p1 => fun vx rx => ?_)
  refine sb σ ρ h1 R1 H1 _ (hρ.ext e1) x1 (Post.mono (Post.bind p1) fun y h2 R2 H2 e2 x2 p2 => fun vy ry => ?_)
  refine hf (EXw cm Wx σ) _ _ _ _ _ _ _ _ x2 (RV.ext e2 _ _ rx) ry (Post.mono (Post.bind p2) fun k h3 R3 H3 e3 x3 p3 => fun vk rk => ?_)
  cases k with
  | bl b =>
    cases rk
    refine ⟨b, rfl, ?_⟩
    cases b with
    | true =>
      rw [if_pos rfl]
      refine sc σ ρ h3 R3 H3 _ ((hρ.ext e1).ext (e2.trans e3 x3.nd)) x3 (Post.mono (Post.bind p3) fun z h4 R4 H4 e4 x4 p4 => fun vz rz => ?_)
      exact hg _ _ _ _ _ _ _ _ _ x4 (RV.ext (e3.trans e4 x4.nd) _ _ ry) rz p4
    | false =>
      rw [if_neg Bool.false_ne_true]
      exact post_v p3 x3 (.bl false)
  | _ => exact p3.elim
theorem qe_chain {op op' : CmpOp} {r r' : R2} {f g : F2} {a b c : Expr} {ma mb mc : ME} {pos : Pos} (ho : OpR X (compareOp op) r) (hf : QOp cm X r f) (ho' : OpR X (compareOp op') r') (hg : QOp cm X r' g) (ha : QE cm X Wx a ma) (hb : QE cm X Wx b mb) (hc : QE cm X Wx c mc)
    (hm : lastMarks [op, op'] [b, c] = false := by with_unfolding_all rfl) : QE cm X Wx (.Compare a [op, op'] [b, c] pos) (eChain f g ma mb mc) := by
  obtain ⟨ta, pa, sa⟩ := ha
  obtain ⟨tb, pb, sb⟩ := hb
  obtain ⟨tc, pc, sc⟩ := hc
  exact ⟨_, pe_chain ho ho' pa pb pc hm, chain_ok hf hg sa sb sc⟩
theorem qt_chain {op op' : CmpOp} {r r' : R2} {f g : F2} {a b c : Expr} {ma mb mc : ME} {pos : Pos} (ho : OpR X (compareOp op) r) (hf : QOp cm X r f) (ho' : OpR X (compareOp op') r') (hg : QOp cm X r' g) (ha : QE cm X Wx a ma) (hb : QE cm X Wx b mb) (hc : QE cm X Wx c mc)
    (hm : lastMarks [op, op'] [b, c] = false := by with_unfolding_all rfl) : QT cm X Wx (.Compare a [op, op'] [b, c] pos) (tB (eChain f g ma mb mc)) := by
  obtain ⟨ta, pa, sa⟩ := ha
  obtain ⟨tb, pb, sb⟩ := hb
  obtain ⟨tc, pc, sc⟩ := hc
  exact ⟨_, pt_chain ho ho' pa pb pc hm, test_ok (chain_ok hf hg sa sb sc)⟩

/-! ### truth, and, or, not -/
def truW (h : Hq) : W → Option Bool
  | .non => some false
  | .bl b => some b
  | .int i => some (i != 0)
  | .str x => if x.length ≤ sizeLine then some ((x.length : Int) != 0) else none
  | .tup xs => some (!xs.isEmpty)
  | .frz xs => some (!xs.isEmpty)
  | .ref n => match h[n]? with
    | some (.lst _ xs) => some (!xs.isEmpty)
    | some (.dct _ false kvs) => some (!kvs.isEmpty)
    | _ => none
  | .exn _ _ => none
def tTru (m : ME) : MT := fun ρ h => (m ρ h).bind fun x h1 => match truW h1 x with
  | some b => .ok b h1
  | none => .stuck
theorem RVs.empty {K H R} {xs : List W} {vs : List V} (r : RVs K H R xs vs) : vs.isEmpty = xs.isEmpty := by cases r <;> rfl
theorem RD.empty {K H R} {xs vs} (r : RD K H R xs vs) : vs.isEmpty = xs.isEmpty := by cases r <;> rfl
theorem truW_ok {h : Hq} {R H} {x : W} {v : V} {k : Bool} (hh : RH X.K cm h R H) (r : RV X.K H R x v) (e : truW h x = some k) : TruV X.K v H k := by
  cases x with
  | non => cases r; exact (Option.some.inj e).symm
  | bl b => cases r; exact (Option.some.inj e).symm
  | int i => cases r; exact (Option.some.inj e).symm
  | str x =>
    cases r
    unfold truW at e
    dsimp only at e
    by_cases z : x.length ≤ sizeLine
    · rw [if_pos z] at e; exact ⟨z, (Option.some.inj e).symm⟩
    · rw [if_neg z] at e; cases e
  | tup xs => cases r with | tup s rs => exact .inr (.inl ⟨_, s, by rw [rs.empty]; exact (Option.some.inj e).symm⟩)
  | frz xs => cases r with | frz s rs => exact .inl ⟨_, s.sqL, by rw [rs.empty]; exact (Option.some.inj e).symm⟩
  | ref n =>
    cases r with
    | ref q =>
      unfold truW at e
      cases z : h[n]? with
      | none => simp [z] at e
      | some o =>
        have ro := hh.get q z
        cases o with
        | lst t ys => simp only [z, Option.some.injEq] at e; subst e; cases ro with | lst a b => exact .inl ⟨_, SqL.of a, by rw [b.empty]⟩
        | dct t c kvs =>
          cases c with
          | false => simp only [z, Option.some.injEq] at e; subst e; cases ro with | dK a b => exact .inr (.inr ⟨_, a, by rw [b.empty]⟩)
          | true => simp [z] at e
        | ins _ _ => simp [z] at e
  | exn a c => cases e
theorem qt_truth {a : Expr} {ma : ME} (ha : QE cm X Wx a ma) (he : ∀ whole, isTrue a X.env whole = (do let v ← whole; standAt a.pos; holding [v] (truthy v)) := by intro _; rfl) : QT cm X Wx a (tTru ma) := by
  obtain ⟨ta, pa, sa⟩ := ha
  refine ⟨_, pt_truth pa he, fun σ ρ h R H Q hρ hh p => ?_⟩
  refine sa σ ρ h R H _ hρ hh (Post.mono (Post.bind p) fun x h1 R1 H1 e1 x1 p1 => fun vx rx => ?_)
  cases z : truW h1 x with
  | some b => simp only [z] at p1; exact ⟨b, truW_ok x1 rx z, p1 R1 H1 Ext.refl x1⟩
  | none => simp only [z] at p1; exact p1.elim
def tAndM (a b : MT) : MT := fun ρ h => (a ρ h).bind fun k h1 => if k then b ρ h1 else .ok false h1
def tOrM (a b : MT) : MT := fun ρ h => (a ρ h).bind fun k h1 => if k then .ok true h1 else b ρ h1
def tNotM (a : MT) : MT := fun ρ h => (a ρ h).bind fun k h1 => .ok (!k) h1
theorem post_b {K cm R H EX Q} {b : Bool} {h : Hq} (p : Post K cm R H EX (OKb Q) (.ok b h)) (x : RH K cm h R H) : Q b H := p R H Ext.refl x
theorem qt_not {a : Expr} {ma : MT} {pos : Pos} (ha : QT cm X Wx a ma) (he : ∀ whole, isTrue (.UnaryOp .Not a pos) X.env whole = (do return !(← isTrue a X.env (eval a X.env))) := by intro _; rfl) : QT cm X Wx (.UnaryOp .Not a pos) (tNotM ma) := by
  obtain ⟨ta, pa, sa⟩ := ha
  refine ⟨_, pt_not pa, fun σ ρ h R H Q hρ hh p => ?_⟩
  exact sa σ ρ h R H _ hρ hh (Post.mono (Post.bind p) fun k h1 R1 H1 e1 x1 p1 => post_b p1 x1)
theorem qw_one {op : PySem.BoolOp} {a : Expr} {ma : MT} {pos : Pos} (h : ∀ t, PT X a t → PW X (.BoolOp op [a] pos) t) (ha : QT cm X Wx a ma) : QW cm X Wx (.BoolOp op [a] pos) ma := by
  obtain ⟨ta, pa, sa⟩ := ha
  exact ⟨_, h _ pa, sa⟩
theorem qw_and1 {a : Expr} {ma : MT} {pos : Pos} (ha : QT cm X Wx a ma) : QW cm X Wx (.BoolOp .And [a] pos) ma := qw_one (fun _ p => pw_and1 p) ha
theorem qw_or1 {a : Expr} {ma : MT} {pos : Pos} (ha : QT cm X Wx a ma) : QW cm X Wx (.BoolOp .Or [a] pos) ma := qw_one (fun _ p => pw_or1 p) ha
theorem qw_and {a b : Expr} {rest : List Expr} {ma mb : MT} {pos : Pos} (ha : QT cm X Wx a ma) (hb : QW cm X Wx (.BoolOp .And (b :: rest) pos) mb) : QW cm X Wx (.BoolOp .And (a :: b :: rest) pos) (tAndM ma mb) := by
  obtain ⟨ta, pa, sa⟩ := ha
  obtain ⟨tb, pb, sb⟩ := hb
  refine ⟨_, pw_and pa pb, fun σ ρ h R H Q hρ hh p => ?_⟩
  refine sa σ ρ h R H _ hρ hh (Post.mono (Post.bind p) fun k h1 R1 H1 e1 x1 p1 => ?_)
  cases k with
  | true => exact sb σ ρ h1 R1 H1 _ (hρ.ext e1) x1 p1
  | false => exact post_b p1 x1
theorem qw_or {a b : Expr} {rest : List Expr} {ma mb : MT} {pos : Pos} (ha : QT cm X Wx a ma) (hb : QW cm X Wx (.BoolOp .Or (b :: rest) pos) mb) : QW cm X Wx (.BoolOp .Or (a :: b :: rest) pos) (tOrM ma mb) := by
  obtain ⟨ta, pa, sa⟩ := ha
  obtain ⟨tb, pb, sb⟩ := hb
  refine ⟨_, pw_or pa pb, fun σ ρ h R H Q hρ hh p => ?_⟩
  refine sa σ ρ h R H _ hρ hh (Post.mono (Post.bind p) fun k h1 R1 H1 e1 x1 p1 => ?_)
  cases k with
  | true => exact post_b p1 x1
  | false => exact sb σ ρ h1 R1 H1 _ (hρ.ext e1) x1 p1
theorem QW.pt {e : Expr} {m : MT} (h : QW cm X Wx e m) : QT cm X Wx e m := by
  obtain ⟨t, p, s⟩ := h
  exact ⟨t, p.pt, s⟩
/-- as values, of True and False -/
def eAnd (a b : ME) : ME := fun ρ h => (a ρ h).bind fun x h1 => match x with
  | .bl true => b ρ h1
  | .bl false => .ok (.bl false) h1
  | _ => .stuck
def eOr (a b : ME) : ME := fun ρ h => (a ρ h).bind fun x h1 => match x with
  | .bl true => .ok (.bl true) h1
  | .bl false => b ρ h1
  | _ => .stuck
def eNot (a : ME) : ME := fun ρ h => (a ρ h).bind fun x h1 => match x with
  | .bl k => .ok (.bl (!k)) h1
  | _ => .stuck
theorem qe_one {op : PySem.BoolOp} {a : Expr} {ma : ME} {pos : Pos} (ha : QE cm X Wx a ma) : QE cm X Wx (.BoolOp op [a] pos) ma := by
  obtain ⟨ta, pa, sa⟩ := ha
  exact ⟨_, pe_one pa, sa⟩
theorem qe_and {a b : Expr} {rest : List Expr} {ma mb : ME} {pos : Pos} (ha : QE cm X Wx a ma) (hb : QE cm X Wx (.BoolOp .And (b :: rest) pos) mb) : QE cm X Wx (.BoolOp .And (a :: b :: rest) pos) (eAnd ma mb) := by
  obtain ⟨ta, pa, sa⟩ := ha
  obtain ⟨tb, pb, sb⟩ := hb
  refine ⟨_, pe_and pa pb, fun σ ρ h R H Q hρ hh p => ?_⟩
  refine sa σ ρ h R H _ hρ hh (Post.mono (Post.bind p) fun x h1 R1 H1 e1 x1 p1 => fun vx rx => ?_)
  cases x with
  | bl k =>
    cases rx
    refine ⟨k, rfl, ?_⟩
    cases k with
    | true => exact sb σ ρ h1 R1 H1 _ (hρ.ext e1) x1 p1
    | false => exact post_v p1 x1 (.bl false)
  | _ => exact p1.elim
theorem qe_or {a b : Expr} {rest : List Expr} {ma mb : ME} {pos : Pos} (ha : QE cm X Wx a ma) (hb : QE cm X Wx (.BoolOp .Or (b :: rest) pos) mb) : QE cm X Wx (.BoolOp .Or (a :: b :: rest) pos) (eOr ma mb) := by
  obtain ⟨ta, pa, sa⟩ := ha
  obtain ⟨tb, pb, sb⟩ := hb
  refine ⟨_, pe_or pa pb, fun σ ρ h R H Q hρ hh p => ?_⟩
  refine sa σ ρ h R H _ hρ hh (Post.mono (Post.bind p) fun x h1 R1 H1 e1 x1 p1 => fun vx rx => ?_)
  cases x with
  | bl k =>
    cases rx
    refine ⟨k, rfl, ?_⟩
    cases k with
    | true => exact post_v p1 x1 (.bl true)
    | false => exact sb σ ρ h1 R1 H1 _ (hρ.ext e1) x1 p1
  | _ => exact p1.elim
theorem qe_not {a : Expr} {ma : ME} {pos : Pos} (ha : QE cm X Wx a ma) : QE cm X Wx (.UnaryOp .Not a pos) (eNot ma) := by
  obtain ⟨ta, pa, sa⟩ := ha
  refine ⟨_, pe_not pa, fun σ ρ h R H Q hρ hh p => ?_⟩
  refine sa σ ρ h R H _ hρ hh (Post.mono (Post.bind p) fun x h1 R1 H1 e1 x1 p1 => fun vx rx => ?_)
  cases x with
  | bl k => cases rx; exact ⟨k, rfl, post_v p1 x1 (.bl _)⟩
  | _ => exact p1.elim
end
end Z

/-! Q: arguments, displays, calls of built-ins, subscripts, statements, loops, defs. -/
namespace Z
open PySem PySem.Spec PyProof.Rows L2
section
variable {cm : Str → Addr} {X : Cx} {Wx : WX}

/-! ### argument lists, displays -/
def aNil : MA := fun _ h => .ok [] h
def aCons (a : ME) (r : MA) : MA := fun ρ h => (a ρ h).bind fun x h1 => (r ρ h1).bind fun xs h2 => .ok (x :: xs) h2
structure QAn (cm : Str → Addr) (X : Cx) (Wx : WX) (es : List Expr) (m : MA) : Prop where
  q : QA cm X Wx es m
  len : ∀ ρ h ws h', m ρ h = .ok ws h' → ws.length = es.length
theorem qa_nil : QAn cm X Wx [] aNil := ⟨⟨_, pa_nil, fun _ _ h R H Q _ hh p => p R H Ext.refl hh [] .nil⟩, fun _ _ _ _ e => by cases e; rfl⟩
theorem qa_cons {e : Expr} {es : List Expr} {m : ME} {r : MA} (ha : QE cm X Wx e m) (hr : QAn cm X Wx es r) (hs : starEach (e :: es) X.env = (false, eval e X.env) :: starEach es X.env := by rfl) : QAn cm X Wx (e :: es) (aCons m r) := by
  obtain ⟨ta, pa, sa⟩ := ha
  obtain ⟨⟨tr, pr, sr⟩, hl⟩ := hr
  refine ⟨⟨_, pa_cons pa pr hs, fun σ ρ h R H Q hρ hh p => ?_⟩, fun ρ h ws h' e => ?_⟩
  · refine sa σ ρ h R H _ hρ hh (Post.mono (Post.bind p) fun x h1 R1 H1 e1 x1 p1 => fun vx rx => ?_)
    refine sr σ ρ h1 R1 H1 _ (hρ.ext e1) x1 (Post.mono (Post.bind p1) fun xs h2 R2 H2 e2 x2 p2 => fun vs rs => ?_)
    exact p2 R2 H2 Ext.refl x2 _ (.cons (RV.ext e2 _ _ rx) rs)
  · unfold aCons at e
    cases q1 : m ρ h with
    | ok x h1 =>
      rw [q1] at e
      cases q2 : r ρ h1 with
      | ok xs h2 =>
        have e' : Res.ok (x :: xs) h2 = Res.ok ws h' := by simpa only [Res.bind, q2] using e
        cases e'
        rw [List.length_cons, hl _ _ _ _ q2]; rfl
      | exc c h2 => simp [Res.bind, q2] at e
      | stuck => simp [Res.bind, q2] at e
    | exc c h1 => rw [q1] at e; cases e
    | stuck => rw [q1] at e; cases e
def eTup (a : MA) : ME := fun ρ h => (a ρ h).bind fun xs h1 => .ok (.tup xs) h1
theorem q_tup {es : List Expr} {m : MA} {pos : Pos} {x1} (ha : QAn cm X Wx es m) (hl : es.length ≤ sizeLine := by decide) : QE cm X Wx (.Tuple es x1 pos) (eTup m) := by
  obtain ⟨⟨t, p, s⟩, hn⟩ := ha
  refine ⟨_, pe_tup p, fun σ ρ h R H Q hρ hh pp => ?_⟩
  have pp' := Post.bind pp
  have key : ∀ (r : Res (List W)), (∀ ws h', r = .ok ws h' → ws.length = es.length) → Post X.K cm R H (EXw cm Wx σ) (fun a h1 R1 H1 => Post X.K cm R1 H1 (EXw cm Wx σ) (OKv X.K Q) (.ok (.tup a) h1)) r →
      Post X.K cm R H (EXw cm Wx σ) (OKs X.K (fun xs H1 => xs.length ≤ sizeLine ∧ ∀ q, H1 q = none → Q (.ref q) (upd H1 q (.tup xs)))) r := fun r hr pr => by
    cases r with
    | ok a h1 => exact fun R1 H1 e1 x1 vs rs => ⟨by rw [← rs.length, hr a h1 rfl]; exact hl, fun q hq => post_tup (pr R1 H1 e1 x1) x1 rs hq⟩
    | exc c h1 => exact pr
    | stuck => exact pr
  exact s σ ρ h R H _ hρ hh (key _ (fun ws h' e => hn ρ h ws h' e) pp')
def eLst (t : Nat) (a : MA) : ME := fun ρ h => (a ρ h).bind fun xs h1 => mkL t xs h1
theorem q_lst {t : Nat} {es : List Expr} {m : MA} {pos : Pos} (ha : QAn cm X Wx es m) (hl : es.length ≤ sizeLine := by decide) : QE cm X Wx (.List es pos) (eLst t m) := by
  obtain ⟨⟨tt, p, s⟩, hn⟩ := ha
  refine ⟨_, pe_lst p, fun σ ρ h R H Q hρ hh pp => ?_⟩
  have pp' := Post.bind pp
  have key : ∀ (r : Res (List W)), (∀ ws h', r = .ok ws h' → ws.length = es.length) → Post X.K cm R H (EXw cm Wx σ) (fun a h1 R1 H1 => Post X.K cm R1 H1 (EXw cm Wx σ) (OKv X.K Q) (mkL t a h1)) r →
      Post X.K cm R H (EXw cm Wx σ) (OKs X.K (fun xs H1 => xs.length ≤ sizeLine ∧ ∀ q, H1 q = none → Q (.ref q) (upd H1 q (.lst xs)))) r := fun r hr pr => by
    cases r with
    | ok a h1 => exact fun R1 H1 e1 x1 vs rs => ⟨by rw [← rs.length, hr a h1 rfl]; exact hl, fun q hq => post_lst (pr R1 H1 e1 x1) x1 rs hq⟩
    | exc c h1 => exact pr
    | stuck => exact pr
  exact s σ ρ h R H _ hρ hh (key _ (fun ws h' e => hn ρ h ws h' e) pp')

/-! ### calls of built-ins by values -/
def QCl (cm : Str → Addr) (X : Cx) (r : List V → Hp → VK → Prop) (f : MF) : Prop := ∀ (EX : Str → Hp → Prop) h R H xs vs Q, RH X.K cm h R H → RVs X.K H R xs vs → Post X.K cm R H EX (OKv X.K Q) (f xs h) → r vs H Q
def eCB (f : MF) (a : MA) : ME := fun ρ h => (a ρ h).bind fun xs h1 => f xs h1
theorem cb_ok {t : TA} {m : MA} {r : List V → Hp → VK → Prop} {f : MF} (hf : QCl cm X r f) (s : ∀ σ ρ h R H Q, REnv X.K H R ρ σ → RH X.K cm h R H → Post X.K cm R H (EXw cm Wx σ) (OKs X.K Q) (m ρ h) → t σ H Q) :
    ∀ σ ρ h R H Q, REnv X.K H R ρ σ → RH X.K cm h R H → Post X.K cm R H (EXw cm Wx σ) (OKv X.K Q) (eCB f m ρ h) → tCB r t σ H Q := fun σ ρ h R H Q hρ hh p =>
  s σ ρ h R H _ hρ hh (Post.mono (Post.bind p) fun xs h1 R1 H1 e1 x1 p1 => fun vs rs => hf _ _ _ _ _ _ _ x1 rs p1)
theorem q_cb {x : Str} {p pos : Pos} {e : Expr} {es : List Expr} {id : String} {r : List V → Hp → VK → Prop} {f : MF} {m : MA} (hc : CallR X (.builtin id) r) (hf : QCl cm X r f) (hg : Gl X x) (hm : X.mg x = none) (hv : bootBuiltins x = some (.builtin id)) (ha : QAn cm X Wx (e :: es) m) (hn : x ≠ "__name__" := by decide) (hdb : (x == ("__debug__" : Str)) = false := by decide) (he : starEach (e :: es) X.env = (false, eval e X.env) :: starEach es X.env := by rfl) (hpl : (backTo pos (starEach es X.env)).any (·.1) = false := by rfl) :
    QE cm X Wx (.Call (.Name x p) (e :: es) [] pos) (eCB f m) := by
  obtain ⟨⟨t, pa, s⟩, _⟩ := ha
  exact ⟨_, pe_callB hc hg hm hv pa hn hdb he hpl, cb_ok hf s⟩
theorem q_cty {x : Str} {p pos : Pos} {e : Expr} {es : List Expr} {T : String} {r : List V → Hp → VK → Prop} {f : MF} {m : MA} (hc : CallR X (.type T) r) (hf : QCl cm X r f) (hg : Gl X x) (hm : X.mg x = none) (hv : bootBuiltins x = some (.type T)) (ha : QAn cm X Wx (e :: es) m) (hn : x ≠ "__name__" := by decide) (hdb : (x == ("__debug__" : Str)) = false := by decide) (he : starEach (e :: es) X.env = (false, eval e X.env) :: starEach es X.env := by rfl) (hpl : (backTo pos (starEach es X.env)).any (·.1) = false := by rfl) :
    QE cm X Wx (.Call (.Name x p) (e :: es) [] pos) (eCB f m) := by
  obtain ⟨⟨t, pa, s⟩, _⟩ := ha
  exact ⟨_, pe_callTy hc hg hm hv pa hn hdb he hpl, cb_ok hf s⟩
/-- len -/
def lenW : MF := fun xs h => match xs with
  | [.str x] => if x.length ≤ sizeLine then .ok (.int x.length) h else .stuck
  | [.tup ys] => .ok (.int ys.length) h
  | [.frz ys] => .ok (.int ys.length) h
  | [.ref n] => match h[n]? with
    | some (.lst _ ys) => .ok (.int ys.length) h
    | some (.dct _ false kvs) => .ok (.int kvs.length) h
    | _ => .stuck
  | _ => .stuck
theorem RD.length {K H R} {xs vs} (r : RD K H R xs vs) : xs.length = vs.length := by
  induction r with
  | nil => rfl
  | cons _ _ _ ih => simp [ih]
theorem RT.length {K H R} {xs vs} (r : RT K H R xs vs) : xs.length = vs.length := by
  induction r with
  | nil => rfl
  | cons _ _ _ ih => simp [ih]
theorem call_lenW : CallR X (.builtin "len") (fun xs H Q => (∃ x n, xs = [x] ∧ LenV X.K x H n ∧ Q (.int n) H) ∨ ∃ a kvs, xs = [V.ref a] ∧ H a = some (.dK kvs) ∧ Q (.int kvs.length) H) := CallR.or call_len call_lenD
theorem q_lenW : QCl cm X (fun xs H Q => (∃ x n, xs = [x] ∧ LenV X.K x H n ∧ Q (.int n) H) ∨ ∃ a kvs, xs = [V.ref a] ∧ H a = some (.dK kvs) ∧ Q (.int kvs.length) H) lenW := by
  intro EX h R H xs vs Q hh rs p
  unfold lenW at p
  split at p
  · rename_i x
    cases rs with | cons a b =>
    cases a; cases b
    split at p
    · rename_i z; exact .inl ⟨_, x.length, rfl, ⟨z, rfl⟩, post_v p hh (.int _)⟩
    · exact p.elim
  · rename_i ys
    cases rs with | cons a b =>
    cases b
    cases a with
    | tup s r => exact .inl ⟨_, ys.length, rfl, .inr ⟨_, s, r.length⟩, post_v p hh (.int _)⟩
  · rename_i ys
    cases rs with | cons a b =>
    cases b
    cases a with
    | frz s r => exact .inl ⟨_, ys.length, rfl, .inl ⟨_, s.sqL, r.length⟩, post_v p hh (.int _)⟩
  · rename_i n
    cases rs with | cons a b =>
    cases b
    cases a with
    | ref q =>
      cases z : h[n]? with
      | none => simp only [z] at p; exact p.elim
      | some o =>
        have ro := hh.get q z
        simp only [z] at p
        cases o with
        | lst t ys => cases ro with | lst a b => exact .inl ⟨_, ys.length, rfl, .inl ⟨_, SqL.of a, b.length⟩, post_v p hh (.int _)⟩
        | dct t c kvs =>
          cases c with
          | false => cases ro with | dK a b => exact .inr ⟨_, _, rfl, a, by rw [← b.length]; exact post_v p hh (.int _)⟩
          | true => exact p.elim
        | ins _ _ => exact p.elim
  · exact p.elim
def absW : MF := fun xs h => match xs with
  | [.int i] => .ok (.int (if i < 0 then -i else i)) h
  | _ => .stuck
theorem q_absW : QCl cm X (fun xs H Q => ∃ i, xs = [.int i] ∧ Q (.int (if i < 0 then -i else i)) H) absW := by
  intro EX h R H xs vs Q hh rs p
  unfold absW at p
  split at p
  · cases rs with | cons a b => cases a; cases b; exact ⟨_, rfl, post_v p hh (.int _)⟩
  · exact p.elim
def max2W : MF := fun xs h => match xs with
  | [.int i, .int j] => .ok (.int (if j > i then j else i)) h
  | _ => .stuck
theorem q_max2W : QCl cm X (fun xs H Q => ∃ i j, xs = [.int i, .int j] ∧ Q (.int (if j > i then j else i)) H) max2W := by
  intro EX h R H xs vs Q hh rs p
  unfold max2W at p
  split at p
  · cases rs with | cons a b => cases a; cases b with | cons a b => cases a; cases b; exact ⟨_, _, rfl, post_v p hh (.int _)⟩
  · exact p.elim
def min2W : MF := fun xs h => match xs with
  | [.int i, .int j] => .ok (.int (if j < i then j else i)) h
  | _ => .stuck
theorem q_min2W : QCl cm X (fun xs H Q => ∃ i j, xs = [.int i, .int j] ∧ Q (.int (if j < i then j else i)) H) min2W := by
  intro EX h R H xs vs Q hh rs p
  unfold min2W at p
  split at p
  · cases rs with | cons a b => cases a; cases b with | cons a b => cases a; cases b; exact ⟨_, _, rfl, post_v p hh (.int _)⟩
  · exact p.elim
def intcW : MF := fun xs h => match xs with
  | [.int i] => .ok (.int i) h
  | [.bl k] => .ok (.int (if k then 1 else 0)) h
  | _ => .stuck
theorem q_intcW : QCl cm X (fun xs H Q => (∃ i, xs = [.int i] ∧ Q (.int i) H) ∨ ∃ k, xs = [.bl k] ∧ Q (.int (if k then 1 else 0)) H) intcW := by
  intro EX h R H xs vs Q hh rs p
  unfold intcW at p
  split at p
  · cases rs with | cons a b => cases a; cases b; exact .inl ⟨_, rfl, post_v p hh (.int _)⟩
  · cases rs with | cons a b => cases a; cases b; exact .inr ⟨_, rfl, post_v p hh (.int _)⟩
  · exact p.elim
def ordcW : MF := fun xs h => match xs with
  | [.str x] => if x.length = 1 then .ok (.int (x.cps.getD 0 0 : Nat)) h else .stuck
  | _ => .stuck
theorem q_ordcW : QCl cm X (fun xs H Q => ∃ x, xs = [.str x] ∧ x.length = 1 ∧ Q (.int (x.cps.getD 0 0 : Nat)) H) ordcW := by
  intro EX h R H xs vs Q hh rs p
  unfold ordcW at p
  split at p
  · cases rs with | cons a b =>
    cases a; cases b
    split at p
    · rename_i z; exact ⟨_, rfl, z, post_v p hh (.int _)⟩
    · exact p.elim
  · exact p.elim

/-! ### isinstance, of a built-in class or an own class -/
/-- the type of a value; own: which classes' instances may be asked -/
def tyW (h : Hq) : W → Option (String ⊕ Str)
  | .non => some (.inl "NoneType")
  | .bl _ => some (.inl "bool")
  | .int _ => some (.inl "int")
  | .str _ => some (.inl "str")
  | .tup _ => some (.inl "tuple")
  | .frz _ => some (.inl "list")
  | .ref n => match h[n]? with
    | some (.lst _ _) => some (.inl "list")
    | some (.dct _ _ _) => some (.inl "dict")
    | some (.ins c _) => some (.inr c)
    | none => none
  | .exn _ _ => none
def isiW (T : String) (a : ME) : ME := fun ρ h => (a ρ h).bind fun x h1 => match tyW h1 x with
  | some (.inl s) => match kitB s T with
    | some b => .ok (.bl b) h1
    | none => .stuck
  | some (.inr _) => if isiTs.contains T then .ok (.bl false) h1 else .stuck
  | none => .stuck
theorem tyW_ok {h : Hq} {R H} {x : W} {v : V} {s : String} (hh : RH X.K cm h R H) (r : RV X.K H R x v) (e : tyW h x = some (.inl s)) : TyX X.K H v (.type s) := by
  cases x with
  | non => cases r; cases e; exact .base .non
  | bl b => cases r; cases e; exact .base (.bl _)
  | int i => cases r; cases e; exact .base (.int _)
  | str i => cases r; cases e; exact .base (.str _)
  | tup xs =>
    cases e
    cases r with
    | tup sq rs =>
      rcases sq with (sq | ⟨o, sq⟩) | ⟨o, its, n, hk, hc, _⟩
      · exact .base (.tup sq)
      · exact .fTuple sq
      · exact .kTuple hk hc
  | frz xs =>
    cases e
    cases r with
    | frz s rs =>
      rcases s with ⟨o, s⟩ | ⟨o, its, n, hk, hc, _⟩
      · exact .base (.frz s)
      · exact .kList hk hc
  | ref n =>
    cases r with
    | ref q =>
      unfold tyW at e
      cases z : h[n]? with
      | none => simp [z] at e
      | some o =>
        have ro := hh.get q z
        simp only [z] at e
        cases o with
        | lst t ys => cases e; cases ro with | lst a b => exact .base (.lst a)
        | dct t c kvs =>
          cases e
          cases c with
          | false => cases ro with | dK a b => exact .base (.dK a)
          | true => cases ro with | dT a b => exact .base (.dT a)
        | ins _ _ => cases e
  | exn a c => cases e
theorem q_isi {T : String} {e : Expr} {m : ME} {x y : Str} {p py pos : Pos} (hg : Gl X x) (hm : X.mg x = none) (hv : bootBuiltins x = some (.builtin "isinstance"))
    (hgy : Gl X y) (hmy : X.mg y = none) (hvy : bootBuiltins y = some (.type T)) (ha : QE cm X Wx e m) (hny : y ≠ "__name__" := by decide) (hd : (y == ("__debug__" : Str)) = false := by decide)
    (hs1 : starEach [e, .Name y py] X.env = (false, eval e X.env) :: starEach [.Name y py] X.env := by rfl) (hs2 : starEach [.Name y py] X.env = (false, eval (.Name y py) X.env) :: starEach [] X.env := by rfl)
    (hnx : x ≠ "__name__" := by decide) (hdx : (x == ("__debug__" : Str)) = false := by decide) (hpl : (backTo pos (starEach [.Name y py] X.env)).any (·.1) = false := by rfl) :
    QE cm X Wx (.Call (.Name x p) [e, .Name y py] [] pos) (isiW T m) := by
  obtain ⟨ta, pa, sa⟩ := ha
  refine ⟨_, pe_callB call_isi hg hm hv (pa_cons pa (pa_cons (pe_bltn (v := .ty T) hgy hmy hvy rfl hny hd) pa_nil hs2) hs1) hnx hdx hs1 hpl, fun σ ρ h R H Q hρ hh p => ?_⟩
  refine sa σ ρ h R H _ hρ hh (Post.mono (Post.bind p) fun w h1 R1 H1 e1 x1 p1 => fun v r => ?_)
  cases z : tyW h1 w with
  | none => simp only [z] at p1; exact p1.elim
  | some k =>
    simp only [z] at p1
    cases k with
    | inl s =>
      dsimp only at p1
      cases z2 : kitB s T with
      | none => simp only [z2] at p1; exact p1.elim
      | some b =>
        simp only [z2] at p1
        exact ⟨v, .ty T, _, _, b, rfl, .ty T, tyW_ok x1 r z, kit_ty z2, post_v p1 x1 (.bl b)⟩
    | inr c =>
      dsimp only at p1
      split at p1
      · rename_i hc
        have hc' : T ∈ isiTs := by simpa using hc
        cases w with
        | ref n =>
          cases r with
          | ref q =>
            unfold tyW at z
            cases zz : h1[n]? with
            | none => simp [zz] at z
            | some o =>
              simp only [zz] at z
              cases o with
              | ins c' fs =>
                simp only [Option.some.injEq, Sum.inr.injEq] at z
                subst z
                cases x1.get q zz with
                | ins a b I => exact ⟨_, .ty T, _, _, false, rfl, .ty T, .base (.ins a I.cl I.ha I.hn I.htk I.hm), I.no T hc', post_v p1 x1 (.bl false)⟩
              | _ => cases z
        | _ => cases z
      · exact p1.elim

/-! ### subscripts -/
theorem atI_rv {K H R} {ws : List W} {vs : List V} {i : Int} {w : W} (r : RVs K H R ws vs) (e : atI ws i = some w) : ∃ v, atI vs i = some v ∧ RV K H R w v := by
  unfold atI at e ⊢
  rw [← r.length]
  cases q : ixN ws.length i with
  | none => rw [q] at e; cases e
  | some j =>
    rw [q] at e
    obtain ⟨v, a, b⟩ := r.get e
    exact ⟨v, a, b⟩
def ixW : F2 := fun x y h => match x, y with
  | .tup xs, .int i => match atI xs i with
    | some w => .ok w h
    | none => .stuck
  | .str z, .int i => if z.length ≤ sizeLine then (match atI z.cps.toList i with
    | some c => .ok (.str ⟨#[c]⟩) h
    | none => .stuck) else .stuck
  | x, .int i => match asL h x with
    | some xs => match atI xs i with
      | some w => .ok w h
      | none => .stuck
    | none => .stuck
  | _, _ => .stuck
theorem q_ixW : QOp cm X (rIx X.K) ixW := by
  intro EX h R H x y vx vy Q hh rx ry p
  unfold ixW at p
  split at p
  · rename_i xs i
    cases ry
    cases rx with
    | tup s r =>
      split at p
      · rename_i w e
        obtain ⟨v, a, b⟩ := atI_rv r e
        exact .inr (.inl ⟨_, _, i, v, rfl, rfl, s, a, post_v p hh b⟩)
      · exact p.elim
  · rename_i z i
    cases ry; cases rx
    split at p
    · rename_i hz
      split at p
      · rename_i c e; exact .inr (.inr ⟨z, i, c, rfl, rfl, hz, e, post_v p hh (.str _)⟩)
      · exact p.elim
    · exact p.elim
  · rename_i n i _ _
    cases ry
    split at p
    · rename_i xs e0
      split at p
      · rename_i w e
        obtain ⟨a, vs, rfl, s, r⟩ := asL_ok hh rx e0
        obtain ⟨v, q, b⟩ := atI_rv r e
        exact .inl ⟨a, vs, i, v, rfl, rfl, s, q, post_v p hh b⟩
      · exact p.elim
    · exact p.elim
  · exact p.elim
theorem q_ix {a b : Expr} {ma mb : ME} {pos : Pos} (ha : QE cm X Wx a ma) (hb : QE cm X Wx b mb) (hs : PlainIx b := by intro _ _; rfl) : QE cm X Wx (.Subscript a b pos) (eBin ixW ma mb) := by
  obtain ⟨ta, pa, sa⟩ := ha
  obtain ⟨tb, pb, sb⟩ := hb
  exact ⟨_, pe_ix ix_seq pa pb hs, bin_ok q_ixW sa sb⟩
/-- slices -/
abbrev MO := Ev → Hq → Res (Option Int)
def oNone : MO := fun _ h => .ok none h
def oSome (a : ME) : MO := fun ρ h => (a ρ h).bind fun x h1 => match x with
  | .int i => .ok (some i) h1
  | _ => .stuck
def QO (cm : Str → Addr) (X : Cx) (Wx : WX) (e : Option Expr) (m : MO) : Prop := ∃ t, PO X e t ∧ ∀ σ ρ h R H Q, REnv X.K H R ρ σ → RH X.K cm h R H → Post X.K cm R H (EXw cm Wx σ) (fun o _ _ H' => Q o H') (m ρ h) → t σ H Q
theorem qo_none : QO cm X Wx none oNone := ⟨_, po_none, fun σ ρ h R H Q _ hh p => p R H Ext.refl hh⟩
theorem qo_some {e : Expr} {m : ME} (ha : QE cm X Wx e m) : QO cm X Wx (some e) (oSome m) := by
  obtain ⟨t, p, s⟩ := ha
  refine ⟨_, po_some p, fun σ ρ h R H Q hρ hh pp => ?_⟩
  refine s σ ρ h R H _ hρ hh (Post.mono (Post.bind pp) fun x h1 R1 H1 e1 x1 p1 => fun v r => ?_)
  cases x with
  | int i => cases r; exact ⟨i, rfl, p1 R1 H1 Ext.refl x1⟩
  | _ => exact p1.elim
def cutL {α : Type} (xs : List α) (lo hi : Option Int) : List α := (xs.drop (HT.sIx xs.length 0 lo)).take (HT.sIx xs.length xs.length hi - HT.sIx xs.length 0 lo)
def slW (t : Nat) (x : W) (lo hi : Option Int) (h : Hq) : Res W := match x with
  | .tup xs => .ok (.tup (cutL xs lo hi)) h
  | .str z => if z.length ≤ sizeLine then .ok (.str (cutS z lo hi)) h else .stuck
  | x => match asL h x with
    | some xs => mkL t (cutL xs lo hi) h
    | none => .stuck
def eSl (t : Nat) (a : ME) (lo hi : MO) : ME := fun ρ h => (a ρ h).bind fun x h1 => (lo ρ h1).bind fun l h2 => (hi ρ h2).bind fun u h3 => slW t x l u h3
theorem sl_any : SlR X (fun x lo hi H Q => rSlL X.K x lo hi H Q ∨ (rSlS x lo hi H Q ∨ rSlA X.K x lo hi H Q)) := SlR.or sl_list (SlR.or sl_str sl_tupA)
theorem cut_rv {K H R} {ws : List W} {vs : List V} (r : RVs K H R ws vs) (lo hi : Option Int) : RVs K H R (cutL ws lo hi) (cutV vs lo hi) := by
  unfold cutL cutV
  rw [r.length]
  exact (r.drop _).take _
theorem cut_all {α : Type} {xs : List α} {lo hi : Option Int} (h : HT.sIx xs.length 0 lo = 0 ∧ HT.sIx xs.length xs.length hi = xs.length) : cutL xs lo hi = xs := by
  unfold cutL
  rw [h.1, h.2]; simp
theorem q_sl {t : Nat} {a : Expr} {lo hi : Option Expr} {ma : ME} {ml mh : MO} {p2 pos : Pos} (ha : QE cm X Wx a ma) (hl : QO cm X Wx lo ml) (hu : QO cm X Wx hi mh) : QE cm X Wx (.Subscript a (.Slice lo hi none p2) pos) (eSl t ma ml mh) := by
  obtain ⟨ta, pa, sa⟩ := ha
  obtain ⟨tl, pl, sl⟩ := hl
  obtain ⟨tu, pu, su⟩ := hu
  refine ⟨_, pe_slice sl_any pa pl pu, fun σ ρ h R H Q hρ hh p => ?_⟩
  refine sa σ ρ h R H _ hρ hh (Post.mono (Post.bind p) fun x h1 R1 H1 e1 x1 p1 => fun vx rx => ?_)
  refine sl σ ρ h1 R1 H1 _ (hρ.ext e1) x1 (Post.mono (Post.bind p1) fun l h2 R2 H2 e2 x2 p2 => ?_)
  refine su σ ρ h2 R2 H2 _ ((hρ.ext e1).ext e2) x2 (Post.mono (Post.bind p2) fun u h3 R3 H3 e3 x3 p3 => ?_)
  have r := RV.ext (e2.trans e3 x3.nd) _ _ rx
  unfold slW at p3
  split at p3
  · rename_i xs
    cases r with
    | tup s rs =>
      refine .inr (.inr ⟨_, _, rfl, s, fun e => ?_, fun e q hq => post_tup p3 x3 (cut_rv rs l u) hq⟩)
      rw [← rs.length] at e
      rw [cut_all e] at p3
      exact post_v p3 x3 (.tup s rs)
  · rename_i z
    cases r
    split at p3
    · rename_i hz; exact .inr (.inl ⟨z, rfl, hz, post_v p3 x3 (.str _)⟩)
    · exact p3.elim
  · split at p3
    · rename_i xs e0
      obtain ⟨a, vs, rfl, s, rs⟩ := asL_ok x3 r e0
      exact .inl ⟨a, vs, rfl, s, fun q hq => post_lst p3 x3 (cut_rv rs l u) hq⟩
    · exact p3.elim

/-! ### statements -/
def thenS (r : RS) (f : Ev → Hq → RS) : RS := match r with
  | .ok .nx ρ h => f ρ h
  | r => r
def sNop : MS := fun ρ h => .ok .nx ρ h
def sSeq (a b : MS) : MS := fun ρ h => thenS (a ρ h) b
theorem PostS.then_ {R H D} {r : RS} {f : Ev → Hq → RS} {u : TS} (h : PostS cm X Wx R H D (thenS r f)) (hu : ∀ σ ρ h R H D, REnv X.K H R ρ σ → RH X.K cm h R H → PostS cm X Wx R H D (f ρ h) → u D σ H) :
    PostS cm X Wx R H { D with nx := u D } r := by
  cases r with
  | ok fl ρ h1 =>
    cases fl with
    | nx => exact fun R' H' σ' e x rr => hu σ' ρ h1 R' H' D rr x (PostS.from_ e h)
    | bk => exact h
    | ct => exact h
    | rt w => exact h
  | exc c ρ h1 => exact h
  | stuck => exact h
theorem qb_nil : QB cm X Wx [] sNop := ⟨_, pss_nil, fun σ ρ h R H D hρ hh p => p R H σ Ext.refl hh hρ⟩
theorem qb_cons {st : Stmt} {rest : List Stmt} {a b : MS} (h1 : QS cm X Wx st a) (h2 : QB cm X Wx rest b) : QB cm X Wx (st :: rest) (sSeq a b) := by
  obtain ⟨t, p, s⟩ := h1
  obtain ⟨u, q, v⟩ := h2
  exact ⟨_, pss_cons p q, fun σ ρ h R H D hρ hh pp => s σ ρ h R H _ hρ hh (PostS.then_ pp v)⟩
theorem qb_one {st : Stmt} {a : MS} (h1 : QS cm X Wx st a) : QB cm X Wx [st] a := by
  obtain ⟨t, p, s⟩ := h1
  exact ⟨_, pss_one p, s⟩
def sExpr (a : ME) : MS := fun ρ h => (a ρ h).toS ρ fun _ h1 => .ok .nx ρ h1
theorem qs_expr {e : Expr} {m : ME} {pos : Pos} (he : QE cm X Wx e m) (hs : swapsWith e none pos.line X.env = pure false := by rfl) : QS cm X Wx (.Expr e pos) (sExpr m) := by
  obtain ⟨t, p, s⟩ := he
  refine ⟨_, ps_expr p hs, fun σ ρ h R H D hρ hh pp => ?_⟩
  exact s σ ρ h R H _ hρ hh (Post.mono (PostS.toS hρ pp) fun a h1 R1 H1 e1 x1 p1 => fun v r => p1 R1 H1 σ Ext.refl x1 (hρ.ext e1))
theorem qs_doc {x j pos pos'} : QS cm X Wx (.Expr (.Constant (.str x) j pos) pos') sNop := ⟨_, ps_doc, fun σ ρ h R H D hρ hh p => p R H σ Ext.refl hh hρ⟩
def sRet (a : ME) : MS := fun ρ h => (a ρ h).toS ρ fun w h1 => .ok (.rt w) ρ h1
theorem qs_ret {e : Expr} {m : ME} {pos : Pos} (he : QE cm X Wx e m) : QS cm X Wx (.Return (some e) pos) (sRet m) := by
  obtain ⟨t, p, s⟩ := he
  refine ⟨_, ps_ret p, fun σ ρ h R H D hρ hh pp => ?_⟩
  exact s σ ρ h R H _ hρ hh (Post.mono (PostS.toS hρ pp) fun a h1 R1 H1 e1 x1 p1 => fun v r => p1 R1 H1 σ Ext.refl x1 (hρ.ext e1) v r)
def sRetN : MS := fun ρ h => .ok (.rt .non) ρ h
theorem qs_retN {pos : Pos} : QS cm X Wx (.Return none pos) sRetN := ⟨_, ps_retN, fun σ ρ h R H D hρ hh p => p R H σ Ext.refl hh hρ _ .non⟩
theorem qs_pass {pos : Pos} : QS cm X Wx (.Pass pos) sNop := ⟨_, ps_pass, fun σ ρ h R H D hρ hh p => p R H σ Ext.refl hh hρ⟩
def sBrk : MS := fun ρ h => .ok .bk ρ h
theorem qs_break {pos : Pos} : QS cm X Wx (.Break pos) sBrk := ⟨_, ps_break, fun σ ρ h R H D hρ hh p => p R H σ Ext.refl hh hρ⟩
def sCont : MS := fun ρ h => .ok .ct ρ h
theorem qs_continue {pos : Pos} : QS cm X Wx (.Continue pos) sCont := ⟨_, ps_continue, fun σ ρ h R H D hρ hh p => p R H σ Ext.refl hh hρ⟩
def sIf (c : MT) (a b : MS) : MS := fun ρ h => (c ρ h).toS ρ fun k h1 => if k then a ρ h1 else b ρ h1
theorem qs_if {c : Expr} {a b : List Stmt} {mc : MT} {ma mb : MS} {pos : Pos} (hc : QT cm X Wx c mc) (ha : QB cm X Wx a ma) (hb : QB cm X Wx b mb) : QS cm X Wx (.If c a b pos) (sIf mc ma mb) := by
  obtain ⟨tc, pc, sc⟩ := hc
  obtain ⟨ta, pa, sa⟩ := ha
  obtain ⟨tb, pb, sb⟩ := hb
  refine ⟨_, ps_if pc pa pb, fun σ ρ h R H D hρ hh pp => ?_⟩
  refine sc σ ρ h R H _ hρ hh (Post.mono (PostS.toS hρ pp) fun k h1 R1 H1 e1 x1 p1 => ?_)
  cases k with
  | true => exact sa σ ρ h1 R1 H1 D (hρ.ext e1) x1 p1
  | false => exact sb σ ρ h1 R1 H1 D (hρ.ext e1) x1 p1
/-! targets -/
abbrev MG := W → Ev → Option Ev
def QG (X : Cx) (tg : Expr) (g : MG) : Prop := ∃ t, PG X tg t ∧ ∀ σ ρ R H w v Q, REnv X.K H R ρ σ → RV X.K H R w v → (match g w ρ with
  | some ρ' => ∀ σ', REnv X.K H R ρ' σ' → Q σ' H
  | none => False) → t v σ H Q
def gN (i : Nat) : MG := fun w ρ => some (ρ.set i (some w))
theorem qg_name (i : Nat) {x : Str} {pos : Pos} (hN : X.N.Nodup) (hi : X.N[i]? = some x := by rfl) (hx : Loc X.env.scope x := by first | exact Or.inl rfl | exact Or.inr rfl) (hf : X.fn x = true ∨ X.env.scope.names.lookup x = some .local := by first | exact .inl rfl | exact .inr rfl | assumption) : QG X (.Name x pos) (gN i) :=
  ⟨_, pg_name hN hi hx hf, fun σ ρ R H w v Q hρ r p => p _ (hρ.set i r)⟩
abbrev MGs := List W → Ev → Option Ev
def QGs (X : Cx) (ts : List Expr) (g : MGs) : Prop := ∃ t, PGs X ts t ∧ ∀ σ ρ R H ws vs Q, REnv X.K H R ρ σ → RVs X.K H R ws vs → (match g ws ρ with
  | some ρ' => ∀ σ', REnv X.K H R ρ' σ' → Q σ' H
  | none => False) → t vs σ H Q
def gsNil : MGs := fun ws ρ => match ws with
  | [] => some ρ
  | _ => none
def gsCons (a : MG) (r : MGs) : MGs := fun ws ρ => match ws with
  | w :: ws => match a w ρ with
    | some ρ' => r ws ρ'
    | none => none
  | [] => none
theorem qgs_nil : QGs X [] gsNil := ⟨_, pgs_nil, fun σ ρ R H ws vs Q hρ r p => by
  cases r with
  | nil => exact ⟨rfl, p σ hρ⟩
  | cons _ _ => exact p.elim⟩
theorem qgs_cons {e : Expr} {es : List Expr} {a : MG} {r : MGs} (h1 : QG X e a) (h2 : QGs X es r) (hs : (assignEach (e :: es) X.env).map (·.2) = assign e X.env :: (assignEach es X.env).map (·.2) := by rfl) : QGs X (e :: es) (gsCons a r) := by
  obtain ⟨t, p, s⟩ := h1
  obtain ⟨u, q, v⟩ := h2
  refine ⟨_, pgs_cons p q hs, fun σ ρ R H ws vs Q hρ rr pp => ?_⟩
  cases rr with
  | nil => exact pp.elim
  | @cons x v1 xs vs x1 y =>
    refine ⟨_, _, rfl, s σ ρ R H x v1 _ hρ x1 ?_⟩
    have e : gsCons a r (x :: xs) ρ = (match a x ρ with
      | some ρ' => r xs ρ'
      | none => none) := rfl
    rw [e] at pp
    cases q2 : a x ρ with
    | some ρ' =>
      simp only [q2] at pp
      exact fun σ' hρ' => v σ' ρ' R H _ _ _ hρ' y pp
    | none => simp only [q2] at pp
def gT (n : Nat) (g : MGs) : MG := fun w ρ => match w with
  | .tup xs => if xs.length = n then g xs ρ else none
  | _ => none
theorem qg_tup {es : List Expr} {k : Nat} {g : MGs} {n : Nat} {pos : Pos} (hc : X.calm = true) (h : QGs X es g) (hn : (assignEach es X.env).length = n := by rfl) (hst : (assignEach es X.env).findIdx? (·.1) = none := by rfl) : QG X (.Tuple es k pos) (gT n g) := by
  obtain ⟨t, p, s⟩ := h
  refine ⟨_, pg_tup hc p hn hst, fun σ ρ R H w v Q hρ r pp => ?_⟩
  cases w with
  | tup xs =>
    cases r with
    | tup sq rs =>
      unfold gT at pp
      dsimp only at pp
      by_cases e : xs.length = n
      · rw [if_pos e] at pp
        exact ⟨_, _, rfl, sq, rs.length.symm.trans e, s σ ρ R H _ _ _ hρ rs pp⟩
      · rw [if_neg e] at pp; exact pp.elim
  | _ => exact pp.elim
def sAsg (a : ME) (g : MG) : MS := fun ρ h => (a ρ h).toS ρ fun w h1 => match g w ρ with
  | some ρ' => .ok .nx ρ' h1
  | none => .stuck
theorem asg_ok {te : TE} {tg : TG} {m : ME} {g : MG} (s : ∀ σ ρ h R H Q, REnv X.K H R ρ σ → RH X.K cm h R H → Post X.K cm R H (EXw cm Wx σ) (OKv X.K Q) (m ρ h) → te σ H Q)
    (sg : ∀ σ ρ R H w v Q, REnv X.K H R ρ σ → RV X.K H R w v → (match g w ρ with
      | some ρ' => ∀ σ', REnv X.K H R ρ' σ' → Q σ' H
      | none => False) → tg v σ H Q) : ∀ σ ρ h R H D, REnv X.K H R ρ σ → RH X.K cm h R H → PostS cm X Wx R H D (sAsg m g ρ h) → tAsg te tg D σ H := fun σ ρ h R H D hρ hh pp =>
  s σ ρ h R H _ hρ hh (Post.mono (PostS.toS hρ pp) fun w h1 R1 H1 e1 x1 p1 => fun v r => sg σ ρ R1 H1 w v _ (hρ.ext e1) r (by
    cases q : g w ρ with
    | some ρ' => simp only [q] at p1; exact fun σ' hρ' => p1 R1 H1 σ' Ext.refl x1 hρ'
    | none => simp only [q] at p1; exact p1.elim))
theorem qs_asg {tg e : Expr} {m : ME} {g : MG} {pos : Pos} (he : QE cm X Wx e m) (hg : QG X tg g) (hs : swapsWithSole [tg] e pos.line X.env = pure false := by rfl) (hw : swappedStores [tg] e X.env = pure none := by rfl)
    (h1 : (assignEach [tg] X.env).map (·.2) = [assign tg X.env] := by rfl) : QS cm X Wx (.Assign [tg] e pos) (sAsg m g) := by
  obtain ⟨te, pe, s⟩ := he
  obtain ⟨t, p, sg⟩ := hg
  exact ⟨_, ps_asg pe p hs hw h1, asg_ok s sg⟩
theorem qs_set (i : Nat) {x : Str} {e : Expr} {m : ME} {pos pos' : Pos} (hN : X.N.Nodup) (he : QE cm X Wx e m) (hi : X.N[i]? = some x := by rfl) (hx : Loc X.env.scope x := by first | exact Or.inl rfl | exact Or.inr rfl)
    (hs : swapsWith e (some (.Name x pos')) pos.line X.env = pure false := by rfl) (hf : X.fn x = true ∨ X.env.scope.names.lookup x = some .local := by first | exact .inl rfl | exact .inr rfl | assumption) : QS cm X Wx (.Assign [.Name x pos'] e pos) (sAsg m (gN i)) := by
  obtain ⟨te, pe, s⟩ := he
  exact ⟨_, ps_set hN hi hx pe hs hf, asg_ok s fun σ ρ R H w v Q hρ r p => p _ (hρ.set i r)⟩

/-! ### what is walked -/
/-- the items, and what must hold of the heap at each turn -/
structure Src where
  items : List W
  chk : Hq → Bool
abbrev MI := Ev → Hq → Res Src
def JRel (cm : Str → Addr) (X : Cx) (R1 : List Addr) (H1 : Hp) (s : Src) (J : It) : Prop :=
  ∀ i h2 R2 H2, Ext X.K R1 H1 R2 H2 → RH X.K cm h2 R2 H2 → s.chk h2 = true → (∀ w, s.items[i]? = some w → J.go i H2 ∧ ∀ x H', J.yld i H2 x H' → Ext X.K R2 H2 R2 H' ∧ RH X.K cm h2 R2 H' ∧ RV X.K H' R2 w x) ∧ (s.items.length ≤ i → J.stop i H2)
def QI (cm : Str → Addr) (X : Cx) (Wx : WX) (tg iter : Expr) (m : MI) : Prop := ∃ wi, PI X tg iter wi ∧ ∀ σ ρ h R H Rk, REnv X.K H R ρ σ → RH X.K cm h R H → Post X.K cm R H (EXw cm Wx σ) (fun s _ R1 H1 => ∀ J, JRel cm X R1 H1 s J → Rk J H1) (m ρ h) → wi σ H Rk
theorem PI.or {tg e : Expr} {w1 w2 : TI} (h1 : PI X tg e w1) (h2 : PI X tg e w2) : PI X tg e (fun σ H R => w1 σ H R ∨ w2 σ H R) := ⟨fun pins s σ H R I h => h.elim (h1.run pins s σ H R I) (h2.run pins s σ H R I)⟩
mutual
def W.beq : W → W → Bool
  | .non, .non => true
  | .bl a, .bl b => a == b
  | .int a, .int b => a == b
  | .str a, .str b => a == b
  | .tup a, .tup b => W.beqs a b
  | .frz a, .frz b => W.beqs a b
  | .ref a, .ref b => a == b
  | .exn a c, .exn b d => a == b && decide (c = d)
  | _, _ => false
def W.beqs : List W → List W → Bool
  | [], [] => true
  | a :: x, b :: y => W.beq a b && W.beqs x y
  | _, _ => false
end
mutual
theorem W.beq_eq : ∀ (a b : W), W.beq a b = true → a = b
  | .non, b, h => by cases b <;> first | rfl | cases h
  | .bl a, b, h => by
    cases b with
    | bl b => rw [eq_of_beq (show (a == b) = true by simpa [W.beq] using h)]
    | _ => cases h
  | .int a, b, h => by
    cases b with
    | int b => rw [eq_of_beq (show (a == b) = true by simpa [W.beq] using h)]
    | _ => cases h
  | .str a, b, h => by
    cases b with
    | str b => rw [eq_of_beq (show (a == b) = true by simpa [W.beq] using h)]
    | _ => cases h
  | .tup a, b, h => by
    cases b with
    | tup b => rw [W.beqs_eq a b (by simpa [W.beq] using h)]
    | _ => cases h
  | .frz a, b, h => by
    cases b with
    | frz b => rw [W.beqs_eq a b (by simpa [W.beq] using h)]
    | _ => cases h
  | .ref a, b, h => by
    cases b with
    | ref b => rw [eq_of_beq (show (a == b) = true by simpa [W.beq] using h)]
    | _ => cases h
  | .exn a c, b, h => by
    cases b with
    | exn b d =>
      have h' : (a == b && decide (c = d)) = true := by simpa [W.beq] using h
      rw [Bool.and_eq_true, decide_eq_true_eq] at h'
      rw [eq_of_beq h'.1, h'.2]
    | _ => cases h
theorem W.beqs_eq : ∀ (a b : List W), W.beqs a b = true → a = b
  | [], [], _ => rfl
  | [], _ :: _, h => by cases h
  | _ :: _, [], h => by cases h
  | a :: x, b :: y, h => by
    have h' : (W.beq a b && W.beqs x y) = true := by simpa [W.beqs] using h
    rw [Bool.and_eq_true] at h'
    rw [W.beq_eq a b h'.1, W.beqs_eq x y h'.2]
end
mutual
theorem W.beq_refl : ∀ a : W, W.beq a a = true
  | .non => rfl
  | .bl a => by simp [W.beq]
  | .int a => by simp [W.beq]
  | .str a => by simp [W.beq]
  | .tup a => by simp [W.beq, W.beqs_refl a]
  | .frz a => by simp [W.beq, W.beqs_refl a]
  | .ref a => by simp [W.beq]
  | .exn a c => by simp [W.beq]
theorem W.beqs_refl : ∀ a : List W, W.beqs a a = true
  | [] => rfl
  | a :: x => by simp [W.beqs, W.beq_refl a, W.beqs_refl x]
end
def stillL (x : W) (xs : List W) (h : Hq) : Bool := match asL h x with
  | some ys => W.beqs xs ys
  | none => false
theorem stillL_ok {x xs h} (e : stillL x xs h = true) : asL h x = some xs := by
  unfold stillL at e
  split at e
  · rename_i ys z; rw [z, W.beqs_eq _ _ e]
  · cases e
theorem stillL_of {x xs h} (e : asL h x = some xs) : stillL x xs h = true := by
  unfold stillL; rw [e]; exact W.beqs_refl xs
def iterW (x : W) (h : Hq) : Res Src := match x with
  | .tup xs => .ok ⟨xs, fun _ => true⟩ h
  | .str z => .ok ⟨z.cps.toList.map fun c => .str ⟨#[c]⟩, fun _ => true⟩ h
  | x => match asL h x with
    | some xs => .ok ⟨xs, stillL x xs⟩ h
    | none => .stuck
def iAny (a : ME) : MI := fun ρ h => (a ρ h).bind iterW
theorem iter_list {R H EX} {Rk : It → Hp → Prop} {w : W} {h1 : Hq} (pb : Post X.K cm R H EX (fun a h1 R1 H1 => Post X.K cm R1 H1 EX (fun s _ R1 H1 => ∀ J, JRel cm X R1 H1 s J → Rk J H1) (match asL h1 w with
    | some xs => .ok ⟨xs, stillL w xs⟩ h1
    | none => .stuck)) (Res.ok w h1)) : Post X.K cm R H EX (OKv X.K fun x H1 => ∃ a, x = .ref a ∧ (∃ xs, SqL X.K H1 a xs) ∧ Rk (Itl X.K a) H1) (Res.ok w h1) := by
  intro R1 H1 e1 x1 v r
  have pb' := pb R1 H1 e1 x1
  dsimp only at pb'
  split at pb'
  · rename_i xs e0
    obtain ⟨a, vs, rfl, sq, rs⟩ := asL_ok x1 r e0
    refine ⟨_, rfl, ⟨_, sq⟩, pb' R1 H1 Ext.refl x1 _ fun i h2 R2 H2 e2 x2 hk => ?_⟩
    obtain ⟨a', vs', ea, sq2, rs2⟩ := asL_ok x2 (RV.ext e2 _ _ r) (stillL_ok hk)
    cases ea
    refine ⟨fun w hw => ?_, fun hi => ⟨_, sq2, by rw [← rs2.length]; exact hi⟩⟩
    obtain ⟨v, hv, rv⟩ := rs2.get hw
    refine ⟨⟨_, v, sq2, hv⟩, fun x H' y => ?_⟩
    obtain ⟨rfl, y⟩ := y
    have := y _ sq2
    rw [hv] at this; cases this
    exact ⟨Ext.refl, x2, rv⟩
  · exact pb'.elim
theorem qi_any {tg e : Expr} {m : ME} (he : QE cm X Wx e m) : QI cm X Wx tg e (iAny m) := by
  obtain ⟨t, p, s⟩ := he
  refine ⟨_, PI.or (pi_list p) (PI.or (pi_tup p) (pi_str p)), fun σ ρ h R H Rk hρ hh pp => ?_⟩
  have pb := Post.bind pp
  cases q : m ρ h with
  | stuck => rw [q] at pb; exact pb.elim
  | exc c h1 =>
    rw [q] at pb
    exact .inl (s σ ρ h R H _ hρ hh (by rw [q]; exact pb))
  | ok w h1 =>
    rw [q] at pb
    cases w with
    | tup xs =>
      refine .inr (.inl (s σ ρ h R H _ hρ hh ?_))
      rw [q]
      intro R1 H1 e1 x1 v r
      cases r with
      | tup sq rs =>
        refine ⟨_, rfl, ⟨_, sq⟩, pb R1 H1 e1 x1 R1 H1 Ext.refl x1 _ fun i h2 R2 H2 e2 x2 _ => ⟨fun w hw => ?_, fun hi => ?_⟩⟩
        · obtain ⟨v, hv, rv⟩ := rs.get hw
          refine ⟨⟨_, v, e2.2.1 _ _ sq, hv⟩, fun x H' y => ?_⟩
          obtain ⟨rfl, y⟩ := y
          have := y _ (e2.2.1 _ _ sq)
          rw [hv] at this; cases this
          exact ⟨Ext.refl, x2, RV.ext e2 _ _ rv⟩
        · exact ⟨_, e2.2.1 _ _ sq, by rw [← rs.length]; exact hi⟩
    | str z =>
      refine .inr (.inr (s σ ρ h R H _ hρ hh ?_))
      rw [q]
      intro R1 H1 e1 x1 v r
      cases r
      refine ⟨z, rfl, pb R1 H1 e1 x1 R1 H1 Ext.refl x1 _ fun i h2 R2 H2 e2 x2 _ => ⟨fun w hw => ?_, fun hi => ?_⟩⟩
      · rw [List.getElem?_map] at hw
        cases hc : z.cps.toList[i]? with
        | none => rw [hc] at hw; cases hw
        | some c =>
          rw [hc] at hw
          cases hw
          have hi : i < z.cps.size := by
            have := (List.getElem?_eq_some_iff.mp hc).1; simpa using this
          refine ⟨hi, fun x H' y => ?_⟩
          obtain ⟨rfl, c', hc', rfl⟩ := y
          have : c' = c := by
            rw [Array.getElem?_toList] at hc
            rw [hc] at hc'; exact (Option.some.inj hc').symm
          subst this
          exact ⟨Ext.refl, x2, .str _⟩
      · show z.cps.size ≤ i
        simpa using hi
    | non => exact .inl (s σ ρ h R H _ hρ hh (by rw [q]; exact fun R1 H1 e1 x1 v r => (pb R1 H1 e1 x1).elim))
    | bl b => exact .inl (s σ ρ h R H _ hρ hh (by rw [q]; exact fun R1 H1 e1 x1 v r => (pb R1 H1 e1 x1).elim))
    | int b => exact .inl (s σ ρ h R H _ hρ hh (by rw [q]; exact fun R1 H1 e1 x1 v r => (pb R1 H1 e1 x1).elim))
    | frz n => exact .inl (s σ ρ h R H _ hρ hh (by rw [q]; exact iter_list pb))
    | exn a c => exact .inl (s σ ρ h R H _ hρ hh (by rw [q]; exact fun R1 H1 e1 x1 v r => (pb R1 H1 e1 x1).elim))
    | ref n => exact .inl (s σ ρ h R H _ hρ hh (by rw [q]; exact iter_list pb))
def rngL (lo : Int) (n : Nat) : List W := (List.range n).map fun (k : Nat) => .int (lo + (k : Int))
def i62 (i : Int) : Bool := decide (-(2 ^ 62) ≤ i) && decide (i < 2 ^ 62)
def iRng1W (a : MA) : MI := fun ρ h => (a ρ h).bind fun xs h1 => match xs with
  | [.int j] => if i62 j then .ok ⟨rngL 0 j.toNat, fun _ => true⟩ h1 else .stuck
  | _ => .stuck
def iRng2W (a : MA) : MI := fun ρ h => (a ρ h).bind fun xs h1 => match xs with
  | [.int i, .int j] => if i62 i && i62 j then .ok ⟨rngL i (j - i).toNat, fun _ => true⟩ h1 else .stuck
  | _ => .stuck
theorem jrel_rng {R1 H1} {lo : Int} {n : Nat} : JRel cm X R1 H1 ⟨rngL lo n, fun _ => true⟩ (Itr lo n) := fun i h2 R2 H2 e2 x2 _ => by
  refine ⟨fun w hw => ?_, fun hi => ?_⟩
  · have hw' : (rngL lo n)[i]? = some w := hw
    unfold rngL at hw'
    rw [List.getElem?_map] at hw'
    cases hc : (List.range n)[i]? with
    | none => rw [hc] at hw'; cases hw'
    | some c =>
      rw [hc] at hw'
      cases hw'
      obtain ⟨hlt, e⟩ := List.getElem?_eq_some_iff.mp hc
      rw [List.getElem_range] at e
      subst e
      refine ⟨show i < n by simpa using hlt, fun x H' y => ?_⟩
      obtain ⟨rfl, rfl⟩ := y
      exact ⟨Ext.refl, x2, .int _⟩
  · show n ≤ i
    have : (rngL lo n).length ≤ i := hi
    simpa [rngL] using this
theorem qi_rng1 {tg a : Expr} {m : MA} {p pos : Pos} (hg : Gl X "range") (hm : X.mg "range" = none) (ha : QAn cm X Wx [a] m) (hs : starEach [a] X.env = [(false, eval a X.env)] := by rfl) : QI cm X Wx tg (.Call (.Name "range" p) [a] [] pos) (iRng1W m) := by
  obtain ⟨⟨t, pa, s⟩, _⟩ := ha
  refine ⟨_, pi_range1 hg hm pa hs, fun σ ρ h R H Rk hρ hh pp => ?_⟩
  refine s σ ρ h R H _ hρ hh (Post.mono (Post.bind pp) fun xs h1 R1 H1 e1 x1 p1 => fun vs rs => ?_)
  split at p1
  · rename_i j
    cases rs with | cons a b =>
    cases a; cases b
    split at p1
    · rename_i z
      unfold i62 at z
      simp only [Bool.and_eq_true, decide_eq_true_eq] at z
      exact ⟨j, rfl, z.1, z.2, p1 R1 H1 Ext.refl x1 _ jrel_rng⟩
    · exact p1.elim
  · exact p1.elim
theorem qi_rng2 {tg a b : Expr} {m : MA} {p pos : Pos} (hg : Gl X "range") (hm : X.mg "range" = none) (ha : QAn cm X Wx [a, b] m) (hs : starEach [a, b] X.env = [(false, eval a X.env), (false, eval b X.env)] := by rfl) (hs2 : starEach [b] X.env = [(false, eval b X.env)] := by rfl) : QI cm X Wx tg (.Call (.Name "range" p) [a, b] [] pos) (iRng2W m) := by
  obtain ⟨⟨t, pa, s⟩, _⟩ := ha
  refine ⟨_, pi_range2 hg hm pa hs hs2, fun σ ρ h R H Rk hρ hh pp => ?_⟩
  refine s σ ρ h R H _ hρ hh (Post.mono (Post.bind pp) fun xs h1 R1 H1 e1 x1 p1 => fun vs rs => ?_)
  split at p1
  · rename_i i j
    cases rs with | cons a b =>
    cases a; cases b with | cons a b =>
    cases a; cases b
    split at p1
    · rename_i z
      unfold i62 at z
      simp only [Bool.and_eq_true, decide_eq_true_eq] at z
      exact ⟨i, j, rfl, ⟨z.1.1, z.1.2, z.2.1, z.2.2⟩, p1 R1 H1 Ext.refl x1 _ jrel_rng⟩
    · exact p1.elim
  · exact p1.elim

/-! ### for, while -/
def loopF (chk : Hq → Bool) (g : MG) (b : MS) : List W → MS
  | [] => fun ρ h => if chk h then .ok .nx ρ h else .stuck
  | w :: ws => fun ρ h => if chk h then (match g w ρ with
    | some ρ1 => (match b ρ1 h with
      | .ok .nx ρ2 h2 => loopF chk g b ws ρ2 h2
      | .ok .ct ρ2 h2 => loopF chk g b ws ρ2 h2
      | .ok .bk ρ2 h2 => .ok .nx ρ2 h2
      | r => r)
    | none => .stuck) else .stuck
def sFor (i : MI) (g : MG) (b : MS) : MS := fun ρ h => (i ρ h).toS ρ fun s h1 => loopF s.chk g b s.items ρ h1
theorem qs_for {tg iter : Expr} {body : List Stmt} {mi : MI} {g : MG} {mb : MS} {pos : Pos} (hp : PassesOwn (model X.prog X.w) X.A X.env X.xe) (hc : X.calm = true) (hi : QI cm X Wx tg iter mi) (hg : QG X tg g) (hb : QB cm X Wx body mb)
    (hs : ∀ x, foldedSetIterable iter X.env x = pure x := by intro _; rfl) : QS cm X Wx (.For tg iter body [] pos) (sFor mi g mb) := by
  obtain ⟨wi, pi, si⟩ := hi
  obtain ⟨tg', pg, sg⟩ := hg
  obtain ⟨tb, pb, sb⟩ := hb
  refine ⟨_, ps_for hp hc pi pg pb hs, fun σ ρ h R H D hρ hh pp => ?_⟩
  refine si σ ρ h R H _ hρ hh (Post.mono (PostS.toS hρ pp) fun s h1 R1 H1 e1 x1 p1 => fun J hJ => ?_)
  refine ⟨fun i m σ2 H2 => ∃ ρ2 h2 R2, Ext X.K R1 H1 R2 H2 ∧ RH X.K cm h2 R2 H2 ∧ REnv X.K H2 R2 ρ2 σ2 ∧ PostS cm X Wx R2 H2 D (loopF s.chk g mb (s.items.drop i) ρ2 h2) ∧ m = s.items.length - i ∧ i ≤ s.items.length,
    ⟨s.items.length, ρ, h1, R1, Ext.refl, x1, hρ.ext e1, by simpa using p1, by simp, Nat.zero_le _⟩, ?_⟩
  rintro i m σ2 H2 ⟨ρ2, h2, R2, e2, x2, r2, p2, rfl, hle⟩
  by_cases hlt : i < s.items.length
  · refine .inr ?_
    have hd : s.items.drop i = s.items[i] :: s.items.drop (i + 1) := List.drop_eq_getElem_cons hlt
    rw [hd] at p2
    unfold loopF at p2
    by_cases hk : s.chk h2 = true
    · rw [if_pos hk] at p2
      have J1 := (hJ i h2 R2 H2 e2 x2 hk).1 s.items[i] (by simp [hlt])
      refine ⟨J1.1, fun σ' H' => ∃ m', m' < s.items.length - i ∧ ∃ ρ2 h2 R2, Ext X.K R1 H1 R2 H' ∧ RH X.K cm h2 R2 H' ∧ REnv X.K H' R2 ρ2 σ' ∧ PostS cm X Wx R2 H' D (loopF s.chk g mb (s.items.drop (i + 1)) ρ2 h2) ∧ m' = s.items.length - (i + 1) ∧ i + 1 ≤ s.items.length, fun σ' H' z => z, fun x H' y => ?_⟩
      obtain ⟨e3, x3, rv⟩ := J1.2 x H' y
      refine sg σ2 ρ2 R2 H' _ x _ (r2.ext e3) rv ?_
      cases q : g s.items[i] ρ2 with
      | none => simp only [q] at p2; exact p2.elim
      | some ρ3 =>
        simp only [q] at p2
        intro σ3 hρ3
        refine sb σ3 ρ3 h2 R2 H' _ hρ3 x3 ?_
        have p3 := PostS.from_ e3 p2
        have e13 : Ext X.K R1 H1 R2 H' := e2.trans e3 x3.nd
        cases qb : mb ρ3 h2 with
        | stuck => simp only [qb] at p3; exact p3.elim
        | exc c ρ4 h4 => simp only [qb] at p3; exact p3
        | ok f ρ4 h4 =>
          simp only [qb] at p3
          cases f with
          | nx => exact fun R4 H4 σ4 e4 x4 r4 => ⟨s.items.length - (i + 1), by omega, ρ4, h4, R4, e13.trans e4 x4.nd, x4, r4, PostS.from_ e4 p3, rfl, hlt⟩
          | ct => exact fun R4 H4 σ4 e4 x4 r4 => ⟨s.items.length - (i + 1), by omega, ρ4, h4, R4, e13.trans e4 x4.nd, x4, r4, PostS.from_ e4 p3, rfl, hlt⟩
          | bk => exact fun R4 H4 σ4 e4 x4 r4 => p3 R4 H4 σ4 e4 x4 r4
          | rt w => exact fun R4 H4 σ4 e4 x4 r4 => p3 R4 H4 σ4 e4 x4 r4
    · rw [if_neg hk] at p2; exact p2.elim
  · have he : s.items.length ≤ i := by omega
    rw [List.drop_eq_nil_of_le he] at p2
    unfold loopF at p2
    by_cases hk : s.chk h2 = true
    · rw [if_pos hk] at p2
      exact .inl ⟨(hJ i h2 R2 H2 e2 x2 hk).2 he, p2 R2 H2 σ2 Ext.refl x2 r2⟩
    · rw [if_neg hk] at p2; exact p2.elim
def loopW (c : MT) (b : MS) : Nat → MS
  | 0 => fun _ _ => .stuck
  | n + 1 => fun ρ h => (c ρ h).toS ρ fun k h1 => if k then (match b ρ h1 with
      | .ok .nx ρ2 h2 => loopW c b n ρ2 h2
      | .ok .ct ρ2 h2 => loopW c b n ρ2 h2
      | .ok .bk ρ2 h2 => .ok .nx ρ2 h2
      | r => r) else .ok .nx ρ h1
def fuelW : Nat := 1000000000
def sWhile (c : MT) (b : MS) : MS := loopW c b fuelW
theorem qs_while {c : Expr} {body : List Stmt} {mc : MT} {mb : MS} {pos : Pos} (hp : PassesOwn (model X.prog X.w) X.A X.env X.xe) (hc : QT cm X Wx c mc) (hb : QB cm X Wx body mb) : QS cm X Wx (.While c body [] pos) (sWhile mc mb) := by
  obtain ⟨tc, pc, sc⟩ := hc
  obtain ⟨tb, pb, sb⟩ := hb
  refine ⟨_, ps_while hp pc pb, fun σ ρ h R H D hρ hh pp => ?_⟩
  refine ⟨fun m σ2 H2 => ∃ ρ2 h2 R2, Ext X.K R H R2 H2 ∧ RH X.K cm h2 R2 H2 ∧ REnv X.K H2 R2 ρ2 σ2 ∧ PostS cm X Wx R2 H2 D (loopW mc mb m ρ2 h2), ⟨fuelW, ρ, h, R, Ext.refl, hh, hρ, pp⟩, ?_⟩
  rintro m σ2 H2 ⟨ρ2, h2, R2, e2, x2, r2, p2⟩
  cases m with
  | zero => exact p2.elim
  | succ n =>
    unfold loopW at p2
    refine sc σ2 ρ2 h2 R2 H2 _ r2 x2 (Post.mono (PostS.toS r2 p2) fun k h3 R3 H3 e3 x3 p3 => ?_)
    cases k with
    | false => exact p3 R3 H3 σ2 Ext.refl x3 (r2.ext e3)
    | true =>
      refine iteT ?_
      refine ⟨fun σ' H' => ∃ m', m' < n + 1 ∧ ∃ ρ2 h2 R2, Ext X.K R H R2 H' ∧ RH X.K cm h2 R2 H' ∧ REnv X.K H' R2 ρ2 σ' ∧ PostS cm X Wx R2 H' D (loopW mc mb m' ρ2 h2), fun σ' H' z => z, ?_⟩
      refine sb σ2 ρ2 h3 R3 H3 _ (r2.ext e3) x3 ?_
      have e03 := e2.trans e3 x3.nd
      rw [if_pos rfl] at p3
      cases qb : mb ρ2 h3 with
      | stuck => simp only [qb] at p3; exact p3.elim
      | exc c ρ4 h4 => simp only [qb] at p3; exact p3
      | ok f ρ4 h4 =>
        simp only [qb] at p3
        cases f with
        | nx => exact fun R4 H4 σ4 e4 x4 r4 => ⟨n, by omega, ρ4, h4, R4, e03.trans e4 x4.nd, x4, r4, PostS.from_ e4 p3⟩
        | ct => exact fun R4 H4 σ4 e4 x4 r4 => ⟨n, by omega, ρ4, h4, R4, e03.trans e4 x4.nd, x4, r4, PostS.from_ e4 p3⟩
        | bk => exact fun R4 H4 σ4 e4 x4 r4 => p3 R4 H4 σ4 e4 x4 r4
        | rt w => exact fun R4 H4 σ4 e4 x4 r4 => p3 R4 H4 σ4 e4 x4 r4
end

/-! ### defs -/
/-- a def: np parameters, nn names in all -/
def fnB (np nn : Nat) (b : MS) : MF := fun ws h => if ws.length = np then (match b (ws.map some ++ List.replicate (nn - ws.length) none) h with
  | .ok .nx _ h' => .ok .non h'
  | .ok (.rt w) _ h' => .ok w h'
  | .exc c _ h' => .exc c h'
  | _ => .stuck) else .stuck
def spM (K : PySem.W.Frag) (cm : Str → Addr) (f : MF) : Sp := fun vs H Q E => ∃ ws h R, RVs K H R ws vs ∧ RH K cm h R H ∧ Post K cm R H (fun c H' => E (.ref (cm c)) none H') (OKv K Q) (f ws h)
theorem renv_start {K H R N ws vs} (r : RVs K H R ws vs) : REnv K H R (ws.map some ++ List.replicate (N.length - ws.length) none) (L2.start N vs) := by
  unfold L2.start
  refine ⟨by simp [r.length], fun i w e => ?_⟩
  by_cases hi : i < ws.length
  · rw [List.getElem?_append_left (by simpa using hi), List.getElem?_map] at e
    cases q : ws[i]? with
    | none => rw [q] at e; cases e
    | some w' =>
      rw [q] at e; cases e
      obtain ⟨v, hv, rv⟩ := r.get q
      refine ⟨v, ?_, rv⟩
      rw [List.getElem?_append_left (by rw [List.length_map, ← r.length]; exact hi), List.getElem?_map, hv]; rfl
  · rw [List.getElem?_append_right (by simpa using hi), List.getElem?_replicate] at e
    split at e <;> cases e
section
variable {P : Program} {w : World} {K : PySem.W.Frag} {mg : Str → Option Value} {base : Heap} {cm : Str → Addr}
theorem qf_ok {x qual : Str} {st : Stmt} {f : Addr} {fd : FuncData} {N ps : List Str} {k : Nat} {m : MS} (F : Fun K x qual st f fd) (S : FnScope N ps (defScope st))
    (hb : ∀ (cdv : Value) (A : Around) (outer : List Env) (s : Shared) (H : Hp) (E : XK), Room k (A.deeper (envOfC qual (defScope st) s.heap.objs.size f cdv)) →
      QB cm (cxOf (L2.CX P w) P w K mg base N qual (defScope st) f cdv A outer s H E) (fun cls d _ H => E cls d H) (defBody st) m) :
    FnOk P w K mg base (L2.CX P w) (k + 1) f fd ps (spM K cm (fnB ps.length N.length m)) := by
  refine F.okX S (fun vs H Q E h => ?_) (fun cdv A outer s H vs Q E hr h => ?_)
  · obtain ⟨ws, h, R, rs, _, p⟩ := h
    unfold fnB at p
    by_cases e : ws.length = ps.length
    · rw [← rs.length]; exact e
    · rw [if_neg e] at p; exact p.elim
  · obtain ⟨ws, h, R, rs, hh, p⟩ := h
    obtain ⟨t, pt, st'⟩ := hb cdv A outer s H E hr
    refine ⟨t, pt, st' _ _ h R H _ (renv_start rs) hh ?_⟩
    unfold fnB at p
    by_cases e : ws.length = ps.length
    · rw [if_pos e] at p
      cases q : m (ws.map some ++ List.replicate (N.length - ws.length) none) h with
      | stuck => rw [q] at p; exact p.elim
      | exc c ρ' h' => rw [q] at p; exact fun R' H' σ' e' x' _ => p R' H' e' x'
      | ok fl ρ' h' =>
        rw [q] at p
        cases fl with
        | nx => exact fun R' H' σ' e' x' _ => p R' H' e' x' _ .non
        | rt w => exact fun R' H' σ' e' x' _ v rv => p R' H' e' x' v rv
        | bk => exact p.elim
        | ct => exact p.elim
    · rw [if_neg e] at p; exact p.elim
end
section
variable {cm : Str → Addr} {X : Cx} {Wx : WX}
/-- f(e, ..), a def of the text, every parameter given -/
theorem q_call {x : Str} {p pos : Pos} {e : Expr} {es : List Expr} {k : Nat} {f : Addr} {fd : FuncData} {ps : List Str} {g : MF} {m : MA} (F : FnOk X.prog X.w X.K X.mg X.base (L2.CX X.prog X.w) k f fd ps (spM X.K cm g)) (tk : Takes X Wx) (hr : Room k X.A) (hg : Gl X x) (hm : X.mg x = some (.ref f)) (hk : PySem.W.keepIn X.K (.ref f) = true) (hb : Binds X.K fd ps [])
    (ha : QAn cm X Wx (e :: es) m) (hdb : (x == ("__debug__" : Str)) = false := by decide) (he : starEach (e :: es) X.env = (false, eval e X.env) :: starEach es X.env := by rfl) (hpl : (backTo pos (starEach es X.env)).any (·.1) = false := by rfl) :
    QE cm X Wx (.Call (.Name x p) (e :: es) [] pos) (eCB g m) := by
  obtain ⟨⟨t, pa, s⟩, _⟩ := ha
  refine ⟨_, pe_callS F hr hg hm hk hb (fun σ => passAt tk σ) pa hdb he hpl, fun σ ρ h R H Q hρ hh p => ?_⟩
  exact s σ ρ h R H _ hρ hh (Post.mono (Post.bind p) fun ws h1 R1 H1 e1 x1 p1 => fun vs rs => ⟨ws, h1, R1, rs, x1, p1⟩)
/-- f() -/
def eCB0 (f : MF) : ME := fun _ h => f [] h
theorem q_call0 {x : Str} {p pos : Pos} {k : Nat} {f : Addr} {fd : FuncData} {ps : List Str} {g : MF} (F : FnOk X.prog X.w X.K X.mg X.base (L2.CX X.prog X.w) k f fd ps (spM X.K cm g)) (tk : Takes X Wx) (hr : Room k X.A) (hg : Gl X x) (hm : X.mg x = some (.ref f)) (hk : PySem.W.keepIn X.K (.ref f) = true) (hb : Binds X.K fd ps [])
    (hdb : (x == ("__debug__" : Str)) = false := by decide) : QE cm X Wx (.Call (.Name x p) [] [] pos) (eCB0 g) := by
  refine ⟨fun σ H Q => spM X.K cm g [] H Q (WE Wx σ), ⟨fun pins s σ H Q I h => ?_⟩, fun σ ρ h R H Q hρ hh p => ⟨[], h, R, .nil, hh, p⟩⟩
  refine wpAny_Call_Name_kw (ld_glob I hg hm ?_ hdb)
  exact PySem.W.callWith_K0 I.kIn hk (run_fnS (us := []) (E := WE Wx) F hr hb (passAt tk σ) I .nil h)
end
end Z

/-! Q: more operators. -/
namespace Z
open PySem PySem.Spec PyProof.Rows L2
section
variable {prog : Program} {w : World} {A : Around} {E : Value → Shared → Prop} {s : Shared}
theorem left_declines {M : Model} {a b : Value} {T U nm id : String} {Q : Option Value → Shared → Prop} (hTU : (Value.type T == Value.type U) = false) (ha : s.TypeIs a T) (hb : s.TypeIs b U)
    (hfT : fillsNumberSlot (.type T) nm = pure true) (hfU : fillsNumberSlot (.type U) nm = pure false) (h : Slot T (dunder nm) id)
    (hc : wpAny M A (call (.builtin id) [a, b]) (fun v s' => v = .notImplemented ∧ Q none s') E s) : wpAny M A (binaryOp1 nm a b) Q E s := by
  simp only [binaryOp1]
  refine wpAny_bind (wpAny_typeOf ha (wpAny_bind (wpAny_typeOf hb (wpAny_bind (wpAny_of_eq hfT ?_)))))
  simp only [hTU, Bool.false_eq_true, if_false]
  refine wpAny_bind (wpAny_of_eq hfU ?_)
  simp only [pure_bind, Bool.and_false, Bool.false_and, Bool.false_eq_true, if_false, Bool.not_false, Bool.and_self, if_true]
  exact wpAny_bind (wpAny_tryMethod_declines ha h (wpAny_mono hc (fun v s' h' => ⟨h'.1, wpAny_pure h'.2⟩) fun _ _ e => e))
theorem repeat_int : seqRepeat? (.type "int") = pure none := by
  unfold seqRepeat? seqSlot?
  kernel_rfl
theorem mul_int_str {x : Str} {n : Int} {t u : Tok} {Q : Value → Shared → Prop} (hr : (decide (n < -(2 ^ 63 : Int)) || decide (n ≥ 2 ^ 63)) = false)
    (hb : ¬ n < 1 → (n == 1 || x.length == 0) = false → ¬ ((x.length : Int) > (2 ^ 63 - 1) / n)) (hl : ¬ n < 1 → (n == 1 || x.length == 0) = false → Builtin.Str.tooLong (x.length * n.toNat) = false)
    (h : (if n < 1 then Made.str Str.empty else if (n == 1 || x.length == 0) = true then Made.val (.str x t) else Made.str ⟨(List.replicate n.toNat x.cps).foldl (· ++ ·) #[]⟩).post Q s) :
    wpAny (model prog w) A (binaryOp .Mult (.int n u) (.str x t)) Q E s := by
  unfold binaryOp
  refine wpAny_holding ?_
  refine wpAny_bind (left_declines (nm := "mul") (T := "int") (U := "str") (by decide) (typeIs_int s n u) (typeIs_str s x t) F.fills_int_mul noFill_str_mul F.slot_int_mul
    (call_gives F.slot_int_mul (typeIs_int s n u) F.entry_int_mul (F.args_int_mul_2 _ _) (AutoIntG3.int___mul___int_str_0 n u x t) ⟨rfl, ?_⟩))
  refine wpAny_bind (wpAny_typeOf (typeIs_int s n u) ?_)
  refine wpAny_bind (wpAny_of_eq repeat_int ?_)
  refine wpAny_bind (wpAny_typeOf (typeIs_str s x t) ?_)
  refine wpAny_bind (wpAny_of_eq repeat_str ?_)
  unfold sequenceRepeat
  refine wpAny_bind (wpAny_specialOf (typeIs_int s n u) F.slot_int_index.lookup ?_)
  exact wpAny_bind (wpAny_rule (call_gives F.slot_str_mul (typeIs_str s x t) F.entry_str_mul (F.args_str_mul_2 _ _) (gives_str_mul x n t u hr hb hl) h))
end
section
variable {cm : Str → Addr} {X : Cx} {Wx : WX}
def mulNS : F2 := fun x y h => match x, y with
  | .int n, .str z => if decide (2 ≤ n ∧ n ≤ 1000) && decide (1 ≤ z.length ∧ z.length ≤ 1000) then .ok (.str ⟨(List.replicate n.toNat z.cps).foldl (· ++ ·) #[]⟩) h else .stuck
  | _, _ => .stuck
theorem op_mulNS : OpR X (binaryOp .Mult) (fun x y H Q => ∃ (n : Int) (z : Str), x = .int n ∧ y = .str z ∧ (2 ≤ n ∧ n ≤ 1000) ∧ (1 ≤ z.length ∧ z.length ≤ 1000) ∧ Q (.str ⟨(List.replicate n.toNat z.cps).foldl (· ++ ·) #[]⟩) H) := by
  intro pins s σ H x y v u Q I rx ry h
  obtain ⟨n, z, rfl, rfl, ⟨n1, n2⟩, ⟨z1, z2⟩, q⟩ := h
  obtain ⟨t, rfl⟩ := rx
  obtain ⟨t', rfl⟩ := ry
  have hm : z.length * n.toNat ≤ 1000000 := Nat.le_trans (Nat.mul_le_mul z2 (show n.toNat ≤ 1000 by omega)) (by decide)
  have htl : Builtin.Str.tooLong (z.length * n.toNat) = false := by
    have e := sizeLine_eq
    unfold Builtin.Str.tooLong
    simp only [decide_eq_false_iff_not]
    omega
  refine mul_int_str (by simp only [Bool.or_eq_false_iff, decide_eq_false_iff_not]; omega) (fun _ _ => ?_) (fun _ _ => htl) ?_
  · have : (9223372036854775807 : Int) / n ≥ 1000 := by
      rw [ge_iff_le, Int.le_ediv_iff_mul_le (by omega)]
      omega
    have h9 : (2 : Int) ^ 63 - 1 = 9223372036854775807 := by decide
    rw [h9]
    omega
  · rw [if_neg (by omega), if_neg (by simp; omega)]
    exact ⟨fits_reps htl, ⟨.str _, H, I.tok _, ⟨_, rfl⟩, q⟩⟩
theorem q_mulNS {a b : Expr} {ma mb : ME} {pos : Pos} (ha : QE cm X Wx a ma) (hb : QE cm X Wx b mb) : QE cm X Wx (.BinOp a .Mult b pos) (eBin mulNS ma mb) := qe_bin op_mulNS (by
  intro EX h R H x y vx vy Q hh rx ry p
  unfold mulNS at p
  split at p
  · cases rx; cases ry
    split at p
    · rename_i z
      simp only [Bool.and_eq_true, decide_eq_true_eq] at z
      exact ⟨_, _, rfl, rfl, z.1, z.2, post_v p hh (.str _)⟩
    · exact p.elim
  · exact p.elim) ha hb
end
end Z

/-! Q: a def by the head's facts; the law's end. -/
namespace Z
open PySem PySem.Spec PyProof.Rows L2
/-- what is known behind the top -/
structure Bs (fa : List He.Fa) (fn : List He.DefD) (ts : List He.Tab) (P : Program) (w : World) (K : PySem.W.Frag) (mg : Str → Option Value) (base : Heap) : Prop where
  says : He.SaysT fa fn ts w K
  ex : ∃ h : Heap, K.In h ∧ h.Ns mainGlobals mg
section
variable {fa : List He.Fa} {fn : List He.DefD} {ts : List He.Tab} {P : Program} {w : World} {K : PySem.W.Frag} {mg : Str → Option Value} {base : Heap}
theorem Bs.glo (B : Bs fa fn ts P w K mg base) (i : Nat) {x : Str} (h : fa[i]? = some (.glo x) := by rfl) : mg x = some (.ref (He.ga K x)) := by
  obtain ⟨hh, a, b⟩ := B.ex
  exact He.glo_ok a b (B.says.d.fact i h)
theorem Bs.free (B : Bs fa fn ts P w K mg base) (i : Nat) {x : Str} (h : fa[i]? = some (.free x) := by rfl) : mg x = none := by
  obtain ⟨hh, a, b⟩ := B.ex
  exact He.free_ok a b (B.says.d.fact i h)
theorem Bs.int (B : Bs fa fn ts P w K mg base) (i : Nat) {x : Str} {n : Int} (h : fa[i]? = some (.int x n) := by rfl) : ∃ t, mg x = some (.int n t) := by
  obtain ⟨hh, a, b⟩ := B.ex
  exact He.int_ok a b (B.says.d.fact i h)
theorem Bs.str (B : Bs fa fn ts P w K mg base) (i : Nat) {x z : Str} (h : fa[i]? = some (.str x z) := by rfl) : ∃ t, mg x = some (.str z t) := by
  obtain ⟨hh, a, b⟩ := B.ex
  exact He.str_ok a b (B.says.d.fact i h)
/-- a global def, by its shallow function -/
structure Cal (P : Program) (w : World) (K : PySem.W.Frag) (mg : Str → Option Value) (base : Heap) (k : Nat) (x : Str) (g : MF) : Prop where
  ex : ∃ (f : Addr) (fd : FuncData) (ps : List Str), FnOk P w K mg base (L2.CX P w) k f fd ps (spM K (He.ga K) g) ∧ mg x = some (.ref f) ∧ PySem.W.keepIn K (.ref f) = true ∧ Binds K fd ps []
theorem qf_okD {x qual : Str} {params : Arguments} {body : List Stmt} {scope : Scope} {dvs : List V} {kws : List (Str × V)} {f : Addr} {fd : FuncData} {cm : Str → Addr} {N ps : List Str} {k : Nat} {m : MS} (F : FunD K x qual params body scope dvs kws f fd) (S : FnScope N ps scope)
    (hb : ∀ (cdv : Value) (A : Around) (outer : List Env) (s : Shared) (H : Hp) (E : XK), Room k (A.deeper (envOfC qual scope s.heap.objs.size f cdv)) →
      QB cm (cxOf (L2.CX P w) P w K mg base N qual scope f cdv A outer s H E) (fun cls d _ H => E cls d H) body m) :
    FnOk P w K mg base (L2.CX P w) (k + 1) f fd ps (spM K cm (fnB ps.length N.length m)) := by
  refine F.ok S (fun vs H Q E h => ?_) (fun cdv A outer s H vs Q E hr h => ?_)
  · obtain ⟨ws, h, R, rs, _, p⟩ := h
    unfold fnB at p
    by_cases e : ws.length = ps.length
    · rw [← rs.length]; exact e
    · rw [if_neg e] at p; exact p.elim
  · obtain ⟨ws, h, R, rs, hh, p⟩ := h
    obtain ⟨t, pt, st'⟩ := hb cdv A outer s H E hr
    refine ⟨t, pt, st' _ _ h R H _ (renv_start rs) hh ?_⟩
    unfold fnB at p
    by_cases e : ws.length = ps.length
    · rw [if_pos e] at p
      cases q : m (ws.map some ++ List.replicate (N.length - ws.length) none) h with
      | stuck => rw [q] at p; exact p.elim
      | exc c ρ' h' => rw [q] at p; exact fun R' H' σ' e' x' _ => p R' H' e' x'
      | ok fl ρ' h' =>
        rw [q] at p
        cases fl with
        | nx => exact fun R' H' σ' e' x' _ => p R' H' e' x' _ .non
        | rt w => exact fun R' H' σ' e' x' _ v rv => p R' H' e' x' v rv
        | bk => exact p.elim
        | ct => exact p.elim
    · rw [if_neg e] at p; exact p.elim
end
section
variable {X : Cx} {Wx : WX}
theorem q_cal {x : Str} {p pos : Pos} {e : Expr} {es : List Expr} {k j : Nat} {g : MF} {m : MA} (c : Cal X.prog X.w X.K X.mg X.base k x g) (tk : Takes X Wx) (hr : Room j X.A) (hk : k ≤ j) (hg : Gl X x)
    (ha : QAn (He.ga X.K) X Wx (e :: es) m) (hdb : (x == ("__debug__" : Str)) = false := by decide) (he : starEach (e :: es) X.env = (false, eval e X.env) :: starEach es X.env := by rfl) (hpl : (backTo pos (starEach es X.env)).any (·.1) = false := by rfl) :
    QE (He.ga X.K) X Wx (.Call (.Name x p) (e :: es) [] pos) (eCB g m) := by
  obtain ⟨f, fd, ps, F, hm, kp, hb⟩ := c.ex
  exact q_call F tk (hr.mono hk) hg hm kp hb ha hdb he hpl
theorem q_cal0 {x : Str} {p pos : Pos} {k j : Nat} {g : MF} (c : Cal X.prog X.w X.K X.mg X.base k x g) (tk : Takes X Wx) (hr : Room j X.A) (hk : k ≤ j) (hg : Gl X x)
    (hdb : (x == ("__debug__" : Str)) = false := by decide) : QE (He.ga X.K) X Wx (.Call (.Name x p) [] [] pos) (eCB0 g) := by
  obtain ⟨f, fd, ps, F, hm, kp, hb⟩ := c.ex
  exact q_call0 F tk (hr.mono hk) hg hm kp hb hdb
end
/-- the end: the head's facts Y, the law's def by its shallow function, which gives True -/
theorem law_end {l : PySem.W.OpenLaw} {n k : Nat} {q : Program} {loose : List Str} {XP : (Str → Option Value) → Heap → Prop} {YP : World → Heap → Prop} {d : DefRec} {x : Str} {g : MF}
    (hn : l.most = some n) (hn2 : n ≤ sizeLine) (hdf : d.params.defaults = []) (hr : Room k callerA)
    (F : ∀ (w : World) (mg : Str → Option Value) (fa : Addr) (h : Heap), YP w h → h.Ns mainGlobals mg → mg d.name = some (.ref fa) →
      ∃ (K : PySem.W.Frag) (fd : FuncData), K.In h ∧ (∀ (s : Shared) (u : Value), BindsTo s fd ⟨[u], []⟩ [(x, u)]) ∧ ∀ base : Heap, FnOk l.prog w K mg base (L2.CX l.prog w) k fa fd [x] (spM K (He.ga K) g))
    (hg : ∀ ns : List Int, ns.length ≤ n → (∀ z ∈ ns, Builtin.Int.intBits z ≤ 1048576) → ∃ h', g [.frz (ns.map W.int)] [] = .ok (.bl true) h') :
    PySem.W.WalkO q loose XP YP l.row.toRowW d [] (fun f vs => PySem.call f vs) := by
  refine Att.attach_callB hn hdf fun w s₀ s₁ mg mb fa o pm cd doc a vs ns G Y _ _ _ hmg hobj hints hlen hbits hgens => ?_
  obtain ⟨K, fd, KX, hb, hF⟩ := F w mg fa _ Y G.T.g hmg
  refine law_call KX G.T.g G.T.b G.T.builtins G.T.nolimit hgens hobj hints (Nat.le_trans hlen hn2) hr (fun base _ _ => hF base) hb (fun H hO hS => ?_) (fun H e s' hc => ?_)
  · obtain ⟨h', e⟩ := hg ns hlen hbits
    have sq : SqF K H a (ns.map V.int) := by
      rcases hS with (hS | hS) | hS
      · rcases hO a with z | ⟨o', xs, z⟩
        · rw [z] at hS; cases hS
        · rw [z] at hS; cases hS
      · exact .inl hS
      · exact .inr hS
    have rs : RVs K H [] (ns.map W.int) (ns.map V.int) := by
      clear sq hS e hints hlen hbits
      induction ns with
      | nil => exact .nil
      | cons z r ih => exact .cons (.int z) ih
    refine ⟨[.frz (ns.map W.int)], [], [], .cons (.frz sq rs) .nil, ⟨rfl, List.nodup_nil, fun n o z => by simp at z⟩, ?_⟩
    rw [e]
    exact fun R' H' _ _ v r => by cases r; rfl
  · obtain ⟨_, _, _, _, _, _, _, _, _, _, _, _, z⟩ := hc
    exact z
end Z

/-! Q: reasoning about the shallow functions. -/
namespace Z
open PySem L2
/-- it ends well, and so -/
def okp {α : Type} (r : Res α) (Q : α → Hq → Prop) : Prop := match r with
  | .ok a h => Q a h
  | _ => False
def oks (r : RS) (Q : Fl → Ev → Hq → Prop) : Prop := match r with
  | .ok f ρ h => Q f ρ h
  | _ => False
theorem okp_iff {α : Type} {r : Res α} {Q : α → Hq → Prop} : okp r Q ↔ ∃ a h, r = .ok a h ∧ Q a h := by
  cases r with
  | ok a h => exact ⟨fun q => ⟨a, h, rfl, q⟩, fun ⟨_, _, e, q⟩ => by cases e; exact q⟩
  | exc c h => exact ⟨fun q => q.elim, fun ⟨_, _, e, _⟩ => by cases e⟩
  | stuck => exact ⟨fun q => q.elim, fun ⟨_, _, e, _⟩ => by cases e⟩
theorem okp_ok {α : Type} {a : α} {h : Hq} {Q : α → Hq → Prop} : okp (.ok a h) Q = Q a h := id rfl
theorem oks_ok {f : Fl} {ρ : Ev} {h : Hq} {Q : Fl → Ev → Hq → Prop} : oks (.ok f ρ h) Q = Q f ρ h := id rfl
theorem okp_bind {α β : Type} {r : Res α} {f : α → Hq → Res β} {Q : β → Hq → Prop} : okp (r.bind f) Q = okp r (fun a h => okp (f a h) Q) := by cases r <;> rfl
theorem oks_toS {α : Type} {r : Res α} {ρ : Ev} {f : α → Hq → RS} {Q : Fl → Ev → Hq → Prop} : oks (r.toS ρ f) Q = okp r (fun a h => oks (f a h) Q) := by cases r <;> rfl
theorem okp_mono {α : Type} {r : Res α} {Q Q' : α → Hq → Prop} (p : okp r Q) (k : ∀ a h, Q a h → Q' a h) : okp r Q' := by
  cases r with
  | ok a h => exact k a h p
  | exc c h => exact p
  | stuck => exact p
theorem oks_mono {r : RS} {Q Q' : Fl → Ev → Hq → Prop} (p : oks r Q) (k : ∀ f ρ h, Q f ρ h → Q' f ρ h) : oks r Q' := by
  cases r with
  | ok f ρ h => exact k f ρ h p
  | exc c ρ h => exact p
  | stuck => exact p
theorem bind_ok {α β : Type} {a : α} {h : Hq} {f : α → Hq → Res β} : (Res.ok a h).bind f = f a h := id rfl
theorem bind_exc {α β : Type} {c : Str} {h : Hq} {f : α → Hq → Res β} : (Res.exc c h : Res α).bind f = .exc c h := id rfl
theorem toS_ok {α : Type} {a : α} {h : Hq} {ρ : Ev} {f : α → Hq → RS} : (Res.ok a h).toS ρ f = f a h := id rfl
theorem toS_exc {α : Type} {c : Str} {h : Hq} {ρ : Ev} {f : α → Hq → RS} : (Res.exc c h : Res α).toS ρ f = .exc c ρ h := id rfl
theorem thenS_nx {ρ : Ev} {h : Hq} {f : Ev → Hq → RS} : thenS (.ok .nx ρ h) f = f ρ h := id rfl
theorem thenS_rt {w : W} {ρ : Ev} {h : Hq} {f : Ev → Hq → RS} : thenS (.ok (.rt w) ρ h) f = .ok (.rt w) ρ h := id rfl
theorem thenS_bk {ρ : Ev} {h : Hq} {f : Ev → Hq → RS} : thenS (.ok .bk ρ h) f = .ok .bk ρ h := id rfl
theorem thenS_ct {ρ : Ev} {h : Hq} {f : Ev → Hq → RS} : thenS (.ok .ct ρ h) f = .ok .ct ρ h := id rfl
theorem thenS_exc {c : Str} {ρ : Ev} {h : Hq} {f : Ev → Hq → RS} : thenS (.exc c ρ h) f = .exc c ρ h := id rfl
theorem oks_then {r : RS} {f : Ev → Hq → RS} {Q : Fl → Ev → Hq → Prop} : oks (thenS r f) Q = oks r (fun fl ρ h => match fl with
  | .nx => oks (f ρ h) Q
  | fl => Q fl ρ h) := by
  cases r with
  | ok fl ρ h => cases fl <;> rfl
  | _ => rfl
/-- a def's result from its body's -/
theorem okp_fnB {np nn : Nat} {b : MS} {ws : List W} {h : Hq} {Q : W → Hq → Prop} (hl : ws.length = np) (p : oks (b (ws.map some ++ List.replicate (nn - ws.length) none) h) (fun f _ h' => match f with
    | .nx => Q .non h'
    | .rt w => Q w h'
    | _ => False)) : okp (fnB np nn b ws h) Q := by
  unfold fnB
  rw [if_pos hl]
  cases q : b (ws.map some ++ List.replicate (nn - ws.length) none) h with
  | ok f ρ h' => rw [q] at p; cases f <;> first | exact p | exact p.elim
  | exc c ρ h' => rw [q] at p; exact p.elim
  | stuck => rw [q] at p; exact p.elim
def endF (r : RS) : Res W := match r with
  | .ok .nx _ h' => .ok .non h'
  | .ok (.rt w) _ h' => .ok w h'
  | .exc c _ h' => .exc c h'
  | _ => .stuck
theorem endF_rt {w : W} {ρ : Ev} {h : Hq} : endF (.ok (.rt w) ρ h) = .ok w h := id rfl
theorem endF_nx {ρ : Ev} {h : Hq} : endF (.ok .nx ρ h) = .ok .non h := id rfl
theorem endF_exc {c : Str} {ρ : Ev} {h : Hq} : endF (.exc c ρ h) = .exc c h := id rfl
theorem okp_endF {r : RS} {Q : W → Hq → Prop} : okp (endF r) Q = oks r (fun f _ h' => match f with
  | .nx => Q .non h'
  | .rt w => Q w h'
  | _ => False) := by
  cases r with
  | ok f ρ h => cases f <;> rfl
  | _ => rfl
/-- a loop by what holds behind i turns -/
theorem oks_loop {chk : Hq → Bool} {g : MG} {b : MS} {Q : Fl → Ev → Hq → Prop} (P : Nat → Ev → Hq → Prop) (ws : List W) {ρ : Ev} {h : Hq} (h0 : P 0 ρ h) (hc : ∀ i ρ h, P i ρ h → chk h = true)
    (step : ∀ i w ρ h, ws[i]? = some w → P i ρ h → ∃ ρ1, g w ρ = some ρ1 ∧ oks (b ρ1 h) (fun f ρ' h' => match f with
      | .nx => P (i + 1) ρ' h'
      | .ct => P (i + 1) ρ' h'
      | .bk => Q .nx ρ' h'
      | .rt w => Q (.rt w) ρ' h'))
    (hd : ∀ ρ h, P ws.length ρ h → Q .nx ρ h) : oks (loopF chk g b ws ρ h) Q := by
  have key : ∀ (us : List W) (i : Nat) (ρ : Ev) (h : Hq), us = ws.drop i → i ≤ ws.length → P i ρ h → oks (loopF chk g b us ρ h) Q := by
    intro us
    induction us with
    | nil =>
      intro i ρ h e hi p
      have : i = ws.length := by
        have := congrArg List.length e
        simp at this; omega
      subst this
      unfold loopF
      rw [if_pos (hc _ _ _ p)]
      exact hd _ _ p
    | cons u us ih =>
      intro i ρ h e hi p
      have hlt : i < ws.length := by
        have := congrArg List.length e
        simp at this; omega
      rw [List.drop_eq_getElem_cons hlt] at e
      cases e
      unfold loopF
      rw [if_pos (hc _ _ _ p)]
      obtain ⟨ρ1, e1, q⟩ := step i _ ρ h (List.getElem?_eq_getElem hlt) p
      rw [e1]
      dsimp only
      cases z : b ρ1 h with
      | ok f ρ2 h2 =>
        rw [z] at q
        cases f with
        | nx => exact ih (i + 1) ρ2 h2 rfl hlt q
        | ct => exact ih (i + 1) ρ2 h2 rfl hlt q
        | bk => exact q
        | rt w => exact q
      | exc c ρ2 h2 => rw [z] at q; exact q.elim
      | stuck => rw [z] at q; exact q.elim
  exact key ws 0 ρ h (by simp) (Nat.zero_le _) h0
theorem sizeL : sizeLine = 16777216 := sizeLine_eq

/-! ### the combinators, applied -/
section
variable {ρ : Ev} {h : Hq} {a b c : ME} {f f2 : F2} {m : MA} {t t2 : MT} {s s2 : MS} {g : MG} {gs : MGs} {mf : MF} {w : W} {i n : Nat} {ws : List W}
theorem eV_ap : eV i ρ h = (match ρ[i]? with
  | some (some w) => .ok w h
  | _ => .stuck) := id rfl
theorem eC_ap : eC w ρ h = .ok w h := id rfl
theorem eBin_ap : eBin f a b ρ h = (a ρ h).bind fun x h1 => (b ρ h1).bind fun y h2 => f x y h2 := id rfl
theorem eNeg_ap : eNeg a ρ h = (a ρ h).bind fun x h1 => match x with
  | .int i => .ok (.int (-i)) h1
  | _ => .stuck := id rfl
theorem tB_ap : tB a ρ h = (a ρ h).bind fun x h1 => match x with
  | .bl b => .ok b h1
  | _ => .stuck := id rfl
theorem eChain_ap : eChain f f2 a b c ρ h = (a ρ h).bind fun x h1 => (b ρ h1).bind fun y h2 => (f x y h2).bind fun k h3 => match k with
  | .bl true => (c ρ h3).bind fun z h4 => f2 y z h4
  | .bl false => .ok (.bl false) h3
  | _ => .stuck := id rfl
theorem tTru_ap : tTru a ρ h = (a ρ h).bind fun x h1 => match truW h1 x with
  | some b => .ok b h1
  | none => .stuck := id rfl
theorem tAndM_ap : tAndM t t2 ρ h = (t ρ h).bind fun k h1 => if k then t2 ρ h1 else .ok false h1 := id rfl
theorem tOrM_ap : tOrM t t2 ρ h = (t ρ h).bind fun k h1 => if k then .ok true h1 else t2 ρ h1 := id rfl
theorem tNotM_ap : tNotM t ρ h = (t ρ h).bind fun k h1 => .ok (!k) h1 := id rfl
theorem eAnd_ap : eAnd a b ρ h = (a ρ h).bind fun x h1 => match x with
  | .bl true => b ρ h1
  | .bl false => .ok (.bl false) h1
  | _ => .stuck := id rfl
theorem eOr_ap : eOr a b ρ h = (a ρ h).bind fun x h1 => match x with
  | .bl true => .ok (.bl true) h1
  | .bl false => b ρ h1
  | _ => .stuck := id rfl
theorem eNot_ap : eNot a ρ h = (a ρ h).bind fun x h1 => match x with
  | .bl k => .ok (.bl (!k)) h1
  | _ => .stuck := id rfl
theorem aNil_ap : aNil ρ h = .ok [] h := id rfl
theorem aCons_ap : aCons a m ρ h = (a ρ h).bind fun x h1 => (m ρ h1).bind fun xs h2 => .ok (x :: xs) h2 := id rfl
theorem eTup_ap : eTup m ρ h = (m ρ h).bind fun xs h1 => .ok (.tup xs) h1 := id rfl
theorem eLst_ap : eLst n m ρ h = (m ρ h).bind fun xs h1 => mkL n xs h1 := id rfl
theorem eCB_ap : eCB mf m ρ h = (m ρ h).bind fun xs h1 => mf xs h1 := id rfl
theorem eCB0_ap : eCB0 mf ρ h = mf [] h := id rfl
theorem isiW_ap {T : String} : isiW T a ρ h = (a ρ h).bind fun x h1 => match tyW h1 x with
  | some (.inl s) => match kitB s T with
    | some b => .ok (.bl b) h1
    | none => .stuck
  | some (.inr _) => if isiTs.contains T then .ok (.bl false) h1 else .stuck
  | none => .stuck := id rfl
theorem oNone_ap : oNone ρ h = .ok none h := id rfl
theorem oSome_ap : oSome a ρ h = (a ρ h).bind fun x h1 => match x with
  | .int i => .ok (some i) h1
  | _ => .stuck := id rfl
theorem eSl_ap {lo hi : MO} : eSl n a lo hi ρ h = (a ρ h).bind fun x h1 => (lo ρ h1).bind fun l h2 => (hi ρ h2).bind fun u h3 => slW n x l u h3 := id rfl
theorem sNop_ap : sNop ρ h = .ok .nx ρ h := id rfl
theorem sSeq_ap : sSeq s s2 ρ h = thenS (s ρ h) s2 := id rfl
theorem sExpr_ap : sExpr a ρ h = (a ρ h).toS ρ fun _ h1 => .ok .nx ρ h1 := id rfl
theorem sRet_ap : sRet a ρ h = (a ρ h).toS ρ fun w h1 => .ok (.rt w) ρ h1 := id rfl
theorem sRetN_ap : sRetN ρ h = .ok (.rt .non) ρ h := id rfl
theorem sBrk_ap : sBrk ρ h = .ok .bk ρ h := id rfl
theorem sCont_ap : sCont ρ h = .ok .ct ρ h := id rfl
theorem sIf_ap : sIf t s s2 ρ h = (t ρ h).toS ρ fun k h1 => if k then s ρ h1 else s2 ρ h1 := id rfl
theorem gN_ap : gN i w ρ = some (ρ.set i (some w)) := id rfl
theorem gT_ap : gT n gs (.tup ws) ρ = if ws.length = n then gs ws ρ else none := id rfl
theorem gsNil_ap : gsNil [] ρ = some ρ := id rfl
theorem gsCons_ap : gsCons g gs (w :: ws) ρ = match g w ρ with
  | some ρ' => gs ws ρ'
  | none => none := id rfl
theorem sAsg_ap : sAsg a g ρ h = (a ρ h).toS ρ fun w h1 => match g w ρ with
  | some ρ' => .ok .nx ρ' h1
  | none => .stuck := id rfl
theorem iAny_ap : iAny a ρ h = (a ρ h).bind iterW := id rfl
theorem iRng1W_ap : iRng1W m ρ h = (m ρ h).bind fun xs h1 => match xs with
  | [.int j] => if i62 j then .ok ⟨rngL 0 j.toNat, fun _ => true⟩ h1 else .stuck
  | _ => .stuck := id rfl
theorem iRng2W_ap : iRng2W m ρ h = (m ρ h).bind fun xs h1 => match xs with
  | [.int i, .int j] => if i62 i && i62 j then .ok ⟨rngL i (j - i).toNat, fun _ => true⟩ h1 else .stuck
  | _ => .stuck := id rfl
theorem sFor_ap {mi : MI} : sFor mi g s ρ h = (mi ρ h).toS ρ fun r h1 => loopF r.chk g s r.items ρ h1 := id rfl
theorem iterW_tup : iterW (.tup ws) h = .ok ⟨ws, fun _ => true⟩ h := id rfl
theorem iterW_str {z : Str} : iterW (.str z) h = .ok ⟨z.cps.toList.map fun c => .str ⟨#[c]⟩, fun _ => true⟩ h := id rfl
theorem iterW_frz : iterW (.frz ws) h = .ok ⟨ws, stillL (.frz ws) ws⟩ h := id rfl
theorem iterW_ref {t : Nat} (e : h[n]? = some (.lst t ws)) : iterW (.ref n) h = .ok ⟨ws, stillL (.ref n) ws⟩ h := by
  unfold iterW asL
  simp only [e]
theorem stillL_frz : stillL (.frz ws) ws h = true := stillL_of rfl
theorem stillL_ref {t : Nat} (e : h[n]? = some (.lst t ws)) : stillL (.ref n) ws h = true := stillL_of (by unfold asL; simp only [e])
theorem mkL_ap : mkL n ws h = .ok (.ref h.length) (h ++ [.lst n ws]) := id rfl
end
theorem wideB_big : 10 ^ 60 < wideB := by unfold wideB; decide +kernel
theorem fdivW_ok {i j : Int} {h : Hq} (h0 : 0 < j) (h1 : j ≤ 1000000000000000000000000000000000000000000000000000000000000) : fdivW (.int i) (.int j) h = .ok (.int (i / j)) h := by
  have h2 : j.natAbs < wideB := Nat.lt_of_le_of_lt (show j.natAbs ≤ 10 ^ 60 by omega) wideB_big
  unfold fdivW
  simp only [h0, h2, decide_true, Bool.and_self, if_true]
theorem modW_ok {i j : Int} {h : Hq} (h0 : 0 < j) : modW (.int i) (.int j) h = .ok (.int (i % j)) h := by
  unfold modW
  simp only [h0, if_true]
theorem mulW_l {i j : Int} {h : Hq} (h0 : -18446744073709551616 < i) (h1 : i < 18446744073709551616) : mulW (.int i) (.int j) h = .ok (.int (i * j)) h := by
  unfold mulW small
  have e : ((2 : Int) ^ 64) = 18446744073709551616 := by decide
  simp only [e, h0, h1, decide_true, Bool.and_self, Bool.true_or, if_true]
theorem mulW_r {i j : Int} {h : Hq} (h0 : -18446744073709551616 < j) (h1 : j < 18446744073709551616) : mulW (.int i) (.int j) h = .ok (.int (i * j)) h := by
  unfold mulW small
  have e : ((2 : Int) ^ 64) = 18446744073709551616 := by decide
  simp only [e, h0, h1, decide_true, Bool.and_self, Bool.or_true, if_true]
theorem asL_frz {xs : List W} {h : Hq} : asL h (.frz xs) = some xs := id rfl
theorem asL_ref {n t : Nat} {xs : List W} {h : Hq} (e : h[n]? = some (.lst t xs)) : asL h (.ref n) = some xs := by
  unfold asL
  simp only [e]
theorem slen_app (a b : Str) : (a ++ b).length = a.length + b.length := by
  show (a.cps ++ b.cps).size = _
  rw [Array.size_append]; rfl
theorem slen_one (c : Nat) : (⟨#[c]⟩ : Str).length = 1 := id rfl
theorem i62_of {i : Int} (h : -4611686018427387904 ≤ i) (h2 : i < 4611686018427387904) : i62 i = true := by
  unfold i62
  simp only [Bool.and_eq_true, decide_eq_true_eq]
  omega
theorem rng_get {lo : Int} {n i : Nat} {w : W} (h : (rngL lo n)[i]? = some w) : w = .int (lo + i) ∧ i < n := by
  unfold rngL at h
  rw [List.getElem?_map] at h
  cases q : (List.range n)[i]? with
  | none => rw [q] at h; cases h
  | some c =>
    rw [q] at h
    obtain ⟨hl, e⟩ := List.getElem?_eq_some_iff.mp q
    rw [List.getElem_range] at e
    subst e
    have hn : i < n := by simpa using hl
    cases h
    exact ⟨rfl, hn⟩
theorem rng_len {lo : Int} {n : Nat} : (rngL lo n).length = n := by simp [rngL]
/-- an item of a text -/
theorem str_at {z : Str} {i : Int} (h0 : 0 ≤ i) (h1 : i < z.length) : ∃ c, atI z.cps.toList i = some c ∧ c ∈ z.cps.toList := by
  obtain ⟨k, rfl⟩ := Int.eq_ofNat_of_zero_le h0
  have hk : k < z.cps.toList.length := by
    have : k < z.length := by omega
    simpa [Str.length] using this
  exact ⟨z.cps.toList[k], atI_nat (by simp), List.getElem_mem _⟩
theorem list_at {α : Type} {z : List α} {i : Int} (h0 : 0 ≤ i) (h1 : i < z.length) : ∃ c, atI z i = some c ∧ z[i.toNat]? = some c ∧ c ∈ z := by
  obtain ⟨k, rfl⟩ := Int.eq_ofNat_of_zero_le h0
  have hk : k < z.length := by omega
  exact ⟨z[k], atI_nat (by simp), by simp, List.getElem_mem _⟩
theorem ordcW_one {c : Nat} {h : Hq} : ordcW [.str ⟨#[c]⟩] h = .ok (.int (c : Nat)) h := id rfl
theorem kit_NoneType_int : kitB "NoneType" "int" = some false := by decide +kernel
theorem kit_NoneType_bool : kitB "NoneType" "bool" = some false := by decide +kernel
theorem kit_NoneType_str : kitB "NoneType" "str" = some false := by decide +kernel
theorem kit_NoneType_list : kitB "NoneType" "list" = some false := by decide +kernel
theorem kit_NoneType_tuple : kitB "NoneType" "tuple" = some false := by decide +kernel
theorem kit_NoneType_dict : kitB "NoneType" "dict" = some false := by decide +kernel
theorem kit_bool_int : kitB "bool" "int" = some true := by decide +kernel
theorem kit_bool_bool : kitB "bool" "bool" = some true := by decide +kernel
theorem kit_bool_str : kitB "bool" "str" = some false := by decide +kernel
theorem kit_bool_list : kitB "bool" "list" = some false := by decide +kernel
theorem kit_bool_tuple : kitB "bool" "tuple" = some false := by decide +kernel
theorem kit_bool_dict : kitB "bool" "dict" = some false := by decide +kernel
theorem kit_int_int : kitB "int" "int" = some true := by decide +kernel
theorem kit_int_bool : kitB "int" "bool" = some false := by decide +kernel
theorem kit_int_str : kitB "int" "str" = some false := by decide +kernel
theorem kit_int_list : kitB "int" "list" = some false := by decide +kernel
theorem kit_int_tuple : kitB "int" "tuple" = some false := by decide +kernel
theorem kit_int_dict : kitB "int" "dict" = some false := by decide +kernel
theorem kit_str_int : kitB "str" "int" = some false := by decide +kernel
theorem kit_str_bool : kitB "str" "bool" = some false := by decide +kernel
theorem kit_str_str : kitB "str" "str" = some true := by decide +kernel
theorem kit_str_list : kitB "str" "list" = some false := by decide +kernel
theorem kit_str_tuple : kitB "str" "tuple" = some false := by decide +kernel
theorem kit_str_dict : kitB "str" "dict" = some false := by decide +kernel
theorem kit_tuple_int : kitB "tuple" "int" = some false := by decide +kernel
theorem kit_tuple_bool : kitB "tuple" "bool" = some false := by decide +kernel
theorem kit_tuple_str : kitB "tuple" "str" = some false := by decide +kernel
theorem kit_tuple_list : kitB "tuple" "list" = some false := by decide +kernel
theorem kit_tuple_tuple : kitB "tuple" "tuple" = some true := by decide +kernel
theorem kit_tuple_dict : kitB "tuple" "dict" = some false := by decide +kernel
theorem kit_list_int : kitB "list" "int" = some false := by decide +kernel
theorem kit_list_bool : kitB "list" "bool" = some false := by decide +kernel
theorem kit_list_str : kitB "list" "str" = some false := by decide +kernel
theorem kit_list_list : kitB "list" "list" = some true := by decide +kernel
theorem kit_list_tuple : kitB "list" "tuple" = some false := by decide +kernel
theorem kit_list_dict : kitB "list" "dict" = some false := by decide +kernel
theorem kit_dict_int : kitB "dict" "int" = some false := by decide +kernel
theorem kit_dict_bool : kitB "dict" "bool" = some false := by decide +kernel
theorem kit_dict_str : kitB "dict" "str" = some false := by decide +kernel
theorem kit_dict_list : kitB "dict" "list" = some false := by decide +kernel
theorem kit_dict_tuple : kitB "dict" "tuple" = some false := by decide +kernel
theorem kit_dict_dict : kitB "dict" "dict" = some true := by decide +kernel
section
variable {t : Nat} {i j : Int} {a b : Str} {xs ys : List W} {m n : Nat} {h : Hq} {neg p r : Bool}
theorem addW_ii : addW t (.int i) (.int j) h = .ok (.int (i + j)) h := id rfl
theorem addW_ss : addW t (.str a) (.str b) h = if a.length + b.length ≤ sizeLine then .ok (.str (a ++ b)) h else .stuck := id rfl
theorem addW_tt : addW t (.tup xs) (.tup ys) h = if xs.length + ys.length ≤ sizeLine then .ok (.tup (xs ++ ys)) h else .stuck := id rfl
theorem subW_ii : subW (.int i) (.int j) h = .ok (.int (i - j)) h := id rfl
theorem eqW_ii : eqW neg (.int i) (.int j) h = .ok (.bl (xor neg (decide (i = j)))) h := id rfl
theorem eqW_ss : eqW neg (.str a) (.str b) h = .ok (.bl (xor neg (decide (a = b)))) h := id rfl
theorem eqW_bb : eqW neg (.bl p) (.bl r) h = .ok (.bl (xor neg (decide (p = r)))) h := id rfl
theorem eqW_nn : eqW neg .non .non h = .ok (.bl (xor neg true)) h := id rfl
theorem eqW_ni : eqW neg .non (.int i) h = .ok (.bl neg) h := id rfl
theorem eqW_in : eqW neg (.int i) .non h = .ok (.bl neg) h := id rfl
theorem eqW_nb : eqW neg .non (.bl p) h = .ok (.bl neg) h := id rfl
theorem eqW_bn : eqW neg (.bl p) .non h = .ok (.bl neg) h := id rfl
theorem eqW_ns : eqW neg .non (.str a) h = .ok (.bl neg) h := id rfl
theorem eqW_sn : eqW neg (.str a) .non h = .ok (.bl neg) h := id rfl
theorem eqW_is : eqW neg (.int i) (.str a) h = .ok (.bl neg) h := id rfl
theorem eqW_si : eqW neg (.str a) (.int i) h = .ok (.bl neg) h := id rfl
theorem eqW_bs : eqW neg (.bl p) (.str a) h = .ok (.bl neg) h := id rfl
theorem eqW_sb : eqW neg (.str a) (.bl p) h = .ok (.bl neg) h := id rfl
theorem ltW_ii : ltW (.int i) (.int j) h = .ok (.bl (decide (i < j))) h := id rfl
theorem leW_ii : leW (.int i) (.int j) h = .ok (.bl (decide (i ≤ j))) h := id rfl
theorem gtW_ii : gtW (.int i) (.int j) h = .ok (.bl (decide (j < i))) h := id rfl
theorem geW_ii : geW (.int i) (.int j) h = .ok (.bl (decide (j ≤ i))) h := id rfl
theorem lenW_s : lenW [.str a] h = if a.length ≤ sizeLine then .ok (.int a.length) h else .stuck := id rfl
theorem lenW_t : lenW [.tup xs] h = .ok (.int xs.length) h := id rfl
theorem lenW_f : lenW [.frz xs] h = .ok (.int xs.length) h := id rfl
theorem lenW_r : lenW [.ref n] h = (match h[n]? with
  | some (.lst _ ys) => .ok (.int ys.length) h
  | some (.dct _ false kvs) => .ok (.int kvs.length) h
  | _ => .stuck) := id rfl
theorem absW_i : absW [.int i] h = .ok (.int (if i < 0 then -i else i)) h := id rfl
theorem max2W_i : max2W [.int i, .int j] h = .ok (.int (if j > i then j else i)) h := id rfl
theorem min2W_i : min2W [.int i, .int j] h = .ok (.int (if j < i then j else i)) h := id rfl
theorem intcW_i : intcW [.int i] h = .ok (.int i) h := id rfl
theorem intcW_b : intcW [.bl p] h = .ok (.int (if p then 1 else 0)) h := id rfl
theorem ixW_t : ixW (.tup xs) (.int i) h = (match atI xs i with
  | some w => .ok w h
  | none => .stuck) := id rfl
theorem ixW_s : ixW (.str a) (.int i) h = if a.length ≤ sizeLine then (match atI a.cps.toList i with
    | some c => .ok (.str ⟨#[c]⟩) h
    | none => .stuck) else .stuck := id rfl
theorem ixW_f : ixW (.frz xs) (.int i) h = (match atI xs i with
  | some w => .ok w h
  | none => .stuck) := id rfl
theorem asL_r : asL h (.ref n) = (match h[n]? with
  | some (.lst _ xs) => some xs
  | _ => none) := id rfl
theorem ixW_r : ixW (.ref n) (.int i) h = (match asL h (.ref n) with
  | some xs => (match atI xs i with
    | some w => .ok w h
    | none => .stuck)
  | none => .stuck) := id rfl
theorem slW_t {lo hi : Option Int} : slW t (.tup xs) lo hi h = .ok (.tup (cutL xs lo hi)) h := id rfl
theorem slW_s {lo hi : Option Int} : slW t (.str a) lo hi h = if a.length ≤ sizeLine then .ok (.str (cutS a lo hi)) h else .stuck := id rfl
theorem slW_f {lo hi : Option Int} : slW t (.frz xs) lo hi h = mkL t (cutL xs lo hi) h := id rfl
theorem slW_r {lo hi : Option Int} : slW t (.ref n) lo hi h = (match asL h (.ref n) with
  | some xs => mkL t (cutL xs lo hi) h
  | none => .stuck) := id rfl
theorem iterW_r : iterW (.ref n) h = (match asL h (.ref n) with
  | some ys => .ok ⟨ys, stillL (.ref n) ys⟩ h
  | none => .stuck) := id rfl
theorem isNW_n : isNW neg .non .non h = .ok (.bl (xor neg true)) h := id rfl
theorem isNW_i : isNW neg (.int i) .non h = .ok (.bl (xor neg false)) h := id rfl
theorem isNW_b : isNW neg (.bl p) .non h = .ok (.bl (xor neg false)) h := id rfl
theorem isNW_s : isNW neg (.str a) .non h = .ok (.bl (xor neg false)) h := id rfl
theorem isNW_t : isNW neg (.tup xs) .non h = .ok (.bl (xor neg false)) h := id rfl
theorem isNW_f : isNW neg (.frz xs) .non h = .ok (.bl (xor neg false)) h := id rfl
theorem isNW_r : isNW neg (.ref n) .non h = .ok (.bl (xor neg false)) h := id rfl
theorem mulNS_ap : mulNS (.int i) (.str a) h = if decide (2 ≤ i ∧ i ≤ 1000) && decide (1 ≤ a.length ∧ a.length ≤ 1000) then .ok (.str ⟨(List.replicate i.toNat a.cps).foldl (· ++ ·) #[]⟩) h else .stuck := id rfl
theorem powW_ap : powW (.int i) (.int j) h = if decide (0 ≤ j ∧ j ≤ 1000000) && decide (i.natAbs < 2 ^ 64) then .ok (.int (i ^ j.toNat)) h else .stuck := id rfl
end
theorem cutS_len (z : Str) (lo hi : Option Int) : (cutS z lo hi).length ≤ z.length := by
  unfold cutS Str.length
  simp
  omega
theorem cutS_pos (z : Str) (k : Int) (h0 : 1 ≤ k) (hz : 0 < z.length) : 0 < (cutS z none (some k)).length := by
  unfold cutS
  show 0 < Array.size _
  simp only [HT.sIx, List.drop_zero, List.size_toArray, List.length_take]
  rw [if_neg (by omega)]
  have : z.cps.toList.length = z.length := by simp [Str.length]
  omega
theorem cutS_to (z : Str) (k : Int) (h0 : 0 ≤ k) : (cutS z none (some k)).length ≤ k.toNat := by
  unfold cutS
  show Array.size _ ≤ _
  simp only [HT.sIx, List.drop_zero, List.size_toArray, List.length_take]
  rw [if_neg (by omega)]
  omega

theorem loopF_nil {chk : Hq → Bool} {g : MG} {b : MS} {ρ : Ev} {h : Hq} : loopF chk g b [] ρ h = if chk h then .ok .nx ρ h else .stuck := id rfl
def turnF (r : RS) (k : Ev → Hq → RS) : RS := match r with
  | .ok .nx ρ h => k ρ h
  | .ok .ct ρ h => k ρ h
  | .ok .bk ρ h => .ok .nx ρ h
  | r => r
theorem turnF_nx {ρ : Ev} {h : Hq} {k : Ev → Hq → RS} : turnF (.ok .nx ρ h) k = k ρ h := id rfl
theorem turnF_ct {ρ : Ev} {h : Hq} {k : Ev → Hq → RS} : turnF (.ok .ct ρ h) k = k ρ h := id rfl
theorem turnF_bk {ρ : Ev} {h : Hq} {k : Ev → Hq → RS} : turnF (.ok .bk ρ h) k = .ok .nx ρ h := id rfl
theorem turnF_rt {w : W} {ρ : Ev} {h : Hq} {k : Ev → Hq → RS} : turnF (.ok (.rt w) ρ h) k = .ok (.rt w) ρ h := id rfl
theorem turnF_exc {c : Str} {ρ : Ev} {h : Hq} {k : Ev → Hq → RS} : turnF (.exc c ρ h) k = .exc c ρ h := id rfl
theorem loopF_cons {chk : Hq → Bool} {g : MG} {b : MS} {w : W} {ws : List W} {ρ : Ev} {h : Hq} : loopF chk g b (w :: ws) ρ h = if chk h then (match g w ρ with
    | some ρ1 => turnF (b ρ1 h) (loopF chk g b ws)
    | none => .stuck) else .stuck := by
  conv => lhs; unfold loopF
  by_cases c : chk h = true
  · rw [if_pos c, if_pos c]
    cases g w ρ with
    | none => rfl
    | some ρ1 =>
      dsimp only
      cases b ρ1 h with
      | ok f ρ2 h2 => cases f <;> rfl
      | exc c ρ2 h2 => rfl
      | stuck => rfl
  · rw [if_neg c, if_neg c]
theorem stillL_ap {x : W} {xs : List W} {h : Hq} : stillL x xs h = (match asL h x with
  | some ys => W.beqs xs ys
  | none => false) := id rfl
end Z

/-! Q: objects: attributes, properties, methods, static methods, making; raise, try. -/
namespace Z
open PySem PySem.Spec PyProof.Rows L2

/-! ### attributes -/
def putW (f : Str) (v : W) : List (Str × W) → List (Str × W)
  | [] => [(f, v)]
  | (g, x) :: r => if g = f then (g, v) :: r else (g, x) :: putW f v r
section
variable {K : PySem.W.Frag} {H : Hp} {R : List Addr}
theorem RF.get {f : Str} : ∀ {fs : List (Str × W)} {vs : List (Str × V)} {x : W}, RF K H R fs vs → fs.lookup f = some x → ∃ v, vs.lookup f = some v ∧ RV K H R x v
  | [], _, _, _, e => by cases e
  | (g, y) :: r, _, x, h, e => by
    cases h with
    | cons a b =>
      rw [List.lookup_cons] at e ⊢
      cases q : (f == g) with
      | true => rw [q] at e; cases e; exact ⟨_, rfl, a⟩
      | false => rw [q] at e; exact RF.get b e
theorem RF.none {f : Str} : ∀ {fs : List (Str × W)} {vs : List (Str × V)}, RF K H R fs vs → fs.lookup f = .none → vs.lookup f = .none
  | [], _, h, _ => by cases h; rfl
  | (g, y) :: r, _, h, e => by
    cases h with
    | cons a b =>
      rw [List.lookup_cons] at e ⊢
      cases q : (f == g) with
      | true => rw [q] at e; cases e
      | false => rw [q] at e; exact RF.none b e
theorem RF.put {f : Str} {x : W} {v : V} (rx : RV K H R x v) : ∀ {fs : List (Str × W)} {vs : List (Str × V)}, RF K H R fs vs → RF K H R (putW f x fs) (putF f v vs)
  | [], _, h => by cases h; exact .cons rx .nil
  | (g, y) :: r, _, h => by
    cases h with
    | cons a b =>
      unfold putW putF
      by_cases e : g = f
      · rw [if_pos e, if_pos e]; exact .cons rx b
      · rw [if_neg e, if_neg e]; exact .cons a (RF.put rx b)
theorem RF.length {fs vs} (h : RF K H R fs vs) : fs.length = vs.length := by
  induction h with
  | nil => rfl
  | cons _ _ ih => simp [ih]
end
section
variable {cm : Str → Addr} {X : Cx} {Wx : WX}
/-- the class and the attributes of an object -/
def asI (h : Hq) : W → Option (Nat × Str × List (Str × W))
  | .ref n => match h[n]? with
    | some (.ins c fs) => some (n, c, fs)
    | _ => none
  | _ => none
theorem asI_ok {h : Hq} {R H} {x : W} {n : Nat} {c : Str} {fs : List (Str × W)} {v : V} (hh : RH X.K cm h R H) (r : RV X.K H R x v) (e : asI h x = some (n, c, fs)) :
    ∃ a dx vs, x = .ref n ∧ v = .ref a ∧ R[n]? = some a ∧ H a = some (.ins (cm c) dx vs) ∧ RF X.K H R fs vs ∧ CI X.K c (cm c) := by
  cases x with
  | ref m =>
    cases r with
    | ref q =>
      unfold asI at e
      cases z : h[m]? with
      | none => simp [z] at e
      | some o =>
        have ro := hh.get q z
        cases o with
        | ins c' fs' =>
          simp only [z, Option.some.injEq, Prod.mk.injEq] at e
          obtain ⟨rfl, rfl, rfl⟩ := e
          cases ro with | ins a b i => exact ⟨_, _, _, rfl, rfl, q, a, b, i⟩
        | _ => simp [z] at e
  | _ => simp [asI] at e
def fldW (f : Str) (x : W) (h : Hq) : Res W := match asI h x with
  | some (_, c, fs) => if (fieldsOf c).contains f then (match fs.lookup f with
    | some w => .ok w h
    | none => .stuck) else .stuck
  | none => .stuck
def eFld (f : Str) (a : ME) : ME := fun ρ h => (a ρ h).bind fun x h1 => fldW f x h1
theorem q_fld {f : Str} {e : Expr} {m : ME} {pos : Pos} (he : QE cm X Wx e m) (hb : attributeBase e f X.env (eval e X.env) = eval e X.env := by rfl) : QE cm X Wx (.Attribute e f pos) (eFld f m) := by
  obtain ⟨t, p, s⟩ := he
  refine ⟨_, pe_fld p hb, fun σ ρ h R H Q hρ hh pp => ?_⟩
  refine s σ ρ h R H _ hρ hh (Post.mono (Post.bind pp) fun x h1 R1 H1 e1 x1 p1 => fun v r => ?_)
  unfold fldW at p1
  cases z : asI h1 x with
  | none => simp only [z] at p1; exact p1.elim
  | some k =>
    obtain ⟨n, c, fs⟩ := k
    simp only [z] at p1
    obtain ⟨a, dx, vs, rfl, rfl, hn, ha, rf, ci⟩ := asI_ok x1 r z
    split at p1
    · rename_i hc
      cases zl : fs.lookup f with
      | none => simp only [zl] at p1; exact p1.elim
      | some w =>
        simp only [zl] at p1
        obtain ⟨u, hu, ru⟩ := rf.get zl
        exact ⟨a, _, dx, vs, u, rfl, ha, ci.cl, ci.na f (by simpa using hc), hu, post_v p1 x1 ru⟩
    · exact p1.elim
/-- o.f = e -/
def setW (f : Str) (x y : W) (h : Hq) : Option Hq := match asI h x with
  | some (n, c, fs) => if (fieldsOf c).contains f && decide (fs.length < 1000) then some (h.set n (.ins c (putW f y fs))) else none
  | none => none
def sFld (f : Str) (o e : ME) : MS := fun ρ h => (e ρ h).toS ρ fun y h1 => (o ρ h1).toS ρ fun x h2 => match setW f x y h2 with
  | some h3 => .ok .nx ρ h3
  | none => .stuck
theorem qs_fld {f : Str} {o e : Expr} {mo me : ME} {pos pos' : Pos} (ho : QE cm X Wx o mo) (he : QE cm X Wx e me) (hs : swapsWith e (some (.Attribute o f pos')) pos.line X.env = pure false := by rfl) : QS cm X Wx (.Assign [.Attribute o f pos'] e pos) (sFld f mo me) := by
  obtain ⟨to, po, so⟩ := ho
  obtain ⟨te, pe, se⟩ := he
  refine ⟨_, ps_fld po pe hs, fun σ ρ h R H D hρ hh pp => ?_⟩
  refine se σ ρ h R H _ hρ hh (Post.mono (PostS.toS hρ pp) fun y h1 R1 H1 e1 x1 p1 => fun vy ry => ?_)
  refine so σ ρ h1 R1 H1 _ (hρ.ext e1) x1 (Post.mono (PostS.toS (hρ.ext e1) p1) fun x h2 R2 H2 e2 x2 p2 => fun vx rx => ?_)
  unfold setW at p2
  cases z : asI h2 x with
  | none => simp only [z] at p2; exact p2.elim
  | some k =>
    obtain ⟨n, c, fs⟩ := k
    simp only [z] at p2
    obtain ⟨a, dx, vs, rfl, rfl, hn, ha, rf, ci⟩ := asI_ok x2 rx z
    by_cases hc : ((fieldsOf c).contains f && decide (fs.length < 1000)) = true
    · simp only [hc, if_true] at p2
      simp only [Bool.and_eq_true, decide_eq_true_eq] at hc
      refine ⟨a, _, dx, vs, rfl, ha, ci.cl, ci.na f (by simpa using hc.1), by rw [← rf.length]; exact hc.2, ?_⟩
      have ex : Ext X.K R2 H2 R2 (upd H2 a (.ins (cm c) dx (putF f vy vs))) := Ext.write hn ha (fun _ q => by cases q) (fun _ _ q => by cases q)
      have ry2 := RV.ext e2 _ _ ry
      exact p2 R2 _ σ ex (x2.write hn ha (fun _ q => by cases q) (fun _ _ q => by cases q) (.ins upd_same (RF.ext ex (RF.put ry2 rf)) ci)) (((hρ.ext e1).ext e2).ext ex)
    · simp only [Bool.not_eq_true] at hc
      simp only [hc, Bool.false_eq_true, if_false] at p2
      exact p2.elim

/-! ### methods -/
/-- a method of a class, by its shallow function -/
structure Met (X : Cx) (cm : Str → Addr) (k : Nat) (c m : Str) (g : MF) : Prop where
  ex : ∃ (f : Addr) (fd : FuncData) (ps : List Str), Cls X.K (cm c) ∧ Meth X.K (cm c) m f ∧ FnOk X.prog X.w X.K X.mg X.base (L2.CX X.prog X.w) k f fd ps (spM X.K cm g) ∧ Binds X.K fd ps []
def eMeth (c m : Str) (g : MF) (o : ME) (a : MA) : ME := fun ρ h => (o ρ h).bind fun x h1 => match asI h1 x with
  | some (_, c', fs) => if c' = c ∧ fs.lookup m = none then (a ρ h1).bind fun ws h2 => g (x :: ws) h2 else .stuck
  | none => .stuck
def tMethQ (cm : Str → Addr) (K : PySem.W.Frag) (Wx : WX) (c m : Str) (g : MF) (to : TE) (t : TA) : TE := fun σ H Q => to σ H fun x H1 => ∃ a dx fs, x = .ref a ∧ H1 a = some (.ins (cm c) dx fs) ∧ fs.lookup m = none ∧ t σ H1 fun vs H2 => spM K cm g (x :: vs) H2 Q (WE Wx σ)
theorem meth_ok {to : TE} {t : TA} {c m : Str} {g : MF} {mo : ME} {ma : MA}
    (so : ∀ σ ρ h R H Q, REnv X.K H R ρ σ → RH X.K cm h R H → Post X.K cm R H (EXw cm Wx σ) (OKv X.K Q) (mo ρ h) → to σ H Q)
    (sa : ∀ σ ρ h R H Q, REnv X.K H R ρ σ → RH X.K cm h R H → Post X.K cm R H (EXw cm Wx σ) (OKs X.K Q) (ma ρ h) → t σ H Q) :
    ∀ σ ρ h R H Q, REnv X.K H R ρ σ → RH X.K cm h R H → Post X.K cm R H (EXw cm Wx σ) (OKv X.K Q) (eMeth c m g mo ma ρ h) → tMethQ cm X.K Wx c m g to t σ H Q := fun σ ρ h R H Q hρ hh pp => by
  refine so σ ρ h R H _ hρ hh (Post.mono (Post.bind pp) fun x h1 R1 H1 e1 x1 p1 => fun v r => ?_)
  cases z : asI h1 x with
  | none => simp only [z] at p1; exact p1.elim
  | some k =>
    obtain ⟨n, c', fs⟩ := k
    simp only [z] at p1
    obtain ⟨a, dx, vs, rfl, rfl, hn, ha, rf, ci⟩ := asI_ok x1 r z
    split at p1
    · rename_i hc
      obtain ⟨rfl, hl⟩ := hc
      refine ⟨a, dx, vs, rfl, ha, rf.none hl, ?_⟩
      exact sa σ ρ h1 R1 H1 _ (hρ.ext e1) x1 (Post.mono (Post.bind p1) fun ws h2 R2 H2 e2 x2 p2 => fun us rs => ⟨_, h2, R2, .cons (RV.ext e2 _ _ r) rs, x2, p2⟩)
    · exact p1.elim
theorem q_meth {c m : Str} {k j : Nat} {g : MF} {o e : Expr} {es : List Expr} {mo : ME} {ma : MA} {apos pos : Pos} {pl : Sem Bool} (M : Met X cm k c m g) (tk : Takes X Wx) (hr : Room j X.A) (hk : k ≤ j) (ho : QE cm X Wx o mo) (ha : QAn cm X Wx (e :: es) ma)
    (hst : starEach (e :: es) X.env = (false, eval e X.env) :: starEach es X.env := by rfl) (hpl : (backTo pos (starEach es X.env)).any (·.1) = false := by rfl)
    (hev : eval (.Call (.Attribute o m apos) (e :: es) [] pos) X.env = (do
      let ov ← eval o X.env
      standAt apos.atName
      let (f, first) ← holding [ov] (getMethod ov m pl)
      callWith pos f first (backTo pos (starEach (e :: es) X.env)) (backToKw pos (keywordEach [] X.env))) := by rfl) :
    QE cm X Wx (.Call (.Attribute o m apos) (e :: es) [] pos) (eMeth c m g mo ma) := by
  obtain ⟨to, po, so⟩ := ho
  obtain ⟨⟨t, pa, sa⟩, _⟩ := ha
  obtain ⟨f, fd, ps, cl, me, F, hb⟩ := M.ex
  refine ⟨tMethQ cm X.K Wx c m g to t, ⟨fun pins s σ H Q I hq => ?_⟩, meth_ok so sa⟩
  refine PySem.W.methodCall_KW (pl := pl) (thn (po.run pins s σ H _ I hq) fun u s1 hz => ?_) hev
  obtain ⟨x, H1, I1, rx, a, dx, fs, ex, ea, l, q⟩ := hz
  subst ex
  cases (show u = Value.ref a from rx)
  refine getmeth_ok I1 ea cl me l (PySem.W.callWith_K (first := [.ref a]) (h₀ := X.base) I.ok.mod.kin me.kp (thn (pa.run pos pins s1 σ H1 _ I1 q) fun us s2 hz2 => ?_) hst hpl)
  obtain ⟨vs, H2, I2, rr, q2⟩ := hz2
  exact ⟨I2.kIn, run_fnS (us := .ref a :: us) (vs := .ref a :: vs) (E := WE Wx) (F.mono hk) hr hb (passAt tk σ) I2 (.cons rfl rr) q2⟩
theorem q_meth0 {c m : Str} {k j : Nat} {g : MF} {o : Expr} {mo : ME} {apos pos : Pos} {pl : Sem Bool} (M : Met X cm k c m g) (tk : Takes X Wx) (hr : Room j X.A) (hk : k ≤ j) (ho : QE cm X Wx o mo)
    (hev : eval (.Call (.Attribute o m apos) [] [] pos) X.env = (do
      let ov ← eval o X.env
      standAt apos.atName
      let (f, first) ← holding [ov] (getMethod ov m pl)
      callWith pos f first (backTo pos (starEach [] X.env)) (backToKw pos (keywordEach [] X.env))) := by rfl) :
    QE cm X Wx (.Call (.Attribute o m apos) [] [] pos) (eMeth c m g mo aNil) := by
  obtain ⟨to, po, so⟩ := ho
  obtain ⟨f, fd, ps, cl, me, F, hb⟩ := M.ex
  refine ⟨tMethQ cm X.K Wx c m g to tNil, ⟨fun pins s σ H Q I hq => ?_⟩, meth_ok so fun σ ρ h R H Q _ hh p => p R H Ext.refl hh [] .nil⟩
  refine PySem.W.methodCall_KW (pl := pl) (thn (po.run pins s σ H _ I hq) fun u s1 hz => ?_) hev
  obtain ⟨x, H1, I1, rx, a, dx, fs, ex, ea, l, q⟩ := hz
  subst ex
  cases (show u = Value.ref a from rx)
  exact getmeth_ok I1 ea cl me l (PySem.W.callWith_K0 (first := [.ref a]) I1.kIn me.kp (run_fnS (us := [.ref a]) (vs := [.ref a]) (E := WE Wx) (F.mono hk) hr hb (passAt tk σ) I1 (.cons rfl .nil) q))

/-! ### properties -/
structure Prp (X : Cx) (cm : Str → Addr) (k : Nat) (c f : Str) (g : MF) : Prop where
  ex : ∃ (p ga : Addr) (fd : FuncData) (ps : List Str), Cls X.K (cm c) ∧ PropOf X.K (cm c) f p ga ∧ FnOk X.prog X.w X.K X.mg X.base (L2.CX X.prog X.w) k ga fd ps (spM X.K cm g) ∧ Binds X.K fd ps []
def eProp (c : Str) (g : MF) (o : ME) : ME := fun ρ h => (o ρ h).bind fun x h1 => match asI h1 x with
  | some (_, c', _) => if c' = c then (match g [x] h1 with
    | .exc _ _ => .stuck
    | r => r) else .stuck
  | none => .stuck
theorem q_prop {c f : Str} {k j : Nat} {g : MF} {o : Expr} {mo : ME} {pos : Pos} (P : Prp X cm k c f g) (hr : Room j X.A) (hk : k + 1 ≤ j) (ho : QE cm X Wx o mo) (hb : attributeBase o f X.env (eval o X.env) = eval o X.env := by rfl) : QE cm X Wx (.Attribute o f pos) (eProp c g mo) := by
  obtain ⟨to, po, so⟩ := ho
  obtain ⟨p, ga, fd, ps, cl, pr, F, bi⟩ := P.ex
  refine ⟨_, pe_prop (E := E0) po cl pr F (hr.mono hk) bi .nil (passL (X := X.nox)) hb, fun σ ρ h R H Q hρ hh pp => ?_⟩
  refine so σ ρ h R H _ hρ hh (Post.mono (Post.bind pp) fun x h1 R1 H1 e1 x1 p1 => fun v r => ?_)
  cases z : asI h1 x with
  | none => simp only [z] at p1; exact p1.elim
  | some kk =>
    obtain ⟨n, c', fs⟩ := kk
    simp only [z] at p1
    obtain ⟨a, dx, vs, rfl, rfl, hn, ha, rf, ci⟩ := asI_ok x1 r z
    by_cases hc : c' = c
    · subst hc
      simp only [if_true] at p1
      refine ⟨a, dx, vs, rfl, ha, [.ref n], h1, R1, .cons r .nil, x1, ?_⟩
      cases q : g [.ref n] h1 with
      | ok w h2 => simp only [q] at p1; exact p1
      | exc c2 h2 => simp only [q] at p1; exact p1.elim
      | stuck => simp only [q] at p1; exact p1.elim
    · simp only [hc, if_false] at p1; exact p1.elim

/-! ### static methods -/
structure Sta (X : Cx) (cm : Str → Addr) (k : Nat) (c m : Str) (g : MF) : Prop where
  ex : ∃ (mc : Value) (p f : Addr) (fd : FuncData) (ps : List Str) (rest : List Value), X.mg c = some (.ref (cm c)) ∧ (PySem.W.readsIn X.K (cm c) mc = true ∧ PySem.W.specialIn X.K (.ref (cm c)) "__getattribute__" = some (some (.builtin "type.__getattribute__"))) ∧ PySem.W.findCls X.K (.ref (cm c)) mc m = some (.get (.builtin "staticmethod.__get__") (.ref p) .none (.ref (cm c))) ∧
    PySem.W.recIn X.K p "staticmethod" = some (.ref f :: rest) ∧ PySem.W.keepIn X.K (.ref f) = true ∧ FnOk X.prog X.w X.K X.mg X.base (L2.CX X.prog X.w) k f fd ps (spM X.K cm g) ∧ Binds X.K fd ps []
theorem q_stat {c m : Str} {k j : Nat} {g : MF} {e : Expr} {es : List Expr} {ma : MA} {cp apos pos : Pos} {pl : Sem Bool} (S : Sta X cm k c m g) (tk : Takes X Wx) (hr : Room j X.A) (hk : k ≤ j) (hg : Gl X c) (ha : QAn cm X Wx (e :: es) ma) (hdb : (c == ("__debug__" : Str)) = false := by decide)
    (hst : starEach (e :: es) X.env = (false, eval e X.env) :: starEach es X.env := by rfl) (hpl : (backTo pos (starEach es X.env)).any (·.1) = false := by rfl)
    (hev : eval (.Call (.Attribute (.Name c cp) m apos) (e :: es) [] pos) X.env = (do
      let ov ← eval (.Name c cp) X.env
      standAt apos.atName
      let (f, first) ← holding [ov] (getMethod ov m pl)
      callWith pos f first (backTo pos (starEach (e :: es) X.env)) (backToKw pos (keywordEach [] X.env))) := by rfl) :
    QE cm X Wx (.Call (.Attribute (.Name c cp) m apos) (e :: es) [] pos) (eCB g ma) := by
  obtain ⟨⟨t, pa, sa⟩, _⟩ := ha
  obtain ⟨mc, p, f, fd, ps, rest, hm, cr, at_, rc, kp, F, hb⟩ := S.ex
  refine ⟨fun σ H Q => t σ H fun vs H1 => spM X.K cm g vs H1 Q (WE Wx σ), ⟨fun pins s σ H Q I hq => ?_⟩, fun σ ρ h R H Q hρ hh pp => ?_⟩
  · refine PySem.W.methodCall_KW (pl := pl) (ld_glob I hg hm ?_ hdb) hev
    refine PySem.W.method_cls I.kIn cr.2 (PySem.W.cls_bind I.kIn cr.1 at_ (wpAny_call (PySem.W.sm_get (s := { s with toks := s.toks + 1 }) I.kIn rc (PySem.W.handed_on rfl ?_))))
    have I1 := I.tok (s.toks + 1)
    refine PySem.W.callWith_K (h₀ := X.base) I.ok.mod.kin kp (thn (pa.run pos pins _ σ H _ I1 hq) fun us s2 hz => ?_) hst hpl
    obtain ⟨vs, H2, I2, rr, q2⟩ := hz
    exact ⟨I2.kIn, run_fnS (E := WE Wx) (F.mono hk) hr hb (passAt tk σ) I2 rr q2⟩
  · exact sa σ ρ h R H _ hρ hh (Post.mono (Post.bind pp) fun ws h1 R1 H1 e1 x1 p1 => fun us rs => ⟨ws, h1, R1, rs, x1, p1⟩)

/-! ### making -/
structure Mkr (X : Cx) (cm : Str → Addr) (k : Nat) (c : Str) (g : MF) : Prop where
  ci : CI X.K c (cm c)
  ex : ∃ (f : Addr) (fd : FuncData) (ps : List Str), X.mg c = some (.ref (cm c)) ∧ Mk X.K (cm c) f ∧ FnOk X.prog X.w X.K X.mg X.base (L2.CX X.prog X.w) k f fd ps (spM X.K cm g) ∧ Binds X.K fd ps []
def makeW (c : Str) (g : MF) (ws : List W) (h : Hq) : Res W := (g (.ref h.length :: ws) (h ++ [.ins c []])).bind fun r h2 => match r with
  | .non => .ok (.ref h.length) h2
  | _ => .stuck
/-- what a new object's promise is -/
theorem make_new {c : Str} {g : MF} {h : Hq} {R H} {ws : List W} {vs : List V} {EX : Str → Hp → Prop} {Q : VK} {E : XK} (ci : CI X.K c (cm c)) (hh : RH X.K cm h R H) (rs : RVs X.K H R ws vs) (hE : ∀ c H', EX c H' → E (.ref (cm c)) none H')
    (p : Post X.K cm R H EX (OKv X.K Q) (makeW c g ws h)) (x dx : Addr) (nx : H x = none) (nd : H dx = none) (ne : dx ≠ x) :
    spM X.K cm g (.ref x :: vs) (upd (upd H dx (.own x)) x (.ins (cm c) dx [])) (fun v H2 => v = .non ∧ Q (.ref x) H2) E := by
  have hh1 := hh.new (o := .own x) nd
  have nx1 : upd H dx (.own x) x = none := by rw [upd_ne (Ne.symm ne)]; exact nx
  have e1 : Ext X.K R H R (upd H dx (.own x)) := Ext.new nd
  have e2 : Ext X.K R (upd H dx (.own x)) (R ++ [x]) (upd (upd H dx (.own x)) x (.ins (cm c) dx [])) := Ext.newR nx1
  have hh2 := hh1.newR (ob := .ins c []) nx1 (hh.free nx) (.ins (dx := dx) upd_same .nil ci)
  have e12 := e1.trans e2 hh2.nd
  refine ⟨.ref h.length :: ws, h ++ [.ins c []], R ++ [x], .cons (.ref ?_) (RVs.ext e12 _ _ rs), hh2, ?_⟩
  · rw [List.getElem?_append_right (by rw [hh.len]; exact Nat.le_refl _), hh.len, Nat.sub_self]; rfl
  · unfold makeW at p
    have p2 := Post.bind (Post.from_ e12 p)
    cases q : g (.ref h.length :: ws) (h ++ [.ins c []]) with
    | stuck => rw [q] at p2; exact p2.elim
    | exc c2 h2 => rw [q] at p2; exact fun R' H' e' x' => hE _ _ (p2 R' H' e' x')
    | ok r h2 =>
      rw [q] at p2
      intro R' H' e' x' v rv
      have p3 := p2 R' H' e' x'
      cases r with
      | non =>
        cases rv
        refine ⟨rfl, p3 R' H' Ext.refl x' _ (.ref (e'.at_ ?_))⟩
        rw [List.getElem?_append_right (by rw [hh.len]; exact Nat.le_refl _), hh.len, Nat.sub_self]; rfl
      | _ => exact p3.elim
theorem run_makeQ {k : Nat} {f C : Addr} {fd : FuncData} {ps : List Str} {sp : Sp} {E : XK} {pins : List (Addr × Obj)} {σ : L2.St} {H : Hp} {s : Shared} {Q : VK} {us : List Value} {vs : List V} (M : Mk X.K C f) (F : FnOk X.prog X.w X.K X.mg X.base (L2.CX X.prog X.w) k f fd ps sp) (hr : Room (k + 1) X.A) (hb : Binds X.K fd ps [])
    (hx : PassesAt (L2.CX X.prog X.w) X σ E) (I : Inv X pins σ H s) (r : Vals vs us)
    (hq : ∀ x dx, H x = none → H dx = none → dx ≠ x → sp (.ref x :: vs) (upd (upd H dx (.own x)) x (.ins C dx [])) (fun v H2 => v = .non ∧ Q (.ref x) H2) E) :
    wpAny (model X.prog X.w) X.A (call (.ref C) us) (EP X pins σ Q) X.xe s := by
  have p0 := hq (s.heap.objs.size + 1) s.heap.objs.size (I.hok.fresh (Nat.le_succ _)) (I.hok.fresh (Nat.le_refl _)) (Nat.ne_of_lt (Nat.lt_succ_self _))
  have J := Inv.made (C := C) I
  have rr : Vals (V.ref (s.heap.objs.size + 1) :: vs) (Value.ref (s.heap.objs.size + 1) :: us) := .cons rfl r
  have hn : (Value.ref (s.heap.objs.size + 1) :: us).length = ps.length := by rw [← rr.length]; exact F.len _ _ _ _ p0
  have bb := hb _ (Value.ref (s.heap.objs.size + 1) :: us) J.kIn (by rw [List.append_nil]; exact hn)
  rw [List.append_nil] at bb
  refine wpAny_call (make_map (f := f) I.kIn M.makes M.init (beq_iff_eq.mp M.fn) (codeAny_mono (F.run _ X.stack _ _ ⟨Value.ref (s.heap.objs.size + 1) :: us, []⟩ (Value.ref (s.heap.objs.size + 1) :: us) _ _ E (hr.make C us []) (J.env0.make C us []) bb rr p0) fun res s' done => ?_))
  cases res with
  | error er => exact hx pins _ _ er s' J done
  | ok fl =>
    cases fl with
    | ret u =>
      obtain ⟨v, H', I3, rv, ev, q3⟩ := J.after done
      subst ev
      exact ⟨rv, ⟨V.ref (s.heap.objs.size + 1), H', I3, rfl, q3⟩⟩
    | next => exact False.elim done
    | brk => exact False.elim done
    | cont => exact False.elim done
theorem q_make {c : Str} {k j : Nat} {g : MF} {e : Expr} {es : List Expr} {ma : MA} {p pos : Pos} (M : Mkr X cm k c g) (tk : Takes X Wx) (hr : Room j X.A) (hk : k + 1 ≤ j) (hg : Gl X c) (ha : QAn cm X Wx (e :: es) ma) (hdb : (c == ("__debug__" : Str)) = false := by decide)
    (hst : starEach (e :: es) X.env = (false, eval e X.env) :: starEach es X.env := by rfl) (hpl : (backTo pos (starEach es X.env)).any (·.1) = false := by rfl) :
    QE cm X Wx (.Call (.Name c p) (e :: es) [] pos) (eCB (makeW c g) ma) := by
  obtain ⟨⟨t, pa, sa⟩, _⟩ := ha
  obtain ⟨f, fd, ps, hm, mk, F, hb⟩ := M.ex
  refine ⟨fun σ H Q => t σ H fun vs H1 => ∀ x dx, H1 x = none → H1 dx = none → dx ≠ x → spM X.K cm g (.ref x :: vs) (upd (upd H1 dx (.own x)) x (.ins (cm c) dx [])) (fun v H2 => v = .non ∧ Q (.ref x) H2) (WE Wx σ), ⟨fun pins s σ H Q I hq => ?_⟩, fun σ ρ h R H Q hρ hh pp => ?_⟩
  · refine wpAny_Call_Name_kw (ld_glob I hg hm ?_ hdb)
    refine PySem.W.callWith_K (h₀ := X.base) I.ok.mod.kin mk.kp (thn (pa.run pos pins s σ H _ I hq) fun us s1 hz => ?_) hst hpl
    obtain ⟨vs, H1, I1, rr, q1⟩ := hz
    exact ⟨I1.kIn, run_makeQ mk F (hr.mono hk) hb (passAt tk σ) I1 rr q1⟩
  · exact sa σ ρ h R H _ hρ hh (Post.mono (Post.bind pp) fun ws h1 R1 H1 e1 x1 p1 => fun us rs x dx nx nd ne => make_new M.ci x1 rs (fun _ _ z => z) p1 x dx nx nd ne)
theorem q_make0 {c : Str} {k j : Nat} {g : MF} {p pos : Pos} (M : Mkr X cm k c g) (tk : Takes X Wx) (hr : Room j X.A) (hk : k + 1 ≤ j) (hg : Gl X c) (hdb : (c == ("__debug__" : Str)) = false := by decide) :
    QE cm X Wx (.Call (.Name c p) [] [] pos) (eCB0 (makeW c g)) := by
  obtain ⟨f, fd, ps, hm, mk, F, hb⟩ := M.ex
  refine ⟨fun σ H Q => ∀ x dx, H x = none → H dx = none → dx ≠ x → spM X.K cm g [.ref x] (upd (upd H dx (.own x)) x (.ins (cm c) dx [])) (fun v H2 => v = .non ∧ Q (.ref x) H2) (WE Wx σ), ⟨fun pins s σ H Q I hq => ?_⟩, fun σ ρ h R H Q hρ hh pp => ?_⟩
  · refine wpAny_Call_Name_kw (ld_glob I hg hm ?_ hdb)
    exact PySem.W.callWith_K0 I.kIn mk.kp (run_makeQ (us := []) mk F (hr.mono hk) hb (passAt tk σ) I .nil hq)
  · exact fun x dx nx nd ne => make_new M.ci hh .nil (fun _ _ z => z) pp x dx nx nd ne

/-! ### raise -/
structure ExcC (X : Cx) (cm : Str → Addr) (c : Str) : Prop where
  gl : X.mg c = some (.ref (cm c))
  q : PySem.W.excIn X.K (cm c) He.veBase "ValueError.__new__" = true
  kp : PySem.W.keepIn X.K (.ref (cm c)) = true
  sub : PySem.W.subIn X.K (.ref (cm c)) (.type "BaseException") = some true
  ty : PySem.W.typeIn X.K (.ref (cm c)) = some (.type "type")
def sRaise (c : Str) : MS := fun ρ h => .exc c ρ h
theorem qs_raise {c m : Str} {j : Nat} {p p2 pos rpos : Pos} (C : ExcC X cm c) (tk : Takes X Wx) (hc : X.calm = true) (hg : Gl X c) (hdb : (c == ("__debug__" : Str)) = false := by decide) :
    QS cm X Wx (.Raise (some (.Call (.Name c p) [.Constant (.str m) j p2] [] pos)) none rpos) (sRaise c) :=
  ⟨_, ps_raise hc tk (pmk_own PySem.F.excBase_ValueError C.q C.gl C.kp (raises_own C.sub C.ty) hg hdb), fun σ ρ h R H D hρ hh pp => pp R H σ Ext.refl hh hρ⟩

/-! ### try .. except c: suite (the suite raises nothing) -/
def sTry (b : MS) (m : Str → Option Bool) (s : MS) : MS := fun ρ h => match b ρ h with
  | .exc c ρ' h' => match m c with
    | some true => (match s ρ' h' with
      | .exc _ _ _ => .stuck
      | r => r)
    | some false => .exc c ρ' h'
    | none => .stuck
  | r => r
def tQ (cm : Str → Addr) (X : Cx) (W : WX) (m : MS) : TS := fun D σ H => ∃ ρ h R, REnv X.K H R ρ σ ∧ RH X.K cm h R H ∧ PostS cm X W R H D (m ρ h)
theorem QB.run {W : WX} {b : List Stmt} {m : MS} (h : QB cm X W b m) : PSs X b (tQ cm X W m) := by
  obtain ⟨t, p, s⟩ := h
  refine ⟨fun pins st σ H D I q => ?_⟩
  obtain ⟨ρ, h, R, hρ, hh, pp⟩ := q
  exact p.run pins st σ H D I (s σ ρ h R H D hρ hh pp)
theorem qs_try {x : Str} {body suite : List Stmt} {b₀ : Stmt} {np pos pos' : Pos} {mb ms : MS} {mt : Str → Option Bool} (hs : X.stack = X.env :: X.outer) (hf : X.env.frame = some X.env.locals) (hc : Names X x (.ref (cm x))) (tk : Takes X Wx)
    (hm : ∀ c b, mt c = some b → PySem.W.exmOne X.K (.ref (cm c)) (.ref (cm x)) = some b)
    (hb : ∀ (W : WX) (pn : List (Addr × Obj)) (xe : Value → Shared → Prop), Takes (X.tr pn xe) W → PassesOwn (model X.prog X.w) X.A X.env xe → QB cm (X.tr pn xe) W body mb)
    (hsu : ∀ (a : Addr) (oe : Obj) (pn : List (Addr × Obj)), QB cm (X.suite a ((a, oe) :: pn)) (fun _ _ _ _ => False) (b₀ :: suite) ms) :
    QS cm X Wx (.Try body [.ExceptHandler (some (.Name x np)) none (b₀ :: suite) pos'] [] [] pos) (sTry mb mt ms) := by
  refine ⟨_, ps_try_only (tb := fun W => tQ cm X W mb) (ts := fun _ _ _ => tQ cm X (fun _ _ _ _ => False) ms) hs hf hc tk (fun W pn xe tk' hp' => (hb W pn xe tk' hp').run) (fun a oe cls d pn _ _ => (hsu a oe pn).run), fun σ ρ h R H D hρ hh pp => ?_⟩
  refine ⟨ρ, h, R, hρ, hh, ?_⟩
  unfold sTry at pp
  cases q : mb ρ h with
  | ok f ρ' h' => rw [q] at pp; exact pp
  | stuck => rw [q] at pp; exact pp
  | exc c ρ' h' =>
    rw [q] at pp
    dsimp only at pp
    intro R' H' σ' e' x' r'
    cases qm : mt c with
    | none => simp only [qm] at pp; exact pp.elim
    | some b =>
      refine ⟨b, hm c b qm, fun hb => ?_, fun hb => ?_⟩
      · subst hb
        simp only [qm] at pp
        refine fun a _ => ⟨ρ', h', R', r', x', ?_⟩
        cases qs : ms ρ' h' with
        | ok f ρ2 h2 => simp only [qs] at pp; exact PostS.from_ e' pp
        | stuck => simp only [qs] at pp; exact pp.elim
        | exc c2 ρ2 h2 => simp only [qs] at pp; exact pp.elim
      · subst hb
        simp only [qm] at pp
        exact pp R' H' σ' e' x' r'
end
end Z

/-! Q: list comprehensions. -/
namespace Z
open PySem PySem.Spec PyProof.Rows L2

/-! ### by fewer facts: an object that is not told is left out -/
structure Sqs (K : PySem.W.Frag) (H H' : Hp) : Prop where
  t : ∀ a xs, SqT K H a xs → SqT K H' a xs
  f : ∀ a xs, SqF K H a xs → SqF K H' a xs
mutual
theorem RV.sq {K R H H'} (e : Sqs K H H') : ∀ (w : W) (v : V), RV K H R w v → RV K H' R w v
  | .non, _, h => by cases h; exact .non
  | .bl _, _, h => by cases h; exact .bl _
  | .int _, _, h => by cases h; exact .int _
  | .str _, _, h => by cases h; exact .str _
  | .tup xs, _, h => by
    cases h with
    | tup s r => exact .tup (e.t _ _ s) (RVs.sq e xs _ r)
  | .frz xs, _, h => by
    cases h with
    | frz s r => exact .frz (e.f _ _ s) (RVs.sq e xs _ r)
  | .ref _, _, h => by
    cases h with
    | ref q => exact .ref q
  | .exn _ _, _, h => by cases h; exact .exn _ _
theorem RVs.sq {K R H H'} (e : Sqs K H H') : ∀ (ws : List W) (vs : List V), RVs K H R ws vs → RVs K H' R ws vs
  | [], _, h => by cases h; exact .nil
  | w :: ws, _, h => by
    cases h with
    | cons a b => exact .cons (RV.sq e w _ a) (RVs.sq e ws _ b)
end
theorem RD.sq {K R H H'} (e : Sqs K H H') : ∀ {l r}, RD K H R l r → RD K H' R l r := by
  intro l r h
  induction h with
  | nil => exact .nil
  | cons a b _ ih => exact .cons a (RV.sq e _ _ b) ih
theorem RT.sq {K R H H'} (e : Sqs K H H') : ∀ {l r}, RT K H R l r → RT K H' R l r := by
  intro l r h
  induction h with
  | nil => exact .nil
  | cons a b _ ih => exact .cons a (RV.sq e _ _ b) ih
theorem RF.sq {K R H H'} (e : Sqs K H H') : ∀ {l r}, RF K H R l r → RF K H' R l r := by
  intro l r h
  induction h with
  | nil => exact .nil
  | cons b _ ih => exact .cons (RV.sq e _ _ b) ih
theorem RO.sq {K R H H' cm o a} (e : Sqs K H H') (k : ∀ u, H a = Option.some u → H' a = Option.some u) (h : RO K H R cm o a) : RO K H' R cm o a := by
  cases h with
  | lst q r => exact .lst (k _ q) (RVs.sq e _ _ r)
  | dK q r => exact .dK (k _ q) (RD.sq e r)
  | dT q r => exact .dT (k _ q) (RT.sq e r)
  | ins q r c => exact .ins (k _ q) (RF.sq e r) c
theorem REnv.sq {K R H H' ρ σ} (e : Sqs K H H') (h : REnv K H R ρ σ) : REnv K H' R ρ σ :=
  ⟨h.1, fun i w q => let ⟨v, a, b⟩ := h.2 i w q; ⟨v, a, RV.sq e _ _ b⟩⟩
def del (H : Hp) (D : Addr) : Hp := fun a => if a = D then none else H a
theorem del_ne {H : Hp} {D a : Addr} (h : a ≠ D) : del H D a = H a := by unfold del; rw [if_neg h]
theorem del_same {H : Hp} {D : Addr} : del H D D = none := by unfold del; rw [if_pos rfl]
theorem upd_del {H : Hp} {D : Addr} {o : HO} : upd (del H D) D o = upd H D o := by
  funext a
  by_cases e : a = D
  · subst e; rw [upd_same, upd_same]
  · rw [upd_ne e, upd_ne e, del_ne e]
theorem upd_self {H : Hp} {D : Addr} {o : HO} (h : H D = some o) : upd (del H D) D o = H := by
  funext a
  by_cases e : a = D
  · subst e; rw [upd_same, h]
  · rw [upd_ne e, del_ne e]
theorem sqs_del {K : PySem.W.Frag} {H : Hp} {D : Addr} {vs : List V} (h : H D = some (.lst vs)) : Sqs K H (del H D) := by
  refine ⟨fun a xs q => ?_, fun a xs q => ?_⟩
  · rcases q with (q | ⟨ob, q⟩) | q
    · exact .inl (.inl (by rw [del_ne (fun z => by subst z; rw [h] at q; cases q)]; exact q))
    · exact .inl (.inr ⟨ob, by rw [del_ne (fun z => by subst z; rw [h] at q; cases q)]; exact q⟩)
    · exact .inr q
  · rcases q with ⟨ob, q⟩ | q
    · exact .inl ⟨ob, by rw [del_ne (fun z => by subst z; rw [h] at q; cases q)]; exact q⟩
    · exact .inr q
/-- back: D forgotten -/
theorem ext_del {K : PySem.W.Frag} {R R' : List Addr} {Hb H' : Hp} {D : Addr} {vs vs' : List V} (hb : Hb D = none) (e : Ext K R (upd Hb D (.lst vs)) R' H') (h' : H' D = some (.lst vs')) : Ext K R Hb R' (del H' D) := by
  obtain ⟨⟨t, et, ft⟩, s, f, k⟩ := e
  refine ⟨⟨t, et, fun a ha => ?_⟩, fun a xs q => (sqs_del h').t a xs (s a xs (sqT_new hb q)), fun a xs q => (sqs_del h').f a xs (f a xs (sqF_new hb q)), fun a o q hr => ?_⟩
  · have := ft a ha
    by_cases z : a = D
    · subst z; exact hb
    · rwa [upd_ne z] at this
  · have ne : a ≠ D := fun z => by subst z; rw [hb] at q; cases q
    rw [del_ne ne]
    exact k a o (by rw [upd_ne ne]; exact q) hr
theorem rh_del {K : PySem.W.Frag} {cm h R} {H : Hp} {D : Addr} {vs : List V} (x : RH K cm h R H) (h' : H D = some (.lst vs)) (hD : D ∉ R) : RH K cm h R (del H D) := by
  refine ⟨x.len, x.nd, fun n ob q => ?_⟩
  obtain ⟨a, e, r⟩ := x.ob n ob q
  have ne : a ≠ D := fun z => hD (by rw [← z]; exact List.mem_of_getElem? e)
  exact ⟨a, e, r.sq (sqs_del h') fun u q => by rw [del_ne ne]; exact q⟩
theorem notin_ext {K : PySem.W.Frag} {R R' : List Addr} {H H' : Hp} {D : Addr} {o : HO} (e : Ext K R H R' H') (h : H D = some o) (hr : D ∉ R) : D ∉ R' ∧ H' D = some o := by
  obtain ⟨⟨t, et, ft⟩, s, f, k⟩ := e
  refine ⟨fun z => ?_, k D o h hr⟩
  rw [et] at z
  rcases List.mem_append.mp z with z | z
  · exact hr z
  · have := ft D z; rw [h] at this; cases this

/-! ### readings by what is known -/
section
variable {cm : Str → Addr} {X : Cx} {Wx : WX}
abbrev WF : WX := fun _ _ _ _ => False
def tEq (K : PySem.W.Frag) (cm : Str → Addr) (m : ME) : TE := fun σ H Q => ∃ ρ h R, REnv K H R ρ σ ∧ RH K cm h R H ∧ Post K cm R H (fun _ _ => False) (OKv K Q) (m ρ h)
def tTq (K : PySem.W.Frag) (cm : Str → Addr) (m : MT) : TT := fun σ H Q => ∃ ρ h R, REnv K H R ρ σ ∧ RH K cm h R H ∧ Post K cm R H (fun _ _ => False) (OKb Q) (m ρ h)
theorem QE.run {e : Expr} {m : ME} (h : QE cm X WF e m) : PE X e (tEq X.K cm m) := by
  obtain ⟨t, p, s⟩ := h
  exact ⟨fun pins st σ H Q I ⟨ρ, h, R, hρ, hh, pp⟩ => p.run pins st σ H Q I (s σ ρ h R H Q hρ hh pp)⟩
theorem QT.run {e : Expr} {m : MT} (h : QT cm X WF e m) : PT X e (tTq X.K cm m) := by
  obtain ⟨t, p, s⟩ := h
  exact ⟨fun pins st σ H Q I ⟨ρ, h, R, hρ, hh, pp⟩ => p.run pins st σ H Q I (s σ ρ h R H Q hρ hh pp)⟩
/-- a comprehension's tests -/
def QC (cm : Str → Addr) (X : Cx) (ifs : List Expr) (m : MT) : Prop := PTs X ifs (tTq X.K cm m)
def tYesM : MT := fun _ h => .ok true h
theorem qc_nil : QC cm X [] tYesM := ⟨fun pins s σ H Q I ⟨ρ, h, R, hρ, hh, pp⟩ => pts_nil.run pins s σ H Q I (pp R H Ext.refl hh)⟩
theorem qc_one {c : Expr} {m : MT} (h : QT cm X WF c m) : QC cm X [c] m := ⟨fun pins s σ H Q I q => (pts_one h.run).run pins s σ H Q I q⟩
/-- a target that writes the slots vs only -/
def QV (X : Cx) (vs : List Nat) (tg : Expr) (g : MG) : Prop := ∃ t, PG X tg t ∧ ∀ σ ρ R H w v Q, REnv X.K H R ρ σ → RV X.K H R w v → (match g w ρ with
  | some ρ' => ∀ σ', REnv X.K H R ρ' σ' → wipe σ' vs = wipe σ vs → Q σ' H
  | none => False) → t v σ H Q
theorem wipe_set {i : Nat} {o : Option V} : ∀ {vs : List Nat} {σ : L2.St}, i ∈ vs → wipe (σ.set i o) vs = wipe σ vs
  | [], _, h => by cases h
  | v :: vs, σ, h => by
    unfold wipe
    by_cases e : i = v
    · subst e
      by_cases z : i ∈ vs
      · rw [wipe_set z]
      · have key : ∀ (us : List Nat), (wipe (σ.set i o) us).set i none = (wipe σ us).set i none := by
          intro us
          induction us with
          | nil => unfold wipe; rw [List.set_set]
          | cons u us ih =>
            unfold wipe
            by_cases q : u = i
            · subst q; rw [List.set_set, List.set_set]; exact ih
            · rw [List.set_comm _ _ q, ih, List.set_comm _ _ q]
        exact key vs
    · have z : i ∈ vs := by
        rcases List.mem_cons.mp h with q | q
        · exact absurd q e
        · exact q
      rw [wipe_set z]
theorem wipe_sub {vs : List Nat} : ∀ {us : List Nat} {σ : L2.St}, (∀ u ∈ us, u ∈ vs) → wipe (wipe σ us) vs = wipe σ vs
  | [], _, _ => rfl
  | u :: us, σ, h => by
    show wipe ((wipe σ us).set u none) vs = _
    rw [wipe_set (h u (List.mem_cons_self ..)), wipe_sub fun x hx => h x (List.mem_cons_of_mem _ hx)]
theorem wipe_idem {vs : List Nat} {σ : L2.St} : wipe (wipe σ vs) vs = wipe σ vs := wipe_sub fun _ h => h
theorem qv_name (i : Nat) {vs : List Nat} {x : Str} {pos : Pos} (hN : X.N.Nodup) (hv : i ∈ vs := by decide) (hi : X.N[i]? = some x := by rfl) (hx : Loc X.env.scope x := by first | exact Or.inl rfl | exact Or.inr rfl) (hf : X.fn x = true ∨ X.env.scope.names.lookup x = some .local := by first | exact .inl rfl | exact .inr rfl | assumption) : QV X vs (.Name x pos) (gN i) :=
  ⟨_, pg_name hN hi hx hf, fun σ ρ R H w v Q hρ r p => p _ (hρ.set i r) (wipe_set hv)⟩
def QVs (X : Cx) (vs : List Nat) (ts : List Expr) (g : MGs) : Prop := ∃ t, PGs X ts t ∧ ∀ σ ρ R H ws us Q, REnv X.K H R ρ σ → RVs X.K H R ws us → (match g ws ρ with
  | some ρ' => ∀ σ', REnv X.K H R ρ' σ' → wipe σ' vs = wipe σ vs → Q σ' H
  | none => False) → t us σ H Q
theorem qvs_nil {vs} : QVs X vs [] gsNil := ⟨_, pgs_nil, fun σ ρ R H ws us Q hρ r p => by
  cases r with
  | nil => exact ⟨rfl, p σ hρ rfl⟩
  | cons _ _ => exact p.elim⟩
theorem qvs_cons {vs} {e : Expr} {es : List Expr} {a : MG} {r : MGs} (h1 : QV X vs e a) (h2 : QVs X vs es r) (hs : (assignEach (e :: es) X.env).map (·.2) = assign e X.env :: (assignEach es X.env).map (·.2) := by rfl) : QVs X vs (e :: es) (gsCons a r) := by
  obtain ⟨t, p, s⟩ := h1
  obtain ⟨u, q, v⟩ := h2
  refine ⟨_, pgs_cons p q hs, fun σ ρ R H ws us Q hρ rr pp => ?_⟩
  cases rr with
  | nil => exact pp.elim
  | @cons x v1 xs vs' x1 y =>
    refine ⟨_, _, rfl, s σ ρ R H x v1 _ hρ x1 ?_⟩
    have e : gsCons a r (x :: xs) ρ = (match a x ρ with
      | some ρ' => r xs ρ'
      | none => none) := rfl
    rw [e] at pp
    cases q2 : a x ρ with
    | some ρ' =>
      simp only [q2] at pp
      exact fun σ' hρ' w1 => v σ' ρ' R H _ _ _ hρ' y (by
        cases q3 : r xs ρ' with
        | none => rw [q3] at pp; exact pp
        | some ρ2 => rw [q3] at pp; exact fun σ2 h2 w2 => pp σ2 h2 (w2.trans w1))
    | none => simp only [q2] at pp
theorem qv_tup {vs} {es : List Expr} {k : Nat} {g : MGs} {n : Nat} {pos : Pos} (hc : X.calm = true) (h : QVs X vs es g) (hn : (assignEach es X.env).length = n := by rfl) (hst : (assignEach es X.env).findIdx? (·.1) = none := by rfl) : QV X vs (.Tuple es k pos) (gT n g) := by
  obtain ⟨t, p, s⟩ := h
  refine ⟨_, pg_tup hc p hn hst, fun σ ρ R H w v Q hρ r pp => ?_⟩
  cases w with
  | tup xs =>
    cases r with
    | tup sq rs =>
      unfold gT at pp
      dsimp only at pp
      by_cases e : xs.length = n
      · rw [if_pos e] at pp
        exact ⟨_, _, rfl, sq, rs.length.symm.trans e, s σ ρ R H _ _ _ hρ rs pp⟩
      · rw [if_neg e] at pp; exact pp.elim
  | _ => exact pp.elim
def tGq (K : PySem.W.Frag) (vs : List Nat) (g : MG) : TG := fun x σ H Q => ∃ w ρ R, REnv K H R ρ σ ∧ RV K H R w x ∧ (match g w ρ with
  | some ρ' => ∀ σ', REnv K H R ρ' σ' → wipe σ' vs = wipe σ vs → Q σ' H
  | none => False)
theorem QV.run {vs} {tg : Expr} {g : MG} (h : QV X vs tg g) : PG X tg (tGq X.K vs g) := by
  obtain ⟨t, p, s⟩ := h
  exact ⟨fun pins st σ H v u Q I r ⟨w, ρ, R, hρ, rv, pp⟩ => p.run pins st σ H v u Q I r (s σ ρ R H w v Q hρ rv pp)⟩

/-! ### [e for g in i if c] -/
def compF (chk : Hq → Bool) (g : MG) (c : MT) (e : ME) (ρ0 : Ev) : List W → List W → Hq → Res (List W)
  | acc, [] => fun h => if chk h then .ok acc h else .stuck
  | acc, w :: ws => fun h => if chk h then (match g w ρ0 with
    | some ρ1 => (match c ρ1 h with
      | .ok true h1 => (match e ρ1 h1 with
        | .ok y h2 => if acc.length < sizeLine then compF chk g c e ρ0 (acc ++ [y]) ws h2 else .stuck
        | _ => .stuck)
      | .ok false h1 => compF chk g c e ρ0 acc ws h1
      | _ => .stuck)
    | none => .stuck) else .stuck
def eLc (t : Nat) (vs : List Nat) (i : MI) (g : MG) (c : MT) (e : ME) : ME := fun ρ h => (i ρ h).bind fun s h1 => (compF s.chk g c e (wipeW ρ vs) [] s.items h1).bind fun ys h2 => mkL t ys h2
theorem lc_ok {t : Nat} {vs : List Nat} {wi : TI} {mi : MI} {g : MG} {c : MT} {e : ME}
    (si : ∀ σ ρ h R H Rk, REnv X.K H R ρ σ → RH X.K cm h R H → Post X.K cm R H (EXw cm Wx σ) (fun s _ R1 H1 => ∀ J, JRel cm X R1 H1 s J → Rk J H1) (mi ρ h) → wi σ H Rk) :
    ∀ σ ρ h R H Q, REnv X.K H R ρ σ → RH X.K cm h R H → Post X.K cm R H (EXw cm Wx σ) (OKv X.K Q) (eLc t vs mi g c e ρ h) → tLc wi (tGq X.K vs g) (tTq X.K cm c) (tEq X.K cm e) vs σ H Q := by
  intro σ ρ h R H Q hρ hh pp
  refine si σ ρ h R H _ hρ hh (Post.mono (Post.bind pp) fun s h1 R1 H1 e1 x1 p1 => fun J hJ D hD => ?_)
  have hρ1 := (hρ.ext e1).wipe vs
  refine ⟨fun i m Hf => ∃ acc ws Hb h2 R2, Hf = upd Hb D (.lst acc) ∧ Hb D = none ∧ Ext X.K R1 H1 R2 Hb ∧ RH X.K cm h2 R2 Hb ∧ RVs X.K Hb R2 ws acc ∧
      Post X.K cm R2 Hb (EXw cm Wx σ) (OKv X.K Q) ((compF s.chk g c e (wipeW ρ vs) ws (s.items.drop i) h2).bind fun ys h2 => mkL t ys h2) ∧ m = s.items.length - i ∧ i ≤ s.items.length,
    ⟨s.items.length, [], [], H1, h1, R1, rfl, hD, Ext.refl, x1, .nil, by simpa using p1, by simp, Nat.zero_le _⟩, ?_⟩
  rintro i m Hf ⟨acc, ws, Hb, h2, R2, rfl, hb, e2, x2, ra, p2, rfl, hle⟩
  have en : Ext X.K R2 Hb R2 (upd Hb D (.lst acc)) := Ext.new hb
  have xn := x2.new (o := .lst acc) hb
  have nD := x2.free hb
  have e2n : Ext X.K R1 H1 R2 (upd Hb D (.lst acc)) := e2.trans en xn.nd
  by_cases hlt : i < s.items.length
  · refine .inr ?_
    have hd : s.items.drop i = s.items[i] :: s.items.drop (i + 1) := List.drop_eq_getElem_cons hlt
    rw [hd] at p2
    unfold compF at p2
    by_cases hk : s.chk h2 = true
    · simp only [hk, if_true] at p2
      have J1 := (hJ i h2 R2 _ e2n xn hk).1 s.items[i] (by simp [hlt])
      refine ⟨J1.1, fun H' => ∃ m', m' < s.items.length - i ∧ ∃ acc ws Hb h2 R2, H' = upd Hb D (.lst acc) ∧ Hb D = none ∧ Ext X.K R1 H1 R2 Hb ∧ RH X.K cm h2 R2 Hb ∧ RVs X.K Hb R2 ws acc ∧
        Post X.K cm R2 Hb (EXw cm Wx σ) (OKv X.K Q) ((compF s.chk g c e (wipeW ρ vs) ws (s.items.drop (i + 1)) h2).bind fun ys h2 => mkL t ys h2) ∧ m' = s.items.length - (i + 1) ∧ i + 1 ≤ s.items.length, fun H' z => z, fun x H' y => ?_⟩
      obtain ⟨e3, x3, rv⟩ := J1.2 x H' y
      cases q : g s.items[i] (wipeW ρ vs) with
      | none => simp only [q] at p2; exact p2.elim
      | some ρ3 =>
        simp only [q] at p2
        refine ⟨s.items[i], wipeW ρ vs, R2, (hρ1.ext e2n).ext e3, rv, ?_⟩
        rw [q]
        intro σ3 hρ3 hw
        refine ⟨by rw [hw]; exact wipe_idem, ?_⟩
        have hD' := notin_ext e3 (upd_same (H := Hb) (a := D) (o := .lst acc)) nD
        refine ⟨ρ3, h2, R2, hρ3, x3, ?_⟩
        cases qc : c ρ3 h2 with
        | stuck => simp only [qc] at p2; exact p2.elim
        | exc c2 h4 => simp only [qc] at p2; exact p2.elim
        | ok b h4 =>
          simp only [qc] at p2
          intro R4 H4 e4 x4
          have hD4 := notin_ext e4 hD'.2 nD
          have e34 := (e3.trans e4 x4.nd)
          cases b with
          | false =>
            simp only [Bool.false_eq_true, if_false] at p2 ⊢
            have eb := ext_del hb e34 hD4.2
            exact ⟨s.items.length - (i + 1), by omega, acc, ws, del H4 D, h4, R4, (upd_self hD4.2).symm, del_same, e2.trans eb (rh_del x4 hD4.2 hD4.1).nd, rh_del x4 hD4.2 hD4.1, RVs.ext eb _ _ ra, Post.from_ eb p2, rfl, hlt⟩
          | true =>
            simp only [if_true] at p2 ⊢
            refine ⟨ρ3, h4, R4, hρ3.ext e4, x4, ?_⟩
            cases qe : e ρ3 h4 with
            | stuck => simp only [qe] at p2; exact p2.elim
            | exc c2 h5 => simp only [qe] at p2; exact p2.elim
            | ok yv h5 =>
              simp only [qe] at p2
              intro R5 H5 e5 x5 v5 r5
              have hD5 := notin_ext e5 hD4.2 hD4.1
              have eb := ext_del hb (e34.trans e5 x5.nd) hD5.2
              by_cases hz : ws.length < sizeLine
              · simp only [hz, if_true] at p2
                refine ⟨acc, hD5.2, by rw [← ra.length]; exact hz, s.items.length - (i + 1), by omega, acc ++ [v5], ws ++ [yv], del H5 D, h5, R5, upd_del.symm, del_same, e2.trans eb (rh_del x5 hD5.2 hD5.1).nd, rh_del x5 hD5.2 hD5.1, ?_, Post.from_ eb p2, rfl, hlt⟩
                exact RVs.append (RVs.ext eb _ _ ra) (.cons (RV.sq (sqs_del hD5.2) _ _ r5) .nil)
              · simp only [hz, if_false] at p2; exact p2.elim
    · simp only [hk] at p2; exact p2.elim
  · have he : s.items.length ≤ i := by omega
    rw [List.drop_eq_nil_of_le he] at p2
    unfold compF at p2
    by_cases hk : s.chk h2 = true
    · simp only [hk, if_true] at p2
      refine .inl ⟨(hJ i h2 R2 _ e2n xn hk).2 he, ?_⟩
      exact post_lst p2 x2 ra hb
    · simp only [hk] at p2; exact p2.elim
theorem q_lc {t : Nat} {elt tg iter : Expr} {ifs : List Expr} {scope : Scope} {pos : Pos} {mi : MI} {g : MG} {c : MT} {e : ME} (own : List (Str × Nat)) (hc : X.calm = true) (hN : X.N.Nodup) (hi : QI cm X Wx tg iter mi) (ok : blkC X.N X.env.scope scope own = true)
    (hg : ∀ (s : Shared) (H : Hp) (C : Addr) (cl : List (Str × Addr)) (fp : List Addr), QV (X.blk s H scope (compEnvC scope cl C X.env) fp) (own.map (·.2)) tg g) (ht : ∀ (s : Shared) (H : Hp) (C : Addr) (cl : List (Str × Addr)) (fp : List Addr), QC cm (X.blk s H scope (compEnvC scope cl C X.env) fp) ifs c)
    (he : ∀ (s : Shared) (H : Hp) (C : Addr) (cl : List (Str × Addr)) (fp : List Addr), QE cm (X.blk s H scope (compEnvC scope cl C X.env) fp) WF elt e) (hs : ∀ x, foldedSetIterable iter X.env x = pure x := by intro _; rfl) :
    QE cm X Wx (.ListComp elt [⟨tg, iter, ifs, 0⟩] scope pos) (eLc t (own.map (·.2)) mi g c e) := by
  obtain ⟨wi, pi, si⟩ := hi
  exact ⟨_, pe_lc (tt := tTq X.K cm c) hc hN pi (blkOk_by ok) (fun s H C cl fp => (hg s H C cl fp).run) (fun s H C cl fp => ht s H C cl fp) (fun s H C cl fp => (he s H C cl fp).run) hs, lc_ok si⟩
theorem qs_setLc (i : Nat) {t : Nat} {y : Str} {elt tg iter : Expr} {ifs : List Expr} {scope : Scope} {py pos spos : Pos} {mi : MI} {g : MG} {c : MT} {e : ME} (own : List (Str × Nat)) (hc : X.calm = true) (hN : X.N.Nodup)
    (hsw : swapsWith (.ListComp elt [⟨tg, iter, ifs, 0⟩] scope pos) (some (.Name y py)) spos.line X.env = pure true) (hi : QI cm X Wx tg iter mi) (ok : blkC X.N X.env.scope scope own = true)
    (hg : ∀ (s : Shared) (H : Hp) (C : Addr) (cl : List (Str × Addr)) (fp : List Addr), QV (X.blk s H scope (compEnvC scope cl C X.env) fp) (own.map (·.2)) tg g) (ht : ∀ (s : Shared) (H : Hp) (C : Addr) (cl : List (Str × Addr)) (fp : List Addr), QC cm (X.blk s H scope (compEnvC scope cl C X.env) fp) ifs c)
    (he : ∀ (s : Shared) (H : Hp) (C : Addr) (cl : List (Str × Addr)) (fp : List Addr), QE cm (X.blk s H scope (compEnvC scope cl C X.env) fp) WF elt e) (hy : X.N[i]? = some y := by rfl) (hyl : X.env.scope.names.lookup y = some .local := by rfl) (hs : ∀ x, foldedSetIterable iter X.env x = pure x := by intro _; rfl) :
    QS cm X Wx (.Assign [.Name y py] (.ListComp elt [⟨tg, iter, ifs, 0⟩] scope pos) spos) (sAsg (eLc t (own.map (·.2)) mi g c e) (gN i)) := by
  obtain ⟨wi, pi, si⟩ := hi
  exact ⟨_, ps_setLc (tt := tTq X.K cm c) hc hN hy hyl hsw pi (blkOk_by ok) (fun s H C cl fp => (hg s H C cl fp).run) (fun s H C cl fp => ht s H C cl fp) (fun s H C cl fp => (he s H C cl fp).run) hs, asg_ok (lc_ok si) fun σ ρ R H w v Q hρ r p => p _ (hρ.set i r)⟩
end
end Z

/-! Q: in, not in; methods of lists; list(x), tuple(x). -/
namespace Z
open PySem PySem.Spec PyProof.Rows L2
section
variable {cm : Str → Addr} {X : Cx} {Wx : WX}
/-! ### in -/
def flatW : W → Bool
  | .non | .bl _ | .int _ | .str _ => true
  | _ => false
def toV : W → V
  | .bl b => .bl b
  | .int i => .int i
  | .str x => .str x
  | _ => .non
theorem toV_ok {K H R w v} (r : RV K H R w v) (f : flatW w = true) : v = toV w ∧ flatV v = true := by
  cases r <;> first | exact ⟨rfl, rfl⟩ | cases f
theorem toVs_ok {K H R} : ∀ {ws vs}, RVs K H R ws vs → ws.all flatW = true → vs = ws.map toV ∧ vs.all flatV = true
  | [], _, h, _ => by cases h; exact ⟨rfl, rfl⟩
  | w :: ws, _, h, f => by
    cases h with
    | cons a b =>
      rw [List.all_cons, Bool.and_eq_true] at f
      obtain ⟨e1, e2⟩ := toV_ok a f.1
      obtain ⟨e3, e4⟩ := toVs_ok b f.2
      rw [List.all_cons, e2, e4, List.map_cons, ← e1, ← e3]
      exact ⟨rfl, rfl⟩
def inW (neg : Bool) : F2 := fun x y h => match y with
  | .tup ys => if flatW x && ys.all flatW then .ok (.bl (xor neg (ys.any fun z => eqV (toV z) (toV x)))) h else .stuck
  | .str z => match x with
    | .str i => if i.cps.size = 1 then .ok (.bl (xor neg (decide (i.cps.getD 0 0 ∈ z.cps.toList)))) h else .stuck
    | _ => .stuck
  | y => match dataW h x, dataW h y with
    | some d, some (.list ds) => if SeqAt.shaped d && SeqAt.shaped (.list ds) then .ok (.bl (xor neg (ds.any fun z => PyData.eqv z d))) h else .stuck
    | _, _ => .stuck
def rInW (K : PySem.W.Frag) (neg : Bool) : R2 := fun x y H Q =>
  (∃ p xs, y = .ref p ∧ (SqL K H p xs ∨ SqT K H p xs) ∧ flatV x = true ∧ xs.all flatV = true ∧ Q (.bl (xor neg (inV x xs))) H) ∨
  ((∃ (c : Nat) (z : Str), x = .str ⟨#[c]⟩ ∧ y = .str z ∧ Q (.bl (xor neg (decide (c ∈ z.cps.toList)))) H) ∨
  ∃ d ds, Dp K H x d ∧ Dp K H y (.list ds) ∧ SeqAt.shaped d = true ∧ SeqAt.shaped (.list ds) = true ∧ Q (.bl (xor neg (ds.any fun z => PyData.eqv z d))) H)
theorem op_inW (hu : X.A.units + 65 < cLine) : OpR X (compareOp .In) (rInW X.K false) := by
  intro pins s σ H x y v u Q I rx ry h
  refine OpR.or op_in_seq (OpR.or op_in_sign (op_inD hu)) pins s σ H x y v u Q I rx ry ?_
  rcases h with ⟨p, xs, e, s1, f1, f2, q⟩ | ⟨c, z, e1, e2, q⟩ | ⟨d, ds, h1, h2, h3, h4, q⟩
  · exact .inl ⟨p, xs, e, s1, f1, f2, by simpa using q⟩
  · exact .inr (.inl ⟨c, z, e1, e2, by simpa using q⟩)
  · exact .inr (.inr ⟨d, ds, h1, h2, h3, h4, by simpa using q⟩)
theorem op_notInW (hu : X.A.units + 65 < cLine) : OpR X (compareOp .NotIn) (rInW X.K true) := by
  intro pins s σ H x y v u Q I rx ry h
  refine OpR.or op_notIn_seq (OpR.or op_notIn_sign (op_notInD hu)) pins s σ H x y v u Q I rx ry ?_
  rcases h with ⟨p, xs, e, s1, f1, f2, q⟩ | ⟨c, z, e1, e2, q⟩ | ⟨d, ds, h1, h2, h3, h4, q⟩
  · exact .inl ⟨p, xs, e, s1, f1, f2, by simpa using q⟩
  · exact .inr (.inl ⟨c, z, e1, e2, by simpa using q⟩)
  · exact .inr (.inr ⟨d, ds, h1, h2, h3, h4, by simpa using q⟩)
theorem inW_data {neg : Bool} {x y : W} {h : Hq} {R H EX Q vx vy} (hh : RH X.K cm h R H) (rx : RV X.K H R x vx) (ry : RV X.K H R y vy)
    (p : Post X.K cm R H EX (OKv X.K Q) (match dataW h x, dataW h y with
    | some d, some (.list ds) => if SeqAt.shaped d && SeqAt.shaped (.list ds) then .ok (.bl (xor neg (ds.any fun z => PyData.eqv z d))) h else .stuck
    | _, _ => .stuck)) : rInW X.K neg vx vy H Q := by
  split at p
  · rename_i d ds e1 e2
    split at p
    · rename_i z
      simp only [Bool.and_eq_true] at z
      exact .inr (.inr ⟨d, ds, toD_ok (refD_ok hh 60) x d _ rx e1, toD_ok (refD_ok hh 60) y _ _ ry e2, z.1, z.2, post_v p hh (.bl _)⟩)
    · exact p.elim
  · exact p.elim
theorem str_one {i : Str} (h : i.cps.size = 1) : i = ⟨#[i.cps.getD 0 0]⟩ := by
  obtain ⟨c⟩ := i
  obtain ⟨l⟩ := c
  cases l with
  | nil => simp at h
  | cons a r =>
    cases r with
    | nil => rfl
    | cons b r => simp at h
theorem q_inW {neg : Bool} : QOp cm X (rInW X.K neg) (inW neg) := by
  intro EX h R H x y vx vy Q hh rx ry p
  cases y with
  | tup ys =>
    unfold inW at p
    dsimp only at p
    split at p
    · rename_i c
      rw [Bool.and_eq_true] at c
      cases ry with
      | @tup _ a' vs' sq rs =>
        obtain ⟨e1, e2⟩ := toV_ok rx c.1
        obtain ⟨e3, e4⟩ := toVs_ok rs c.2
        refine .inl ⟨_, _, rfl, .inr sq, e2, e4, ?_⟩
        have : inV vx vs' = ys.any fun z => eqV (toV z) (toV x) := by
          unfold inV
          rw [e3, e1, List.any_map]; rfl
        rw [this]
        exact post_v p hh (.bl _)
    · exact p.elim
  | str z =>
    cases x with
    | str i =>
      cases rx; cases ry
      unfold inW at p
      dsimp only at p
      split at p
      · rename_i c
        refine .inr (.inl ⟨i.cps.getD 0 0, z, by rw [← str_one c], rfl, post_v p hh (.bl _)⟩)
      · exact p.elim
    | _ => exact p.elim
  | _ => exact inW_data hh rx ry p

/-! ### methods of a built-in's value -/
def tyB (T : String) (h : Hq) (x : W) : Bool := match T with
  | "list" => (asL h x).isSome
  | "str" => (match x with | .str _ => true | _ => false)
  | _ => false
theorem tyB_ok {T : String} {h : Hq} {R H} {x : W} {v : V} (hh : RH X.K cm h R H) (r : RV X.K H R x v) (e : tyB T h x = true) : tyV X.K T v H := by
  unfold tyB at e
  split at e
  · cases z : asL h x with
    | none => rw [z] at e; cases e
    | some xs =>
      obtain ⟨a, vs, rfl, sq, rs⟩ := asL_ok hh r z
      exact .inl ⟨rfl, vs, sq⟩
  · cases x with
    | str _ => cases r; exact rfl
    | _ => cases e
  · cases e
def QMt (cm : Str → Addr) (X : Cx) (r : V → List V → Hp → VK → Prop) (f : MF) : Prop := ∀ (EX : Str → Hp → Prop) h R H x xs vx vs Q, RH X.K cm h R H → RV X.K H R x vx → RVs X.K H R xs vs → Post X.K cm R H EX (OKv X.K Q) (f (x :: xs) h) → r vx vs H Q
def eBM (T : String) (f : MF) (o : ME) (a : MA) : ME := fun ρ h => (o ρ h).bind fun x h1 => if tyB T h1 x then (a ρ h1).bind fun ws h2 => f (x :: ws) h2 else .stuck
theorem q_bm {T id : String} {name : Str} {r : V → List V → Hp → VK → Prop} {f : MF} {o e : Expr} {es : List Expr} {mo : ME} {ma : MA} {apos cpos : Pos} (pa : PlainAttrs T) (slot : Slot T name id) (hty : typeOf (.builtin id) = pure (.type "method_descriptor")) (hm : MtR X id r) (hf : QMt cm X r f)
    (ho : QE cm X Wx o mo) (ha : QAn cm X Wx (e :: es) ma)
    (hbase : attributeBase o name X.env (eval o X.env) = eval o X.env := by rfl)
    (hfew : ((backTo cpos (starEach (e :: es) X.env)).all (fun x => !x.1) && (backToKw cpos (keywordEach [] X.env)).all (fun x => x.1.isSome)
      && decide ((e :: es).length + ([] : List Keyword).length + (if ([] : List Keyword).isEmpty then 0 else 1) < 30)) = true := by rfl)
    (hline : (apos.endLine == cpos.line) = true := by rfl) (hs : starEach (e :: es) X.env = (false, eval e X.env) :: starEach es X.env := by rfl) (hplain : (backTo cpos (starEach es X.env)).any (·.1) = false := by rfl) :
    QE cm X Wx (.Call (.Attribute o name apos) (e :: es) [] cpos) (eBM T f mo ma) := by
  obtain ⟨to, po, so⟩ := ho
  obtain ⟨⟨t, p, sa⟩, _⟩ := ha
  refine ⟨_, pe_bm pa slot hty hm po p hbase hfew hline hs hplain, fun σ ρ h R H Q hρ hh pp => ?_⟩
  refine so σ ρ h R H _ hρ hh (Post.mono (Post.bind pp) fun x h1 R1 H1 e1 x1 p1 => fun v rv => ?_)
  split at p1
  · rename_i c
    refine ⟨tyB_ok x1 rv c, sa σ ρ h1 R1 H1 _ (hρ.ext e1) x1 (Post.mono (Post.bind p1) fun ws h2 R2 H2 e2 x2 p2 => fun vs rs => hf _ h2 R2 H2 x ws v vs _ x2 (RV.ext e2 _ _ rv) rs p2)⟩
  · exact p1.elim
theorem q_bm0 {T id : String} {name : Str} {r : V → List V → Hp → VK → Prop} {f : MF} {o : Expr} {mo : ME} {apos cpos : Pos} (pa : PlainAttrs T) (slot : Slot T name id) (hty : typeOf (.builtin id) = pure (.type "method_descriptor")) (hm : MtR X id r) (hf : QMt cm X r f) (ho : QE cm X Wx o mo)
    (hbase : attributeBase o name X.env (eval o X.env) = eval o X.env := by rfl) (hline : (apos.endLine == cpos.line) = true := by rfl) :
    QE cm X Wx (.Call (.Attribute o name apos) [] [] cpos) (eBM T f mo aNil) := by
  obtain ⟨to, po, so⟩ := ho
  refine ⟨_, pe_bm0 pa slot hty hm po hbase hline, fun σ ρ h R H Q hρ hh pp => ?_⟩
  refine so σ ρ h R H _ hρ hh (Post.mono (Post.bind pp) fun x h1 R1 H1 e1 x1 p1 => fun v rv => ?_)
  split at p1
  · rename_i c
    exact ⟨tyB_ok x1 rv c, hf _ h1 R1 H1 x [] v [] _ x1 rv .nil p1⟩
  · exact p1.elim
/-- a told list -/
def atM (h : Hq) : W → Option (Nat × Nat × List W)
  | .ref n => match h[n]? with
    | some (.lst t xs) => some (n, t, xs)
    | _ => none
  | _ => none
theorem atM_ok {h : Hq} {R H} {x : W} {n t : Nat} {xs : List W} {v : V} (hh : RH X.K cm h R H) (r : RV X.K H R x v) (e : atM h x = some (n, t, xs)) : ∃ a vs, v = .ref a ∧ R[n]? = some a ∧ H a = some (.lst vs) ∧ RVs X.K H R xs vs := by
  cases x with
  | ref m =>
    cases r with
    | ref q =>
      unfold atM at e
      cases z : h[m]? with
      | none => simp [z] at e
      | some o =>
        have ro := hh.get q z
        cases o with
        | lst t' ys =>
          simp only [z, Option.some.injEq, Prod.mk.injEq] at e
          obtain ⟨rfl, rfl, rfl⟩ := e
          cases ro with | lst a b => exact ⟨_, _, rfl, q, a, b⟩
        | _ => simp [z] at e
  | _ => simp [atM] at e
theorem post_set {K : PySem.W.Frag} {h : Hq} {R H EX Q} {n t : Nat} {a : Addr} {vs : List V} {xs : List W} {vs' : List V} {w : W} {v : V} (p : Post K cm R H EX (OKv K Q) (.ok w (h.set n (.lst t xs)))) (hh : RH K cm h R H) (hn : R[n]? = some a) (ha : H a = some (.lst vs)) (rs : RVs K H R xs vs')
    (hw : ∀ H', RV K H' R w v) : Q v (upd H a (.lst vs')) := by
  have ex : Ext K R H R (upd H a (.lst vs')) := Ext.write hn ha (fun _ q => by cases q) (fun _ _ q => by cases q)
  exact p R _ ex (hh.write hn ha (fun _ q => by cases q) (fun _ _ q => by cases q) (.lst upd_same (RVs.ext ex _ _ rs))) v (hw _)
def appW : MF := fun ws h => match ws with
  | [x, y] => match atM h x with
    | some (n, t, xs) => if xs.length < sizeLine then .ok .non (h.set n (.lst t (xs ++ [y]))) else .stuck
    | none => .stuck
  | _ => .stuck
theorem q_appW : QMt cm X rAppend appW := by
  intro EX h R H x xs vx vs Q hh rx rs p
  unfold appW at p
  split at p
  · rename_i x' y e
    obtain ⟨rfl, e2⟩ := List.cons.inj e
    subst e2
    cases rs with | cons ra rb =>
    cases rb
    cases z : atM h x with
    | none => simp only [z] at p; exact p.elim
    | some k =>
      obtain ⟨n, t, ys⟩ := k
      simp only [z] at p
      obtain ⟨a, us, rfl, hn, ha, ru⟩ := atM_ok hh rx z
      split at p
      · rename_i hz
        exact ⟨a, us, _, rfl, rfl, ha, by rw [← ru.length]; exact hz, post_set p hh hn ha (RVs.append ru (.cons ra .nil)) fun _ => .non⟩
      · exact p.elim
  · exact p.elim
def revW : MF := fun ws h => match ws with
  | [x] => match atM h x with
    | some (n, t, xs) => .ok .non (h.set n (.lst t xs.reverse))
    | none => .stuck
  | _ => .stuck
theorem q_revW : QMt cm X rReverse revW := by
  intro EX h R H x xs vx vs Q hh rx rs p
  unfold revW at p
  split at p
  · rename_i x' e
    obtain ⟨rfl, e2⟩ := List.cons.inj e
    subst e2
    cases rs
    cases z : atM h x with
    | none => simp only [z] at p; exact p.elim
    | some k =>
      obtain ⟨n, t, ys⟩ := k
      simp only [z] at p
      obtain ⟨a, us, rfl, hn, ha, ru⟩ := atM_ok hh rx z
      exact ⟨a, us, rfl, rfl, ha, post_set p hh hn ha ru.reverse fun _ => .non⟩
  · exact p.elim
def clrW : MF := fun ws h => match ws with
  | [x] => match atM h x with
    | some (n, t, _) => .ok .non (h.set n (.lst t []))
    | none => .stuck
  | _ => .stuck
theorem q_clrW : QMt cm X rClear clrW := by
  intro EX h R H x xs vx vs Q hh rx rs p
  unfold clrW at p
  split at p
  · rename_i x' e
    obtain ⟨rfl, e2⟩ := List.cons.inj e
    subst e2
    cases rs
    cases z : atM h x with
    | none => simp only [z] at p; exact p.elim
    | some k =>
      obtain ⟨n, t, ys⟩ := k
      simp only [z] at p
      obtain ⟨a, us, rfl, hn, ha, ru⟩ := atM_ok hh rx z
      exact ⟨a, us, rfl, rfl, ha, post_set p hh hn ha .nil fun _ => .non⟩
  · exact p.elim
def extW : MF := fun ws h => match ws with
  | [x, y] => match atM h x, atM h y with
    | some (n, t, xs), some (_, _, ys) => if xs.length + ys.length ≤ sizeLine then .ok .non (h.set n (.lst t (xs ++ ys))) else .stuck
    | _, _ => .stuck
  | _ => .stuck
theorem q_extW : QMt cm X rExtend extW := by
  intro EX h R H x xs vx vs Q hh rx rs p
  unfold extW at p
  split at p
  · rename_i x' y e
    obtain ⟨rfl, e2⟩ := List.cons.inj e
    subst e2
    cases rs with | cons ra rb =>
    cases rb
    cases z : atM h x with
    | none => simp only [z] at p; exact p.elim
    | some k =>
      obtain ⟨n, t, ys⟩ := k
      cases z2 : atM h y with
      | none => simp only [z, z2] at p; exact p.elim
      | some k2 =>
        obtain ⟨n2, t2, ys2⟩ := k2
        simp only [z, z2] at p
        obtain ⟨a, us, rfl, hn, ha, ru⟩ := atM_ok hh rx z
        obtain ⟨b, us2, rfl, hn2, hb, ru2⟩ := atM_ok hh ra z2
        split at p
        · rename_i hz
          exact ⟨a, b, us, us2, rfl, rfl, ha, hb, by rw [← ru.length, ← ru2.length]; exact hz, post_set p hh hn ha (RVs.append ru ru2) fun _ => .non⟩
        · exact p.elim
  · exact p.elim
/-! ### list(x), tuple(x) -/
/-- the items of a list or tuple -/
def asQ (h : Hq) : W → Option (List W)
  | .tup xs => some xs
  | x => asL h x
theorem asQ_ok {h : Hq} {R H} {x : W} {xs : List W} {v : V} (hh : RH X.K cm h R H) (r : RV X.K H R x v) (e : asQ h x = some xs) : ∃ a vs, v = .ref a ∧ (SqL X.K H a vs ∨ SqT X.K H a vs) ∧ RVs X.K H R xs vs := by
  cases x with
  | tup ys =>
    cases e
    cases r with | tup s r => exact ⟨_, _, rfl, .inr s, r⟩
  | _ =>
    obtain ⟨a, vs, e1, s, r⟩ := asL_ok hh r e
    exact ⟨a, vs, e1, .inl s, r⟩
def lstcW (t : Nat) : MF := fun ws h => match ws with
  | [x] => match asQ h x with
    | some xs => mkL t xs h
    | none => .stuck
  | _ => .stuck
theorem q_lstcW {t : Nat} : QCl cm X (fun xs H Q => ∃ p ys, xs = [.ref p] ∧ (SqL X.K H p ys ∨ SqT X.K H p ys) ∧ ∀ l, H l = none → Q (.ref l) (upd H l (.lst ys))) (lstcW t) := by
  intro EX h R H xs vs Q hh rs p
  unfold lstcW at p
  split at p
  · rename_i x
    cases rs with | cons a b =>
    cases b
    cases z : asQ h x with
    | none => simp only [z] at p; exact p.elim
    | some ys =>
      simp only [z] at p
      obtain ⟨a', us, rfl, sq, ru⟩ := asQ_ok hh a z
      exact ⟨_, _, rfl, sq, fun l hl => post_lst p hh ru hl⟩
  · exact p.elim
def tupcW : MF := fun ws h => match ws with
  | [.tup xs] => .ok (.tup xs) h
  | [x] => match asL h x with
    | some xs => .ok (.tup xs) h
    | none => .stuck
  | _ => .stuck
theorem q_tupcW : QCl cm X (fun xs H Q => ∃ p ys, xs = [.ref p] ∧ ((SqL X.K H p ys ∧ ∀ l, H l = none → Q (.ref l) (upd H l (.tup ys))) ∨ (SqT X.K H p ys ∧ Q (.ref p) H))) tupcW := by
  intro EX h R H xs vs Q hh rs p
  unfold tupcW at p
  split at p
  · rename_i ys
    cases rs with | cons a b =>
    cases b
    cases a with
    | tup s r => exact ⟨_, _, rfl, .inr ⟨s, post_v p hh (.tup s r)⟩⟩
  · rename_i x hx
    cases rs with | cons a b =>
    cases b
    cases z : asL h x with
    | none => simp only [z] at p; exact p.elim
    | some ys =>
      simp only [z] at p
      obtain ⟨a', us, rfl, sq, ru⟩ := asL_ok hh a z
      exact ⟨_, _, rfl, .inl ⟨sq, fun l hl => post_tup p hh ru hl⟩⟩
  · exact p.elim
end
end Z

/-! Q: own Hook: defs by any address, classes. -/
namespace Z
open PySem PySem.Spec PyProof.Rows L2
abbrev Frg := PySem.W.Frag
/-! ### addresses -/
def cA (K : Frg) (c : Str) : Addr := He.ga K c
def mA (K : Frg) (c m : Str) : Addr := He.ma K (He.ga K c) m
def pG (K : Frg) (c f : Str) : Addr := match PySem.W.recIn K (mA K c f) "property" with
  | some (.ref g :: _) => g
  | _ => 0
def sG (K : Frg) (c f : Str) : Addr := match PySem.W.recIn K (mA K c f) "staticmethod" with
  | some (.ref g :: _) => g
  | _ => 0
/-! ### defs -/
structure Fx where
  ad : Frg → Addr
  name : Str
  qual : Str
  params : Arguments
  body : List Stmt
  scope : Scope
def fxO (K : Frg) (d : Fx) : He.FnW := match K.lookup (d.ad K) with
  | some ⟨_, _, .func fd, _⟩ => some (fd.name, fd.qualname, fd.params, fd.body, fd.scope, fd.globals, fd.closure, fd.builtins)
  | _ => none
def Fx.val (d : Fx) : He.FnW := some (d.name, d.qual, d.params, .stmts d.body, d.scope, mainGlobals, [], builtinsNs)
def Fx.ok (K : Frg) (d : Fx) : Bool := PySem.W.keepIn K (.ref (d.ad K)) && (match K.lookup (d.ad K) with
  | some ⟨_, _, .func fd, _⟩ => PySem.W.codeIn K fd.code d.qual && (He.dflB K fd.defaults [] && He.kwdB K fd.kwdefaults [])
  | _ => false)
abbrev FxD (K : Frg) (d : Fx) (fd : FuncData) : Prop := FunD K d.name d.qual d.params d.body d.scope [] [] (d.ad K) fd
theorem Fx.funD {K : Frg} {d : Fx} (e : fxO K d = d.val) (c : d.ok K = true) : ∃ fd, FxD K d fd := by
  obtain ⟨kp, c2⟩ := He.ba c
  unfold fxO at e
  cases q : K.lookup (d.ad K) with
  | none => rw [q] at c2; cases c2
  | some o =>
    obtain ⟨oc, od, dt, osl⟩ := o
    rw [q] at c2 e
    cases dt with
    | func fd =>
      obtain ⟨n1, n2, n3, n4, n5, n6, n7, n8, n9, n10, n11, n12, n13, n14, n15⟩ := fd
      have e2 : (some (n1, n2, n3, n4, n5, n6, n7, n15) : He.FnW) = some (d.name, d.qual, d.params, .stmts d.body, d.scope, mainGlobals, [], builtinsNs) := e
      simp only [Option.some.injEq, Prod.mk.injEq] at e2
      obtain ⟨h1, h2, h3, h4, h5, h6, h7, h8⟩ := e2
      subst h1 h2 h3 h4 h5 h6 h7 h8
      obtain ⟨k1, k2⟩ := He.ba (show (PySem.W.codeIn K n13 d.qual && (He.dflB K n8 [] && He.kwdB K n9 [])) = true from c2)
      obtain ⟨k3, k4⟩ := He.ba k2
      exact ⟨_, ⟨oc, od, n8, n9, n10, n11, n12, n13, n14, osl, rfl, q, k1, He.dflB_ok k3, He.kwdB_ok k4⟩, kp⟩
    | _ => cases c2
/-! ### facts -/
inductive Ex where
  | fa (f : He.Fa)
  | ci (c : Str)
  | mk (c : Str)
  | meth (c m : Str)
  | prop (c f : Str)
  | stat (c m : Str)
  | exc (c : Str)
  | exm (c d : Str) (b : Bool)
  | exk (c : Str)
  | kit (c d : Str) (b : Bool)
  | kitT (c : Str) (T : String) (b : Bool)
def Ex.ok (K : Frg) : Ex → Bool
  | .fa f => f.ok K
  | .ci c => (He.Fa.cls c).ok K && (He.eqO (PySem.W.findIn K (.ref (cA K c)) "__class__") (some (some (.builtin "object.__class__"))) && (He.eqO (PySem.W.specialIn K (.builtin "object.__class__") "__get__") (some (some (.builtin "getset_descriptor.__get__"))) &&
      (decide (PySem.W.takesIn K (.builtin "object.__class__") = some true) && (decide (PySem.W.mroIn K (cA K c) (.type "object") = some true) &&
      ((isiTs.all fun T => decide (PySem.W.kitOne K (.ref (cA K c)) (.type T) = some false)) && (fieldsOf c).all fun f => (He.Fa.noat c f).ok K)))))
  | .mk c => (He.Fa.mkr c).ok K
  | .meth c m => (He.Fa.meth c m).ok K
  | .prop c f => He.eqO (PySem.W.findIn K (.ref (cA K c)) f) (some (some (.ref (mA K c f)))) && (He.eqO (PySem.W.specialIn K (.ref (mA K c f)) "__get__") (some (some (.builtin "property.__get__"))) &&
      (decide (PySem.W.takesIn K (.ref (mA K c f)) = some true) && (match PySem.W.recIn K (mA K c f) "property" with
        | some (.ref _ :: _) => true
        | _ => false)))
  | .stat c m => PySem.W.readsIn K (cA K c) (.type "type") && (He.eqO (PySem.W.specialIn K (.ref (cA K c)) "__getattribute__") (some (some (.builtin "type.__getattribute__"))) &&
      ((match PySem.W.findCls K (.ref (cA K c)) (.type "type") m with
        | some (.get (.builtin i) (.ref p) .none (.ref C)) => i == "staticmethod.__get__" && (p == mA K c m && C == cA K c)
        | _ => false) && ((match PySem.W.recIn K (mA K c m) "staticmethod" with
        | some (.ref _ :: _) => true
        | _ => false) && PySem.W.keepIn K (.ref (sG K c m)))))
  | .exc c => (He.Fa.exc c).ok K
  | .exm c d b => (He.Fa.exm c d b).ok K
  | .exk c => He.eqO (PySem.W.findIn K (.ref (cA K c)) "__getattribute__") (some (some (.builtin "BaseException.__getattribute__"))) && (He.eqO (PySem.W.findIn K (.ref (cA K c)) "__getattr__") (some none) && (decide (PySem.W.subIn K (.ref (cA K c)) (.type "BaseException") = some true) && (PySem.W.hasDictIn K (cA K c) &&
      (He.eqO (PySem.W.findIn K (.ref (cA K c)) "__class__") (some (some (.builtin "object.__class__"))) && (He.eqO (PySem.W.specialIn K (.builtin "object.__class__") "__get__") (some (some (.builtin "getset_descriptor.__get__"))) &&
      (decide (PySem.W.takesIn K (.builtin "object.__class__") = some true) && decide (PySem.W.mroIn K (cA K c) (.type "object") = some true)))))))
  | .kit c d b => decide (PySem.W.kitOne K (.ref (cA K c)) (.ref (cA K d)) = some b)
  | .kitT c T b => decide (PySem.W.kitOne K (.ref (cA K c)) (.type T) = some b)
section
variable {K : Frg}
theorem ci_ok {c : Str} (h : (Ex.ci c).ok K = true) : CI K c (cA K c) := by
  obtain ⟨h1, h⟩ := He.ba h
  obtain ⟨h2, h⟩ := He.ba h
  obtain ⟨h3, h⟩ := He.ba h
  obtain ⟨h4, h⟩ := He.ba h
  obtain ⟨h5, h⟩ := He.ba h
  obtain ⟨h6, h7⟩ := He.ba h
  exact ⟨He.cls_ok h1, He.eqO_ok h2, He.eqO_ok h3, of_decide_eq_true h4, of_decide_eq_true h5, fun T hT => of_decide_eq_true (List.all_eq_true.mp h6 T hT), fun f hf => He.noat_ok (List.all_eq_true.mp h7 f hf)⟩
theorem exk_ok {c : Str} (h : (Ex.exk c).ok K = true) : L2.ExcC K (cA K c) := by
  obtain ⟨h1, h⟩ := He.ba h
  obtain ⟨h2, h⟩ := He.ba h
  obtain ⟨h3, h⟩ := He.ba h
  obtain ⟨h4, h⟩ := He.ba h
  obtain ⟨h5, h⟩ := He.ba h
  obtain ⟨h6, h⟩ := He.ba h
  obtain ⟨h7, h8⟩ := He.ba h
  exact ⟨He.eqO_ok h1, He.eqO_ok h2, of_decide_eq_true h3, h4, He.eqO_ok h5, He.eqO_ok h6, of_decide_eq_true h7, of_decide_eq_true h8⟩
theorem exm_okx {c d : Str} {b : Bool} (h : (Ex.exm c d b).ok K = true) : PySem.W.exmOne K (.ref (cA K c)) (.ref (cA K d)) = some b := of_decide_eq_true h
theorem kit_ok {c d : Str} {b : Bool} (h : (Ex.kit c d b).ok K = true) : PySem.W.kitOne K (.ref (cA K c)) (.ref (cA K d)) = some b := of_decide_eq_true h
theorem kitT_ok {c : Str} {T : String} {b : Bool} (h : (Ex.kitT c T b).ok K = true) : PySem.W.kitOne K (.ref (cA K c)) (.type T) = some b := of_decide_eq_true h
theorem prop_ok {c f : Str} (h : (Ex.prop c f).ok K = true) : PropOf K (cA K c) f (mA K c f) (pG K c f) := by
  obtain ⟨h1, h⟩ := He.ba h
  obtain ⟨h2, h⟩ := He.ba h
  obtain ⟨h3, h4⟩ := He.ba h
  refine ⟨He.eqO_ok h1, He.eqO_ok h2, of_decide_eq_true h3, ?_⟩
  unfold pG
  split at h4
  · rename_i g r e; rw [e]; exact ⟨r, rfl⟩
  · cases h4
theorem stat_ok {c m : Str} (h : (Ex.stat c m).ok K = true) : (PySem.W.readsIn K (cA K c) (.type "type") = true ∧ PySem.W.specialIn K (.ref (cA K c)) "__getattribute__" = some (some (.builtin "type.__getattribute__"))) ∧
    PySem.W.findCls K (.ref (cA K c)) (.type "type") m = some (.get (.builtin "staticmethod.__get__") (.ref (mA K c m)) .none (.ref (cA K c))) ∧ (∃ rest, PySem.W.recIn K (mA K c m) "staticmethod" = some (.ref (sG K c m) :: rest)) ∧ PySem.W.keepIn K (.ref (sG K c m)) = true := by
  obtain ⟨h1, h⟩ := He.ba h
  obtain ⟨h2, h⟩ := He.ba h
  obtain ⟨h3, h⟩ := He.ba h
  obtain ⟨h4, h5⟩ := He.ba h
  refine ⟨⟨h1, He.eqO_ok h2⟩, ?_, ?_, h5⟩
  · split at h3
    · rename_i i p C e
      obtain ⟨a, b⟩ := He.ba h3
      obtain ⟨b, d⟩ := He.ba b
      rw [e, eq_of_beq a, eq_of_beq b, eq_of_beq d]
    · cases h3
  · unfold sG
    split at h4
    · rename_i g r e; rw [e]; exact ⟨r, rfl⟩
    · cases h4
end
/-! ### the Hook -/
abbrev AlX : Type := Bool × List He.FnW
def obsX (fa : List Ex) (fn : List Fx) (K : Frg) : AlX := ((fa.all fun f => f.ok K) && fn.all fun d => d.ok K, fn.map fun d => fxO K d)
def valX (fn : List Fx) : AlX := (true, fn.map Fx.val)
def SaysX (fa : List Ex) (fn : List Fx) (K : Frg) : Prop := obsX fa fn K = valX fn
def obsXG (n : Nat) (fa : List Ex) (fn : List Fx) (g : Addr → Option Obj) : AlX := obsX fa fn (He.frG g (He.asD g n))
def hookX (n : Nat) (fa : List Ex) (fn : List Fx) : PySem.W.Hook where
  α := AlX
  obs := fun s => obsXG n fa fn s.heap.get?
  val := fun _ => valX fn
  says := fun _ h => ∃ K : Frg, K.In h ∧ SaysX fa fn K
  of := fun _ _ e => ⟨_, He.frG_in, e⟩
  keeps := fun _ _ _ ⟨K, hK, c⟩ k => ⟨K, PySem.W.Frag.In.keeps hK k, c⟩
theorem obsXG_eq {n : Nat} {fa : List Ex} {fn : List Fx} {g : Addr → Option Obj} {s : Shared} (h : ∀ a, g a = s.heap.get? a) : obsXG n fa fn g = (hookX n fa fn).obs s := by
  have e : g = s.heap.get? := funext h
  rw [e] <;> rfl
section
variable {fa : List Ex} {fn : List Fx} {K : Frg}
theorem SaysX.fact (c : SaysX fa fn K) (i : Nat) {f : Ex} (h : fa[i]? = some f := by rfl) : f.ok K = true := by
  have c1 := (He.ba (show ((fa.all fun f => f.ok K) && fn.all fun d => d.ok K) = true from congrArg (fun z : AlX => z.1) c)).1
  exact List.all_eq_true.mp c1 f (List.mem_of_getElem? h)
theorem SaysX.def_ (c : SaysX fa fn K) (i : Nat) {d : Fx} (h : fn[i]? = some d := by rfl) : ∃ fd, FxD K d fd := by
  have c2 := (He.ba (show ((fa.all fun f => f.ok K) && fn.all fun d => d.ok K) = true from congrArg (fun z : AlX => z.1) c)).2
  have e : fn.map (fun d => fxO K d) = fn.map Fx.val := congrArg (fun z : AlX => z.2) c
  have e2 : (fn.map fun d => fxO K d)[i]? = (fn.map Fx.val)[i]? := by rw [e]
  rw [List.getElem?_map, List.getElem?_map, h] at e2
  exact Fx.funD (Option.some.inj e2) (List.all_eq_true.mp c2 d (List.mem_of_getElem? h))
end
/-- what is known behind the top -/
structure Bx (fa : List Ex) (fn : List Fx) (P : Program) (w : World) (K : Frg) (mg : Str → Option Value) (base : Heap) : Prop where
  says : SaysX fa fn K
  ex : ∃ h : Heap, K.In h ∧ h.Ns mainGlobals mg
section
variable {fa : List Ex} {fn : List Fx} {P : Program} {w : World} {K : Frg} {mg : Str → Option Value} {base : Heap}
theorem Bx.glo (B : Bx fa fn P w K mg base) (i : Nat) {x : Str} (h : fa[i]? = some (.fa (.glo x)) := by rfl) : mg x = some (.ref (He.ga K x)) := by
  obtain ⟨hh, a, b⟩ := B.ex
  exact He.glo_ok a b (B.says.fact i h)
theorem Bx.free (B : Bx fa fn P w K mg base) (i : Nat) {x : Str} (h : fa[i]? = some (.fa (.free x)) := by rfl) : mg x = none := by
  obtain ⟨hh, a, b⟩ := B.ex
  exact He.free_ok a b (B.says.fact i h)
theorem Bx.int (B : Bx fa fn P w K mg base) (i : Nat) {x : Str} {n : Int} (h : fa[i]? = some (.fa (.int x n)) := by rfl) : ∃ t, mg x = some (.int n t) := by
  obtain ⟨hh, a, b⟩ := B.ex
  exact He.int_ok a b (B.says.fact i h)
theorem Bx.str (B : Bx fa fn P w K mg base) (i : Nat) {x z : Str} (h : fa[i]? = some (.fa (.str x z)) := by rfl) : ∃ t, mg x = some (.str z t) := by
  obtain ⟨hh, a, b⟩ := B.ex
  exact He.str_ok a b (B.says.fact i h)
/-- a def at an address, by its shallow function -/
structure FOk (P : Program) (w : World) (K : Frg) (mg : Str → Option Value) (base : Heap) (k : Nat) (f : Addr) (g : MF) : Prop where
  ex : ∃ (fd : FuncData) (ps : List Str), FnOk P w K mg base (L2.CX P w) k f fd ps (spM K (He.ga K) g) ∧ PySem.W.keepIn K (.ref f) = true ∧ Binds K fd ps []
theorem FOk.cal {k : Nat} {x : Str} {g : MF} (F : FOk P w K mg base k (He.ga K x) g) (h : mg x = some (.ref (He.ga K x))) : Cal P w K mg base k x g := by
  obtain ⟨fd, ps, a, b, c⟩ := F.ex
  exact ⟨_, fd, ps, a, h, b, c⟩
theorem FOk.met {X : Cx} {k : Nat} {c m : Str} {g : MF} (F : FOk X.prog X.w X.K X.mg X.base k (mA X.K c m) g) (h1 : (Ex.ci c).ok X.K = true) (h2 : (Ex.meth c m).ok X.K = true) : Met X (He.ga X.K) k c m g := by
  obtain ⟨fd, ps, a, b, d⟩ := F.ex
  exact ⟨_, fd, ps, (ci_ok h1).cl, He.meth_ok h2, a, d⟩
theorem FOk.prp {X : Cx} {k : Nat} {c f : Str} {g : MF} (F : FOk X.prog X.w X.K X.mg X.base k (pG X.K c f) g) (h1 : (Ex.ci c).ok X.K = true) (h2 : (Ex.prop c f).ok X.K = true) : Prp X (He.ga X.K) k c f g := by
  obtain ⟨fd, ps, a, b, d⟩ := F.ex
  exact ⟨_, _, fd, ps, (ci_ok h1).cl, prop_ok h2, a, d⟩
theorem FOk.sta {X : Cx} {k : Nat} {c m : Str} {g : MF} (F : FOk X.prog X.w X.K X.mg X.base k (sG X.K c m) g) (h0 : X.mg c = some (.ref (He.ga X.K c))) (h2 : (Ex.stat c m).ok X.K = true) : Sta X (He.ga X.K) k c m g := by
  obtain ⟨fd, ps, a, b, d⟩ := F.ex
  obtain ⟨s1, s2, ⟨r, s3⟩, s4⟩ := stat_ok h2
  exact ⟨_, _, _, fd, ps, r, h0, s1, s2, s3, s4, a, d⟩
theorem FOk.mkr {X : Cx} {k : Nat} {c : Str} {g : MF} (F : FOk X.prog X.w X.K X.mg X.base k (mA X.K c "__init__") g) (h0 : X.mg c = some (.ref (He.ga X.K c))) (h1 : (Ex.ci c).ok X.K = true) (h2 : (Ex.mk c).ok X.K = true) : Mkr X (He.ga X.K) k c g := by
  obtain ⟨fd, ps, a, b, d⟩ := F.ex
  exact ⟨ci_ok h1, _, fd, ps, h0, He.mkr_ok h2, a, d⟩
theorem exc_cls {X : Cx} {c : Str} (h0 : X.mg c = some (.ref (He.ga X.K c))) (h : (Ex.exc c).ok X.K = true) : ExcC X (He.ga X.K) c := by
  obtain ⟨a, b, d, e⟩ := He.exc_ok h
  exact ⟨h0, a, b, d, e⟩
end
end Z

/-! Q: methods, properties by the receiver's class (a table). -/
namespace Z
open PySem PySem.Spec PyProof.Rows L2
section
variable {cm : Str → Addr} {X : Cx} {Wx : WX}
abbrev Tb := List (Str × MF)
def Mets (X : Cx) (cm : Str → Addr) (k : Nat) (m : Str) (tb : Tb) : Prop := ∀ c g, tb.lookup c = some g → Met X cm k c m g
theorem mets_nil {k m} : Mets X cm k m [] := fun c g h => by cases h
theorem mets_cons {k j m c g tb} (h : Met X cm k c m g) (hk : k ≤ j) (r : Mets X cm j m tb) : Mets X cm j m ((c, g) :: tb) := fun c' g' e => by
  rw [List.lookup_cons] at e
  cases q : (c' == c) with
  | true =>
    rw [q] at e; cases e
    cases eq_of_beq q
    obtain ⟨f, fd, ps, a, b, d, e⟩ := h.ex
    exact ⟨f, fd, ps, a, b, d.mono hk, e⟩
  | false => rw [q] at e; exact r _ _ e
def eMet (m : Str) (tb : Tb) (o : ME) (a : MA) : ME := fun ρ h => (o ρ h).bind fun x h1 => match asI h1 x with
  | some (_, c, fs) => (match tb.lookup c, fs.lookup m with
    | some g, none => (a ρ h1).bind fun ws h2 => g (x :: ws) h2
    | _, _ => .stuck)
  | none => .stuck
def tMetQ (cm : Str → Addr) (K : PySem.W.Frag) (Wx : WX) (m : Str) (tb : Tb) (to : TE) (t : TA) : TE := fun σ H Q => to σ H fun x H1 => ∃ c g a dx fs, tb.lookup c = some g ∧ x = .ref a ∧ H1 a = some (.ins (cm c) dx fs) ∧ fs.lookup m = none ∧ t σ H1 fun vs H2 => spM K cm g (x :: vs) H2 Q (WE Wx σ)
theorem met_ok {to : TE} {t : TA} {m : Str} {tb : Tb} {mo : ME} {ma : MA}
    (so : ∀ σ ρ h R H Q, REnv X.K H R ρ σ → RH X.K cm h R H → Post X.K cm R H (EXw cm Wx σ) (OKv X.K Q) (mo ρ h) → to σ H Q)
    (sa : ∀ σ ρ h R H Q, REnv X.K H R ρ σ → RH X.K cm h R H → Post X.K cm R H (EXw cm Wx σ) (OKs X.K Q) (ma ρ h) → t σ H Q) :
    ∀ σ ρ h R H Q, REnv X.K H R ρ σ → RH X.K cm h R H → Post X.K cm R H (EXw cm Wx σ) (OKv X.K Q) (eMet m tb mo ma ρ h) → tMetQ cm X.K Wx m tb to t σ H Q := fun σ ρ h R H Q hρ hh pp => by
  refine so σ ρ h R H _ hρ hh (Post.mono (Post.bind pp) fun x h1 R1 H1 e1 x1 p1 => fun v r => ?_)
  cases z : asI h1 x with
  | none => simp only [z] at p1; exact p1.elim
  | some k =>
    obtain ⟨n, c, fs⟩ := k
    simp only [z] at p1
    obtain ⟨a, dx, vs, rfl, rfl, hn, ha, rf, ci⟩ := asI_ok x1 r z
    split at p1
    · rename_i g hg hl
      refine ⟨c, g, a, dx, vs, hg, rfl, ha, rf.none hl, ?_⟩
      exact sa σ ρ h1 R1 H1 _ (hρ.ext e1) x1 (Post.mono (Post.bind p1) fun ws h2 R2 H2 e2 x2 p2 => fun us rs => ⟨_, h2, R2, .cons (RV.ext e2 _ _ r) rs, x2, p2⟩)
    · exact p1.elim
theorem q_met {m : Str} {j : Nat} {tb : Tb} {o e : Expr} {es : List Expr} {mo : ME} {ma : MA} {apos pos : Pos} {pl : Sem Bool} (M : Mets X cm j m tb) (tk : Takes X Wx) (hr : Room j X.A) (ho : QE cm X Wx o mo) (ha : QAn cm X Wx (e :: es) ma)
    (hst : starEach (e :: es) X.env = (false, eval e X.env) :: starEach es X.env := by rfl) (hpl : (backTo pos (starEach es X.env)).any (·.1) = false := by rfl)
    (hev : eval (.Call (.Attribute o m apos) (e :: es) [] pos) X.env = (do
      let ov ← eval o X.env
      standAt apos.atName
      let (f, first) ← holding [ov] (getMethod ov m pl)
      callWith pos f first (backTo pos (starEach (e :: es) X.env)) (backToKw pos (keywordEach [] X.env))) := by rfl) :
    QE cm X Wx (.Call (.Attribute o m apos) (e :: es) [] pos) (eMet m tb mo ma) := by
  obtain ⟨to, po, so⟩ := ho
  obtain ⟨⟨t, pa, sa⟩, _⟩ := ha
  refine ⟨tMetQ cm X.K Wx m tb to t, ⟨fun pins s σ H Q I hq => ?_⟩, met_ok so sa⟩
  refine PySem.W.methodCall_KW (pl := pl) (thn (po.run pins s σ H _ I hq) fun u s1 hz => ?_) hev
  obtain ⟨x, H1, I1, rx, c, g, a, dx, fs, hg, ex, ea, l, q⟩ := hz
  obtain ⟨f, fd, ps, cl, me, F, hb⟩ := (M c g hg).ex
  subst ex
  cases (show u = Value.ref a from rx)
  refine getmeth_ok I1 ea cl me l (PySem.W.callWith_K (first := [.ref a]) (h₀ := X.base) I.ok.mod.kin me.kp (thn (pa.run pos pins s1 σ H1 _ I1 q) fun us s2 hz2 => ?_) hst hpl)
  obtain ⟨vs, H2, I2, rr, q2⟩ := hz2
  exact ⟨I2.kIn, run_fnS (us := .ref a :: us) (vs := .ref a :: vs) (E := WE Wx) F hr hb (passAt tk σ) I2 (.cons rfl rr) q2⟩
theorem q_met0 {m : Str} {j : Nat} {tb : Tb} {o : Expr} {mo : ME} {apos pos : Pos} {pl : Sem Bool} (M : Mets X cm j m tb) (tk : Takes X Wx) (hr : Room j X.A) (ho : QE cm X Wx o mo)
    (hev : eval (.Call (.Attribute o m apos) [] [] pos) X.env = (do
      let ov ← eval o X.env
      standAt apos.atName
      let (f, first) ← holding [ov] (getMethod ov m pl)
      callWith pos f first (backTo pos (starEach [] X.env)) (backToKw pos (keywordEach [] X.env))) := by rfl) :
    QE cm X Wx (.Call (.Attribute o m apos) [] [] pos) (eMet m tb mo aNil) := by
  obtain ⟨to, po, so⟩ := ho
  refine ⟨tMetQ cm X.K Wx m tb to tNil, ⟨fun pins s σ H Q I hq => ?_⟩, met_ok so fun σ ρ h R H Q _ hh p => p R H Ext.refl hh [] .nil⟩
  refine PySem.W.methodCall_KW (pl := pl) (thn (po.run pins s σ H _ I hq) fun u s1 hz => ?_) hev
  obtain ⟨x, H1, I1, rx, c, g, a, dx, fs, hg, ex, ea, l, q⟩ := hz
  obtain ⟨f, fd, ps, cl, me, F, hb⟩ := (M c g hg).ex
  subst ex
  cases (show u = Value.ref a from rx)
  exact getmeth_ok I1 ea cl me l (PySem.W.callWith_K0 (first := [.ref a]) I1.kIn me.kp (run_fnS (us := [.ref a]) (vs := [.ref a]) (E := WE Wx) F hr hb (passAt tk σ) I1 (.cons rfl .nil) q))
/-! properties -/
def Prps (X : Cx) (cm : Str → Addr) (k : Nat) (m : Str) (tb : Tb) : Prop := ∀ c g, tb.lookup c = some g → Prp X cm k c m g
theorem prps_nil {k m} : Prps X cm k m [] := fun c g h => by cases h
theorem prps_cons {k j m c g tb} (h : Prp X cm k c m g) (hk : k ≤ j) (r : Prps X cm j m tb) : Prps X cm j m ((c, g) :: tb) := fun c' g' e => by
  rw [List.lookup_cons] at e
  cases q : (c' == c) with
  | true =>
    rw [q] at e; cases e
    cases eq_of_beq q
    obtain ⟨p, f, fd, ps, a, b, d, e⟩ := h.ex
    exact ⟨p, f, fd, ps, a, b, d.mono hk, e⟩
  | false => rw [q] at e; exact r _ _ e
def ePrp (tb : Tb) (o : ME) : ME := fun ρ h => (o ρ h).bind fun x h1 => match asI h1 x with
  | some (_, c, _) => (match tb.lookup c with
    | some g => (match g [x] h1 with
      | .exc _ _ => .stuck
      | r => r)
    | none => .stuck)
  | none => .stuck
theorem q_prp {f : Str} {j : Nat} {tb : Tb} {o : Expr} {mo : ME} {pos : Pos} (M : Prps X cm j f tb) (hr : Room (j + 1) X.A) (ho : QE cm X Wx o mo) (hb : attributeBase o f X.env (eval o X.env) = eval o X.env := by rfl) : QE cm X Wx (.Attribute o f pos) (ePrp tb mo) := by
  obtain ⟨to, po, so⟩ := ho
  refine ⟨fun σ H Q => to σ H fun x H1 => ∃ c g a dx fs, tb.lookup c = some g ∧ x = .ref a ∧ H1 a = some (.ins (cm c) dx fs) ∧ spM X.K cm g [.ref a] H1 Q E0, ⟨fun pins s σ H Q I h => ?_⟩, fun σ ρ h R H Q hρ hh pp => ?_⟩
  · refine attr_of hb (thn (po.run pins s σ H _ I h) fun v s1 hz => ?_)
    obtain ⟨x, H1, I1, rx, c, g, a, dx, fs, hg, ex, ea, q⟩ := hz
    subst ex
    cases (show v = Value.ref a from rx)
    obtain ⟨p, ga, fd, ps, cl, pr, F, bi⟩ := (M c g hg).ex
    exact getprop_ok (E := E0) I1 ea cl pr F hr bi .nil (passL (X := X.nox)) q
  · refine so σ ρ h R H _ hρ hh (Post.mono (Post.bind pp) fun x h1 R1 H1 e1 x1 p1 => fun v r => ?_)
    cases z : asI h1 x with
    | none => simp only [z] at p1; exact p1.elim
    | some kk =>
      obtain ⟨n, c, fs⟩ := kk
      simp only [z] at p1
      obtain ⟨a, dx, vs, rfl, rfl, hn, ha, rf, ci⟩ := asI_ok x1 r z
      cases hg : tb.lookup c with
      | none => simp only [hg] at p1; exact p1.elim
      | some g =>
        simp only [hg] at p1
        refine ⟨c, g, a, dx, vs, hg, rfl, ha, [.ref n], h1, R1, .cons r .nil, x1, ?_⟩
        cases q : g [.ref n] h1 with
        | ok w h2 => simp only [q] at p1; exact p1
        | exc c2 h2 => simp only [q] at p1; exact p1.elim
        | stuck => simp only [q] at p1; exact p1.elim
end
end Z
namespace Z
open PySem PySem.Spec PyProof.Rows L2
theorem room65 {k : Nat} {A : Around} (r : Room k A) : A.units + 65 < cLine := by have := r.un; omega
theorem takes_WF {X : Cx} : Takes X WF := fun u s' ⟨_, _, _, _, _, _, _, _, _, _, _, _, _, _, _, _, w⟩ => w.elim
end Z

/-! Q: try .. except C as e; isinstance(e, D); xs[i] = e. -/
namespace Z
open PySem PySem.Spec PyProof.Rows L2
def RS.drop (i : Nat) : RS → RS
  | .ok f ρ h => .ok f (ρ.set i none) h
  | .exc _ _ _ => .stuck
  | .stuck => .stuck
abbrev TbB := List (Str × Bool)
open Classical in
noncomputable def sTryAs (i : Nat) (b : MS) (mt : TbB) (s : Nat → Str → MS) : MS := fun ρ h => match b ρ h with
  | .exc c ρ' h' => match mt.lookup c with
    | some true => if z : ∃ r, ∀ a, (s a c (ρ'.set i (some (.exn a c))) h').drop i = r then z.choose else .stuck
    | some false => .exc c ρ' h'
    | none => .stuck
  | r => r
theorem sTryAs_ok {i : Nat} {b : MS} {mt : TbB} {s : Nat → Str → MS} {ρ ρ' : Ev} {h h' : Hq} {f : Fl} (e : b ρ h = .ok f ρ' h') : sTryAs i b mt s ρ h = .ok f ρ' h' := by
  unfold sTryAs
  rw [e]
theorem sTryAs_exc {i : Nat} {b : MS} {mt : TbB} {s : Nat → Str → MS} {ρ ρ' : Ev} {h h' : Hq} {c : Str} {r : RS} (e : b ρ h = .exc c ρ' h') (m : mt.lookup c = some true) (k : ∀ a, (s a c (ρ'.set i (some (.exn a c))) h').drop i = r) : sTryAs i b mt s ρ h = r := by
  have z : ∃ r, ∀ a, (s a c (ρ'.set i (some (.exn a c))) h').drop i = r := ⟨r, k⟩
  unfold sTryAs
  rw [e]
  dsimp only
  rw [m]
  dsimp only
  rw [dif_pos z]
  exact (z.choose_spec 0).symm.trans (k 0)
section
variable {cm : Str → Addr} {X : Cx} {Wx : WX}
theorem REnv.exn {K H R ρ σ} (h : REnv K H R ρ σ) (i a : Nat) (c : Str) : REnv K H R (ρ.set i (some (.exn a c))) (σ.set i (some (.ref a))) := h.set i (.exn a c)
theorem qs_try_as (i : Nat) {x n : Str} {body suite : List Stmt} {b₀ : Stmt} {np pos pos' : Pos} {mb : MS} {ms : Nat → Str → MS} {mt : TbB} (hs : X.stack = X.env :: X.outer) (hf : X.env.frame = some X.env.locals) (hN : X.N.Nodup) (hc : Names X x (.ref (cm x))) (tk : Takes X Wx)
    (hm : ∀ c b, mt.lookup c = some b → PySem.W.exmOne X.K (.ref (cm c)) (.ref (cm x)) = some b)
    (hb : ∀ (W : WX) (pn : List (Addr × Obj)) (xe : Value → Shared → Prop), Takes (X.tr pn xe) W → PassesOwn (model X.prog X.w) X.A X.env xe → QB cm (X.tr pn xe) W body mb)
    (hsu : ∀ (a : Addr) (c : Str) (oe : Obj) (pn : List (Addr × Obj)), Zc (.ref (cm c)) none oe → (∃ vs, oe.data = .fields vs) → QB cm (X.suite a ((a, oe) :: pn)) WF (b₀ :: suite) (ms a c))
    (hi : X.N[i]? = some n := by rfl) (hln : X.env.kindOf n = some .local := by rfl) :
    QS cm X Wx (.Try body [.ExceptHandler (some (.Name x np)) (some n) (b₀ :: suite) pos'] [] [] pos) (sTryAs i mb mt ms) := by
  refine ⟨_, ps_try_as (tb := fun W => tQ cm X W mb) (ts := fun a cls d D σ H => ∃ c, cls = .ref (cm c) ∧ d = none ∧ tQ cm X WF (ms a c) D σ H) hs hf hN hi hln hc tk (fun W pn xe tk' hp' => (hb W pn xe tk' hp').run) (fun a oe cls d pn hz hfl => ?_), fun σ ρ h R H D hρ hh pp => ?_⟩
  · refine ⟨fun pins st σ H D I q => ?_⟩
    obtain ⟨c, e1, e2, q⟩ := q
    subst e1 e2
    exact (hsu a c oe pn hz hfl).run.run pins st σ H D I q
  refine ⟨ρ, h, R, hρ, hh, ?_⟩
  unfold sTryAs at pp
  cases q : mb ρ h with
  | ok f ρ' h' => rw [q] at pp; exact pp
  | stuck => rw [q] at pp; exact pp
  | exc c ρ' h' =>
    rw [q] at pp
    dsimp only at pp
    intro R' H' σ' e' x' r'
    cases qm : mt.lookup c with
    | none => simp only [qm] at pp; exact pp.elim
    | some b =>
      refine ⟨b, hm c b qm, fun hb => ?_, fun hb => ?_⟩
      · subst hb
        simp only [qm] at pp
        split at pp
        · rename_i z
          refine fun a _ => ⟨c, rfl, rfl, ρ'.set i (some (.exn a c)), h', R', r'.exn i a c, x', ?_⟩
          have zz := z.choose_spec a
          rw [← zz] at pp
          cases qs : ms a c (ρ'.set i (some (.exn a c))) h' with
          | stuck => rw [qs] at pp; exact pp.elim
          | exc c2 ρ2 h2 => rw [qs] at pp; exact pp.elim
          | ok f ρ2 h2 =>
            rw [qs] at pp
            have pp2 := PostS.from_ e' pp
            cases f with
            | nx => exact fun R3 H3 σ3 e3 x3 r3 => pp2 R3 H3 _ e3 x3 (r3.unset i)
            | bk => exact fun R3 H3 σ3 e3 x3 r3 => pp2 R3 H3 _ e3 x3 (r3.unset i)
            | ct => exact fun R3 H3 σ3 e3 x3 r3 => pp2 R3 H3 _ e3 x3 (r3.unset i)
            | rt w => exact fun R3 H3 σ3 e3 x3 r3 => pp2 R3 H3 _ e3 x3 (r3.unset i)
        · exact pp.elim
      · subst hb
        simp only [qm] at pp
        exact pp R' H' σ' e' x' r'
/-- isinstance(e, D), e the exception that the suite holds -/
def isE (a : Nat) (c : Str) (tb : TbB) (m : ME) : ME := fun ρ h => (m ρ h).bind fun x h1 => match x with
  | .exn a' c' => if a' = a ∧ c' = c then (match tb.lookup c with
    | some b => .ok (.bl b) h1
    | none => .stuck) else .stuck
  | _ => .stuck
theorem isE_go {a : Addr} {c : Str} {oe : Obj} {pn : List (Addr × Obj)} {tb : TbB} {e ey : Expr} {m : ME} {x : Str} {p pos : Pos} {cv : Value} {vy : V} {Wy : WX} (hz : Zc (.ref (cm c)) none oe) (hf : ∃ vs, oe.data = .fields vs) (hg : Gl X x) (hm : X.mg x = none) (hv : bootBuiltins x = some (.builtin "isinstance"))
    (py : PE (X.suite a ((a, oe) :: pn)) ey (tC vy)) (hcv : ∀ u, RelV vy u → u = cv) (hk : ∀ c b, tb.lookup c = some b → PySem.W.kitOne X.K (.ref (cm c)) cv = some b) (hE : ∀ c b, tb.lookup c = some b → L2.ExcC X.K (cm c))
    (ha : QE cm (X.suite a ((a, oe) :: pn)) Wy e m)
    (hs1 : starEach [e, ey] X.env = (false, eval e X.env) :: starEach [ey] X.env := by rfl) (hs2 : starEach [ey] X.env = (false, eval ey X.env) :: starEach [] X.env := by rfl)
    (hnx : x ≠ "__name__" := by decide) (hdx : (x == ("__debug__" : Str)) = false := by decide) (hpl : (backTo pos (starEach [ey] X.env)).any (·.1) = false := by rfl) :
    QE cm (X.suite a ((a, oe) :: pn)) Wy (.Call (.Name x p) [e, ey] [] pos) (isE a c tb m) := by
  obtain ⟨ta, pa, sa⟩ := ha
  cases zl : tb.lookup c with
  | none =>
    refine ⟨_, pe_callB (X := X.suite a ((a, oe) :: pn)) (id := "isinstance") (r := fun _ _ _ => False) (fun _ _ _ _ _ _ _ _ _ z => z.elim) hg hm hv (pa_cons pa (pa_cons py pa_nil hs2) hs1) hnx hdx hs1 hpl, fun σ ρ h R H Q hρ hh p => ?_⟩
    refine sa σ ρ h R H _ hρ hh (Post.mono (Post.bind p) fun w h1 R1 H1 e1 x1 p1 => fun v r => ?_)
    simp only [zl] at p1
    cases w with
    | exn a' c' => dsimp only at p1; split at p1 <;> exact p1.elim
    | _ => exact p1.elim
  | some b =>
    refine ⟨_, pe_callB (call_isE (hE c b zl) hz hf) hg hm hv (pa_cons pa (pa_cons py pa_nil hs2) hs1) hnx hdx hs1 hpl, fun σ ρ h R H Q hρ hh p => ?_⟩
    refine sa σ ρ h R H _ hρ hh (Post.mono (Post.bind p) fun w h1 R1 H1 e1 x1 p1 => fun v r => ?_)
    simp only [zl] at p1
    cases w with
    | exn a' c' =>
      dsimp only at p1
      split at p1
      · rename_i z
        obtain ⟨rfl, rfl⟩ := z
        cases r
        exact ⟨vy, cv, b, rfl, hcv, hk _ b zl, post_v p1 x1 (.bl b)⟩
      · exact p1.elim
    | _ => exact p1.elim
theorem q_isE {a : Addr} {c : Str} {oe : Obj} {pn : List (Addr × Obj)} {tb : TbB} {e : Expr} {m : ME} {x y : Str} {p pos py : Pos} {Wy : WX} (hz : Zc (.ref (cm c)) none oe) (hf : ∃ vs, oe.data = .fields vs) (hg : Gl X x) (hm : X.mg x = none) (hv : bootBuiltins x = some (.builtin "isinstance"))
    (hgy : Gl X y) (hmy : X.mg y = some (.ref (cm y))) (hk : ∀ c b, tb.lookup c = some b → PySem.W.kitOne X.K (.ref (cm c)) (.ref (cm y)) = some b) (hE : ∀ c b, tb.lookup c = some b → L2.ExcC X.K (cm c))
    (ha : QE cm (X.suite a ((a, oe) :: pn)) Wy e m) (hdy : (y == ("__debug__" : Str)) = false := by decide)
    (hs1 : starEach [e, .Name y py] X.env = (false, eval e X.env) :: starEach [.Name y py] X.env := by rfl) (hs2 : starEach [.Name y py] X.env = (false, eval (.Name y py) X.env) :: starEach [] X.env := by rfl)
    (hnx : x ≠ "__name__" := by decide) (hdx : (x == ("__debug__" : Str)) = false := by decide) (hpl : (backTo pos (starEach [.Name y py] X.env)).any (·.1) = false := by rfl) :
    QE cm (X.suite a ((a, oe) :: pn)) Wy (.Call (.Name x p) [e, .Name y py] [] pos) (isE a c tb m) :=
  isE_go (cv := .ref (cm y)) (vy := .ref (cm y)) hz hf hg hm hv (pe_glob hgy hmy rfl hdy) (fun u r => r) hk hE ha hs1 hs2 hnx hdx hpl
theorem q_isET {a : Addr} {c : Str} {oe : Obj} {pn : List (Addr × Obj)} {tb : TbB} {e : Expr} {m : ME} {T : String} {x y : Str} {p pos py : Pos} {Wy : WX} (hz : Zc (.ref (cm c)) none oe) (hf : ∃ vs, oe.data = .fields vs) (hg : Gl X x) (hm : X.mg x = none) (hv : bootBuiltins x = some (.builtin "isinstance"))
    (hgy : Gl X y) (hmy : X.mg y = none) (hvy : bootBuiltins y = some (.type T)) (hk : ∀ c b, tb.lookup c = some b → PySem.W.kitOne X.K (.ref (cm c)) (.type T) = some b) (hE : ∀ c b, tb.lookup c = some b → L2.ExcC X.K (cm c))
    (ha : QE cm (X.suite a ((a, oe) :: pn)) Wy e m) (hny : y ≠ "__name__" := by decide) (hdy : (y == ("__debug__" : Str)) = false := by decide)
    (hs1 : starEach [e, .Name y py] X.env = (false, eval e X.env) :: starEach [.Name y py] X.env := by rfl) (hs2 : starEach [.Name y py] X.env = (false, eval (.Name y py) X.env) :: starEach [] X.env := by rfl)
    (hnx : x ≠ "__name__" := by decide) (hdx : (x == ("__debug__" : Str)) = false := by decide) (hpl : (backTo pos (starEach [.Name y py] X.env)).any (·.1) = false := by rfl) :
    QE cm (X.suite a ((a, oe) :: pn)) Wy (.Call (.Name x p) [e, .Name y py] [] pos) (isE a c tb m) :=
  isE_go (cv := .type T) (vy := .ty T) hz hf hg hm hv (pe_bltn (v := .ty T) hgy hmy hvy rfl hny hdy) (fun u r => r) hk hE ha hs1 hs2 hnx hdx hpl
/-! tables of Bools -/
theorem tbB_nil {P : Str → Bool → Prop} : ∀ c b, ([] : TbB).lookup c = some b → P c b := fun _ _ h => by cases h
theorem tbB_cons {P : Str → Bool → Prop} {c : Str} {b : Bool} {tb : TbB} (h : P c b) (r : ∀ c b, tb.lookup c = some b → P c b) : ∀ c' b', List.lookup c' ((c, b) :: tb) = some b' → P c' b' := fun c' b' e => by
  rw [List.lookup_cons] at e
  cases q : (c' == c) with
  | true => rw [q] at e; cases e; cases eq_of_beq q; exact h
  | false => rw [q] at e; exact r _ _ e
end

/-! ### xs[i] = e -/
section
variable {cm : Str → Addr} {X : Cx} {Wx : WX}
def putIx (x k y : W) (h : Hq) : Option Hq := match k with
  | .int j => (match atM h x with
    | some (n, t, xs) => (match ixN xs.length j with
      | some m => some (h.set n (.lst t (xs.set m y)))
      | none => none)
    | none => none)
  | _ => none
def sPut (o i e : ME) : MS := fun ρ h => (e ρ h).toS ρ fun y h1 => (o ρ h1).toS ρ fun x h2 => (i ρ h2).toS ρ fun k h3 => match putIx x k y h3 with
  | some h4 => .ok .nx ρ h4
  | none => .stuck
theorem qs_put {o i e : Expr} {mo mi me : ME} {pos pos' : Pos} (ho : QE cm X Wx o mo) (hi : QE cm X Wx i mi) (he : QE cm X Wx e me)
    (ha : ∀ v, assign (.Subscript o i pos') X.env v = (do
      let ov ← holding [v] (eval o X.env)
      let iv ← holding [v, ov] (eval i X.env)
      standAt pos'
      holding [v, ov, iv] (setItem ov iv v)
      release [v, ov, iv] []) := by intro _; rfl)
    (hs : swapsWithSole [.Subscript o i pos'] e pos.line X.env = pure false := by rfl) (hw : swappedStores [.Subscript o i pos'] e X.env = pure none := by rfl)
    (h1 : (assignEach [.Subscript o i pos'] X.env).map (·.2) = [assign (.Subscript o i pos') X.env] := by rfl) : QS cm X Wx (.Assign [.Subscript o i pos'] e pos) (sPut mo mi me) := by
  obtain ⟨to, po, so⟩ := ho
  obtain ⟨ti, pi, si⟩ := hi
  obtain ⟨te, pe, se⟩ := he
  refine ⟨_, ps_asg pe (pg_sub po pi set_list ha) hs hw h1, fun σ ρ h R H D hρ hh pp => ?_⟩
  refine se σ ρ h R H _ hρ hh (Post.mono (PostS.toS hρ pp) fun y h1 R1 H1 e1 x1 p1 => fun vy ry => ?_)
  refine so σ ρ h1 R1 H1 _ (hρ.ext e1) x1 (Post.mono (PostS.toS (hρ.ext e1) p1) fun x h2 R2 H2 e2 x2 p2 => fun vx rx => ?_)
  refine si σ ρ h2 R2 H2 _ ((hρ.ext e1).ext e2) x2 (Post.mono (PostS.toS ((hρ.ext e1).ext e2) p2) fun k h3 R3 H3 e3 x3 p3 => fun vk rk => ?_)
  unfold putIx at p3
  cases k with
  | int j =>
    cases rk
    dsimp only at p3
    cases z : atM h3 x with
    | none => simp only [z] at p3; exact p3.elim
    | some q =>
      obtain ⟨n, t, xs⟩ := q
      simp only [z] at p3
      obtain ⟨a, vs, rfl, hn, ha', ru⟩ := atM_ok x3 (RV.ext e3 _ _ rx) z
      cases zi : ixN xs.length j with
      | none => simp only [zi] at p3; exact p3.elim
      | some m =>
        simp only [zi] at p3
        refine ⟨a, vs, j, m, rfl, rfl, ha', by rw [← ru.length]; exact zi, ?_⟩
        have ry3 := RV.ext e3 _ _ (RV.ext e2 _ _ ry)
        have ex : Ext X.K R3 H3 R3 (upd H3 a (.lst (vs.set m vy))) := Ext.write hn ha' (fun _ q => by cases q) (fun _ _ q => by cases q)
        exact p3 R3 _ σ ex (x3.write hn ha' (fun _ q => by cases q) (fun _ _ q => by cases q) (.lst upd_same (RVs.ext ex _ _ (RVs.set ry3 m ru)))) ((((hρ.ext e1).ext e2).ext e3).ext ex)
  | _ => exact p3.elim
end
end Z

/-! Q: reasoning: objects, lists, comprehensions; heaps that keep. -/
namespace Z
open PySem L2
section
variable {ρ : Ev} {h : Hq} {a b o e : ME} {m : MA} {f : MF} {c : MT} {g : MG} {mi : MI} {s : Str} {n t : Nat} {x y w : W} {xs ws : List W} {vs : List Nat} {tb : Tb} {neg : Bool}
theorem eBM_ap {T : String} : eBM T f o m ρ h = (o ρ h).bind fun x h1 => if tyB T h1 x then (m ρ h1).bind fun ws h2 => f (x :: ws) h2 else .stuck := id rfl
theorem tyB_l : tyB "list" h x = (asL h x).isSome := id rfl
theorem tyB_s {z : Str} : tyB "str" h (.str z) = true := id rfl
theorem isSome_some {α : Type} {a : α} : (some a).isSome = true := id rfl
theorem eMet_ap : eMet s tb o m ρ h = (o ρ h).bind fun x h1 => match asI h1 x with
  | some (_, c, fs) => (match tb.lookup c, fs.lookup s with
    | some g, none => (m ρ h1).bind fun ws h2 => g (x :: ws) h2
    | _, _ => .stuck)
  | none => .stuck := id rfl
theorem ePrp_ap : ePrp tb o ρ h = (o ρ h).bind fun x h1 => match asI h1 x with
  | some (_, c, _) => (match tb.lookup c with
    | some g => (match g [x] h1 with
      | .exc _ _ => .stuck
      | r => r)
    | none => .stuck)
  | none => .stuck := id rfl
theorem eFld_ap : eFld s a ρ h = (a ρ h).bind fun x h1 => fldW s x h1 := id rfl
theorem sFld_ap : sFld s o e ρ h = (e ρ h).toS ρ fun y h1 => (o ρ h1).toS ρ fun x h2 => match setW s x y h2 with
  | some h3 => .ok .nx ρ h3
  | none => .stuck := id rfl
theorem asI_r : asI h (.ref n) = (match h[n]? with
  | some (.ins c fs) => some (n, c, fs)
  | _ => none) := id rfl
theorem sRaise_ap : sRaise s ρ h = .exc s ρ h := id rfl
theorem makeW_ap : makeW s f ws h = (f (.ref h.length :: ws) (h ++ [.ins s []])).bind fun r h2 => match r with
  | .non => .ok (.ref h.length) h2
  | _ => .stuck := id rfl
theorem atM_r : atM h (.ref n) = (match h[n]? with
  | some (.lst t xs) => some (n, t, xs)
  | _ => none) := id rfl
theorem appW_ap : appW [x, y] h = (match atM h x with
    | some (n, t, xs) => if xs.length < sizeLine then .ok .non (h.set n (.lst t (xs ++ [y]))) else .stuck
    | none => .stuck) := id rfl
theorem revW_ap : revW [x] h = (match atM h x with
    | some (n, t, xs) => .ok .non (h.set n (.lst t xs.reverse))
    | none => .stuck) := id rfl
theorem lstcW_ap : lstcW t [x] h = (match asQ h x with
    | some xs => mkL t xs h
    | none => .stuck) := id rfl
theorem asQ_r : asQ h (.ref n) = asL h (.ref n) := id rfl
theorem asQ_t : asQ h (.tup xs) = some xs := id rfl
theorem eLc_ap : eLc t vs mi g c e ρ h = (mi ρ h).bind fun s h1 => (compF s.chk g c e (wipeW ρ vs) [] s.items h1).bind fun ys h2 => mkL t ys h2 := id rfl
theorem tYesM_ap : tYesM ρ h = .ok true h := id rfl
end
/-- a comprehension that changes nothing -/
theorem compF_pure {chk : Hq → Bool} {g : MG} {c : MT} {e : ME} {ρ0 : Ev} {h : Hq} (q : W → Bool) (f : W → W) (hc : chk h = true) : ∀ (ws acc : List W), (∀ w ∈ ws, ∃ ρ1, g w ρ0 = some ρ1 ∧ c ρ1 h = .ok (q w) h ∧ (q w = true → e ρ1 h = .ok (f w) h)) →
    acc.length + ws.length ≤ sizeLine → compF chk g c e ρ0 acc ws h = .ok (acc ++ (ws.filter q).map f) h
  | [], acc, _, _ => by unfold compF; rw [if_pos hc]; simp
  | w :: ws, acc, k, hl => by
    obtain ⟨ρ1, e1, e2, e3⟩ := k w (List.mem_cons_self ..)
    unfold compF
    rw [if_pos hc, e1]
    dsimp only
    rw [e2]
    rw [List.length_cons] at hl
    cases qq : q w with
    | true =>
      dsimp only
      rw [e3 qq]
      dsimp only
      rw [if_pos (by omega), compF_pure q f hc ws (acc ++ [f w]) (fun u hu => k u (List.mem_cons_of_mem _ hu)) (by rw [List.length_append, List.length_singleton]; omega), List.filter_cons_of_pos qq]
      simp
    | false =>
      dsimp only
      rw [compF_pure q f hc ws acc (fun u hu => k u (List.mem_cons_of_mem _ hu)) (by omega), List.filter_cons_of_neg (by rw [qq]; exact Bool.false_ne_true)]
/-! ### heaps that keep -/
def Kp (h h' : Hq) : Prop := ∀ (n : Nat) (o : Ob), h[n]? = some o → h'[n]? = some o
theorem Kp.refl {h : Hq} : Kp h h := fun _ _ e => e
theorem Kp.trans {a b c : Hq} (x : Kp a b) (y : Kp b c) : Kp a c := fun n o e => y n o (x n o e)
theorem Kp.len {h h' : Hq} (x : Kp h h') : h.length ≤ h'.length := by
  cases e : h.length with
  | zero => omega
  | succ k =>
    have hk : k < h.length := by omega
    have := x k h[k] (List.getElem?_eq_getElem hk)
    have := (List.getElem?_eq_some_iff.mp this).1
    omega
theorem Kp.app {h t : Hq} : Kp h (h ++ t) := fun n o e => by rw [List.getElem?_append_left (List.getElem?_eq_some_iff.mp e).1]; exact e
theorem Kp.set {h h' : Hq} {n : Nat} {o : Ob} (x : Kp h h') (hn : h.length ≤ n) : Kp h (h'.set n o) := fun m u e => by
  have hm := (List.getElem?_eq_some_iff.mp e).1
  rw [List.getElem?_set_ne (by omega)]
  exact x m u e
theorem get_new {h : Hq} {o : Ob} : (h ++ [o])[h.length]? = some o := by simp
theorem get_lt {h : Hq} {n : Nat} {o : Ob} (e : h[n]? = some o) : n < h.length := (List.getElem?_eq_some_iff.mp e).1
theorem get_app {h t : Hq} {n : Nat} {o : Ob} (e : h[n]? = some o) : (h ++ t)[n]? = some o := Kp.app n o e
theorem get_set {h : Hq} {n : Nat} {o u : Ob} (e : h[n]? = some u) : (h.set n o)[n]? = some o := List.getElem?_set_self (get_lt e)
theorem get_set_ne {h : Hq} {n m : Nat} {o u : Ob} (e : h[m]? = some u) (ne : n ≠ m) : (h.set n o)[m]? = some u := by rw [List.getElem?_set_ne ne]; exact e
/-! ### lists of ints -/
abbrev IL (xs : List Int) : Ob := .lst 0 (xs.map W.int)
theorem toDs_I {L : Nat → Option PyData} : ∀ xs : List Int, toDs L (xs.map W.int) = some (xs.map PyData.int)
  | [] => rfl
  | x :: xs => by
    rw [List.map_cons, List.map_cons]
    unfold toDs
    rw [toDs_I xs]
    rfl
section
variable {h : Hq} {n m : Nat} {xs ys : List Int} {i : Int} {neg : Bool}
theorem asL_I (e : h[n]? = some (IL xs)) : asL h (.ref n) = some (xs.map W.int) := asL_ref e
theorem data_I (e : h[n]? = some (IL xs)) : dataW h (.ref n) = some (.list (xs.map PyData.int)) := by
  show refD h 60 n = _
  unfold refD
  rw [asL_I e]
  dsimp only
  rw [toDs_I]
  rfl
theorem shaped_I : ∀ xs : List Int, SeqAt.shaped (.list (xs.map PyData.int)) = true := by
  intro xs
  have h1 : ∀ xs : List Int, PyData.canLayAll0 (xs.map PyData.int) = true := by
    intro xs
    induction xs with
    | nil => rfl
    | cons x xs ih =>
      rw [List.map_cons]
      unfold PyData.canLayAll0
      rw [ih]; rfl
  have h2 : ∀ xs : List Int, PyData.depthAll (xs.map PyData.int) ≤ 1 := by
    intro xs
    induction xs with
    | nil => decide
    | cons x xs ih =>
      rw [List.map_cons]
      unfold PyData.depthAll
      have : (PyData.int x).depth ≤ 1 := by unfold PyData.depth; omega
      omega
  unfold SeqAt.shaped
  rw [Bool.and_eq_true]
  refine ⟨h1 xs, ?_⟩
  rw [decide_eq_true_eq]
  have := h2 xs
  show PyData.depth (.list _) ≤ 64
  unfold PyData.depth
  omega
theorem eqv_II {i j : Int} : PyData.eqv (.int i) (.int j) = (i == j) := by unfold PyData.eqv; rfl
theorem any_I : (xs.map PyData.int).any (fun z => PyData.eqv z (.int i)) = decide (i ∈ xs) := by
  induction xs with
  | nil => simp
  | cons x xs ih =>
    rw [List.map_cons, List.any_cons, ih, eqv_II]
    by_cases e : x = i
    · subst e; simp
    · have e2 : i ≠ x := fun z => e z.symm
      simp [e, e2]
theorem inW_I (e : h[n]? = some (IL xs)) : inW neg (.int i) (.ref n) h = .ok (.bl (xor neg (decide (i ∈ xs)))) h := by
  unfold inW
  dsimp only
  rw [data_I e]
  have hd : dataW h (.int i) = some (.int i) := rfl
  rw [hd]
  dsimp only
  have hs : SeqAt.shaped (.int i) = true := by rfl
  rw [hs, shaped_I]
  simp only [Bool.and_self, if_true, any_I]
theorem eqvAll_I : PyData.eqvAll (xs.map PyData.int) (ys.map PyData.int) = decide (xs = ys) := by
  induction xs generalizing ys with
  | nil => cases ys <;> simp [PyData.eqvAll]
  | cons x xs ih =>
    cases ys with
    | nil => simp [PyData.eqvAll]
    | cons y ys =>
      rw [List.map_cons, List.map_cons]
      unfold PyData.eqvAll
      rw [ih, eqv_II]
      by_cases e : x = y <;> by_cases e2 : xs = ys <;> simp [e, e2]
theorem eqW_I (e : h[n]? = some (IL xs)) (e2 : h[m]? = some (IL ys)) : eqW neg (.ref n) (.ref m) h = .ok (.bl (xor neg (decide (xs = ys)))) h := by
  unfold eqW
  dsimp only
  rw [data_I e, data_I e2]
  dsimp only
  rw [shaped_I, shaped_I]
  simp only [Bool.and_self, if_true]
  have : PyData.eqv (.list (xs.map PyData.int)) (.list (ys.map PyData.int)) = decide (xs = ys) := by
    unfold PyData.eqv
    exact eqvAll_I
  rw [this]
theorem lenW_I (e : h[n]? = some (IL xs)) : lenW [.ref n] h = .ok (.int xs.length) h := by
  rw [lenW_r, e]
  dsimp only
  rw [List.length_map]
theorem atI_I (h0 : 0 ≤ i) (h1 : i < xs.length) : atI (xs.map W.int) i = some (.int (xs.getD i.toNat 0)) := by
  obtain ⟨k, rfl⟩ := Int.eq_ofNat_of_zero_le h0
  have hk : k < xs.length := by omega
  exact atI_nat (by simp [hk, List.getD])
theorem ixW_I (e : h[n]? = some (IL xs)) (h0 : 0 ≤ i) (h1 : i < xs.length) : ixW (.ref n) (.int i) h = .ok (.int (xs.getD i.toNat 0)) h := by
  rw [ixW_r, asL_I e]
  dsimp only
  rw [atI_I h0 h1]
theorem appW_I (e : h[n]? = some (IL xs)) (hl : xs.length < 16777216) : appW [.ref n, .int i] h = .ok .non (h.set n (IL (xs ++ [i]))) := by
  rw [appW_ap, atM_r, e]
  dsimp only
  rw [List.length_map, sizeL, if_pos hl]
  simp only [IL, List.map_append, List.map_cons, List.map_nil]
theorem addW_I (e : h[n]? = some (IL xs)) (e2 : h[m]? = some (IL ys)) (hl : xs.length + ys.length ≤ 16777216) : addW 0 (.ref n) (.ref m) h = .ok (.ref h.length) (h ++ [IL (xs ++ ys)]) := by
  unfold addW
  dsimp only
  rw [asL_I e, asL_I e2]
  dsimp only
  have i1 : isMut h (.ref n) = true := by unfold isMut; simp only [e]
  have i2 : isMut h (.ref m) = true := by unfold isMut; simp only [e2]
  rw [i1, i2, List.length_map, List.length_map, sizeL, decide_eq_true hl]
  simp only [Bool.and_self, if_true, mkL_ap, IL, List.map_append]
theorem lstcW_I (e : h[n]? = some (IL xs)) : lstcW 0 [.ref n] h = .ok (.ref h.length) (h ++ [IL xs]) := by
  rw [lstcW_ap, asQ_r, asL_I e]
  rfl
theorem revW_I (e : h[n]? = some (IL xs)) : revW [.ref n] h = .ok .non (h.set n (IL xs.reverse)) := by
  rw [revW_ap, atM_r, e]
  dsimp only
  rw [← List.map_reverse]
theorem tyB_I (e : h[n]? = some (IL xs)) : tyB "list" h (.ref n) = true := by rw [tyB_l, asL_I e]; rfl
theorem stillL_I (e : h[n]? = some (IL xs)) : stillL (.ref n) (xs.map W.int) h = true := stillL_of (asL_I e)
theorem iterW_I (e : h[n]? = some (IL xs)) : iterW (.ref n) h = .ok ⟨xs.map W.int, stillL (.ref n) (xs.map W.int)⟩ h := by rw [iterW_r, asL_I e]
end
theorem cutL_from {α : Type} {xs : List α} {k : Int} (h0 : 0 ≤ k) : cutL xs (some k) none = xs.drop k.toNat := by
  unfold cutL
  simp only [HT.sIx]
  rw [if_neg (by omega)]
  by_cases e : k.toNat ≤ xs.length
  · rw [Nat.min_eq_left e, List.take_of_length_le (by rw [List.length_drop]; omega)]
  · rw [Nat.min_eq_right (by omega), List.drop_length, List.drop_eq_nil_of_le (by omega)]; simp
theorem cutL_to {α : Type} {xs : List α} {k : Int} (h0 : 0 ≤ k) : cutL xs none (some k) = xs.take k.toNat := by
  unfold cutL
  simp only [HT.sIx]
  rw [if_neg (by omega), List.drop_zero]
  by_cases e : k.toNat ≤ xs.length
  · rw [Nat.min_eq_left e]; simp
  · rw [Nat.min_eq_right (by omega)]
    simp only [Nat.sub_zero]
    rw [List.take_of_length_le (Nat.le_refl _), List.take_of_length_le (by omega)]
section
variable {h : Hq} {n : Nat} {xs : List Int} {i : Int}
theorem slW_from (e : h[n]? = some (IL xs)) (h0 : 0 ≤ i) : slW 0 (.ref n) (some i) none h = .ok (.ref h.length) (h ++ [IL (xs.drop i.toNat)]) := by
  rw [slW_r, asL_I e]
  dsimp only
  rw [cutL_from h0, mkL_ap]
  simp only [IL, List.map_drop]
theorem slW_to (e : h[n]? = some (IL xs)) (h0 : 0 ≤ i) : slW 0 (.ref n) none (some i) h = .ok (.ref h.length) (h ++ [IL (xs.take i.toNat)]) := by
  rw [slW_r, asL_I e]
  dsimp only
  rw [cutL_to h0, mkL_ap]
  simp only [IL, List.map_take]
end
theorem natAbs_10 : Int.natAbs 10 = 10 := id rfl
theorem natAbs_2 : Int.natAbs 2 = 2 := id rfl
/-- a comprehension over ints that picks -/
theorem comp_I {chk : Hq → Bool} {g : MG} {c : MT} {e : ME} {ρ0 : Ev} {h : Hq} (p : Int → Bool) (xs : List Int) (hc : chk h = true)
    (hk : ∀ x ∈ xs, ∃ ρ1, g (.int x) ρ0 = some ρ1 ∧ c ρ1 h = .ok (p x) h ∧ (p x = true → e ρ1 h = .ok (.int x) h)) (hl : xs.length ≤ 16777216) : compF chk g c e ρ0 [] (xs.map W.int) h = .ok ((xs.filter p).map W.int) h := by
  have := compF_pure (chk := chk) (g := g) (c := c) (e := e) (ρ0 := ρ0) (h := h) (fun w => match w with | .int x => p x | _ => false) id hc (xs.map W.int) [] (fun w hw => by
    obtain ⟨x, hx, rfl⟩ := List.mem_map.mp hw
    exact hk x hx) (by rw [List.length_map, sizeL]; simpa using hl)
  rw [this]
  congr 1
  simp only [List.nil_append, List.map_id]
  rw [List.filter_map]
  rfl
theorem wipeW_nil {ρ : Ev} : wipeW ρ [] = ρ := id rfl
theorem wipeW_cons {ρ : Ev} {v : Nat} {vs : List Nat} : wipeW ρ (v :: vs) = (wipeW ρ vs).set v none := id rfl
/-! ### objects at a place -/
section
variable {h : Hq} {n : Nat} {c f : Str} {fs : List (Str × W)} {v y : W}
theorem fldW_at (e : h[n]? = some (.ins c fs)) (hf : (fieldsOf c).contains f = true) (hl : fs.lookup f = some v) : fldW f (.ref n) h = .ok v h := by
  unfold fldW
  rw [asI_r, e]
  dsimp only
  rw [if_pos hf, hl]
theorem setW_at (e : h[n]? = some (.ins c fs)) (hf : (fieldsOf c).contains f = true) (hl : fs.length < 1000) : setW f (.ref n) y h = some (h.set n (.ins c (putW f y fs))) := by
  unfold setW
  rw [asI_r, e]
  dsimp only
  rw [hf, decide_eq_true hl]
  rfl
end
theorem addW_L {h : Hq} {n m t t2 : Nat} {xs ys : List W} (e : h[n]? = some (.lst t xs)) (e2 : h[m]? = some (.lst t2 ys)) (hl : xs.length + ys.length ≤ 16777216) : addW 0 (.ref n) (.ref m) h = .ok (.ref h.length) (h ++ [.lst 0 (xs ++ ys)]) := by
  unfold addW
  dsimp only
  rw [asL_ref e, asL_ref e2]
  dsimp only
  have i1 : isMut h (.ref n) = true := by unfold isMut; simp only [e]
  have i2 : isMut h (.ref m) = true := by unfold isMut; simp only [e2]
  rw [i1, i2, sizeL, decide_eq_true hl]
  simp only [Bool.and_self, if_true, mkL_ap]
theorem sPut_ap {o i e : ME} {ρ : Ev} {h : Hq} : sPut o i e ρ h = (e ρ h).toS ρ fun y h1 => (o ρ h1).toS ρ fun x h2 => (i ρ h2).toS ρ fun k h3 => match putIx x k y h3 with
  | some h4 => .ok .nx ρ h4
  | none => .stuck := id rfl
theorem isE_ap {a : Nat} {c : Str} {tb : TbB} {m : ME} {ρ : Ev} {h : Hq} : isE a c tb m ρ h = (m ρ h).bind fun x h1 => match x with
  | .exn a' c' => if a' = a ∧ c' = c then (match tb.lookup c with
    | some b => .ok (.bl b) h1
    | none => .stuck) else .stuck
  | _ => .stuck := id rfl
theorem putIx_at {h : Hq} {n t : Nat} {xs : List W} {j : Int} {y : W} (e : h[n]? = some (.lst t xs)) (h0 : 0 ≤ j) (h1 : j < xs.length) : putIx (.ref n) (.int j) y h = some (h.set n (.lst t (xs.set j.toNat y))) := by
  unfold putIx
  dsimp only
  rw [atM_r, e]
  dsimp only
  have : ixN xs.length j = some j.toNat := by unfold ixN; rw [if_pos h0, if_pos h1]
  rw [this]
end Z

namespace Y
open PySem L2 Z
noncomputable section
/-- is_integer(thing) -/
def F_is_integer_b : MS := sRet (eAnd (isiW "int" (eV 0)) (eAnd (eNot (isiW "bool" (eV 0))) (eChain (leW) (leW) (eNeg (eC (.int (1000000000000)))) (eV 0) (eC (.int (1000000000000))))))
def F_is_integer : MF := fnB 1 1 F_is_integer_b
theorem F_is_integer_ap {x0 : W} {h : Hq} : F_is_integer [x0] h = endF (F_is_integer_b [some x0] h) := id rfl
/-- Terms.__init__(self, copies, write, read) -/
def F_Terms___init___b : MS := sSeq (sFor (iAny (eLst 0 (aCons (eV 1) (aCons (eV 2) (aCons (eV 3) (aNil)))))) (gN 4) (sIf (tOrM (tNotM (tTru (eCB F_is_integer (aCons (eV 4) (aNil))))) (tNotM (tB (eBin (leW) (eC (.int 1)) (eV 4))))) (sRaise "BadValue") (sNop)))
      (sSeq (sIf (tOrM (tB (eBin (gtW) (eV 2) (eV 1))) (tOrM (tB (eBin (gtW) (eV 3) (eV 1))) (tB (eBin (leW) (eBin (addW 0) (eV 2) (eV 3)) (eV 1))))) (sRaise "BadValue") (sNop))
      (sSeq (sFld "_copies" (eV 0) (eV 1))
      (sSeq (sFld "_write" (eV 0) (eV 2))
      (sFld "_read" (eV 0) (eV 3)))))
def F_Terms___init__ : MF := fnB 4 5 F_Terms___init___b
theorem F_Terms___init___ap {x0 x1 x2 x3 : W} {h : Hq} : F_Terms___init__ [x0, x1, x2, x3] h = endF (F_Terms___init___b [some x0, some x1, some x2, some x3, none] h) := id rfl
/-- _law_cell(_law_script, _law_k) -/
def F_law_cell_b : MS := sSeq (sIf (tB (eBin (ltW) (eV 1) (eCB lenW (aCons (eV 0) (aNil))))) (sRet (eBin ixW (eV 0) (eV 1))) (sNop))
      (sRet (eC (.int 0)))
def F_law_cell : MF := fnB 2 2 F_law_cell_b
theorem F_law_cell_ap {x0 x1 : W} {h : Hq} : F_law_cell [x0, x1] h = endF (F_law_cell_b [some x0, some x1] h) := id rfl
/-- _law_refused(_law_copies, _law_write, _law_read) -/
def F_law_refused_b : MS := sSeq (sTryAs 3 (sExpr (eCB (makeW "Terms" F_Terms___init__) (aCons (eV 0) (aCons (eV 1) (aCons (eV 2) (aNil)))))) [("BadValue", true), ("Busy", true), ("HouseDown", true), ("RingError", true), ("Unknown", true)] (fun ea ec => sSeq (sIf (tOrM (tNotM (tTru (isE ea ec [("BadValue", true), ("Busy", false), ("HouseDown", false), ("RingError", false), ("Unknown", false)] (eV 3)))) (tNotM (tTru (isE ea ec [("BadValue", true), ("Busy", true), ("HouseDown", true), ("RingError", true), ("Unknown", true)] (eV 3))))) (sRet (eC (.bl false))) (sNop))
      (sRet (eAnd (eNot (isE ea ec [("BadValue", false), ("Busy", true), ("HouseDown", false), ("RingError", false), ("Unknown", false)] (eV 3))) (eAnd (eNot (isE ea ec [("BadValue", false), ("Busy", false), ("HouseDown", true), ("RingError", false), ("Unknown", false)] (eV 3))) (eNot (isE ea ec [("BadValue", false), ("Busy", false), ("HouseDown", false), ("RingError", false), ("Unknown", true)] (eV 3))))))))
      (sRet (eC (.bl false)))
def F_law_refused : MF := fnB 3 4 F_law_refused_b
theorem F_law_refused_ap {x0 x1 x2 : W} {h : Hq} : F_law_refused [x0, x1, x2] h = endF (F_law_refused_b [some x0, some x1, some x2, none] h) := id rfl
/-- _law_terms(_law_cell_here, _law_other) -/
def F_law_terms_b : MS := sSeq (sAsg (eBin (addW 0) (eC (.int 1)) (eBin (modW) (eCB intcW (aCons (eV 0) (aNil))) (eC (.int 7)))) (gN 2))
      (sSeq (sIf (tB (eBin (eqW false) (eBin (modW) (eCB intcW (aCons (eBin (fdivW) (eV 0) (eC (.int 7))) (aNil))) (eC (.int 3))) (eC (.int 1)))) (sAsg (eBin (addW 0) (eC (.int 1)) (eBin (modW) (eCB intcW (aCons (eBin (fdivW) (eV 0) (eC (.int 21))) (aNil))) (eBin (powW) (eC (.int 10)) (eC (.int 11))))) (gN 2)) (sNop))
      (sSeq (sAsg (eBin (addW 0) (eC (.int 1)) (eBin (modW) (eCB intcW (aCons (eV 1) (aNil))) (eV 2))) (gN 3))
      (sSeq (sAsg (eBin (addW 0) (eBin (addW 0) (eBin (subW) (eV 2) (eV 3)) (eC (.int 1))) (eBin (modW) (eCB intcW (aCons (eBin (fdivW) (eV 1) (eV 2)) (aNil))) (eV 3))) (gN 4))
      (sSeq (sIf (tB (eBin (eqW false) (eBin (modW) (eCB intcW (aCons (eBin (fdivW) (eV 0) (eC (.int 21))) (aNil))) (eC (.int 2))) (eC (.int 1)))) (sRet (eTup (aCons (eV 2) (aCons (eV 4) (aCons (eV 3) (aNil)))))) (sNop))
      (sRet (eTup (aCons (eV 2) (aCons (eV 3) (aCons (eV 4) (aNil))))))))))
def F_law_terms : MF := fnB 2 5 F_law_terms_b
theorem F_law_terms_ap {x0 x1 : W} {h : Hq} : F_law_terms [x0, x1] h = endF (F_law_terms_b [some x0, some x1, none, none, none] h) := id rfl
/-- Terms.copies(self) -/
def F_Terms_copies_b : MS := sRet (eFld "_copies" (eV 0))
def F_Terms_copies : MF := fnB 1 1 F_Terms_copies_b
theorem F_Terms_copies_ap {x0 : W} {h : Hq} : F_Terms_copies [x0] h = endF (F_Terms_copies_b [some x0] h) := id rfl
/-- Terms.write(self) -/
def F_Terms_write_b : MS := sRet (eFld "_write" (eV 0))
def F_Terms_write : MF := fnB 1 1 F_Terms_write_b
theorem F_Terms_write_ap {x0 : W} {h : Hq} : F_Terms_write [x0] h = endF (F_Terms_write_b [some x0] h) := id rfl
/-- Terms.read(self) -/
def F_Terms_read_b : MS := sRet (eFld "_read" (eV 0))
def F_Terms_read : MF := fnB 1 1 F_Terms_read_b
theorem F_Terms_read_ap {x0 : W} {h : Hq} : F_Terms_read [x0] h = endF (F_Terms_read_b [some x0] h) := id rfl
/-- Terms.handing(self) -/
def F_Terms_handing_b : MS := sRet (eBin (addW 0) (eBin (subW) (eFld "_copies" (eV 0)) (eCB min2W (aCons (eFld "_write" (eV 0)) (aCons (eFld "_read" (eV 0)) (aNil))))) (eC (.int 1)))
def F_Terms_handing : MF := fnB 1 1 F_Terms_handing_b
theorem F_Terms_handing_ap {x0 : W} {h : Hq} : F_Terms_handing [x0] h = endF (F_Terms_handing_b [some x0] h) := id rfl
/-- _law_right(_law_terms_here, _law_due) -/
def F_law_right_b : MS := sSeq (sAsg (eBin ixW (eV 1) (eC (.int 1))) (gN 2))
      (sSeq (sIf (tB (eBin (ltW) (eBin ixW (eV 1) (eC (.int 2))) (eV 2))) (sAsg (eBin ixW (eV 1) (eC (.int 2))) (gN 2)) (sNop))
      (sSeq (sAsg (eLst 0 (aCons (ePrp (("Terms", F_Terms_copies) :: []) (eV 0)) (aCons (ePrp (("Terms", F_Terms_write) :: []) (eV 0)) (aCons (ePrp (("Terms", F_Terms_read) :: []) (eV 0)) (aCons (ePrp (("Terms", F_Terms_handing) :: []) (eV 0)) (aNil)))))) (gN 3))
      (sSeq (sFor (iRng1W (aCons (eC (.int 4)) (aNil))) (gN 4) (sIf (tOrM (tNotM (tTru (isiW "int" (eBin ixW (eV 3) (eV 4))))) (tTru (isiW "bool" (eBin ixW (eV 3) (eV 4))))) (sRet (eC (.bl false))) (sNop)))
      (sRet (eBin (eqW false) (eV 3) (eBin (addW 0) (eCB (lstcW 0) (aCons (eV 1) (aNil))) (eLst 0 (aCons (eBin (addW 0) (eBin (subW) (eBin ixW (eV 1) (eC (.int 0))) (eV 2)) (eC (.int 1))) (aNil)))))))))
def F_law_right : MF := fnB 2 5 F_law_right_b
theorem F_law_right_ap {x0 x1 : W} {h : Hq} : F_law_right [x0, x1] h = endF (F_law_right_b [some x0, some x1, none, none, none] h) := id rfl
/-- _law_bad(_law_due, _law_cell_here) -/
def F_law_bad_b : MS := sSeq (sAsg (eBin (addW 0) (eBin (addW 0) (eBin (powW) (eC (.int 10)) (eC (.int 12))) (eC (.int 1))) (eBin (modW) (eCB intcW (aCons (eBin (fdivW) (eV 1) (eC (.int 33))) (aNil))) (eBin (powW) (eC (.int 10)) (eC (.int 30))))) (gN 2))
      (sSeq (sAsg (eBin ixW (eTup (aCons (eC (.int 0)) (aCons (eNeg (eC (.int 1))) (aCons (eNeg (eV 2)) (aCons (eV 2) (aCons (eC (.bl true)) (aCons (eC (.bl false)) (aCons (eC .non) (aCons (eC (.str "1")) (aCons (eTup (aCons (eC (.int 1)) (aNil))) (aCons (eLst 0 (aCons (eC (.int 1)) (aNil))) (aCons (eBin (addW 0) (eBin ixW (eV 0) (eC (.int 0))) (eC (.int 1))) (aNil))))))))))))) (eBin (modW) (eCB intcW (aCons (eBin (fdivW) (eV 1) (eC (.int 3))) (aNil))) (eC (.int 11)))) (gN 3))
      (sSeq (sAsg (eCB (lstcW 0) (aCons (eV 0) (aNil))) (gN 4))
      (sSeq (sPut (eV 4) (eBin (modW) (eCB intcW (aCons (eV 1) (aNil))) (eC (.int 3))) (eV 3))
      (sSeq (sIf (tAndM (tB (eBin (eqW false) (eV 3) (eBin (addW 0) (eBin ixW (eV 0) (eC (.int 0))) (eC (.int 1))))) (tB (eBin (eqW false) (eBin (modW) (eCB intcW (aCons (eV 1) (aNil))) (eC (.int 3))) (eC (.int 0))))) (sAsg (eLst 0 (aCons (eBin ixW (eV 0) (eC (.int 0))) (aCons (eBin (addW 0) (eBin ixW (eV 0) (eC (.int 0))) (eC (.int 1))) (aCons (eBin ixW (eV 0) (eC (.int 2))) (aNil))))) (gN 4)) (sNop))
      (sRet (eV 4))))))
def F_law_bad : MF := fnB 2 5 F_law_bad_b
theorem F_law_bad_ap {x0 x1 : W} {h : Hq} : F_law_bad [x0, x1] h = endF (F_law_bad_b [some x0, some x1, none, none, none] h) := id rfl
/-- _law_too_few(_law_due, _law_cell_here) -/
def F_law_too_few_b : MS := sSeq (sAsg (eBin (addW 0) (eC (.int 1)) (eBin (modW) (eCB intcW (aCons (eV 1) (aNil))) (eBin ixW (eV 0) (eC (.int 0))))) (gN 2))
      (sRet (eTup (aCons (eBin ixW (eV 0) (eC (.int 0))) (aCons (eV 2) (aCons (eBin (subW) (eBin (subW) (eBin ixW (eV 0) (eC (.int 0))) (eV 2)) (eBin (modW) (eCB intcW (aCons (eBin (fdivW) (eV 1) (eC (.int 7))) (aNil))) (eC (.int 2)))) (aNil))))))
def F_law_too_few : MF := fnB 2 3 F_law_too_few_b
theorem F_law_too_few_ap {x0 x1 : W} {h : Hq} : F_law_too_few [x0, x1] h = endF (F_law_too_few_b [some x0, some x1, none] h) := id rfl
/-- law(_law_script) -/
def F_law_b : MS := sSeq (sAsg (eCB F_law_terms (aCons (eCB absW (aCons (eCB F_law_cell (aCons (eV 0) (aCons (eC (.int 0)) (aNil)))) (aNil))) (aCons (eCB absW (aCons (eCB F_law_cell (aCons (eV 0) (aCons (eC (.int 1)) (aNil)))) (aNil))) (aNil)))) (gN 1))
      (sSeq (sAsg (eCB F_law_terms (aCons (eCB absW (aCons (eCB F_law_cell (aCons (eV 0) (aCons (eC (.int 2)) (aNil)))) (aNil))) (aCons (eCB absW (aCons (eCB F_law_cell (aCons (eV 0) (aCons (eC (.int 3)) (aNil)))) (aNil))) (aNil)))) (gN 2))
      (sSeq (sAsg (eCB (makeW "Terms" F_Terms___init__) (aCons (eBin ixW (eV 1) (eC (.int 0))) (aCons (eBin ixW (eV 1) (eC (.int 1))) (aCons (eBin ixW (eV 1) (eC (.int 2))) (aNil))))) (gN 3))
      (sSeq (sIf (tNotM (tTru (eCB F_law_right (aCons (eV 3) (aCons (eV 1) (aNil)))))) (sRet (eC (.bl false))) (sNop))
      (sSeq (sAsg (eCB F_law_bad (aCons (eV 1) (aCons (eCB absW (aCons (eCB F_law_cell (aCons (eV 0) (aCons (eC (.int 4)) (aNil)))) (aNil))) (aNil)))) (gN 4))
      (sSeq (sAsg (eCB F_law_too_few (aCons (eV 1) (aCons (eCB absW (aCons (eCB F_law_cell (aCons (eV 0) (aCons (eC (.int 5)) (aNil)))) (aNil))) (aNil)))) (gN 5))
      (sSeq (sIf (tOrM (tNotM (tTru (eCB F_law_refused (aCons (eBin ixW (eV 4) (eC (.int 0))) (aCons (eBin ixW (eV 4) (eC (.int 1))) (aCons (eBin ixW (eV 4) (eC (.int 2))) (aNil))))))) (tNotM (tTru (eCB F_law_refused (aCons (eBin ixW (eV 5) (eC (.int 0))) (aCons (eBin ixW (eV 5) (eC (.int 1))) (aCons (eBin ixW (eV 5) (eC (.int 2))) (aNil)))))))) (sRet (eC (.bl false))) (sNop))
      (sSeq (sIf (tNotM (tTru (eCB F_law_refused (aCons (eBin ixW (eV 5) (eC (.int 0))) (aCons (eBin ixW (eV 5) (eC (.int 2))) (aCons (eBin ixW (eV 5) (eC (.int 1))) (aNil))))))) (sRet (eC (.bl false))) (sNop))
      (sRet (eAnd (eCB F_law_right (aCons (eCB (makeW "Terms" F_Terms___init__) (aCons (eBin ixW (eV 2) (eC (.int 0))) (aCons (eBin ixW (eV 2) (eC (.int 1))) (aCons (eBin ixW (eV 2) (eC (.int 2))) (aNil))))) (aCons (eV 2) (aNil)))) (eCB F_law_right (aCons (eV 3) (aCons (eV 1) (aNil)))))))))))))
def F_law : MF := fnB 1 6 F_law_b
theorem F_law_ap {x0 : W} {h : Hq} : F_law [x0] h = endF (F_law_b [some x0, none, none, none, none, none] h) := id rfl
end
end Y

namespace Y
open PySem L2 Z
local macro_rules | `(tactic| walk_at "q") => `(tactic| simp only [Int.reduceLT, Int.reduceLE, Int.reduceGT, Int.reduceGE, Int.reduceNeg, Int.reducePow, Int.reduceAdd, Int.reduceSub, Int.reduceMul, Int.reduceEq, Int.reduceToNat, Int.reduceMod, Nat.reduceLT, Nat.reduceLeDiff, Nat.reduceAdd, Nat.reduceSub, Nat.reduceEqDiff, Nat.reduceMul, decide_true, decide_false, Bool.and_self, Bool.and_true, Bool.true_and, Bool.and_false, Bool.false_and, Bool.or_true, Bool.true_or, Bool.or_false, Bool.false_or, Bool.or_self, reduceCtorEq, sizeL, eBM_ap, tyB_l, tyB_s, isSome_some, eMet_ap, ePrp_ap, eFld_ap, sFld_ap, asI_r, sRaise_ap, makeW_ap, eLc_ap, sPut_ap, isE_ap, wipeW_nil, wipeW_cons, get_new, atM_r, appW_ap, revW_ap, lstcW_ap, asQ_r, asQ_t, tYesM_ap, List.length_map, eV_ap, eC_ap, eBin_ap, eNeg_ap, tB_ap, eChain_ap, tTru_ap, tAndM_ap, tOrM_ap, tNotM_ap, eAnd_ap, eOr_ap, eNot_ap, aNil_ap, aCons_ap, eTup_ap, eLst_ap, eCB_ap, eCB0_ap, isiW_ap, oNone_ap, oSome_ap, eSl_ap, sNop_ap, sSeq_ap, endF_rt, endF_nx, endF_exc, sExpr_ap, sRet_ap, sRetN_ap, sBrk_ap, sCont_ap, sIf_ap, gN_ap, gT_ap, gsNil_ap, gsCons_ap, sAsg_ap, iAny_ap, iRng1W_ap, iRng2W_ap, sFor_ap, iterW_tup, iterW_str, iterW_frz, bind_ok, bind_exc, toS_ok, toS_exc, thenS_nx, thenS_rt, thenS_bk, thenS_ct, thenS_exc, mkL_ap, tyW, truW, addW_ii, addW_ss, addW_tt, subW_ii, fdivW_ok, modW_ok, powW_ap, and_self, Nat.reducePow, natAbs_10, natAbs_2, asL_frz, mulNS_ap, eqW_ii, eqW_ss, eqW_bb, eqW_nn, eqW_ni, eqW_in, eqW_nb, eqW_bn, eqW_ns, eqW_sn, eqW_is, eqW_si, eqW_bs, eqW_sb, ltW_ii, leW_ii, gtW_ii, geW_ii, isNW_n, isNW_i, isNW_b, isNW_s, isNW_t, isNW_f, isNW_r, lenW_s, lenW_t, lenW_f, lenW_r, iterW_r, asL_r, loopF_nil, loopF_cons, turnF_nx, turnF_ct, turnF_bk, turnF_rt, turnF_exc, stillL_ap, W.beqs_refl, absW_i, max2W_i, min2W_i, intcW_i, intcW_b, ordcW_one, mulW_l, mulW_r, slen_one, kit_NoneType_int, kit_NoneType_bool, kit_NoneType_str, kit_NoneType_list, kit_NoneType_tuple, kit_NoneType_dict, kit_bool_int, kit_bool_bool, kit_bool_str, kit_bool_list, kit_bool_tuple, kit_bool_dict, kit_int_int, kit_int_bool, kit_int_str, kit_int_list, kit_int_tuple, kit_int_dict, kit_str_int, kit_str_bool, kit_str_str, kit_str_list, kit_str_tuple, kit_str_dict, kit_tuple_int, kit_tuple_bool, kit_tuple_str, kit_tuple_list, kit_tuple_tuple, kit_tuple_dict, kit_list_int, kit_list_bool, kit_list_str, kit_list_list, kit_list_tuple, kit_list_dict, kit_dict_int, kit_dict_bool, kit_dict_str, kit_dict_list, kit_dict_tuple, kit_dict_dict, ixW_t, ixW_s, ixW_f, ixW_r, slW_r, slW_t, slW_s, slW_f, List.getElem?_cons_zero, List.getElem?_cons_succ, List.set_cons_zero, List.set_cons_succ, List.map_cons, List.map_nil, List.replicate, List.cons_append, List.nil_append, List.length_cons, List.length_nil, Bool.false_xor, Bool.true_xor, if_true, if_false, Bool.false_eq_true, Bool.not_true, Bool.not_false])
local macro_rules | `(tactic| walk_at "qh") => `(tactic| simp only [Int.reduceLT, Int.reduceLE, Int.reduceGT, Int.reduceGE, Int.reduceNeg, Int.reducePow, Int.reduceAdd, Int.reduceSub, Int.reduceMul, Int.reduceEq, Int.reduceToNat, Int.reduceMod, Nat.reduceLT, Nat.reduceLeDiff, Nat.reduceAdd, Nat.reduceSub, Nat.reduceEqDiff, Nat.reduceMul, decide_true, decide_false, Bool.and_self, Bool.and_true, Bool.true_and, Bool.and_false, Bool.false_and, Bool.or_true, Bool.true_or, Bool.or_false, Bool.false_or, Bool.or_self, reduceCtorEq, sizeL, eBM_ap, tyB_l, tyB_s, isSome_some, eMet_ap, ePrp_ap, eFld_ap, sFld_ap, asI_r, sRaise_ap, makeW_ap, eLc_ap, sPut_ap, isE_ap, wipeW_nil, wipeW_cons, get_new, atM_r, appW_ap, revW_ap, lstcW_ap, asQ_r, asQ_t, tYesM_ap, List.length_map, eV_ap, eC_ap, eBin_ap, eNeg_ap, tB_ap, eChain_ap, tTru_ap, tAndM_ap, tOrM_ap, tNotM_ap, eAnd_ap, eOr_ap, eNot_ap, aNil_ap, aCons_ap, eTup_ap, eLst_ap, eCB_ap, eCB0_ap, isiW_ap, oNone_ap, oSome_ap, eSl_ap, sNop_ap, sSeq_ap, endF_rt, endF_nx, endF_exc, sExpr_ap, sRet_ap, sRetN_ap, sBrk_ap, sCont_ap, sIf_ap, gN_ap, gT_ap, gsNil_ap, gsCons_ap, sAsg_ap, iAny_ap, iRng1W_ap, iRng2W_ap, sFor_ap, iterW_tup, iterW_str, iterW_frz, bind_ok, bind_exc, toS_ok, toS_exc, thenS_nx, thenS_rt, thenS_bk, thenS_ct, thenS_exc, mkL_ap, tyW, truW, addW_ii, addW_ss, addW_tt, subW_ii, fdivW_ok, modW_ok, powW_ap, and_self, Nat.reducePow, natAbs_10, natAbs_2, asL_frz, mulNS_ap, eqW_ii, eqW_ss, eqW_bb, eqW_nn, eqW_ni, eqW_in, eqW_nb, eqW_bn, eqW_ns, eqW_sn, eqW_is, eqW_si, eqW_bs, eqW_sb, ltW_ii, leW_ii, gtW_ii, geW_ii, isNW_n, isNW_i, isNW_b, isNW_s, isNW_t, isNW_f, isNW_r, lenW_s, lenW_t, lenW_f, lenW_r, iterW_r, asL_r, loopF_nil, loopF_cons, turnF_nx, turnF_ct, turnF_bk, turnF_rt, turnF_exc, stillL_ap, W.beqs_refl, absW_i, max2W_i, min2W_i, intcW_i, intcW_b, ordcW_one, mulW_l, mulW_r, slen_one, kit_NoneType_int, kit_NoneType_bool, kit_NoneType_str, kit_NoneType_list, kit_NoneType_tuple, kit_NoneType_dict, kit_bool_int, kit_bool_bool, kit_bool_str, kit_bool_list, kit_bool_tuple, kit_bool_dict, kit_int_int, kit_int_bool, kit_int_str, kit_int_list, kit_int_tuple, kit_int_dict, kit_str_int, kit_str_bool, kit_str_str, kit_str_list, kit_str_tuple, kit_str_dict, kit_tuple_int, kit_tuple_bool, kit_tuple_str, kit_tuple_list, kit_tuple_tuple, kit_tuple_dict, kit_list_int, kit_list_bool, kit_list_str, kit_list_list, kit_list_tuple, kit_list_dict, kit_dict_int, kit_dict_bool, kit_dict_str, kit_dict_list, kit_dict_tuple, kit_dict_dict, ixW_t, ixW_s, ixW_f, ixW_r, slW_r, slW_t, slW_s, slW_f, List.getElem?_cons_zero, List.getElem?_cons_succ, List.set_cons_zero, List.set_cons_succ, List.map_cons, List.map_nil, List.replicate, List.cons_append, List.nil_append, List.length_cons, List.length_nil, Bool.false_xor, Bool.true_xor, if_true, if_false, Bool.false_eq_true, Bool.not_true, Bool.not_false, *])
theorem law_cell (ns : List Int) (k : Nat) (h : Hq) : F_law_cell [.frz (ns.map W.int), .int k] h = .ok (.int (ns.getD k 0)) h := by
  rw [F_law_cell_ap]
  unfold F_law_cell_b
  walk_at "q"
  by_cases e : (k : Int) < (ns.length : Int)
  · have e' : k < ns.length := by simpa using e
    have : atI (ns.map W.int) (k : Int) = some (W.int (ns.getD k 0)) := atI_nat (by simp [e', List.getD])
    simp only [decide_eq_true e, this]
    walk_at "q"
  · have e' : ns.length ≤ k := by simpa using e
    simp only [decide_eq_false e]
    walk_at "q"
    simp [List.getD, List.getElem?_eq_none e']
theorem law_cell_i (ns : List Int) (k : Int) (h : Hq) (h0 : 0 ≤ k) : F_law_cell [.frz (ns.map W.int), .int k] h = .ok (.int (ns.getD k.toNat 0)) h := by
  obtain ⟨j, rfl⟩ := Int.eq_ofNat_of_zero_le h0
  exact law_cell ns j h

theorem is_integer {x : Int} {h : Hq} (h0 : -1000000000000 ≤ x) (h1 : x ≤ 1000000000000) : F_is_integer [.int x] h = .ok (.bl true) h := by
  rw [F_is_integer_ap]
  unfold F_is_integer_b
  have a1 := decide_eq_true (show (-1000000000000 : Int) ≤ x from h0)
  have a2 := decide_eq_true (show x ≤ (1000000000000 : Int) from h1)
  walk_at "qh"
theorem is_integer_no {x : Int} {h : Hq} (h0 : x < -1000000000000 ∨ 1000000000000 < x) : F_is_integer [.int x] h = .ok (.bl false) h := by
  rw [F_is_integer_ap]
  unfold F_is_integer_b
  by_cases c : (-1000000000000 : Int) ≤ x
  · have a1 := decide_eq_true c
    have a2 := decide_eq_false (show ¬ x ≤ (1000000000000 : Int) by omega)
    walk_at "qh"
  · have a1 := decide_eq_false c
    walk_at "qh"
theorem is_integer_b {b : Bool} {h : Hq} : F_is_integer [.bl b] h = .ok (.bl false) h := by
  rw [F_is_integer_ap]
  unfold F_is_integer_b
  walk_at "qh"
theorem is_integer_n {h : Hq} : F_is_integer [.non] h = .ok (.bl false) h := by
  rw [F_is_integer_ap]
  unfold F_is_integer_b
  walk_at "qh"
theorem is_integer_s {z : Str} {h : Hq} : F_is_integer [.str z] h = .ok (.bl false) h := by
  rw [F_is_integer_ap]
  unfold F_is_integer_b
  walk_at "qh"
theorem is_integer_t {xs : List W} {h : Hq} : F_is_integer [.tup xs] h = .ok (.bl false) h := by
  rw [F_is_integer_ap]
  unfold F_is_integer_b
  walk_at "qh"
theorem is_integer_l {n t : Nat} {xs : List W} {h : Hq} (e : h[n]? = some (.lst t xs)) : F_is_integer [.ref n] h = .ok (.bl false) h := by
  rw [F_is_integer_ap]
  unfold F_is_integer_b
  walk_at "qh"
def No (w : W) (h : Hq) : Prop := (∀ h', Kp h h' → F_is_integer [w] h' = .ok (.bl false) h') ∨ ∃ i, w = .int i ∧ -1000000000000 ≤ i ∧ i < 1
def Ye (w : W) (i : Int) : Prop := w = .int i ∧ 1 ≤ i ∧ i ≤ 1000000000000
def Ref (w0 w1 w2 : W) (h : Hq) : Prop := No w0 h ∨ (∃ i, Ye w0 i ∧ (No w1 h ∨ ∃ j, Ye w1 j ∧ (No w2 h ∨ ∃ k, Ye w2 k ∧ (i < j ∨ i < k ∨ j + k ≤ i))))
theorem setW_T {f : Str} {h : Hq} {n : Nat} {fs : List (Str × W)} {y : W} (e : h[n]? = some (.ins "Terms" fs)) (hf : (fieldsOf "Terms").contains f = true) (hl : fs.length < 1000) : setW f (.ref n) y h = some (h.set n (.ins "Terms" (putW f y fs))) := setW_at e hf hl
theorem terms_new {c w r : Int} {h : Hq} (hc : 1 ≤ c) (hc2 : c ≤ 1000000000000) (hw : 1 ≤ w) (hw2 : w ≤ c) (hr : 1 ≤ r) (hr2 : r ≤ c) (hs : c < w + r) :
    ∃ h', makeW "Terms" F_Terms___init__ [.int c, .int w, .int r] h = .ok (.ref h.length) h' ∧ Kp h h' ∧ h'[h.length]? = some (.ins "Terms" [("_copies", .int c), ("_write", .int w), ("_read", .int r)]) := by
  have i1 : ∀ h, F_is_integer [.int c] h = .ok (.bl true) h := fun h => is_integer (by omega) (by omega)
  have i2 : ∀ h, F_is_integer [.int w] h = .ok (.bl true) h := fun h => is_integer (by omega) (by omega)
  have i3 : ∀ h, F_is_integer [.int r] h = .ok (.bl true) h := fun h => is_integer (by omega) (by omega)
  have a1 := decide_eq_true hc
  have a2 := decide_eq_true hw
  have a3 := decide_eq_true hr
  have a4 := decide_eq_false (show ¬ (c < w) by omega)
  have a5 := decide_eq_false (show ¬ (c < r) by omega)
  have a6 := decide_eq_false (show ¬ (w + r ≤ c) by omega)
  have g0 : (h ++ [Ob.ins "Terms" []] ++ [Ob.lst 0 [.int c, .int w, .int r]])[h.length]? = some (.ins "Terms" []) := get_app get_new
  have k0 : Kp h (h ++ [Ob.ins "Terms" []] ++ [Ob.lst 0 [.int c, .int w, .int r]]) := Kp.app.trans Kp.app
  have st : stillL (.ref (h ++ [Ob.ins "Terms" []]).length) [.int c, .int w, .int r] (h ++ [Ob.ins "Terms" []] ++ [Ob.lst 0 [.int c, .int w, .int r]]) = true := stillL_of (asL_ref get_new)
  rw [makeW_ap, F_Terms___init___ap]
  unfold F_Terms___init___b
  walk_at "qh"
  generalize (h ++ [Ob.ins (Str.ofString "Terms") []] ++ [Ob.lst 0 [.int c, .int w, .int r]]) = h1 at g0 k0
  have p1 : putW "_copies" (W.int c) [] = ([("_copies", W.int c)] : List (Str × W)) := rfl
  have p2 : putW "_write" (W.int w) [("_copies", W.int c)] = ([("_copies", W.int c), ("_write", W.int w)] : List (Str × W)) := by
    unfold putW; rw [if_neg (by decide +kernel)]; rfl
  have p3 : putW "_read" (W.int r) [("_copies", W.int c), ("_write", W.int w)] = ([("_copies", W.int c), ("_write", W.int w), ("_read", W.int r)] : List (Str × W)) := by
    unfold putW; rw [if_neg (by decide +kernel)]; unfold putW; rw [if_neg (by decide +kernel)]; rfl
  have s1 := setW_T (f := "_copies") (y := .int c) g0 (by decide +kernel) (by simp)
  rw [p1] at s1
  have g1 := get_set (o := .ins "Terms" [("_copies", .int c)]) g0
  have k1 := k0.set (n := h.length) (o := .ins "Terms" [("_copies", .int c)]) (Nat.le_refl _)
  generalize h1.set h.length (.ins "Terms" [("_copies", .int c)]) = h2 at s1 g1 k1
  have s2 := setW_T (f := "_write") (y := .int w) g1 (by decide +kernel) (by simp)
  rw [p2] at s2
  have g2 := get_set (o := .ins "Terms" [("_copies", .int c), ("_write", .int w)]) g1
  have k2 := k1.set (n := h.length) (o := .ins "Terms" [("_copies", .int c), ("_write", .int w)]) (Nat.le_refl _)
  generalize h2.set h.length (.ins "Terms" [("_copies", .int c), ("_write", .int w)]) = h3 at s2 g2 k2
  have s3 := setW_T (f := "_read") (y := .int r) g2 (by decide +kernel) (by simp)
  rw [p3] at s3
  have g3 := get_set (o := .ins "Terms" [("_copies", .int c), ("_write", .int w), ("_read", .int r)]) g2
  have k3 := k2.set (n := h.length) (o := .ins "Terms" [("_copies", .int c), ("_write", .int w), ("_read", .int r)]) (Nat.le_refl _)
  generalize h3.set h.length (.ins "Terms" [("_copies", .int c), ("_write", .int w), ("_read", .int r)]) = h4 at s3 g3 k3
  refine ⟨h4, ?_, k3, g3⟩
  simp only [s1]
  walk_at "qh"
def TM (c w r : Int) : Ob := .ins "Terms" [("_copies", .int c), ("_write", .int w), ("_read", .int r)]
theorem terms_get {c w r : Int} {h : Hq} {n : Nat} (e : h[n]? = some (TM c w r)) :
    F_Terms_copies [.ref n] h = .ok (.int c) h ∧ F_Terms_write [.ref n] h = .ok (.int w) h ∧ F_Terms_read [.ref n] h = .ok (.int r) h ∧ F_Terms_handing [.ref n] h = .ok (.int (c - (if r < w then r else w) + 1)) h := by
  have f1 : fldW "_copies" (.ref n) h = .ok (.int c) h := fldW_at e (by decide +kernel) rfl
  have f2 : fldW "_write" (.ref n) h = .ok (.int w) h := fldW_at e (by decide +kernel) rfl
  have f3 : fldW "_read" (.ref n) h = .ok (.int r) h := fldW_at e (by decide +kernel) rfl
  refine ⟨?_, ?_, ?_, ?_⟩
  · rw [F_Terms_copies_ap]; unfold F_Terms_copies_b; walk_at "qh"
  · rw [F_Terms_write_ap]; unfold F_Terms_write_b; walk_at "qh"
  · rw [F_Terms_read_ap]; unfold F_Terms_read_b; walk_at "qh"
  · rw [F_Terms_handing_ap]; unfold F_Terms_handing_b; walk_at "qh"

theorem terms_exc {w0 w1 w2 : W} {h : Hq} (H : Ref w0 w1 w2 h) : ∃ h', makeW "Terms" F_Terms___init__ [w0, w1, w2] h = .exc "BadValue" h' ∧ Kp h h' := by
  have k0 : Kp h (h ++ [Ob.ins "Terms" []] ++ [Ob.lst 0 [w0, w1, w2]]) := Kp.app.trans Kp.app
  have st : stillL (.ref (h ++ [Ob.ins "Terms" []]).length) [w0, w1, w2] (h ++ [Ob.ins "Terms" []] ++ [Ob.lst 0 [w0, w1, w2]]) = true := stillL_of (asL_ref get_new)
  refine ⟨_, ?_, k0⟩
  rw [makeW_ap, F_Terms___init___ap]
  unfold F_Terms___init___b
  rcases H with (H | ⟨i, rfl, i0, i1⟩) | ⟨i, ⟨rfl, i0, i1⟩, H⟩
  · have q0 := H _ k0
    walk_at "qh"
  · have q0 := fun h => is_integer (h := h) i0 (show i ≤ 1000000000000 by omega)
    have a0 := decide_eq_false (show ¬ 1 ≤ i by omega)
    clear i0 i1
    walk_at "qh"
  · have q0 := fun h => is_integer (h := h) (show -1000000000000 ≤ i by omega) i1
    have a0 := decide_eq_true i0
    rcases H with (H | ⟨j, rfl, j0, j1⟩) | ⟨j, ⟨rfl, j0, j1⟩, H⟩
    · have q1 := H _ k0
      clear i0 i1
      walk_at "qh"
    · have q1 := fun h => is_integer (h := h) j0 (show j ≤ 1000000000000 by omega)
      have a1 := decide_eq_false (show ¬ 1 ≤ j by omega)
      clear j0 j1 i0 i1
      walk_at "qh"
    · have q1 := fun h => is_integer (h := h) (show -1000000000000 ≤ j by omega) j1
      have a1 := decide_eq_true j0
      rcases H with (H | ⟨k, rfl, b0, b1⟩) | ⟨k, ⟨rfl, b0, b1⟩, H⟩
      · have q2 := H _ k0
        clear j0 j1 i0 i1
        walk_at "qh"
      · have q2 := fun h => is_integer (h := h) b0 (show k ≤ 1000000000000 by omega)
        have a2 := decide_eq_false (show ¬ 1 ≤ k by omega)
        clear j0 j1 i0 i1 b0 b1
        walk_at "qh"
      · have q2 := fun h => is_integer (h := h) (show -1000000000000 ≤ k by omega) b1
        have a2 := decide_eq_true b0
        clear j0 j1 i0 i1 b0 b1
        by_cases c1 : i < j
        · have c1' := decide_eq_true c1
          clear H
          walk_at "qh"
        · have c1' := decide_eq_false c1
          by_cases c2 : i < k
          · have c2' := decide_eq_true c2
            clear H
            walk_at "qh"
          · have c2' := decide_eq_false c2
            have c3' := decide_eq_true (show j + k ≤ i by omega)
            clear H
            walk_at "qh"
theorem refused {w0 w1 w2 : W} {h : Hq} (H : Ref w0 w1 w2 h) : ∃ h', F_law_refused [w0, w1, w2] h = .ok (.bl true) h' ∧ Kp h h' := by
  obtain ⟨h', e, k⟩ := terms_exc H
  refine ⟨h', ?_, k⟩
  rw [F_law_refused_ap]
  unfold F_law_refused_b
  rw [sSeq_ap]
  have l1 : List.lookup (Str.ofString "BadValue") [(Str.ofString "BadValue", true), ("Busy", true), ("HouseDown", true), ("RingError", true), ("Unknown", true)] = some true := rfl
  have l2 : List.lookup (Str.ofString "BadValue") [(Str.ofString "BadValue", true), ("Busy", false), ("HouseDown", false), ("RingError", false), ("Unknown", false)] = some true := rfl
  have l3 : List.lookup (Str.ofString "BadValue") [(Str.ofString "BadValue", false), ("Busy", true), ("HouseDown", false), ("RingError", false), ("Unknown", false)] = some false := rfl
  have l4 : List.lookup (Str.ofString "BadValue") [(Str.ofString "BadValue", false), ("Busy", false), ("HouseDown", true), ("RingError", false), ("Unknown", false)] = some false := rfl
  have l5 : List.lookup (Str.ofString "BadValue") [(Str.ofString "BadValue", false), ("Busy", false), ("HouseDown", false), ("RingError", false), ("Unknown", true)] = some false := rfl
  rw [sTryAs_exc (ρ' := [some w0, some w1, some w2, none]) (h' := h') (c := "BadValue") (r := .ok (.rt (.bl true)) [some w0, some w1, some w2, none] h') ?_ l1 ?_]
  · walk_at "q"
  · have e' := e
    rw [makeW_ap] at e'
    walk_at "qh"
  · intro a
    walk_at "qh"
    rfl

theorem law_terms {a b : Int} {h : Hq} (ha : 0 ≤ a) (hb : 0 ≤ b) : ∃ c w r, F_law_terms [.int a, .int b] h = .ok (.tup [.int c, .int w, .int r]) h ∧ 1 ≤ c ∧ c ≤ 100000000000 ∧ 1 ≤ w ∧ w ≤ c ∧ 1 ≤ r ∧ r ≤ c ∧ c < w + r := by
  have main : ∀ c : Int, 1 ≤ c → c ≤ 100000000000 → 1 ≤ 1 + b % c ∧ 1 + b % c ≤ c ∧ 1 ≤ c - (1 + b % c) + 1 + b / c % (1 + b % c) ∧ c - (1 + b % c) + 1 + b / c % (1 + b % c) ≤ c ∧ c < (1 + b % c) + (c - (1 + b % c) + 1 + b / c % (1 + b % c)) := by
    intro c h1 h2
    have b0 := Int.emod_nonneg b (show c ≠ 0 by omega)
    have b1 := Int.emod_lt_of_pos b (show 0 < c by omega)
    have hw0 : 0 < 1 + b % c := by omega
    have b2 := Int.emod_nonneg (b / c) (show 1 + b % c ≠ 0 by omega)
    have b3 := Int.emod_lt_of_pos (b / c) hw0
    omega
  rw [F_law_terms_ap]
  unfold F_law_terms_b
  by_cases c1 : a / 7 % 3 = 1
  · have c1' := decide_eq_true c1
    have h1 : 1 ≤ 1 + a / 21 % 100000000000 := by have := Int.emod_nonneg (a / 21) (show (100000000000 : Int) ≠ 0 by decide); omega
    have h2 : 1 + a / 21 % 100000000000 ≤ 100000000000 := by have := Int.emod_lt_of_pos (a / 21) (show (0 : Int) < 100000000000 by decide); omega
    obtain ⟨m1, m2, m3, m4, m5⟩ := main _ h1 h2
    have p1 : 0 < 1 + a / 21 % 100000000000 := by omega
    have p2 : 1 + a / 21 % 100000000000 ≤ 1000000000000000000000000000000000000000000000000000000000000 := by omega
    have p3 : 0 < 1 + b % (1 + a / 21 % 100000000000) := by omega
    by_cases c2 : a / 21 % 2 = 1
    · have c2' := decide_eq_true c2
      refine ⟨1 + a / 21 % 100000000000, _, _, ?_, h1, h2, m3, m4, m1, m2, by omega⟩
      clear h1 h2 m1 m2 m3 m4 m5 main
      walk_at "qh"
    · have c2' := decide_eq_false c2
      refine ⟨1 + a / 21 % 100000000000, _, _, ?_, h1, h2, m1, m2, m3, m4, m5⟩
      clear h1 h2 m1 m2 m3 m4 m5 main
      walk_at "qh"
  · have c1' := decide_eq_false c1
    have h1 : 1 ≤ 1 + a % 7 := by have := Int.emod_nonneg a (show (7 : Int) ≠ 0 by decide); omega
    have h2 : 1 + a % 7 ≤ 100000000000 := by have := Int.emod_lt_of_pos a (show (0 : Int) < 7 by decide); omega
    obtain ⟨m1, m2, m3, m4, m5⟩ := main _ h1 h2
    have p1 : 0 < 1 + a % 7 := by omega
    have p2 : 1 + a % 7 ≤ 1000000000000000000000000000000000000000000000000000000000000 := by omega
    have p3 : 0 < 1 + b % (1 + a % 7) := by omega
    by_cases c2 : a / 21 % 2 = 1
    · have c2' := decide_eq_true c2
      refine ⟨1 + a % 7, _, _, ?_, h1, h2, m3, m4, m1, m2, by omega⟩
      clear h1 h2 m1 m2 m3 m4 m5 main
      walk_at "qh"
    · have c2' := decide_eq_false c2
      refine ⟨1 + a % 7, _, _, ?_, h1, h2, m1, m2, m3, m4, m5⟩
      clear h1 h2 m1 m2 m3 m4 m5 main
      walk_at "qh"
theorem law_right {c w r : Int} {h : Hq} {n : Nat} (e : h[n]? = some (TM c w r)) : ∃ h', F_law_right [.ref n, .tup [.int c, .int w, .int r]] h = .ok (.bl true) h' ∧ Kp h h' := by
  obtain ⟨t0, t1, t2, t3⟩ := terms_get e
  have e' : h[n]? = some (.ins "Terms" [("_copies", .int c), ("_write", .int w), ("_read", .int r)]) := e
  clear e
  have a0 : atI [W.int c, W.int w, W.int r] 0 = some (.int c) := rfl
  have a1 : atI [W.int c, W.int w, W.int r] 1 = some (.int w) := rfl
  have a2 : atI [W.int c, W.int w, W.int r] 2 = some (.int r) := rfl
  have lk : ∀ g : MF, List.lookup (Str.ofString "Terms") [(Str.ofString "Terms", g)] = some g := fun g => rfl
  have key : okp (F_law_right [.ref n, .tup [.int c, .int w, .int r]] h) (fun x h' => x = .bl true ∧ Kp h h') := by
    rw [F_law_right_ap, okp_endF]
    unfold F_law_right_b
    generalize hm : (if r < w then r else w) = m at t3
    have step : ∀ v4, oks ((sSeq (sFor (iRng1W (aCons (eC (.int 4)) (aNil))) (gN 4) (sIf (tOrM (tNotM (tTru (isiW "int" (eBin ixW (eV 3) (eV 4))))) (tTru (isiW "bool" (eBin ixW (eV 3) (eV 4))))) (sRet (eC (.bl false))) (sNop)))
      (sRet (eBin (eqW false) (eV 3) (eBin (addW 0) (eCB (lstcW 0) (aCons (eV 1) (aNil))) (eLst 0 (aCons (eBin (addW 0) (eBin (subW) (eBin ixW (eV 1) (eC (.int 0))) (eV 2)) (eC (.int 1))) (aNil))))))) [some (.ref n), some (.tup [.int c, .int w, .int r]), some (.int m), some (.ref h.length), v4] (h ++ [IL [c, w, r, c - m + 1]])) (fun f _ h' => match f with
        | .nx => W.non = .bl true ∧ Kp h h'
        | .rt x => x = .bl true ∧ Kp h h'
        | _ => False) := by
      intro v4
      have g0 : (h ++ [IL [c, w, r, c - m + 1]])[h.length]? = some (IL [c, w, r, c - m + 1]) := get_new
      have k0 : Kp h (h ++ [IL [c, w, r, c - m + 1]]) := Kp.app
      generalize (h ++ [IL [c, w, r, c - m + 1]]) = h1 at g0 k0
      clear t0 t1 t2 t3 e' lk
      walk_at "q"
      rw [oks_then]
      refine oks_loop (fun i ρ h' => h' = h1 ∧ ∃ v, ρ = [some (.ref n), some (.tup [.int c, .int w, .int r]), some (.int m), some (.ref h.length), v]) _ ?_ ?_ ?_ ?_
      · exact ⟨rfl, _, rfl⟩
      · exact fun _ _ _ _ => rfl
      · rintro i x ρ h' hw ⟨rfl, v, rfl⟩
        obtain ⟨rfl, hi⟩ := rng_get hw
        refine ⟨_, rfl, ?_⟩
        have hi4 : i < 4 := hi
        have ha := atI_I (xs := [c, w, r, c - m + 1]) (i := 0 + (i : Int)) (by omega) (by simp only [List.length_cons, List.length_nil]; omega)
        have g0' : h'[h.length]? = some (.lst 0 (List.map W.int [c, w, r, c - m + 1])) := g0
        clear g0
        generalize List.map W.int [c, w, r, c - m + 1] = L at g0' ha
        walk_at "qh"
        rw [oks_ok]
        exact ⟨rfl, _, rfl⟩
      · rintro ρ h' ⟨rfl, v, rfl⟩
        have j1 : (h' ++ [IL [c, w, r]] ++ [IL [c - m + 1]])[h'.length]? = some (IL [c, w, r]) := get_app get_new
        have j2 : (h' ++ [IL [c, w, r]] ++ [IL [c - m + 1]])[(h' ++ [IL [c, w, r]]).length]? = some (IL [c - m + 1]) := get_new
        have ga := addW_I j1 j2 (by simp)
        have j3 : ∀ t, (h' ++ [IL [c, w, r]] ++ [IL [c - m + 1]] ++ t)[h.length]? = some (IL [c, w, r, c - m + 1]) := fun t => get_app (get_app (get_app g0))
        have j4 : (h' ++ [IL [c, w, r]] ++ [IL [c - m + 1]] ++ [IL ([c, w, r] ++ [c - m + 1])])[(h' ++ [IL [c, w, r]] ++ [IL [c - m + 1]]).length]? = some (IL ([c, w, r] ++ [c - m + 1])) := get_new
        have q1 := eqW_I (neg := false) (j3 _) j4
        have kk : Kp h (h' ++ [IL [c, w, r]] ++ [IL [c - m + 1]] ++ [IL ([c, w, r] ++ [c - m + 1])]) := ((k0.trans Kp.app).trans Kp.app).trans Kp.app
        clear j1 j2 j3 j4
        simp only [IL, List.map_cons, List.map_nil, List.cons_append, List.nil_append] at ga q1 kk
        walk_at "qh"
        simp only [oks_ok]
        exact ⟨by simp, kk⟩
    by_cases cc : r < w
    · have cc' := decide_eq_true cc
      rw [if_pos cc] at hm
      subst hm
      have z := step none
      clear step
      simp only [Int.reduceLT, Int.reduceLE, Int.reduceGT, Int.reduceGE, Int.reduceNeg, Int.reducePow, Int.reduceAdd, Int.reduceSub, Int.reduceMul, Int.reduceEq, Int.reduceToNat, Int.reduceMod, Nat.reduceLT, Nat.reduceLeDiff, Nat.reduceAdd, Nat.reduceSub, Nat.reduceEqDiff, Nat.reduceMul, decide_true, decide_false, Bool.and_self, Bool.and_true, Bool.true_and, Bool.and_false, Bool.false_and, Bool.or_true, Bool.true_or, Bool.or_false, Bool.false_or, Bool.or_self, reduceCtorEq, sizeL, eBM_ap, tyB_l, tyB_s, isSome_some, eMet_ap, ePrp_ap, eFld_ap, sFld_ap, asI_r, sRaise_ap, makeW_ap, eLc_ap, sPut_ap, isE_ap, wipeW_nil, wipeW_cons, get_new, atM_r, appW_ap, revW_ap, lstcW_ap, asQ_r, asQ_t, tYesM_ap, List.length_map, eV_ap, eC_ap, eBin_ap, eNeg_ap, tB_ap, eChain_ap, tTru_ap, tAndM_ap, tOrM_ap, tNotM_ap, eAnd_ap, eOr_ap, eNot_ap, aNil_ap, aCons_ap, eTup_ap, eLst_ap, eCB_ap, eCB0_ap, isiW_ap, oNone_ap, oSome_ap, eSl_ap, sNop_ap, sSeq_ap, endF_rt, endF_nx, endF_exc, sExpr_ap, sRet_ap, sRetN_ap, sBrk_ap, sCont_ap, sIf_ap, gN_ap, gT_ap, gsNil_ap, gsCons_ap, sAsg_ap, iAny_ap, iRng1W_ap, iRng2W_ap, sFor_ap, iterW_tup, iterW_str, iterW_frz, bind_ok, bind_exc, toS_ok, toS_exc, thenS_nx, thenS_rt, thenS_bk, thenS_ct, thenS_exc, mkL_ap, tyW, truW, addW_ii, addW_ss, addW_tt, subW_ii, fdivW_ok, modW_ok, powW_ap, and_self, Nat.reducePow, natAbs_10, natAbs_2, asL_frz, mulNS_ap, eqW_ii, eqW_ss, eqW_bb, eqW_nn, eqW_ni, eqW_in, eqW_nb, eqW_bn, eqW_ns, eqW_sn, eqW_is, eqW_si, eqW_bs, eqW_sb, ltW_ii, leW_ii, gtW_ii, geW_ii, isNW_n, isNW_i, isNW_b, isNW_s, isNW_t, isNW_f, isNW_r, lenW_s, lenW_t, lenW_f, lenW_r, iterW_r, asL_r, loopF_nil, loopF_cons, turnF_nx, turnF_ct, turnF_bk, turnF_rt, turnF_exc, stillL_ap, W.beqs_refl, absW_i, max2W_i, min2W_i, intcW_i, intcW_b, ordcW_one, mulW_l, mulW_r, slen_one, kit_NoneType_int, kit_NoneType_bool, kit_NoneType_str, kit_NoneType_list, kit_NoneType_tuple, kit_NoneType_dict, kit_bool_int, kit_bool_bool, kit_bool_str, kit_bool_list, kit_bool_tuple, kit_bool_dict, kit_int_int, kit_int_bool, kit_int_str, kit_int_list, kit_int_tuple, kit_int_dict, kit_str_int, kit_str_bool, kit_str_str, kit_str_list, kit_str_tuple, kit_str_dict, kit_tuple_int, kit_tuple_bool, kit_tuple_str, kit_tuple_list, kit_tuple_tuple, kit_tuple_dict, kit_list_int, kit_list_bool, kit_list_str, kit_list_list, kit_list_tuple, kit_list_dict, kit_dict_int, kit_dict_bool, kit_dict_str, kit_dict_list, kit_dict_tuple, kit_dict_dict, ixW_t, ixW_s, ixW_f, ixW_r, slW_r, slW_t, slW_s, slW_f, List.getElem?_cons_zero, List.getElem?_cons_succ, List.set_cons_zero, List.set_cons_succ, List.map_cons, List.map_nil, List.replicate, List.cons_append, List.nil_append, List.length_cons, List.length_nil, Bool.false_xor, Bool.true_xor, if_true, if_false, Bool.false_eq_true, Bool.not_true, Bool.not_false] at z
      walk_at "qh"
      exact z
    · have cc' := decide_eq_false cc
      rw [if_neg cc] at hm
      subst hm
      have z := step none
      clear step
      simp only [Int.reduceLT, Int.reduceLE, Int.reduceGT, Int.reduceGE, Int.reduceNeg, Int.reducePow, Int.reduceAdd, Int.reduceSub, Int.reduceMul, Int.reduceEq, Int.reduceToNat, Int.reduceMod, Nat.reduceLT, Nat.reduceLeDiff, Nat.reduceAdd, Nat.reduceSub, Nat.reduceEqDiff, Nat.reduceMul, decide_true, decide_false, Bool.and_self, Bool.and_true, Bool.true_and, Bool.and_false, Bool.false_and, Bool.or_true, Bool.true_or, Bool.or_false, Bool.false_or, Bool.or_self, reduceCtorEq, sizeL, eBM_ap, tyB_l, tyB_s, isSome_some, eMet_ap, ePrp_ap, eFld_ap, sFld_ap, asI_r, sRaise_ap, makeW_ap, eLc_ap, sPut_ap, isE_ap, wipeW_nil, wipeW_cons, get_new, atM_r, appW_ap, revW_ap, lstcW_ap, asQ_r, asQ_t, tYesM_ap, List.length_map, eV_ap, eC_ap, eBin_ap, eNeg_ap, tB_ap, eChain_ap, tTru_ap, tAndM_ap, tOrM_ap, tNotM_ap, eAnd_ap, eOr_ap, eNot_ap, aNil_ap, aCons_ap, eTup_ap, eLst_ap, eCB_ap, eCB0_ap, isiW_ap, oNone_ap, oSome_ap, eSl_ap, sNop_ap, sSeq_ap, endF_rt, endF_nx, endF_exc, sExpr_ap, sRet_ap, sRetN_ap, sBrk_ap, sCont_ap, sIf_ap, gN_ap, gT_ap, gsNil_ap, gsCons_ap, sAsg_ap, iAny_ap, iRng1W_ap, iRng2W_ap, sFor_ap, iterW_tup, iterW_str, iterW_frz, bind_ok, bind_exc, toS_ok, toS_exc, thenS_nx, thenS_rt, thenS_bk, thenS_ct, thenS_exc, mkL_ap, tyW, truW, addW_ii, addW_ss, addW_tt, subW_ii, fdivW_ok, modW_ok, powW_ap, and_self, Nat.reducePow, natAbs_10, natAbs_2, asL_frz, mulNS_ap, eqW_ii, eqW_ss, eqW_bb, eqW_nn, eqW_ni, eqW_in, eqW_nb, eqW_bn, eqW_ns, eqW_sn, eqW_is, eqW_si, eqW_bs, eqW_sb, ltW_ii, leW_ii, gtW_ii, geW_ii, isNW_n, isNW_i, isNW_b, isNW_s, isNW_t, isNW_f, isNW_r, lenW_s, lenW_t, lenW_f, lenW_r, iterW_r, asL_r, loopF_nil, loopF_cons, turnF_nx, turnF_ct, turnF_bk, turnF_rt, turnF_exc, stillL_ap, W.beqs_refl, absW_i, max2W_i, min2W_i, intcW_i, intcW_b, ordcW_one, mulW_l, mulW_r, slen_one, kit_NoneType_int, kit_NoneType_bool, kit_NoneType_str, kit_NoneType_list, kit_NoneType_tuple, kit_NoneType_dict, kit_bool_int, kit_bool_bool, kit_bool_str, kit_bool_list, kit_bool_tuple, kit_bool_dict, kit_int_int, kit_int_bool, kit_int_str, kit_int_list, kit_int_tuple, kit_int_dict, kit_str_int, kit_str_bool, kit_str_str, kit_str_list, kit_str_tuple, kit_str_dict, kit_tuple_int, kit_tuple_bool, kit_tuple_str, kit_tuple_list, kit_tuple_tuple, kit_tuple_dict, kit_list_int, kit_list_bool, kit_list_str, kit_list_list, kit_list_tuple, kit_list_dict, kit_dict_int, kit_dict_bool, kit_dict_str, kit_dict_list, kit_dict_tuple, kit_dict_dict, ixW_t, ixW_s, ixW_f, ixW_r, slW_r, slW_t, slW_s, slW_f, List.getElem?_cons_zero, List.getElem?_cons_succ, List.set_cons_zero, List.set_cons_succ, List.map_cons, List.map_nil, List.replicate, List.cons_append, List.nil_append, List.length_cons, List.length_nil, Bool.false_xor, Bool.true_xor, if_true, if_false, Bool.false_eq_true, Bool.not_true, Bool.not_false] at z
      walk_at "qh"
      exact z
  obtain ⟨a, h', e2, rfl, k⟩ := okp_iff.1 key
  exact ⟨h', e2, k⟩

theorem few {c w r z : Int} {h : Hq} (hc : 1 ≤ c) (hc2 : c ≤ 100000000000) (hz : 0 ≤ z) : ∃ W' k, F_law_too_few [.tup [.int c, .int w, .int r], .int z] h = .ok (.tup [.int c, .int W', .int k]) h ∧ (∀ h, Ref (.int c) (.int W') (.int k) h) ∧ ∀ h, Ref (.int c) (.int k) (.int W') h := by
  have b0 := Int.emod_nonneg z (show c ≠ 0 by omega)
  have b1 := Int.emod_lt_of_pos z (show 0 < c by omega)
  have e0 := Int.emod_nonneg (z / 7) (show (2 : Int) ≠ 0 by decide)
  have e1 := Int.emod_lt_of_pos (z / 7) (show (0 : Int) < 2 by decide)
  have yc : Ye (.int c) c := ⟨rfl, hc, by omega⟩
  have yw : Ye (.int (1 + z % c)) (1 + z % c) := ⟨rfl, by omega, by omega⟩
  refine ⟨1 + z % c, c - (1 + z % c) - z / 7 % 2, ?_, fun h => ?_, fun h => ?_⟩
  · rw [F_law_too_few_ap]
    unfold F_law_too_few_b
    have a0 : atI [W.int c, W.int w, W.int r] 0 = some (.int c) := rfl
    have hc0 : 0 < c := by omega
    clear yc yw b0 b1 e0 e1
    walk_at "qh"
  · refine .inr ⟨c, yc, .inr ⟨_, yw, ?_⟩⟩
    by_cases q : c - (1 + z % c) - z / 7 % 2 < 1
    · exact .inl (.inr ⟨_, rfl, by omega, q⟩)
    · exact .inr ⟨_, ⟨rfl, by omega, by omega⟩, by omega⟩
  · refine .inr ⟨c, yc, ?_⟩
    by_cases q : c - (1 + z % c) - z / 7 % 2 < 1
    · exact .inl (.inr ⟨_, rfl, by omega, q⟩)
    · exact .inr ⟨_, ⟨rfl, by omega, by omega⟩, .inr ⟨_, yw, by omega⟩⟩
theorem eq_data {x : W} {h : Hq} {d : PyData} {j : Int} (hx : dataW h x = some d) (hd : SeqAt.shaped d = true) (hv : PyData.eqv d (.int j) = false) (hne : eqW false x (.int j) h = (match dataW h x, dataW h (.int j) with
    | some d, some e => if SeqAt.shaped d && SeqAt.shaped e then .ok (.bl (xor false (PyData.eqv d e))) h else .stuck
    | _, _ => .stuck)) : eqW false x (.int j) h = .ok (.bl false) h := by
  rw [hne, hx]
  have : dataW h (.int j) = some (.int j) := rfl
  rw [this]
  dsimp only
  have hs : SeqAt.shaped (.int j) = true := rfl
  rw [hd, hs, hv]
  rfl
theorem bad_ok {c w r z : Int} {h : Hq} (hc : 1 ≤ c) (hc2 : c ≤ 100000000000) (hw : 1 ≤ w) (hw2 : w ≤ c) (hr : 1 ≤ r) (hr2 : r ≤ c) (hz : 0 ≤ z) :
    ∃ h' n b0 b1 b2, F_law_bad [.tup [.int c, .int w, .int r], .int z] h = .ok (.ref n) h' ∧ Kp h h' ∧ h'[n]? = some (.lst 0 [b0, b1, b2]) ∧ Ref b0 b1 b2 h' := by
  have yc : Ye (.int c) c := ⟨rfl, hc, by omega⟩
  have yw : Ye (.int w) w := ⟨rfl, hw, by omega⟩
  have yr : Ye (.int r) r := ⟨rfl, hr, by omega⟩
  have yd : Ye (.int (c + 1)) (c + 1) := ⟨rfl, by omega, by omega⟩
  have g0 := Int.emod_nonneg (z / 33) (show (1000000000000000000000000000000 : Int) ≠ 0 by decide)
  generalize hg : (1000000000001 : Int) + z / 33 % 1000000000000000000000000000000 = gr
  have hgr : 1000000000001 ≤ gr := by omega
  have m0 := Int.emod_nonneg (z / 3) (show (11 : Int) ≠ 0 by decide)
  have m1 := Int.emod_lt_of_pos (z / 3) (show (0 : Int) < 11 by decide)
  obtain ⟨v, hv, _, hvm⟩ := list_at (z := [W.int 0, W.int (-1), W.int (-gr), W.int gr, W.bl true, W.bl false, W.non, W.str "1", W.tup [W.int 1], W.ref h.length, W.int (c + 1)]) (i := z / 3 % 11) m0 (by simpa using m1)
  have D : (∀ h', h'[h.length]? = some (IL [1]) → No v h' ∧ eqW false v (.int (c + 1)) h' = .ok (.bl false) h') ∨ v = .int (c + 1) := by
    simp only [List.mem_cons, List.not_mem_nil, or_false] at hvm
    rcases hvm with q | q | q | q | q | q | q | q | q | q | q
    · subst q; exact .inl fun h' _ => ⟨.inr ⟨_, rfl, by omega, by omega⟩, by rw [eqW_ii, decide_eq_false (by omega)]; rfl⟩
    · subst q; exact .inl fun h' _ => ⟨.inr ⟨_, rfl, by omega, by omega⟩, by rw [eqW_ii, decide_eq_false (by omega)]; rfl⟩
    · subst q; exact .inl fun h' _ => ⟨.inl fun _ _ => is_integer_no (by omega), by rw [eqW_ii, decide_eq_false (by omega)]; rfl⟩
    · subst q; exact .inl fun h' _ => ⟨.inl fun _ _ => is_integer_no (by omega), by rw [eqW_ii, decide_eq_false (by omega)]; rfl⟩
    · subst q; exact .inl fun h' _ => ⟨.inl fun _ _ => is_integer_b, eq_data (d := .bool true) rfl rfl (by unfold PyData.eqv; simp; omega) rfl⟩
    · subst q; exact .inl fun h' _ => ⟨.inl fun _ _ => is_integer_b, eq_data (d := .bool false) rfl rfl (by unfold PyData.eqv; simp; omega) rfl⟩
    · subst q; exact .inl fun h' _ => ⟨.inl fun _ _ => is_integer_n, eqW_ni⟩
    · subst q; exact .inl fun h' _ => ⟨.inl fun _ _ => is_integer_s, eqW_si⟩
    · subst q; exact .inl fun h' _ => ⟨.inl fun _ _ => is_integer_t, eq_data (d := .tuple [.int 1]) rfl (by rfl) (by unfold PyData.eqv; rfl) rfl⟩
    · subst q; exact .inl fun h' e => ⟨.inl fun h2 k => is_integer_l (k _ _ e), eq_data (d := .list [.int 1]) (data_I e) (shaped_I [1]) (by unfold PyData.eqv; rfl) rfl⟩
    · exact .inr q
  clear hvm
  have a0 : atI [W.int c, W.int w, W.int r] 0 = some (.int c) := rfl
  have a2 : atI [W.int c, W.int w, W.int r] 2 = some (.int r) := rfl
  have e1 : (h ++ [Ob.lst 0 [.int 1]] ++ [Ob.lst 0 [.int c, .int w, .int r]])[(h ++ [Ob.lst 0 [.int 1]]).length]? = some (.lst 0 [.int c, .int w, .int r]) := get_new
  have e2 : (h ++ [Ob.lst 0 [.int 1]] ++ [Ob.lst 0 [.int c, .int w, .int r]])[h.length]? = some (IL [1]) := get_app get_new
  have k2 : Kp h (h ++ [Ob.lst 0 [.int 1]] ++ [Ob.lst 0 [.int c, .int w, .int r]]) := Kp.app.trans Kp.app
  have n1 : h.length ≤ (h ++ [Ob.lst 0 [.int 1]]).length := by simp
  have n2 : (h ++ [Ob.lst 0 [.int 1]]).length ≠ h.length := by simp
  have core : ∀ (p : Int) (b0 b1 b2 : W), z % 3 = p → 0 ≤ p → p < 3 → [W.int c, W.int w, W.int r].set p.toNat v = [b0, b1, b2] → (∀ h', No v h' → Ref b0 b1 b2 h') → (v = .int (c + 1) → (p = 0 ∨ ∀ h', Ref b0 b1 b2 h')) →
      ∃ h' n b0 b1 b2, F_law_bad [.tup [.int c, .int w, .int r], .int z] h = .ok (.ref n) h' ∧ Kp h h' ∧ h'[n]? = some (.lst 0 [b0, b1, b2]) ∧ Ref b0 b1 b2 h' := by
    intro p b0 b1 b2 hp p0 p3 hset hN hV
    have pu := putIx_at (y := v) e1 p0 (show p < ([W.int c, W.int w, W.int r].length : Int) from p3)
    rw [hset] at pu
    have s1 := get_set (o := .lst 0 [b0, b1, b2]) e1
    have s2 := get_set_ne (o := .lst 0 [b0, b1, b2]) e2 n2
    have k3 := k2.set (o := .lst 0 [b0, b1, b2]) n1
    rw [F_law_bad_ap]
    unfold F_law_bad_b
    have a0' : (atI [W.int c, W.int w, W.int r] 0) = some (.int c) := a0
    have rf : Ref (.int c) (.int (c + 1)) (.int r) (((h ++ [Ob.lst 0 [.int 1]] ++ [Ob.lst 0 [.int c, .int w, .int r]]).set (h ++ [Ob.lst 0 [.int 1]]).length (.lst 0 [b0, b1, b2])) ++ [Ob.lst 0 [.int c, .int (c + 1), .int r]]) := .inr ⟨c, yc, .inr ⟨_, yd, .inr ⟨_, yr, .inl (by omega)⟩⟩⟩
    clear yc yw yr yd g0 m0 m1 e1 e2 k2 n1 n2 hset hc hc2 hw hw2 hr hr2 hz
    rcases D with D | D
    · obtain ⟨no, eqf⟩ := D _ s2
      refine ⟨_, _, b0, b1, b2, ?_, k3, s1, hN _ no⟩
      clear hN hV s1 s2 k3 no D rf
      walk_at "qh"
    · subst D
      have dd : decide (c + 1 = c + 1) = true := decide_eq_true rfl
      by_cases pz : p = 0
      · refine ⟨_, _, .int c, .int (c + 1), .int r, ?_, k3.trans Kp.app, get_new, rf⟩
        have pz' := decide_eq_true pz
        clear hN hV s1 s2 k3 rf pz
        walk_at "qh"
      · have pz' := decide_eq_false pz
        refine ⟨_, _, b0, b1, b2, ?_, k3, s1, (hV rfl).resolve_left pz _⟩
        clear hN hV s1 s2 k3 rf pz
        walk_at "qh"
  have p3 : z % 3 = 0 ∨ z % 3 = 1 ∨ z % 3 = 2 := by omega
  rcases p3 with q | q | q
  · exact core 0 v (.int w) (.int r) q (by decide) (by decide) rfl (fun h' n => .inl n) fun _ => .inl rfl
  · exact core 1 (.int c) v (.int r) q (by decide) (by decide) rfl (fun h' n => .inr ⟨c, yc, .inl n⟩) fun e => .inr fun h' => by
      subst e
      exact .inr ⟨c, yc, .inr ⟨_, yd, .inr ⟨_, yr, .inl (by omega)⟩⟩⟩
  · exact core 2 (.int c) (.int w) v q (by decide) (by decide) rfl (fun h' n => .inr ⟨c, yc, .inr ⟨w, yw, .inl n⟩⟩) fun e => .inr fun h' => by
      subst e
      exact .inr ⟨c, yc, .inr ⟨w, yw, .inr ⟨_, yd, .inr (.inl (by omega))⟩⟩⟩

theorem law_true (ns : List Int) (hl : ns.length ≤ 63) (hb : ∀ z ∈ ns, Builtin.Int.intBits z ≤ 1048576) : ∃ h', F_law [.frz (ns.map W.int)] [] = .ok (.bl true) h' := by
  have ab : ∀ x : Int, 0 ≤ (if x < 0 then -x else x) := fun x => by split <;> omega
  have key : okp (F_law [.frz (ns.map W.int)] []) (fun w _ => w = .bl true) := by
    rw [F_law_ap, okp_endF]
    unfold F_law_b
    have c0 := fun h => law_cell_i ns 0 h (by decide)
    have c1 := fun h => law_cell_i ns 1 h (by decide)
    have c2 := fun h => law_cell_i ns 2 h (by decide)
    have c3 := fun h => law_cell_i ns 3 h (by decide)
    have c4 := fun h => law_cell_i ns 4 h (by decide)
    have c5 := fun h => law_cell_i ns 5 h (by decide)
    obtain ⟨c, w, r, e0, x1, x2, x3, x4, x5, x6, x7⟩ := law_terms (a := if ns.getD 0 0 < 0 then -ns.getD 0 0 else ns.getD 0 0) (b := if ns.getD 1 0 < 0 then -ns.getD 1 0 else ns.getD 1 0) (h := []) (ab _) (ab _)
    obtain ⟨c', w', r', e0', y1, y2, y3, y4, y5, y6, y7⟩ := law_terms (a := if ns.getD 2 0 < 0 then -ns.getD 2 0 else ns.getD 2 0) (b := if ns.getD 3 0 < 0 then -ns.getD 3 0 else ns.getD 3 0) (h := []) (ab _) (ab _)
    obtain ⟨h1, m1, k1, g1⟩ := terms_new (c := c) (w := w) (r := r) (h := []) x1 (by omega) x3 x4 x5 x6 x7
    have g1' : h1[0]? = some (TM c w r) := g1
    obtain ⟨h2, q2, k2⟩ := law_right g1'
    obtain ⟨h3, nb, b0, b1, b2, q3, k3, s3, R3⟩ := bad_ok (h := h2) (z := if ns.getD 4 0 < 0 then -ns.getD 4 0 else ns.getD 4 0) x1 x2 x3 x4 x5 x6 (ab _)
    obtain ⟨W', kk, q4, R4, R5⟩ := few (c := c) (w := w) (r := r) (z := if ns.getD 5 0 < 0 then -ns.getD 5 0 else ns.getD 5 0) (h := h3) x1 x2 (ab _)
    obtain ⟨h4, u4, k4⟩ := refused R3
    obtain ⟨h5, u5, k5⟩ := refused (R4 h4)
    obtain ⟨h6, u6, k6⟩ := refused (R5 h5)
    obtain ⟨h7, m7, k7, g7⟩ := terms_new (c := c') (w := w') (r := r') (h := h6) y1 (by omega) y3 y4 y5 y6 y7
    obtain ⟨h8, q8, k8⟩ := law_right (show h7[h6.length]? = some (TM c' w' r') from g7)
    have gg := k8 _ _ (k7 _ _ (k6 _ _ (k5 _ _ (k4 _ _ (k3 _ _ (k2 _ _ g1'))))))
    obtain ⟨h9, q9, k9⟩ := law_right gg
    have a0 : ∀ x y z : W, atI [x, y, z] 0 = some x := fun _ _ _ => rfl
    have a1 : ∀ x y z : W, atI [x, y, z] 1 = some y := fun _ _ _ => rfl
    have a2 : ∀ x y z : W, atI [x, y, z] 2 = some z := fun _ _ _ => rfl
    have q2' : F_law_right [.ref 0, .tup [.int c, .int w, .int r]] h1 = .ok (.bl true) h2 := q2
    have q9' : F_law_right [.ref 0, .tup [.int c, .int w, .int r]] h8 = .ok (.bl true) h9 := q9
    simp only [Int.reduceLT, Int.reduceLE, Int.reduceGT, Int.reduceGE, Int.reduceNeg, Int.reducePow, Int.reduceAdd, Int.reduceSub, Int.reduceMul, Int.reduceEq, Int.reduceToNat, Int.reduceMod, Nat.reduceLT, Nat.reduceLeDiff, Nat.reduceAdd, Nat.reduceSub, Nat.reduceEqDiff, Nat.reduceMul, decide_true, decide_false, Bool.and_self, Bool.and_true, Bool.true_and, Bool.and_false, Bool.false_and, Bool.or_true, Bool.true_or, Bool.or_false, Bool.false_or, Bool.or_self, reduceCtorEq, sizeL, eBM_ap, tyB_l, tyB_s, isSome_some, eMet_ap, ePrp_ap, eFld_ap, sFld_ap, asI_r, sRaise_ap, makeW_ap, eLc_ap, sPut_ap, isE_ap, wipeW_nil, wipeW_cons, get_new, atM_r, appW_ap, revW_ap, lstcW_ap, asQ_r, asQ_t, tYesM_ap, List.length_map, eV_ap, eC_ap, eBin_ap, eNeg_ap, tB_ap, eChain_ap, tTru_ap, tAndM_ap, tOrM_ap, tNotM_ap, eAnd_ap, eOr_ap, eNot_ap, aNil_ap, aCons_ap, eTup_ap, eLst_ap, eCB_ap, eCB0_ap, isiW_ap, oNone_ap, oSome_ap, eSl_ap, sNop_ap, sSeq_ap, endF_rt, endF_nx, endF_exc, sExpr_ap, sRet_ap, sRetN_ap, sBrk_ap, sCont_ap, sIf_ap, gN_ap, gT_ap, gsNil_ap, gsCons_ap, sAsg_ap, iAny_ap, iRng1W_ap, iRng2W_ap, sFor_ap, iterW_tup, iterW_str, iterW_frz, bind_ok, bind_exc, toS_ok, toS_exc, thenS_nx, thenS_rt, thenS_bk, thenS_ct, thenS_exc, mkL_ap, tyW, truW, addW_ii, addW_ss, addW_tt, subW_ii, fdivW_ok, modW_ok, powW_ap, and_self, Nat.reducePow, natAbs_10, natAbs_2, asL_frz, mulNS_ap, eqW_ii, eqW_ss, eqW_bb, eqW_nn, eqW_ni, eqW_in, eqW_nb, eqW_bn, eqW_ns, eqW_sn, eqW_is, eqW_si, eqW_bs, eqW_sb, ltW_ii, leW_ii, gtW_ii, geW_ii, isNW_n, isNW_i, isNW_b, isNW_s, isNW_t, isNW_f, isNW_r, lenW_s, lenW_t, lenW_f, lenW_r, iterW_r, asL_r, loopF_nil, loopF_cons, turnF_nx, turnF_ct, turnF_bk, turnF_rt, turnF_exc, stillL_ap, W.beqs_refl, absW_i, max2W_i, min2W_i, intcW_i, intcW_b, ordcW_one, mulW_l, mulW_r, slen_one, kit_NoneType_int, kit_NoneType_bool, kit_NoneType_str, kit_NoneType_list, kit_NoneType_tuple, kit_NoneType_dict, kit_bool_int, kit_bool_bool, kit_bool_str, kit_bool_list, kit_bool_tuple, kit_bool_dict, kit_int_int, kit_int_bool, kit_int_str, kit_int_list, kit_int_tuple, kit_int_dict, kit_str_int, kit_str_bool, kit_str_str, kit_str_list, kit_str_tuple, kit_str_dict, kit_tuple_int, kit_tuple_bool, kit_tuple_str, kit_tuple_list, kit_tuple_tuple, kit_tuple_dict, kit_list_int, kit_list_bool, kit_list_str, kit_list_list, kit_list_tuple, kit_list_dict, kit_dict_int, kit_dict_bool, kit_dict_str, kit_dict_list, kit_dict_tuple, kit_dict_dict, ixW_t, ixW_s, ixW_f, ixW_r, slW_r, slW_t, slW_s, slW_f, List.getElem?_cons_zero, List.getElem?_cons_succ, List.set_cons_zero, List.set_cons_succ, List.map_cons, List.map_nil, List.replicate, List.cons_append, List.nil_append, List.length_cons, List.length_nil, Bool.false_xor, Bool.true_xor, if_true, if_false, Bool.false_eq_true, Bool.not_true, Bool.not_false] at m1
    simp only [Int.reduceLT, Int.reduceLE, Int.reduceGT, Int.reduceGE, Int.reduceNeg, Int.reducePow, Int.reduceAdd, Int.reduceSub, Int.reduceMul, Int.reduceEq, Int.reduceToNat, Int.reduceMod, Nat.reduceLT, Nat.reduceLeDiff, Nat.reduceAdd, Nat.reduceSub, Nat.reduceEqDiff, Nat.reduceMul, decide_true, decide_false, Bool.and_self, Bool.and_true, Bool.true_and, Bool.and_false, Bool.false_and, Bool.or_true, Bool.true_or, Bool.or_false, Bool.false_or, Bool.or_self, reduceCtorEq, sizeL, eBM_ap, tyB_l, tyB_s, isSome_some, eMet_ap, ePrp_ap, eFld_ap, sFld_ap, asI_r, sRaise_ap, makeW_ap, eLc_ap, sPut_ap, isE_ap, wipeW_nil, wipeW_cons, get_new, atM_r, appW_ap, revW_ap, lstcW_ap, asQ_r, asQ_t, tYesM_ap, List.length_map, eV_ap, eC_ap, eBin_ap, eNeg_ap, tB_ap, eChain_ap, tTru_ap, tAndM_ap, tOrM_ap, tNotM_ap, eAnd_ap, eOr_ap, eNot_ap, aNil_ap, aCons_ap, eTup_ap, eLst_ap, eCB_ap, eCB0_ap, isiW_ap, oNone_ap, oSome_ap, eSl_ap, sNop_ap, sSeq_ap, endF_rt, endF_nx, endF_exc, sExpr_ap, sRet_ap, sRetN_ap, sBrk_ap, sCont_ap, sIf_ap, gN_ap, gT_ap, gsNil_ap, gsCons_ap, sAsg_ap, iAny_ap, iRng1W_ap, iRng2W_ap, sFor_ap, iterW_tup, iterW_str, iterW_frz, bind_ok, bind_exc, toS_ok, toS_exc, thenS_nx, thenS_rt, thenS_bk, thenS_ct, thenS_exc, mkL_ap, tyW, truW, addW_ii, addW_ss, addW_tt, subW_ii, fdivW_ok, modW_ok, powW_ap, and_self, Nat.reducePow, natAbs_10, natAbs_2, asL_frz, mulNS_ap, eqW_ii, eqW_ss, eqW_bb, eqW_nn, eqW_ni, eqW_in, eqW_nb, eqW_bn, eqW_ns, eqW_sn, eqW_is, eqW_si, eqW_bs, eqW_sb, ltW_ii, leW_ii, gtW_ii, geW_ii, isNW_n, isNW_i, isNW_b, isNW_s, isNW_t, isNW_f, isNW_r, lenW_s, lenW_t, lenW_f, lenW_r, iterW_r, asL_r, loopF_nil, loopF_cons, turnF_nx, turnF_ct, turnF_bk, turnF_rt, turnF_exc, stillL_ap, W.beqs_refl, absW_i, max2W_i, min2W_i, intcW_i, intcW_b, ordcW_one, mulW_l, mulW_r, slen_one, kit_NoneType_int, kit_NoneType_bool, kit_NoneType_str, kit_NoneType_list, kit_NoneType_tuple, kit_NoneType_dict, kit_bool_int, kit_bool_bool, kit_bool_str, kit_bool_list, kit_bool_tuple, kit_bool_dict, kit_int_int, kit_int_bool, kit_int_str, kit_int_list, kit_int_tuple, kit_int_dict, kit_str_int, kit_str_bool, kit_str_str, kit_str_list, kit_str_tuple, kit_str_dict, kit_tuple_int, kit_tuple_bool, kit_tuple_str, kit_tuple_list, kit_tuple_tuple, kit_tuple_dict, kit_list_int, kit_list_bool, kit_list_str, kit_list_list, kit_list_tuple, kit_list_dict, kit_dict_int, kit_dict_bool, kit_dict_str, kit_dict_list, kit_dict_tuple, kit_dict_dict, ixW_t, ixW_s, ixW_f, ixW_r, slW_r, slW_t, slW_s, slW_f, List.getElem?_cons_zero, List.getElem?_cons_succ, List.set_cons_zero, List.set_cons_succ, List.map_cons, List.map_nil, List.replicate, List.cons_append, List.nil_append, List.length_cons, List.length_nil, Bool.false_xor, Bool.true_xor, if_true, if_false, Bool.false_eq_true, Bool.not_true, Bool.not_false] at m7
    clear q2 q9 R3 R4 R5 g1 g1' g7 gg k1 k2 k3 k4 k5 k6 k7 k8 k9 x1 x2 x3 x4 x5 x6 x7 y1 y2 y3 y4 y5 y6 y7 ab hb hl
    walk_at "qh"
    simp only [oks_ok]
  obtain ⟨a, h', e, rfl⟩ := okp_iff.1 key
  exact ⟨h', e⟩
end Y

namespace Y
open PySem PySem.Spec PyProof.Rows L2 Z
def top (i : Nat) : Stmt := PySem.Challenge.pw_ringheld_k28_terms.main.body.getD i (.Pass ⟨0, 0, 0, 0⟩)
abbrev st_is_integer : Stmt := top 8
def d_is_integer : Fx := ⟨fun K => He.ga K "is_integer", "is_integer", "is_integer", defArgs st_is_integer, defBody st_is_integer, defScope st_is_integer⟩
abbrev st_Terms___init__ : Stmt := inClass (top 10) 0
def d_Terms___init__ : Fx := ⟨fun K => mA K "Terms" "__init__", "__init__", "Terms.__init__", defArgs st_Terms___init__, defBody st_Terms___init__, defScope st_Terms___init__⟩
abbrev st__law_cell : Stmt := top 12
def d__law_cell : Fx := ⟨fun K => He.ga K "_law_cell", "_law_cell", "_law_cell", defArgs st__law_cell, defBody st__law_cell, defScope st__law_cell⟩
abbrev st__law_refused : Stmt := top 13
def d__law_refused : Fx := ⟨fun K => He.ga K "_law_refused", "_law_refused", "_law_refused", defArgs st__law_refused, defBody st__law_refused, defScope st__law_refused⟩
abbrev st__law_terms : Stmt := top 14
def d__law_terms : Fx := ⟨fun K => He.ga K "_law_terms", "_law_terms", "_law_terms", defArgs st__law_terms, defBody st__law_terms, defScope st__law_terms⟩
abbrev st_Terms_copies : Stmt := inClass (top 10) 1
def d_Terms_copies : Fx := ⟨fun K => pG K "Terms" "copies", "copies", "Terms.copies", defArgs st_Terms_copies, defBody st_Terms_copies, defScope st_Terms_copies⟩
abbrev st_Terms_write : Stmt := inClass (top 10) 2
def d_Terms_write : Fx := ⟨fun K => pG K "Terms" "write", "write", "Terms.write", defArgs st_Terms_write, defBody st_Terms_write, defScope st_Terms_write⟩
abbrev st_Terms_read : Stmt := inClass (top 10) 3
def d_Terms_read : Fx := ⟨fun K => pG K "Terms" "read", "read", "Terms.read", defArgs st_Terms_read, defBody st_Terms_read, defScope st_Terms_read⟩
abbrev st_Terms_handing : Stmt := inClass (top 10) 4
def d_Terms_handing : Fx := ⟨fun K => pG K "Terms" "handing", "handing", "Terms.handing", defArgs st_Terms_handing, defBody st_Terms_handing, defScope st_Terms_handing⟩
abbrev st__law_right : Stmt := top 15
def d__law_right : Fx := ⟨fun K => He.ga K "_law_right", "_law_right", "_law_right", defArgs st__law_right, defBody st__law_right, defScope st__law_right⟩
abbrev st__law_bad : Stmt := top 16
def d__law_bad : Fx := ⟨fun K => He.ga K "_law_bad", "_law_bad", "_law_bad", defArgs st__law_bad, defBody st__law_bad, defScope st__law_bad⟩
abbrev st__law_too_few : Stmt := top 17
def d__law_too_few : Fx := ⟨fun K => He.ga K "_law_too_few", "_law_too_few", "_law_too_few", defArgs st__law_too_few, defBody st__law_too_few, defScope st__law_too_few⟩
abbrev st_law : Stmt := top 18
def d_law : Fx := ⟨fun K => He.ga K "law", "law", "law", defArgs st_law, defBody st_law, defScope st_law⟩
def fnl : List Fx := [d_is_integer, d_Terms___init__, d__law_cell, d__law_refused, d__law_terms, d_Terms_copies, d_Terms_write, d_Terms_read, d_Terms_handing, d__law_right, d__law_bad, d__law_too_few, d_law]
def fal : List Ex := [.fa (.glo "_law_terms"), .fa (.glo "_law_cell"), .fa (.free "abs"), .fa (.glo "Terms"), .ci "Terms", .mk "Terms", .fa (.glo "_law_right"), .fa (.glo "_law_bad"), .fa (.glo "_law_too_few"), .fa (.glo "_law_refused"), .fa (.free "int"), .fa (.free "len"), .fa (.glo "is_integer"), .fa (.glo "BadValue"), .exc "BadValue", .prop "Terms" "handing", .prop "Terms" "read", .prop "Terms" "write", .prop "Terms" "copies", .fa (.free "range"), .fa (.free "isinstance"), .fa (.free "bool"), .fa (.free "list"), .fa (.glo "RingError"), .fa (.glo "Unknown"), .exm "Unknown" "RingError" true, .exm "RingError" "RingError" true, .fa (.glo "HouseDown"), .exm "HouseDown" "RingError" true, .fa (.glo "Busy"), .exm "Busy" "RingError" true, .exm "BadValue" "RingError" true, .kit "Unknown" "BadValue" false, .exk "Unknown", .kit "RingError" "BadValue" false, .exk "RingError", .kit "HouseDown" "BadValue" false, .exk "HouseDown", .kit "Busy" "BadValue" false, .exk "Busy", .kit "BadValue" "BadValue" true, .exk "BadValue", .kitT "Unknown" "ValueError" true, .kitT "RingError" "ValueError" true, .kitT "HouseDown" "ValueError" true, .kitT "Busy" "ValueError" true, .kitT "BadValue" "ValueError" true, .fa (.free "ValueError"), .kit "Unknown" "Busy" false, .kit "RingError" "Busy" false, .kit "HouseDown" "Busy" false, .kit "Busy" "Busy" true, .kit "BadValue" "Busy" false, .kit "Unknown" "HouseDown" false, .kit "RingError" "HouseDown" false, .kit "HouseDown" "HouseDown" true, .kit "Busy" "HouseDown" false, .kit "BadValue" "HouseDown" false, .kit "Unknown" "Unknown" true, .kit "RingError" "Unknown" false, .kit "HouseDown" "Unknown" false, .kit "Busy" "Unknown" false, .kit "BadValue" "Unknown" false, .fa (.int "GREATEST" (1000000000000)), .fa (.free "min"), .fa (.glo "law")]
section
variable {P : Program} {w : World} {K : PySem.W.Frag} {mg : Str → Option Value} {base : Heap}
abbrev Bl := Bx fal fnl
theorem bt_ValueError : bootBuiltins "ValueError" = some (.type "ValueError") := by decide +kernel
theorem bt_abs : bootBuiltins "abs" = some (.builtin "abs") := by decide +kernel
theorem bt_bool : bootBuiltins "bool" = some (.type "bool") := by decide +kernel
theorem bt_dict : bootBuiltins "dict" = some (.type "dict") := by decide +kernel
theorem bt_enumerate : bootBuiltins "enumerate" = some (.type "enumerate") := by decide +kernel
theorem bt_int : bootBuiltins "int" = some (.type "int") := by decide +kernel
theorem bt_isinstance : bootBuiltins "isinstance" = some (.builtin "isinstance") := by decide +kernel
theorem bt_len : bootBuiltins "len" = some (.builtin "len") := by decide +kernel
theorem bt_list : bootBuiltins "list" = some (.type "list") := by decide +kernel
theorem bt_min : bootBuiltins "min" = some (.builtin "min") := by decide +kernel
theorem bt_object : bootBuiltins "object" = some (.type "object") := by decide +kernel
theorem bt_range : bootBuiltins "range" = some (.type "range") := by decide +kernel
theorem bt_set : bootBuiltins "set" = some (.type "set") := by decide +kernel
theorem bt_str : bootBuiltins "str" = some (.type "str") := by decide +kernel
theorem bt_tuple : bootBuiltins "tuple" = some (.type "tuple") := by decide +kernel
theorem bt_zip : bootBuiltins "zip" = some (.type "zip") := by decide +kernel
theorem sc_is_integer : FnScope ["thing"] ["thing"] (defScope st_is_integer) := ⟨rfl, rfl, rfl, by decide +kernel, rfl, by decide +kernel, by decide +kernel⟩
theorem k_is_integer (B : Bl P w K mg base) : FOk P w K mg base 1 (He.ga K "is_integer") F_is_integer := by
  obtain ⟨fd, F⟩ := B.says.def_ 0 (d := d_is_integer) rfl
  refine ⟨fd, ["thing"], ?_, F.kp, F.bindsN fun _ _ _ _ _ _ us hl => match us, hl with | [_], _ => rfl⟩
  refine qf_okD F sc_is_integer fun cdv A outer s H E hr => ?_
  have tk := takes_of (X := cxOf (L2.CX P w) P w K mg base ["thing"] "is_integer" (defScope st_is_integer) (d_is_integer.ad K) cdv A outer s H E) rfl rfl rfl rfl
  have nd := sc_is_integer.nd
  have hu := hr.units
  have hu5 := room65 hr
  have hpo := passes_of (X := cxOf (L2.CX P w) P w K mg base ["thing"] "is_integer" (defScope st_is_integer) (d_is_integer.ad K) cdv A outer s H E) rfl
  show QB _ _ _ _ F_is_integer_b
  exact qb_one (qs_ret (qe_and (q_isi (by rfl) (B.free 20) bt_isinstance (by rfl) (B.free 10) bt_int (qv 0)) (qe_and (qe_not (q_isi (by rfl) (B.free 20) bt_isinstance (by rfl) (B.free 21) bt_bool (qv 0))) (qe_one (qe_chain (op_leW) q_ordW (op_leW) q_ordW (q_neg (q_globI (by rfl) (B.int 63))) (qv 0) (q_globI (by rfl) (B.int 63)))))))
theorem sc_Terms___init__ : FnScope ["self", "copies", "write", "read", "number"] ["self", "copies", "write", "read"] (defScope st_Terms___init__) := ⟨rfl, rfl, rfl, by decide +kernel, rfl, by decide +kernel, by decide +kernel⟩
theorem k_Terms___init__ (B : Bl P w K mg base) : FOk P w K mg base 2 (mA K "Terms" "__init__") F_Terms___init__ := by
  obtain ⟨fd, F⟩ := B.says.def_ 1 (d := d_Terms___init__) rfl
  refine ⟨fd, ["self", "copies", "write", "read"], ?_, F.kp, F.bindsN fun _ _ _ _ _ _ us hl => match us, hl with | [_, _, _, _], _ => rfl⟩
  refine qf_okD F sc_Terms___init__ fun cdv A outer s H E hr => ?_
  have tk := takes_of (X := cxOf (L2.CX P w) P w K mg base ["self", "copies", "write", "read", "number"] "Terms.__init__" (defScope st_Terms___init__) (d_Terms___init__.ad K) cdv A outer s H E) rfl rfl rfl rfl
  have nd := sc_Terms___init__.nd
  have hu := hr.units
  have hu5 := room65 hr
  have hpo := passes_of (X := cxOf (L2.CX P w) P w K mg base ["self", "copies", "write", "read", "number"] "Terms.__init__" (defScope st_Terms___init__) (d_Terms___init__.ad K) cdv A outer s H E) rfl
  show QB _ _ _ _ F_Terms___init___b
  exact qb_cons (qs_for hpo rfl (qi_any (q_lst (qa_cons (qv 1) (qa_cons (qv 2) (qa_cons (qv 3) (qa_nil)))))) (qg_name 4 nd) (qb_one (qs_if (QW.pt (qw_or (qt_not (qt_truth (q_cal ((k_is_integer B).cal (B.glo 12)) tk hr (by decide) (by rfl) (qa_cons (qv 4) (qa_nil))))) (qw_or1 (qt_not (qt_cmp (op_leW) q_ordW (q_int) (qv 4) (nomark _)))))) (qb_one (qs_raise (exc_cls (B.glo 13) (B.says.fact 14)) tk rfl (by rfl))) (qb_nil))))
      (qb_cons (qs_if (QW.pt (qw_or (qt_cmp (op_gtW) q_ordW (qv 2) (qv 1) (nomark _)) (qw_or (qt_cmp (op_gtW) q_ordW (qv 3) (qv 1) (nomark _)) (qw_or1 (qt_cmp (op_leW) q_ordW (q_add (qv 2) (qv 3)) (qv 1) (nomark _)))))) (qb_one (qs_raise (exc_cls (B.glo 13) (B.says.fact 14)) tk rfl (by rfl))) (qb_nil))
      (qb_cons (qs_fld (qv 0) (qv 1))
      (qb_cons (qs_fld (qv 0) (qv 2))
      (qb_one (qs_fld (qv 0) (qv 3))))))
theorem sc__law_cell : FnScope ["_law_script", "_law_k"] ["_law_script", "_law_k"] (defScope st__law_cell) := ⟨rfl, rfl, rfl, by decide +kernel, rfl, by decide +kernel, by decide +kernel⟩
theorem k__law_cell (B : Bl P w K mg base) : FOk P w K mg base 1 (He.ga K "_law_cell") F_law_cell := by
  obtain ⟨fd, F⟩ := B.says.def_ 2 (d := d__law_cell) rfl
  refine ⟨fd, ["_law_script", "_law_k"], ?_, F.kp, F.bindsN fun _ _ _ _ _ _ us hl => match us, hl with | [_, _], _ => rfl⟩
  refine qf_okD F sc__law_cell fun cdv A outer s H E hr => ?_
  have tk := takes_of (X := cxOf (L2.CX P w) P w K mg base ["_law_script", "_law_k"] "_law_cell" (defScope st__law_cell) (d__law_cell.ad K) cdv A outer s H E) rfl rfl rfl rfl
  have nd := sc__law_cell.nd
  have hu := hr.units
  have hu5 := room65 hr
  have hpo := passes_of (X := cxOf (L2.CX P w) P w K mg base ["_law_script", "_law_k"] "_law_cell" (defScope st__law_cell) (d__law_cell.ad K) cdv A outer s H E) rfl
  show QB _ _ _ _ F_law_cell_b
  exact qb_cons (qs_if (qt_cmp (op_ltW) q_ordW (qv 1) (q_cb call_lenW q_lenW (by rfl) (B.free 11) bt_len (qa_cons (qv 0) (qa_nil))) (nomark _)) (qb_one (qs_ret (q_ix (qv 0) (qv 1)))) (qb_nil))
      (qb_one (qs_ret (q_int)))
theorem sc__law_refused : FnScope ["_law_copies", "_law_write", "_law_read", "e"] ["_law_copies", "_law_write", "_law_read"] (defScope st__law_refused) := ⟨rfl, rfl, rfl, by decide +kernel, rfl, by decide +kernel, by decide +kernel⟩
theorem k__law_refused (B : Bl P w K mg base) : FOk P w K mg base 4 (He.ga K "_law_refused") F_law_refused := by
  obtain ⟨fd, F⟩ := B.says.def_ 3 (d := d__law_refused) rfl
  refine ⟨fd, ["_law_copies", "_law_write", "_law_read"], ?_, F.kp, F.bindsN fun _ _ _ _ _ _ us hl => match us, hl with | [_, _, _], _ => rfl⟩
  refine qf_okD F sc__law_refused fun cdv A outer s H E hr => ?_
  have tk := takes_of (X := cxOf (L2.CX P w) P w K mg base ["_law_copies", "_law_write", "_law_read", "e"] "_law_refused" (defScope st__law_refused) (d__law_refused.ad K) cdv A outer s H E) rfl rfl rfl rfl
  have nd := sc__law_refused.nd
  have hu := hr.units
  have hu5 := room65 hr
  have hpo := passes_of (X := cxOf (L2.CX P w) P w K mg base ["_law_copies", "_law_write", "_law_read", "e"] "_law_refused" (defScope st__law_refused) (d__law_refused.ad K) cdv A outer s H E) rfl
  show QB _ _ _ _ F_law_refused_b
  exact qb_cons (qs_try_as 3 rfl rfl nd ⟨by rfl, by decide, .inl (B.glo 23)⟩ tk (tbB_cons (exm_okx (B.says.fact 31)) (tbB_cons (exm_okx (B.says.fact 30)) (tbB_cons (exm_okx (B.says.fact 28)) (tbB_cons (exm_okx (B.says.fact 26)) (tbB_cons (exm_okx (B.says.fact 25)) (tbB_nil)))))) (fun W pn xe tk hpo => qb_one (qs_expr (q_make ((k_Terms___init__ B).mkr (B.glo 3) (B.says.fact 4) (B.says.fact 5)) tk hr (by decide) (by rfl) (qa_cons (qv 0) (qa_cons (qv 1) (qa_cons (qv 2) (qa_nil))))))) (fun ea ec oe pn hz hfl => qb_cons (qs_if (QW.pt (qw_or (qt_not (qt_truth (q_isE hz hfl (by rfl) (B.free 20) bt_isinstance (by rfl) (B.glo 13) (tbB_cons (kit_ok (B.says.fact 40)) (tbB_cons (kit_ok (B.says.fact 38)) (tbB_cons (kit_ok (B.says.fact 36)) (tbB_cons (kit_ok (B.says.fact 34)) (tbB_cons (kit_ok (B.says.fact 32)) (tbB_nil)))))) (tbB_cons (P := fun c _ => L2.ExcC K (He.ga K c)) (exk_ok (B.says.fact 41)) (tbB_cons (P := fun c _ => L2.ExcC K (He.ga K c)) (exk_ok (B.says.fact 39)) (tbB_cons (P := fun c _ => L2.ExcC K (He.ga K c)) (exk_ok (B.says.fact 37)) (tbB_cons (P := fun c _ => L2.ExcC K (He.ga K c)) (exk_ok (B.says.fact 35)) (tbB_cons (P := fun c _ => L2.ExcC K (He.ga K c)) (exk_ok (B.says.fact 33)) (tbB_nil)))))) (qv 3)))) (qw_or1 (qt_not (qt_truth (q_isET hz hfl (by rfl) (B.free 20) bt_isinstance (by rfl) (B.free 47) bt_ValueError (tbB_cons (kitT_ok (B.says.fact 46)) (tbB_cons (kitT_ok (B.says.fact 45)) (tbB_cons (kitT_ok (B.says.fact 44)) (tbB_cons (kitT_ok (B.says.fact 43)) (tbB_cons (kitT_ok (B.says.fact 42)) (tbB_nil)))))) (tbB_cons (P := fun c _ => L2.ExcC K (He.ga K c)) (exk_ok (B.says.fact 41)) (tbB_cons (P := fun c _ => L2.ExcC K (He.ga K c)) (exk_ok (B.says.fact 39)) (tbB_cons (P := fun c _ => L2.ExcC K (He.ga K c)) (exk_ok (B.says.fact 37)) (tbB_cons (P := fun c _ => L2.ExcC K (He.ga K c)) (exk_ok (B.says.fact 35)) (tbB_cons (P := fun c _ => L2.ExcC K (He.ga K c)) (exk_ok (B.says.fact 33)) (tbB_nil)))))) (qv 3))))))) (qb_one (qs_ret (q_bl))) (qb_nil))
      (qb_one (qs_ret (qe_and (qe_not (q_isE hz hfl (by rfl) (B.free 20) bt_isinstance (by rfl) (B.glo 29) (tbB_cons (kit_ok (B.says.fact 52)) (tbB_cons (kit_ok (B.says.fact 51)) (tbB_cons (kit_ok (B.says.fact 50)) (tbB_cons (kit_ok (B.says.fact 49)) (tbB_cons (kit_ok (B.says.fact 48)) (tbB_nil)))))) (tbB_cons (P := fun c _ => L2.ExcC K (He.ga K c)) (exk_ok (B.says.fact 41)) (tbB_cons (P := fun c _ => L2.ExcC K (He.ga K c)) (exk_ok (B.says.fact 39)) (tbB_cons (P := fun c _ => L2.ExcC K (He.ga K c)) (exk_ok (B.says.fact 37)) (tbB_cons (P := fun c _ => L2.ExcC K (He.ga K c)) (exk_ok (B.says.fact 35)) (tbB_cons (P := fun c _ => L2.ExcC K (He.ga K c)) (exk_ok (B.says.fact 33)) (tbB_nil)))))) (qv 3))) (qe_and (qe_not (q_isE hz hfl (by rfl) (B.free 20) bt_isinstance (by rfl) (B.glo 27) (tbB_cons (kit_ok (B.says.fact 57)) (tbB_cons (kit_ok (B.says.fact 56)) (tbB_cons (kit_ok (B.says.fact 55)) (tbB_cons (kit_ok (B.says.fact 54)) (tbB_cons (kit_ok (B.says.fact 53)) (tbB_nil)))))) (tbB_cons (P := fun c _ => L2.ExcC K (He.ga K c)) (exk_ok (B.says.fact 41)) (tbB_cons (P := fun c _ => L2.ExcC K (He.ga K c)) (exk_ok (B.says.fact 39)) (tbB_cons (P := fun c _ => L2.ExcC K (He.ga K c)) (exk_ok (B.says.fact 37)) (tbB_cons (P := fun c _ => L2.ExcC K (He.ga K c)) (exk_ok (B.says.fact 35)) (tbB_cons (P := fun c _ => L2.ExcC K (He.ga K c)) (exk_ok (B.says.fact 33)) (tbB_nil)))))) (qv 3))) (qe_one (qe_not (q_isE hz hfl (by rfl) (B.free 20) bt_isinstance (by rfl) (B.glo 24) (tbB_cons (kit_ok (B.says.fact 62)) (tbB_cons (kit_ok (B.says.fact 61)) (tbB_cons (kit_ok (B.says.fact 60)) (tbB_cons (kit_ok (B.says.fact 59)) (tbB_cons (kit_ok (B.says.fact 58)) (tbB_nil)))))) (tbB_cons (P := fun c _ => L2.ExcC K (He.ga K c)) (exk_ok (B.says.fact 41)) (tbB_cons (P := fun c _ => L2.ExcC K (He.ga K c)) (exk_ok (B.says.fact 39)) (tbB_cons (P := fun c _ => L2.ExcC K (He.ga K c)) (exk_ok (B.says.fact 37)) (tbB_cons (P := fun c _ => L2.ExcC K (He.ga K c)) (exk_ok (B.says.fact 35)) (tbB_cons (P := fun c _ => L2.ExcC K (He.ga K c)) (exk_ok (B.says.fact 33)) (tbB_nil)))))) (qv 3))))))))))
      (qb_one (qs_ret (q_bl)))
theorem sc__law_terms : FnScope ["_law_cell_here", "_law_other", "_law_copies", "_law_write", "_law_read"] ["_law_cell_here", "_law_other"] (defScope st__law_terms) := ⟨rfl, rfl, rfl, by decide +kernel, rfl, by decide +kernel, by decide +kernel⟩
theorem k__law_terms (B : Bl P w K mg base) : FOk P w K mg base 1 (He.ga K "_law_terms") F_law_terms := by
  obtain ⟨fd, F⟩ := B.says.def_ 4 (d := d__law_terms) rfl
  refine ⟨fd, ["_law_cell_here", "_law_other"], ?_, F.kp, F.bindsN fun _ _ _ _ _ _ us hl => match us, hl with | [_, _], _ => rfl⟩
  refine qf_okD F sc__law_terms fun cdv A outer s H E hr => ?_
  have tk := takes_of (X := cxOf (L2.CX P w) P w K mg base ["_law_cell_here", "_law_other", "_law_copies", "_law_write", "_law_read"] "_law_terms" (defScope st__law_terms) (d__law_terms.ad K) cdv A outer s H E) rfl rfl rfl rfl
  have nd := sc__law_terms.nd
  have hu := hr.units
  have hu5 := room65 hr
  have hpo := passes_of (X := cxOf (L2.CX P w) P w K mg base ["_law_cell_here", "_law_other", "_law_copies", "_law_write", "_law_read"] "_law_terms" (defScope st__law_terms) (d__law_terms.ad K) cdv A outer s H E) rfl
  show QB _ _ _ _ F_law_terms_b
  exact qb_cons (qs_set 2 nd (q_add (q_int) (q_mod (q_cty call_int1 q_intcW (by rfl) (B.free 10) bt_int (qa_cons (qv 0) (qa_nil))) (q_int))))
      (qb_cons (qs_if (qt_cmp (op_eqW hu) q_eqW (q_mod (q_cty call_int1 q_intcW (by rfl) (B.free 10) bt_int (qa_cons (q_fdiv (qv 0) (q_int)) (qa_nil))) (q_int)) (q_int) (nomark _)) (qb_one (qs_set 2 nd (q_add (q_int) (q_mod (q_cty call_int1 q_intcW (by rfl) (B.free 10) bt_int (qa_cons (q_fdiv (qv 0) (q_int)) (qa_nil))) (q_pow (q_int) (q_int)))))) (qb_nil))
      (qb_cons (qs_set 3 nd (q_add (q_int) (q_mod (q_cty call_int1 q_intcW (by rfl) (B.free 10) bt_int (qa_cons (qv 1) (qa_nil))) (qv 2))))
      (qb_cons (qs_set 4 nd (q_add (q_add (q_sub (qv 2) (qv 3)) (q_int)) (q_mod (q_cty call_int1 q_intcW (by rfl) (B.free 10) bt_int (qa_cons (q_fdiv (qv 1) (qv 2)) (qa_nil))) (qv 3))))
      (qb_cons (qs_if (qt_cmp (op_eqW hu) q_eqW (q_mod (q_cty call_int1 q_intcW (by rfl) (B.free 10) bt_int (qa_cons (q_fdiv (qv 0) (q_int)) (qa_nil))) (q_int)) (q_int) (nomark _)) (qb_one (qs_ret (q_tup (qa_cons (qv 2) (qa_cons (qv 4) (qa_cons (qv 3) (qa_nil))))))) (qb_nil))
      (qb_one (qs_ret (q_tup (qa_cons (qv 2) (qa_cons (qv 3) (qa_cons (qv 4) (qa_nil)))))))))))
theorem sc_Terms_copies : FnScope ["self"] ["self"] (defScope st_Terms_copies) := ⟨rfl, rfl, rfl, by decide +kernel, rfl, by decide +kernel, by decide +kernel⟩
theorem k_Terms_copies (B : Bl P w K mg base) : FOk P w K mg base 1 (pG K "Terms" "copies") F_Terms_copies := by
  obtain ⟨fd, F⟩ := B.says.def_ 5 (d := d_Terms_copies) rfl
  refine ⟨fd, ["self"], ?_, F.kp, F.bindsN fun _ _ _ _ _ _ us hl => match us, hl with | [_], _ => rfl⟩
  refine qf_okD F sc_Terms_copies fun cdv A outer s H E hr => ?_
  have tk := takes_of (X := cxOf (L2.CX P w) P w K mg base ["self"] "Terms.copies" (defScope st_Terms_copies) (d_Terms_copies.ad K) cdv A outer s H E) rfl rfl rfl rfl
  have nd := sc_Terms_copies.nd
  have hu := hr.units
  have hu5 := room65 hr
  have hpo := passes_of (X := cxOf (L2.CX P w) P w K mg base ["self"] "Terms.copies" (defScope st_Terms_copies) (d_Terms_copies.ad K) cdv A outer s H E) rfl
  show QB _ _ _ _ F_Terms_copies_b
  exact qb_one (qs_ret (q_fld (qv 0)))
theorem sc_Terms_write : FnScope ["self"] ["self"] (defScope st_Terms_write) := ⟨rfl, rfl, rfl, by decide +kernel, rfl, by decide +kernel, by decide +kernel⟩
theorem k_Terms_write (B : Bl P w K mg base) : FOk P w K mg base 1 (pG K "Terms" "write") F_Terms_write := by
  obtain ⟨fd, F⟩ := B.says.def_ 6 (d := d_Terms_write) rfl
  refine ⟨fd, ["self"], ?_, F.kp, F.bindsN fun _ _ _ _ _ _ us hl => match us, hl with | [_], _ => rfl⟩
  refine qf_okD F sc_Terms_write fun cdv A outer s H E hr => ?_
  have tk := takes_of (X := cxOf (L2.CX P w) P w K mg base ["self"] "Terms.write" (defScope st_Terms_write) (d_Terms_write.ad K) cdv A outer s H E) rfl rfl rfl rfl
  have nd := sc_Terms_write.nd
  have hu := hr.units
  have hu5 := room65 hr
  have hpo := passes_of (X := cxOf (L2.CX P w) P w K mg base ["self"] "Terms.write" (defScope st_Terms_write) (d_Terms_write.ad K) cdv A outer s H E) rfl
  show QB _ _ _ _ F_Terms_write_b
  exact qb_one (qs_ret (q_fld (qv 0)))
theorem sc_Terms_read : FnScope ["self"] ["self"] (defScope st_Terms_read) := ⟨rfl, rfl, rfl, by decide +kernel, rfl, by decide +kernel, by decide +kernel⟩
theorem k_Terms_read (B : Bl P w K mg base) : FOk P w K mg base 1 (pG K "Terms" "read") F_Terms_read := by
  obtain ⟨fd, F⟩ := B.says.def_ 7 (d := d_Terms_read) rfl
  refine ⟨fd, ["self"], ?_, F.kp, F.bindsN fun _ _ _ _ _ _ us hl => match us, hl with | [_], _ => rfl⟩
  refine qf_okD F sc_Terms_read fun cdv A outer s H E hr => ?_
  have tk := takes_of (X := cxOf (L2.CX P w) P w K mg base ["self"] "Terms.read" (defScope st_Terms_read) (d_Terms_read.ad K) cdv A outer s H E) rfl rfl rfl rfl
  have nd := sc_Terms_read.nd
  have hu := hr.units
  have hu5 := room65 hr
  have hpo := passes_of (X := cxOf (L2.CX P w) P w K mg base ["self"] "Terms.read" (defScope st_Terms_read) (d_Terms_read.ad K) cdv A outer s H E) rfl
  show QB _ _ _ _ F_Terms_read_b
  exact qb_one (qs_ret (q_fld (qv 0)))
theorem sc_Terms_handing : FnScope ["self"] ["self"] (defScope st_Terms_handing) := ⟨rfl, rfl, rfl, by decide +kernel, rfl, by decide +kernel, by decide +kernel⟩
theorem k_Terms_handing (B : Bl P w K mg base) : FOk P w K mg base 1 (pG K "Terms" "handing") F_Terms_handing := by
  obtain ⟨fd, F⟩ := B.says.def_ 8 (d := d_Terms_handing) rfl
  refine ⟨fd, ["self"], ?_, F.kp, F.bindsN fun _ _ _ _ _ _ us hl => match us, hl with | [_], _ => rfl⟩
  refine qf_okD F sc_Terms_handing fun cdv A outer s H E hr => ?_
  have tk := takes_of (X := cxOf (L2.CX P w) P w K mg base ["self"] "Terms.handing" (defScope st_Terms_handing) (d_Terms_handing.ad K) cdv A outer s H E) rfl rfl rfl rfl
  have nd := sc_Terms_handing.nd
  have hu := hr.units
  have hu5 := room65 hr
  have hpo := passes_of (X := cxOf (L2.CX P w) P w K mg base ["self"] "Terms.handing" (defScope st_Terms_handing) (d_Terms_handing.ad K) cdv A outer s H E) rfl
  show QB _ _ _ _ F_Terms_handing_b
  exact qb_one (qs_ret (q_add (q_sub (q_fld (qv 0)) (q_cb (call_min2 rfl) q_min2W (by rfl) (B.free 64) bt_min (qa_cons (q_fld (qv 0)) (qa_cons (q_fld (qv 0)) (qa_nil))))) (q_int)))
theorem sc__law_right : FnScope ["_law_terms_here", "_law_due", "_law_lesser", "_law_told", "_law_k"] ["_law_terms_here", "_law_due"] (defScope st__law_right) := ⟨rfl, rfl, rfl, by decide +kernel, rfl, by decide +kernel, by decide +kernel⟩
theorem k__law_right (B : Bl P w K mg base) : FOk P w K mg base 3 (He.ga K "_law_right") F_law_right := by
  obtain ⟨fd, F⟩ := B.says.def_ 9 (d := d__law_right) rfl
  refine ⟨fd, ["_law_terms_here", "_law_due"], ?_, F.kp, F.bindsN fun _ _ _ _ _ _ us hl => match us, hl with | [_, _], _ => rfl⟩
  refine qf_okD F sc__law_right fun cdv A outer s H E hr => ?_
  have tk := takes_of (X := cxOf (L2.CX P w) P w K mg base ["_law_terms_here", "_law_due", "_law_lesser", "_law_told", "_law_k"] "_law_right" (defScope st__law_right) (d__law_right.ad K) cdv A outer s H E) rfl rfl rfl rfl
  have nd := sc__law_right.nd
  have hu := hr.units
  have hu5 := room65 hr
  have hpo := passes_of (X := cxOf (L2.CX P w) P w K mg base ["_law_terms_here", "_law_due", "_law_lesser", "_law_told", "_law_k"] "_law_right" (defScope st__law_right) (d__law_right.ad K) cdv A outer s H E) rfl
  show QB _ _ _ _ F_law_right_b
  exact qb_cons (qs_set 2 nd (q_ix (qv 1) (q_int)))
      (qb_cons (qs_if (qt_cmp (op_ltW) q_ordW (q_ix (qv 1) (q_int)) (qv 2) (nomark _)) (qb_one (qs_set 2 nd (q_ix (qv 1) (q_int)))) (qb_nil))
      (qb_cons (qs_set 3 nd (q_lst (qa_cons (q_prp (prps_cons ((k_Terms_copies B).prp (B.says.fact 4) (B.says.fact 18)) (by decide) (prps_nil)) hr (qv 0)) (qa_cons (q_prp (prps_cons ((k_Terms_write B).prp (B.says.fact 4) (B.says.fact 17)) (by decide) (prps_nil)) hr (qv 0)) (qa_cons (q_prp (prps_cons ((k_Terms_read B).prp (B.says.fact 4) (B.says.fact 16)) (by decide) (prps_nil)) hr (qv 0)) (qa_cons (q_prp (prps_cons ((k_Terms_handing B).prp (B.says.fact 4) (B.says.fact 15)) (by decide) (prps_nil)) hr (qv 0)) (qa_nil)))))))
      (qb_cons (qs_for hpo rfl (qi_rng1 (by rfl) (B.free 19) (qa_cons (q_int) (qa_nil))) (qg_name 4 nd) (qb_one (qs_if (QW.pt (qw_or (qt_not (qt_truth (q_isi (by rfl) (B.free 20) bt_isinstance (by rfl) (B.free 10) bt_int (q_ix (qv 3) (qv 4))))) (qw_or1 (qt_truth (q_isi (by rfl) (B.free 20) bt_isinstance (by rfl) (B.free 21) bt_bool (q_ix (qv 3) (qv 4))))))) (qb_one (qs_ret (q_bl))) (qb_nil))))
      (qb_one (qs_ret (qe_cmp (op_eqW hu) q_eqW (qv 3) (q_add (q_cty call_list_of q_lstcW (by rfl) (B.free 22) bt_list (qa_cons (qv 1) (qa_nil))) (q_lst (qa_cons (q_add (q_sub (q_ix (qv 1) (q_int)) (qv 2)) (q_int)) (qa_nil)))) (nomark _)))))))
theorem sc__law_bad : FnScope ["_law_due", "_law_cell_here", "_law_great", "_law_value", "_law_bad_here"] ["_law_due", "_law_cell_here"] (defScope st__law_bad) := ⟨rfl, rfl, rfl, by decide +kernel, rfl, by decide +kernel, by decide +kernel⟩
theorem k__law_bad (B : Bl P w K mg base) : FOk P w K mg base 1 (He.ga K "_law_bad") F_law_bad := by
  obtain ⟨fd, F⟩ := B.says.def_ 10 (d := d__law_bad) rfl
  refine ⟨fd, ["_law_due", "_law_cell_here"], ?_, F.kp, F.bindsN fun _ _ _ _ _ _ us hl => match us, hl with | [_, _], _ => rfl⟩
  refine qf_okD F sc__law_bad fun cdv A outer s H E hr => ?_
  have tk := takes_of (X := cxOf (L2.CX P w) P w K mg base ["_law_due", "_law_cell_here", "_law_great", "_law_value", "_law_bad_here"] "_law_bad" (defScope st__law_bad) (d__law_bad.ad K) cdv A outer s H E) rfl rfl rfl rfl
  have nd := sc__law_bad.nd
  have hu := hr.units
  have hu5 := room65 hr
  have hpo := passes_of (X := cxOf (L2.CX P w) P w K mg base ["_law_due", "_law_cell_here", "_law_great", "_law_value", "_law_bad_here"] "_law_bad" (defScope st__law_bad) (d__law_bad.ad K) cdv A outer s H E) rfl
  show QB _ _ _ _ F_law_bad_b
  exact qb_cons (qs_set 2 nd (q_add (q_add (q_pow (q_int) (q_int)) (q_int)) (q_mod (q_cty call_int1 q_intcW (by rfl) (B.free 10) bt_int (qa_cons (q_fdiv (qv 1) (q_int)) (qa_nil))) (q_pow (q_int) (q_int)))))
      (qb_cons (qs_set 3 nd (q_ix (q_tup (qa_cons (q_int) (qa_cons (q_neg (q_int)) (qa_cons (q_neg (qv 2)) (qa_cons (qv 2) (qa_cons (q_bl) (qa_cons (q_bl) (qa_cons (q_non) (qa_cons (q_str) (qa_cons (q_tup (qa_cons (q_int) (qa_nil))) (qa_cons (q_lst (qa_cons (q_int) (qa_nil))) (qa_cons (q_add (q_ix (qv 0) (q_int)) (q_int)) (qa_nil))))))))))))) (q_mod (q_cty call_int1 q_intcW (by rfl) (B.free 10) bt_int (qa_cons (q_fdiv (qv 1) (q_int)) (qa_nil))) (q_int))))
      (qb_cons (qs_set 4 nd (q_cty call_list_of q_lstcW (by rfl) (B.free 22) bt_list (qa_cons (qv 0) (qa_nil))))
      (qb_cons (qs_put (qv 4) (q_mod (q_cty call_int1 q_intcW (by rfl) (B.free 10) bt_int (qa_cons (qv 1) (qa_nil))) (q_int)) (qv 3))
      (qb_cons (qs_if (QW.pt (qw_and (qt_cmp (op_eqW hu) q_eqW (qv 3) (q_add (q_ix (qv 0) (q_int)) (q_int)) (nomark _)) (qw_and1 (qt_cmp (op_eqW hu) q_eqW (q_mod (q_cty call_int1 q_intcW (by rfl) (B.free 10) bt_int (qa_cons (qv 1) (qa_nil))) (q_int)) (q_int) (nomark _))))) (qb_one (qs_set 4 nd (q_lst (qa_cons (q_ix (qv 0) (q_int)) (qa_cons (q_add (q_ix (qv 0) (q_int)) (q_int)) (qa_cons (q_ix (qv 0) (q_int)) (qa_nil))))))) (qb_nil))
      (qb_one (qs_ret (qv 4)))))))
theorem sc__law_too_few : FnScope ["_law_due", "_law_cell_here", "_law_write"] ["_law_due", "_law_cell_here"] (defScope st__law_too_few) := ⟨rfl, rfl, rfl, by decide +kernel, rfl, by decide +kernel, by decide +kernel⟩
theorem k__law_too_few (B : Bl P w K mg base) : FOk P w K mg base 1 (He.ga K "_law_too_few") F_law_too_few := by
  obtain ⟨fd, F⟩ := B.says.def_ 11 (d := d__law_too_few) rfl
  refine ⟨fd, ["_law_due", "_law_cell_here"], ?_, F.kp, F.bindsN fun _ _ _ _ _ _ us hl => match us, hl with | [_, _], _ => rfl⟩
  refine qf_okD F sc__law_too_few fun cdv A outer s H E hr => ?_
  have tk := takes_of (X := cxOf (L2.CX P w) P w K mg base ["_law_due", "_law_cell_here", "_law_write"] "_law_too_few" (defScope st__law_too_few) (d__law_too_few.ad K) cdv A outer s H E) rfl rfl rfl rfl
  have nd := sc__law_too_few.nd
  have hu := hr.units
  have hu5 := room65 hr
  have hpo := passes_of (X := cxOf (L2.CX P w) P w K mg base ["_law_due", "_law_cell_here", "_law_write"] "_law_too_few" (defScope st__law_too_few) (d__law_too_few.ad K) cdv A outer s H E) rfl
  show QB _ _ _ _ F_law_too_few_b
  exact qb_cons (qs_set 2 nd (q_add (q_int) (q_mod (q_cty call_int1 q_intcW (by rfl) (B.free 10) bt_int (qa_cons (qv 1) (qa_nil))) (q_ix (qv 0) (q_int)))))
      (qb_one (qs_ret (q_tup (qa_cons (q_ix (qv 0) (q_int)) (qa_cons (qv 2) (qa_cons (q_sub (q_sub (q_ix (qv 0) (q_int)) (qv 2)) (q_mod (q_cty call_int1 q_intcW (by rfl) (B.free 10) bt_int (qa_cons (q_fdiv (qv 1) (q_int)) (qa_nil))) (q_int))) (qa_nil)))))))
theorem sc_law : FnScope ["_law_script", "_law_due", "_law_other", "_law_terms_here", "_law_bad_here", "_law_few"] ["_law_script"] (defScope st_law) := ⟨rfl, rfl, rfl, by decide +kernel, rfl, by decide +kernel, by decide +kernel⟩
theorem f_law {fd : FuncData} (B : Bl P w K mg base) (F : FxD K d_law fd) : FnOk P w K mg base (L2.CX P w) 5 (He.ga K "law") fd ["_law_script"] (spM K (He.ga K) F_law) := by
  refine qf_okD F sc_law fun cdv A outer s H E hr => ?_
  have tk := takes_of (X := cxOf (L2.CX P w) P w K mg base ["_law_script", "_law_due", "_law_other", "_law_terms_here", "_law_bad_here", "_law_few"] "law" (defScope st_law) (d_law.ad K) cdv A outer s H E) rfl rfl rfl rfl
  have nd := sc_law.nd
  have hu := hr.units
  have hu5 := room65 hr
  have hpo := passes_of (X := cxOf (L2.CX P w) P w K mg base ["_law_script", "_law_due", "_law_other", "_law_terms_here", "_law_bad_here", "_law_few"] "law" (defScope st_law) (d_law.ad K) cdv A outer s H E) rfl
  show QB _ _ _ _ F_law_b
  exact qb_cons (qs_set 1 nd (q_cal ((k__law_terms B).cal (B.glo 0)) tk hr (by decide) (by rfl) (qa_cons (q_cb call_abs q_absW (by rfl) (B.free 2) bt_abs (qa_cons (q_cal ((k__law_cell B).cal (B.glo 1)) tk hr (by decide) (by rfl) (qa_cons (qv 0) (qa_cons (q_int) (qa_nil)))) (qa_nil))) (qa_cons (q_cb call_abs q_absW (by rfl) (B.free 2) bt_abs (qa_cons (q_cal ((k__law_cell B).cal (B.glo 1)) tk hr (by decide) (by rfl) (qa_cons (qv 0) (qa_cons (q_int) (qa_nil)))) (qa_nil))) (qa_nil)))))
      (qb_cons (qs_set 2 nd (q_cal ((k__law_terms B).cal (B.glo 0)) tk hr (by decide) (by rfl) (qa_cons (q_cb call_abs q_absW (by rfl) (B.free 2) bt_abs (qa_cons (q_cal ((k__law_cell B).cal (B.glo 1)) tk hr (by decide) (by rfl) (qa_cons (qv 0) (qa_cons (q_int) (qa_nil)))) (qa_nil))) (qa_cons (q_cb call_abs q_absW (by rfl) (B.free 2) bt_abs (qa_cons (q_cal ((k__law_cell B).cal (B.glo 1)) tk hr (by decide) (by rfl) (qa_cons (qv 0) (qa_cons (q_int) (qa_nil)))) (qa_nil))) (qa_nil)))))
      (qb_cons (qs_set 3 nd (q_make ((k_Terms___init__ B).mkr (B.glo 3) (B.says.fact 4) (B.says.fact 5)) tk hr (by decide) (by rfl) (qa_cons (q_ix (qv 1) (q_int)) (qa_cons (q_ix (qv 1) (q_int)) (qa_cons (q_ix (qv 1) (q_int)) (qa_nil))))))
      (qb_cons (qs_if (qt_not (qt_truth (q_cal ((k__law_right B).cal (B.glo 6)) tk hr (by decide) (by rfl) (qa_cons (qv 3) (qa_cons (qv 1) (qa_nil)))))) (qb_one (qs_ret (q_bl))) (qb_nil))
      (qb_cons (qs_set 4 nd (q_cal ((k__law_bad B).cal (B.glo 7)) tk hr (by decide) (by rfl) (qa_cons (qv 1) (qa_cons (q_cb call_abs q_absW (by rfl) (B.free 2) bt_abs (qa_cons (q_cal ((k__law_cell B).cal (B.glo 1)) tk hr (by decide) (by rfl) (qa_cons (qv 0) (qa_cons (q_int) (qa_nil)))) (qa_nil))) (qa_nil)))))
      (qb_cons (qs_set 5 nd (q_cal ((k__law_too_few B).cal (B.glo 8)) tk hr (by decide) (by rfl) (qa_cons (qv 1) (qa_cons (q_cb call_abs q_absW (by rfl) (B.free 2) bt_abs (qa_cons (q_cal ((k__law_cell B).cal (B.glo 1)) tk hr (by decide) (by rfl) (qa_cons (qv 0) (qa_cons (q_int) (qa_nil)))) (qa_nil))) (qa_nil)))))
      (qb_cons (qs_if (QW.pt (qw_or (qt_not (qt_truth (q_cal ((k__law_refused B).cal (B.glo 9)) tk hr (by decide) (by rfl) (qa_cons (q_ix (qv 4) (q_int)) (qa_cons (q_ix (qv 4) (q_int)) (qa_cons (q_ix (qv 4) (q_int)) (qa_nil))))))) (qw_or1 (qt_not (qt_truth (q_cal ((k__law_refused B).cal (B.glo 9)) tk hr (by decide) (by rfl) (qa_cons (q_ix (qv 5) (q_int)) (qa_cons (q_ix (qv 5) (q_int)) (qa_cons (q_ix (qv 5) (q_int)) (qa_nil)))))))))) (qb_one (qs_ret (q_bl))) (qb_nil))
      (qb_cons (qs_if (qt_not (qt_truth (q_cal ((k__law_refused B).cal (B.glo 9)) tk hr (by decide) (by rfl) (qa_cons (q_ix (qv 5) (q_int)) (qa_cons (q_ix (qv 5) (q_int)) (qa_cons (q_ix (qv 5) (q_int)) (qa_nil))))))) (qb_one (qs_ret (q_bl))) (qb_nil))
      (qb_one (qs_ret (qe_and (q_cal ((k__law_right B).cal (B.glo 6)) tk hr (by decide) (by rfl) (qa_cons (q_make ((k_Terms___init__ B).mkr (B.glo 3) (B.says.fact 4) (B.says.fact 5)) tk hr (by decide) (by rfl) (qa_cons (q_ix (qv 2) (q_int)) (qa_cons (q_ix (qv 2) (q_int)) (qa_cons (q_ix (qv 2) (q_int)) (qa_nil))))) (qa_cons (qv 2) (qa_nil)))) (qe_one (q_cal ((k__law_right B).cal (B.glo 6)) tk hr (by decide) (by rfl) (qa_cons (qv 3) (qa_cons (qv 1) (qa_nil)))))))))))))))
end
theorem law_fn {P : Program} {w : World} {K : PySem.W.Frag} {mg : Str → Option Value} {fa : Addr} {h : Heap} (Q : SaysX fal fnl K ∧ ∃ h2 : Heap, h2 = h ∧ K.In h2 ∧ h2.Ns mainGlobals mg) (hmg : mg ("law" : Str) = some (.ref fa)) :
    ∃ (K : PySem.W.Frag) (fd : FuncData), K.In h ∧ (∀ (s : Shared) (u : Value), BindsTo s fd ⟨[u], []⟩ [("_law_script", u)]) ∧ ∀ base : Heap, FnOk P w K mg base (L2.CX P w) 5 fa fd ["_law_script"] (spM K (He.ga K) F_law) := by
  obtain ⟨c, h2, rfl, KX, G⟩ := Q
  obtain ⟨fd, F⟩ := c.def_ 12 (d := d_law) rfl
  have e := hmg.symm.trans (He.glo_ok KX G (c.fact 65 (f := .fa (.glo "law")) rfl))
  cases e
  refine ⟨K, fd, KX, fun s v => FunD.bindsA (ps := ["_law_script"]) F (fun _ _ _ _ _ _ us hl => match us, hl with | [_], _ => rfl) s [v] rfl, fun base => ?_⟩
  have B : Bl P w K mg base := ⟨c, h2, KX, G⟩
  exact f_law B F
abbrev Rr : PySem.W.OpenRow := PySem.W.OpenLaw.row PySem.Challenge.rw_ringheld_k28_terms
abbrev hk : PySem.W.Hook := hookX 7 fal fnl
def ob (s : PySem.W.SharedT) : AlX := obsXG 7 fal fnl (HandSHeadRun.getT s)
theorem ob_eq (s : PySem.W.SharedT) : ob s = hk.obs s.abs := obsXG_eq (HandSHeadRun.getT_eq s)
def looseN : List PySem.Str := ["is_integer", "_law_cell", "_law_refused", "_law_terms", "_law_right", "_law_bad", "_law_too_few", "RingError", "BadValue", "Busy", "Unknown", "HouseDown", "Terms", "GREATEST"]
theorem run (w : World) : HandSHeadRun.RunEq Rr (PySem.W.view Rr.prog [18]) hk ob 4000 looseN w := by
  intro os
  kernel_rfl
end Y


open PySem PySem.W PySem.Calls PyProof.Rows in
set_option maxHeartbeats 0 in
theorem PySem.Challenge.cw_ringheld_k28_terms_holds : PySem.Challenge.rw_ringheld_k28_terms.Holds := by
  w_on; o_law
  refine HandSHeadRun.head_any (r := OpenLaw.row PySem.Challenge.rw_ringheld_k28_terms) (q := view (OpenLaw.row PySem.Challenge.rw_ringheld_k28_terms).prog [18]) (H := Y.hk) (ob := Y.ob) (M := 4000) (loose := Y.looseN) (d := HandSHeadRun.topDef (OpenLaw.row PySem.Challenge.rw_ringheld_k28_terms).prog 18) (kwd := []) Y.ob_eq
    (by kernel_rfl) (fun s => by kernel_rfl) Y.run (by kernel_rfl) (by kernel_rfl) (by kernel_rfl) (by rfl) (by first | assumption | decide +kernel) (by decide +kernel) ⟨rfl, rfl, rfl, rfl, rfl, by decide +kernel⟩ ?hw ?hc
  case hw => w_witness2
  case hc =>
    refine Z.law_end (l := PySem.Challenge.rw_ringheld_k28_terms) (n := 63) (k := 5) (x := "_law_script") (g := Y.F_law) rfl (by decide) (by kernel_rfl) ⟨rfl, by decide, by decide⟩ ?F Y.law_true
    intro w mg fa h Yy G hmg0
    obtain ⟨K, KX, c⟩ := Yy
    have hmg : mg ("law" : PySem.Str) = some (.ref fa) := by
      have e : (HandSHeadRun.topDef (OpenLaw.row PySem.Challenge.rw_ringheld_k28_terms).prog 18).name = ("law" : PySem.Str) := by kernel_rfl
      rw [← e]
      exact hmg0
    exact Y.law_fn ⟨c, h, rfl, KX, G⟩ hmg
