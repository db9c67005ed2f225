import PyProof.Rows.All
import Wide.All
import OpenK.AllK
import Wide.FinOn
import HandS.ForMost
import HandS.ForExc
import HandS.Lambda
import HandS.Wide
import HandS.TupAny
import HandS.IsInst
import HandS.TupLen
import PyProof.StrOps2
import KE.KStateDown
import HandS.More
import HandS.Defaults
import HandS.EndBits
import HandS.Head0
import HandS.Head1
import HandS.Head2
import HandS.HeadHook1
import HandS.HeadHook2
import HandS.HeadHook3
import HandS.HeadHook4
import HandS.HeadWalk
import HandS.EndTab
import HandS.Property
import HandS.ClsMeth
import HandS.Comp
import HandS.Deep
import HandS.ExcIs
import HandS.SortInts
import HandS.SortRule
import PyProof.Rows.MinMaxN
import PyProof.WalkInts
import HandS.TryOnly
import HandS.SetBool
import HandS.DictComp
import HandS.SetFor
import HandS.Strs
import HandS.Text
import HandS.Replace
import HandS.Conv
import HandS.IterVal
import HandS.OwnIter
import KE.KOwnIter
import HandS.WordsDict
import HandS.Zip
import HandS.Style
import PyProof.NeKinds
import HandS.TupLe
import HandS.DictTup
import HandS.ListItems
import HandS.RevTup
import KE.SortKeyHeap
import HandS.SortKw
import PyProof.AutoSeq1
import PySem.Challenge.RW_ringheld_k51_network_keeps_messages
set_option Elab.async false
set_option linter.all false
set_option maxRecDepth 100000
set_option maxHeartbeats 4000000
namespace Z
open PySem L2

inductive W where
  | non | bl (b : Bool) | int (i : Int) | str (x : Str) | tup (xs : List W) | frz (xs : List W) | kt (xs : List W) | ref (n : Nat) | exn (a : Nat) (c : Str)
inductive Ob where
  | lst (t : Nat) (xs : List W)
  | dct (t : Nat) (k : Bool) (kvs : List (W × W))
  | ins (c : Str) (fs : List (Str × W))
abbrev Hq := List Ob
inductive Res (α : Type) where
  | ok (a : α) (h : Hq) | exc (c : Str) (h : Hq) | stuck
def Res.bind {α β : Type} (r : Res α) (f : α → Hq → Res β) : Res β :=
  match r with
  | .ok a h => f a h
  | .exc c h => .exc c h
  | .stuck => .stuck
abbrev Ev := List (Option W)
inductive Fl where
  | nx | bk | ct | rt (w : W)
inductive RS where
  | ok (f : Fl) (ρ : Ev) (h : Hq) | exc (c : Str) (ρ : Ev) (h : Hq) | stuck
abbrev ME := Ev → Hq → Res W
abbrev MA := Ev → Hq → Res (List W)
abbrev MT := Ev → Hq → Res Bool
abbrev MS := Ev → Hq → RS
abbrev MF := List W → Hq → Res W
def SqF (K : PySem.W.Frag) (H : Hp) (a : Addr) (xs : List V) : Prop :=
  (∃ o, H a = some (.frz o (.lst xs))) ∨
    ∃ (o : Obj) (its : Array Value) (n : Nat), K.lookup a = some o ∧ o.cls = .type "list" ∧ o.dict = none ∧ o.data = .seq its n ∧ its.size ≤ sizeLine ∧ Vals xs its.toList
theorem SqF.sqL {K : PySem.W.Frag} {H : Hp} {a : Addr} {xs : List V} (h : SqF K H a xs) : SqL K H a xs := by
  rcases h with h | h
  · exact .inl (.inr h)
  · exact .inr h
section
variable (K : PySem.W.Frag) (H : Hp) (R : List Addr)
mutual
inductive RV : W → V → Prop
  | non : RV .non .non
  | bl (b : Bool) : RV (.bl b) (.bl b)
  | int (i : Int) : RV (.int i) (.int i)
  | str (x : Str) : RV (.str x) (.str x)
  | tup {xs : List W} {a : Addr} {vs : List V} : H a = some (.tup vs) → RVs xs vs → RV (.tup xs) (.ref a)
  | frz {xs : List W} {a : Addr} {vs : List V} : SqF K H a vs → RVs xs vs → RV (.frz xs) (.ref a)
  | kt {xs : List W} {a : Addr} {vs : List V} : SqT K H a vs → RVs xs vs → RV (.kt xs) (.ref a)
  | ref {n : Nat} {a : Addr} : R[n]? = some a → RV (.ref n) (.ref a)
  | exn (a : Nat) (c : Str) : RV (.exn a c) (.ref a)
inductive RVs : List W → List V → Prop
  | nil : RVs [] []
  | cons {x : W} {v : V} {xs : List W} {vs : List V} : RV x v → RVs xs vs → RVs (x :: xs) (v :: vs)
end
end

def qL : Str := (("live" : Str) ++ ".<locals>.") ++ "<lambda>"
def isTc (o : Obj) : Option Addr := match o.data with
  | .fields vs => (match (vs[1]? : Option Value), (vs[11]? : Option Value) with
    | some (.str q _), some (.ref P) => if q = "live" then some P else none
    | _, _ => none)
  | _ => none
def tabA (K : PySem.W.Frag) : List Addr := K.filterMap fun p => isTc p.2
def TabsK (K : PySem.W.Frag) (H : Hp) : Prop := ∀ P ∈ tabA K, LamX.TabS H P qL
structure NoT (u : HO) : Prop where
  t : ∀ ps, u ≠ .tbl ps
  c : ∀ c q, u ≠ LamX.CodeO c q
theorem TabsK.mono {K : PySem.W.Frag} {H H' : Hp} (t : TabsK K H) (k : ∀ b o, H b = some o → H' b = some o) : TabsK K H' := fun P hP => (t P hP).ext k
theorem TabsK.but {K : PySem.W.Frag} {H H' : Hp} {D : Addr} (t : TabsK K H) (hD : ∀ u, H D = some u → NoT u) (k : ∀ b o, b ≠ D → H b = some o → H' b = some o) : TabsK K H' := fun P hP => by
  obtain ⟨ps, h1, h2, h3⟩ := t P hP
  refine ⟨ps, k _ _ (fun z => by subst z; exact (hD _ h1).t _ rfl) h1, h2, fun pos cv hc => ?_⟩
  obtain ⟨c, e1, e2⟩ := h3 pos cv hc
  exact ⟨c, e1, k _ _ (fun z => by subst z; exact (hD _ e2).c _ _ rfl) e2⟩
theorem TabsK.keep {K : PySem.W.Frag} {H H' : Hp} (t : TabsK K H) (k : ∀ b o, H b = some o → ¬ NoT o → H' b = some o) : TabsK K H' := fun P hP => by
  obtain ⟨ps, h1, h2, h3⟩ := t P hP
  refine ⟨ps, k _ _ h1 (fun z => z.t _ rfl), h2, fun pos cv hc => ?_⟩
  obtain ⟨c, e1, e2⟩ := h3 pos cv hc
  exact ⟨c, e1, k _ _ e2 (fun z => z.c _ _ rfl)⟩
theorem noT_lst {vs : List V} : NoT (.lst vs) := ⟨fun _ z => (by cases z), fun _ _ z => (by unfold LamX.CodeO at z; cases z)⟩
theorem noT_dK {vs : List (Key × V)} : NoT (.dK vs) := ⟨fun _ z => (by cases z), fun _ _ z => (by unfold LamX.CodeO at z; cases z)⟩
theorem noT_dT {vs : List (List Key × V)} : NoT (.dT vs) := ⟨fun _ z => (by cases z), fun _ _ z => (by unfold LamX.CodeO at z; cases z)⟩
theorem noT_frz {o : Obj} {u : HO} : NoT (.frz o u) := ⟨fun _ z => (by cases z), fun _ _ z => (by unfold LamX.CodeO at z; cases z)⟩
theorem noT_ins {c : Addr} {d : Addr} {vs : List (Str × V)} : NoT (.ins c d vs) := ⟨fun _ z => (by cases z), fun _ _ z => (by unfold LamX.CodeO at z; cases z)⟩
def Ext (K : PySem.W.Frag) (R : List Addr) (H : Hp) (R' : List Addr) (H' : Hp) : Prop :=
  (∃ t, R' = R ++ t ∧ ∀ a ∈ t, ∀ u, H a = some u → ∃ ps, u = .tbl ps) ∧ (∀ a xs, H a = some (.tup xs) → H' a = some (.tup xs)) ∧ (∀ a ob u, H a = some (.frz ob u) → H' a = some (.frz ob u)) ∧ ∀ a o, H a = some o → (∀ ps, o ≠ .tbl ps) → a ∉ R → H' a = some o
theorem SqF.of_frz {K : PySem.W.Frag} {H H' : Hp} {a : Addr} {xs : List V} (k : ∀ a ob u, H a = some (.frz ob u) → H' a = some (.frz ob u)) (h : SqF K H a xs) : SqF K H' a xs := h.imp (fun ⟨o, e⟩ => ⟨o, k a o _ e⟩) id
theorem sqT_ext {K : PySem.W.Frag} {H H' : Hp} {a : Addr} {xs : List V} (k1 : ∀ a xs, H a = some (.tup xs) → H' a = some (.tup xs)) (k : ∀ a ob u, H a = some (.frz ob u) → H' a = some (.frz ob u)) (h : SqT K H a xs) : SqT K H' a xs :=
  h.imp (fun h => h.imp (fun h => k1 _ _ h) fun ⟨o, e⟩ => ⟨o, k _ _ _ e⟩) id
theorem Ext.refl {K R H} : Ext K R H R H := ⟨⟨[], by simp, by simp⟩, fun _ _ h => h, fun _ _ _ h => h, fun _ _ h _ _ => h⟩
theorem Ext.trans {K R H R1 H1 R2 H2} (a : Ext K R H R1 H1) (b : Ext K R1 H1 R2 H2) (nd : R2.Nodup) : Ext K R H R2 H2 := by
  obtain ⟨⟨t1, e1, f1⟩, s1, g1, k1⟩ := a
  obtain ⟨⟨t2, e2, f2⟩, s2, g2, k2⟩ := b
  have nin : ∀ c, c ∈ t2 → c ∉ R1 := fun c hc hr => by
    rw [e2, List.nodup_append] at nd
    exact nd.2.2 c hr c hc rfl
  refine ⟨⟨t1 ++ t2, by rw [e2, e1, List.append_assoc], fun c hc => ?_⟩, fun c xs h => s2 c xs (s1 c xs h), fun c ob xs h => g2 c ob xs (g1 c ob xs h), fun c o h nt hr => ?_⟩
  · rcases List.mem_append.mp hc with hc | hc
    · exact f1 c hc
    · intro o q
      by_cases tb : ∃ ps, o = .tbl ps
      · exact tb
      · have : c ∉ R := fun z => nin c hc (by rw [e1]; exact List.mem_append_left _ z)
        exact f2 c hc o (k1 c o q (fun ps z => tb ⟨ps, z⟩) this)
  · have h1 := k1 c o h nt hr
    refine k2 c o h1 nt fun z => ?_
    rw [e1] at z
    rcases List.mem_append.mp z with z | z
    · exact hr z
    · obtain ⟨ps, e⟩ := f1 c z o h
      exact nt ps e
theorem Ext.at_ {K R H R' H'} {n : Nat} {a : Addr} (e : Ext K R H R' H') (h : R[n]? = some a) : R'[n]? = some a := by
  obtain ⟨⟨t, rfl, _⟩, _⟩ := e
  rw [List.getElem?_append_left (List.getElem?_eq_some_iff.mp h).1]; exact h
mutual
theorem RV.ext {K R H R' H'} (e : Ext K R H R' H') : ∀ (w : W) (v : V), RV K H R w v → RV K H' R' w v
  | .non, _, h => by cases h; exact .non
  | .bl _, _, h => by cases h; exact .bl _
  | .int _, _, h => by cases h; exact .int _
  | .str _, _, h => by cases h; exact .str _
  | .tup xs, _, h => by
    cases h with
    | tup s r => exact .tup (e.2.1 _ _ s) (RVs.ext e xs _ r)
  | .frz xs, _, h => by
    cases h with
    | frz s r => exact .frz (s.of_frz e.2.2.1) (RVs.ext e xs _ r)
  | .kt xs, _, h => by
    cases h with
    | kt s r => exact .kt (sqT_ext e.2.1 e.2.2.1 s) (RVs.ext e xs _ r)
  | .ref _, _, h => by
    cases h with
    | ref q => exact .ref (e.at_ q)
  | .exn _ _, _, h => by cases h; exact .exn _ _
theorem RVs.ext {K R H R' H'} (e : Ext K R H R' H') : ∀ (ws : List W) (vs : List V), RVs K H R ws vs → RVs K H' R' ws vs
  | [], _, h => by cases h; exact .nil
  | w :: ws, _, h => by
    cases h with
    | cons a b => exact .cons (RV.ext e w _ a) (RVs.ext e ws _ b)
end
theorem RVs.length {K H R} : ∀ {ws : List W} {vs : List V}, RVs K H R ws vs → ws.length = vs.length
  | [], _, h => by cases h; rfl
  | w :: ws, _, h => by
    cases h with
    | cons a b => simp [RVs.length b]
theorem RVs.get {K H R} : ∀ {ws : List W} {vs : List V} {i : Nat} {w : W}, RVs K H R ws vs → ws[i]? = some w → ∃ v, vs[i]? = some v ∧ RV K H R w v
  | [], _, _, _, _, e => by simp at e
  | w :: ws, _, i, x, h, e => by
    cases h with
    | cons a b =>
      cases i with
      | zero => simp at e; subst e; exact ⟨_, rfl, a⟩
      | succ i => exact RVs.get (i := i) b e
theorem RVs.append {K H R} : ∀ {ws ws' : List W} {vs vs' : List V}, RVs K H R ws vs → RVs K H R ws' vs' → RVs K H R (ws ++ ws') (vs ++ vs')
  | [], _, _, _, h, h' => by cases h; exact h'
  | w :: ws, _, _, _, h, h' => by
    cases h with
    | cons a b => exact .cons a (RVs.append b h')
theorem RVs.take {K H R} : ∀ {ws : List W} {vs : List V} (n : Nat), RVs K H R ws vs → RVs K H R (ws.take n) (vs.take n)
  | _, _, 0, _ => by rw [List.take_zero, List.take_zero]; exact .nil
  | [], _, n + 1, h => by cases h; exact .nil
  | w :: ws, _, n + 1, h => by
    cases h with
    | cons a b => simpa using .cons a (RVs.take n b)
theorem RVs.drop {K H R} : ∀ {ws : List W} {vs : List V} (n : Nat), RVs K H R ws vs → RVs K H R (ws.drop n) (vs.drop n)
  | _, _, 0, h => by simpa using h
  | [], _, n + 1, h => by cases h; exact .nil
  | w :: ws, _, n + 1, h => by
    cases h with
    | cons a b => simpa using RVs.drop n b
theorem RVs.set {K H R} {x : W} {v : V} (hx : RV K H R x v) : ∀ {ws : List W} {vs : List V} (n : Nat), RVs K H R ws vs → RVs K H R (ws.set n x) (vs.set n v)
  | [], _, n, h => by cases h; exact .nil
  | w :: ws, _, 0, h => by
    cases h with
    | cons a b => simpa using .cons hx b
  | w :: ws, _, n + 1, h => by
    cases h with
    | cons a b => simpa using .cons a (RVs.set hx n b)
inductive RK : W → Key → Prop
  | int (i : Int) : RK (.int i) (.inl i)
  | str (x : Str) : RK (.str x) (.inr x)
inductive RKs : List W → List Key → Prop
  | nil : RKs [] []
  | cons {x k xs ks} : RK x k → RKs xs ks → RKs (x :: xs) (k :: ks)
def isiTs : List String := ["int", "bool", "str", "list", "tuple", "dict"]
def fieldsOf (c : Str) : List Str :=
  if c = "Book" then ["_events"] else
  if c = "Client" then ["number", "terms", "_ticket", "_known", "_kind", "_key", "_told", "_dot", "_view", "_owners", "_counted"] else
  if c = "Clock" then ["_rows"] else
  if c = "Hall" then ["terms", "notary", "network", "book", "_houses", "_clients", "_down"] else
  if c = "Handover" then ["owner", "target", "_old", "_new", "_terms", "_heard", "_taken"] else
  if c = "House" then ["number", "terms", "floor", "_keeps", "_opened", "_sealed", "_handover"] else
  if c = "Keep" then ["_entries", "_clock"] else
  if c = "Network" then ["sent", "_bag"] else
  if c = "Notary" then ["terms", "_rings"] else
  if c = "Terms" then ["_copies", "_write", "_read"] else
  if c = "Ring" then ["_points", "_copies", "_owners"] else
  []
structure CI (K : PySem.W.Frag) (c : Str) (C : Addr) : Prop where
  cl : Cls K C
  ha : PySem.W.findIn K (.ref C) "__class__" = some (some (.builtin "object.__class__"))
  hn : PySem.W.specialIn K (.builtin "object.__class__") "__get__" = some (some (.builtin "getset_descriptor.__get__"))
  htk : PySem.W.takesIn K (.builtin "object.__class__") = some true
  hm : PySem.W.mroIn K C (.type "object") = some true
  no : ∀ T ∈ isiTs, PySem.W.kitOne K (.ref C) (.type T) = some false
  na : ∀ f ∈ fieldsOf c, NoAttr K C f
def Lk (H : Hp) (t : Nat) (a : Addr) (u : HO) : Prop := match t with
  | 0 => H a = some u
  | _ + 1 => ∃ o, H a = some (.frz o u)
theorem Lk.rd {H : Hp} {t : Nat} {a : Addr} {u : HO} (h : Lk H t a u) : L2.Rd H a u := by
  cases t with
  | zero => exact .inl h
  | succ t => exact .inr h
theorem Lk.map {H H' : Hp} {t : Nat} {a : Addr} {u : HO} (h : Lk H t a u) (k : ∀ u, H a = Option.some u → H' a = Option.some u) : Lk H' t a u := by
  cases t with
  | zero => exact k _ h
  | succ t => obtain ⟨o, h⟩ := h; exact ⟨o, k _ h⟩
theorem Lk.some {H : Hp} {t : Nat} {a : Addr} {u : HO} (h : Lk H t a u) : ∃ u, H a = Option.some u := by
  cases t with
  | zero => exact ⟨_, h⟩
  | succ t => obtain ⟨o, h⟩ := h; exact ⟨_, h⟩
section
variable (K : PySem.W.Frag) (H : Hp) (R : List Addr)
inductive RD : List (W × W) → List (Key × V) → Prop
  | nil : RD [] []
  | cons {k x kvs l v vs} : RK k l → RV K H R x v → RD kvs vs → RD ((k, x) :: kvs) ((l, v) :: vs)
inductive RT : List (W × W) → List (List Key × V) → Prop
  | nil : RT [] []
  | cons {ks x kvs l v vs} : RKs ks l → RV K H R x v → RT kvs vs → RT ((.tup ks, x) :: kvs) ((l, v) :: vs)
inductive RF : List (Str × W) → List (Str × V) → Prop
  | nil : RF [] []
  | cons {f x fs v vs} : RV K H R x v → RF fs vs → RF ((f, x) :: fs) ((f, v) :: vs)
inductive RO (cm : Str → Addr) : Ob → Addr → Prop
  | lst {t xs a vs} : H a = some (.lst vs) → RVs K H R xs vs → RO cm (.lst t xs) a
  | dK {t kvs a vs} : Lk H t a (.dK vs) → RD K H R kvs vs → RO cm (.dct t false kvs) a
  | dT {t kvs a vs} : Lk H t a (.dT vs) → RT K H R kvs vs → RO cm (.dct t true kvs) a
  | ins {c fs a dx vs} : H a = some (.ins (cm c) dx vs) → RF K H R fs vs → CI K c (cm c) → RO cm (.ins c fs) a
end
theorem RD.ext {K R H R' H'} (e : Ext K R H R' H') : ∀ {l r}, RD K H R l r → RD K H' R' l r := by
  intro l r h
  induction h with
  | nil => exact .nil
  | cons a b _ ih => exact .cons a (RV.ext e _ _ b) ih
theorem RT.ext {K R H R' H'} (e : Ext K R H R' H') : ∀ {l r}, RT K H R l r → RT K H' R' l r := by
  intro l r h
  induction h with
  | nil => exact .nil
  | cons a b _ ih => exact .cons a (RV.ext e _ _ b) ih
theorem RF.ext {K R H R' H'} (e : Ext K R H R' H') : ∀ {l r}, RF K H R l r → RF K H' R' l r := by
  intro l r h
  induction h with
  | nil => exact .nil
  | cons b _ ih => exact .cons (RV.ext e _ _ b) ih
structure RH (K : PySem.W.Frag) (cm : Str → Addr) (h : Hq) (R : List Addr) (H : Hp) : Prop where
  len : h.length = R.length
  nd : R.Nodup
  ob : ∀ (n : Nat) (o : Ob), h[n]? = some o → ∃ a, R[n]? = some a ∧ RO K H R cm o a
  tab : TabsK K H
def REnv (K : PySem.W.Frag) (H : Hp) (R : List Addr) (ρ : Ev) (σ : St) : Prop :=
  ρ.length = σ.length ∧ ∀ (i : Nat) (w : W), ρ[i]? = some (some w) → ∃ v, σ[i]? = some (some v) ∧ RV K H R w v
theorem REnv.ext {K R H R' H' ρ σ} (e : Ext K R H R' H') (h : REnv K H R ρ σ) : REnv K H' R' ρ σ :=
  ⟨h.1, fun i w q => let ⟨v, a, b⟩ := h.2 i w q; ⟨v, a, RV.ext e _ _ b⟩⟩
theorem REnv.set {K R H ρ σ w v} (h : REnv K H R ρ σ) (i : Nat) (r : RV K H R w v) : REnv K H R (ρ.set i (some w)) (σ.set i (some v)) := by
  refine ⟨by simp [h.1], fun j x q => ?_⟩
  by_cases e : i = j
  · subst e
    have hl : i < ρ.length := by
      have := (List.getElem?_eq_some_iff.mp q).1; simpa using this
    rw [List.getElem?_set_self hl] at q
    cases q
    exact ⟨v, List.getElem?_set_self (by rw [← h.1]; exact hl), r⟩
  · rw [List.getElem?_set_ne e] at q
    obtain ⟨v', a, b⟩ := h.2 j x q
    exact ⟨v', by rw [List.getElem?_set_ne e]; exact a, b⟩
def wipeW (ρ : Ev) : List Nat → Ev
  | [] => ρ
  | v :: vs => (wipeW ρ vs).set v none
theorem REnv.unset {K R H ρ σ} (h : REnv K H R ρ σ) (i : Nat) : REnv K H R (ρ.set i none) (σ.set i none) := by
  refine ⟨by simp [h.1], fun j x q => ?_⟩
  by_cases e : i = j
  · subst e
    have hl : i < ρ.length := by
      have := (List.getElem?_eq_some_iff.mp q).1; simpa using this
    rw [List.getElem?_set_self hl] at q
    cases q
  · rw [List.getElem?_set_ne e] at q
    obtain ⟨v', a, b⟩ := h.2 j x q
    exact ⟨v', by rw [List.getElem?_set_ne e]; exact a, b⟩
theorem REnv.wipe {K R H ρ σ} (h : REnv K H R ρ σ) : ∀ vs, REnv K H R (wipeW ρ vs) (wipe σ vs)
  | [] => h
  | v :: vs => (REnv.wipe h vs).unset v
theorem Ext.new {K : PySem.W.Frag} {R : List Addr} {H : Hp} {p : Addr} {o : HO} (hp : H p = none) : Ext K R H R (upd H p o) :=
  ⟨⟨[], by simp, by simp⟩, fun _ _ h => by rw [upd_ne (ne_of_none h hp)]; exact h, fun _ _ _ h => by rw [upd_ne (ne_of_none h hp)]; exact h, fun a u h _ _ => by rw [upd_ne (ne_of_none h hp)]; exact h⟩
theorem Ext.newR {K : PySem.W.Frag} {R : List Addr} {H : Hp} {p : Addr} {o : HO} (hp : H p = none) : Ext K R H (R ++ [p]) (upd H p o) :=
  ⟨⟨[p], by simp, fun a ha u h => by simp at ha; subst ha; rw [hp] at h; cases h⟩, fun _ _ h => by rw [upd_ne (ne_of_none h hp)]; exact h, fun _ _ _ h => by rw [upd_ne (ne_of_none h hp)]; exact h, fun a u h _ _ => by rw [upd_ne (ne_of_none h hp)]; exact h⟩
theorem Ext.mono {K : PySem.W.Frag} {R : List Addr} {H H' : Hp} (k : ∀ b u, H b = some u → H' b = some u) : Ext K R H R H' := ⟨⟨[], by simp, by simp⟩, fun a xs h => k _ _ h, fun a ob u h => k _ _ h, fun a o h _ _ => k _ _ h⟩
theorem RO.ext {K R H R' H' cm o a} (e : Ext K R H R' H') (k : ∀ u, H a = some u → H' a = some u) (h : RO K H R cm o a) : RO K H' R' cm o a := by
  cases h with
  | lst q r => exact .lst (k _ q) (RVs.ext e _ _ r)
  | dK q r => exact .dK (q.map k) (RD.ext e r)
  | dT q r => exact .dT (q.map k) (RT.ext e r)
  | ins q r c => exact .ins (k _ q) (RF.ext e r) c
theorem RH.mem {K cm h R H} {n : Nat} {a : Addr} (x : RH K cm h R H) (e : R[n]? = some a) : ∃ o, h[n]? = some o ∧ RO K H R cm o a := by
  have hn : n < h.length := by rw [x.len]; exact (List.getElem?_eq_some_iff.mp e).1
  obtain ⟨b, q, r⟩ := x.ob n h[n] (by simp [hn])
  rw [e] at q; cases q
  exact ⟨_, by simp [hn], r⟩
theorem RH.get {K cm h R H} {n : Nat} {a : Addr} {o : Ob} (x : RH K cm h R H) (e : R[n]? = some a) (q : h[n]? = some o) : RO K H R cm o a := by
  obtain ⟨b, q', r⟩ := x.ob n o q
  rw [e] at q'; cases q'; exact r
theorem RH.new {K cm h R H p o} (x : RH K cm h R H) (hp : H p = none) : RH K cm h R (upd H p o) := by
  refine ⟨x.len, x.nd, fun n ob q => ?_, x.tab.mono fun b o z => by rw [upd_ne (ne_of_none z hp)]; exact z⟩
  obtain ⟨a, e, r⟩ := x.ob n ob q
  exact ⟨a, e, r.ext (Ext.new hp) (fun u z => by rw [upd_ne (ne_of_none z hp)]; exact z)⟩
theorem RH.newR {K cm h R H p o ob} (x : RH K cm h R H) (hp : H p = none) (hr : p ∉ R) (r : RO K (upd H p o) (R ++ [p]) cm ob p) : RH K cm (h ++ [ob]) (R ++ [p]) (upd H p o) := by
  refine ⟨by simp [x.len], ?_, fun n u q => ?_, x.tab.mono fun b o z => by rw [upd_ne (ne_of_none z hp)]; exact z⟩
  · rw [List.nodup_append]
    exact ⟨x.nd, by simp, fun a ha b hb => by simp at hb; subst hb; rintro rfl; exact hr ha⟩
  · by_cases hn : n < h.length
    · rw [List.getElem?_append_left hn] at q
      obtain ⟨a, e, r⟩ := x.ob n u q
      refine ⟨a, (Ext.newR (o := o) hp).at_ (K := K) e, r.ext (Ext.newR hp) (fun u z => by rw [upd_ne (ne_of_none z hp)]; exact z)⟩
    · rw [List.getElem?_append_right (by omega)] at q
      have hz : n - h.length = 0 := by
        cases e : n - h.length with
        | zero => rfl
        | succ k => rw [e] at q; simp at q
      rw [hz] at q
      simp at q
      subst q
      refine ⟨p, ?_, r⟩
      rw [List.getElem?_append_right (by rw [← x.len]; omega), ← x.len, hz]; rfl
theorem RO.some {K H R cm o a} (h : RO K H R cm o a) : ∃ u, H a = Option.some u := by
  cases h with
  | lst q _ => exact ⟨_, q⟩
  | dK q _ => exact q.some
  | dT q _ => exact q.some
  | ins q _ _ => exact ⟨_, q⟩
theorem RH.free {K cm h R H} {p : Addr} (x : RH K cm h R H) (hp : H p = none) : p ∉ R := fun z => by
  obtain ⟨n, hn, e⟩ := List.mem_iff_getElem.mp z
  obtain ⟨o, _, r⟩ := x.mem (n := n) (a := p) (by rw [List.getElem?_eq_getElem hn, e])
  obtain ⟨u, hu⟩ := r.some
  rw [hp] at hu; cases hu
theorem RO.noT {K H R cm o a u} (h : RO K H R cm o a) (e : H a = Option.some u) : NoT u := by
  have lk : ∀ {t : Nat} {v : HO}, Lk H t a v → NoT v → NoT u := fun {t v} q n => by
    cases t with
    | zero => have q : H a = Option.some v := q; rw [e] at q; cases q; exact n
    | succ t => obtain ⟨o, q⟩ := q; rw [e] at q; cases q; exact noT_frz
  cases h with
  | lst q _ => rw [e] at q; cases q; exact noT_lst
  | dK q _ => exact lk q noT_dK
  | dT q _ => exact lk q noT_dT
  | ins q _ _ => rw [e] at q; cases q; exact noT_ins
theorem Ext.write {K : PySem.W.Frag} {cm h} {R : List Addr} {H : Hp} {n : Nat} {p : Addr} {u o : HO} (x : RH K cm h R H) (hn : R[n]? = some p) (hu : H p = some u) (h1 : ∀ ys, u ≠ .tup ys) (h2 : ∀ ob w, u ≠ .frz ob w) : Ext K R H R (upd H p o) :=
  ⟨⟨[], by simp, by simp⟩, fun a _ h => by rw [upd_ne (fun z => by subst z; rw [hu] at h; cases h; exact h1 _ rfl)]; exact h, fun a _ _ h => by rw [upd_ne (fun z => by subst z; rw [hu] at h; cases h; exact h2 _ _ rfl)]; exact h, fun a v h _ hr => by
    rw [upd_ne (fun z => hr (by rw [z]; exact List.mem_of_getElem? hn))]; exact h⟩
theorem RH.write {K cm h R H} {n : Nat} {p : Addr} {u o : HO} {ob : Ob} (x : RH K cm h R H) (hn : R[n]? = some p) (hu : H p = some u) (h1 : ∀ ys, u ≠ .tup ys) (h2 : ∀ ob w, u ≠ .frz ob w) (r : RO K (upd H p o) R cm ob p) : RH K cm (h.set n ob) R (upd H p o) := by
  refine ⟨by simp [x.len], x.nd, fun m v q => ?_, x.tab.but (D := p) (fun w hw => by
    obtain ⟨o, _, r⟩ := x.mem hn
    exact r.noT hw) fun b o ne z => by rw [upd_ne ne]; exact z⟩
  by_cases e : n = m
  · subst e
    have hl : n < h.length := by rw [x.len]; exact (List.getElem?_eq_some_iff.mp hn).1
    rw [List.getElem?_set_self hl] at q
    cases q
    exact ⟨p, hn, r⟩
  · rw [List.getElem?_set_ne e] at q
    obtain ⟨a, ea, ra⟩ := x.ob m v q
    have ne : a ≠ p := fun z => by
      subst z
      obtain ⟨h1, e1⟩ := List.getElem?_eq_some_iff.mp hn
      obtain ⟨h2, e2⟩ := List.getElem?_eq_some_iff.mp ea
      exact e ((List.getElem_inj x.nd).mp (e1.trans e2.symm))
    exact ⟨a, ea, ra.ext (Ext.write x hn hu h1 h2) (fun u z => by rw [upd_ne ne]; exact z)⟩
section
variable (K : PySem.W.Frag) (cm : Str → Addr)
def Post {α : Type} (R : List Addr) (H : Hp) (EX : Str → Hp → Prop) (OK : α → Hq → List Addr → Hp → Prop) : Res α → Prop
  | .ok a h' => ∀ R' H', Ext K R H R' H' → RH K cm h' R' H' → OK a h' R' H'
  | .exc c h' => ∀ R' H', Ext K R H R' H' → RH K cm h' R' H' → EX c H'
  | .stuck => False
end
theorem Post.from_ {K cm α R H R1 H1 EX OK} {r : Res α} (e : Ext K R H R1 H1) (h : Post K cm R H EX OK r) : Post K cm R1 H1 EX OK r := by
  cases r with
  | ok a h' => exact fun R' H' e' x => h R' H' (e.trans e' x.nd) x
  | exc c h' => exact fun R' H' e' x => h R' H' (e.trans e' x.nd) x
  | stuck => exact h
theorem Post.mono {K cm α R H EX OK OK'} {r : Res α} (h : Post K cm R H EX OK r) (k : ∀ a h' R' H', Ext K R H R' H' → RH K cm h' R' H' → OK a h' R' H' → OK' a h' R' H') : Post K cm R H EX OK' r := by
  cases r with
  | ok a h' => exact fun R' H' e' x => k _ _ _ _ e' x (h R' H' e' x)
  | exc c h' => exact h
  | stuck => exact h
theorem Post.bind {K cm α β R H EX OK} {r : Res α} {f : α → Hq → Res β} (h : Post K cm R H EX OK (r.bind f)) : Post K cm R H EX (fun a h1 R1 H1 => Post K cm R1 H1 EX OK (f a h1)) r := by
  cases r with
  | ok a h1 => exact fun R1 H1 e x => Post.from_ e h
  | exc c h' => exact h
  | stuck => exact h
structure Cg where
  K : PySem.W.Frag
  cm : Str → Addr
abbrev EXw (cm : Str → Addr) (Wx : WX) (σ : St) : Str → Hp → Prop := fun c H' => Wx (.ref (cm c)) none σ H'
abbrev OKv (K : PySem.W.Frag) (Q : VK) : W → Hq → List Addr → Hp → Prop := fun w _ R' H' => ∀ v, RV K H' R' w v → Q v H'
abbrev OKs (K : PySem.W.Frag) (Q : List V → Hp → Prop) : List W → Hq → List Addr → Hp → Prop := fun w _ R' H' => ∀ v, RVs K H' R' w v → Q v H'
abbrev OKb (Q : Bool → Hp → Prop) : Bool → Hq → List Addr → Hp → Prop := fun w _ _ H' => Q w H'
section
variable (cm : Str → Addr) (X : Cx) (Wx : WX)
def QE (e : Expr) (m : ME) : Prop := ∃ t, PE X e t ∧ ∀ σ ρ h R H Q, REnv X.K H R ρ σ → RH X.K cm h R H → Post X.K cm R H (EXw cm Wx σ) (OKv X.K Q) (m ρ h) → t σ H Q
def QA (es : List Expr) (m : MA) : Prop := ∃ t, PA X es t ∧ ∀ σ ρ h R H Q, REnv X.K H R ρ σ → RH X.K cm h R H → Post X.K cm R H (EXw cm Wx σ) (OKs X.K Q) (m ρ h) → t σ H Q
def QT (e : Expr) (m : MT) : Prop := ∃ t, PT X e t ∧ ∀ σ ρ h R H Q, REnv X.K H R ρ σ → RH X.K cm h R H → Post X.K cm R H (EXw cm Wx σ) (OKb Q) (m ρ h) → t σ H Q
def QW (e : Expr) (m : MT) : Prop := ∃ t, PW X e t ∧ ∀ σ ρ h R H Q, REnv X.K H R ρ σ → RH X.K cm h R H → Post X.K cm R H (EXw cm Wx σ) (OKb Q) (m ρ h) → t σ H Q
def PostS (R : List Addr) (H : Hp) (D : Ends) : RS → Prop
  | .ok f ρ' h' => ∀ R' H' σ', Ext X.K R H R' H' → RH X.K cm h' R' H' → REnv X.K H' R' ρ' σ' → (match f with
      | .nx => D.nx σ' H'
      | .bk => D.bk σ' H'
      | .ct => D.ct σ' H'
      | .rt w => ∀ v, RV X.K H' R' w v → D.rt v H')
  | .exc c ρ' h' => ∀ R' H' σ', Ext X.K R H R' H' → RH X.K cm h' R' H' → REnv X.K H' R' ρ' σ' → Wx (.ref (cm c)) none σ' H'
  | .stuck => False
def QS (st : Stmt) (m : MS) : Prop := ∃ t, PS X st t ∧ ∀ σ ρ h R H D, REnv X.K H R ρ σ → RH X.K cm h R H → PostS cm X Wx R H D (m ρ h) → t D σ H
def QB (sts : List Stmt) (m : MS) : Prop := ∃ t, PSs X sts t ∧ ∀ σ ρ h R H D, REnv X.K H R ρ σ → RH X.K cm h R H → PostS cm X Wx R H D (m ρ h) → t D σ H
end
theorem PostS.from_ {cm X Wx R H R1 H1 D} {r : RS} (e : Ext X.K R H R1 H1) (h : PostS cm X Wx R H D r) : PostS cm X Wx R1 H1 D r := by
  cases r with
  | ok a ρ h' => exact fun R' H' σ' e' x => h R' H' σ' (e.trans e' x.nd) x
  | exc c ρ h' => exact fun R' H' σ' e' x => h R' H' σ' (e.trans e' x.nd) x
  | stuck => exact h
def Res.toS {α : Type} (r : Res α) (ρ : Ev) (f : α → Hq → RS) : RS :=
  match r with
  | .ok a h => f a h
  | .exc c h => .exc c ρ h
  | .stuck => .stuck
theorem PostS.toS {cm X Wx R H D} {α : Type} {r : Res α} {ρ : Ev} {σ : St} {f : α → Hq → RS} (hρ : REnv X.K H R ρ σ) (h : PostS cm X Wx R H D (r.toS ρ f)) :
    Post X.K cm R H (EXw cm Wx σ) (fun a h1 R1 H1 => PostS cm X Wx R1 H1 D (f a h1)) r := by
  cases r with
  | ok a h1 => exact fun R1 H1 e x => PostS.from_ e h
  | exc c h' => exact fun R' H' e x => h R' H' σ e x (hρ.ext e)
  | stuck => exact h
end Z

namespace Z
open PySem PySem.Spec PyProof.Rows L2

section
variable {K : PySem.W.Frag} {cm : Str → Addr} {R : List Addr} {H : Hp} {h : Hq} {EX : Str → Hp → Prop} {Q : VK}
theorem post_v {w : W} {v : V} (p : Post K cm R H EX (OKv K Q) (.ok w h)) (x : RH K cm h R H) (r : RV K H R w v) : Q v H := p R H Ext.refl x v r
theorem post_lst {t : Nat} {xs : List W} {vs : List V} (p : Post K cm R H EX (OKv K Q) (.ok (.ref h.length) (h ++ [.lst t xs]))) (x : RH K cm h R H) (r : RVs K H R xs vs) {q : Addr} (hq : H q = none) : Q (.ref q) (upd H q (.lst vs)) := by
  refine p (R ++ [q]) _ (Ext.newR hq) (x.newR hq (x.free hq) (.lst upd_same (RVs.ext (Ext.newR hq) _ _ r))) _ (.ref ?_)
  rw [List.getElem?_append_right (by rw [x.len]; exact Nat.le_refl _), x.len, Nat.sub_self]; rfl
theorem post_tup {xs : List W} {vs : List V} (p : Post K cm R H EX (OKv K Q) (.ok (.tup xs) h)) (x : RH K cm h R H) (r : RVs K H R xs vs) {q : Addr} (hq : H q = none) : Q (.ref q) (upd H q (.tup vs)) :=
  p R _ (Ext.new hq) (x.new hq) _ (.tup upd_same (RVs.ext (Ext.new hq) _ _ r))
end

section
variable {cm : Str → Addr} {X : Cx} {Wx : WX}
def eV (i : Nat) : ME := fun ρ h => match ρ[i]? with
  | some (some w) => .ok w h
  | _ => .stuck
def eC (w : W) : ME := fun _ h => .ok w h
theorem qv (i : Nat) {x : Str} {pos : Pos} (hN : X.N[i]? = some x := by rfl) (hv : Vis X.env.scope x := by first | exact Or.inl rfl | exact Or.inr (Or.inl rfl) | exact Or.inr (Or.inr rfl)) (hd : (x == ("__debug__" : Str)) = false := by decide)
    (hcd : (x == ("__classdict__" : Str)) = false := by decide) : QE cm X Wx (.Name x pos) (eV i) := by
  refine ⟨_, pe_var hN hv hd hcd, fun σ ρ h R H Q hρ hh p => ?_⟩
  unfold eV at p
  split at p
  · rename_i w e
    obtain ⟨v, a, r⟩ := hρ.2 i w e
    exact ⟨v, a, post_v p hh r⟩
  · exact p.elim
theorem q_int {i j pos} : QE cm X Wx (.Constant (.int i) j pos) (eC (.int i)) := ⟨_, pe_int, fun _ _ _ _ _ _ _ hh p => post_v p hh (.int i)⟩
theorem q_bl {i j pos} : QE cm X Wx (.Constant (.bool i) j pos) (eC (.bl i)) := ⟨_, pe_bl, fun _ _ _ _ _ _ _ hh p => post_v p hh (.bl i)⟩
theorem q_non {j pos} : QE cm X Wx (.Constant .none j pos) (eC .non) := ⟨_, pe_non, fun _ _ _ _ _ _ _ hh p => post_v p hh .non⟩
theorem q_str {x j pos} : QE cm X Wx (.Constant (.str x) j pos) (eC (.str x)) := ⟨_, pe_str, fun _ _ _ _ _ _ _ hh p => post_v p hh (.str x)⟩
theorem q_globI {x : Str} {i : Int} {pos : Pos} (hg : Gl X x) (hm : ∃ t, X.mg x = some (.int i t)) (hd : (x == ("__debug__" : Str)) = false := by decide) : QE cm X Wx (.Name x pos) (eC (.int i)) := by
  obtain ⟨t, hm⟩ := hm
  exact ⟨_, pe_glob (v := .int i) hg hm ⟨t, rfl⟩ hd, fun _ _ _ _ _ _ _ hh p => post_v p hh (.int i)⟩
theorem q_globS {x z : Str} {pos : Pos} (hg : Gl X x) (hm : ∃ t, X.mg x = some (.str z t)) (hd : (x == ("__debug__" : Str)) = false := by decide) : QE cm X Wx (.Name x pos) (eC (.str z)) := by
  obtain ⟨t, hm⟩ := hm
  exact ⟨_, pe_glob (v := .str z) hg hm ⟨t, rfl⟩ hd, fun _ _ _ _ _ _ _ hh p => post_v p hh (.str z)⟩
abbrev F2 := W → W → Hq → Res W
def QOp (cm : Str → Addr) (X : Cx) (r : R2) (f : F2) : Prop := ∀ (EX : Str → Hp → Prop) h R H x y vx vy Q, RH X.K cm h R H → RV X.K H R x vx → RV X.K H R y vy → Post X.K cm R H EX (OKv X.K Q) (f x y h) → r vx vy H Q
def eBin (f : F2) (a b : ME) : ME := fun ρ h => (a ρ h).bind fun x h1 => (b ρ h1).bind fun y h2 => f x y h2
theorem bin_ok {ta tb : TE} {r : R2} {f : F2} {ma mb : ME} (hf : QOp cm X r f)
    (sa : ∀ σ ρ h R H Q, REnv X.K H R ρ σ → RH X.K cm h R H → Post X.K cm R H (EXw cm Wx σ) (OKv X.K Q) (ma ρ h) → ta σ H Q)
    (sb : ∀ σ ρ h R H Q, REnv X.K H R ρ σ → RH X.K cm h R H → Post X.K cm R H (EXw cm Wx σ) (OKv X.K Q) (mb ρ h) → tb σ H Q) :
    ∀ σ ρ h R H Q, REnv X.K H R ρ σ → RH X.K cm h R H → Post X.K cm R H (EXw cm Wx σ) (OKv X.K Q) (eBin f ma mb ρ h) → tOp r ta tb σ H Q := fun σ ρ h R H Q hρ hh p =>
  sa σ ρ h R H _ hρ hh (Post.mono (Post.bind p) fun x h1 R1 H1 e1 x1 p1 => fun vx rx =>
    sb σ ρ h1 R1 H1 _ (hρ.ext e1) x1 (Post.mono (Post.bind p1) fun y h2 R2 H2 e2 x2 p2 => fun vy ry => hf _ _ _ _ _ _ _ _ _ x2 (RV.ext e2 _ _ rx) ry p2))
theorem qe_bin {op : Operator} {r : R2} {f : F2} {a b : Expr} {ma mb : ME} {pos : Pos} (ho : OpR X (binaryOp op) r) (hf : QOp cm X r f) (ha : QE cm X Wx a ma) (hb : QE cm X Wx b mb) : QE cm X Wx (.BinOp a op b pos) (eBin f ma mb) := by
  obtain ⟨ta, pa, sa⟩ := ha
  obtain ⟨tb, pb, sb⟩ := hb
  exact ⟨_, pe_op ho pa pb, bin_ok hf sa sb⟩
def asL (h : Hq) : W → Option (List W)
  | .frz xs => some xs
  | .ref n => match h[n]? with
    | some (.lst _ xs) => some xs
    | _ => none
  | _ => none
theorem asL_ok {h : Hq} {R H} {x : W} {xs : List W} {v : V} (hh : RH X.K cm h R H) (r : RV X.K H R x v) (e : asL h x = some xs) : ∃ a vs, v = .ref a ∧ SqL X.K H a vs ∧ RVs X.K H R xs vs := by
  cases x with
  | frz ys =>
    cases r with
    | frz s r => cases e; exact ⟨_, _, rfl, s.sqL, r⟩
  | ref n =>
    cases r with
    | ref q =>
      unfold asL at e
      cases z : h[n]? with
      | none => simp [z] at e
      | some o =>
        have ro := hh.get q z
        cases o with
        | lst t ys => simp [z] at e; subst e; cases ro with | lst a b => exact ⟨_, _, rfl, SqL.of a, b⟩
        | dct _ _ _ => simp [z] at e
        | ins _ _ => simp [z] at e
  | _ => simp [asL] at e
def mkL (t : Nat) (xs : List W) (h : Hq) : Res W := .ok (.ref h.length) (h ++ [.lst t xs])
def isMut (h : Hq) : W → Bool
  | .ref n => match h[n]? with
    | some (.lst _ _) => true
    | _ => false
  | _ => false
theorem asLm_ok {h : Hq} {R H} {x : W} {xs : List W} {v : V} (hh : RH X.K cm h R H) (r : RV X.K H R x v) (e : asL h x = some xs) (m : isMut h x = true) : ∃ a vs, v = .ref a ∧ H a = some (.lst vs) ∧ RVs X.K H R xs vs := by
  cases x with
  | ref n =>
    cases r with
    | ref q =>
      unfold asL at e
      unfold isMut at m
      cases z : h[n]? with
      | none => simp [z] at e
      | some o =>
        have ro := hh.get q z
        cases o with
        | lst t ys => simp [z] at e; subst e; cases ro with | lst a b => exact ⟨_, _, rfl, a, b⟩
        | dct _ _ _ => simp [z] at e
        | ins _ _ => simp [z] at e
  | frz xs => cases m
  | _ => simp [asL] at e
def addW (t : Nat) : F2 := fun x y h => match x, y with
  | .int i, .int j => .ok (.int (i + j)) h
  | .str a, .str b => if a.length + b.length ≤ sizeLine then .ok (.str (a ++ b)) h else .stuck
  | .tup a, .tup b => if a.length + b.length ≤ sizeLine then .ok (.tup (a ++ b)) h else .stuck
  | .ref m, .ref n => match asL h (.ref m), asL h (.ref n) with
    | some xs, some ys => if isMut h (.ref m) && isMut h (.ref n) && decide (xs.length + ys.length ≤ sizeLine) then mkL t (xs ++ ys) h else .stuck
    | _, _ => .stuck
  | _, _ => .stuck
theorem op_addW : OpR X (binaryOp .Add) (fun x y H Q => rI0 (fun i j => .int (i + j)) x y H Q ∨ ((∃ i j, x = .str i ∧ y = .str j ∧ i.length + j.length ≤ sizeLine ∧ Q (.str (i ++ j)) H) ∨ (rCatA X.K x y H Q ∨ rCat x y H Q))) := OpR.or op_add (OpR.or op_add_str (OpR.or op_catA op_cat))
theorem q_addW {t : Nat} : QOp cm X (fun x y H Q => rI0 (fun i j => .int (i + j)) x y H Q ∨ ((∃ i j, x = .str i ∧ y = .str j ∧ i.length + j.length ≤ sizeLine ∧ Q (.str (i ++ j)) H) ∨ (rCatA X.K x y H Q ∨ rCat x y H Q))) (addW t) := by
  intro EX h R H x y vx vy Q hh rx ry p
  cases x with
  | int i =>
    cases y with
    | int j => cases rx; cases ry; exact .inl ⟨i, j, rfl, rfl, post_v p hh (.int _)⟩
    | _ => exact p.elim
  | str a =>
    cases y with
    | str b =>
      cases rx; cases ry
      unfold addW at p
      dsimp only at p
      split at p
      · rename_i z; exact .inr (.inl ⟨a, b, rfl, rfl, z, post_v p hh (.str _)⟩)
      · exact p.elim
    | _ => exact p.elim
  | tup a =>
    cases y with
    | tup b =>
      cases rx with
      | tup s1 r1 =>
      cases ry with
      | tup s2 r2 =>
      unfold addW at p
      dsimp only at p
      split at p
      · rename_i z
        refine .inr (.inr (.inl ⟨_, _, _, _, rfl, rfl, SqT.of s1, SqT.of s2, by rw [← r1.length, ← r2.length]; exact z, fun e => ?_, fun _ e => ?_, fun _ _ q hq => post_tup p hh (RVs.append r1 r2) hq⟩))
        · subst e
          cases r1
          exact post_v p hh (.tup s2 r2)
        · subst e
          cases r2
          rw [List.append_nil] at p
          exact post_v p hh (.tup s1 r1)
      · exact p.elim
    | _ => exact p.elim
  | ref m =>
    cases y with
    | ref n =>
      unfold addW at p
      dsimp only at p
      split at p
      · rename_i xs ys e1 e2
        split at p
        · rename_i z
          simp only [Bool.and_eq_true, decide_eq_true_eq] at z
          obtain ⟨⟨z1, z2⟩, z3⟩ := z
          obtain ⟨a, vs, rfl, ha, r1⟩ := asLm_ok hh rx e1 z1
          obtain ⟨b, ws, rfl, hb, r2⟩ := asLm_ok hh ry e2 z2
          exact .inr (.inr (.inr ⟨a, b, vs, ws, rfl, rfl, ha, hb, by rw [← r1.length, ← r2.length]; exact z3, fun q hq => post_lst p hh (RVs.append r1 r2) hq⟩))
        · exact p.elim
      · exact p.elim
    | _ => exact p.elim
  | _ => exact p.elim
theorem q_add {t : Nat} {a b : Expr} {ma mb : ME} {pos : Pos} (ha : QE cm X Wx a ma) (hb : QE cm X Wx b mb) : QE cm X Wx (.BinOp a .Add b pos) (eBin (addW t) ma mb) := qe_bin op_addW q_addW ha hb
def subW : F2 := fun x y h => match x, y with
  | .int i, .int j => .ok (.int (i - j)) h
  | _, _ => .stuck
theorem q_sub {a b : Expr} {ma mb : ME} {pos : Pos} (ha : QE cm X Wx a ma) (hb : QE cm X Wx b mb) : QE cm X Wx (.BinOp a .Sub b pos) (eBin subW ma mb) := qe_bin op_sub (by
  intro EX h R H x y vx vy Q hh rx ry p
  cases x with
  | int i =>
    cases y with
    | int j => cases rx; cases ry; exact ⟨i, j, rfl, rfl, post_v p hh (.int _)⟩
    | _ => exact p.elim
  | _ => exact p.elim) ha hb
def small (i : Int) : Bool := decide (-(2 ^ 64) < i) && decide (i < 2 ^ 64)
def mulW : F2 := fun x y h => match x, y with
  | .int i, .int j => if small i || small j then .ok (.int (i * j)) h else .stuck
  | _, _ => .stuck
theorem cmul_of {i j : Int} (h : (small i || small j) = true) : CMul i j := by
  unfold small at h
  simp only [Bool.or_eq_true, Bool.and_eq_true, decide_eq_true_eq] at h
  exact h
theorem q_mulW : QOp cm X (rI CMul fun i j => .int (i * j)) mulW := by
  intro EX h R H x y vx vy Q hh rx ry p
  cases x with
  | int i =>
    cases y with
    | int j =>
      cases rx; cases ry
      unfold mulW at p
      dsimp only at p
      split at p
      · rename_i z; exact ⟨i, j, rfl, rfl, cmul_of z, post_v p hh (.int _)⟩
      · exact p.elim
    | _ => exact p.elim
  | _ => exact p.elim
theorem q_mul {a b : Expr} {ma mb : ME} {pos : Pos} (ha : QE cm X Wx a ma) (hb : QE cm X Wx b mb) : QE cm X Wx (.BinOp a .Mult b pos) (eBin mulW ma mb) := qe_bin op_mul q_mulW ha hb
def wideB : Nat := 2 ^ 9000
def fdivW : F2 := fun x y h => match x, y with
  | .int i, .int j => if decide (0 < j) && decide (j.natAbs < wideB) then .ok (.int (i / j)) h else .stuck
  | _, _ => .stuck
theorem q_fdiv {a b : Expr} {ma mb : ME} {pos : Pos} (ha : QE cm X Wx a ma) (hb : QE cm X Wx b mb) : QE cm X Wx (.BinOp a .FloorDiv b pos) (eBin fdivW ma mb) := qe_bin op_fdivW (by
  intro EX h R H x y vx vy Q hh rx ry p
  cases x with
  | int i =>
    cases y with
    | int j =>
      cases rx; cases ry
      unfold fdivW at p
      dsimp only at p
      split at p
      · rename_i z
        simp only [Bool.and_eq_true, decide_eq_true_eq] at z
        exact ⟨i, j, rfl, rfl, wide_div z.1 z.2 (by decide) (Nat.le_refl _), post_v p hh (.int _)⟩
      · exact p.elim
    | _ => exact p.elim
  | _ => exact p.elim) ha hb
def modW : F2 := fun x y h => match x, y with
  | .int i, .int j => if 0 < j then .ok (.int (i % j)) h else .stuck
  | _, _ => .stuck
theorem q_mod {a b : Expr} {ma mb : ME} {pos : Pos} (ha : QE cm X Wx a ma) (hb : QE cm X Wx b mb) : QE cm X Wx (.BinOp a .Mod b pos) (eBin modW ma mb) := qe_bin op_mod (by
  intro EX h R H x y vx vy Q hh rx ry p
  cases x with
  | int i =>
    cases y with
    | int j =>
      cases rx; cases ry
      unfold modW at p
      dsimp only at p
      split at p
      · rename_i z; exact ⟨i, j, rfl, rfl, z, post_v p hh (.int _)⟩
      · exact p.elim
    | _ => exact p.elim
  | _ => exact p.elim) ha hb
def powW : F2 := fun x y h => match x, y with
  | .int i, .int j => if decide (0 ≤ j ∧ j ≤ 1000000) && decide (i.natAbs < 2 ^ 64) then .ok (.int (i ^ j.toNat)) h else .stuck
  | _, _ => .stuck
theorem q_pow {a b : Expr} {ma mb : ME} {pos : Pos} (ha : QE cm X Wx a ma) (hb : QE cm X Wx b mb) : QE cm X Wx (.BinOp a .Pow b pos) (eBin powW ma mb) := qe_bin op_pow (by
  intro EX h R H x y vx vy Q hh rx ry p
  cases x with
  | int i =>
    cases y with
    | int j =>
      cases rx; cases ry
      unfold powW at p
      dsimp only at p
      split at p
      · rename_i z
        simp only [Bool.and_eq_true, decide_eq_true_eq] at z
        exact ⟨i, j, rfl, rfl, ⟨z.1.1, z.1.2, z.2⟩, post_v p hh (.int _)⟩
      · exact p.elim
    | _ => exact p.elim
  | _ => exact p.elim) ha hb
def eNeg (a : ME) : ME := fun ρ h => (a ρ h).bind fun x h1 => match x with
  | .int i => .ok (.int (-i)) h1
  | _ => .stuck
theorem q_neg {a : Expr} {ma : ME} {pos : Pos} (ha : QE cm X Wx a ma) : QE cm X Wx (.UnaryOp .USub a pos) (eNeg ma) := by
  obtain ⟨ta, pa, sa⟩ := ha
  refine ⟨_, pe_un un_neg pa, fun σ ρ h R H Q hρ hh p => ?_⟩
  refine sa σ ρ h R H _ hρ hh (Post.mono (Post.bind p) fun x h1 R1 H1 e1 x1 p1 => fun vx rx => ?_)
  cases x with
  | int i => cases rx; exact ⟨i, rfl, post_v p1 x1 (.int _)⟩
  | _ => exact p1.elim
mutual
def toD (L : Nat → Option PyData) : W → Option PyData
  | .non => some .none
  | .bl b => some (.bool b)
  | .int i => some (.int i)
  | .str x => some (.str x)
  | .tup xs => (toDs L xs).map .tuple
  | .frz xs => (toDs L xs).map .list
  | .kt xs => (toDs L xs).map .tuple
  | .ref n => L n
  | .exn _ _ => none
def toDs (L : Nat → Option PyData) : List W → Option (List PyData)
  | [] => some []
  | x :: xs => match toD L x, toDs L xs with
    | some d, some ds => some (d :: ds)
    | _, _ => none
end
def refD (h : Hq) : Nat → Nat → Option PyData
  | 0, _ => none
  | k + 1, n => match asL h (.ref n) with
    | some xs => (toDs (refD h k) xs).map .list
    | none => none
section
variable {h : Hq} {R : List Addr} {H : Hp}
mutual
theorem toD_ok {L : Nat → Option PyData} (hL : ∀ n d v, RV X.K H R (.ref n) v → L n = some d → Dp X.K H v d) : ∀ (w : W) (d : PyData) (v : V), RV X.K H R w v → toD L w = some d → Dp X.K H v d
  | .non, _, _, r, e => by cases r; simp [toD] at e; subst e; exact .non
  | .bl b, _, _, r, e => by cases r; simp [toD] at e; subst e; exact .bl b
  | .int b, _, _, r, e => by cases r; simp [toD] at e; subst e; exact .int b
  | .str b, _, _, r, e => by cases r; simp [toD] at e; subst e; exact .str b
  | .tup xs, _, _, r, e => by
    cases r with
    | tup s rs =>
      simp [toD] at e
      obtain ⟨ds, e1, rfl⟩ := e
      exact .tup (SqT.of s) (toDs_ok hL xs ds _ rs e1)
  | .frz xs, _, _, r, e => by
    cases r with
    | frz s rs =>
      simp [toD] at e
      obtain ⟨ds, e1, rfl⟩ := e
      exact .lst s.sqL (toDs_ok hL xs ds _ rs e1)
  | .kt xs, _, _, r, e => by
    cases r with
    | kt s rs =>
      simp [toD] at e
      obtain ⟨ds, e1, rfl⟩ := e
      exact .tup s (toDs_ok hL xs ds _ rs e1)
  | .ref n, d, _, r, e => hL n d _ r (by simpa [toD] using e)
theorem toDs_ok {L : Nat → Option PyData} (hL : ∀ n d v, RV X.K H R (.ref n) v → L n = some d → Dp X.K H v d) : ∀ (ws : List W) (ds : List PyData) (vs : List V), RVs X.K H R ws vs → toDs L ws = some ds → DpAll X.K H vs ds
  | [], _, _, r, e => by cases r; simp [toDs] at e; subst e; exact .nil
  | w :: ws, _, _, r, e => by
    cases r with
    | cons a b =>
      unfold toDs at e
      split at e
      · rename_i d ds e1 e2
        cases e
        exact .cons (toD_ok hL w d _ a e1) (toDs_ok hL ws ds _ b e2)
      · cases e
end
theorem refD_ok (hh : RH X.K cm h R H) : ∀ (k n : Nat) (d : PyData) (v : V), RV X.K H R (.ref n) v → refD h k n = some d → Dp X.K H v d
  | 0, _, _, _, _, e => by cases e
  | k + 1, n, d, v, r, e => by
    unfold refD at e
    split at e
    · rename_i xs z
      obtain ⟨a, vs, rfl, s, rs⟩ := asL_ok hh r z
      simp at e
      obtain ⟨ds, e1, rfl⟩ := e
      exact .lst s (toDs_ok (refD_ok hh k) xs ds vs rs e1)
    · cases e
end
def dataW (h : Hq) (w : W) : Option PyData := toD (refD h 60) w
def eqW (neg : Bool) : F2 := fun x y h => match x, y with
  | .int i, .int j => .ok (.bl (xor neg (decide (i = j)))) h
  | .str i, .str j => .ok (.bl (xor neg (decide (i = j)))) h
  | .bl i, .bl j => .ok (.bl (xor neg (decide (i = j)))) h
  | .non, .non => .ok (.bl (xor neg true)) h
  | .non, .int _ | .int _, .non | .non, .bl _ | .bl _, .non | .non, .str _ | .str _, .non | .int _, .str _ | .str _, .int _ | .bl _, .str _ | .str _, .bl _ => .ok (.bl neg) h
  | x, y => match dataW h x, dataW h y with
    | some d, some e => if SeqAt.shaped d && SeqAt.shaped e then .ok (.bl (xor neg (PyData.eqv d e))) h else .stuck
    | _, _ => .stuck
def rEqW (K : PySem.W.Frag) (neg : Bool) : R2 := fun x y H Q => (scal x y = true ∧ Q (.bl (xor neg (decide (x = y)))) H) ∨ (∃ d e, Dp K H x d ∧ Dp K H y e ∧ SeqAt.shaped d = true ∧ SeqAt.shaped e = true ∧ Q (.bl (xor neg (PyData.eqv d e))) H)
theorem op_eqW (hu : X.A.units + 64 < cLine) : OpR X (compareOp .Eq) (rEqW X.K false) := by
  intro pins s σ H x y v u Q I rx ry h
  refine OpR.or op_eq (op_eqD hu) pins s σ H x y v u Q I rx ry ?_
  rcases h with ⟨a, b⟩ | h
  · exact .inl ⟨a, by simpa using b⟩
  · obtain ⟨d, e, h1, h2, h3, h4, q⟩ := h
    exact .inr ⟨d, e, h1, h2, h3, h4, by simpa using q⟩
theorem op_neW (hu : X.A.units + 64 < cLine) : OpR X (compareOp .NotEq) (rEqW X.K true) := by
  intro pins s σ H x y v u Q I rx ry h
  refine OpR.or op_ne (op_neD hu) pins s σ H x y v u Q I rx ry ?_
  rcases h with ⟨a, b⟩ | h
  · exact .inl ⟨a, by simpa using b⟩
  · obtain ⟨d, e, h1, h2, h3, h4, q⟩ := h
    exact .inr ⟨d, e, h1, h2, h3, h4, by simpa using q⟩
theorem dec_V_int {i j : Int} : decide (V.int i = V.int j) = decide (i = j) := by
  by_cases e : i = j
  · subst e; simp
  · rw [decide_eq_false e, decide_eq_false (fun z => e (by cases z; rfl))]
theorem dec_V_str {i j : Str} : decide (V.str i = V.str j) = decide (i = j) := by
  by_cases e : i = j
  · subst e; simp
  · rw [decide_eq_false e, decide_eq_false (fun z => e (by cases z; rfl))]
theorem dec_V_bl {i j : Bool} : decide (V.bl i = V.bl j) = decide (i = j) := by
  cases i <;> cases j <;> rfl
theorem eqW_data {neg : Bool} {x y : W} {h : Hq} {R H EX Q vx vy} (hh : RH X.K cm h R H) (rx : RV X.K H R x vx) (ry : RV X.K H R y vy)
    (p : Post X.K cm R H EX (OKv X.K Q) (match dataW h x, dataW h y with
    | some d, some e => if SeqAt.shaped d && SeqAt.shaped e then .ok (.bl (xor neg (PyData.eqv d e))) h else .stuck
    | _, _ => .stuck)) : rEqW X.K neg vx vy H Q := by
  split at p
  · rename_i d e e1 e2
    split at p
    · rename_i z
      simp only [Bool.and_eq_true] at z
      exact .inr ⟨d, e, toD_ok (refD_ok hh 60) x d _ rx e1, toD_ok (refD_ok hh 60) y e _ ry e2, z.1, z.2, post_v p hh (.bl _)⟩
    · exact p.elim
  · exact p.elim
theorem q_eqW {neg : Bool} : QOp cm X (rEqW X.K neg) (eqW neg) := by
  intro EX h R H x y vx vy Q hh rx ry p
  cases x with
  | non =>
    cases y with
    | non => cases rx; cases ry; exact .inl ⟨rfl, post_v p hh (.bl _)⟩
    | int j => cases rx; cases ry; exact .inl ⟨rfl, by simpa using post_v p hh (.bl _)⟩
    | bl j => cases rx; cases ry; exact .inl ⟨rfl, by simpa using post_v p hh (.bl _)⟩
    | str j => cases rx; cases ry; exact .inl ⟨rfl, by simpa using post_v p hh (.bl _)⟩
    | _ => exact eqW_data hh rx ry p
  | bl i =>
    cases y with
    | bl j => cases rx; cases ry; exact .inl ⟨rfl, by rw [dec_V_bl]; exact post_v p hh (.bl _)⟩
    | non => cases rx; cases ry; exact .inl ⟨rfl, by simpa using post_v p hh (.bl _)⟩
    | str j => cases rx; cases ry; exact .inl ⟨rfl, by simpa using post_v p hh (.bl _)⟩
    | _ => exact eqW_data hh rx ry p
  | int i =>
    cases y with
    | int j => cases rx; cases ry; exact .inl ⟨rfl, by rw [dec_V_int]; exact post_v p hh (.bl _)⟩
    | non => cases rx; cases ry; exact .inl ⟨rfl, by simpa using post_v p hh (.bl _)⟩
    | str j => cases rx; cases ry; exact .inl ⟨rfl, by simpa using post_v p hh (.bl _)⟩
    | _ => exact eqW_data hh rx ry p
  | str i =>
    cases y with
    | str j => cases rx; cases ry; exact .inl ⟨rfl, by rw [dec_V_str]; exact post_v p hh (.bl _)⟩
    | non => cases rx; cases ry; exact .inl ⟨rfl, by simpa using post_v p hh (.bl _)⟩
    | int j => cases rx; cases ry; exact .inl ⟨rfl, by simpa using post_v p hh (.bl _)⟩
    | bl j => cases rx; cases ry; exact .inl ⟨rfl, by simpa using post_v p hh (.bl _)⟩
    | _ => exact eqW_data hh rx ry p
  | tup xs => cases y <;> exact eqW_data hh rx ry p
  | frz xs => cases y <;> exact eqW_data hh rx ry p
  | kt xs => cases y <;> exact eqW_data hh rx ry p
  | ref n => cases y <;> exact eqW_data hh rx ry p
  | exn a c => cases y <;> exact eqW_data hh rx ry p
def ordW (g : Int → Int → Bool) (s : Str → Str → Bool) : F2 := fun x y h => match x, y with
  | .int i, .int j => .ok (.bl (g i j)) h
  | .str i, .str j => .ok (.bl (s i j)) h
  | _, _ => .stuck
def rOrdW (g : Int → Int → Bool) (s : Str → Str → Bool) : R2 := fun x y H Q => rI0 (fun i j => .bl (g i j)) x y H Q ∨ ∃ i j, x = .str i ∧ y = .str j ∧ Q (.bl (s i j)) H
theorem q_ordW {g s} : QOp cm X (rOrdW g s) (ordW g s) := by
  intro EX h R H x y vx vy Q hh rx ry p
  cases x with
  | int i =>
    cases y with
    | int j => cases rx; cases ry; exact .inl ⟨i, j, rfl, rfl, post_v p hh (.bl _)⟩
    | _ => exact p.elim
  | str i =>
    cases y with
    | str j => cases rx; cases ry; exact .inr ⟨i, j, rfl, rfl, post_v p hh (.bl _)⟩
    | _ => exact p.elim
  | _ => exact p.elim
def sLt (i j : Str) : Bool := decide (i.cps.toList < j.cps.toList)
def sLe (i j : Str) : Bool := !decide (j.cps.toList < i.cps.toList)
abbrev ltW : F2 := ordW (fun i j => decide (i < j)) sLt
abbrev leW : F2 := ordW (fun i j => decide (i ≤ j)) sLe
abbrev gtW : F2 := ordW (fun i j => decide (j < i)) (fun i j => sLt j i)
abbrev geW : F2 := ordW (fun i j => decide (j ≤ i)) (fun i j => sLe j i)
theorem op_ltW : OpR X (compareOp .Lt) (rOrdW (fun i j => decide (i < j)) sLt) := OpR.or op_lt op_lt_str
theorem op_leW : OpR X (compareOp .LtE) (rOrdW (fun i j => decide (i ≤ j)) sLe) := OpR.or op_le op_le_str
theorem op_gtW : OpR X (compareOp .Gt) (rOrdW (fun i j => decide (j < i)) (fun i j => sLt j i)) := OpR.or op_gt op_gt_str
theorem op_geW : OpR X (compareOp .GtE) (rOrdW (fun i j => decide (j ≤ i)) (fun i j => sLe j i)) := OpR.or op_ge op_ge_str
def tB (m : ME) : MT := fun ρ h => (m ρ h).bind fun x h1 => match x with
  | .bl b => .ok b h1
  | _ => .stuck
theorem qe_cmp {op : CmpOp} {r : R2} {f : F2} {a b : Expr} {ma mb : ME} {pos : Pos} (ho : OpR X (compareOp op) r) (hf : QOp cm X r f) (ha : QE cm X Wx a ma) (hb : QE cm X Wx b mb) (hm : behindInMarks op b = false) : QE cm X Wx (.Compare a [op] [b] pos) (eBin f ma mb) := by
  obtain ⟨ta, pa, sa⟩ := ha
  obtain ⟨tb, pb, sb⟩ := hb
  exact ⟨_, pe_cmpR ho pa pb hm, bin_ok hf sa sb⟩
theorem test_ok {ta : TE} {ma : ME} (sa : ∀ σ ρ h R H Q, REnv X.K H R ρ σ → RH X.K cm h R H → Post X.K cm R H (EXw cm Wx σ) (OKv X.K Q) (ma ρ h) → ta σ H Q) :
    ∀ σ ρ h R H Q, REnv X.K H R ρ σ → RH X.K cm h R H → Post X.K cm R H (EXw cm Wx σ) (OKb Q) (tB ma ρ h) → tTest ta σ H Q := fun σ ρ h R H Q hρ hh p =>
  sa σ ρ h R H _ hρ hh (Post.mono (Post.bind p) fun x h1 R1 H1 e1 x1 p1 => fun vx rx => by
    cases x with
    | bl b => cases rx; exact ⟨b, rfl, p1 R1 H1 Ext.refl x1⟩
    | _ => exact p1.elim)
theorem qt_cmp {op : CmpOp} {r : R2} {f : F2} {a b : Expr} {ma mb : ME} {pos : Pos} (ho : OpR X (compareOp op) r) (hf : QOp cm X r f) (ha : QE cm X Wx a ma) (hb : QE cm X Wx b mb) (hm : behindInMarks op b = false) : QT cm X Wx (.Compare a [op] [b] pos) (tB (eBin f ma mb)) := by
  obtain ⟨ta, pa, sa⟩ := ha
  obtain ⟨tb, pb, sb⟩ := hb
  exact ⟨_, pt_cmpR ho pa pb hm, test_ok (bin_ok hf sa sb)⟩
def eChain (f g : F2) (a b c : ME) : ME := fun ρ h => (a ρ h).bind fun x h1 => (b ρ h1).bind fun y h2 => (f x y h2).bind fun k h3 => match k with
  | .bl true => (c ρ h3).bind fun z h4 => g y z h4
  | .bl false => .ok (.bl false) h3
  | _ => .stuck
theorem chain_ok {ta tb tc : TE} {r r' : R2} {f g : F2} {ma mb mc : ME} (hf : QOp cm X r f) (hg : QOp cm X r' g)
    (sa : ∀ σ ρ h R H Q, REnv X.K H R ρ σ → RH X.K cm h R H → Post X.K cm R H (EXw cm Wx σ) (OKv X.K Q) (ma ρ h) → ta σ H Q)
    (sb : ∀ σ ρ h R H Q, REnv X.K H R ρ σ → RH X.K cm h R H → Post X.K cm R H (EXw cm Wx σ) (OKv X.K Q) (mb ρ h) → tb σ H Q)
    (sc : ∀ σ ρ h R H Q, REnv X.K H R ρ σ → RH X.K cm h R H → Post X.K cm R H (EXw cm Wx σ) (OKv X.K Q) (mc ρ h) → tc σ H Q) :
    ∀ σ ρ h R H Q, REnv X.K H R ρ σ → RH X.K cm h R H → Post X.K cm R H (EXw cm Wx σ) (OKv X.K Q) (eChain f g ma mb mc ρ h) → tChain r r' ta tb tc σ H Q := fun σ ρ h R H Q hρ hh p => by
  refine sa σ ρ h R H _ hρ hh (Post.mono (Post.bind p) fun x h1 R1 H1 e1 x1 p1 => fun vx rx => ?_)
  refine sb σ ρ h1 R1 H1 _ (hρ.ext e1) x1 (Post.mono (Post.bind p1) fun y h2 R2 H2 e2 x2 p2 => fun vy ry => ?_)
  refine hf (EXw cm Wx σ) _ _ _ _ _ _ _ _ x2 (RV.ext e2 _ _ rx) ry (Post.mono (Post.bind p2) fun k h3 R3 H3 e3 x3 p3 => fun vk rk => ?_)
  cases k with
  | bl b =>
    cases rk
    refine ⟨b, rfl, ?_⟩
    cases b with
    | true =>
      rw [if_pos rfl]
      refine sc σ ρ h3 R3 H3 _ ((hρ.ext e1).ext (e2.trans e3 x3.nd)) x3 (Post.mono (Post.bind p3) fun z h4 R4 H4 e4 x4 p4 => fun vz rz => ?_)
      exact hg _ _ _ _ _ _ _ _ _ x4 (RV.ext (e3.trans e4 x4.nd) _ _ ry) rz p4
    | false =>
      rw [if_neg Bool.false_ne_true]
      exact post_v p3 x3 (.bl false)
  | _ => exact p3.elim
theorem qe_chain {op op' : CmpOp} {r r' : R2} {f g : F2} {a b c : Expr} {ma mb mc : ME} {pos : Pos} (ho : OpR X (compareOp op) r) (hf : QOp cm X r f) (ho' : OpR X (compareOp op') r') (hg : QOp cm X r' g) (ha : QE cm X Wx a ma) (hb : QE cm X Wx b mb) (hc : QE cm X Wx c mc)
    (hm : lastMarks [op, op'] [b, c] = false := by with_unfolding_all rfl) : QE cm X Wx (.Compare a [op, op'] [b, c] pos) (eChain f g ma mb mc) := by
  obtain ⟨ta, pa, sa⟩ := ha
  obtain ⟨tb, pb, sb⟩ := hb
  obtain ⟨tc, pc, sc⟩ := hc
  exact ⟨_, pe_chain ho ho' pa pb pc hm, chain_ok hf hg sa sb sc⟩
def truW (h : Hq) : W → Option Bool
  | .non => some false
  | .bl b => some b
  | .int i => some (i != 0)
  | .str x => if x.length ≤ sizeLine then some ((x.length : Int) != 0) else none
  | .tup xs => some (!xs.isEmpty)
  | .frz xs => some (!xs.isEmpty)
  | .kt xs => some (!xs.isEmpty)
  | .ref n => match h[n]? with
    | some (.lst _ xs) => some (!xs.isEmpty)
    | some (.dct 0 false kvs) => some (!kvs.isEmpty)
    | _ => none
  | .exn _ _ => none
def tTru (m : ME) : MT := fun ρ h => (m ρ h).bind fun x h1 => match truW h1 x with
  | some b => .ok b h1
  | none => .stuck
theorem RVs.empty {K H R} {xs : List W} {vs : List V} (r : RVs K H R xs vs) : vs.isEmpty = xs.isEmpty := by cases r <;> rfl
theorem RD.empty {K H R} {xs vs} (r : RD K H R xs vs) : vs.isEmpty = xs.isEmpty := by cases r <;> rfl
theorem truW_ok {h : Hq} {R H} {x : W} {v : V} {k : Bool} (hh : RH X.K cm h R H) (r : RV X.K H R x v) (e : truW h x = some k) : TruV X.K v H k := by
  cases x with
  | non => cases r; exact (Option.some.inj e).symm
  | bl b => cases r; exact (Option.some.inj e).symm
  | int i => cases r; exact (Option.some.inj e).symm
  | str x =>
    cases r
    unfold truW at e
    dsimp only at e
    by_cases z : x.length ≤ sizeLine
    · rw [if_pos z] at e; exact ⟨z, (Option.some.inj e).symm⟩
    · rw [if_neg z] at e; cases e
  | tup xs => cases r with | tup s rs => exact .inr (.inl ⟨_, SqT.of s, by rw [rs.empty]; exact (Option.some.inj e).symm⟩)
  | frz xs => cases r with | frz s rs => exact .inl ⟨_, s.sqL, by rw [rs.empty]; exact (Option.some.inj e).symm⟩
  | kt xs => cases r with | kt s rs => exact .inr (.inl ⟨_, s, by rw [rs.empty]; exact (Option.some.inj e).symm⟩)
  | ref n =>
    cases r with
    | ref q =>
      unfold truW at e
      cases z : h[n]? with
      | none => simp [z] at e
      | some o =>
        have ro := hh.get q z
        cases o with
        | lst t ys => simp only [z, Option.some.injEq] at e; subst e; cases ro with | lst a b => exact .inl ⟨_, SqL.of a, by rw [b.empty]⟩
        | dct t c kvs =>
          cases c with
          | false => cases t with | zero => (simp only [z, Option.some.injEq] at e; subst e; cases ro with | dK a b => exact .inr (.inr ⟨_, a, by rw [b.empty]⟩)) | succ t => simp [z] at e
          | true => simp [z] at e
        | ins _ _ => simp [z] at e
  | exn a c => cases e
theorem qt_truth {a : Expr} {ma : ME} (ha : QE cm X Wx a ma) (he : ∀ whole, isTrue a X.env whole = (do let v ← whole; standAt a.pos; holding [v] (truthy v)) := by intro _; rfl) : QT cm X Wx a (tTru ma) := by
  obtain ⟨ta, pa, sa⟩ := ha
  refine ⟨_, pt_truth pa he, fun σ ρ h R H Q hρ hh p => ?_⟩
  refine sa σ ρ h R H _ hρ hh (Post.mono (Post.bind p) fun x h1 R1 H1 e1 x1 p1 => fun vx rx => ?_)
  cases z : truW h1 x with
  | some b => simp only [z] at p1; exact ⟨b, truW_ok x1 rx z, p1 R1 H1 Ext.refl x1⟩
  | none => simp only [z] at p1; exact p1.elim
def tOrM (a b : MT) : MT := fun ρ h => (a ρ h).bind fun k h1 => if k then .ok true h1 else b ρ h1
def tNotM (a : MT) : MT := fun ρ h => (a ρ h).bind fun k h1 => .ok (!k) h1
theorem post_b {K cm R H EX Q} {b : Bool} {h : Hq} (p : Post K cm R H EX (OKb Q) (.ok b h)) (x : RH K cm h R H) : Q b H := p R H Ext.refl x
theorem qt_not {a : Expr} {ma : MT} {pos : Pos} (ha : QT cm X Wx a ma) (he : ∀ whole, isTrue (.UnaryOp .Not a pos) X.env whole = (do return !(← isTrue a X.env (eval a X.env))) := by intro _; rfl) : QT cm X Wx (.UnaryOp .Not a pos) (tNotM ma) := by
  obtain ⟨ta, pa, sa⟩ := ha
  refine ⟨_, pt_not pa, fun σ ρ h R H Q hρ hh p => ?_⟩
  exact sa σ ρ h R H _ hρ hh (Post.mono (Post.bind p) fun k h1 R1 H1 e1 x1 p1 => post_b p1 x1)
theorem qw_one {op : PySem.BoolOp} {a : Expr} {ma : MT} {pos : Pos} (h : ∀ t, PT X a t → PW X (.BoolOp op [a] pos) t) (ha : QT cm X Wx a ma) : QW cm X Wx (.BoolOp op [a] pos) ma := by
  obtain ⟨ta, pa, sa⟩ := ha
  exact ⟨_, h _ pa, sa⟩
theorem qw_or1 {a : Expr} {ma : MT} {pos : Pos} (ha : QT cm X Wx a ma) : QW cm X Wx (.BoolOp .Or [a] pos) ma := qw_one (fun _ p => pw_or1 p) ha
theorem qw_or {a b : Expr} {rest : List Expr} {ma mb : MT} {pos : Pos} (ha : QT cm X Wx a ma) (hb : QW cm X Wx (.BoolOp .Or (b :: rest) pos) mb) : QW cm X Wx (.BoolOp .Or (a :: b :: rest) pos) (tOrM ma mb) := by
  obtain ⟨ta, pa, sa⟩ := ha
  obtain ⟨tb, pb, sb⟩ := hb
  refine ⟨_, pw_or pa pb, fun σ ρ h R H Q hρ hh p => ?_⟩
  refine sa σ ρ h R H _ hρ hh (Post.mono (Post.bind p) fun k h1 R1 H1 e1 x1 p1 => ?_)
  cases k with
  | true => exact post_b p1 x1
  | false => exact sb σ ρ h1 R1 H1 _ (hρ.ext e1) x1 p1
theorem QW.pt {e : Expr} {m : MT} (h : QW cm X Wx e m) : QT cm X Wx e m := by
  obtain ⟨t, p, s⟩ := h
  exact ⟨t, p.pt, s⟩
def eAnd (a b : ME) : ME := fun ρ h => (a ρ h).bind fun x h1 => match x with
  | .bl true => b ρ h1
  | .bl false => .ok (.bl false) h1
  | _ => .stuck
def eNot (a : ME) : ME := fun ρ h => (a ρ h).bind fun x h1 => match x with
  | .bl k => .ok (.bl (!k)) h1
  | _ => .stuck
theorem qe_one {op : PySem.BoolOp} {a : Expr} {ma : ME} {pos : Pos} (ha : QE cm X Wx a ma) : QE cm X Wx (.BoolOp op [a] pos) ma := by
  obtain ⟨ta, pa, sa⟩ := ha
  exact ⟨_, pe_one pa, sa⟩
theorem qe_and {a b : Expr} {rest : List Expr} {ma mb : ME} {pos : Pos} (ha : QE cm X Wx a ma) (hb : QE cm X Wx (.BoolOp .And (b :: rest) pos) mb) : QE cm X Wx (.BoolOp .And (a :: b :: rest) pos) (eAnd ma mb) := by
  obtain ⟨ta, pa, sa⟩ := ha
  obtain ⟨tb, pb, sb⟩ := hb
  refine ⟨_, pe_and pa pb, fun σ ρ h R H Q hρ hh p => ?_⟩
  refine sa σ ρ h R H _ hρ hh (Post.mono (Post.bind p) fun x h1 R1 H1 e1 x1 p1 => fun vx rx => ?_)
  cases x with
  | bl k =>
    cases rx
    refine ⟨k, rfl, ?_⟩
    cases k with
    | true => exact sb σ ρ h1 R1 H1 _ (hρ.ext e1) x1 p1
    | false => exact post_v p1 x1 (.bl false)
  | _ => exact p1.elim
theorem qe_not {a : Expr} {ma : ME} {pos : Pos} (ha : QE cm X Wx a ma) : QE cm X Wx (.UnaryOp .Not a pos) (eNot ma) := by
  obtain ⟨ta, pa, sa⟩ := ha
  refine ⟨_, pe_not pa, fun σ ρ h R H Q hρ hh p => ?_⟩
  refine sa σ ρ h R H _ hρ hh (Post.mono (Post.bind p) fun x h1 R1 H1 e1 x1 p1 => fun vx rx => ?_)
  cases x with
  | bl k => cases rx; exact ⟨k, rfl, post_v p1 x1 (.bl _)⟩
  | _ => exact p1.elim
end
end Z

namespace Z
open PySem PySem.Spec PyProof.Rows L2
section
variable {cm : Str → Addr} {X : Cx} {Wx : WX}

def aNil : MA := fun _ h => .ok [] h
def aCons (a : ME) (r : MA) : MA := fun ρ h => (a ρ h).bind fun x h1 => (r ρ h1).bind fun xs h2 => .ok (x :: xs) h2
structure QAn (cm : Str → Addr) (X : Cx) (Wx : WX) (es : List Expr) (m : MA) : Prop where
  q : QA cm X Wx es m
  len : ∀ ρ h ws h', m ρ h = .ok ws h' → ws.length = es.length
theorem qa_nil : QAn cm X Wx [] aNil := ⟨⟨_, pa_nil, fun _ _ h R H Q _ hh p => p R H Ext.refl hh [] .nil⟩, fun _ _ _ _ e => by cases e; rfl⟩
theorem qa_cons {e : Expr} {es : List Expr} {m : ME} {r : MA} (ha : QE cm X Wx e m) (hr : QAn cm X Wx es r) (hs : starEach (e :: es) X.env = (false, eval e X.env) :: starEach es X.env := by rfl) : QAn cm X Wx (e :: es) (aCons m r) := by
  obtain ⟨ta, pa, sa⟩ := ha
  obtain ⟨⟨tr, pr, sr⟩, hl⟩ := hr
  refine ⟨⟨_, pa_cons pa pr hs, fun σ ρ h R H Q hρ hh p => ?_⟩, fun ρ h ws h' e => ?_⟩
  · refine sa σ ρ h R H _ hρ hh (Post.mono (Post.bind p) fun x h1 R1 H1 e1 x1 p1 => fun vx rx => ?_)
    refine sr σ ρ h1 R1 H1 _ (hρ.ext e1) x1 (Post.mono (Post.bind p1) fun xs h2 R2 H2 e2 x2 p2 => fun vs rs => ?_)
    exact p2 R2 H2 Ext.refl x2 _ (.cons (RV.ext e2 _ _ rx) rs)
  · unfold aCons at e
    cases q1 : m ρ h with
    | ok x h1 =>
      rw [q1] at e
      cases q2 : r ρ h1 with
      | ok xs h2 =>
        have e' : Res.ok (x :: xs) h2 = Res.ok ws h' := by simpa only [Res.bind, q2] using e
        cases e'
        rw [List.length_cons, hl _ _ _ _ q2]; rfl
      | exc c h2 => simp [Res.bind, q2] at e
      | stuck => simp [Res.bind, q2] at e
    | exc c h1 => rw [q1] at e; cases e
    | stuck => rw [q1] at e; cases e
def eTup (a : MA) : ME := fun ρ h => (a ρ h).bind fun xs h1 => .ok (.tup xs) h1
theorem q_tup {es : List Expr} {m : MA} {pos : Pos} {x1} (ha : QAn cm X Wx es m) (hl : es.length ≤ sizeLine := by decide) : QE cm X Wx (.Tuple es x1 pos) (eTup m) := by
  obtain ⟨⟨t, p, s⟩, hn⟩ := ha
  refine ⟨_, pe_tup p, fun σ ρ h R H Q hρ hh pp => ?_⟩
  have pp' := Post.bind pp
  have key : ∀ (r : Res (List W)), (∀ ws h', r = .ok ws h' → ws.length = es.length) → Post X.K cm R H (EXw cm Wx σ) (fun a h1 R1 H1 => Post X.K cm R1 H1 (EXw cm Wx σ) (OKv X.K Q) (.ok (.tup a) h1)) r →
      Post X.K cm R H (EXw cm Wx σ) (OKs X.K (fun xs H1 => xs.length ≤ sizeLine ∧ ∀ q, H1 q = none → Q (.ref q) (upd H1 q (.tup xs)))) r := fun r hr pr => by
    cases r with
    | ok a h1 => exact fun R1 H1 e1 x1 vs rs => ⟨by rw [← rs.length, hr a h1 rfl]; exact hl, fun q hq => post_tup (pr R1 H1 e1 x1) x1 rs hq⟩
    | exc c h1 => exact pr
    | stuck => exact pr
  exact s σ ρ h R H _ hρ hh (key _ (fun ws h' e => hn ρ h ws h' e) pp')
def eLst (t : Nat) (a : MA) : ME := fun ρ h => (a ρ h).bind fun xs h1 => mkL t xs h1
theorem q_lst {t : Nat} {es : List Expr} {m : MA} {pos : Pos} (ha : QAn cm X Wx es m) (hl : es.length ≤ sizeLine := by decide) : QE cm X Wx (.List es pos) (eLst t m) := by
  obtain ⟨⟨tt, p, s⟩, hn⟩ := ha
  refine ⟨_, pe_lst p, fun σ ρ h R H Q hρ hh pp => ?_⟩
  have pp' := Post.bind pp
  have key : ∀ (r : Res (List W)), (∀ ws h', r = .ok ws h' → ws.length = es.length) → Post X.K cm R H (EXw cm Wx σ) (fun a h1 R1 H1 => Post X.K cm R1 H1 (EXw cm Wx σ) (OKv X.K Q) (mkL t a h1)) r →
      Post X.K cm R H (EXw cm Wx σ) (OKs X.K (fun xs H1 => xs.length ≤ sizeLine ∧ ∀ q, H1 q = none → Q (.ref q) (upd H1 q (.lst xs)))) r := fun r hr pr => by
    cases r with
    | ok a h1 => exact fun R1 H1 e1 x1 vs rs => ⟨by rw [← rs.length, hr a h1 rfl]; exact hl, fun q hq => post_lst (pr R1 H1 e1 x1) x1 rs hq⟩
    | exc c h1 => exact pr
    | stuck => exact pr
  exact s σ ρ h R H _ hρ hh (key _ (fun ws h' e => hn ρ h ws h' e) pp')
def QCl (cm : Str → Addr) (X : Cx) (r : List V → Hp → VK → Prop) (f : MF) : Prop := ∀ (EX : Str → Hp → Prop) h R H xs vs Q, RH X.K cm h R H → RVs X.K H R xs vs → Post X.K cm R H EX (OKv X.K Q) (f xs h) → r vs H Q
def eCB (f : MF) (a : MA) : ME := fun ρ h => (a ρ h).bind fun xs h1 => f xs h1
theorem cb_ok {t : TA} {m : MA} {r : List V → Hp → VK → Prop} {f : MF} (hf : QCl cm X r f) (s : ∀ σ ρ h R H Q, REnv X.K H R ρ σ → RH X.K cm h R H → Post X.K cm R H (EXw cm Wx σ) (OKs X.K Q) (m ρ h) → t σ H Q) :
    ∀ σ ρ h R H Q, REnv X.K H R ρ σ → RH X.K cm h R H → Post X.K cm R H (EXw cm Wx σ) (OKv X.K Q) (eCB f m ρ h) → tCB r t σ H Q := fun σ ρ h R H Q hρ hh p =>
  s σ ρ h R H _ hρ hh (Post.mono (Post.bind p) fun xs h1 R1 H1 e1 x1 p1 => fun vs rs => hf _ _ _ _ _ _ _ x1 rs p1)
theorem q_cb {x : Str} {p pos : Pos} {e : Expr} {es : List Expr} {id : String} {r : List V → Hp → VK → Prop} {f : MF} {m : MA} (hc : CallR X (.builtin id) r) (hf : QCl cm X r f) (hg : Gl X x) (hm : X.mg x = none) (hv : bootBuiltins x = some (.builtin id)) (ha : QAn cm X Wx (e :: es) m) (hn : x ≠ "__name__" := by decide) (hdb : (x == ("__debug__" : Str)) = false := by decide) (he : starEach (e :: es) X.env = (false, eval e X.env) :: starEach es X.env := by rfl) (hpl : (backTo pos (starEach es X.env)).any (·.1) = false := by rfl) :
    QE cm X Wx (.Call (.Name x p) (e :: es) [] pos) (eCB f m) := by
  obtain ⟨⟨t, pa, s⟩, _⟩ := ha
  exact ⟨_, pe_callB hc hg hm hv pa hn hdb he hpl, cb_ok hf s⟩
theorem q_cty {x : Str} {p pos : Pos} {e : Expr} {es : List Expr} {T : String} {r : List V → Hp → VK → Prop} {f : MF} {m : MA} (hc : CallR X (.type T) r) (hf : QCl cm X r f) (hg : Gl X x) (hm : X.mg x = none) (hv : bootBuiltins x = some (.type T)) (ha : QAn cm X Wx (e :: es) m) (hn : x ≠ "__name__" := by decide) (hdb : (x == ("__debug__" : Str)) = false := by decide) (he : starEach (e :: es) X.env = (false, eval e X.env) :: starEach es X.env := by rfl) (hpl : (backTo pos (starEach es X.env)).any (·.1) = false := by rfl) :
    QE cm X Wx (.Call (.Name x p) (e :: es) [] pos) (eCB f m) := by
  obtain ⟨⟨t, pa, s⟩, _⟩ := ha
  exact ⟨_, pe_callTy hc hg hm hv pa hn hdb he hpl, cb_ok hf s⟩
def lenW : MF := fun xs h => match xs with
  | [.str x] => if x.length ≤ sizeLine then .ok (.int x.length) h else .stuck
  | [.tup ys] => .ok (.int ys.length) h
  | [.frz ys] => .ok (.int ys.length) h
  | [.kt ys] => .ok (.int ys.length) h
  | [.ref n] => match h[n]? with
    | some (.lst _ ys) => .ok (.int ys.length) h
    | some (.dct _ _ kvs) => .ok (.int kvs.length) h
    | _ => .stuck
  | _ => .stuck
theorem RD.length {K H R} {xs vs} (r : RD K H R xs vs) : xs.length = vs.length := by
  induction r with
  | nil => rfl
  | cons _ _ _ ih => simp [ih]
theorem RT.length {K H R} {xs vs} (r : RT K H R xs vs) : xs.length = vs.length := by
  induction r with
  | nil => rfl
  | cons _ _ _ ih => simp [ih]
def rLenRd : List V → Hp → VK → Prop := fun xs H Q => ∃ a, xs = [V.ref a] ∧ ((∃ kvs, L2.Rd H a (.dK kvs) ∧ Q (.int ((kvs.length : Nat) : Int)) H) ∨ ∃ kvs, L2.Rd H a (.dT kvs) ∧ Q (.int ((kvs.length : Nat) : Int)) H)
theorem call_lenRd : CallR X (.builtin "len") rLenRd := by
  intro pins s σ H xs us Q I r h
  obtain ⟨a, rfl, h⟩ := h
  rw [Vals.ref1 r]
  rcases h with ⟨kvs, ha, q⟩ | ⟨kvs, ha, q⟩
  · exact d_len I ha fun t s' I' => ⟨.int ((kvs.length : Nat) : Int), H, I', ⟨t, rfl⟩, q⟩
  · obtain ⟨z, hd, ys, rel, dd⟩ := dt_rd I.hok ha
    have e := Paired.length rel
    refine call_len_dictH hd dd (by rw [← e]; rw [sizeLine_eq] at z; omega) ?_
    rw [← e]
    exact ⟨.int ((kvs.length : Nat) : Int), H, I.tok _, ⟨_, rfl⟩, q⟩
abbrev rLenW (K : PySem.W.Frag) : List V → Hp → VK → Prop := fun xs H Q => (∃ x n, xs = [x] ∧ LenV K x H n ∧ Q (.int n) H) ∨ rLenRd xs H Q
theorem call_lenW : CallR X (.builtin "len") (rLenW X.K) := CallR.or call_len call_lenRd
theorem q_lenW : QCl cm X (rLenW X.K) lenW := by
  intro EX h R H xs vs Q hh rs p
  unfold lenW at p
  split at p
  · rename_i x
    cases rs with | cons a b =>
    cases a; cases b
    split at p
    · rename_i z; exact .inl ⟨_, x.length, rfl, ⟨z, rfl⟩, post_v p hh (.int _)⟩
    · exact p.elim
  · rename_i ys
    cases rs with | cons a b =>
    cases b
    cases a with
    | tup s r => exact .inl ⟨_, ys.length, rfl, .inr ⟨_, SqT.of s, r.length⟩, post_v p hh (.int _)⟩
  · rename_i ys
    cases rs with | cons a b =>
    cases b
    cases a with
    | frz s r => exact .inl ⟨_, ys.length, rfl, .inl ⟨_, s.sqL, r.length⟩, post_v p hh (.int _)⟩
  · rename_i ys
    cases rs with | cons a b =>
    cases b
    cases a with
    | kt s r => exact .inl ⟨_, ys.length, rfl, .inr ⟨_, s, r.length⟩, post_v p hh (.int _)⟩
  · rename_i n
    cases rs with | cons a b =>
    cases b
    cases a with
    | ref q =>
      cases z : h[n]? with
      | none => simp only [z] at p; exact p.elim
      | some o =>
        have ro := hh.get q z
        simp only [z] at p
        cases o with
        | lst t ys => cases ro with | lst a b => exact .inl ⟨_, ys.length, rfl, .inl ⟨_, SqL.of a, b.length⟩, post_v p hh (.int _)⟩
        | dct t c kvs =>
          cases c with
          | false => cases ro with | dK a b => exact .inr ⟨_, rfl, .inl ⟨_, a.rd, by rw [← b.length]; exact post_v p hh (.int _)⟩⟩
          | true => cases ro with | dT a b => exact .inr ⟨_, rfl, .inr ⟨_, a.rd, by rw [← b.length]; exact post_v p hh (.int _)⟩⟩
        | ins _ _ => exact p.elim
  · exact p.elim
def min2W : MF := fun xs h => match xs with
  | [.int i, .int j] => .ok (.int (if j < i then j else i)) h
  | _ => .stuck
theorem q_min2W : QCl cm X (fun xs H Q => ∃ i j, xs = [.int i, .int j] ∧ Q (.int (if j < i then j else i)) H) min2W := by
  intro EX h R H xs vs Q hh rs p
  unfold min2W at p
  split at p
  · cases rs with | cons a b => cases a; cases b with | cons a b => cases a; cases b; exact ⟨_, _, rfl, post_v p hh (.int _)⟩
  · exact p.elim
def intcW : MF := fun xs h => match xs with
  | [.int i] => .ok (.int i) h
  | [.bl k] => .ok (.int (if k then 1 else 0)) h
  | _ => .stuck
theorem q_intcW : QCl cm X (fun xs H Q => (∃ i, xs = [.int i] ∧ Q (.int i) H) ∨ ∃ k, xs = [.bl k] ∧ Q (.int (if k then 1 else 0)) H) intcW := by
  intro EX h R H xs vs Q hh rs p
  unfold intcW at p
  split at p
  · cases rs with | cons a b => cases a; cases b; exact .inl ⟨_, rfl, post_v p hh (.int _)⟩
  · cases rs with | cons a b => cases a; cases b; exact .inr ⟨_, rfl, post_v p hh (.int _)⟩
  · exact p.elim
def tyW (h : Hq) : W → Option (String ⊕ Str)
  | .non => some (.inl "NoneType")
  | .bl _ => some (.inl "bool")
  | .int _ => some (.inl "int")
  | .str _ => some (.inl "str")
  | .tup _ => some (.inl "tuple")
  | .frz _ => some (.inl "list")
  | .kt _ => some (.inl "tuple")
  | .ref n => match h[n]? with
    | some (.lst _ _) => some (.inl "list")
    | some (.dct _ false _) => some (.inl "dict")
    | some (.dct 0 true _) => some (.inl "dict")
    | some (.dct (_ + 1) true _) => none
    | some (.ins c _) => some (.inr c)
    | none => none
  | .exn _ _ => none
def isiW (T : String) (a : ME) : ME := fun ρ h => (a ρ h).bind fun x h1 => match tyW h1 x with
  | some (.inl s) => match kitB s T with
    | some b => .ok (.bl b) h1
    | none => .stuck
  | some (.inr _) => if isiTs.contains T then .ok (.bl false) h1 else .stuck
  | none => .stuck
theorem tyW_ok {h : Hq} {R H} {x : W} {v : V} {s : String} (hh : RH X.K cm h R H) (r : RV X.K H R x v) (e : tyW h x = some (.inl s)) : TyX X.K H v (.type s) := by
  cases x with
  | non => cases r; cases e; exact .base .non
  | bl b => cases r; cases e; exact .base (.bl _)
  | int i => cases r; cases e; exact .base (.int _)
  | str i => cases r; cases e; exact .base (.str _)
  | tup xs =>
    cases e
    cases r with
    | tup sq rs =>
      exact .base (.tup sq)
  | kt xs =>
    cases e
    cases r with
    | kt sq rs =>
      rcases sq with (sq | ⟨o, sq⟩) | ⟨o, its, n, hk, hc, _⟩
      · exact .base (.tup sq)
      · exact .fTuple sq
      · exact .kTuple hk hc
  | frz xs =>
    cases e
    cases r with
    | frz s rs =>
      rcases s with ⟨o, s⟩ | ⟨o, its, n, hk, hc, _⟩
      · exact .base (.frz s)
      · exact .kList hk hc
  | ref n =>
    cases r with
    | ref q =>
      unfold tyW at e
      cases z : h[n]? with
      | none => simp [z] at e
      | some o =>
        have ro := hh.get q z
        simp only [z] at e
        cases o with
        | lst t ys => cases e; cases ro with | lst a b => exact .base (.lst a)
        | dct t c kvs =>
          cases c with
          | false => (cases e; cases ro with | dK a b => rcases a.rd with a | ⟨ob, a⟩; exact .base (.dK a); exact .fDict a)
          | true => (cases t with | zero => (cases e; cases ro with | dT a b => exact .base (.dT a)) | succ t => cases e)
        | ins _ _ => cases e
  | exn a c => cases e
theorem q_isi {T : String} {e : Expr} {m : ME} {x y : Str} {p py pos : Pos} (hg : Gl X x) (hm : X.mg x = none) (hv : bootBuiltins x = some (.builtin "isinstance"))
    (hgy : Gl X y) (hmy : X.mg y = none) (hvy : bootBuiltins y = some (.type T)) (ha : QE cm X Wx e m) (hny : y ≠ "__name__" := by decide) (hd : (y == ("__debug__" : Str)) = false := by decide)
    (hs1 : starEach [e, .Name y py] X.env = (false, eval e X.env) :: starEach [.Name y py] X.env := by rfl) (hs2 : starEach [.Name y py] X.env = (false, eval (.Name y py) X.env) :: starEach [] X.env := by rfl)
    (hnx : x ≠ "__name__" := by decide) (hdx : (x == ("__debug__" : Str)) = false := by decide) (hpl : (backTo pos (starEach [.Name y py] X.env)).any (·.1) = false := by rfl) :
    QE cm X Wx (.Call (.Name x p) [e, .Name y py] [] pos) (isiW T m) := by
  obtain ⟨ta, pa, sa⟩ := ha
  refine ⟨_, pe_callB call_isi hg hm hv (pa_cons pa (pa_cons (pe_bltn (v := .ty T) hgy hmy hvy rfl hny hd) pa_nil hs2) hs1) hnx hdx hs1 hpl, fun σ ρ h R H Q hρ hh p => ?_⟩
  refine sa σ ρ h R H _ hρ hh (Post.mono (Post.bind p) fun w h1 R1 H1 e1 x1 p1 => fun v r => ?_)
  cases z : tyW h1 w with
  | none => simp only [z] at p1; exact p1.elim
  | some k =>
    simp only [z] at p1
    cases k with
    | inl s =>
      dsimp only at p1
      cases z2 : kitB s T with
      | none => simp only [z2] at p1; exact p1.elim
      | some b =>
        simp only [z2] at p1
        exact ⟨v, .ty T, _, _, b, rfl, .ty T, tyW_ok x1 r z, kit_ty z2, post_v p1 x1 (.bl b)⟩
    | inr c =>
      dsimp only at p1
      split at p1
      · rename_i hc
        have hc' : T ∈ isiTs := by simpa using hc
        cases w with
        | ref n =>
          cases r with
          | ref q =>
            unfold tyW at z
            cases zz : h1[n]? with
            | none => simp [zz] at z
            | some o =>
              simp only [zz] at z
              cases o with
              | ins c' fs =>
                simp only [Option.some.injEq, Sum.inr.injEq] at z
                subst z
                cases x1.get q zz with
                | ins a b I => exact ⟨_, .ty T, _, _, false, rfl, .ty T, .base (.ins a I.cl I.ha I.hn I.htk I.hm), I.no T hc', post_v p1 x1 (.bl false)⟩
              | lst _ _ => cases z
              | dct t k _ => cases k <;> cases t <;> cases z
        | _ => cases z
      · exact p1.elim
theorem atI_rv {K H R} {ws : List W} {vs : List V} {i : Int} {w : W} (r : RVs K H R ws vs) (e : atI ws i = some w) : ∃ v, atI vs i = some v ∧ RV K H R w v := by
  unfold atI at e ⊢
  rw [← r.length]
  cases q : ixN ws.length i with
  | none => rw [q] at e; cases e
  | some j =>
    rw [q] at e
    obtain ⟨v, a, b⟩ := r.get e
    exact ⟨v, a, b⟩
def ixW : F2 := fun x y h => match x, y with
  | .tup xs, .int i => match atI xs i with
    | some w => .ok w h
    | none => .stuck
  | .kt xs, .int i => match atI xs i with
    | some w => .ok w h
    | none => .stuck
  | .str z, .int i => if z.length ≤ sizeLine then (match atI z.cps.toList i with
    | some c => .ok (.str ⟨#[c]⟩) h
    | none => .stuck) else .stuck
  | x, .int i => match asL h x with
    | some xs => match atI xs i with
      | some w => .ok w h
      | none => .stuck
    | none => .stuck
  | _, _ => .stuck
theorem q_ixW : QOp cm X (rIx X.K) ixW := by
  intro EX h R H x y vx vy Q hh rx ry p
  unfold ixW at p
  split at p
  · rename_i xs i
    cases ry
    cases rx with
    | tup s r =>
      split at p
      · rename_i w e
        obtain ⟨v, a, b⟩ := atI_rv r e
        exact .inr (.inl ⟨_, _, i, v, rfl, rfl, SqT.of s, a, post_v p hh b⟩)
      · exact p.elim
  · rename_i xs i
    cases ry
    cases rx with
    | kt s r =>
      split at p
      · rename_i w e
        obtain ⟨v, a, b⟩ := atI_rv r e
        exact .inr (.inl ⟨_, _, i, v, rfl, rfl, s, a, post_v p hh b⟩)
      · exact p.elim
  · rename_i z i
    cases ry; cases rx
    split at p
    · rename_i hz
      split at p
      · rename_i c e; exact .inr (.inr ⟨z, i, c, rfl, rfl, hz, e, post_v p hh (.str _)⟩)
      · exact p.elim
    · exact p.elim
  · rename_i n i _ _ _
    cases ry
    split at p
    · rename_i xs e0
      split at p
      · rename_i w e
        obtain ⟨a, vs, rfl, s, r⟩ := asL_ok hh rx e0
        obtain ⟨v, q, b⟩ := atI_rv r e
        exact .inl ⟨a, vs, i, v, rfl, rfl, s, q, post_v p hh b⟩
      · exact p.elim
    · exact p.elim
  · exact p.elim
theorem q_ix {a b : Expr} {ma mb : ME} {pos : Pos} (ha : QE cm X Wx a ma) (hb : QE cm X Wx b mb) (hs : PlainIx b := by intro _ _; rfl) : QE cm X Wx (.Subscript a b pos) (eBin ixW ma mb) := by
  obtain ⟨ta, pa, sa⟩ := ha
  obtain ⟨tb, pb, sb⟩ := hb
  exact ⟨_, pe_ix ix_seq pa pb hs, bin_ok q_ixW sa sb⟩
abbrev MO := Ev → Hq → Res (Option Int)
def oNone : MO := fun _ h => .ok none h
def oSome (a : ME) : MO := fun ρ h => (a ρ h).bind fun x h1 => match x with
  | .int i => .ok (some i) h1
  | _ => .stuck
def QO (cm : Str → Addr) (X : Cx) (Wx : WX) (e : Option Expr) (m : MO) : Prop := ∃ t, PO X e t ∧ ∀ σ ρ h R H Q, REnv X.K H R ρ σ → RH X.K cm h R H → Post X.K cm R H (EXw cm Wx σ) (fun o _ _ H' => Q o H') (m ρ h) → t σ H Q
theorem qo_none : QO cm X Wx none oNone := ⟨_, po_none, fun σ ρ h R H Q _ hh p => p R H Ext.refl hh⟩
theorem qo_some {e : Expr} {m : ME} (ha : QE cm X Wx e m) : QO cm X Wx (some e) (oSome m) := by
  obtain ⟨t, p, s⟩ := ha
  refine ⟨_, po_some p, fun σ ρ h R H Q hρ hh pp => ?_⟩
  refine s σ ρ h R H _ hρ hh (Post.mono (Post.bind pp) fun x h1 R1 H1 e1 x1 p1 => fun v r => ?_)
  cases x with
  | int i => cases r; exact ⟨i, rfl, p1 R1 H1 Ext.refl x1⟩
  | _ => exact p1.elim
def cutL {α : Type} (xs : List α) (lo hi : Option Int) : List α := (xs.drop (HT.sIx xs.length 0 lo)).take (HT.sIx xs.length xs.length hi - HT.sIx xs.length 0 lo)
def slW (t : Nat) (x : W) (lo hi : Option Int) (h : Hq) : Res W := match x with
  | .tup xs => .ok (.tup (cutL xs lo hi)) h
  | .kt xs => if HT.sIx xs.length 0 lo = 0 ∧ HT.sIx xs.length xs.length hi = xs.length then .ok (.kt xs) h else .ok (.tup (cutL xs lo hi)) h
  | .str z => if z.length ≤ sizeLine then .ok (.str (cutS z lo hi)) h else .stuck
  | x => match asL h x with
    | some xs => mkL t (cutL xs lo hi) h
    | none => .stuck
def eSl (t : Nat) (a : ME) (lo hi : MO) : ME := fun ρ h => (a ρ h).bind fun x h1 => (lo ρ h1).bind fun l h2 => (hi ρ h2).bind fun u h3 => slW t x l u h3
theorem sl_any : SlR X (fun x lo hi H Q => rSlL X.K x lo hi H Q ∨ (rSlS x lo hi H Q ∨ rSlA X.K x lo hi H Q)) := SlR.or sl_list (SlR.or sl_str sl_tupA)
theorem cut_rv {K H R} {ws : List W} {vs : List V} (r : RVs K H R ws vs) (lo hi : Option Int) : RVs K H R (cutL ws lo hi) (cutV vs lo hi) := by
  unfold cutL cutV
  rw [r.length]
  exact (r.drop _).take _
theorem cut_all {α : Type} {xs : List α} {lo hi : Option Int} (h : HT.sIx xs.length 0 lo = 0 ∧ HT.sIx xs.length xs.length hi = xs.length) : cutL xs lo hi = xs := by
  unfold cutL
  rw [h.1, h.2]; simp
theorem q_sl {t : Nat} {a : Expr} {lo hi : Option Expr} {ma : ME} {ml mh : MO} {p2 pos : Pos} (ha : QE cm X Wx a ma) (hl : QO cm X Wx lo ml) (hu : QO cm X Wx hi mh) : QE cm X Wx (.Subscript a (.Slice lo hi none p2) pos) (eSl t ma ml mh) := by
  obtain ⟨ta, pa, sa⟩ := ha
  obtain ⟨tl, pl, sl⟩ := hl
  obtain ⟨tu, pu, su⟩ := hu
  refine ⟨_, pe_slice sl_any pa pl pu, fun σ ρ h R H Q hρ hh p => ?_⟩
  refine sa σ ρ h R H _ hρ hh (Post.mono (Post.bind p) fun x h1 R1 H1 e1 x1 p1 => fun vx rx => ?_)
  refine sl σ ρ h1 R1 H1 _ (hρ.ext e1) x1 (Post.mono (Post.bind p1) fun l h2 R2 H2 e2 x2 p2 => ?_)
  refine su σ ρ h2 R2 H2 _ ((hρ.ext e1).ext e2) x2 (Post.mono (Post.bind p2) fun u h3 R3 H3 e3 x3 p3 => ?_)
  have r := RV.ext (e2.trans e3 x3.nd) _ _ rx
  unfold slW at p3
  split at p3
  · rename_i xs
    cases r with
    | tup s rs =>
      refine .inr (.inr ⟨_, _, rfl, SqT.of s, fun e => ?_, fun e q hq => post_tup p3 x3 (cut_rv rs l u) hq⟩)
      rw [← rs.length] at e
      rw [cut_all e] at p3
      exact post_v p3 x3 (.tup s rs)
  · rename_i xs
    cases r with
    | kt s rs =>
      refine .inr (.inr ⟨_, _, rfl, s, fun e => ?_, fun e q hq => ?_⟩)
      · rw [← rs.length] at e
        rw [if_pos e] at p3
        exact post_v p3 x3 (.kt s rs)
      · rw [← rs.length] at e
        rw [if_neg e] at p3
        exact post_tup p3 x3 (cut_rv rs l u) hq
  · rename_i z
    cases r
    split at p3
    · rename_i hz; exact .inr (.inl ⟨z, rfl, hz, post_v p3 x3 (.str _)⟩)
    · exact p3.elim
  · split at p3
    · rename_i xs e0
      obtain ⟨a, vs, rfl, s, rs⟩ := asL_ok x3 r e0
      exact .inl ⟨a, vs, rfl, s, fun q hq => post_lst p3 x3 (cut_rv rs l u) hq⟩
    · exact p3.elim
def thenS (r : RS) (f : Ev → Hq → RS) : RS := match r with
  | .ok .nx ρ h => f ρ h
  | r => r
def sNop : MS := fun ρ h => .ok .nx ρ h
def sSeq (a b : MS) : MS := fun ρ h => thenS (a ρ h) b
theorem PostS.then_ {R H D} {r : RS} {f : Ev → Hq → RS} {u : TS} (h : PostS cm X Wx R H D (thenS r f)) (hu : ∀ σ ρ h R H D, REnv X.K H R ρ σ → RH X.K cm h R H → PostS cm X Wx R H D (f ρ h) → u D σ H) :
    PostS cm X Wx R H { D with nx := u D } r := by
  cases r with
  | ok fl ρ h1 =>
    cases fl with
    | nx => exact fun R' H' σ' e x rr => hu σ' ρ h1 R' H' D rr x (PostS.from_ e h)
    | bk => exact h
    | ct => exact h
    | rt w => exact h
  | exc c ρ h1 => exact h
  | stuck => exact h
theorem qb_nil : QB cm X Wx [] sNop := ⟨_, pss_nil, fun σ ρ h R H D hρ hh p => p R H σ Ext.refl hh hρ⟩
theorem qb_cons {st : Stmt} {rest : List Stmt} {a b : MS} (h1 : QS cm X Wx st a) (h2 : QB cm X Wx rest b) : QB cm X Wx (st :: rest) (sSeq a b) := by
  obtain ⟨t, p, s⟩ := h1
  obtain ⟨u, q, v⟩ := h2
  exact ⟨_, pss_cons p q, fun σ ρ h R H D hρ hh pp => s σ ρ h R H _ hρ hh (PostS.then_ pp v)⟩
theorem qb_one {st : Stmt} {a : MS} (h1 : QS cm X Wx st a) : QB cm X Wx [st] a := by
  obtain ⟨t, p, s⟩ := h1
  exact ⟨_, pss_one p, s⟩
def sExpr (a : ME) : MS := fun ρ h => (a ρ h).toS ρ fun _ h1 => .ok .nx ρ h1
theorem qs_expr {e : Expr} {m : ME} {pos : Pos} (he : QE cm X Wx e m) (hs : swapsWith e none pos.line X.env = pure false := by rfl) : QS cm X Wx (.Expr e pos) (sExpr m) := by
  obtain ⟨t, p, s⟩ := he
  refine ⟨_, ps_expr p hs, fun σ ρ h R H D hρ hh pp => ?_⟩
  exact s σ ρ h R H _ hρ hh (Post.mono (PostS.toS hρ pp) fun a h1 R1 H1 e1 x1 p1 => fun v r => p1 R1 H1 σ Ext.refl x1 (hρ.ext e1))
def sRet (a : ME) : MS := fun ρ h => (a ρ h).toS ρ fun w h1 => .ok (.rt w) ρ h1
theorem qs_ret {e : Expr} {m : ME} {pos : Pos} (he : QE cm X Wx e m) : QS cm X Wx (.Return (some e) pos) (sRet m) := by
  obtain ⟨t, p, s⟩ := he
  refine ⟨_, ps_ret p, fun σ ρ h R H D hρ hh pp => ?_⟩
  exact s σ ρ h R H _ hρ hh (Post.mono (PostS.toS hρ pp) fun a h1 R1 H1 e1 x1 p1 => fun v r => p1 R1 H1 σ Ext.refl x1 (hρ.ext e1) v r)
def sRetN : MS := fun ρ h => .ok (.rt .non) ρ h
def sBrk : MS := fun ρ h => .ok .bk ρ h
theorem qs_break {pos : Pos} : QS cm X Wx (.Break pos) sBrk := ⟨_, ps_break, fun σ ρ h R H D hρ hh p => p R H σ Ext.refl hh hρ⟩
def sIf (c : MT) (a b : MS) : MS := fun ρ h => (c ρ h).toS ρ fun k h1 => if k then a ρ h1 else b ρ h1
theorem qs_if {c : Expr} {a b : List Stmt} {mc : MT} {ma mb : MS} {pos : Pos} (hc : QT cm X Wx c mc) (ha : QB cm X Wx a ma) (hb : QB cm X Wx b mb) : QS cm X Wx (.If c a b pos) (sIf mc ma mb) := by
  obtain ⟨tc, pc, sc⟩ := hc
  obtain ⟨ta, pa, sa⟩ := ha
  obtain ⟨tb, pb, sb⟩ := hb
  refine ⟨_, ps_if pc pa pb, fun σ ρ h R H D hρ hh pp => ?_⟩
  refine sc σ ρ h R H _ hρ hh (Post.mono (PostS.toS hρ pp) fun k h1 R1 H1 e1 x1 p1 => ?_)
  cases k with
  | true => exact sa σ ρ h1 R1 H1 D (hρ.ext e1) x1 p1
  | false => exact sb σ ρ h1 R1 H1 D (hρ.ext e1) x1 p1
abbrev MG := W → Ev → Option Ev
def QG (X : Cx) (tg : Expr) (g : MG) : Prop := ∃ t, PG X tg t ∧ ∀ σ ρ R H w v Q, REnv X.K H R ρ σ → RV X.K H R w v → (match g w ρ with
  | some ρ' => ∀ σ', REnv X.K H R ρ' σ' → Q σ' H
  | none => False) → t v σ H Q
def gN (i : Nat) : MG := fun w ρ => some (ρ.set i (some w))
theorem qg_name (i : Nat) {x : Str} {pos : Pos} (hN : X.N.Nodup) (hi : X.N[i]? = some x := by rfl) (hx : Loc X.env.scope x := by first | exact Or.inl rfl | exact Or.inr rfl) (hf : X.fn x = true ∨ X.env.scope.names.lookup x = some .local := by first | exact .inl rfl | exact .inr rfl | assumption) : QG X (.Name x pos) (gN i) :=
  ⟨_, pg_name hN hi hx hf, fun σ ρ R H w v Q hρ r p => p _ (hρ.set i r)⟩
abbrev MGs := List W → Ev → Option Ev
def QGs (X : Cx) (ts : List Expr) (g : MGs) : Prop := ∃ t, PGs X ts t ∧ ∀ σ ρ R H ws vs Q, REnv X.K H R ρ σ → RVs X.K H R ws vs → (match g ws ρ with
  | some ρ' => ∀ σ', REnv X.K H R ρ' σ' → Q σ' H
  | none => False) → t vs σ H Q
def gsNil : MGs := fun ws ρ => match ws with
  | [] => some ρ
  | _ => none
def gsCons (a : MG) (r : MGs) : MGs := fun ws ρ => match ws with
  | w :: ws => match a w ρ with
    | some ρ' => r ws ρ'
    | none => none
  | [] => none
theorem qgs_nil : QGs X [] gsNil := ⟨_, pgs_nil, fun σ ρ R H ws vs Q hρ r p => by
  cases r with
  | nil => exact ⟨rfl, p σ hρ⟩
  | cons _ _ => exact p.elim⟩
theorem qgs_cons {e : Expr} {es : List Expr} {a : MG} {r : MGs} (h1 : QG X e a) (h2 : QGs X es r) (hs : (assignEach (e :: es) X.env).map (·.2) = assign e X.env :: (assignEach es X.env).map (·.2) := by rfl) : QGs X (e :: es) (gsCons a r) := by
  obtain ⟨t, p, s⟩ := h1
  obtain ⟨u, q, v⟩ := h2
  refine ⟨_, pgs_cons p q hs, fun σ ρ R H ws vs Q hρ rr pp => ?_⟩
  cases rr with
  | nil => exact pp.elim
  | @cons x v1 xs vs x1 y =>
    refine ⟨_, _, rfl, s σ ρ R H x v1 _ hρ x1 ?_⟩
    have e : gsCons a r (x :: xs) ρ = (match a x ρ with
      | some ρ' => r xs ρ'
      | none => none) := rfl
    rw [e] at pp
    cases q2 : a x ρ with
    | some ρ' =>
      simp only [q2] at pp
      exact fun σ' hρ' => v σ' ρ' R H _ _ _ hρ' y pp
    | none => simp only [q2] at pp
def gT (n : Nat) (g : MGs) : MG := fun w ρ => match w with
  | .tup xs => if xs.length = n then g xs ρ else none
  | _ => none
theorem qg_tup {es : List Expr} {k : Nat} {g : MGs} {n : Nat} {pos : Pos} (hc : X.calm = true) (h : QGs X es g) (hn : (assignEach es X.env).length = n := by rfl) (hst : (assignEach es X.env).findIdx? (·.1) = none := by rfl) : QG X (.Tuple es k pos) (gT n g) := by
  obtain ⟨t, p, s⟩ := h
  refine ⟨_, pg_tup hc p hn hst, fun σ ρ R H w v Q hρ r pp => ?_⟩
  cases w with
  | tup xs =>
    cases r with
    | tup sq rs =>
      unfold gT at pp
      dsimp only at pp
      by_cases e : xs.length = n
      · rw [if_pos e] at pp
        exact ⟨_, _, rfl, SqT.of sq, rs.length.symm.trans e, s σ ρ R H _ _ _ hρ rs pp⟩
      · rw [if_neg e] at pp; exact pp.elim
  | _ => exact pp.elim
def sAsg (a : ME) (g : MG) : MS := fun ρ h => (a ρ h).toS ρ fun w h1 => match g w ρ with
  | some ρ' => .ok .nx ρ' h1
  | none => .stuck
theorem asg_ok {te : TE} {tg : TG} {m : ME} {g : MG} (s : ∀ σ ρ h R H Q, REnv X.K H R ρ σ → RH X.K cm h R H → Post X.K cm R H (EXw cm Wx σ) (OKv X.K Q) (m ρ h) → te σ H Q)
    (sg : ∀ σ ρ R H w v Q, REnv X.K H R ρ σ → RV X.K H R w v → (match g w ρ with
      | some ρ' => ∀ σ', REnv X.K H R ρ' σ' → Q σ' H
      | none => False) → tg v σ H Q) : ∀ σ ρ h R H D, REnv X.K H R ρ σ → RH X.K cm h R H → PostS cm X Wx R H D (sAsg m g ρ h) → tAsg te tg D σ H := fun σ ρ h R H D hρ hh pp =>
  s σ ρ h R H _ hρ hh (Post.mono (PostS.toS hρ pp) fun w h1 R1 H1 e1 x1 p1 => fun v r => sg σ ρ R1 H1 w v _ (hρ.ext e1) r (by
    cases q : g w ρ with
    | some ρ' => simp only [q] at p1; exact fun σ' hρ' => p1 R1 H1 σ' Ext.refl x1 hρ'
    | none => simp only [q] at p1; exact p1.elim))
theorem qs_set (i : Nat) {x : Str} {e : Expr} {m : ME} {pos pos' : Pos} (hN : X.N.Nodup) (he : QE cm X Wx e m) (hi : X.N[i]? = some x := by rfl) (hx : Loc X.env.scope x := by first | exact Or.inl rfl | exact Or.inr rfl)
    (hs : swapsWith e (some (.Name x pos')) pos.line X.env = pure false := by rfl) (hf : X.fn x = true ∨ X.env.scope.names.lookup x = some .local := by first | exact .inl rfl | exact .inr rfl | assumption) : QS cm X Wx (.Assign [.Name x pos'] e pos) (sAsg m (gN i)) := by
  obtain ⟨te, pe, s⟩ := he
  exact ⟨_, ps_set hN hi hx pe hs hf, asg_ok s fun σ ρ R H w v Q hρ r p => p _ (hρ.set i r)⟩
structure Src where
  items : List W
  chk : Hq → Bool
abbrev MI := Ev → Hq → Res Src
def JRel (cm : Str → Addr) (X : Cx) (R1 : List Addr) (H1 : Hp) (s : Src) (J : It) : Prop :=
  ∀ i h2 R2 H2, Ext X.K R1 H1 R2 H2 → RH X.K cm h2 R2 H2 → s.chk h2 = true → (∀ w, s.items[i]? = some w → J.go i H2 ∧ ∀ x H', J.yld i H2 x H' → Ext X.K R2 H2 R2 H' ∧ RH X.K cm h2 R2 H' ∧ RV X.K H' R2 w x) ∧ (s.items.length ≤ i → J.stop i H2)
def QI (cm : Str → Addr) (X : Cx) (Wx : WX) (tg iter : Expr) (m : MI) : Prop := ∃ wi, PI X tg iter wi ∧ ∀ σ ρ h R H Rk, REnv X.K H R ρ σ → RH X.K cm h R H → Post X.K cm R H (EXw cm Wx σ) (fun s _ R1 H1 => ∀ J, JRel cm X R1 H1 s J → Rk J H1) (m ρ h) → wi σ H Rk
theorem PI.or {tg e : Expr} {w1 w2 : TI} (h1 : PI X tg e w1) (h2 : PI X tg e w2) : PI X tg e (fun σ H R => w1 σ H R ∨ w2 σ H R) := ⟨fun pins s σ H R I h => h.elim (h1.run pins s σ H R I) (h2.run pins s σ H R I)⟩
mutual
def W.beq : W → W → Bool
  | .non, .non => true
  | .bl a, .bl b => a == b
  | .int a, .int b => a == b
  | .str a, .str b => a == b
  | .tup a, .tup b => W.beqs a b
  | .frz a, .frz b => W.beqs a b
  | .kt a, .kt b => W.beqs a b
  | .ref a, .ref b => a == b
  | .exn a c, .exn b d => a == b && decide (c = d)
  | _, _ => false
def W.beqs : List W → List W → Bool
  | [], [] => true
  | a :: x, b :: y => W.beq a b && W.beqs x y
  | _, _ => false
end
mutual
theorem W.beq_eq : ∀ (a b : W), W.beq a b = true → a = b
  | .non, b, h => by cases b <;> first | rfl | cases h
  | .bl a, b, h => by
    cases b with
    | bl b => rw [eq_of_beq (show (a == b) = true by simpa [W.beq] using h)]
    | _ => cases h
  | .int a, b, h => by
    cases b with
    | int b => rw [eq_of_beq (show (a == b) = true by simpa [W.beq] using h)]
    | _ => cases h
  | .str a, b, h => by
    cases b with
    | str b => rw [eq_of_beq (show (a == b) = true by simpa [W.beq] using h)]
    | _ => cases h
  | .tup a, b, h => by
    cases b with
    | tup b => rw [W.beqs_eq a b (by simpa [W.beq] using h)]
    | _ => cases h
  | .frz a, b, h => by
    cases b with
    | frz b => rw [W.beqs_eq a b (by simpa [W.beq] using h)]
    | _ => cases h
  | .kt a, b, h => by
    cases b with
    | kt b => rw [W.beqs_eq a b (by simpa [W.beq] using h)]
    | _ => cases h
  | .ref a, b, h => by
    cases b with
    | ref b => rw [eq_of_beq (show (a == b) = true by simpa [W.beq] using h)]
    | _ => cases h
  | .exn a c, b, h => by
    cases b with
    | exn b d =>
      have h' : (a == b && decide (c = d)) = true := by simpa [W.beq] using h
      rw [Bool.and_eq_true, decide_eq_true_eq] at h'
      rw [eq_of_beq h'.1, h'.2]
    | _ => cases h
theorem W.beqs_eq : ∀ (a b : List W), W.beqs a b = true → a = b
  | [], [], _ => rfl
  | [], _ :: _, h => by cases h
  | _ :: _, [], h => by cases h
  | a :: x, b :: y, h => by
    have h' : (W.beq a b && W.beqs x y) = true := by simpa [W.beqs] using h
    rw [Bool.and_eq_true] at h'
    rw [W.beq_eq a b h'.1, W.beqs_eq x y h'.2]
end
mutual
theorem W.beq_refl : ∀ a : W, W.beq a a = true
  | .non => rfl
  | .bl a => by simp [W.beq]
  | .int a => by simp [W.beq]
  | .str a => by simp [W.beq]
  | .tup a => by simp [W.beq, W.beqs_refl a]
  | .frz a => by simp [W.beq, W.beqs_refl a]
  | .kt a => by simp [W.beq, W.beqs_refl a]
  | .ref a => by simp [W.beq]
  | .exn a c => by simp [W.beq]
theorem W.beqs_refl : ∀ a : List W, W.beqs a a = true
  | [] => rfl
  | a :: x => by simp [W.beqs, W.beq_refl a, W.beqs_refl x]
end
def stillL (x : W) (xs : List W) (h : Hq) : Bool := match asL h x with
  | some ys => W.beqs xs ys
  | none => false
theorem stillL_ok {x xs h} (e : stillL x xs h = true) : asL h x = some xs := by
  unfold stillL at e
  split at e
  · rename_i ys z; rw [z, W.beqs_eq _ _ e]
  · cases e
def iterW (x : W) (h : Hq) : Res Src := match x with
  | .tup xs => .ok ⟨xs, fun _ => true⟩ h
  | .kt xs => .ok ⟨xs, fun _ => true⟩ h
  | .str z => .ok ⟨z.cps.toList.map fun c => .str ⟨#[c]⟩, fun _ => true⟩ h
  | x => match asL h x with
    | some xs => .ok ⟨xs, stillL x xs⟩ h
    | none => .stuck
def iAny (a : ME) : MI := fun ρ h => (a ρ h).bind iterW
theorem iter_list {R H EX} {Rk : It → Hp → Prop} {w : W} {h1 : Hq} (pb : Post X.K cm R H EX (fun a h1 R1 H1 => Post X.K cm R1 H1 EX (fun s _ R1 H1 => ∀ J, JRel cm X R1 H1 s J → Rk J H1) (match asL h1 w with
    | some xs => .ok ⟨xs, stillL w xs⟩ h1
    | none => .stuck)) (Res.ok w h1)) : Post X.K cm R H EX (OKv X.K fun x H1 => ∃ a, x = .ref a ∧ (∃ xs, SqL X.K H1 a xs) ∧ Rk (Itl X.K a) H1) (Res.ok w h1) := by
  intro R1 H1 e1 x1 v r
  have pb' := pb R1 H1 e1 x1
  dsimp only at pb'
  split at pb'
  · rename_i xs e0
    obtain ⟨a, vs, rfl, sq, rs⟩ := asL_ok x1 r e0
    refine ⟨_, rfl, ⟨_, sq⟩, pb' R1 H1 Ext.refl x1 _ fun i h2 R2 H2 e2 x2 hk => ?_⟩
    obtain ⟨a', vs', ea, sq2, rs2⟩ := asL_ok x2 (RV.ext e2 _ _ r) (stillL_ok hk)
    cases ea
    refine ⟨fun w hw => ?_, fun hi => ⟨_, sq2, by rw [← rs2.length]; exact hi⟩⟩
    obtain ⟨v, hv, rv⟩ := rs2.get hw
    refine ⟨⟨_, v, sq2, hv⟩, fun x H' y => ?_⟩
    obtain ⟨rfl, y⟩ := y
    have := y _ sq2
    rw [hv] at this; cases this
    exact ⟨Ext.refl, x2, rv⟩
  · exact pb'.elim
theorem qi_any {tg e : Expr} {m : ME} (he : QE cm X Wx e m) : QI cm X Wx tg e (iAny m) := by
  obtain ⟨t, p, s⟩ := he
  refine ⟨_, PI.or (pi_list p) (PI.or (pi_tup p) (pi_str p)), fun σ ρ h R H Rk hρ hh pp => ?_⟩
  have pb := Post.bind pp
  cases q : m ρ h with
  | stuck => rw [q] at pb; exact pb.elim
  | exc c h1 =>
    rw [q] at pb
    exact .inl (s σ ρ h R H _ hρ hh (by rw [q]; exact pb))
  | ok w h1 =>
    rw [q] at pb
    cases w with
    | kt xs =>
      refine .inr (.inl (s σ ρ h R H _ hρ hh ?_))
      rw [q]
      intro R1 H1 e1 x1 v r
      cases r with
      | kt sq rs =>
        refine ⟨_, rfl, ⟨_, sq⟩, pb R1 H1 e1 x1 R1 H1 Ext.refl x1 _ fun i h2 R2 H2 e2 x2 _ => ⟨fun w hw => ?_, fun hi => ?_⟩⟩
        · obtain ⟨v, hv, rv⟩ := rs.get hw
          refine ⟨⟨_, v, sqT_ext e2.2.1 e2.2.2.1 sq, hv⟩, fun x H' y => ?_⟩
          obtain ⟨rfl, y⟩ := y
          have := y _ (sqT_ext e2.2.1 e2.2.2.1 sq)
          rw [hv] at this; cases this
          exact ⟨Ext.refl, x2, RV.ext e2 _ _ rv⟩
        · exact ⟨_, sqT_ext e2.2.1 e2.2.2.1 sq, by rw [← rs.length]; exact hi⟩
    | tup xs =>
      refine .inr (.inl (s σ ρ h R H _ hρ hh ?_))
      rw [q]
      intro R1 H1 e1 x1 v r
      cases r with
      | tup sq rs =>
        refine ⟨_, rfl, ⟨_, SqT.of sq⟩, pb R1 H1 e1 x1 R1 H1 Ext.refl x1 _ fun i h2 R2 H2 e2 x2 _ => ⟨fun w hw => ?_, fun hi => ?_⟩⟩
        · obtain ⟨v, hv, rv⟩ := rs.get hw
          refine ⟨⟨_, v, SqT.of (e2.2.1 _ _ sq), hv⟩, fun x H' y => ?_⟩
          obtain ⟨rfl, y⟩ := y
          have := y _ (SqT.of (e2.2.1 _ _ sq))
          rw [hv] at this; cases this
          exact ⟨Ext.refl, x2, RV.ext e2 _ _ rv⟩
        · exact ⟨_, SqT.of (e2.2.1 _ _ sq), by rw [← rs.length]; exact hi⟩
    | str z =>
      refine .inr (.inr (s σ ρ h R H _ hρ hh ?_))
      rw [q]
      intro R1 H1 e1 x1 v r
      cases r
      refine ⟨z, rfl, pb R1 H1 e1 x1 R1 H1 Ext.refl x1 _ fun i h2 R2 H2 e2 x2 _ => ⟨fun w hw => ?_, fun hi => ?_⟩⟩
      · rw [List.getElem?_map] at hw
        cases hc : z.cps.toList[i]? with
        | none => rw [hc] at hw; cases hw
        | some c =>
          rw [hc] at hw
          cases hw
          have hi : i < z.cps.size := by
            have := (List.getElem?_eq_some_iff.mp hc).1; simpa using this
          refine ⟨hi, fun x H' y => ?_⟩
          obtain ⟨rfl, c', hc', rfl⟩ := y
          have : c' = c := by
            rw [Array.getElem?_toList] at hc
            rw [hc] at hc'; exact (Option.some.inj hc').symm
          subst this
          exact ⟨Ext.refl, x2, .str _⟩
      · show z.cps.size ≤ i
        simpa using hi
    | non => exact .inl (s σ ρ h R H _ hρ hh (by rw [q]; exact fun R1 H1 e1 x1 v r => (pb R1 H1 e1 x1).elim))
    | bl b => exact .inl (s σ ρ h R H _ hρ hh (by rw [q]; exact fun R1 H1 e1 x1 v r => (pb R1 H1 e1 x1).elim))
    | int b => exact .inl (s σ ρ h R H _ hρ hh (by rw [q]; exact fun R1 H1 e1 x1 v r => (pb R1 H1 e1 x1).elim))
    | frz n => exact .inl (s σ ρ h R H _ hρ hh (by rw [q]; exact iter_list pb))
    | exn a c => exact .inl (s σ ρ h R H _ hρ hh (by rw [q]; exact fun R1 H1 e1 x1 v r => (pb R1 H1 e1 x1).elim))
    | ref n => exact .inl (s σ ρ h R H _ hρ hh (by rw [q]; exact iter_list pb))
def rngL (lo : Int) (n : Nat) : List W := (List.range n).map fun (k : Nat) => .int (lo + (k : Int))
def i62 (i : Int) : Bool := decide (-(2 ^ 62) ≤ i) && decide (i < 2 ^ 62)
def iRng1W (a : MA) : MI := fun ρ h => (a ρ h).bind fun xs h1 => match xs with
  | [.int j] => if i62 j then .ok ⟨rngL 0 j.toNat, fun _ => true⟩ h1 else .stuck
  | _ => .stuck
theorem jrel_rng {R1 H1} {lo : Int} {n : Nat} : JRel cm X R1 H1 ⟨rngL lo n, fun _ => true⟩ (Itr lo n) := fun i h2 R2 H2 e2 x2 _ => by
  refine ⟨fun w hw => ?_, fun hi => ?_⟩
  · have hw' : (rngL lo n)[i]? = some w := hw
    unfold rngL at hw'
    rw [List.getElem?_map] at hw'
    cases hc : (List.range n)[i]? with
    | none => rw [hc] at hw'; cases hw'
    | some c =>
      rw [hc] at hw'
      cases hw'
      obtain ⟨hlt, e⟩ := List.getElem?_eq_some_iff.mp hc
      rw [List.getElem_range] at e
      subst e
      refine ⟨show i < n by simpa using hlt, fun x H' y => ?_⟩
      obtain ⟨rfl, rfl⟩ := y
      exact ⟨Ext.refl, x2, .int _⟩
  · show n ≤ i
    have : (rngL lo n).length ≤ i := hi
    simpa [rngL] using this
theorem qi_rng1 {tg a : Expr} {m : MA} {p pos : Pos} (hg : Gl X "range") (hm : X.mg "range" = none) (ha : QAn cm X Wx [a] m) (hs : starEach [a] X.env = [(false, eval a X.env)] := by rfl) : QI cm X Wx tg (.Call (.Name "range" p) [a] [] pos) (iRng1W m) := by
  obtain ⟨⟨t, pa, s⟩, _⟩ := ha
  refine ⟨_, pi_range1 hg hm pa hs, fun σ ρ h R H Rk hρ hh pp => ?_⟩
  refine s σ ρ h R H _ hρ hh (Post.mono (Post.bind pp) fun xs h1 R1 H1 e1 x1 p1 => fun vs rs => ?_)
  split at p1
  · rename_i j
    cases rs with | cons a b =>
    cases a; cases b
    split at p1
    · rename_i z
      unfold i62 at z
      simp only [Bool.and_eq_true, decide_eq_true_eq] at z
      exact ⟨j, rfl, z.1, z.2, p1 R1 H1 Ext.refl x1 _ jrel_rng⟩
    · exact p1.elim
  · exact p1.elim
def loopF (chk : Hq → Bool) (g : MG) (b : MS) : List W → MS
  | [] => fun ρ h => if chk h then .ok .nx ρ h else .stuck
  | w :: ws => fun ρ h => if chk h then (match g w ρ with
    | some ρ1 => (match b ρ1 h with
      | .ok .nx ρ2 h2 => loopF chk g b ws ρ2 h2
      | .ok .ct ρ2 h2 => loopF chk g b ws ρ2 h2
      | .ok .bk ρ2 h2 => .ok .nx ρ2 h2
      | r => r)
    | none => .stuck) else .stuck
def sFor (i : MI) (g : MG) (b : MS) : MS := fun ρ h => (i ρ h).toS ρ fun s h1 => loopF s.chk g b s.items ρ h1
theorem qs_for {tg iter : Expr} {body : List Stmt} {mi : MI} {g : MG} {mb : MS} {pos : Pos} (hp : PassesOwn (model X.prog X.w) X.A X.env X.xe) (hc : X.calm = true) (hi : QI cm X Wx tg iter mi) (hg : QG X tg g) (hb : QB cm X Wx body mb)
    (hs : ∀ x, foldedSetIterable iter X.env x = pure x := by intro _; rfl) : QS cm X Wx (.For tg iter body [] pos) (sFor mi g mb) := by
  obtain ⟨wi, pi, si⟩ := hi
  obtain ⟨tg', pg, sg⟩ := hg
  obtain ⟨tb, pb, sb⟩ := hb
  refine ⟨_, ps_for hp hc pi pg pb hs, fun σ ρ h R H D hρ hh pp => ?_⟩
  refine si σ ρ h R H _ hρ hh (Post.mono (PostS.toS hρ pp) fun s h1 R1 H1 e1 x1 p1 => fun J hJ => ?_)
  refine ⟨fun i m σ2 H2 => ∃ ρ2 h2 R2, Ext X.K R1 H1 R2 H2 ∧ RH X.K cm h2 R2 H2 ∧ REnv X.K H2 R2 ρ2 σ2 ∧ PostS cm X Wx R2 H2 D (loopF s.chk g mb (s.items.drop i) ρ2 h2) ∧ m = s.items.length - i ∧ i ≤ s.items.length,
    ⟨s.items.length, ρ, h1, R1, Ext.refl, x1, hρ.ext e1, by simpa using p1, by simp, Nat.zero_le _⟩, ?_⟩
  rintro i m σ2 H2 ⟨ρ2, h2, R2, e2, x2, r2, p2, rfl, hle⟩
  by_cases hlt : i < s.items.length
  · refine .inr ?_
    have hd : s.items.drop i = s.items[i] :: s.items.drop (i + 1) := List.drop_eq_getElem_cons hlt
    rw [hd] at p2
    unfold loopF at p2
    by_cases hk : s.chk h2 = true
    · rw [if_pos hk] at p2
      have J1 := (hJ i h2 R2 H2 e2 x2 hk).1 s.items[i] (by simp [hlt])
      refine ⟨J1.1, fun σ' H' => ∃ m', m' < s.items.length - i ∧ ∃ ρ2 h2 R2, Ext X.K R1 H1 R2 H' ∧ RH X.K cm h2 R2 H' ∧ REnv X.K H' R2 ρ2 σ' ∧ PostS cm X Wx R2 H' D (loopF s.chk g mb (s.items.drop (i + 1)) ρ2 h2) ∧ m' = s.items.length - (i + 1) ∧ i + 1 ≤ s.items.length, fun σ' H' z => z, fun x H' y => ?_⟩
      obtain ⟨e3, x3, rv⟩ := J1.2 x H' y
      refine sg σ2 ρ2 R2 H' _ x _ (r2.ext e3) rv ?_
      cases q : g s.items[i] ρ2 with
      | none => simp only [q] at p2; exact p2.elim
      | some ρ3 =>
        simp only [q] at p2
        intro σ3 hρ3
        refine sb σ3 ρ3 h2 R2 H' _ hρ3 x3 ?_
        have p3 := PostS.from_ e3 p2
        have e13 : Ext X.K R1 H1 R2 H' := e2.trans e3 x3.nd
        cases qb : mb ρ3 h2 with
        | stuck => simp only [qb] at p3; exact p3.elim
        | exc c ρ4 h4 => simp only [qb] at p3; exact p3
        | ok f ρ4 h4 =>
          simp only [qb] at p3
          cases f with
          | nx => exact fun R4 H4 σ4 e4 x4 r4 => ⟨s.items.length - (i + 1), by omega, ρ4, h4, R4, e13.trans e4 x4.nd, x4, r4, PostS.from_ e4 p3, rfl, hlt⟩
          | ct => exact fun R4 H4 σ4 e4 x4 r4 => ⟨s.items.length - (i + 1), by omega, ρ4, h4, R4, e13.trans e4 x4.nd, x4, r4, PostS.from_ e4 p3, rfl, hlt⟩
          | bk => exact fun R4 H4 σ4 e4 x4 r4 => p3 R4 H4 σ4 e4 x4 r4
          | rt w => exact fun R4 H4 σ4 e4 x4 r4 => p3 R4 H4 σ4 e4 x4 r4
    · rw [if_neg hk] at p2; exact p2.elim
  · have he : s.items.length ≤ i := by omega
    rw [List.drop_eq_nil_of_le he] at p2
    unfold loopF at p2
    by_cases hk : s.chk h2 = true
    · rw [if_pos hk] at p2
      exact .inl ⟨(hJ i h2 R2 H2 e2 x2 hk).2 he, p2 R2 H2 σ2 Ext.refl x2 r2⟩
    · rw [if_neg hk] at p2; exact p2.elim
end

def fnB (np nn : Nat) (b : MS) : MF := fun ws h => if ws.length = np then (match b (ws.map some ++ List.replicate (nn - ws.length) none) h with
  | .ok .nx _ h' => .ok .non h'
  | .ok (.rt w) _ h' => .ok w h'
  | .exc c _ h' => .exc c h'
  | _ => .stuck) else .stuck
def spM (K : PySem.W.Frag) (cm : Str → Addr) (f : MF) : Sp := fun vs H Q E => ∃ ws h R, RVs K H R ws vs ∧ RH K cm h R H ∧ Post K cm R H (fun c H' => E (.ref (cm c)) none H') (OKv K Q) (f ws h)
theorem renv_start {K H R N ws vs} (r : RVs K H R ws vs) : REnv K H R (ws.map some ++ List.replicate (N.length - ws.length) none) (L2.start N vs) := by
  unfold L2.start
  refine ⟨by simp [r.length], fun i w e => ?_⟩
  by_cases hi : i < ws.length
  · rw [List.getElem?_append_left (by simpa using hi), List.getElem?_map] at e
    cases q : ws[i]? with
    | none => rw [q] at e; cases e
    | some w' =>
      rw [q] at e; cases e
      obtain ⟨v, hv, rv⟩ := r.get q
      refine ⟨v, ?_, rv⟩
      rw [List.getElem?_append_left (by rw [List.length_map, ← r.length]; exact hi), List.getElem?_map, hv]; rfl
  · rw [List.getElem?_append_right (by simpa using hi), List.getElem?_replicate] at e
    split at e <;> cases e
section
variable {P : Program} {w : World} {K : PySem.W.Frag} {mg : Str → Option Value} {base : Heap} {cm : Str → Addr}
end
section
variable {cm : Str → Addr} {X : Cx} {Wx : WX}
theorem q_call {x : Str} {p pos : Pos} {e : Expr} {es : List Expr} {k : Nat} {f : Addr} {fd : FuncData} {ps : List Str} {g : MF} {m : MA} (F : FnOk X.prog X.w X.K X.mg X.base (L2.CX X.prog X.w) k f fd ps (spM X.K cm g)) (tk : Takes X Wx) (hr : Room k X.A) (hg : Gl X x) (hm : X.mg x = some (.ref f)) (hk : PySem.W.keepIn X.K (.ref f) = true) (hb : Binds X.K fd ps [])
    (ha : QAn cm X Wx (e :: es) m) (hdb : (x == ("__debug__" : Str)) = false := by decide) (he : starEach (e :: es) X.env = (false, eval e X.env) :: starEach es X.env := by rfl) (hpl : (backTo pos (starEach es X.env)).any (·.1) = false := by rfl) :
    QE cm X Wx (.Call (.Name x p) (e :: es) [] pos) (eCB g m) := by
  obtain ⟨⟨t, pa, s⟩, _⟩ := ha
  refine ⟨_, pe_callS F hr hg hm hk hb (fun σ => passAt tk σ) pa hdb he hpl, fun σ ρ h R H Q hρ hh p => ?_⟩
  exact s σ ρ h R H _ hρ hh (Post.mono (Post.bind p) fun ws h1 R1 H1 e1 x1 p1 => fun vs rs => ⟨ws, h1, R1, rs, x1, p1⟩)
def eCB0 (f : MF) : ME := fun _ h => f [] h
end
end Z

namespace Z
open PySem PySem.Spec PyProof.Rows L2
section
variable {prog : Program} {w : World} {A : Around} {E : Value → Shared → Prop} {s : Shared}
end
section
variable {cm : Str → Addr} {X : Cx} {Wx : WX}
end
end Z

namespace Z
open PySem PySem.Spec PyProof.Rows L2
structure Bs (fa : List He.Fa) (fn : List He.DefD) (ts : List He.Tab) (P : Program) (w : World) (K : PySem.W.Frag) (mg : Str → Option Value) (base : Heap) : Prop where
  says : He.SaysT fa fn ts w K
  ex : ∃ h : Heap, K.In h ∧ h.Ns mainGlobals mg
section
variable {fa : List He.Fa} {fn : List He.DefD} {ts : List He.Tab} {P : Program} {w : World} {K : PySem.W.Frag} {mg : Str → Option Value} {base : Heap}
theorem Bs.glo (B : Bs fa fn ts P w K mg base) (i : Nat) {x : Str} (h : fa[i]? = some (.glo x) := by rfl) : mg x = some (.ref (He.ga K x)) := by
  obtain ⟨hh, a, b⟩ := B.ex
  exact He.glo_ok a b (B.says.d.fact i h)
theorem Bs.free (B : Bs fa fn ts P w K mg base) (i : Nat) {x : Str} (h : fa[i]? = some (.free x) := by rfl) : mg x = none := by
  obtain ⟨hh, a, b⟩ := B.ex
  exact He.free_ok a b (B.says.d.fact i h)
theorem Bs.int (B : Bs fa fn ts P w K mg base) (i : Nat) {x : Str} {n : Int} (h : fa[i]? = some (.int x n) := by rfl) : ∃ t, mg x = some (.int n t) := by
  obtain ⟨hh, a, b⟩ := B.ex
  exact He.int_ok a b (B.says.d.fact i h)
theorem Bs.str (B : Bs fa fn ts P w K mg base) (i : Nat) {x z : Str} (h : fa[i]? = some (.str x z) := by rfl) : ∃ t, mg x = some (.str z t) := by
  obtain ⟨hh, a, b⟩ := B.ex
  exact He.str_ok a b (B.says.d.fact i h)
structure Cal (P : Program) (w : World) (K : PySem.W.Frag) (mg : Str → Option Value) (base : Heap) (k : Nat) (x : Str) (g : MF) : Prop where
  ex : ∃ (f : Addr) (fd : FuncData) (ps : List Str), FnOk P w K mg base (L2.CX P w) k f fd ps (spM K (He.ga K) g) ∧ mg x = some (.ref f) ∧ PySem.W.keepIn K (.ref f) = true ∧ Binds K fd ps []
theorem qf_okD {x qual : Str} {params : Arguments} {body : List Stmt} {scope : Scope} {dvs : List V} {kws : List (Str × V)} {f : Addr} {fd : FuncData} {cm : Str → Addr} {N ps : List Str} {k : Nat} {m : MS} (F : FunD K x qual params body scope dvs kws f fd) (S : FnScope N ps scope)
    (hb : ∀ (cdv : Value) (A : Around) (outer : List Env) (s : Shared) (H : Hp) (E : XK), Room k (A.deeper (envOfC qual scope s.heap.objs.size f cdv)) →
      QB cm (cxOf (L2.CX P w) P w K mg base N qual scope f cdv A outer s H E) (fun cls d _ H => E cls d H) body m) :
    FnOk P w K mg base (L2.CX P w) (k + 1) f fd ps (spM K cm (fnB ps.length N.length m)) := by
  refine F.ok S (fun vs H Q E h => ?_) (fun cdv A outer s H vs Q E hr h => ?_)
  · obtain ⟨ws, h, R, rs, _, p⟩ := h
    unfold fnB at p
    by_cases e : ws.length = ps.length
    · rw [← rs.length]; exact e
    · rw [if_neg e] at p; exact p.elim
  · obtain ⟨ws, h, R, rs, hh, p⟩ := h
    obtain ⟨t, pt, st'⟩ := hb cdv A outer s H E hr
    refine ⟨t, pt, st' _ _ h R H _ (renv_start rs) hh ?_⟩
    unfold fnB at p
    by_cases e : ws.length = ps.length
    · rw [if_pos e] at p
      cases q : m (ws.map some ++ List.replicate (N.length - ws.length) none) h with
      | stuck => rw [q] at p; exact p.elim
      | exc c ρ' h' => rw [q] at p; exact fun R' H' σ' e' x' _ => p R' H' e' x'
      | ok fl ρ' h' =>
        rw [q] at p
        cases fl with
        | nx => exact fun R' H' σ' e' x' _ => p R' H' e' x' _ .non
        | rt w => exact fun R' H' σ' e' x' _ v rv => p R' H' e' x' v rv
        | bk => exact p.elim
        | ct => exact p.elim
    · rw [if_neg e] at p; exact p.elim
end
section
variable {X : Cx} {Wx : WX}
theorem q_cal {x : Str} {p pos : Pos} {e : Expr} {es : List Expr} {k j : Nat} {g : MF} {m : MA} (c : Cal X.prog X.w X.K X.mg X.base k x g) (tk : Takes X Wx) (hr : Room j X.A) (hk : k ≤ j) (hg : Gl X x)
    (ha : QAn (He.ga X.K) X Wx (e :: es) m) (hdb : (x == ("__debug__" : Str)) = false := by decide) (he : starEach (e :: es) X.env = (false, eval e X.env) :: starEach es X.env := by rfl) (hpl : (backTo pos (starEach es X.env)).any (·.1) = false := by rfl) :
    QE (He.ga X.K) X Wx (.Call (.Name x p) (e :: es) [] pos) (eCB g m) := by
  obtain ⟨f, fd, ps, F, hm, kp, hb⟩ := c.ex
  exact q_call F tk (hr.mono hk) hg hm kp hb ha hdb he hpl
end
theorem pss_hold {X : Cx} {sts : List Stmt} {t : TS} (h : PSs X sts t) : PSs X sts (tLock t) := ⟨fun pins s σ H D I hw => by
  obtain ⟨d, u, hd, mu, k⟩ := hw
  obtain ⟨od, J⟩ := I.lock hd mu
  refine thn (h.run pins s σ _ _ J (k od)) fun f s1 q => ?_
  have nf := I.nofrz hd mu
  cases f with
  | ret v =>
    obtain ⟨x, σ2, H2, J2, r, q⟩ := q
    exact ⟨x, σ2, _, J2.unlock q.1 nf, r, q.2⟩
  | next =>
    obtain ⟨σ2, H2, J2, q⟩ := q
    exact ⟨σ2, _, J2.unlock q.1 nf, q.2⟩
  | brk =>
    obtain ⟨σ2, H2, J2, q⟩ := q
    exact ⟨σ2, _, J2.unlock q.1 nf, q.2⟩
  | cont =>
    obtain ⟨σ2, H2, J2, q⟩ := q
    exact ⟨σ2, _, J2.unlock q.1 nf, q.2⟩⟩
def spL (K : PySem.W.Frag) (cm : Str → Addr) (g : MF) : Sp := fun vs H Q E => spM K cm g vs H Q E ∨
  ∃ (a : Addr) (xs : List V), vs = [V.ref a] ∧ H a = some (.lst xs) ∧ ∀ od, spM K cm g vs (upd H a (.frz od (.lst xs))) (fun v H' => Q v (upd H' a (.lst xs))) fun _ _ _ => False
theorem qf_okL {P : Program} {w : World} {K : PySem.W.Frag} {mg : Str → Option Value} {base : Heap} {x qual : Str} {params : Arguments} {body : List Stmt} {scope : Scope} {dvs : List V} {kws : List (Str × V)} {f : Addr} {fd : FuncData} {cm : Str → Addr} {N ps : List Str} {k : Nat} {m : MS} (F : FunD K x qual params body scope dvs kws f fd) (S : FnScope N ps scope)
    (hb : ∀ (cdv : Value) (A : Around) (outer : List Env) (s : Shared) (H : Hp) (E : XK), Room k (A.deeper (envOfC qual scope s.heap.objs.size f cdv)) →
      QB cm (cxOf (L2.CX P w) P w K mg base N qual scope f cdv A outer s H E) (fun cls d _ H => E cls d H) body m) :
    FnOk P w K mg base (L2.CX P w) (k + 1) f fd ps (spL K cm (fnB ps.length N.length m)) := by
  have len : ∀ {vs : List V} {H : Hp} {Q : VK} {E : XK}, spM K cm (fnB ps.length N.length m) vs H Q E → vs.length = ps.length := fun {vs H Q E} h => by
    obtain ⟨ws, h, R, rs, _, p⟩ := h
    unfold fnB at p
    by_cases e : ws.length = ps.length
    · rw [← rs.length]; exact e
    · rw [if_neg e] at p; exact p.elim
  refine F.ok S (fun vs H Q E h => ?_) (fun cdv A outer s H vs Q E hr h => ?_)
  · rcases h with h | ⟨a, xs, rfl, ha, h⟩
    · exact len h
    · exact len (h { cls := .none, data := .fields #[] })
  · obtain ⟨t, pt, st'⟩ := hb cdv A outer s H E hr
    have core : ∀ (H1 : Hp) (D : Ends) (E1 : XK), spM K cm (fnB ps.length N.length m) vs H1 (fun v H' => D.rt v H') E1 → (∀ c d H', E1 c d H' → E c d H') → (∀ R' H', (∃ R, Ext K R H1 R' H') → ∀ σ', D.rt .non H' → D.nx σ' H') → t D (start N vs) H1 := fun H1 D E1 h kE kn => by
      obtain ⟨ws, h, R, rs, hh, p⟩ := h
      refine st' _ _ h R H1 _ (renv_start rs) hh ?_
      unfold fnB at p
      by_cases e : ws.length = ps.length
      · rw [if_pos e] at p
        cases q : m (ws.map some ++ List.replicate (N.length - ws.length) none) h with
        | stuck => rw [q] at p; exact p.elim
        | exc c ρ' h' => rw [q] at p; exact fun R' H' σ' e' x' _ => kE _ _ _ (p R' H' e' x')
        | ok fl ρ' h' =>
          rw [q] at p
          cases fl with
          | nx => exact fun R' H' σ' e' x' _ => kn R' H' ⟨R, e'⟩ σ' (p R' H' e' x' _ .non)
          | rt w => exact fun R' H' σ' e' x' _ v rv => p R' H' e' x' v rv
          | bk => exact p.elim
          | ct => exact p.elim
      · rw [if_neg e] at p; exact p.elim
    rcases h with h | ⟨a, xs, rfl, ha, h⟩
    · exact ⟨t, pt, core H _ E h (fun _ _ _ z => z) fun _ _ _ _ z => z⟩
    · refine ⟨_, pss_hold pt, a, .lst xs, ha, trivial, fun od => ?_⟩
      obtain ⟨ws, h0, R, rs, hh, p⟩ := h od
      refine core _ _ (fun _ _ _ => False) ⟨ws, h0, R, rs, hh, Post.mono p fun w h' R' H' e x z => fun v rv => ⟨e.2.2.1 _ _ _ upd_same, z v rv⟩⟩ (fun _ _ _ z => z.elim) fun R' H' _ σ' z => z
theorem law_end {l : PySem.W.OpenLaw} {n k : Nat} {q : Program} {loose : List Str} {XP : (Str → Option Value) → Heap → Prop} {YP : World → Heap → Prop} {d : DefRec} {x : Str} {g : MF}
    (hn : l.most = some n) (hn2 : n ≤ sizeLine) (hdf : d.params.defaults = []) (hr : Room k callerA)
    (F : ∀ (w : World) (mg : Str → Option Value) (fa : Addr) (h : Heap), YP w h → h.Ns mainGlobals mg → mg d.name = some (.ref fa) →
      ∃ (K : PySem.W.Frag) (fd : FuncData) (cs : List (Addr × Addr)), K.In h ∧ (∀ p ∈ cs, h.get? p.2 = some { cls := .none, data := .fields #[] }) ∧ (∀ p ∈ cs, K.lookup p.2 = none) ∧ (∀ p ∈ cs, PySem.W.CodeHd h p.1 p.2) ∧ (∀ P ∈ tabA K, ∃ p ∈ cs, p.2 = P) ∧
        (∀ (s : Shared) (u : Value), BindsTo s fd ⟨[u], []⟩ [(x, u)]) ∧ ∀ base : Heap, (∀ p ∈ cs, LamX.TabB base mg p.1 p.2) → FnOk l.prog w K mg base (L2.CX l.prog w) k fa fd [x] (spL K (He.ga K) g))
    (hg : ∀ ns : List Int, ns.length ≤ n → (∀ z ∈ ns, Builtin.Int.intBits z ≤ 1048576) → ∃ h', g [.frz (ns.map W.int)] [] = .ok (.bl true) h') :
    PySem.W.WalkO q loose XP YP l.row.toRowW d [] (fun f vs => PySem.call f vs) := by
  refine LamX.walk_ofTsE (CX := fun w => L2.CX l.prog w) (n := n) (k := k) (x := x) hn hn2 hdf hr (fun w mg fa h Y G hmg => ?_) fun w H s e s' hc => ?_
  · obtain ⟨K, fd, cs, KX, hT, nT, C, hA, hb, hF⟩ := F w mg fa h Y G hmg
    refine ⟨K, KX, fd, cs, spL K (He.ga K) g, hT, nT, C, hb, fun H a ns hl hbits hH hS => ?_, fun base _ _ tb => hF base tb⟩
    obtain ⟨h', e⟩ := hg ns hl hbits
    have tab : TabsK K H := fun P hP => by
      obtain ⟨p, hp, rfl⟩ := hA P hP
      exact LamX.TabS.nil (hH p hp)
    have rs : ∀ H : Hp, RVs K H [] (ns.map W.int) (ns.map V.int) := fun H => by
      clear hS e hl hbits
      induction ns with
      | nil => exact .nil
      | cons z r ih => exact .cons (.int z) ih
    have go : ∀ (H : Hp) (Q : VK) (E : XK), TabsK K H → SqF K H a (ns.map V.int) → (∀ H', Q (.bl true) H') → spM K (He.ga K) g [.ref a] H Q E := fun H Q E tab sq hQ => by
      refine ⟨[.frz (ns.map W.int)], [], [], .cons (.frz sq (rs H)) .nil, ⟨rfl, List.nodup_nil, (fun n o z => by simp at z), tab⟩, ?_⟩
      rw [e]
      exact fun R' H' _ _ v r => by cases r; exact hQ H'
    rcases hS with (hS | hS) | hS
    · refine .inr ⟨a, _, rfl, hS, fun od => go _ _ _ (fun P hP => ?_) (.inl ⟨od, upd_same⟩) fun _ => rfl⟩
      obtain ⟨p, hp, rfl⟩ := hA P hP
      refine LamX.TabS.nil ?_
      rw [upd_ne (fun z => by have := hH p hp; rw [z, hS] at this; cases this)]
      exact hH p hp
    · exact .inl (go _ _ _ tab (.inl hS) fun _ => rfl)
    · exact .inl (go _ _ _ tab (.inr hS) fun _ => rfl)
  · obtain ⟨_, _, _, _, _, _, _, _, _, _, _, _, z⟩ := hc
    exact z
end Z

namespace Z
open PySem L2
theorem bind_ok {α β : Type} {a : α} {h : Hq} {f : α → Hq → Res β} : (Res.ok a h).bind f = f a h := id rfl
theorem sizeL : sizeLine = 16777216 := sizeLine_eq
section
variable {ρ : Ev} {h : Hq} {a b c : ME} {f f2 : F2} {m : MA} {t t2 : MT} {s s2 : MS} {g : MG} {gs : MGs} {mf : MF} {w : W} {i n : Nat} {ws : List W}
end
theorem wideB_big : 10 ^ 60 < wideB := by unfold wideB; decide +kernel
theorem fdivW_ok {i j : Int} {h : Hq} (h0 : 0 < j) (h1 : j ≤ 1000000000000000000000000000000000000000000000000000000000000) : fdivW (.int i) (.int j) h = .ok (.int (i / j)) h := by
  have h2 : j.natAbs < wideB := Nat.lt_of_le_of_lt (show j.natAbs ≤ 10 ^ 60 by omega) wideB_big
  unfold fdivW
  simp only [h0, h2, decide_true, Bool.and_self, if_true]
theorem asL_ref {n t : Nat} {xs : List W} {h : Hq} (e : h[n]? = some (.lst t xs)) : asL h (.ref n) = some xs := by
  unfold asL
  simp only [e]
theorem slen_one (c : Nat) : (⟨#[c]⟩ : Str).length = 1 := id rfl
theorem i62_of {i : Int} (h : -4611686018427387904 ≤ i) (h2 : i < 4611686018427387904) : i62 i = true := by
  unfold i62
  simp only [Bool.and_eq_true, decide_eq_true_eq]
  omega
section
variable {t : Nat} {i j : Int} {a b : Str} {xs ys : List W} {m n : Nat} {h : Hq} {neg p r : Bool}
end
end Z

namespace Z
open PySem PySem.Spec PyProof.Rows L2

def putW (f : Str) (v : W) : List (Str × W) → List (Str × W)
  | [] => [(f, v)]
  | (g, x) :: r => if g = f then (g, v) :: r else (g, x) :: putW f v r
section
variable {K : PySem.W.Frag} {H : Hp} {R : List Addr}
theorem RF.get {f : Str} : ∀ {fs : List (Str × W)} {vs : List (Str × V)} {x : W}, RF K H R fs vs → fs.lookup f = some x → ∃ v, vs.lookup f = some v ∧ RV K H R x v
  | [], _, _, _, e => by cases e
  | (g, y) :: r, _, x, h, e => by
    cases h with
    | cons a b =>
      rw [List.lookup_cons] at e ⊢
      cases q : (f == g) with
      | true => rw [q] at e; cases e; exact ⟨_, rfl, a⟩
      | false => rw [q] at e; exact RF.get b e
theorem RF.none {f : Str} : ∀ {fs : List (Str × W)} {vs : List (Str × V)}, RF K H R fs vs → fs.lookup f = .none → vs.lookup f = .none
  | [], _, h, _ => by cases h; rfl
  | (g, y) :: r, _, h, e => by
    cases h with
    | cons a b =>
      rw [List.lookup_cons] at e ⊢
      cases q : (f == g) with
      | true => rw [q] at e; cases e
      | false => rw [q] at e; exact RF.none b e
theorem RF.put {f : Str} {x : W} {v : V} (rx : RV K H R x v) : ∀ {fs : List (Str × W)} {vs : List (Str × V)}, RF K H R fs vs → RF K H R (putW f x fs) (putF f v vs)
  | [], _, h => by cases h; exact .cons rx .nil
  | (g, y) :: r, _, h => by
    cases h with
    | cons a b =>
      unfold putW putF
      by_cases e : g = f
      · rw [if_pos e, if_pos e]; exact .cons rx b
      · rw [if_neg e, if_neg e]; exact .cons a (RF.put rx b)
theorem RF.length {fs vs} (h : RF K H R fs vs) : fs.length = vs.length := by
  induction h with
  | nil => rfl
  | cons _ _ ih => simp [ih]
end
section
variable {cm : Str → Addr} {X : Cx} {Wx : WX}
def asI (h : Hq) : W → Option (Nat × Str × List (Str × W))
  | .ref n => match h[n]? with
    | some (.ins c fs) => some (n, c, fs)
    | _ => none
  | _ => none
theorem asI_ok {h : Hq} {R H} {x : W} {n : Nat} {c : Str} {fs : List (Str × W)} {v : V} (hh : RH X.K cm h R H) (r : RV X.K H R x v) (e : asI h x = some (n, c, fs)) :
    ∃ a dx vs, x = .ref n ∧ v = .ref a ∧ R[n]? = some a ∧ H a = some (.ins (cm c) dx vs) ∧ RF X.K H R fs vs ∧ CI X.K c (cm c) := by
  cases x with
  | ref m =>
    cases r with
    | ref q =>
      unfold asI at e
      cases z : h[m]? with
      | none => simp [z] at e
      | some o =>
        have ro := hh.get q z
        cases o with
        | ins c' fs' =>
          simp only [z, Option.some.injEq, Prod.mk.injEq] at e
          obtain ⟨rfl, rfl, rfl⟩ := e
          cases ro with | ins a b i => exact ⟨_, _, _, rfl, rfl, q, a, b, i⟩
        | _ => simp [z] at e
  | _ => simp [asI] at e
def fldW (f : Str) (x : W) (h : Hq) : Res W := match asI h x with
  | some (_, c, fs) => if (fieldsOf c).contains f then (match fs.lookup f with
    | some w => .ok w h
    | none => .stuck) else .stuck
  | none => .stuck
def eFld (f : Str) (a : ME) : ME := fun ρ h => (a ρ h).bind fun x h1 => fldW f x h1
theorem q_fld {f : Str} {e : Expr} {m : ME} {pos : Pos} (he : QE cm X Wx e m) (hb : attributeBase e f X.env (eval e X.env) = eval e X.env := by rfl) : QE cm X Wx (.Attribute e f pos) (eFld f m) := by
  obtain ⟨t, p, s⟩ := he
  refine ⟨_, pe_fld p hb, fun σ ρ h R H Q hρ hh pp => ?_⟩
  refine s σ ρ h R H _ hρ hh (Post.mono (Post.bind pp) fun x h1 R1 H1 e1 x1 p1 => fun v r => ?_)
  unfold fldW at p1
  cases z : asI h1 x with
  | none => simp only [z] at p1; exact p1.elim
  | some k =>
    obtain ⟨n, c, fs⟩ := k
    simp only [z] at p1
    obtain ⟨a, dx, vs, rfl, rfl, hn, ha, rf, ci⟩ := asI_ok x1 r z
    split at p1
    · rename_i hc
      cases zl : fs.lookup f with
      | none => simp only [zl] at p1; exact p1.elim
      | some w =>
        simp only [zl] at p1
        obtain ⟨u, hu, ru⟩ := rf.get zl
        exact ⟨a, _, dx, vs, u, rfl, ha, ci.cl, ci.na f (by simpa using hc), hu, post_v p1 x1 ru⟩
    · exact p1.elim
def setW (f : Str) (x y : W) (h : Hq) : Option Hq := match asI h x with
  | some (n, c, fs) => if (fieldsOf c).contains f && decide (fs.length < 1000) then some (h.set n (.ins c (putW f y fs))) else none
  | none => none
def sFld (f : Str) (o e : ME) : MS := fun ρ h => (e ρ h).toS ρ fun y h1 => (o ρ h1).toS ρ fun x h2 => match setW f x y h2 with
  | some h3 => .ok .nx ρ h3
  | none => .stuck
theorem qs_fld {f : Str} {o e : Expr} {mo me : ME} {pos pos' : Pos} (ho : QE cm X Wx o mo) (he : QE cm X Wx e me) (hs : swapsWith e (some (.Attribute o f pos')) pos.line X.env = pure false := by rfl) : QS cm X Wx (.Assign [.Attribute o f pos'] e pos) (sFld f mo me) := by
  obtain ⟨to, po, so⟩ := ho
  obtain ⟨te, pe, se⟩ := he
  refine ⟨_, ps_fld po pe hs, fun σ ρ h R H D hρ hh pp => ?_⟩
  refine se σ ρ h R H _ hρ hh (Post.mono (PostS.toS hρ pp) fun y h1 R1 H1 e1 x1 p1 => fun vy ry => ?_)
  refine so σ ρ h1 R1 H1 _ (hρ.ext e1) x1 (Post.mono (PostS.toS (hρ.ext e1) p1) fun x h2 R2 H2 e2 x2 p2 => fun vx rx => ?_)
  unfold setW at p2
  cases z : asI h2 x with
  | none => simp only [z] at p2; exact p2.elim
  | some k =>
    obtain ⟨n, c, fs⟩ := k
    simp only [z] at p2
    obtain ⟨a, dx, vs, rfl, rfl, hn, ha, rf, ci⟩ := asI_ok x2 rx z
    by_cases hc : ((fieldsOf c).contains f && decide (fs.length < 1000)) = true
    · simp only [hc, if_true] at p2
      simp only [Bool.and_eq_true, decide_eq_true_eq] at hc
      refine ⟨a, _, dx, vs, rfl, ha, ci.cl, ci.na f (by simpa using hc.1), by rw [← rf.length]; exact hc.2, ?_⟩
      have ex : Ext X.K R2 H2 R2 (upd H2 a (.ins (cm c) dx (putF f vy vs))) := Ext.write (by assumption) hn ha (fun _ q => by cases q) (fun _ _ q => by cases q)
      have ry2 := RV.ext e2 _ _ ry
      exact p2 R2 _ σ ex (x2.write hn ha (fun _ q => by cases q) (fun _ _ q => by cases q) (.ins upd_same (RF.ext ex (RF.put ry2 rf)) ci)) (((hρ.ext e1).ext e2).ext ex)
    · simp only [Bool.not_eq_true] at hc
      simp only [hc, Bool.false_eq_true, if_false] at p2
      exact p2.elim
structure Met (X : Cx) (cm : Str → Addr) (k : Nat) (c m : Str) (g : MF) : Prop where
  ex : ∃ (f : Addr) (fd : FuncData) (ps : List Str), Cls X.K (cm c) ∧ Meth X.K (cm c) m f ∧ FnOk X.prog X.w X.K X.mg X.base (L2.CX X.prog X.w) k f fd ps (spM X.K cm g) ∧ Binds X.K fd ps []
def eMeth (c m : Str) (g : MF) (o : ME) (a : MA) : ME := fun ρ h => (o ρ h).bind fun x h1 => match asI h1 x with
  | some (_, c', fs) => if c' = c ∧ fs.lookup m = none then (a ρ h1).bind fun ws h2 => g (x :: ws) h2 else .stuck
  | none => .stuck
def tMethQ (cm : Str → Addr) (K : PySem.W.Frag) (Wx : WX) (c m : Str) (g : MF) (to : TE) (t : TA) : TE := fun σ H Q => to σ H fun x H1 => ∃ a dx fs, x = .ref a ∧ H1 a = some (.ins (cm c) dx fs) ∧ fs.lookup m = none ∧ t σ H1 fun vs H2 => spM K cm g (x :: vs) H2 Q (WE Wx σ)
theorem meth_ok {to : TE} {t : TA} {c m : Str} {g : MF} {mo : ME} {ma : MA}
    (so : ∀ σ ρ h R H Q, REnv X.K H R ρ σ → RH X.K cm h R H → Post X.K cm R H (EXw cm Wx σ) (OKv X.K Q) (mo ρ h) → to σ H Q)
    (sa : ∀ σ ρ h R H Q, REnv X.K H R ρ σ → RH X.K cm h R H → Post X.K cm R H (EXw cm Wx σ) (OKs X.K Q) (ma ρ h) → t σ H Q) :
    ∀ σ ρ h R H Q, REnv X.K H R ρ σ → RH X.K cm h R H → Post X.K cm R H (EXw cm Wx σ) (OKv X.K Q) (eMeth c m g mo ma ρ h) → tMethQ cm X.K Wx c m g to t σ H Q := fun σ ρ h R H Q hρ hh pp => by
  refine so σ ρ h R H _ hρ hh (Post.mono (Post.bind pp) fun x h1 R1 H1 e1 x1 p1 => fun v r => ?_)
  cases z : asI h1 x with
  | none => simp only [z] at p1; exact p1.elim
  | some k =>
    obtain ⟨n, c', fs⟩ := k
    simp only [z] at p1
    obtain ⟨a, dx, vs, rfl, rfl, hn, ha, rf, ci⟩ := asI_ok x1 r z
    split at p1
    · rename_i hc
      obtain ⟨rfl, hl⟩ := hc
      refine ⟨a, dx, vs, rfl, ha, rf.none hl, ?_⟩
      exact sa σ ρ h1 R1 H1 _ (hρ.ext e1) x1 (Post.mono (Post.bind p1) fun ws h2 R2 H2 e2 x2 p2 => fun us rs => ⟨_, h2, R2, .cons (RV.ext e2 _ _ r) rs, x2, p2⟩)
    · exact p1.elim
structure Prp (X : Cx) (cm : Str → Addr) (k : Nat) (c f : Str) (g : MF) : Prop where
  ex : ∃ (p ga : Addr) (fd : FuncData) (ps : List Str), Cls X.K (cm c) ∧ PropOf X.K (cm c) f p ga ∧ FnOk X.prog X.w X.K X.mg X.base (L2.CX X.prog X.w) k ga fd ps (spM X.K cm g) ∧ Binds X.K fd ps []
structure Sta (X : Cx) (cm : Str → Addr) (k : Nat) (c m : Str) (g : MF) : Prop where
  ex : ∃ (mc : Value) (p f : Addr) (fd : FuncData) (ps : List Str) (rest : List Value), X.mg c = some (.ref (cm c)) ∧ (PySem.W.readsIn X.K (cm c) mc = true ∧ PySem.W.specialIn X.K (.ref (cm c)) "__getattribute__" = some (some (.builtin "type.__getattribute__"))) ∧ PySem.W.findCls X.K (.ref (cm c)) mc m = some (.get (.builtin "staticmethod.__get__") (.ref p) .none (.ref (cm c))) ∧
    PySem.W.recIn X.K p "staticmethod" = some (.ref f :: rest) ∧ PySem.W.keepIn X.K (.ref f) = true ∧ FnOk X.prog X.w X.K X.mg X.base (L2.CX X.prog X.w) k f fd ps (spM X.K cm g) ∧ Binds X.K fd ps []
structure Mkr (X : Cx) (cm : Str → Addr) (k : Nat) (c : Str) (g : MF) : Prop where
  ci : CI X.K c (cm c)
  ex : ∃ (f : Addr) (fd : FuncData) (ps : List Str), X.mg c = some (.ref (cm c)) ∧ Mk X.K (cm c) f ∧ FnOk X.prog X.w X.K X.mg X.base (L2.CX X.prog X.w) k f fd ps (spM X.K cm g) ∧ Binds X.K fd ps []
def makeW (c : Str) (g : MF) (ws : List W) (h : Hq) : Res W := (g (.ref h.length :: ws) (h ++ [.ins c []])).bind fun r h2 => match r with
  | .non => .ok (.ref h.length) h2
  | _ => .stuck
theorem make_new {c : Str} {g : MF} {h : Hq} {R H} {ws : List W} {vs : List V} {EX : Str → Hp → Prop} {Q : VK} {E : XK} (ci : CI X.K c (cm c)) (hh : RH X.K cm h R H) (rs : RVs X.K H R ws vs) (hE : ∀ c H', EX c H' → E (.ref (cm c)) none H')
    (p : Post X.K cm R H EX (OKv X.K Q) (makeW c g ws h)) (x dx : Addr) (nx : H x = none) (nd : H dx = none) (ne : dx ≠ x) :
    spM X.K cm g (.ref x :: vs) (upd (upd H dx (.own x)) x (.ins (cm c) dx [])) (fun v H2 => v = .non ∧ Q (.ref x) H2) E := by
  have hh1 := hh.new (o := .own x) nd
  have nx1 : upd H dx (.own x) x = none := by rw [upd_ne (Ne.symm ne)]; exact nx
  have e1 : Ext X.K R H R (upd H dx (.own x)) := Ext.new nd
  have e2 : Ext X.K R (upd H dx (.own x)) (R ++ [x]) (upd (upd H dx (.own x)) x (.ins (cm c) dx [])) := Ext.newR nx1
  have hh2 := hh1.newR (ob := .ins c []) nx1 (hh.free nx) (.ins (dx := dx) upd_same .nil ci)
  have e12 := e1.trans e2 hh2.nd
  refine ⟨.ref h.length :: ws, h ++ [.ins c []], R ++ [x], .cons (.ref ?_) (RVs.ext e12 _ _ rs), hh2, ?_⟩
  · rw [List.getElem?_append_right (by rw [hh.len]; exact Nat.le_refl _), hh.len, Nat.sub_self]; rfl
  · unfold makeW at p
    have p2 := Post.bind (Post.from_ e12 p)
    cases q : g (.ref h.length :: ws) (h ++ [.ins c []]) with
    | stuck => rw [q] at p2; exact p2.elim
    | exc c2 h2 => rw [q] at p2; exact fun R' H' e' x' => hE _ _ (p2 R' H' e' x')
    | ok r h2 =>
      rw [q] at p2
      intro R' H' e' x' v rv
      have p3 := p2 R' H' e' x'
      cases r with
      | non =>
        cases rv
        refine ⟨rfl, p3 R' H' Ext.refl x' _ (.ref (e'.at_ ?_))⟩
        rw [List.getElem?_append_right (by rw [hh.len]; exact Nat.le_refl _), hh.len, Nat.sub_self]; rfl
      | _ => exact p3.elim
theorem run_makeQ {k : Nat} {f C : Addr} {fd : FuncData} {ps : List Str} {sp : Sp} {E : XK} {pins : List (Addr × Obj)} {σ : L2.St} {H : Hp} {s : Shared} {Q : VK} {us : List Value} {vs : List V} (M : Mk X.K C f) (F : FnOk X.prog X.w X.K X.mg X.base (L2.CX X.prog X.w) k f fd ps sp) (hr : Room (k + 1) X.A) (hb : Binds X.K fd ps [])
    (hx : PassesAt (L2.CX X.prog X.w) X σ E) (I : Inv X pins σ H s) (r : Vals vs us)
    (hq : ∀ x dx, H x = none → H dx = none → dx ≠ x → sp (.ref x :: vs) (upd (upd H dx (.own x)) x (.ins C dx [])) (fun v H2 => v = .non ∧ Q (.ref x) H2) E) :
    wpAny (model X.prog X.w) X.A (call (.ref C) us) (EP X pins σ Q) X.xe s := by
  have p0 := hq (s.heap.objs.size + 1) s.heap.objs.size (I.hok.fresh (Nat.le_succ _)) (I.hok.fresh (Nat.le_refl _)) (Nat.ne_of_lt (Nat.lt_succ_self _))
  have J := Inv.made (C := C) I
  have rr : Vals (V.ref (s.heap.objs.size + 1) :: vs) (Value.ref (s.heap.objs.size + 1) :: us) := .cons rfl r
  have hn : (Value.ref (s.heap.objs.size + 1) :: us).length = ps.length := by rw [← rr.length]; exact F.len _ _ _ _ p0
  have bb := hb _ (Value.ref (s.heap.objs.size + 1) :: us) J.kIn (by rw [List.append_nil]; exact hn)
  rw [List.append_nil] at bb
  refine wpAny_call (make_map (f := f) I.kIn M.makes M.init (beq_iff_eq.mp M.fn) (codeAny_mono (F.run _ X.stack _ _ ⟨Value.ref (s.heap.objs.size + 1) :: us, []⟩ (Value.ref (s.heap.objs.size + 1) :: us) _ _ E (hr.make C us []) (J.env0.make C us []) bb rr p0) fun res s' done => ?_))
  cases res with
  | error er => exact hx pins _ _ er s' J done
  | ok fl =>
    cases fl with
    | ret u =>
      obtain ⟨v, H', I3, rv, ev, q3⟩ := J.after done
      subst ev
      exact ⟨rv, ⟨V.ref (s.heap.objs.size + 1), H', I3, rfl, q3⟩⟩
    | next => exact False.elim done
    | brk => exact False.elim done
    | cont => exact False.elim done
theorem q_make0 {c : Str} {k j : Nat} {g : MF} {p pos : Pos} (M : Mkr X cm k c g) (tk : Takes X Wx) (hr : Room j X.A) (hk : k + 1 ≤ j) (hg : Gl X c) (hdb : (c == ("__debug__" : Str)) = false := by decide) :
    QE cm X Wx (.Call (.Name c p) [] [] pos) (eCB0 (makeW c g)) := by
  obtain ⟨f, fd, ps, hm, mk, F, hb⟩ := M.ex
  refine ⟨fun σ H Q => ∀ x dx, H x = none → H dx = none → dx ≠ x → spM X.K cm g [.ref x] (upd (upd H dx (.own x)) x (.ins (cm c) dx [])) (fun v H2 => v = .non ∧ Q (.ref x) H2) (WE Wx σ), ⟨fun pins s σ H Q I hq => ?_⟩, fun σ ρ h R H Q hρ hh pp => ?_⟩
  · refine wpAny_Call_Name_kw (ld_glob I hg hm ?_ hdb)
    exact PySem.W.callWith_K0 I.kIn mk.kp (run_makeQ (us := []) mk F (hr.mono hk) hb (passAt tk σ) I .nil hq)
  · exact fun x dx nx nd ne => make_new M.ci hh .nil (fun _ _ z => z) pp x dx nx nd ne
structure ExcC (X : Cx) (cm : Str → Addr) (c : Str) : Prop where
  gl : X.mg c = some (.ref (cm c))
  q : PySem.W.excIn X.K (cm c) He.veBase "ValueError.__new__" = true
  kp : PySem.W.keepIn X.K (.ref (cm c)) = true
  sub : PySem.W.subIn X.K (.ref (cm c)) (.type "BaseException") = some true
  ty : PySem.W.typeIn X.K (.ref (cm c)) = some (.type "type")
def sRaise (c : Str) : MS := fun ρ h => .exc c ρ h
theorem qs_raise {c m : Str} {j : Nat} {p p2 pos rpos : Pos} (C : ExcC X cm c) (tk : Takes X Wx) (hc : X.calm = true) (hg : Gl X c) (hdb : (c == ("__debug__" : Str)) = false := by decide) :
    QS cm X Wx (.Raise (some (.Call (.Name c p) [.Constant (.str m) j p2] [] pos)) none rpos) (sRaise c) :=
  ⟨_, ps_raise hc tk (pmk_own PySem.F.excBase_ValueError C.q C.gl C.kp (raises_own C.sub C.ty) hg hdb), fun σ ρ h R H D hρ hh pp => pp R H σ Ext.refl hh hρ⟩
def tQ (cm : Str → Addr) (X : Cx) (W : WX) (m : MS) : TS := fun D σ H => ∃ ρ h R, REnv X.K H R ρ σ ∧ RH X.K cm h R H ∧ PostS cm X W R H D (m ρ h)
theorem QB.run {W : WX} {b : List Stmt} {m : MS} (h : QB cm X W b m) : PSs X b (tQ cm X W m) := by
  obtain ⟨t, p, s⟩ := h
  refine ⟨fun pins st σ H D I q => ?_⟩
  obtain ⟨ρ, h, R, hρ, hh, pp⟩ := q
  exact p.run pins st σ H D I (s σ ρ h R H D hρ hh pp)
end
end Z

namespace Z
open PySem PySem.Spec PyProof.Rows L2

structure Sqs (K : PySem.W.Frag) (H H' : Hp) : Prop where
  t : ∀ a xs, H a = some (.tup xs) → H' a = some (.tup xs)
  f : ∀ a ob u, H a = some (.frz ob u) → H' a = some (.frz ob u)
mutual
theorem RV.sq {K R H H'} (e : Sqs K H H') : ∀ (w : W) (v : V), RV K H R w v → RV K H' R w v
  | .non, _, h => by cases h; exact .non
  | .bl _, _, h => by cases h; exact .bl _
  | .int _, _, h => by cases h; exact .int _
  | .str _, _, h => by cases h; exact .str _
  | .tup xs, _, h => by
    cases h with
    | tup s r => exact .tup (e.t _ _ s) (RVs.sq e xs _ r)
  | .frz xs, _, h => by
    cases h with
    | frz s r => exact .frz (s.of_frz e.f) (RVs.sq e xs _ r)
  | .kt xs, _, h => by
    cases h with
    | kt s r => exact .kt (sqT_ext e.t e.f s) (RVs.sq e xs _ r)
  | .ref _, _, h => by
    cases h with
    | ref q => exact .ref q
  | .exn _ _, _, h => by cases h; exact .exn _ _
theorem RVs.sq {K R H H'} (e : Sqs K H H') : ∀ (ws : List W) (vs : List V), RVs K H R ws vs → RVs K H' R ws vs
  | [], _, h => by cases h; exact .nil
  | w :: ws, _, h => by
    cases h with
    | cons a b => exact .cons (RV.sq e w _ a) (RVs.sq e ws _ b)
end
theorem RD.sq {K R H H'} (e : Sqs K H H') : ∀ {l r}, RD K H R l r → RD K H' R l r := by
  intro l r h
  induction h with
  | nil => exact .nil
  | cons a b _ ih => exact .cons a (RV.sq e _ _ b) ih
theorem RT.sq {K R H H'} (e : Sqs K H H') : ∀ {l r}, RT K H R l r → RT K H' R l r := by
  intro l r h
  induction h with
  | nil => exact .nil
  | cons a b _ ih => exact .cons a (RV.sq e _ _ b) ih
theorem RF.sq {K R H H'} (e : Sqs K H H') : ∀ {l r}, RF K H R l r → RF K H' R l r := by
  intro l r h
  induction h with
  | nil => exact .nil
  | cons b _ ih => exact .cons (RV.sq e _ _ b) ih
theorem RO.sq {K R H H' cm o a} (e : Sqs K H H') (k : ∀ u, H a = Option.some u → H' a = Option.some u) (h : RO K H R cm o a) : RO K H' R cm o a := by
  cases h with
  | lst q r => exact .lst (k _ q) (RVs.sq e _ _ r)
  | dK q r => exact .dK (q.map k) (RD.sq e r)
  | dT q r => exact .dT (q.map k) (RT.sq e r)
  | ins q r c => exact .ins (k _ q) (RF.sq e r) c
theorem REnv.sq {K R H H' ρ σ} (e : Sqs K H H') (h : REnv K H R ρ σ) : REnv K H' R ρ σ :=
  ⟨h.1, fun i w q => let ⟨v, a, b⟩ := h.2 i w q; ⟨v, a, RV.sq e _ _ b⟩⟩
def del (H : Hp) (D : Addr) : Hp := fun a => if a = D then none else H a
theorem del_ne {H : Hp} {D a : Addr} (h : a ≠ D) : del H D a = H a := by unfold del; rw [if_neg h]
theorem del_same {H : Hp} {D : Addr} : del H D D = none := by unfold del; rw [if_pos rfl]
theorem upd_del {H : Hp} {D : Addr} {o : HO} : upd (del H D) D o = upd H D o := by
  funext a
  by_cases e : a = D
  · subst e; rw [upd_same, upd_same]
  · rw [upd_ne e, upd_ne e, del_ne e]
theorem upd_self {H : Hp} {D : Addr} {o : HO} (h : H D = some o) : upd (del H D) D o = H := by
  funext a
  by_cases e : a = D
  · subst e; rw [upd_same, h]
  · rw [upd_ne e, del_ne e]
structure Sof (o : HO) : Prop where
  t : ∀ ys, o ≠ .tup ys
  f : ∀ ob u, o ≠ .frz ob u
  n : NoT o
theorem sof_lst {vs : List V} : Sof (.lst vs) := ⟨fun _ q => (by cases q), fun _ _ q => (by cases q), noT_lst⟩
theorem sqs_del {K : PySem.W.Frag} {H : Hp} {D : Addr} {o : HO} (so : Sof o) (h : H D = some o) : Sqs K H (del H D) := by
  refine ⟨fun a xs q => ?_, fun a ob u q => ?_⟩
  · rw [del_ne (fun z => by subst z; rw [h] at q; cases q; exact so.t _ rfl)]; exact q
  · rw [del_ne (fun z => by subst z; rw [h] at q; cases q; exact so.f _ _ rfl)]; exact q
theorem ext_del {K : PySem.W.Frag} {R R' : List Addr} {Hb H' : Hp} {D : Addr} {o o' : HO} (so : Sof o') (hb : Hb D = none) (e : Ext K R (upd Hb D o) R' H') (h' : H' D = some o') : Ext K R Hb R' (del H' D) := by
  obtain ⟨⟨t, et, ft⟩, s, f, k⟩ := e
  refine ⟨⟨t, et, fun a ha => ?_⟩, fun a xs q => (sqs_del (K := K) so h').t a xs (s a xs (by rw [upd_ne (ne_of_none q hb)]; exact q)), fun a ob u q => (sqs_del (K := K) so h').f a ob u (f a ob u (by rw [upd_ne (ne_of_none q hb)]; exact q)), fun a o q nt hr => ?_⟩
  · intro u q
    have ne : a ≠ D := fun z => by subst z; rw [hb] at q; cases q
    exact ft a ha u (by rw [upd_ne ne]; exact q)
  · have ne : a ≠ D := fun z => by subst z; rw [hb] at q; cases q
    rw [del_ne ne]
    exact k a o (by rw [upd_ne ne]; exact q) nt hr
theorem rh_del {K : PySem.W.Frag} {cm h R} {H : Hp} {D : Addr} {o : HO} (so : Sof o) (x : RH K cm h R H) (h' : H D = some o) (hD : D ∉ R) : RH K cm h R (del H D) := by
  refine ⟨x.len, x.nd, fun n ob q => ?_, x.tab.but (D := D) (fun w hw => by rw [h'] at hw; cases hw; exact so.n) fun b o ne z => by rw [del_ne ne]; exact z⟩
  obtain ⟨a, e, r⟩ := x.ob n ob q
  have ne : a ≠ D := fun z => hD (by rw [← z]; exact List.mem_of_getElem? e)
  exact ⟨a, e, r.sq (sqs_del so h') fun u q => by rw [del_ne ne]; exact q⟩
theorem notin_ext {K : PySem.W.Frag} {R R' : List Addr} {H H' : Hp} {D : Addr} {o : HO} (e : Ext K R H R' H') (h : H D = some o) (hr : D ∉ R) (nt : ∀ ps, o ≠ .tbl ps := by intro _ z; cases z) : D ∉ R' ∧ H' D = some o := by
  obtain ⟨⟨t, et, ft⟩, s, f, k⟩ := e
  refine ⟨fun z => ?_, k D o h nt hr⟩
  rw [et] at z
  rcases List.mem_append.mp z with z | z
  · exact hr z
  · obtain ⟨ps, e⟩ := ft D z o h
    exact nt ps e
section
variable {cm : Str → Addr} {X : Cx} {Wx : WX}
abbrev WF : WX := fun _ _ _ _ => False
def tEq (K : PySem.W.Frag) (cm : Str → Addr) (m : ME) : TE := fun σ H Q => ∃ ρ h R, REnv K H R ρ σ ∧ RH K cm h R H ∧ Post K cm R H (fun _ _ => False) (OKv K Q) (m ρ h)
def tTq (K : PySem.W.Frag) (cm : Str → Addr) (m : MT) : TT := fun σ H Q => ∃ ρ h R, REnv K H R ρ σ ∧ RH K cm h R H ∧ Post K cm R H (fun _ _ => False) (OKb Q) (m ρ h)
theorem QE.run {e : Expr} {m : ME} (h : QE cm X WF e m) : PE X e (tEq X.K cm m) := by
  obtain ⟨t, p, s⟩ := h
  exact ⟨fun pins st σ H Q I ⟨ρ, h, R, hρ, hh, pp⟩ => p.run pins st σ H Q I (s σ ρ h R H Q hρ hh pp)⟩
theorem QT.run {e : Expr} {m : MT} (h : QT cm X WF e m) : PT X e (tTq X.K cm m) := by
  obtain ⟨t, p, s⟩ := h
  exact ⟨fun pins st σ H Q I ⟨ρ, h, R, hρ, hh, pp⟩ => p.run pins st σ H Q I (s σ ρ h R H Q hρ hh pp)⟩
def QC (cm : Str → Addr) (X : Cx) (ifs : List Expr) (m : MT) : Prop := PTs X ifs (tTq X.K cm m)
def tYesM : MT := fun _ h => .ok true h
theorem qc_nil : QC cm X [] tYesM := ⟨fun pins s σ H Q I ⟨ρ, h, R, hρ, hh, pp⟩ => pts_nil.run pins s σ H Q I (pp R H Ext.refl hh)⟩
def QV (X : Cx) (vs : List Nat) (tg : Expr) (g : MG) : Prop := ∃ t, PG X tg t ∧ ∀ σ ρ R H w v Q, REnv X.K H R ρ σ → RV X.K H R w v → (match g w ρ with
  | some ρ' => ∀ σ', REnv X.K H R ρ' σ' → wipe σ' vs = wipe σ vs → Q σ' H
  | none => False) → t v σ H Q
theorem wipe_set {i : Nat} {o : Option V} : ∀ {vs : List Nat} {σ : L2.St}, i ∈ vs → wipe (σ.set i o) vs = wipe σ vs
  | [], _, h => by cases h
  | v :: vs, σ, h => by
    unfold wipe
    by_cases e : i = v
    · subst e
      by_cases z : i ∈ vs
      · rw [wipe_set z]
      · have key : ∀ (us : List Nat), (wipe (σ.set i o) us).set i none = (wipe σ us).set i none := by
          intro us
          induction us with
          | nil => unfold wipe; rw [List.set_set]
          | cons u us ih =>
            unfold wipe
            by_cases q : u = i
            · subst q; rw [List.set_set, List.set_set]; exact ih
            · rw [List.set_comm _ _ q, ih, List.set_comm _ _ q]
        exact key vs
    · have z : i ∈ vs := by
        rcases List.mem_cons.mp h with q | q
        · exact absurd q e
        · exact q
      rw [wipe_set z]
theorem wipe_sub {vs : List Nat} : ∀ {us : List Nat} {σ : L2.St}, (∀ u ∈ us, u ∈ vs) → wipe (wipe σ us) vs = wipe σ vs
  | [], _, _ => rfl
  | u :: us, σ, h => by
    show wipe ((wipe σ us).set u none) vs = _
    rw [wipe_set (h u (List.mem_cons_self ..)), wipe_sub fun x hx => h x (List.mem_cons_of_mem _ hx)]
theorem wipe_idem {vs : List Nat} {σ : L2.St} : wipe (wipe σ vs) vs = wipe σ vs := wipe_sub fun _ h => h
theorem qv_name (i : Nat) {vs : List Nat} {x : Str} {pos : Pos} (hN : X.N.Nodup) (hv : i ∈ vs := by decide) (hi : X.N[i]? = some x := by rfl) (hx : Loc X.env.scope x := by first | exact Or.inl rfl | exact Or.inr rfl) (hf : X.fn x = true ∨ X.env.scope.names.lookup x = some .local := by first | exact .inl rfl | exact .inr rfl | assumption) : QV X vs (.Name x pos) (gN i) :=
  ⟨_, pg_name hN hi hx hf, fun σ ρ R H w v Q hρ r p => p _ (hρ.set i r) (wipe_set hv)⟩
def tGq (K : PySem.W.Frag) (vs : List Nat) (g : MG) : TG := fun x σ H Q => ∃ w ρ R, REnv K H R ρ σ ∧ RV K H R w x ∧ (match g w ρ with
  | some ρ' => ∀ σ', REnv K H R ρ' σ' → wipe σ' vs = wipe σ vs → Q σ' H
  | none => False)
theorem QV.run {vs} {tg : Expr} {g : MG} (h : QV X vs tg g) : PG X tg (tGq X.K vs g) := by
  obtain ⟨t, p, s⟩ := h
  exact ⟨fun pins st σ H v u Q I r ⟨w, ρ, R, hρ, rv, pp⟩ => p.run pins st σ H v u Q I r (s σ ρ R H w v Q hρ rv pp)⟩
def compF (chk : Hq → Bool) (g : MG) (c : MT) (e : ME) (ρ0 : Ev) : List W → List W → Hq → Res (List W)
  | acc, [] => fun h => if chk h then .ok acc h else .stuck
  | acc, w :: ws => fun h => if chk h then (match g w ρ0 with
    | some ρ1 => (match c ρ1 h with
      | .ok true h1 => (match e ρ1 h1 with
        | .ok y h2 => if acc.length < sizeLine then compF chk g c e ρ0 (acc ++ [y]) ws h2 else .stuck
        | _ => .stuck)
      | .ok false h1 => compF chk g c e ρ0 acc ws h1
      | _ => .stuck)
    | none => .stuck) else .stuck
def eLc (t : Nat) (vs : List Nat) (i : MI) (g : MG) (c : MT) (e : ME) : ME := fun ρ h => (i ρ h).bind fun s h1 => (compF s.chk g c e (wipeW ρ vs) [] s.items h1).bind fun ys h2 => mkL t ys h2
theorem lc_ok {t : Nat} {vs : List Nat} {wi : TI} {mi : MI} {g : MG} {c : MT} {e : ME}
    (si : ∀ σ ρ h R H Rk, REnv X.K H R ρ σ → RH X.K cm h R H → Post X.K cm R H (EXw cm Wx σ) (fun s _ R1 H1 => ∀ J, JRel cm X R1 H1 s J → Rk J H1) (mi ρ h) → wi σ H Rk) :
    ∀ σ ρ h R H Q, REnv X.K H R ρ σ → RH X.K cm h R H → Post X.K cm R H (EXw cm Wx σ) (OKv X.K Q) (eLc t vs mi g c e ρ h) → tLc wi (tGq X.K vs g) (tTq X.K cm c) (tEq X.K cm e) vs σ H Q := by
  intro σ ρ h R H Q hρ hh pp
  refine si σ ρ h R H _ hρ hh (Post.mono (Post.bind pp) fun s h1 R1 H1 e1 x1 p1 => fun J hJ D hD => ?_)
  have hρ1 := (hρ.ext e1).wipe vs
  refine ⟨fun i m Hf => ∃ acc ws Hb h2 R2, Hf = upd Hb D (.lst acc) ∧ Hb D = none ∧ Ext X.K R1 H1 R2 Hb ∧ RH X.K cm h2 R2 Hb ∧ RVs X.K Hb R2 ws acc ∧
      Post X.K cm R2 Hb (EXw cm Wx σ) (OKv X.K Q) ((compF s.chk g c e (wipeW ρ vs) ws (s.items.drop i) h2).bind fun ys h2 => mkL t ys h2) ∧ m = s.items.length - i ∧ i ≤ s.items.length,
    ⟨s.items.length, [], [], H1, h1, R1, rfl, hD, Ext.refl, x1, .nil, by simpa using p1, by simp, Nat.zero_le _⟩, ?_⟩
  rintro i m Hf ⟨acc, ws, Hb, h2, R2, rfl, hb, e2, x2, ra, p2, rfl, hle⟩
  have en : Ext X.K R2 Hb R2 (upd Hb D (.lst acc)) := Ext.new hb
  have xn := x2.new (o := .lst acc) hb
  have nD := x2.free hb
  have e2n : Ext X.K R1 H1 R2 (upd Hb D (.lst acc)) := e2.trans en xn.nd
  by_cases hlt : i < s.items.length
  · refine .inr ?_
    have hd : s.items.drop i = s.items[i] :: s.items.drop (i + 1) := List.drop_eq_getElem_cons hlt
    rw [hd] at p2
    unfold compF at p2
    by_cases hk : s.chk h2 = true
    · simp only [hk, if_true] at p2
      have J1 := (hJ i h2 R2 _ e2n xn hk).1 s.items[i] (by simp [hlt])
      refine ⟨J1.1, fun H' => ∃ m', m' < s.items.length - i ∧ ∃ acc ws Hb h2 R2, H' = upd Hb D (.lst acc) ∧ Hb D = none ∧ Ext X.K R1 H1 R2 Hb ∧ RH X.K cm h2 R2 Hb ∧ RVs X.K Hb R2 ws acc ∧
        Post X.K cm R2 Hb (EXw cm Wx σ) (OKv X.K Q) ((compF s.chk g c e (wipeW ρ vs) ws (s.items.drop (i + 1)) h2).bind fun ys h2 => mkL t ys h2) ∧ m' = s.items.length - (i + 1) ∧ i + 1 ≤ s.items.length, fun H' z => z, fun x H' y => ?_⟩
      obtain ⟨e3, x3, rv⟩ := J1.2 x H' y
      cases q : g s.items[i] (wipeW ρ vs) with
      | none => simp only [q] at p2; exact p2.elim
      | some ρ3 =>
        simp only [q] at p2
        refine ⟨s.items[i], wipeW ρ vs, R2, (hρ1.ext e2n).ext e3, rv, ?_⟩
        rw [q]
        intro σ3 hρ3 hw
        refine ⟨by rw [hw]; exact wipe_idem, ?_⟩
        have hD' := notin_ext e3 (upd_same (H := Hb) (a := D) (o := .lst acc)) nD
        refine ⟨ρ3, h2, R2, hρ3, x3, ?_⟩
        cases qc : c ρ3 h2 with
        | stuck => simp only [qc] at p2; exact p2.elim
        | exc c2 h4 => simp only [qc] at p2; exact p2.elim
        | ok b h4 =>
          simp only [qc] at p2
          intro R4 H4 e4 x4
          have hD4 := notin_ext e4 hD'.2 nD
          have e34 := (e3.trans e4 x4.nd)
          cases b with
          | false =>
            simp only [Bool.false_eq_true, if_false] at p2 ⊢
            have eb := ext_del sof_lst hb e34 hD4.2
            exact ⟨s.items.length - (i + 1), by omega, acc, ws, del H4 D, h4, R4, (upd_self hD4.2).symm, del_same, e2.trans eb (rh_del sof_lst x4 hD4.2 hD4.1).nd, rh_del sof_lst x4 hD4.2 hD4.1, RVs.ext eb _ _ ra, Post.from_ eb p2, rfl, hlt⟩
          | true =>
            simp only [if_true] at p2 ⊢
            refine ⟨ρ3, h4, R4, hρ3.ext e4, x4, ?_⟩
            cases qe : e ρ3 h4 with
            | stuck => simp only [qe] at p2; exact p2.elim
            | exc c2 h5 => simp only [qe] at p2; exact p2.elim
            | ok yv h5 =>
              simp only [qe] at p2
              intro R5 H5 e5 x5 v5 r5
              have hD5 := notin_ext e5 hD4.2 hD4.1
              have eb := ext_del sof_lst hb (e34.trans e5 x5.nd) hD5.2
              by_cases hz : ws.length < sizeLine
              · simp only [hz, if_true] at p2
                refine ⟨acc, hD5.2, by rw [← ra.length]; exact hz, s.items.length - (i + 1), by omega, acc ++ [v5], ws ++ [yv], del H5 D, h5, R5, upd_del.symm, del_same, e2.trans eb (rh_del sof_lst x5 hD5.2 hD5.1).nd, rh_del sof_lst x5 hD5.2 hD5.1, ?_, Post.from_ eb p2, rfl, hlt⟩
                exact RVs.append (RVs.ext eb _ _ ra) (.cons (RV.sq (sqs_del sof_lst hD5.2) _ _ r5) .nil)
              · simp only [hz, if_false] at p2; exact p2.elim
    · simp only [hk] at p2; exact p2.elim
  · have he : s.items.length ≤ i := by omega
    rw [List.drop_eq_nil_of_le he] at p2
    unfold compF at p2
    by_cases hk : s.chk h2 = true
    · simp only [hk, if_true] at p2
      refine .inl ⟨(hJ i h2 R2 _ e2n xn hk).2 he, ?_⟩
      exact post_lst p2 x2 ra hb
    · simp only [hk] at p2; exact p2.elim
theorem q_lc {t : Nat} {elt tg iter : Expr} {ifs : List Expr} {scope : Scope} {pos : Pos} {mi : MI} {g : MG} {c : MT} {e : ME} (own : List (Str × Nat)) (hc : X.calm = true) (hN : X.N.Nodup) (hi : QI cm X Wx tg iter mi) (ok : blkC X.N X.env.scope scope own = true)
    (hg : ∀ (s : Shared) (H : Hp) (C : Addr) (cl : List (Str × Addr)) (fp : List Addr), QV (X.blk s H scope (compEnvC scope cl C X.env) fp) (own.map (·.2)) tg g) (ht : ∀ (s : Shared) (H : Hp) (C : Addr) (cl : List (Str × Addr)) (fp : List Addr), QC cm (X.blk s H scope (compEnvC scope cl C X.env) fp) ifs c)
    (he : ∀ (s : Shared) (H : Hp) (C : Addr) (cl : List (Str × Addr)) (fp : List Addr), QE cm (X.blk s H scope (compEnvC scope cl C X.env) fp) WF elt e) (hs : ∀ x, foldedSetIterable iter X.env x = pure x := by intro _; rfl) :
    QE cm X Wx (.ListComp elt [⟨tg, iter, ifs, 0⟩] scope pos) (eLc t (own.map (·.2)) mi g c e) := by
  obtain ⟨wi, pi, si⟩ := hi
  exact ⟨_, pe_lc (tt := tTq X.K cm c) hc hN pi (blkOk_by ok) (fun s H C cl fp => (hg s H C cl fp).run) (fun s H C cl fp => ht s H C cl fp) (fun s H C cl fp => (he s H C cl fp).run) hs, lc_ok si⟩
end
end Z

namespace Z
open PySem PySem.Spec PyProof.Rows L2
section
variable {cm : Str → Addr} {X : Cx} {Wx : WX}
def flatW : W → Bool
  | .non | .bl _ | .int _ | .str _ => true
  | _ => false
def toV : W → V
  | .bl b => .bl b
  | .int i => .int i
  | .str x => .str x
  | _ => .non
theorem toV_ok {K H R w v} (r : RV K H R w v) (f : flatW w = true) : v = toV w ∧ flatV v = true := by
  cases r <;> first | exact ⟨rfl, rfl⟩ | cases f
theorem toVs_ok {K H R} : ∀ {ws vs}, RVs K H R ws vs → ws.all flatW = true → vs = ws.map toV ∧ vs.all flatV = true
  | [], _, h, _ => by cases h; exact ⟨rfl, rfl⟩
  | w :: ws, _, h, f => by
    cases h with
    | cons a b =>
      rw [List.all_cons, Bool.and_eq_true] at f
      obtain ⟨e1, e2⟩ := toV_ok a f.1
      obtain ⟨e3, e4⟩ := toVs_ok b f.2
      rw [List.all_cons, e2, e4, List.map_cons, ← e1, ← e3]
      exact ⟨rfl, rfl⟩
def inW (neg : Bool) : F2 := fun x y h => match y with
  | .tup ys => if flatW x && ys.all flatW then .ok (.bl (xor neg (ys.any fun z => eqV (toV z) (toV x)))) h else .stuck
  | .str z => match x with
    | .str i => if i.cps.size = 1 then .ok (.bl (xor neg (decide (i.cps.getD 0 0 ∈ z.cps.toList)))) h else .stuck
    | _ => .stuck
  | y => match dataW h x, dataW h y with
    | some d, some (.list ds) => if SeqAt.shaped d && SeqAt.shaped (.list ds) then .ok (.bl (xor neg (ds.any fun z => PyData.eqv z d))) h else .stuck
    | _, _ => .stuck
def rInW (K : PySem.W.Frag) (neg : Bool) : R2 := fun x y H Q =>
  (∃ p xs, y = .ref p ∧ (SqL K H p xs ∨ SqT K H p xs) ∧ flatV x = true ∧ xs.all flatV = true ∧ Q (.bl (xor neg (inV x xs))) H) ∨
  ((∃ (c : Nat) (z : Str), x = .str ⟨#[c]⟩ ∧ y = .str z ∧ Q (.bl (xor neg (decide (c ∈ z.cps.toList)))) H) ∨
  ∃ d ds, Dp K H x d ∧ Dp K H y (.list ds) ∧ SeqAt.shaped d = true ∧ SeqAt.shaped (.list ds) = true ∧ Q (.bl (xor neg (ds.any fun z => PyData.eqv z d))) H)
theorem op_inW (hu : X.A.units + 65 < cLine) : OpR X (compareOp .In) (rInW X.K false) := by
  intro pins s σ H x y v u Q I rx ry h
  refine OpR.or op_in_seq (OpR.or op_in_sign (op_inD hu)) pins s σ H x y v u Q I rx ry ?_
  rcases h with ⟨p, xs, e, s1, f1, f2, q⟩ | ⟨c, z, e1, e2, q⟩ | ⟨d, ds, h1, h2, h3, h4, q⟩
  · exact .inl ⟨p, xs, e, s1, f1, f2, by simpa using q⟩
  · exact .inr (.inl ⟨c, z, e1, e2, by simpa using q⟩)
  · exact .inr (.inr ⟨d, ds, h1, h2, h3, h4, by simpa using q⟩)
theorem op_notInW (hu : X.A.units + 65 < cLine) : OpR X (compareOp .NotIn) (rInW X.K true) := by
  intro pins s σ H x y v u Q I rx ry h
  refine OpR.or op_notIn_seq (OpR.or op_notIn_sign (op_notInD hu)) pins s σ H x y v u Q I rx ry ?_
  rcases h with ⟨p, xs, e, s1, f1, f2, q⟩ | ⟨c, z, e1, e2, q⟩ | ⟨d, ds, h1, h2, h3, h4, q⟩
  · exact .inl ⟨p, xs, e, s1, f1, f2, by simpa using q⟩
  · exact .inr (.inl ⟨c, z, e1, e2, by simpa using q⟩)
  · exact .inr (.inr ⟨d, ds, h1, h2, h3, h4, by simpa using q⟩)
theorem inW_data {neg : Bool} {x y : W} {h : Hq} {R H EX Q vx vy} (hh : RH X.K cm h R H) (rx : RV X.K H R x vx) (ry : RV X.K H R y vy)
    (p : Post X.K cm R H EX (OKv X.K Q) (match dataW h x, dataW h y with
    | some d, some (.list ds) => if SeqAt.shaped d && SeqAt.shaped (.list ds) then .ok (.bl (xor neg (ds.any fun z => PyData.eqv z d))) h else .stuck
    | _, _ => .stuck)) : rInW X.K neg vx vy H Q := by
  split at p
  · rename_i d ds e1 e2
    split at p
    · rename_i z
      simp only [Bool.and_eq_true] at z
      exact .inr (.inr ⟨d, ds, toD_ok (refD_ok hh 60) x d _ rx e1, toD_ok (refD_ok hh 60) y _ _ ry e2, z.1, z.2, post_v p hh (.bl _)⟩)
    · exact p.elim
  · exact p.elim
theorem str_one {i : Str} (h : i.cps.size = 1) : i = ⟨#[i.cps.getD 0 0]⟩ := by
  obtain ⟨c⟩ := i
  obtain ⟨l⟩ := c
  cases l with
  | nil => simp at h
  | cons a r =>
    cases r with
    | nil => rfl
    | cons b r => simp at h
theorem q_inW {neg : Bool} : QOp cm X (rInW X.K neg) (inW neg) := by
  intro EX h R H x y vx vy Q hh rx ry p
  cases y with
  | tup ys =>
    unfold inW at p
    dsimp only at p
    split at p
    · rename_i c
      rw [Bool.and_eq_true] at c
      cases ry with
      | @tup _ a' vs' sq rs =>
        obtain ⟨e1, e2⟩ := toV_ok rx c.1
        obtain ⟨e3, e4⟩ := toVs_ok rs c.2
        refine .inl ⟨_, _, rfl, .inr (SqT.of sq), e2, e4, ?_⟩
        have : inV vx vs' = ys.any fun z => eqV (toV z) (toV x) := by
          unfold inV
          rw [e3, e1, List.any_map]; rfl
        rw [this]
        exact post_v p hh (.bl _)
    · exact p.elim
  | str z =>
    cases x with
    | str i =>
      cases rx; cases ry
      unfold inW at p
      dsimp only at p
      split at p
      · rename_i c
        refine .inr (.inl ⟨i.cps.getD 0 0, z, by rw [← str_one c], rfl, post_v p hh (.bl _)⟩)
      · exact p.elim
    | _ => exact p.elim
  | _ => exact inW_data hh rx ry p
def tyB (T : String) (h : Hq) (x : W) : Bool := match T with
  | "list" => (asL h x).isSome
  | "str" => (match x with | .str _ => true | _ => false)
  | _ => false
theorem tyB_ok {T : String} {h : Hq} {R H} {x : W} {v : V} (hh : RH X.K cm h R H) (r : RV X.K H R x v) (e : tyB T h x = true) : tyV X.K T v H := by
  unfold tyB at e
  split at e
  · cases z : asL h x with
    | none => rw [z] at e; cases e
    | some xs =>
      obtain ⟨a, vs, rfl, sq, rs⟩ := asL_ok hh r z
      exact .inl ⟨rfl, vs, sq⟩
  · cases x with
    | str _ => cases r; exact rfl
    | _ => cases e
  · cases e
def QMt (cm : Str → Addr) (X : Cx) (r : V → List V → Hp → VK → Prop) (f : MF) : Prop := ∀ (EX : Str → Hp → Prop) h R H x xs vx vs Q, RH X.K cm h R H → RV X.K H R x vx → RVs X.K H R xs vs → Post X.K cm R H EX (OKv X.K Q) (f (x :: xs) h) → r vx vs H Q
def eBM (T : String) (f : MF) (o : ME) (a : MA) : ME := fun ρ h => (o ρ h).bind fun x h1 => if tyB T h1 x then (a ρ h1).bind fun ws h2 => f (x :: ws) h2 else .stuck
theorem q_bm {T id : String} {name : Str} {r : V → List V → Hp → VK → Prop} {f : MF} {o e : Expr} {es : List Expr} {mo : ME} {ma : MA} {apos cpos : Pos} (pa : PlainAttrs T) (slot : Slot T name id) (hty : typeOf (.builtin id) = pure (.type "method_descriptor")) (hm : MtR X id r) (hf : QMt cm X r f)
    (ho : QE cm X Wx o mo) (ha : QAn cm X Wx (e :: es) ma)
    (hbase : attributeBase o name X.env (eval o X.env) = eval o X.env := by rfl)
    (hfew : ((backTo cpos (starEach (e :: es) X.env)).all (fun x => !x.1) && (backToKw cpos (keywordEach [] X.env)).all (fun x => x.1.isSome)
      && decide ((e :: es).length + ([] : List Keyword).length + (if ([] : List Keyword).isEmpty then 0 else 1) < 30)) = true := by rfl)
    (hline : (apos.endLine == cpos.line) = true := by rfl) (hs : starEach (e :: es) X.env = (false, eval e X.env) :: starEach es X.env := by rfl) (hplain : (backTo cpos (starEach es X.env)).any (·.1) = false := by rfl) :
    QE cm X Wx (.Call (.Attribute o name apos) (e :: es) [] cpos) (eBM T f mo ma) := by
  obtain ⟨to, po, so⟩ := ho
  obtain ⟨⟨t, p, sa⟩, _⟩ := ha
  refine ⟨_, pe_bm pa slot hty hm po p hbase hfew hline hs hplain, fun σ ρ h R H Q hρ hh pp => ?_⟩
  refine so σ ρ h R H _ hρ hh (Post.mono (Post.bind pp) fun x h1 R1 H1 e1 x1 p1 => fun v rv => ?_)
  split at p1
  · rename_i c
    refine ⟨tyB_ok x1 rv c, sa σ ρ h1 R1 H1 _ (hρ.ext e1) x1 (Post.mono (Post.bind p1) fun ws h2 R2 H2 e2 x2 p2 => fun vs rs => hf _ h2 R2 H2 x ws v vs _ x2 (RV.ext e2 _ _ rv) rs p2)⟩
  · exact p1.elim
def atM (h : Hq) : W → Option (Nat × Nat × List W)
  | .ref n => match h[n]? with
    | some (.lst t xs) => some (n, t, xs)
    | _ => none
  | _ => none
theorem atM_ok {h : Hq} {R H} {x : W} {n t : Nat} {xs : List W} {v : V} (hh : RH X.K cm h R H) (r : RV X.K H R x v) (e : atM h x = some (n, t, xs)) : ∃ a vs, v = .ref a ∧ R[n]? = some a ∧ H a = some (.lst vs) ∧ RVs X.K H R xs vs := by
  cases x with
  | ref m =>
    cases r with
    | ref q =>
      unfold atM at e
      cases z : h[m]? with
      | none => simp [z] at e
      | some o =>
        have ro := hh.get q z
        cases o with
        | lst t' ys =>
          simp only [z, Option.some.injEq, Prod.mk.injEq] at e
          obtain ⟨rfl, rfl, rfl⟩ := e
          cases ro with | lst a b => exact ⟨_, _, rfl, q, a, b⟩
        | _ => simp [z] at e
  | _ => simp [atM] at e
theorem post_set {K : PySem.W.Frag} {h : Hq} {R H EX Q} {n t : Nat} {a : Addr} {vs : List V} {xs : List W} {vs' : List V} {w : W} {v : V} (p : Post K cm R H EX (OKv K Q) (.ok w (h.set n (.lst t xs)))) (hh : RH K cm h R H) (hn : R[n]? = some a) (ha : H a = some (.lst vs)) (rs : RVs K H R xs vs')
    (hw : ∀ H', RV K H' R w v) : Q v (upd H a (.lst vs')) := by
  have ex : Ext K R H R (upd H a (.lst vs')) := Ext.write (by assumption) hn ha (fun _ q => by cases q) (fun _ _ q => by cases q)
  exact p R _ ex (hh.write hn ha (fun _ q => by cases q) (fun _ _ q => by cases q) (.lst upd_same (RVs.ext ex _ _ rs))) v (hw _)
def appW : MF := fun ws h => match ws with
  | [x, y] => match atM h x with
    | some (n, t, xs) => if xs.length < sizeLine then .ok .non (h.set n (.lst t (xs ++ [y]))) else .stuck
    | none => .stuck
  | _ => .stuck
theorem q_appW : QMt cm X rAppend appW := by
  intro EX h R H x xs vx vs Q hh rx rs p
  unfold appW at p
  split at p
  · rename_i x' y e
    obtain ⟨rfl, e2⟩ := List.cons.inj e
    subst e2
    cases rs with | cons ra rb =>
    cases rb
    cases z : atM h x with
    | none => simp only [z] at p; exact p.elim
    | some k =>
      obtain ⟨n, t, ys⟩ := k
      simp only [z] at p
      obtain ⟨a, us, rfl, hn, ha, ru⟩ := atM_ok hh rx z
      split at p
      · rename_i hz
        exact ⟨a, us, _, rfl, rfl, ha, by rw [← ru.length]; exact hz, post_set p hh hn ha (RVs.append ru (.cons ra .nil)) fun _ => .non⟩
      · exact p.elim
  · exact p.elim
def asQ (h : Hq) : W → Option (List W)
  | .tup xs => some xs
  | x => asL h x
theorem asQ_ok {h : Hq} {R H} {x : W} {xs : List W} {v : V} (hh : RH X.K cm h R H) (r : RV X.K H R x v) (e : asQ h x = some xs) : ∃ a vs, v = .ref a ∧ (SqL X.K H a vs ∨ SqT X.K H a vs) ∧ RVs X.K H R xs vs := by
  cases x with
  | tup ys =>
    cases e
    cases r with | tup s r => exact ⟨_, _, rfl, .inr (SqT.of s), r⟩
  | _ =>
    obtain ⟨a, vs, e1, s, r⟩ := asL_ok hh r e
    exact ⟨a, vs, e1, .inl s, r⟩
end
end Z

namespace Z
open PySem PySem.Spec PyProof.Rows L2
abbrev Frg := PySem.W.Frag
def cA (K : Frg) (c : Str) : Addr := He.ga K c
def mA (K : Frg) (c m : Str) : Addr := He.ma K (He.ga K c) m
def sG (K : Frg) (c f : Str) : Addr := match PySem.W.recIn K (mA K c f) "staticmethod" with
  | some (.ref g :: _) => g
  | _ => 0
structure Fx where
  ad : Frg → Addr
  name : Str
  qual : Str
  params : Arguments
  body : List Stmt
  scope : Scope
def fxO (K : Frg) (d : Fx) : He.FnW := match K.lookup (d.ad K) with
  | some ⟨_, _, .func fd, _⟩ => some (fd.name, fd.qualname, fd.params, fd.body, fd.scope, fd.globals, fd.closure, fd.builtins)
  | _ => none
def Fx.val (d : Fx) : He.FnW := some (d.name, d.qual, d.params, .stmts d.body, d.scope, mainGlobals, [], builtinsNs)
def Fx.ok (K : Frg) (d : Fx) : Bool := PySem.W.keepIn K (.ref (d.ad K)) && (match K.lookup (d.ad K) with
  | some ⟨_, _, .func fd, _⟩ => PySem.W.codeIn K fd.code d.qual && (He.dflB K fd.defaults [] && He.kwdB K fd.kwdefaults [])
  | _ => false)
abbrev FxD (K : Frg) (d : Fx) (fd : FuncData) : Prop := FunD K d.name d.qual d.params d.body d.scope [] [] (d.ad K) fd
theorem Fx.funD {K : Frg} {d : Fx} (e : fxO K d = d.val) (c : d.ok K = true) : ∃ fd, FxD K d fd := by
  obtain ⟨kp, c2⟩ := He.ba c
  unfold fxO at e
  cases q : K.lookup (d.ad K) with
  | none => rw [q] at c2; cases c2
  | some o =>
    obtain ⟨oc, od, dt, osl⟩ := o
    rw [q] at c2 e
    cases dt with
    | func fd =>
      obtain ⟨n1, n2, n3, n4, n5, n6, n7, n8, n9, n10, n11, n12, n13, n14, n15⟩ := fd
      have e2 : (some (n1, n2, n3, n4, n5, n6, n7, n15) : He.FnW) = some (d.name, d.qual, d.params, .stmts d.body, d.scope, mainGlobals, [], builtinsNs) := e
      simp only [Option.some.injEq, Prod.mk.injEq] at e2
      obtain ⟨h1, h2, h3, h4, h5, h6, h7, h8⟩ := e2
      subst h1 h2 h3 h4 h5 h6 h7 h8
      obtain ⟨k1, k2⟩ := He.ba (show (PySem.W.codeIn K n13 d.qual && (He.dflB K n8 [] && He.kwdB K n9 [])) = true from c2)
      obtain ⟨k3, k4⟩ := He.ba k2
      exact ⟨_, ⟨oc, od, n8, n9, n10, n11, n12, n13, n14, osl, rfl, q, k1, He.dflB_ok k3, He.kwdB_ok k4⟩, kp⟩
    | _ => cases c2
inductive Ex where
  | fa (f : He.Fa)
  | ci (c : Str)
  | mk (c : Str)
  | meth (c m : Str)
  | prop (c f : Str)
  | stat (c m : Str)
  | exc (c : Str)
  | exm (c d : Str) (b : Bool)
  | exk (c : Str)
  | sf (c : Str)
  | kit (c d : Str) (b : Bool)
  | kitT (c : Str) (T : String) (b : Bool)
  | tupS (x : Str) (ss : List Str)
def Ex.ok (K : Frg) : Ex → Bool
  | .fa f => f.ok K
  | .ci c => (He.Fa.cls c).ok K && (He.eqO (PySem.W.findIn K (.ref (cA K c)) "__class__") (some (some (.builtin "object.__class__"))) && (He.eqO (PySem.W.specialIn K (.builtin "object.__class__") "__get__") (some (some (.builtin "getset_descriptor.__get__"))) &&
      (decide (PySem.W.takesIn K (.builtin "object.__class__") = some true) && (decide (PySem.W.mroIn K (cA K c) (.type "object") = some true) &&
      ((isiTs.all fun T => decide (PySem.W.kitOne K (.ref (cA K c)) (.type T) = some false)) && (fieldsOf c).all fun f => (He.Fa.noat c f).ok K)))))
  | .mk c => (He.Fa.mkr c).ok K
  | .meth c m => (He.Fa.meth c m).ok K
  | .prop c f => He.eqO (PySem.W.findIn K (.ref (cA K c)) f) (some (some (.ref (mA K c f)))) && (He.eqO (PySem.W.specialIn K (.ref (mA K c f)) "__get__") (some (some (.builtin "property.__get__"))) &&
      (decide (PySem.W.takesIn K (.ref (mA K c f)) = some true) && (match PySem.W.recIn K (mA K c f) "property" with
        | some (.ref _ :: _) => true
        | _ => false)))
  | .stat c m => PySem.W.readsIn K (cA K c) (.type "type") && (He.eqO (PySem.W.specialIn K (.ref (cA K c)) "__getattribute__") (some (some (.builtin "type.__getattribute__"))) &&
      ((match PySem.W.findCls K (.ref (cA K c)) (.type "type") m with
        | some (.get (.builtin i) (.ref p) .none (.ref C)) => i == "staticmethod.__get__" && (p == mA K c m && C == cA K c)
        | _ => false) && ((match PySem.W.recIn K (mA K c m) "staticmethod" with
        | some (.ref _ :: _) => true
        | _ => false) && PySem.W.keepIn K (.ref (sG K c m)))))
  | .exc c => (He.Fa.exc c).ok K
  | .exm c d b => (He.Fa.exm c d b).ok K
  | .exk c => He.eqO (PySem.W.findIn K (.ref (cA K c)) "__getattribute__") (some (some (.builtin "BaseException.__getattribute__"))) && (He.eqO (PySem.W.findIn K (.ref (cA K c)) "__getattr__") (some none) && (decide (PySem.W.subIn K (.ref (cA K c)) (.type "BaseException") = some true) && (PySem.W.hasDictIn K (cA K c) &&
      (He.eqO (PySem.W.findIn K (.ref (cA K c)) "__class__") (some (some (.builtin "object.__class__"))) && (He.eqO (PySem.W.specialIn K (.builtin "object.__class__") "__get__") (some (some (.builtin "getset_descriptor.__get__"))) &&
      (decide (PySem.W.takesIn K (.builtin "object.__class__") = some true) && decide (PySem.W.mroIn K (cA K c) (.type "object") = some true)))))))
  | .sf c => PySem.W.selfFirst K (cA K c)
  | .kit c d b => decide (PySem.W.kitOne K (.ref (cA K c)) (.ref (cA K d)) = some b)
  | .kitT c T b => decide (PySem.W.kitOne K (.ref (cA K c)) (.type T) = some b)
  | .tupS x ss => (He.Fa.glo x).ok K && He.tupB K x (ss.map He.Dv.str)
section
variable {K : Frg}
theorem ci_ok {c : Str} (h : (Ex.ci c).ok K = true) : CI K c (cA K c) := by
  obtain ⟨h1, h⟩ := He.ba h
  obtain ⟨h2, h⟩ := He.ba h
  obtain ⟨h3, h⟩ := He.ba h
  obtain ⟨h4, h⟩ := He.ba h
  obtain ⟨h5, h⟩ := He.ba h
  obtain ⟨h6, h7⟩ := He.ba h
  exact ⟨He.cls_ok h1, He.eqO_ok h2, He.eqO_ok h3, of_decide_eq_true h4, of_decide_eq_true h5, fun T hT => of_decide_eq_true (List.all_eq_true.mp h6 T hT), fun f hf => He.noat_ok (List.all_eq_true.mp h7 f hf)⟩
theorem exk_ok {c : Str} (h : (Ex.exk c).ok K = true) : L2.ExcC K (cA K c) := by
  obtain ⟨h1, h⟩ := He.ba h
  obtain ⟨h2, h⟩ := He.ba h
  obtain ⟨h3, h⟩ := He.ba h
  obtain ⟨h4, h⟩ := He.ba h
  obtain ⟨h5, h⟩ := He.ba h
  obtain ⟨h6, h⟩ := He.ba h
  obtain ⟨h7, h8⟩ := He.ba h
  exact ⟨He.eqO_ok h1, He.eqO_ok h2, of_decide_eq_true h3, h4, He.eqO_ok h5, He.eqO_ok h6, of_decide_eq_true h7, of_decide_eq_true h8⟩
theorem exm_okx {c d : Str} {b : Bool} (h : (Ex.exm c d b).ok K = true) : PySem.W.exmOne K (.ref (cA K c)) (.ref (cA K d)) = some b := of_decide_eq_true h
theorem kit_ok {c d : Str} {b : Bool} (h : (Ex.kit c d b).ok K = true) : PySem.W.kitOne K (.ref (cA K c)) (.ref (cA K d)) = some b := of_decide_eq_true h
theorem kitT_ok {c : Str} {T : String} {b : Bool} (h : (Ex.kitT c T b).ok K = true) : PySem.W.kitOne K (.ref (cA K c)) (.type T) = some b := of_decide_eq_true h
end
def cC (K : Frg) (d : Fx) : Addr := match K.lookup (d.ad K) with
  | some ⟨_, _, .func fd, _⟩ => (match fd.code with
    | .ref c => c
    | _ => 0)
  | _ => 0
def cX (K : Frg) (d : Fx) : Addr × Addr := (cC K d, He.tabOf K (cC K d))
def tfOf (fn : List Fx) : List Fx := fn.filter fun d => decide (d.qual = "live")
structure TabX (tf : List Fx) (h : Heap) (K : Frg) : Prop where
  hd : ∀ d ∈ tf, PySem.W.codeHdIn K (cX K d).1 (cX K d).2 = true
  out : ∀ d ∈ tf, K.lookup (cX K d).2 = none
  empty : ∀ d ∈ tf, h.get? (cX K d).2 = some { cls := .none, data := .fields #[] }
  all : ∀ P ∈ tabA K, ∃ d ∈ tf, (cX K d).2 = P
  one : ∀ d ∈ tf, (cX K d).2 ∈ tabA K
def tabsX (g : Addr → Option Obj) (tf : List Fx) (K : Frg) : Bool := (tf.all fun d => PySem.W.codeHdIn K (cX K d).1 (cX K d).2 && ((match g (cX K d).2 with
  | some o => He.emptyTab o
  | none => false) && decide ((cX K d).2 ∈ tabA K))) && (tabA K).all fun P => tf.any fun d => decide ((cX K d).2 = P)
theorem tabsX_ok {as : List Addr} {h : Heap} {tf : List Fx} (e : tabsX h.get? tf (He.frT h.get? as) = true) : TabX tf h (He.frT h.get? as) := by
  obtain ⟨e1, e2⟩ := He.ba e
  have key : ∀ d ∈ tf, PySem.W.codeHdIn (He.frT h.get? as) (cX (He.frT h.get? as) d).1 (cX (He.frT h.get? as) d).2 = true ∧ (∃ o, h.get? (cX (He.frT h.get? as) d).2 = some o ∧ He.emptyTab o = true) ∧ (cX (He.frT h.get? as) d).2 ∈ tabA (He.frT h.get? as) := fun d hd => by
    obtain ⟨a, b⟩ := He.ba (List.all_eq_true.mp e1 d hd)
    obtain ⟨b, c⟩ := He.ba b
    refine ⟨a, ?_, of_decide_eq_true c⟩
    split at b
    · rename_i o q; exact ⟨o, q, b⟩
    · cases b
  exact ⟨fun d hd => (key d hd).1, fun d hd => (key d hd).2.1.elim fun o z => He.frT_none z.1 z.2, fun d hd => (key d hd).2.1.elim fun o z => by rw [z.1, He.emptyTab_eq z.2], fun P hP => by
    obtain ⟨d, hd, q⟩ := List.any_eq_true.mp (List.all_eq_true.mp e2 P hP)
    exact ⟨d, hd, of_decide_eq_true q⟩, fun d hd => (key d hd).2.2⟩
theorem TabX.keeps {tf : List Fx} {h h' : Heap} {K : Frg} (t : TabX tf h K) (k : ∀ a o, h.get? a = some o → h'.get? a = some o) : TabX tf h' K := ⟨t.hd, t.out, fun d hd => k _ _ (t.empty d hd), t.all, t.one⟩
abbrev AlX : Type := Bool × List He.FnW
def obsX (fa : List Ex) (fn : List Fx) (K : Frg) : AlX := ((fa.all fun f => f.ok K) && fn.all fun d => d.ok K, fn.map fun d => fxO K d)
def valX (fn : List Fx) : AlX := (true, fn.map Fx.val)
def SaysX (fa : List Ex) (fn : List Fx) (K : Frg) : Prop := obsX fa fn K = valX fn
abbrev frX (n : Nat) (g : Addr → Option Obj) : Frg := He.frT g (cStatics :: He.asD g n)
section
variable {fa : List Ex} {fn : List Fx} {K : Frg}
theorem SaysX.fact (c : SaysX fa fn K) (i : Nat) {f : Ex} (h : fa[i]? = some f := by rfl) : f.ok K = true := by
  have c1 := (He.ba (show ((fa.all fun f => f.ok K) && fn.all fun d => d.ok K) = true from congrArg (fun z : AlX => z.1) c)).1
  exact List.all_eq_true.mp c1 f (List.mem_of_getElem? h)
theorem SaysX.def_ (c : SaysX fa fn K) (i : Nat) {d : Fx} (h : fn[i]? = some d := by rfl) : ∃ fd, FxD K d fd := by
  have c2 := (He.ba (show ((fa.all fun f => f.ok K) && fn.all fun d => d.ok K) = true from congrArg (fun z : AlX => z.1) c)).2
  have e : fn.map (fun d => fxO K d) = fn.map Fx.val := congrArg (fun z : AlX => z.2) c
  have e2 : (fn.map fun d => fxO K d)[i]? = (fn.map Fx.val)[i]? := by rw [e]
  rw [List.getElem?_map, List.getElem?_map, h] at e2
  exact Fx.funD (Option.some.inj e2) (List.all_eq_true.mp c2 d (List.mem_of_getElem? h))
end
structure Bx (fa : List Ex) (fn : List Fx) (P : Program) (w : World) (K : Frg) (mg : Str → Option Value) (base : Heap) : Prop where
  says : SaysX fa fn K
  ex : ∃ h : Heap, K.In h ∧ h.Ns mainGlobals mg
  tb : ∀ d ∈ tfOf fn, LamX.TabB base mg (cX K d).1 (cX K d).2 ∧ (cX K d).2 ∈ tabA K
section
variable {fa : List Ex} {fn : List Fx} {P : Program} {w : World} {K : Frg} {mg : Str → Option Value} {base : Heap}
theorem TabX.end_ {fn : List Fx} {K : Frg} {h : Heap} (t : TabX (tfOf fn) h K) (KX : K.In h) : ∃ cs : List (Addr × Addr), cs = (tfOf fn).map (cX K) ∧ (∀ p ∈ cs, h.get? p.2 = some { cls := .none, data := .fields #[] }) ∧ (∀ p ∈ cs, K.lookup p.2 = none) ∧ (∀ p ∈ cs, PySem.W.CodeHd h p.1 p.2) ∧ (∀ P ∈ tabA K, ∃ p ∈ cs, p.2 = P) := by
  refine ⟨_, rfl, fun p hp => ?_, fun p hp => ?_, fun p hp => ?_, fun P hP => ?_⟩
  · obtain ⟨d, hd, rfl⟩ := List.mem_map.mp hp; exact t.empty d hd
  · obtain ⟨d, hd, rfl⟩ := List.mem_map.mp hp; exact t.out d hd
  · obtain ⟨d, hd, rfl⟩ := List.mem_map.mp hp; exact PySem.W.codeHd_of_K KX (t.hd d hd)
  · obtain ⟨d, hd, e⟩ := t.all P hP
    exact ⟨_, List.mem_map.mpr ⟨d, hd, rfl⟩, e⟩
theorem Bx.glo (B : Bx fa fn P w K mg base) (i : Nat) {x : Str} (h : fa[i]? = some (.fa (.glo x)) := by rfl) : mg x = some (.ref (He.ga K x)) := by
  obtain ⟨hh, a, b⟩ := B.ex
  exact He.glo_ok a b (B.says.fact i h)
theorem Bx.free (B : Bx fa fn P w K mg base) (i : Nat) {x : Str} (h : fa[i]? = some (.fa (.free x)) := by rfl) : mg x = none := by
  obtain ⟨hh, a, b⟩ := B.ex
  exact He.free_ok a b (B.says.fact i h)
theorem Bx.int (B : Bx fa fn P w K mg base) (i : Nat) {x : Str} {n : Int} (h : fa[i]? = some (.fa (.int x n)) := by rfl) : ∃ t, mg x = some (.int n t) := by
  obtain ⟨hh, a, b⟩ := B.ex
  exact He.int_ok a b (B.says.fact i h)
theorem Bx.str (B : Bx fa fn P w K mg base) (i : Nat) {x z : Str} (h : fa[i]? = some (.fa (.str x z)) := by rfl) : ∃ t, mg x = some (.str z t) := by
  obtain ⟨hh, a, b⟩ := B.ex
  exact He.str_ok a b (B.says.fact i h)
theorem Bx.tupS (B : Bx fa fn P w K mg base) (i : Nat) {x : Str} {ss : List Str} (h : fa[i]? = some (.tupS x ss) := by rfl) : mg x = some (.ref (He.ga K x)) ∧ ∀ H, SqT K H (He.ga K x) (ss.map V.str) := by
  obtain ⟨hh, a, b⟩ := B.ex
  obtain ⟨h1, h2⟩ := He.ba (B.says.fact i h)
  refine ⟨He.glo_ok a b h1, fun H => ?_⟩
  have := He.tupB_ok h2 H
  rw [List.map_map] at this
  exact this
structure FOk (P : Program) (w : World) (K : Frg) (mg : Str → Option Value) (base : Heap) (k : Nat) (f : Addr) (g : MF) : Prop where
  ex : ∃ (fd : FuncData) (ps : List Str), FnOk P w K mg base (L2.CX P w) k f fd ps (spM K (He.ga K) g) ∧ PySem.W.keepIn K (.ref f) = true ∧ Binds K fd ps []
theorem FOk.cal {k : Nat} {x : Str} {g : MF} (F : FOk P w K mg base k (He.ga K x) g) (h : mg x = some (.ref (He.ga K x))) : Cal P w K mg base k x g := by
  obtain ⟨fd, ps, a, b, c⟩ := F.ex
  exact ⟨_, fd, ps, a, h, b, c⟩
theorem FOk.met {X : Cx} {k : Nat} {c m : Str} {g : MF} (F : FOk X.prog X.w X.K X.mg X.base k (mA X.K c m) g) (h1 : (Ex.ci c).ok X.K = true) (h2 : (Ex.meth c m).ok X.K = true) : Met X (He.ga X.K) k c m g := by
  obtain ⟨fd, ps, a, b, d⟩ := F.ex
  exact ⟨_, fd, ps, (ci_ok h1).cl, He.meth_ok h2, a, d⟩
theorem FOk.mkr {X : Cx} {k : Nat} {c : Str} {g : MF} (F : FOk X.prog X.w X.K X.mg X.base k (mA X.K c "__init__") g) (h0 : X.mg c = some (.ref (He.ga X.K c))) (h1 : (Ex.ci c).ok X.K = true) (h2 : (Ex.mk c).ok X.K = true) : Mkr X (He.ga X.K) k c g := by
  obtain ⟨fd, ps, a, b, d⟩ := F.ex
  exact ⟨ci_ok h1, _, fd, ps, h0, He.mkr_ok h2, a, d⟩
theorem exc_cls {X : Cx} {c : Str} (h0 : X.mg c = some (.ref (He.ga X.K c))) (h : (Ex.exc c).ok X.K = true) : ExcC X (He.ga X.K) c := by
  obtain ⟨a, b, d, e⟩ := He.exc_ok h
  exact ⟨h0, a, b, d, e⟩
end
end Z

namespace Z
open PySem PySem.Spec PyProof.Rows L2
section
variable {cm : Str → Addr} {X : Cx} {Wx : WX}
abbrev Tb := List (Str × MF)
def Mets (X : Cx) (cm : Str → Addr) (k : Nat) (m : Str) (tb : Tb) : Prop := ∀ c g, tb.lookup c = some g → Met X cm k c m g
theorem mets_nil {k m} : Mets X cm k m [] := fun c g h => by cases h
theorem mets_cons {k j m c g tb} (h : Met X cm k c m g) (hk : k ≤ j) (r : Mets X cm j m tb) : Mets X cm j m ((c, g) :: tb) := fun c' g' e => by
  rw [List.lookup_cons] at e
  cases q : (c' == c) with
  | true =>
    rw [q] at e; cases e
    cases eq_of_beq q
    obtain ⟨f, fd, ps, a, b, d, e⟩ := h.ex
    exact ⟨f, fd, ps, a, b, d.mono hk, e⟩
  | false => rw [q] at e; exact r _ _ e
def eMet (m : Str) (tb : Tb) (o : ME) (a : MA) : ME := fun ρ h => (o ρ h).bind fun x h1 => match asI h1 x with
  | some (_, c, fs) => (match tb.lookup c, fs.lookup m with
    | some g, none => (a ρ h1).bind fun ws h2 => g (x :: ws) h2
    | _, _ => .stuck)
  | none => .stuck
def tMetQ (cm : Str → Addr) (K : PySem.W.Frag) (Wx : WX) (m : Str) (tb : Tb) (to : TE) (t : TA) : TE := fun σ H Q => to σ H fun x H1 => ∃ c g a dx fs, tb.lookup c = some g ∧ x = .ref a ∧ H1 a = some (.ins (cm c) dx fs) ∧ fs.lookup m = none ∧ t σ H1 fun vs H2 => spM K cm g (x :: vs) H2 Q (WE Wx σ)
theorem met_ok {to : TE} {t : TA} {m : Str} {tb : Tb} {mo : ME} {ma : MA}
    (so : ∀ σ ρ h R H Q, REnv X.K H R ρ σ → RH X.K cm h R H → Post X.K cm R H (EXw cm Wx σ) (OKv X.K Q) (mo ρ h) → to σ H Q)
    (sa : ∀ σ ρ h R H Q, REnv X.K H R ρ σ → RH X.K cm h R H → Post X.K cm R H (EXw cm Wx σ) (OKs X.K Q) (ma ρ h) → t σ H Q) :
    ∀ σ ρ h R H Q, REnv X.K H R ρ σ → RH X.K cm h R H → Post X.K cm R H (EXw cm Wx σ) (OKv X.K Q) (eMet m tb mo ma ρ h) → tMetQ cm X.K Wx m tb to t σ H Q := fun σ ρ h R H Q hρ hh pp => by
  refine so σ ρ h R H _ hρ hh (Post.mono (Post.bind pp) fun x h1 R1 H1 e1 x1 p1 => fun v r => ?_)
  cases z : asI h1 x with
  | none => simp only [z] at p1; exact p1.elim
  | some k =>
    obtain ⟨n, c, fs⟩ := k
    simp only [z] at p1
    obtain ⟨a, dx, vs, rfl, rfl, hn, ha, rf, ci⟩ := asI_ok x1 r z
    split at p1
    · rename_i g hg hl
      refine ⟨c, g, a, dx, vs, hg, rfl, ha, rf.none hl, ?_⟩
      exact sa σ ρ h1 R1 H1 _ (hρ.ext e1) x1 (Post.mono (Post.bind p1) fun ws h2 R2 H2 e2 x2 p2 => fun us rs => ⟨_, h2, R2, .cons (RV.ext e2 _ _ r) rs, x2, p2⟩)
    · exact p1.elim
theorem q_met {m : Str} {j : Nat} {tb : Tb} {o e : Expr} {es : List Expr} {mo : ME} {ma : MA} {apos pos : Pos} {pl : Sem Bool} (M : Mets X cm j m tb) (tk : Takes X Wx) (hr : Room j X.A) (ho : QE cm X Wx o mo) (ha : QAn cm X Wx (e :: es) ma)
    (hst : starEach (e :: es) X.env = (false, eval e X.env) :: starEach es X.env := by rfl) (hpl : (backTo pos (starEach es X.env)).any (·.1) = false := by rfl)
    (hev : eval (.Call (.Attribute o m apos) (e :: es) [] pos) X.env = (do
      let ov ← eval o X.env
      standAt apos.atName
      let (f, first) ← holding [ov] (getMethod ov m pl)
      callWith pos f first (backTo pos (starEach (e :: es) X.env)) (backToKw pos (keywordEach [] X.env))) := by rfl) :
    QE cm X Wx (.Call (.Attribute o m apos) (e :: es) [] pos) (eMet m tb mo ma) := by
  obtain ⟨to, po, so⟩ := ho
  obtain ⟨⟨t, pa, sa⟩, _⟩ := ha
  refine ⟨tMetQ cm X.K Wx m tb to t, ⟨fun pins s σ H Q I hq => ?_⟩, met_ok so sa⟩
  refine PySem.W.methodCall_KW (pl := pl) (thn (po.run pins s σ H _ I hq) fun u s1 hz => ?_) hev
  obtain ⟨x, H1, I1, rx, c, g, a, dx, fs, hg, ex, ea, l, q⟩ := hz
  obtain ⟨f, fd, ps, cl, me, F, hb⟩ := (M c g hg).ex
  subst ex
  cases (show u = Value.ref a from rx)
  refine getmeth_ok I1 ea cl me l (PySem.W.callWith_K (first := [.ref a]) (h₀ := X.base) I.ok.mod.kin me.kp (thn (pa.run pos pins s1 σ H1 _ I1 q) fun us s2 hz2 => ?_) hst hpl)
  obtain ⟨vs, H2, I2, rr, q2⟩ := hz2
  exact ⟨I2.kIn, run_fnS (us := .ref a :: us) (vs := .ref a :: vs) (E := WE Wx) F hr hb (passAt tk σ) I2 (.cons rfl rr) q2⟩
theorem q_met0 {m : Str} {j : Nat} {tb : Tb} {o : Expr} {mo : ME} {apos pos : Pos} {pl : Sem Bool} (M : Mets X cm j m tb) (tk : Takes X Wx) (hr : Room j X.A) (ho : QE cm X Wx o mo)
    (hev : eval (.Call (.Attribute o m apos) [] [] pos) X.env = (do
      let ov ← eval o X.env
      standAt apos.atName
      let (f, first) ← holding [ov] (getMethod ov m pl)
      callWith pos f first (backTo pos (starEach [] X.env)) (backToKw pos (keywordEach [] X.env))) := by rfl) :
    QE cm X Wx (.Call (.Attribute o m apos) [] [] pos) (eMet m tb mo aNil) := by
  obtain ⟨to, po, so⟩ := ho
  refine ⟨tMetQ cm X.K Wx m tb to tNil, ⟨fun pins s σ H Q I hq => ?_⟩, met_ok so fun σ ρ h R H Q _ hh p => p R H Ext.refl hh [] .nil⟩
  refine PySem.W.methodCall_KW (pl := pl) (thn (po.run pins s σ H _ I hq) fun u s1 hz => ?_) hev
  obtain ⟨x, H1, I1, rx, c, g, a, dx, fs, hg, ex, ea, l, q⟩ := hz
  obtain ⟨f, fd, ps, cl, me, F, hb⟩ := (M c g hg).ex
  subst ex
  cases (show u = Value.ref a from rx)
  exact getmeth_ok I1 ea cl me l (PySem.W.callWith_K0 (first := [.ref a]) I1.kIn me.kp (run_fnS (us := [.ref a]) (vs := [.ref a]) (E := WE Wx) F hr hb (passAt tk σ) I1 (.cons rfl .nil) q))
end
end Z
namespace Z
open PySem PySem.Spec PyProof.Rows L2
theorem room65 {k : Nat} {A : Around} (r : Room k A) : A.units + 65 < cLine := by have := r.un; omega
end Z

namespace Z
open PySem PySem.Spec PyProof.Rows L2
def RS.drop (i : Nat) : RS → RS
  | .ok f ρ h => .ok f (ρ.set i none) h
  | .exc _ _ _ => .stuck
  | .stuck => .stuck
abbrev TbB := List (Str × Bool)
open Classical in
noncomputable def sTryAs (i : Nat) (b : MS) (mt : TbB) (s : Nat → Str → MS) : MS := fun ρ h => match b ρ h with
  | .exc c ρ' h' => match mt.lookup c with
    | some true => if z : ∃ r, ∀ a, (s a c (ρ'.set i (some (.exn a c))) h').drop i = r then z.choose else .stuck
    | some false => .exc c ρ' h'
    | none => .stuck
  | r => r
theorem sTryAs_ok {i : Nat} {b : MS} {mt : TbB} {s : Nat → Str → MS} {ρ ρ' : Ev} {h h' : Hq} {f : Fl} (e : b ρ h = .ok f ρ' h') : sTryAs i b mt s ρ h = .ok f ρ' h' := by
  unfold sTryAs
  rw [e]
theorem sTryAs_exc {i : Nat} {b : MS} {mt : TbB} {s : Nat → Str → MS} {ρ ρ' : Ev} {h h' : Hq} {c : Str} {r : RS} (e : b ρ h = .exc c ρ' h') (m : mt.lookup c = some true) (k : ∀ a, (s a c (ρ'.set i (some (.exn a c))) h').drop i = r) : sTryAs i b mt s ρ h = r := by
  have z : ∃ r, ∀ a, (s a c (ρ'.set i (some (.exn a c))) h').drop i = r := ⟨r, k⟩
  unfold sTryAs
  rw [e]
  dsimp only
  rw [m]
  dsimp only
  rw [dif_pos z]
  exact (z.choose_spec 0).symm.trans (k 0)
section
variable {cm : Str → Addr} {X : Cx} {Wx : WX}
theorem REnv.exn {K H R ρ σ} (h : REnv K H R ρ σ) (i a : Nat) (c : Str) : REnv K H R (ρ.set i (some (.exn a c))) (σ.set i (some (.ref a))) := h.set i (.exn a c)
theorem qs_try_as (i : Nat) {x n : Str} {body suite : List Stmt} {b₀ : Stmt} {np pos pos' : Pos} {mb : MS} {ms : Nat → Str → MS} {mt : TbB} (hs : X.stack = X.env :: X.outer) (hf : X.env.frame = some X.env.locals) (hN : X.N.Nodup) (hc : Names X x (.ref (cm x))) (tk : Takes X Wx)
    (hm : ∀ c b, mt.lookup c = some b → PySem.W.exmOne X.K (.ref (cm c)) (.ref (cm x)) = some b)
    (hb : ∀ (W : WX) (pn : List (Addr × Obj)) (xe : Value → Shared → Prop), Takes (X.tr pn xe) W → PassesOwn (model X.prog X.w) X.A X.env xe → QB cm (X.tr pn xe) W body mb)
    (hsu : ∀ (a : Addr) (c : Str) (oe : Obj) (pn : List (Addr × Obj)), Zc (.ref (cm c)) none oe → (∃ vs, oe.data = .fields vs) → QB cm (X.suite a ((a, oe) :: pn)) WF (b₀ :: suite) (ms a c))
    (hi : X.N[i]? = some n := by rfl) (hln : X.env.kindOf n = some .local := by rfl) :
    QS cm X Wx (.Try body [.ExceptHandler (some (.Name x np)) (some n) (b₀ :: suite) pos'] [] [] pos) (sTryAs i mb mt ms) := by
  refine ⟨_, ps_try_as (tb := fun W => tQ cm X W mb) (ts := fun a cls d D σ H => ∃ c, cls = .ref (cm c) ∧ d = none ∧ tQ cm X WF (ms a c) D σ H) hs hf hN hi hln hc tk (fun W pn xe tk' hp' => (hb W pn xe tk' hp').run) (fun a oe cls d pn hz hfl => ?_), fun σ ρ h R H D hρ hh pp => ?_⟩
  · refine ⟨fun pins st σ H D I q => ?_⟩
    obtain ⟨c, e1, e2, q⟩ := q
    subst e1 e2
    exact (hsu a c oe pn hz hfl).run.run pins st σ H D I q
  refine ⟨ρ, h, R, hρ, hh, ?_⟩
  unfold sTryAs at pp
  cases q : mb ρ h with
  | ok f ρ' h' => rw [q] at pp; exact pp
  | stuck => rw [q] at pp; exact pp
  | exc c ρ' h' =>
    rw [q] at pp
    dsimp only at pp
    intro R' H' σ' e' x' r'
    cases qm : mt.lookup c with
    | none => simp only [qm] at pp; exact pp.elim
    | some b =>
      refine ⟨b, hm c b qm, fun hb => ?_, fun hb => ?_⟩
      · subst hb
        simp only [qm] at pp
        split at pp
        · rename_i z
          refine fun a _ => ⟨c, rfl, rfl, ρ'.set i (some (.exn a c)), h', R', r'.exn i a c, x', ?_⟩
          have zz := z.choose_spec a
          rw [← zz] at pp
          cases qs : ms a c (ρ'.set i (some (.exn a c))) h' with
          | stuck => rw [qs] at pp; exact pp.elim
          | exc c2 ρ2 h2 => rw [qs] at pp; exact pp.elim
          | ok f ρ2 h2 =>
            rw [qs] at pp
            have pp2 := PostS.from_ e' pp
            cases f with
            | nx => exact fun R3 H3 σ3 e3 x3 r3 => pp2 R3 H3 _ e3 x3 (r3.unset i)
            | bk => exact fun R3 H3 σ3 e3 x3 r3 => pp2 R3 H3 _ e3 x3 (r3.unset i)
            | ct => exact fun R3 H3 σ3 e3 x3 r3 => pp2 R3 H3 _ e3 x3 (r3.unset i)
            | rt w => exact fun R3 H3 σ3 e3 x3 r3 => pp2 R3 H3 _ e3 x3 (r3.unset i)
        · exact pp.elim
      · subst hb
        simp only [qm] at pp
        exact pp R' H' σ' e' x' r'
def isE (a : Nat) (c : Str) (tb : TbB) (m : ME) : ME := fun ρ h => (m ρ h).bind fun x h1 => match x with
  | .exn a' c' => if a' = a ∧ c' = c then (match tb.lookup c with
    | some b => .ok (.bl b) h1
    | none => .stuck) else .stuck
  | _ => .stuck
theorem isE_go {a : Addr} {c : Str} {oe : Obj} {pn : List (Addr × Obj)} {tb : TbB} {e ey : Expr} {m : ME} {x : Str} {p pos : Pos} {cv : Value} {vy : V} {Wy : WX} (hz : Zc (.ref (cm c)) none oe) (hf : ∃ vs, oe.data = .fields vs) (hg : Gl X x) (hm : X.mg x = none) (hv : bootBuiltins x = some (.builtin "isinstance"))
    (py : PE (X.suite a ((a, oe) :: pn)) ey (tC vy)) (hcv : ∀ u, RelV vy u → u = cv) (hk : ∀ c b, tb.lookup c = some b → PySem.W.kitOne X.K (.ref (cm c)) cv = some b) (hE : ∀ c b, tb.lookup c = some b → L2.ExcC X.K (cm c))
    (ha : QE cm (X.suite a ((a, oe) :: pn)) Wy e m)
    (hs1 : starEach [e, ey] X.env = (false, eval e X.env) :: starEach [ey] X.env := by rfl) (hs2 : starEach [ey] X.env = (false, eval ey X.env) :: starEach [] X.env := by rfl)
    (hnx : x ≠ "__name__" := by decide) (hdx : (x == ("__debug__" : Str)) = false := by decide) (hpl : (backTo pos (starEach [ey] X.env)).any (·.1) = false := by rfl) :
    QE cm (X.suite a ((a, oe) :: pn)) Wy (.Call (.Name x p) [e, ey] [] pos) (isE a c tb m) := by
  obtain ⟨ta, pa, sa⟩ := ha
  cases zl : tb.lookup c with
  | none =>
    refine ⟨_, pe_callB (X := X.suite a ((a, oe) :: pn)) (id := "isinstance") (r := fun _ _ _ => False) (fun _ _ _ _ _ _ _ _ _ z => z.elim) hg hm hv (pa_cons pa (pa_cons py pa_nil hs2) hs1) hnx hdx hs1 hpl, fun σ ρ h R H Q hρ hh p => ?_⟩
    refine sa σ ρ h R H _ hρ hh (Post.mono (Post.bind p) fun w h1 R1 H1 e1 x1 p1 => fun v r => ?_)
    simp only [zl] at p1
    cases w with
    | exn a' c' => dsimp only at p1; split at p1 <;> exact p1.elim
    | _ => exact p1.elim
  | some b =>
    refine ⟨_, pe_callB (call_isE (hE c b zl) hz hf) hg hm hv (pa_cons pa (pa_cons py pa_nil hs2) hs1) hnx hdx hs1 hpl, fun σ ρ h R H Q hρ hh p => ?_⟩
    refine sa σ ρ h R H _ hρ hh (Post.mono (Post.bind p) fun w h1 R1 H1 e1 x1 p1 => fun v r => ?_)
    simp only [zl] at p1
    cases w with
    | exn a' c' =>
      dsimp only at p1
      split at p1
      · rename_i z
        obtain ⟨rfl, rfl⟩ := z
        cases r
        exact ⟨vy, cv, b, rfl, hcv, hk _ b zl, post_v p1 x1 (.bl b)⟩
      · exact p1.elim
    | _ => exact p1.elim
theorem q_isE {a : Addr} {c : Str} {oe : Obj} {pn : List (Addr × Obj)} {tb : TbB} {e : Expr} {m : ME} {x y : Str} {p pos py : Pos} {Wy : WX} (hz : Zc (.ref (cm c)) none oe) (hf : ∃ vs, oe.data = .fields vs) (hg : Gl X x) (hm : X.mg x = none) (hv : bootBuiltins x = some (.builtin "isinstance"))
    (hgy : Gl X y) (hmy : X.mg y = some (.ref (cm y))) (hk : ∀ c b, tb.lookup c = some b → PySem.W.kitOne X.K (.ref (cm c)) (.ref (cm y)) = some b) (hE : ∀ c b, tb.lookup c = some b → L2.ExcC X.K (cm c))
    (ha : QE cm (X.suite a ((a, oe) :: pn)) Wy e m) (hdy : (y == ("__debug__" : Str)) = false := by decide)
    (hs1 : starEach [e, .Name y py] X.env = (false, eval e X.env) :: starEach [.Name y py] X.env := by rfl) (hs2 : starEach [.Name y py] X.env = (false, eval (.Name y py) X.env) :: starEach [] X.env := by rfl)
    (hnx : x ≠ "__name__" := by decide) (hdx : (x == ("__debug__" : Str)) = false := by decide) (hpl : (backTo pos (starEach [.Name y py] X.env)).any (·.1) = false := by rfl) :
    QE cm (X.suite a ((a, oe) :: pn)) Wy (.Call (.Name x p) [e, .Name y py] [] pos) (isE a c tb m) :=
  isE_go (cv := .ref (cm y)) (vy := .ref (cm y)) hz hf hg hm hv (pe_glob hgy hmy rfl hdy) (fun u r => r) hk hE ha hs1 hs2 hnx hdx hpl
theorem q_isET {a : Addr} {c : Str} {oe : Obj} {pn : List (Addr × Obj)} {tb : TbB} {e : Expr} {m : ME} {T : String} {x y : Str} {p pos py : Pos} {Wy : WX} (hz : Zc (.ref (cm c)) none oe) (hf : ∃ vs, oe.data = .fields vs) (hg : Gl X x) (hm : X.mg x = none) (hv : bootBuiltins x = some (.builtin "isinstance"))
    (hgy : Gl X y) (hmy : X.mg y = none) (hvy : bootBuiltins y = some (.type T)) (hk : ∀ c b, tb.lookup c = some b → PySem.W.kitOne X.K (.ref (cm c)) (.type T) = some b) (hE : ∀ c b, tb.lookup c = some b → L2.ExcC X.K (cm c))
    (ha : QE cm (X.suite a ((a, oe) :: pn)) Wy e m) (hny : y ≠ "__name__" := by decide) (hdy : (y == ("__debug__" : Str)) = false := by decide)
    (hs1 : starEach [e, .Name y py] X.env = (false, eval e X.env) :: starEach [.Name y py] X.env := by rfl) (hs2 : starEach [.Name y py] X.env = (false, eval (.Name y py) X.env) :: starEach [] X.env := by rfl)
    (hnx : x ≠ "__name__" := by decide) (hdx : (x == ("__debug__" : Str)) = false := by decide) (hpl : (backTo pos (starEach [.Name y py] X.env)).any (·.1) = false := by rfl) :
    QE cm (X.suite a ((a, oe) :: pn)) Wy (.Call (.Name x p) [e, .Name y py] [] pos) (isE a c tb m) :=
  isE_go (cv := .type T) (vy := .ty T) hz hf hg hm hv (pe_bltn (v := .ty T) hgy hmy hvy rfl hny hdy) (fun u r => r) hk hE ha hs1 hs2 hnx hdx hpl
theorem tbB_nil {P : Str → Bool → Prop} : ∀ c b, ([] : TbB).lookup c = some b → P c b := fun _ _ h => by cases h
theorem tbB_cons {P : Str → Bool → Prop} {c : Str} {b : Bool} {tb : TbB} (h : P c b) (r : ∀ c b, tb.lookup c = some b → P c b) : ∀ c' b', List.lookup c' ((c, b) :: tb) = some b' → P c' b' := fun c' b' e => by
  rw [List.lookup_cons] at e
  cases q : (c' == c) with
  | true => rw [q] at e; cases e; cases eq_of_beq q; exact h
  | false => rw [q] at e; exact r _ _ e
end

section
variable {cm : Str → Addr} {X : Cx} {Wx : WX}
def putIx (x k y : W) (h : Hq) : Option Hq := match k with
  | .int j => (match atM h x with
    | some (n, t, xs) => (match ixN xs.length j with
      | some m => some (h.set n (.lst t (xs.set m y)))
      | none => none)
    | none => none)
  | _ => none
def sPut (o i e : ME) : MS := fun ρ h => (e ρ h).toS ρ fun y h1 => (o ρ h1).toS ρ fun x h2 => (i ρ h2).toS ρ fun k h3 => match putIx x k y h3 with
  | some h4 => .ok .nx ρ h4
  | none => .stuck
theorem qs_put {o i e : Expr} {mo mi me : ME} {pos pos' : Pos} (ho : QE cm X Wx o mo) (hi : QE cm X Wx i mi) (he : QE cm X Wx e me)
    (ha : ∀ v, assign (.Subscript o i pos') X.env v = (do
      let ov ← holding [v] (eval o X.env)
      let iv ← holding [v, ov] (eval i X.env)
      standAt pos'
      holding [v, ov, iv] (setItem ov iv v)
      release [v, ov, iv] []) := by intro _; rfl)
    (hs : swapsWithSole [.Subscript o i pos'] e pos.line X.env = pure false := by rfl) (hw : swappedStores [.Subscript o i pos'] e X.env = pure none := by rfl)
    (h1 : (assignEach [.Subscript o i pos'] X.env).map (·.2) = [assign (.Subscript o i pos') X.env] := by rfl) : QS cm X Wx (.Assign [.Subscript o i pos'] e pos) (sPut mo mi me) := by
  obtain ⟨to, po, so⟩ := ho
  obtain ⟨ti, pi, si⟩ := hi
  obtain ⟨te, pe, se⟩ := he
  refine ⟨_, ps_asg pe (pg_sub po pi set_list ha) hs hw h1, fun σ ρ h R H D hρ hh pp => ?_⟩
  refine se σ ρ h R H _ hρ hh (Post.mono (PostS.toS hρ pp) fun y h1 R1 H1 e1 x1 p1 => fun vy ry => ?_)
  refine so σ ρ h1 R1 H1 _ (hρ.ext e1) x1 (Post.mono (PostS.toS (hρ.ext e1) p1) fun x h2 R2 H2 e2 x2 p2 => fun vx rx => ?_)
  refine si σ ρ h2 R2 H2 _ ((hρ.ext e1).ext e2) x2 (Post.mono (PostS.toS ((hρ.ext e1).ext e2) p2) fun k h3 R3 H3 e3 x3 p3 => fun vk rk => ?_)
  unfold putIx at p3
  cases k with
  | int j =>
    cases rk
    dsimp only at p3
    cases z : atM h3 x with
    | none => simp only [z] at p3; exact p3.elim
    | some q =>
      obtain ⟨n, t, xs⟩ := q
      simp only [z] at p3
      obtain ⟨a, vs, rfl, hn, ha', ru⟩ := atM_ok x3 (RV.ext e3 _ _ rx) z
      cases zi : ixN xs.length j with
      | none => simp only [zi] at p3; exact p3.elim
      | some m =>
        simp only [zi] at p3
        refine ⟨a, vs, j, m, rfl, rfl, ha', by rw [← ru.length]; exact zi, ?_⟩
        have ry3 := RV.ext e3 _ _ (RV.ext e2 _ _ ry)
        have ex : Ext X.K R3 H3 R3 (upd H3 a (.lst (vs.set m vy))) := Ext.write (by assumption) hn ha' (fun _ q => by cases q) (fun _ _ q => by cases q)
        exact p3 R3 _ σ ex (x3.write hn ha' (fun _ q => by cases q) (fun _ _ q => by cases q) (.lst upd_same (RVs.ext ex _ _ (RVs.set ry3 m ru)))) ((((hρ.ext e1).ext e2).ext e3).ext ex)
  | _ => exact p3.elim
end
end Z

namespace Z
open PySem L2
section
variable {ρ : Ev} {h : Hq} {a b o e : ME} {m : MA} {f : MF} {c : MT} {g : MG} {mi : MI} {s : Str} {n t : Nat} {x y w : W} {xs ws : List W} {vs : List Nat} {tb : Tb} {neg : Bool}
theorem isSome_some {α : Type} {a : α} : (some a).isSome = true := id rfl
end
def Kp (h h' : Hq) : Prop := ∀ (n : Nat) (o : Ob), h[n]? = some o → h'[n]? = some o
theorem Kp.refl {h : Hq} : Kp h h := fun _ _ e => e
theorem Kp.trans {a b c : Hq} (x : Kp a b) (y : Kp b c) : Kp a c := fun n o e => y n o (x n o e)
theorem Kp.len {h h' : Hq} (x : Kp h h') : h.length ≤ h'.length := by
  cases e : h.length with
  | zero => omega
  | succ k =>
    have hk : k < h.length := by omega
    have := x k h[k] (List.getElem?_eq_getElem hk)
    have := (List.getElem?_eq_some_iff.mp this).1
    omega
theorem Kp.app {h t : Hq} : Kp h (h ++ t) := fun n o e => by rw [List.getElem?_append_left (List.getElem?_eq_some_iff.mp e).1]; exact e
theorem Kp.set {h h' : Hq} {n : Nat} {o : Ob} (x : Kp h h') (hn : h.length ≤ n) : Kp h (h'.set n o) := fun m u e => by
  have hm := (List.getElem?_eq_some_iff.mp e).1
  rw [List.getElem?_set_ne (by omega)]
  exact x m u e
section
variable {h : Hq} {n m : Nat} {xs ys : List Int} {i : Int} {neg : Bool}
end
section
variable {h : Hq} {n : Nat} {xs : List Int} {i : Int}
end
theorem natAbs_10 : Int.natAbs 10 = 10 := id rfl
theorem natAbs_2 : Int.natAbs 2 = 2 := id rfl
section
variable {h : Hq} {n : Nat} {c f : Str} {fs : List (Str × W)} {v y : W}
end
end Z

namespace Z
open PySem PySem.Spec PyProof.Rows L2
def lexLe (a b : Int × Int) : Bool := decide (a.1 < b.1 ∨ a.1 = b.1 ∧ a.2 ≤ b.2)
def sortI (ns : List Int) : List Int := ns.mergeSort (fun a b => decide (a ≤ b))
def sortP (ps : List (Int × Int)) : List (Int × Int) := ps.mergeSort lexLe
theorem sortI_uniq {ns ms : List Int} (p : ms.Perm ns) (s : ms.Pairwise (· ≤ ·)) : ms = sortI ns := by
  have s2 := List.pairwise_mergeSort (le := fun a b : Int => decide (a ≤ b)) (fun a b c h1 h2 => by simp only [decide_eq_true_eq] at *; omega) (fun a b => by simp only [Bool.or_eq_true, decide_eq_true_eq]; omega) ns
  refine List.Perm.eq_of_pairwise (le := fun a b : Int => a ≤ b) (fun a b _ _ h1 h2 => by omega) s (s2.imp fun {a b} h => of_decide_eq_true h) (p.trans (List.mergeSort_perm ns _).symm)
theorem sortP_uniq {ps qs : List (Int × Int)} (p : qs.Perm ps) (s : qs.Pairwise (fun a b => lexLe a b = true)) : qs = sortP ps := by
  have s2 := List.pairwise_mergeSort (le := lexLe) (fun a b c h1 h2 => by unfold lexLe at *; simp only [decide_eq_true_eq] at *; omega) (fun a b => by unfold lexLe; simp only [Bool.or_eq_true, decide_eq_true_eq]; omega) ps
  refine List.Perm.eq_of_pairwise (le := fun a b => lexLe a b = true) (fun a b _ _ h1 h2 => ?_) s s2 (p.trans (List.mergeSort_perm ps _).symm)
  unfold lexLe at h1 h2
  simp only [decide_eq_true_eq] at h1 h2
  obtain ⟨a1, a2⟩ := a
  obtain ⟨b1, b2⟩ := b
  simp only at h1 h2
  have e1 : a1 = b1 := by omega
  have e2 : a2 = b2 := by omega
  rw [e1, e2]
inductive PR (K : PySem.W.Frag) (H : Hp) : List V → List (Int × Int) → Prop
  | nil : PR K H [] []
  | cons {t i j xs ps} : H t = some (.tup [.int i, .int j]) → PR K H xs ps → PR K H (.ref t :: xs) ((i, j) :: ps)
def rdP (h : Heap) : Value → Int × Int
  | .ref t => match h.get? t with
    | some ⟨_, _, .seq its _, _⟩ => (match its.toList with
      | [.int i _, .int j _] => (i, j)
      | _ => (0, 0))
    | _ => (0, 0)
  | _ => (0, 0)
def rSortedPT (K : PySem.W.Frag) : List V → Hp → VK → Prop := fun vs H Q => ∃ (a : Addr) (xs : List V) (ps : List (Int × Int)), vs = [V.ref a] ∧ SqL K H a xs ∧ PR K H xs ps ∧ ∀ ys q, PR K H ys (sortP ps) → ys.length = xs.length → H q = none → Q (.ref q) (upd H q (.lst ys))
section
variable {X : Cx}
theorem pr_read {pins : List (Addr × Obj)} {σ : L2.St} {H : Hp} {s : Shared} (I : Inv X pins σ H s) {t : Addr} {i j : Int} (h : H t = some (.tup [.int i, .int j])) : (∃ a o t1 t2 n, Value.ref t = .ref a ∧ s.heap.get? a = some o ∧ o.cls = .type "tuple" ∧ o.data = .seq #[.int (rdP s.heap (.ref t)).1 t1, .int (rdP s.heap (.ref t)).2 t2] n) ∧ rdP s.heap (.ref t) = (i, j) := by
  obtain ⟨its, r, ⟨o, ho, hc, n, hd⟩, _⟩ := I.tuple (SqT.of h)
  obtain ⟨u1, u2, rfl, ri, rj⟩ := vals2 r
  obtain ⟨t1, rfl⟩ := ri
  obtain ⟨t2, rfl⟩ := rj
  have e : rdP s.heap (.ref t) = (i, j) := by
    obtain ⟨oc, od, dt, sl⟩ := o
    dsimp only at hd
    subst hd
    unfold rdP
    dsimp only
    rw [ho]
  rw [e]
  exact ⟨⟨t, o, t1, t2, n, rfl, ho, hc, hd⟩, rfl⟩
theorem pr_vals {pins : List (Addr × Obj)} {σ : L2.St} {H : Hp} {s : Shared} (I : Inv X pins σ H s) : ∀ {xs : List V} {ps : List (Int × Int)} {us : List Value}, PR X.K H xs ps → Vals xs us → us.map (rdP s.heap) = ps ∧ ∀ u ∈ us, ∃ t i j, u = .ref t ∧ H t = some (.tup [.int i, .int j]) := by
  intro xs ps us h r
  induction h generalizing us with
  | nil => cases r; exact ⟨rfl, fun u hu => by cases hu⟩
  | @cons t i j xs ps h1 _ ih =>
    cases r with
    | cons ru rt =>
      obtain rfl := (show _ = Value.ref t from ru)
      obtain ⟨e1, e2⟩ := ih rt
      refine ⟨by rw [List.map_cons, e1, (pr_read I h1).2], fun u hu => ?_⟩
      rcases List.mem_cons.mp hu with rfl | hu
      · exact ⟨t, i, j, rfl, h1⟩
      · exact e2 u hu
theorem pr_back {pins : List (Addr × Obj)} {σ : L2.St} {H : Hp} {s : Shared} (I : Inv X pins σ H s) : ∀ {us : List Value}, (∀ u ∈ us, ∃ t i j, u = .ref t ∧ H t = some (.tup [.int i, .int j])) → ∃ ys, Vals ys us ∧ PR X.K H ys (us.map (rdP s.heap))
  | [], _ => ⟨[], .nil, .nil⟩
  | u :: us, h => by
    obtain ⟨t, i, j, rfl, h1⟩ := h u (List.mem_cons_self ..)
    obtain ⟨ys, r, p⟩ := pr_back I (us := us) fun v hv => h v (List.mem_cons_of_mem _ hv)
    refine ⟨.ref t :: ys, .cons rfl r, ?_⟩
    rw [List.map_cons, (pr_read I h1).2]
    exact .cons h1 p
theorem cr_sortedPT : CallR X (.builtin "sorted") (rSortedPT X.K) := by
  intro pins s σ H vs us Q I r h
  obtain ⟨a, xs, ps, rfl, hs, hp, q⟩ := h
  obtain ⟨its, rv, hl, hz⟩ := I.list hs
  obtain ⟨u, rfl, ru⟩ := vals1 r
  obtain rfl : u = Value.ref a := ru
  obtain ⟨e1, e2⟩ := pr_vals I hp rv
  refine SrtO.sorted_pairsO (k := rdP s.heap) hl.isList (by rw [← rv.length]; exact hz) (fun v hv => ?_) fun h' d out h1 h2 kp hd hn => ?_
  · obtain ⟨t, i, j, rfl, ht⟩ := e2 v hv
    exact (pr_read I ht).1
  · obtain ⟨ys, ry, py⟩ := pr_back I (us := out) fun u hu => e2 u (h2.perm.mem_iff.mp hu)
    have eu : out.map (rdP s.heap) = sortP ps := sortP_uniq (by rw [← e1]; exact h2.perm.map _) (List.pairwise_map.mpr (h1.imp fun {x y} hh => by
      have z := SrtO.lexB_no.mp hh
      unfold lexLe
      simp only [decide_eq_true_eq]
      omega))
    rw [eu] at py
    obtain ⟨n, hn⟩ := hn
    have hlen : ys.length = xs.length := by rw [ry.length, rv.length]; exact h2.perm.length_eq
    exact ⟨.ref d, upd H d (.lst ys), I.laid (t' := s.toks) kp hd ⟨by rw [hlen]; exact hz, out, n, ry, hn⟩, rfl, q ys d py hlen (I.hok.fresh hd)⟩
end

def intsW : List W → Option (List Int)
  | [] => some []
  | .int i :: r => (intsW r).map (i :: ·)
  | _ => none
def pairsW : List W → Option (List (Int × Int))
  | [] => some []
  | .tup [.int i, .int j] :: r => (pairsW r).map ((i, j) :: ·)
  | _ => none
abbrev pW (p : Int × Int) : W := .tup [.int p.1, .int p.2]
theorem intsW_ok {K H R} : ∀ {ws : List W} {vs : List V} {ns : List Int}, RVs K H R ws vs → intsW ws = some ns → vs = ns.map V.int
  | [], _, ns, h, e => by cases h; cases e; rfl
  | w :: ws, _, ns, h, e => by
    cases h with
    | cons a b =>
      cases w with
      | int i =>
        unfold intsW at e
        cases q : intsW ws with
        | none => rw [q] at e; cases e
        | some ms =>
          rw [q] at e
          cases e
          cases a
          rw [intsW_ok b q, List.map_cons]
      | _ => cases e
theorem pairsW_ok {K H R} : ∀ {ws : List W} {vs : List V} {ps : List (Int × Int)}, RVs K H R ws vs → pairsW ws = some ps → PR K H vs ps
  | [], _, ps, h, e => by cases h; cases e; exact .nil
  | w :: ws, _, ps, h, e => by
    cases h with
    | cons a b =>
      unfold pairsW at e
      split at e
      · rename_i q; cases q
      · rename_i i j r q
        obtain ⟨rfl, rfl⟩ := List.cons.inj q
        cases z : pairsW ws with
        | none => rw [z] at e; cases e
        | some qs =>
          rw [z] at e
          cases e
          cases a with
          | tup sq rs =>
            cases rs with
            | cons x y =>
              cases x
              cases y with
              | cons x y =>
                cases x; cases y
                exact .cons sq (pairsW_ok b z)
      · cases e
theorem pr_rvs {K H R} : ∀ {vs : List V} {ps : List (Int × Int)}, PR K H vs ps → RVs K H R (ps.map pW) vs := by
  intro vs ps h
  induction h with
  | nil => exact .nil
  | cons s _ ih => exact .cons (.tup s (.cons (.int _) (.cons (.int _) .nil))) ih
def sortW : MF := fun ws h => match ws with
  | [x] => (match asL h x with
    | some xs => (match intsW xs with
      | some ns => mkL 0 ((sortI ns).map W.int) h
      | none => (match pairsW xs with
        | some ps => mkL 0 ((sortP ps).map pW) h
        | none => .stuck))
    | none => .stuck)
  | _ => .stuck
section
variable {cm : Str → Addr} {X : Cx}
theorem call_sortW : CallR X (.builtin "sorted") (fun xs H Q => rSortedI X.K xs H Q ∨ rSortedPT X.K xs H Q) := CallR.or cr_sortedI cr_sortedPT
theorem q_sortW : QCl cm X (fun xs H Q => rSortedI X.K xs H Q ∨ rSortedPT X.K xs H Q) sortW := by
  intro EX h R H xs vs Q hh rs p
  unfold sortW at p
  split at p
  · rename_i x
    cases rs with | cons a b =>
    cases b
    cases z : asL h x with
    | none => simp only [z] at p; exact p.elim
    | some ys =>
      simp only [z] at p
      obtain ⟨a', us, rfl, sq, ru⟩ := asL_ok hh a z
      cases zi : intsW ys with
      | some ns =>
        simp only [zi] at p
        have e := intsW_ok ru zi
        subst e
        refine .inl ⟨a', ns, rfl, sq, fun ns' q pm st hq => ?_⟩
        rw [sortI_uniq pm st]
        refine post_lst p hh ?_ hq
        clear p
        generalize sortI ns = ms
        induction ms with
        | nil => exact .nil
        | cons m ms ih => exact .cons (.int m) ih
      | none =>
        simp only [zi] at p
        cases zp : pairsW ys with
        | none => simp only [zp] at p; exact p.elim
        | some ps =>
          simp only [zp] at p
          exact .inr ⟨a', us, ps, rfl, sq, pairsW_ok ru zp, fun zs q pr _ hq => post_lst p hh (pr_rvs pr) hq⟩
  · exact p.elim
end
end Z

namespace Z
open PySem PySem.Spec PyProof.Rows L2
section
variable {cm : Str → Addr} {X : Cx} {Wx : WX}
end
end Z

namespace Z
open PySem PySem.Spec PyProof.Rows L2
section
variable {cm : Str → Addr} {X : Cx} {Wx : WX}
theorem own_call {j : Nat} {m : Str} {tb : Tb} {c : Str} {g : MF} {a dx : Addr} {fs : List (Str × V)} {pins : List (Addr × Obj)} {σ : L2.St} {H : Hp} {s : Shared} (M : Mets X cm j m tb) (hg : tb.lookup c = some g) (I : Inv X pins σ H s) (ha : H a = some (.ins (cm c) dx fs)) :
    ∃ f fd ps h₀ L mm ox od, PyProof.Rows.Fr h₀ L s.heap mm ∧ X.K.In h₀ ∧ PySem.W.InstAt s.heap a ox (cm c) od ∧ PySem.W.findIn X.K (.ref (cm c)) m = some (some (.ref f)) ∧ PySem.W.isFn X.K (.ref f) = true ∧
      FnOk X.prog X.w X.K X.mg X.base (L2.CX X.prog X.w) j f fd ps (spM X.K cm g) ∧ Binds X.K fd ps [] := by
  obtain ⟨f, fd, ps, cl, me, F, hb⟩ := (M c g hg).ex
  obtain ⟨mA, J, _⟩ := ins_get I.hok ha
  obtain ⟨od, J, _⟩ := J.look
  obtain ⟨m', hF⟩ := I.fr
  exact ⟨f, fd, ps, _, _, m', _, od, hF, I.ok.mod.kin, J, me.at_, me.fn, F, hb⟩
def rOwnLen (cm : Str → Addr) (K : PySem.W.Frag) (tb : Tb) : List V → Hp → VK → Prop := fun xs H Q => ∃ c g a dx fs, tb.lookup c = some g ∧ xs = [.ref a] ∧ H a = some (.ins (cm c) dx fs) ∧ spM K cm g xs H (fun v H' => ∃ n : Int, v = .int n ∧ (0 ≤ n ∧ n < 2 ^ 63) ∧ Q (.int n) H') E0
theorem call_ownLen {j : Nat} {tb : Tb} (M : Mets X cm j "__len__" tb) (hr : Room (j + 1) X.A) : CallR X (.builtin "len") (rOwnLen cm X.K tb) := by
  intro pins s σ H xs us Q I r h
  obtain ⟨c, g, a, dx, fs, hg, rfl, ha, q⟩ := h
  obtain ⟨u, rfl, ru⟩ := vals1 r
  obtain rfl : u = Value.ref a := ru
  obtain ⟨f, fd, ps, h₀, L, mm, ox, od, hF, hK, J, at_, fn, F, hb⟩ := own_call M hg I ha
  have hl : [Value.ref a].length = ps.length := by
    have := F.len _ _ _ _ q
    simpa using this
  refine PySem.W.len_K hF hK J at_ fn (wpAny_call (codeAny_mono (F.run X.A.in1 X.stack s H ⟨[.ref a], []⟩ [.ref a] [.ref a] _ E0 hr.in1 I.env0.in1 (by
    have := hb s [.ref a] I.kIn (by simpa using hl)
    simpa using this) (.cons rfl .nil) q) fun r s' hq => ?_))
  cases r with
  | error er => exact False.elim (passL (X := X.nox) pins σ H s er s' (I.wish _) hq)
  | ok fl =>
    cases fl with
    | ret u =>
      obtain ⟨v, H', I3, rv, n, rfl, hn, q3⟩ := I.after hq
      obtain ⟨t, rfl⟩ := rv
      exact ⟨hn, .int n, H', I3.tok (s'.toks + 1), ⟨_, rfl⟩, q3⟩
    | next => exact False.elim hq
    | brk => exact False.elim hq
    | cont => exact False.elim hq
def ownLen (tb : Tb) : MF := fun ws h => match ws with
  | [x] => (match asI h x with
    | some (_, c, _) => (match tb.lookup c with
      | some g => (match g [x] h with
        | .ok (.int n) h' => if decide (0 ≤ n) && i62 n then .ok (.int n) h' else .stuck
        | _ => .stuck)
      | none => .stuck)
    | none => lenW [x] h)
  | _ => .stuck
theorem q_ownLen {tb : Tb} : QCl cm X (fun xs H Q => rOwnLen cm X.K tb xs H Q ∨ rLenW X.K xs H Q) (ownLen tb) := by
  intro EX h R H xs vs Q hh rs p
  unfold ownLen at p
  split at p
  · rename_i x
    cases z : asI h x with
    | none => simp only [z] at p; exact .inr (q_lenW EX h R H [x] vs Q hh rs p)
    | some k =>
      obtain ⟨n, c, fs⟩ := k
      simp only [z] at p
      cases rs with | cons ra rb =>
      cases rb
      obtain ⟨a, dx, us, rfl, rfl, hn, ha, rf, ci⟩ := asI_ok hh ra z
      cases hg : tb.lookup c with
      | none => simp only [hg] at p; exact p.elim
      | some g =>
        simp only [hg] at p
        refine .inl ⟨c, g, a, dx, us, hg, rfl, ha, [.ref n], h, R, .cons ra .nil, hh, ?_⟩
        cases q : g [.ref n] h with
        | exc c2 h2 => simp only [q] at p; exact p.elim
        | stuck => simp only [q] at p; exact p.elim
        | ok w h2 =>
          simp only [q] at p
          cases w with
          | int m =>
            dsimp only at p
            split at p
            · rename_i hz
              simp only [Bool.and_eq_true, decide_eq_true_eq] at hz
              have h62 := hz.2
              unfold i62 at h62
              simp only [Bool.and_eq_true, decide_eq_true_eq] at h62
              exact fun R' H' e' x' v r => by cases r; exact ⟨m, rfl, ⟨hz.1, by omega⟩, p R' H' e' x' _ (.int _)⟩
            · exact p.elim
          | _ => exact p.elim
  · exact p.elim
end
end Z

namespace Z
open PySem PySem.Spec PyProof.Rows L2
section
variable {cm : Str → Addr} {X : Cx} {Wx : WX}
def eDnew (k : Bool) : ME := fun _ h => .ok (.ref h.length) (h ++ [.dct 0 k []])
theorem post_dct {K : PySem.W.Frag} {h : Hq} {R H EX Q} {k : Bool} {o : HO} (p : Post K cm R H EX (OKv K Q) (.ok (.ref h.length) (h ++ [.dct 0 k []]))) (x : RH K cm h R H) {q : Addr} (hq : H q = none) (ro : RO K (upd H q o) (R ++ [q]) cm (.dct 0 k []) q) : Q (.ref q) (upd H q o) := by
  refine p (R ++ [q]) _ (Ext.newR hq) (x.newR hq (x.free hq) ro) _ (.ref ?_)
  rw [List.getElem?_append_right (by rw [x.len]; exact Nat.le_refl _), x.len, Nat.sub_self]; rfl
theorem q_dnewK {pos : Pos} : QE cm X Wx (.Dict [] [] pos) (eDnew false) := ⟨_, pe_dnewK, fun σ ρ h R H Q hρ hh p q hq => post_dct p hh hq (.dK upd_same .nil)⟩
end

def getW (k : W) : List (W × W) → Option W
  | [] => none
  | (l, x) :: r => if W.beq l k then some x else getW k r
theorem rk_eq {a b : W} {k l : Key} (h1 : RK a k) (h2 : RK b l) : W.beq a b = decide (k = l) := by
  cases h1 <;> cases h2
  · rename_i i j; by_cases e : i = j <;> simp [W.beq, e]
  · simp [W.beq]
  · simp [W.beq]
  · rename_i i j; by_cases e : i = j <;> simp [W.beq, e]
theorem RD.get {K H R} {w : W} {k : Key} (hk : RK w k) : ∀ {kvs : List (W × W)} {vs : List (Key × V)}, RD K H R kvs vs → (∀ x, getW w kvs = some x → ∃ v, valV vs k = some v ∧ RV K H R x v) ∧ (getW w kvs = none → valV vs k = none) := by
  intro kvs vs h
  induction h with
  | nil => exact ⟨(fun x e => by cases e), fun _ => rfl⟩
  | @cons l x kvs' k' v vs' a b _ ih =>
    unfold getW
    rw [rk_eq a hk]
    by_cases e : k' = k
    · rw [valV_pos (p := (k', v)) e, decide_eq_true e, if_pos rfl]
      exact ⟨(fun y q => by cases q; exact ⟨v, rfl, b⟩), fun q => by cases q⟩
    · rw [valV_neg (p := (k', v)) e, decide_eq_false e, if_neg Bool.false_ne_true]
      exact ih
theorem rks_eq : ∀ {a b : List W} {k l : List Key}, RKs a k → RKs b l → W.beqs a b = decide (k = l)
  | _, _, _, _, .nil, .nil => by simp [W.beqs]
  | _, _, _, _, .nil, .cons _ _ => by simp [W.beqs]
  | _, _, _, _, .cons _ _, .nil => by simp [W.beqs]
  | _, _, _, _, .cons (k := k) (ks := ks) h1 r1, .cons (k := l) (ks := ls) h2 r2 => by
    unfold W.beqs
    rw [rk_eq h1 h2, rks_eq r1 r2]
    by_cases e : k = l <;> by_cases e2 : ks = ls <;> simp [e, e2]
theorem RT.get {K H R} {w : List W} {k : List Key} (hk : RKs w k) : ∀ {kvs : List (W × W)} {vs : List (List Key × V)}, RT K H R kvs vs → (∀ x, getW (.tup w) kvs = some x → ∃ v, valV vs k = some v ∧ RV K H R x v) ∧ (getW (.tup w) kvs = none → valV vs k = none) := by
  intro kvs vs h
  induction h with
  | nil => exact ⟨(fun x e => by cases e), fun _ => rfl⟩
  | @cons l x kvs' k' v vs' a b _ ih =>
    unfold getW
    have eb : W.beq (.tup l) (.tup w) = decide (k' = k) := by
      unfold W.beq
      exact rks_eq a hk
    rw [eb]
    by_cases e : k' = k
    · rw [valV_pos (p := (k', v)) e, decide_eq_true e, if_pos rfl]
      exact ⟨(fun y q => by cases q; exact ⟨v, rfl, b⟩), fun q => by cases q⟩
    · rw [valV_neg (p := (k', v)) e, decide_eq_false e, if_neg Bool.false_ne_true]
      exact ih
def keyB : W → Bool
  | .int _ | .str _ => true
  | _ => false
theorem key_ok {K H R} {y : W} {v : V} (r : RV K H R y v) (e : keyB y = true) : ∃ k, RK y k ∧ v = kV k := by
  cases r <;> first | exact ⟨_, .int _, rfl⟩ | exact ⟨_, .str _, rfl⟩ | cases e
theorem keys_ok {K H R} : ∀ {ys : List W} {vs : List V}, RVs K H R ys vs → ys.all keyB = true → ∃ ks, RKs ys ks ∧ vs = ks.map kV
  | [], _, h, _ => by cases h; exact ⟨[], .nil, rfl⟩
  | y :: ys, _, h, e => by
    cases h with
    | cons a b =>
      rw [List.all_cons, Bool.and_eq_true] at e
      obtain ⟨k, h1, rfl⟩ := key_ok a e.1
      obtain ⟨ks, h2, rfl⟩ := keys_ok b e.2
      exact ⟨k :: ks, .cons h1 h2, rfl⟩
def dgetW (h : Hq) (x y : W) : Option (Option W) := match x with
  | .ref n => (match h[n]? with
    | some (.dct _ false kvs) => if keyB y then some (getW y kvs) else none
    | some (.dct _ true kvs) => (match y with
      | .tup ks => if ks.all keyB then some (getW y kvs) else none
      | _ => none)
    | _ => none)
  | _ => none
section
variable {cm : Str → Addr} {X : Cx} {Wx : WX}
theorem dget_ok {h : Hq} {R H} {x y : W} {vx vy : V} {o : Option W} (hh : RH X.K cm h R H) (rx : RV X.K H R x vx) (ry : RV X.K H R y vy) (e : dgetW h x y = some o) :
    ∃ a r, vx = .ref a ∧ DGet H a vy r ∧ (∀ w, o = some w → ∃ v, r = some v ∧ RV X.K H R w v) ∧ (o = none → r = none) := by
  cases x with
  | ref n =>
    cases rx with
    | ref q =>
      unfold dgetW at e
      cases z : h[n]? with
      | none => simp [z] at e
      | some ob =>
        have ro := hh.get q z
        cases ob with
        | dct t k kvs =>
          cases k with
          | false =>
            simp only [z] at e
            split at e
            · rename_i hk
              cases e
              obtain ⟨k, h1, rfl⟩ := key_ok ry hk
              cases ro with
              | dK a b =>
                have g := RD.get h1 b
                exact ⟨_, _, rfl, (.inl ⟨_, _, a.rd, rfl, rfl⟩), fun w e => g.1 w e, g.2⟩
            · cases e
          | true =>
            simp only [z] at e
            cases y with
            | tup ks =>
              dsimp only at e
              split at e
              · rename_i hk
                cases e
                cases ry with
                | tup hb rs =>
                  obtain ⟨l, h1, rfl⟩ := keys_ok rs hk
                  cases ro with
                  | dT a b =>
                    have g := RT.get h1 b
                    exact ⟨_, _, rfl, (.inr ⟨_, _, _, a.rd, rfl, hb, rfl⟩), fun w e => g.1 w e, g.2⟩
              · cases e
            | _ => cases e
        | _ => simp [z] at e
  | _ => simp [dgetW] at e
def isDW (h : Hq) : W → Bool
  | .ref n => (match h[n]? with
    | some (.dct _ _ _) => true
    | _ => false)
  | _ => false
theorem isD_ok {h : Hq} {R H} {x : W} {vx : V} (hh : RH X.K cm h R H) (rx : RV X.K H R x vx) (e : isDW h x = true) : ∃ a, vx = .ref a ∧ IsD H a := by
  cases x with
  | ref n =>
    cases rx with
    | ref q =>
      unfold isDW at e
      cases z : h[n]? with
      | none => simp [z] at e
      | some ob =>
        have ro := hh.get q z
        cases ob with
        | dct t k kvs =>
          cases ro with
          | dK a b => exact ⟨_, rfl, .inl ⟨_, a.rd⟩⟩
          | dT a b => exact ⟨_, rfl, .inr ⟨_, a.rd⟩⟩
        | _ => simp [z] at e
  | _ => cases e
theorem PE.or {e : Expr} {t1 t2 : TE} (h1 : PE X e t1) (h2 : PE X e t2) : PE X e (fun σ H Q => t1 σ H Q ∨ t2 σ H Q) := ⟨fun pins s σ H Q I h => h.elim (h1.run pins s σ H Q I) (h2.run pins s σ H Q I)⟩
theorem qe_alt {e : Expr} {m1 m2 m : ME} (h1 : QE cm X Wx e m1) (h2 : QE cm X Wx e m2) (hm : ∀ ρ h, m ρ h = m1 ρ h ∨ m ρ h = m2 ρ h) : QE cm X Wx e m := by
  obtain ⟨t1, p1, s1⟩ := h1
  obtain ⟨t2, p2, s2⟩ := h2
  refine ⟨_, PE.or p1 p2, fun σ ρ h R H Q hρ hh p => ?_⟩
  rcases hm ρ h with q | q
  · rw [q] at p; exact .inl (s1 σ ρ h R H Q hρ hh p)
  · rw [q] at p; exact .inr (s2 σ ρ h R H Q hρ hh p)
theorem PS.or {e : Stmt} {t1 t2 : TS} (h1 : PS X e t1) (h2 : PS X e t2) : PS X e (fun D σ H => t1 D σ H ∨ t2 D σ H) := ⟨fun pins s σ H D I h => h.elim (h1.run pins s σ H D I) (h2.run pins s σ H D I)⟩
theorem qs_alt {e : Stmt} {m1 m2 m : MS} (h1 : QS cm X Wx e m1) (h2 : QS cm X Wx e m2) (hm : ∀ ρ h, m ρ h = m1 ρ h ∨ m ρ h = m2 ρ h) : QS cm X Wx e m := by
  obtain ⟨t1, p1, s1⟩ := h1
  obtain ⟨t2, p2, s2⟩ := h2
  refine ⟨_, PS.or p1 p2, fun σ ρ h R H D hρ hh p => ?_⟩
  rcases hm ρ h with q | q
  · rw [q] at p; exact .inl (s1 σ ρ h R H D hρ hh p)
  · rw [q] at p; exact .inr (s2 σ ρ h R H D hρ hh p)
def eDgetS (o i : ME) : ME := fun ρ h => (o ρ h).bind fun x h1 => (i ρ h1).bind fun y h2 => match dgetW h2 x y with
  | some (some r) => .ok r h2
  | _ => .stuck
theorem q_dgetS {o i : Expr} {mo mi : ME} {pos : Pos} (hu : X.A.units + 1 < cLine) (ho : QE cm X Wx o mo) (hi : QE cm X Wx i mi) (hs : NoSl i) : QE cm X Wx (.Subscript o i pos) (eDgetS mo mi) := by
  obtain ⟨to, po, so⟩ := ho
  obtain ⟨ti, pi, si⟩ := hi
  refine ⟨_, pe_dget hu po pi hs, fun σ ρ h R H Q hρ hh pp => ?_⟩
  refine so σ ρ h R H _ hρ hh (Post.mono (Post.bind pp) fun x h1 R1 H1 e1 x1 p1 => fun vx rx => ?_)
  refine si σ ρ h1 R1 H1 _ (hρ.ext e1) x1 (Post.mono (Post.bind p1) fun y h2 R2 H2 e2 x2 p2 => fun vy ry => ?_)
  cases q : dgetW h2 x y with
  | none => simp only [q] at p2; exact p2.elim
  | some r =>
    simp only [q] at p2
    obtain ⟨a, r', rfl, g, g1, g2⟩ := dget_ok x2 (RV.ext e2 _ _ rx) ry q
    cases r with
    | none => exact p2.elim
    | some w =>
      obtain ⟨v, hv, rv⟩ := g1 w rfl
      subst hv
      exact ⟨a, v, rfl, g, post_v p2 x2 rv⟩
def isDM (o : ME) : Ev → Hq → Bool := fun ρ h => match o ρ h with
  | .ok x h1 => isDW h1 x
  | _ => false
def eIxD (o i : ME) : ME := fun ρ h => if isDM o ρ h then eDgetS o i ρ h else eBin ixW o i ρ h
theorem q_ixD {a b : Expr} {ma mb : ME} {pos : Pos} (hu : X.A.units + 1 < cLine) (ha : QE cm X Wx a ma) (hb : QE cm X Wx b mb) (hn : NoSl b) (hs : PlainIx b := by intro _ _; rfl) : QE cm X Wx (.Subscript a b pos) (eIxD ma mb) :=
  qe_alt (q_dgetS hu ha hb hn) (q_ix ha hb hs) fun ρ h => by unfold eIxD; split <;> simp
end
def hasW (k : W) (kvs : List (W × W)) : Bool := kvs.any fun p => W.beq p.1 k
def putKW (kvs : List (W × W)) (k v : W) : List (W × W) := if hasW k kvs then kvs.map fun p => if W.beq p.1 k then (p.1, v) else p else kvs ++ [(k, v)]
section
variable {K : PySem.W.Frag} {H : Hp} {R : List Addr}
theorem RD.has {w : W} {k : Key} (hk : RK w k) : ∀ {kvs : List (W × W)} {vs : List (Key × V)}, RD K H R kvs vs → hasW w kvs = vs.any fun kv => decide (kv.1 = k) := by
  intro kvs vs h
  induction h with
  | nil => rfl
  | @cons l x kvs' k' v vs' a b _ ih =>
    unfold hasW at ih ⊢
    rw [List.any_cons, List.any_cons, ih, rk_eq a hk]
theorem RD.repl {w x : W} {k : Key} {v : V} (hk : RK w k) (rx : RV K H R x v) : ∀ {kvs : List (W × W)} {vs : List (Key × V)}, RD K H R kvs vs → RD K H R (kvs.map fun p => if W.beq p.1 w then (p.1, x) else p) (vs.map fun kv => if kv.1 = k then (kv.1, v) else kv) := by
  intro kvs vs h
  induction h with
  | nil => exact .nil
  | @cons l y kvs' k' u vs' a b _ ih =>
    rw [List.map_cons, List.map_cons]
    dsimp only
    rw [rk_eq a hk]
    by_cases e : k' = k
    · rw [decide_eq_true e, if_pos rfl, if_pos e]; exact .cons a rx ih
    · rw [decide_eq_false e, if_neg Bool.false_ne_true, if_neg e]; exact .cons a b ih
theorem RD.snoc {w x : W} {k : Key} {v : V} (hk : RK w k) (rx : RV K H R x v) : ∀ {kvs : List (W × W)} {vs : List (Key × V)}, RD K H R kvs vs → RD K H R (kvs ++ [(w, x)]) (vs ++ [(k, v)]) := by
  intro kvs vs h
  induction h with
  | nil => exact .cons hk rx .nil
  | cons a b _ ih => exact .cons a b ih
theorem RD.put {w x : W} {k : Key} {v : V} (hk : RK w k) (rx : RV K H R x v) {kvs : List (W × W)} {vs : List (Key × V)} (h : RD K H R kvs vs) : RD K H R (putKW kvs w x) (putK vs k v) := by
  unfold putKW putK
  rw [RD.has hk h]
  split
  · exact RD.repl hk rx h
  · exact RD.snoc hk rx h
theorem beq_tup {l w : List W} {k k' : List Key} (a : RKs l k') (b : RKs w k) : W.beq (.tup l) (.tup w) = decide (k' = k) := by
  unfold W.beq
  exact rks_eq a b
theorem RT.has {w : List W} {k : List Key} (hk : RKs w k) : ∀ {kvs : List (W × W)} {vs : List (List Key × V)}, RT K H R kvs vs → hasW (.tup w) kvs = vs.any fun kv => decide (kv.1 = k) := by
  intro kvs vs h
  induction h with
  | nil => rfl
  | @cons l x kvs' k' v vs' a b _ ih =>
    unfold hasW at ih ⊢
    rw [List.any_cons, List.any_cons, ih, beq_tup a hk]
theorem RT.repl {w : List W} {x : W} {k : List Key} {v : V} (hk : RKs w k) (rx : RV K H R x v) : ∀ {kvs : List (W × W)} {vs : List (List Key × V)}, RT K H R kvs vs → RT K H R (kvs.map fun p => if W.beq p.1 (.tup w) then (p.1, x) else p) (vs.map fun kv => if kv.1 = k then (kv.1, v) else kv) := by
  intro kvs vs h
  induction h with
  | nil => exact .nil
  | @cons l y kvs' k' u vs' a b _ ih =>
    rw [List.map_cons, List.map_cons]
    dsimp only
    rw [beq_tup a hk]
    by_cases e : k' = k
    · rw [decide_eq_true e, if_pos rfl, if_pos e]; exact .cons a rx ih
    · rw [decide_eq_false e, if_neg Bool.false_ne_true, if_neg e]; exact .cons a b ih
theorem RT.snoc {w : List W} {x : W} {k : List Key} {v : V} (hk : RKs w k) (rx : RV K H R x v) : ∀ {kvs : List (W × W)} {vs : List (List Key × V)}, RT K H R kvs vs → RT K H R (kvs ++ [(.tup w, x)]) (vs ++ [(k, v)]) := by
  intro kvs vs h
  induction h with
  | nil => exact .cons hk rx .nil
  | cons a b _ ih => exact .cons a b ih
theorem RT.put {w : List W} {x : W} {k : List Key} {v : V} (hk : RKs w k) (rx : RV K H R x v) {kvs : List (W × W)} {vs : List (List Key × V)} (h : RT K H R kvs vs) : RT K H R (putKW kvs (.tup w) x) (putK vs k v) := by
  unfold putKW putK
  rw [RT.has hk h]
  split
  · exact RT.repl hk rx h
  · exact RT.snoc hk rx h
end
section
variable {cm : Str → Addr} {X : Cx} {Wx : WX}
def dputW (h : Hq) (x k y : W) : Option Hq := match x with
  | .ref n => (match h[n]? with
    | some (.dct 0 false kvs) => if keyB k && decide (kvs.length < sizeLine) then some (h.set n (.dct 0 false (putKW kvs k y))) else none
    | some (.dct 0 true kvs) => (match k with
      | .tup ks => if ks.all keyB && decide (kvs.length < sizeLine) then some (h.set n (.dct 0 true (putKW kvs k y))) else none
      | _ => none)
    | _ => none)
  | _ => none
theorem dput_ok {h h4 : Hq} {R H} {x k y : W} {vx vk vy : V} (hh : RH X.K cm h R H) (rx : RV X.K H R x vx) (rk : RV X.K H R k vk) (ry : RV X.K H R y vy) (e : dputW h x k y = some h4) :
    ∃ a H4, vx = .ref a ∧ DPut H a vk vy H4 ∧ Ext X.K R H R H4 ∧ RH X.K cm h4 R H4 := by
  cases x with
  | ref n =>
    cases rx with
    | ref q =>
      unfold dputW at e
      cases z : h[n]? with
      | none => simp [z] at e
      | some ob =>
        have ro := hh.get q z
        cases ob with
        | dct t kk kvs =>
          cases t with
          | succ t => (cases kk <;> simp [z] at e)
          | zero =>
            cases kk with
            | false =>
              simp only [z] at e
              split at e
              · rename_i hc
                rw [Bool.and_eq_true, decide_eq_true_eq] at hc
                cases e
                obtain ⟨l, h1, rfl⟩ := key_ok rk hc.1
                cases ro with
                | @dK _ _ _ vs a b =>
                  have ex : Ext X.K R H R (upd H _ (.dK (putK vs l vy))) := Ext.write (by assumption) q a (fun _ q => by cases q) (fun _ _ q => by cases q)
                  exact ⟨_, _, rfl, DPut.k a (by rw [← b.length]; exact hc.2), ex, hh.write q a (fun _ q => by cases q) (fun _ _ q => by cases q) (.dK upd_same (RD.ext ex (RD.put h1 ry b)))⟩
              · cases e
            | true =>
              simp only [z] at e
              cases k with
              | tup ks =>
                dsimp only at e
                split at e
                · rename_i hc
                  rw [Bool.and_eq_true, decide_eq_true_eq] at hc
                  cases e
                  cases rk with
                  | tup hb rs =>
                    obtain ⟨l, h1, rfl⟩ := keys_ok rs hc.1
                    cases ro with
                    | @dT _ _ _ vs a b =>
                      have ex : Ext X.K R H R (upd H _ (.dT (putK vs l vy))) := Ext.write (by assumption) q a (fun _ q => by cases q) (fun _ _ q => by cases q)
                      exact ⟨_, _, rfl, .inr ⟨_, l, _, a, rfl, hb, by rw [← b.length]; exact hc.2, rfl⟩, ex, hh.write q a (fun _ q => by cases q) (fun _ _ q => by cases q) (.dT upd_same (RT.ext ex (RT.put h1 ry b)))⟩
                · cases e
              | _ => cases e
        | _ => simp [z] at e
  | _ => simp [dputW] at e
def sDput (o i e : ME) : MS := fun ρ h => (e ρ h).toS ρ fun y h1 => (o ρ h1).toS ρ fun x h2 => (i ρ h2).toS ρ fun k h3 => match dputW h3 x k y with
  | some h4 => .ok .nx ρ h4
  | none => .stuck
theorem qs_dput {o i e : Expr} {mo mi me : ME} {pos pos' : Pos} (hu : X.A.units + 1 < cLine) (ho : QE cm X Wx o mo) (hi : QE cm X Wx i mi) (he : QE cm X Wx e me) (hs : swapsWith e (some (.Subscript o i pos')) pos.line X.env = pure false := by rfl) :
    QS cm X Wx (.Assign [.Subscript o i pos'] e pos) (sDput mo mi me) := by
  obtain ⟨to, po, so⟩ := ho
  obtain ⟨ti, pi, si⟩ := hi
  obtain ⟨te, pe, se⟩ := he
  refine ⟨_, ps_dput hu po pi pe hs, fun σ ρ h R H D hρ hh pp => ?_⟩
  refine se σ ρ h R H _ hρ hh (Post.mono (PostS.toS hρ pp) fun y h1 R1 H1 e1 x1 p1 => fun vy ry => ?_)
  refine so σ ρ h1 R1 H1 _ (hρ.ext e1) x1 (Post.mono (PostS.toS (hρ.ext e1) p1) fun x h2 R2 H2 e2 x2 p2 => fun vx rx => ?_)
  refine si σ ρ h2 R2 H2 _ ((hρ.ext e1).ext e2) x2 (Post.mono (PostS.toS ((hρ.ext e1).ext e2) p2) fun k h3 R3 H3 e3 x3 p3 => fun vk rk => ?_)
  cases q : dputW h3 x k y with
  | none => simp only [q] at p3; exact p3.elim
  | some h4 =>
    simp only [q] at p3
    obtain ⟨a, H4, rfl, dp, ex, x4⟩ := dput_ok x3 (RV.ext e3 _ _ rx) rk (RV.ext e3 _ _ (RV.ext e2 _ _ ry)) q
    exact ⟨a, H4, rfl, dp, p3 R3 H4 σ ex x4 ((((hρ.ext e1).ext e2).ext e3).ext ex)⟩
def isDM2 (e o : ME) : Ev → Hq → Bool := fun ρ h => match e ρ h with
  | .ok _ h1 => isDM o ρ h1
  | _ => false
def sPutD (o i e : ME) : MS := fun ρ h => if isDM2 e o ρ h then sDput o i e ρ h else sPut o i e ρ h
theorem qs_putD {o i e : Expr} {mo mi me : ME} {pos pos' : Pos} (hu : X.A.units + 1 < cLine) (ho : QE cm X Wx o mo) (hi : QE cm X Wx i mi) (he : QE cm X Wx e me) (hsD : swapsWith e (some (.Subscript o i pos')) pos.line X.env = pure false := by rfl)
    (ha : ∀ v, assign (.Subscript o i pos') X.env v = (do
      let ov ← holding [v] (eval o X.env)
      let iv ← holding [v, ov] (eval i X.env)
      standAt pos'
      holding [v, ov, iv] (setItem ov iv v)
      release [v, ov, iv] []) := by intro _; rfl)
    (hs : swapsWithSole [.Subscript o i pos'] e pos.line X.env = pure false := by rfl) (hw : swappedStores [.Subscript o i pos'] e X.env = pure none := by rfl)
    (h1 : (assignEach [.Subscript o i pos'] X.env).map (·.2) = [assign (.Subscript o i pos') X.env] := by rfl) : QS cm X Wx (.Assign [.Subscript o i pos'] e pos) (sPutD mo mi me) :=
  qs_alt (qs_dput hu ho hi he hsD) (qs_put ho hi he ha hs hw h1) fun ρ h => by unfold sPutD; split <;> simp
end
end Z

namespace Z
open PySem PySem.Spec PyProof.Rows L2
theorem room1 {k : Nat} {A : Around} (r : Room k A) : A.units + 1 < cLine := by have := r.un; omega
section
variable {cm : Str → Addr} {X : Cx} {Wx : WX}
def inDW (neg : Bool) : F2 := fun x y h => if isDW h y then (match dgetW h y x with
  | some o => .ok (.bl (xor neg o.isSome)) h
  | none => .stuck) else inW neg x y h
def rInDct (neg : Bool) : R2 := fun x y H Q => ∃ a o, y = .ref a ∧ DGet H a x o ∧ Q (.bl (xor neg o.isSome)) H
theorem op_inDct (hu : X.A.units + 1 < cLine) : OpR X (compareOp .In) (rInDct false) := by
  intro pins s σ H x y v u Q I rx ry h
  obtain ⟨a, o, e, g, q⟩ := h
  subst e
  obtain rfl : u = Value.ref a := ry
  exact d_in hu I g rx fun s3 I3 => ⟨.bl o.isSome, H, I3, rfl, by simpa using q⟩
theorem op_notInDct (hu : X.A.units + 1 < cLine) : OpR X (compareOp .NotIn) (rInDct true) := by
  intro pins s σ H x y v u Q I rx ry h
  obtain ⟨a, o, e, g, q⟩ := h
  subst e
  obtain rfl : u = Value.ref a := ry
  exact d_notIn hu I g rx fun s3 I3 => ⟨.bl (!o.isSome), H, I3, rfl, by simpa using q⟩
theorem q_inDW {neg : Bool} : QOp cm X (fun x y H Q => rInDct neg x y H Q ∨ rInW X.K neg x y H Q) (inDW neg) := by
  intro EX h R H x y vx vy Q hh rx ry p
  unfold inDW at p
  split at p
  · split at p
    · rename_i o e
      obtain ⟨a, r, rfl, g, g1, g2⟩ := dget_ok hh ry rx e
      have : r.isSome = o.isSome := by
        cases o with
        | none => rw [g2 rfl]; rfl
        | some w => obtain ⟨v, hv, _⟩ := g1 w rfl; rw [hv]; rfl
      exact .inl ⟨a, r, rfl, g, by rw [this]; exact post_v p hh (.bl _)⟩
    · exact p.elim
  · exact .inr (q_inW EX h R H x y vx vy Q hh rx ry p)
end
end Z

namespace Z
open PySem PySem.Spec PyProof.Rows L2
section
variable {cm : Str → Addr} {X : Cx} {Wx : WX}
end
end Z

namespace Z
open PySem PySem.Spec PyProof.Rows L2
section
variable {X : Cx}
end
section
variable {cm : Str → Addr} {X : Cx}
end
end Z

namespace Z
open PySem PySem.Spec PyProof.Rows L2
section
variable {cm : Str → Addr} {X : Cx} {Wx : WX}
end
end Z

namespace Z
open PySem PySem.Spec PyProof.Rows L2
def rIsET (K : PySem.W.Frag) (D a : Addr) : List V → Hp → VK → Prop := fun xs H Q => ∃ (tp : Addr) (cs : List V) (us : List Value) (b : Bool), xs = [.ref a, .ref tp] ∧ H tp = some (.tup cs) ∧ Paired ClsV cs us ∧ PySem.W.kitAny K (.ref D) us = some b ∧ Q (.bl b) H
theorem call_isET {X : Cx} {a D : Addr} {oe : Obj} {pn : List (Addr × Obj)} (C : L2.ExcC X.K D) (hz : Zc (.ref D) none oe) (hf : ∃ vs, oe.data = .fields vs) : CallR (X.suite a ((a, oe) :: pn)) (.builtin "isinstance") (rIsET X.K D a) := by
  intro pins s σ H xs us Q I r h
  obtain ⟨tp, cs, ws, b, rfl, hT, k, e, q⟩ := h
  obtain ⟨u1, u2, rfl, r1, r2⟩ := vals2 r
  cases (show u2 = Value.ref tp from r2)
  cases (show u1 = Value.ref a from r1)
  obtain ⟨hget, _⟩ := I.pin (a, oe) (List.mem_append.mpr (.inl List.mem_cons_self))
  obtain ⟨vs, hv⟩ := hf
  have J : PySem.W.InstAt s.heap a oe D none := by
    obtain ⟨oc, od, oda, osl⟩ := oe
    obtain ⟨h1, h2⟩ := hz
    dsimp only at h1 h2 hv
    subst h1 h2 hv
    exact ⟨hget, rfl, rfl, trivial⟩
  obtain ⟨_, its, rv, o, h1, h2, n, h3⟩ := (show ObjOk X.prog X.w H s.heap tp (.tup cs) from I.hok tp _ hT)
  have e3 := ClsV.all k rv
  subst e3
  obtain ⟨oc, od, dt, sl⟩ := o
  simp only at h2 h3
  subst h2 h3
  exact PySem.W.kia_tup (PySem.W.handS_kitx_exc C.hg C.hk C.hs C.hd C.ha C.hn C.ht C.hm) I.kIn J h1 e (fun z => nomatch z) fun tk => ⟨.bl b, H, I.kept (t' := tk) fun _ _ z => z, rfl, q⟩
def isE2 (a : Nat) (c : Str) (t1 t2 : TbB) (m : ME) : ME := fun ρ h => (m ρ h).bind fun x h1 => match x with
  | .exn a' c' => if a' = a ∧ c' = c then (match t1.lookup c, t2.lookup c with
    | some b, some d => .ok (.bl (b || d)) h1
    | _, _ => .stuck) else .stuck
  | _ => .stuck
section
variable {cm : Str → Addr} {X : Cx}
theorem q_isE2 {a : Addr} {c : Str} {oe : Obj} {pn : List (Addr × Obj)} {t1 t2 : TbB} {e : Expr} {m : ME} {x y z : Str} {p pos py pz pt : Pos} {x1} {Wy : WX} (hz : Zc (.ref (cm c)) none oe) (hf : ∃ vs, oe.data = .fields vs) (hg : Gl X x) (hm : X.mg x = none) (hv : bootBuiltins x = some (.builtin "isinstance"))
    (hgy : Gl X y) (hmy : X.mg y = some (.ref (cm y))) (hgz : Gl X z) (hmz : X.mg z = some (.ref (cm z)))
    (k1 : ∀ c b, t1.lookup c = some b → PySem.W.kitOne X.K (.ref (cm c)) (.ref (cm y)) = some b) (k2 : ∀ c b, t2.lookup c = some b → PySem.W.kitOne X.K (.ref (cm c)) (.ref (cm z)) = some b) (hE : ∀ c b, t1.lookup c = some b → L2.ExcC X.K (cm c))
    (ha : QE cm (X.suite a ((a, oe) :: pn)) Wy e m) (hdy : (y == ("__debug__" : Str)) = false := by decide) (hdz : (z == ("__debug__" : Str)) = false := by decide)
    (hs1 : starEach [e, .Tuple [.Name y py, .Name z pz] x1 pt] X.env = (false, eval e X.env) :: starEach [.Tuple [.Name y py, .Name z pz] x1 pt] X.env := by rfl)
    (hs2 : starEach [.Tuple [.Name y py, .Name z pz] x1 pt] X.env = (false, eval (.Tuple [.Name y py, .Name z pz] x1 pt) X.env) :: starEach [] X.env := by rfl)
    (hs3 : starEach [.Name y py, .Name z pz] X.env = (false, eval (.Name y py) X.env) :: starEach [.Name z pz] X.env := by rfl)
    (hs4 : starEach [.Name z pz] X.env = (false, eval (.Name z pz) X.env) :: starEach [] X.env := by rfl)
    (hnx : x ≠ "__name__" := by decide) (hdx : (x == ("__debug__" : Str)) = false := by decide) (hpl : (backTo pos (starEach [.Tuple [.Name y py, .Name z pz] x1 pt] X.env)).any (·.1) = false := by rfl) :
    QE cm (X.suite a ((a, oe) :: pn)) Wy (.Call (.Name x p) [e, .Tuple [.Name y py, .Name z pz] x1 pt] [] pos) (isE2 a c t1 t2 m) := by
  obtain ⟨ta, pa, sa⟩ := ha
  have pt : PE (X.suite a ((a, oe) :: pn)) (.Tuple [.Name y py, .Name z pz] x1 pt) _ := pe_tup (pa_cons (pe_glob hgy hmy (show RelV (V.ref (cm y)) (Value.ref (cm y)) from rfl) hdy) (pa_cons (pe_glob hgz hmz (show RelV (V.ref (cm z)) (Value.ref (cm z)) from rfl) hdz) pa_nil hs4) hs3)
  cases z1 : t1.lookup c with
  | none =>
    refine ⟨_, pe_callB (X := X.suite a ((a, oe) :: pn)) (id := "isinstance") (r := fun _ _ _ => False) (fun _ _ _ _ _ _ _ _ _ z => z.elim) hg hm hv (pa_cons pa (pa_cons pt pa_nil hs2) hs1) hnx hdx hs1 hpl, fun σ ρ h R H Q hρ hh p => ?_⟩
    refine sa σ ρ h R H _ hρ hh (Post.mono (Post.bind p) fun w h1 R1 H1 e1 x1 p1 => fun v r => ?_)
    simp only [z1] at p1
    cases w with
    | exn a' c' => dsimp only at p1; split at p1 <;> exact p1.elim
    | _ => exact p1.elim
  | some b1 =>
    refine ⟨_, pe_callB (call_isET (hE c b1 z1) hz hf) hg hm hv (pa_cons pa (pa_cons pt pa_nil hs2) hs1) hnx hdx hs1 hpl, fun σ ρ h R H Q hρ hh p => ?_⟩
    refine sa σ ρ h R H _ hρ hh (Post.mono (Post.bind p) fun w h1 R1 H1 e1 x1 p1 => fun v r => ?_)
    simp only [z1] at p1
    cases w with
    | exn a' c' =>
      dsimp only at p1
      split at p1
      · rename_i zz
        obtain ⟨rfl, rfl⟩ := zz
        cases r
        cases z2 : t2.lookup c' with
        | none => simp only [z2] at p1; exact p1.elim
        | some b2 =>
          simp only [z2] at p1
          refine ⟨show 2 ≤ sizeLine by decide, fun q hq => ?_⟩
          refine ⟨q, [.ref (cm y), .ref (cm z)], [.ref (cm y), .ref (cm z)], b1 || b2, rfl, upd_same, .cons (.own _) (.cons (.own _) .nil), ?_, p1 R1 _ (Ext.new hq) (x1.new hq) _ (.bl _)⟩
          refine kitAny_cons (k1 _ _ z1) (fun e => ?_) (fun e => by rw [e]; rfl)
          refine kitAny_cons (k2 _ _ z2) (fun e2 => ?_) (fun e2 => by rw [e2]; simp)
          rw [e, e2]; exact kitAny_nil
      · exact p1.elim
    | _ => exact p1.elim
end
end Z

namespace ZC
open PySem PySem.Spec PyProof.Rows L2
section
variable {X : Cx}
end

section
variable {X : Cx}
end
end ZC

namespace ZC
open PySem PySem.Spec PyProof.Rows L2
section
variable {P : Program} {w : World} {A : Around} {E : Value → Shared → Prop} {s : Shared}
structure SeqSrc (P : Program) (w : World) (T it : String) : Prop where
  s1 : isSubtype (.type T) (.type "set") = pure false
  s2 : isSubtype (.type T) (.type "frozenset") = pure false
  ne : (Value.type T == Value.type "dict") = false
  iter : ∀ {A : Around} {E : Value → Shared → Prop} {z : Shared} {a : Addr} {xs : Array Value} {n : Nat} {dd : Option Addr} {sl : Array (Option Value)} {Q : Value → Shared → Prop}, z.heap.get? a = some { cls := .type T, dict := dd, data := .seq xs n, slots := sl } →
    Q (.ref z.heap.objs.size) { z with heap := z.heap.push { cls := .type it, data := .fields #[.ref a, .int 0 0] } } → wpAny (model P w) A (pyIter (.ref a)) Q E z
  walk : ∀ {A : Around} (I a : Addr) (xs : Array Value), A.handled = none → a ≠ I → ∃ St : Nat → Heap → Prop, Walks P w A I [I, a] [I] xs.size (fun i v => xs[i]? = some v) St ∧
    ∀ (h : Heap) (n : Nat) (dd : Option Addr) (sl : Array (Option Value)), h.get? I = some { cls := .type it, data := .fields #[.ref a, .int 0 0] } → h.get? a = some { cls := .type T, dict := dd, data := .seq xs n, slots := sl } → St 0 h
end
section
variable {X : Cx}
end
end ZC

namespace Z
open PySem PySem.Spec PyProof.Rows L2 ZC
def dd : List Int → List Int
  | [] => []
  | x :: r => if x ∈ r then dd r else x :: dd r
section
variable {cm : Str → Addr} {X : Cx} {Wx : WX}
end
end Z

namespace Z
open PySem PySem.Spec PyProof.Rows L2 ZC
def kOk (b : Bool) (k : W) : Bool := match b, k with
  | false, k => keyB k
  | true, .tup ks => ks.all keyB
  | true, _ => false
def RDb (K : PySem.W.Frag) (H : Hp) (R : List Addr) (b : Bool) (l : List (W × W)) (o : HO) : Prop := match b with
  | false => ∃ vs, o = .dK vs ∧ RD K H R l vs
  | true => ∃ vs, o = .dT vs ∧ RT K H R l vs
section
variable {K : PySem.W.Frag} {H H' : Hp} {R R' : List Addr} {b : Bool} {l : List (W × W)} {o : HO}
theorem RDb.sq (e : Sqs K H H') (h : RDb K H R b l o) : RDb K H' R b l o := by
  cases b <;> obtain ⟨vs, rfl, r⟩ := h
  · exact ⟨vs, rfl, r.sq e⟩
  · exact ⟨vs, rfl, r.sq e⟩
theorem RDb.ext (e : Ext K R H R' H') (h : RDb K H R b l o) : RDb K H' R' b l o := by
  cases b <;> obtain ⟨vs, rfl, r⟩ := h
  · exact ⟨vs, rfl, r.ext e⟩
  · exact ⟨vs, rfl, r.ext e⟩
theorem RDb.ro {cm : Str → Addr} {a : Addr} (h : RDb K H R b l o) (e : H a = some o) : RO K H R cm (.dct 0 b l) a := by
  cases b <;> obtain ⟨vs, rfl, r⟩ := h
  · exact .dK e r
  · exact .dT e r
theorem RDb.put {D : Addr} {k y : W} {vk vy : V} (h : RDb K H R b l o) (hD : H D = some o) (ok : kOk b k = true) (rk : RV K H R k vk) (ry : RV K H R y vy) (few : l.length < sizeLine) :
    ∃ o', DPut H D vk vy (upd H D o') ∧ RDb K H R b (putKW l k y) o' := by
  cases b with
  | false =>
    obtain ⟨vs, rfl, r⟩ := h
    obtain ⟨kk, h1, rfl⟩ := key_ok rk ok
    exact ⟨_, .inl ⟨vs, kk, hD, rfl, by rw [← r.length]; exact few, rfl⟩, _, rfl, RD.put h1 ry r⟩
  | true =>
    obtain ⟨vs, rfl, r⟩ := h
    cases k with
    | tup ks =>
      cases rk with
      | tup hb rs =>
        obtain ⟨kk, h1, rfl⟩ := keys_ok rs ok
        exact ⟨_, .inr ⟨vs, kk, _, hD, rfl, hb, by rw [← r.length]; exact few, rfl⟩, _, rfl, RT.put h1 ry r⟩
    | _ => cases ok
end
section
variable {cm : Str → Addr} {X : Cx} {Wx : WX}
end
end Z
namespace Z
open PySem PySem.Spec PyProof.Rows L2
end Z

namespace Z
open PySem PySem.Spec PyProof.Rows L2
section
variable {cm : Str → Addr} {X : Cx} {Wx : WX}
theorem RVs.pre {K H R} : ∀ {ws : List W} {vs : List V} (i : Nat), RVs K H R ws vs → RVs K H R (ws.take i) (vs.take i)
  | [], _, i, h => by cases h; simp; exact .nil
  | x :: ws, _, 0, h => by cases h with | cons a b => exact .nil
  | x :: ws, _, i + 1, h => by cases h with | cons a b => exact .cons a (RVs.pre i b)
end
end Z

namespace Z
open PySem PySem.Spec PyProof.Rows L2
section
variable {cm : Str → Addr} {X : Cx} {Wx : WX}
end
end Z

namespace Z
open PySem PySem.Spec PyProof.Rows L2
section
variable {cm : Str → Addr} {X : Cx} {Wx : WX}
def dctAt (h : Hq) : W → Option (List (W × W))
  | .ref n => match h[n]? with
    | some (.dct _ _ kvs) => some kvs
    | _ => none
  | _ => none
def lstdW : MF := fun ws h => match ws with
  | [x] => (match asQ h x with
    | some xs => mkL 0 xs h
    | none => (match dctAt h x with
      | some kvs => mkL 0 (kvs.map Prod.fst) h
      | none => .stuck))
  | _ => .stuck
def rLstd (K : PySem.W.Frag) : List V → Hp → VK → Prop := fun xs H Q => (∃ p ys, xs = [V.ref p] ∧ (SqL K H p ys ∨ SqT K H p ys) ∧ ∀ l, H l = none → Q (.ref l) (upd H l (.lst ys))) ∨
  ((∃ (a : Addr) (kvs : List (L2.Key × V)), xs = [V.ref a] ∧ L2.Rd H a (.dK kvs) ∧ ∀ p, H p = none → Q (.ref p) (upd H p (.lst (kvs.map fun kv => kV kv.1)))) ∨
  (∃ d kvs, xs = [V.ref d] ∧ L2.Rd H d (.dT kvs) ∧ ∀ p bs, H p = none → IsKeys H kvs bs → Q (.ref p) (upd H p (.lst (bs.map V.ref)))))
theorem call_lstd (hc : X.calm = true) : CallR X (.type "list") (rLstd X.K) := CallR.or call_list_of (CallR.or (call_listD hc) (call_list_dT hc))
theorem rk_rv {K H R} {k : W} {l : L2.Key} (r : RK k l) : RV K H R k (kV l) := by
  cases r with
  | int i => exact .int i
  | str x => exact .str x
theorem rks_rvs {K H R} : ∀ {ks : List W} {l : List L2.Key}, RKs ks l → RVs K H R ks (l.map kV)
  | _, _, .nil => .nil
  | _, _, .cons a b => .cons (rk_rv a) (rks_rvs b)
theorem rd_keys {K H R} : ∀ {kvs : List (W × W)} {vs : List (L2.Key × V)}, RD K H R kvs vs → RVs K H R (kvs.map Prod.fst) (vs.map fun kv => kV kv.1)
  | _, _, .nil => .nil
  | _, _, .cons a b c => .cons (rk_rv a) (rd_keys c)
theorem rt_keys {K H R} : ∀ {kvs : List (W × W)} {vs : List (List L2.Key × V)} {bs : List Addr}, RT K H R kvs vs → IsKeys H vs bs → RVs K H R (kvs.map Prod.fst) (bs.map V.ref)
  | _, _, _, .nil, .nil => .nil
  | _, _, _, .cons a b c, .cons e t => .cons (.tup e (rks_rvs a)) (rt_keys c t)
theorem q_lstdW : QCl cm X (rLstd X.K) lstdW := by
  intro EX h R H xs vs Q hh rs p
  unfold lstdW at p
  split at p
  · rename_i x
    cases rs with | cons a b =>
    cases b
    cases z : asQ h x with
    | some ys =>
      simp only [z] at p
      obtain ⟨a', us, rfl, sq, ru⟩ := asQ_ok hh a z
      exact .inl ⟨_, _, rfl, sq, fun l hl => post_lst p hh ru hl⟩
    | none =>
      simp only [z] at p
      cases x with
      | ref n =>
        cases a with
        | ref q =>
          cases z2 : h[n]? with
          | none => simp only [dctAt, z2] at p; exact p.elim
          | some o =>
            have ro := hh.get q z2
            cases o with
            | dct t c kvs =>
              simp only [dctAt, z2] at p
              cases c with
              | false => cases ro with | dK a b => exact .inr (.inl ⟨_, _, rfl, a.rd, fun l hl => post_lst p hh (rd_keys b) hl⟩)
              | true => cases ro with | dT a b => exact .inr (.inr ⟨_, _, rfl, a.rd, fun l bs hl ik => post_lst p hh (rt_keys b ik) hl⟩)
            | _ => simp only [dctAt, z2] at p; exact p.elim
      | _ => exact p.elim
  · exact p.elim
end
end Z

namespace Z
open PySem PySem.Spec PyProof.Rows L2 ItX
structure ItB (K : PySem.W.Frag) (C fi : Addr) : Prop where
  it : PySem.W.findIn K (.ref C) "__iter__" = some (some (.ref fi))
  fn : PySem.W.isFn K (.ref fi) = true
def spIt (K : PySem.W.Frag) (C : Addr) (f : Str) (n : Nat) : Sp := fun vs H Q _ => ∃ (a dx : Addr) (fs : List (Str × V)) (l : Addr) (xs : List V), vs = [V.ref a] ∧ H a = some (.ins C dx fs) ∧ fs.lookup f = some (V.ref l) ∧ SqL K H l xs ∧ ∀ it, H it = none → n ≤ it → Q (.ref it) (upd H it (ItO l it 0))
theorem pad_heap (h : Heap) (n : Nat) (hn : h.objs.size ≤ n) : ∃ g : Heap, (∀ b, g.get? b = h.get? b) ∧ g.objs.size = n := by
  refine ⟨{ h with objs := h.objs ++ Array.replicate (n - h.objs.size) { cls := .none, data := .freed } }, fun b => ?_, by simp; omega⟩
  unfold Heap.get?
  rcases Nat.lt_or_ge b h.objs.size with c | c
  · rw [Array.getElem?_append_left c]
  · rw [Array.getElem?_append_right c, Array.getElem?_eq_none (xs := h.objs) c]
    rcases Nat.lt_or_ge (b - h.objs.size) (n - h.objs.size) with c2 | c2
    · rw [Array.getElem?_replicate, if_pos c2]
    · rw [Array.getElem?_replicate, if_neg (Nat.not_lt.mpr c2)]
theorem frames_alike {h b b' : Heap} (e : ∀ a, b'.get? a = b.get? a) : ∀ {l : List Env}, h.FunFrames b l → h.FunFrames b' l
  | [], _ => trivial
  | _ :: l, ⟨h1, ⟨L, o, h2, h3, h4⟩, h5⟩ => ⟨h1, ⟨L, o, h2, (e L).trans h3, h4⟩, frames_alike e h5⟩
theorem env_alike {P : Program} {w : World} {K : PySem.W.Frag} {mg : Str → Option Value} {b b' : Heap} {A : Around} {outer : List Env} {s : Shared} {H : Hp} (h : Env0 P w K mg b A outer s H) (e : ∀ a, b'.get? a = b.get? a) (hz : b'.objs.size ≤ s.heap.objs.size) : Env0 P w K mg b' A outer s H := by
  have k : ∀ a o, b.get? a = some o → b'.get? a = some o := fun a o q => (e a).trans q
  obtain ⟨mb, m1, m2⟩ := h.mod.blt
  obtain ⟨mc, n1, n2⟩ := h.mod.nolimit
  exact ⟨h.frames, ⟨fun a o q => k a o (h.mod.kin a o q), h.mod.glob.keeps k, ⟨mb, m1.keeps k, m2⟩, ⟨mc, n1.keeps k, n2⟩⟩, fun a o q => h.bs a o ((e a).symm.trans q), hz, frames_alike e h.funs, h.frf, h.hok, h.bare⟩
section
variable {X : Cx} {C fi : Addr} {f : Str} {fd : FuncData} {ps : List Str} {k : Nat}
end
section
variable {P : Program} {w : World} {K : PySem.W.Frag} {mg : Str → Option Value} {base : Heap} {C fi : Addr} {c f : Str} {fd : FuncData}
end
section
variable {cm : Str → Addr} {X : Cx} {Wx : WX}
end
structure OwnIt (P : Program) (w : World) (K : PySem.W.Frag) (mg : Str → Option Value) (c f : Str) : Prop where
  ex : ∃ (fi : Addr) (fd : FuncData) (ps : List Str), ItB K (He.ga K c) fi ∧ (∀ base : Heap, FnOk P w K mg base CX0 1 fi fd ps (spIt K (He.ga K c) f base.objs.size)) ∧ Binds K fd ps []
theorem itB_of {K : PySem.W.Frag} {c : Str} (h : (Ex.meth c "__iter__").ok K = true) : ItB K (He.ga K c) (mA K c "__iter__") := by
  obtain ⟨h1, h2⟩ := He.ba h
  obtain ⟨h3, h4⟩ := He.ba h2
  exact ⟨He.eqO_ok h1, h3⟩
end Z

namespace Z
open PySem PySem.Spec PyProof.Rows L2
section
variable {cm : Str → Addr} {X : Cx} {Wx : WX}
end
end Z

namespace Z
open PySem PySem.Spec PyProof.Rows L2
section
variable {cm : Str → Addr} {X : Cx} {Wx : WX}
theorem RD.len {K : PySem.W.Frag} {H : Hp} {R : List Addr} {ps : List (W × W)} {kvs : List (L2.Key × V)} (r : RD K H R ps kvs) : ps.length = kvs.length := by
  induction r with
  | nil => rfl
  | cons _ _ _ ih => simp [ih]
end
end Z

namespace Z
open PySem PySem.Spec PyProof.Rows L2
section
variable {cm : Str → Addr} {X : Cx} {Wx : WX}
def delKW (kvs : List (W × W)) (k : W) : List (W × W) := kvs.filter fun p => !W.beq p.1 k
def ddelW (h : Hq) (x k : W) : Option Hq := match x with
  | .ref n => (match h[n]? with
    | some (.dct 0 false kvs) => if keyB k && hasW k kvs then some (h.set n (.dct 0 false (delKW kvs k))) else none
    | _ => none)
  | _ => none
def sDel (o i : ME) : MS := fun ρ h => (o ρ h).toS ρ fun x h1 => (i ρ h1).toS ρ fun k h2 => match ddelW h2 x k with
  | some h3 => .ok .nx ρ h3
  | none => .stuck
theorem RD.drop {K : PySem.W.Frag} {H : Hp} {R : List Addr} {w : W} {k : L2.Key} (hk : RK w k) {kvs : List (W × W)} {vs : List (L2.Key × V)} (h : RD K H R kvs vs) : RD K H R (delKW kvs w) (dropK vs k) := by
  induction h with
  | nil => exact .nil
  | @cons l x kvs' k' v vs' a b c ih =>
    unfold delKW dropK at *
    rw [List.filter_cons, List.filter_cons, rk_eq a hk]
    by_cases e : k' = k
    · simp only [e, decide_true, Bool.not_true, Bool.false_eq_true, if_false, ne_eq, not_true_eq_false, decide_false]
      exact ih
    · simp only [e, decide_false, Bool.not_false, if_true, ne_eq, not_false_eq_true, decide_true]
      exact .cons a b ih
theorem RD.in {K : PySem.W.Frag} {H : Hp} {R : List Addr} {w : W} {k : L2.Key} (hk : RK w k) {kvs : List (W × W)} {vs : List (L2.Key × V)} (h : RD K H R kvs vs) (e : hasW w kvs = true) : (valV vs k).isSome = true := by
  rw [RD.has hk h, List.any_eq_true] at e
  obtain ⟨kv, hm, hkv⟩ := e
  cases q : valV vs k with
  | some v => rfl
  | none => exact absurd (List.mem_map.mpr ⟨kv, hm, of_decide_eq_true hkv⟩) (valV_not q)
theorem qs_del {o i : Expr} {mo mi : ME} {tpos pos : Pos} (ho : QE cm X Wx o mo) (hi : QE cm X Wx i mi) : QS cm X Wx (.Delete [.Subscript o i tpos] pos) (sDel mo mi) := by
  obtain ⟨to, po, so⟩ := ho
  obtain ⟨ti, pi, si⟩ := hi
  refine ⟨_, ps_ddel po pi, fun σ ρ h R H D hρ hh pp => ?_⟩
  refine so σ ρ h R H _ hρ hh (Post.mono (PostS.toS hρ pp) fun x h1 R1 H1 e1 x1 p1 => fun vx rx => ?_)
  refine si σ ρ h1 R1 H1 _ (hρ.ext e1) x1 (Post.mono (PostS.toS (hρ.ext e1) p1) fun k h2 R2 H2 e2 x2 p2 => fun vk rk => ?_)
  cases z : ddelW h2 x k with
  | none => simp only [z] at p2; exact p2.elim
  | some h3 =>
    simp only [z] at p2
    cases x with
    | ref n =>
      cases rx with
      | ref q =>
        unfold ddelW at z
        cases z2 : h2[n]? with
        | none => simp [z2] at z
        | some ob =>
          have rx2 := RV.ext e2 _ _ (RV.ref q)
          cases rx2 with
          | ref q2 =>
            have ro := x2.get q2 z2
            cases ob with
            | dct t kk kvs =>
              cases t with
              | succ t => simp [z2] at z
              | zero =>
                cases kk with
                | true => simp [z2] at z
                | false =>
                  simp only [z2] at z
                  split at z
                  · rename_i hc
                    rw [Bool.and_eq_true] at hc
                    cases z
                    obtain ⟨l, h1, rfl⟩ := key_ok rk hc.1
                    cases ro with
                    | @dK _ _ _ vs a b =>
                      have ex : Ext X.K R2 H2 R2 (upd H2 _ (.dK (dropK vs l))) := Ext.write (by assumption) q2 a (fun _ q => by cases q) (fun _ _ q => by cases q)
                      exact ⟨_, vs, l, rfl, a, rfl, RD.in h1 b hc.2, p2 R2 _ σ ex (x2.write q2 a (fun _ q => by cases q) (fun _ _ q => by cases q) (.dK upd_same (RD.ext ex (RD.drop h1 b)))) (((hρ.ext e1).ext e2).ext ex)⟩
                  · cases z
            | _ => simp [z2] at z
    | _ => simp [ddelW] at z
end
end Z

namespace Z
open PySem PySem.Spec PyProof.Rows L2
section
variable {cm : Str → Addr} {X : Cx} {Wx : WX}
def zipL (xs ys : List W) : List W := (xs.zip ys).map fun p => .tup [p.1, p.2]
theorem zipL_get {xs ys : List W} {i : Nat} {w : W} (h : (zipL xs ys)[i]? = some w) : ∃ x y, xs[i]? = some x ∧ ys[i]? = some y ∧ w = .tup [x, y] := by
  unfold zipL at h
  rw [List.getElem?_map] at h
  cases q : (xs.zip ys)[i]? with
  | none => rw [q] at h; cases h
  | some p =>
    rw [q] at h
    obtain ⟨a, b⟩ := List.getElem?_zip_eq_some.mp q
    exact ⟨p.1, p.2, a, b, (Option.some.inj h).symm⟩
theorem zipL_len {xs ys : List W} : (zipL xs ys).length = min xs.length ys.length := by simp [zipL]
def tupI : W → Option (List W)
  | .tup xs => some xs
  | .kt xs => some xs
  | _ => none
theorem tupI_ok {K : PySem.W.Frag} {H : Hp} {R : List Addr} {x : W} {v : V} {xs : List W} (r : RV K H R x v) (e : tupI x = some xs) : ∃ a vs, v = .ref a ∧ SqT K H a vs ∧ RVs K H R xs vs := by
  cases x with
  | tup ys => cases e; cases r with | tup s r => exact ⟨_, _, rfl, SqT.of s, r⟩
  | kt ys => cases e; cases r with | kt s r => exact ⟨_, _, rfl, s, r⟩
  | _ => cases e
def iZipW (a : MA) : MI := fun ρ h => (a ρ h).bind fun ws h1 => match ws with
  | [x, y] => (match tupI x, tupI y with
    | some xs, some ys => .ok ⟨zipL xs ys, fun _ => true⟩ h1
    | _, _ => .stuck)
  | _ => .stuck
theorem qi_zip {elts : List Expr} {kk : Nat} {tpos : Pos} {a b : Expr} {m : MA} {p pos : Pos} (hg : Gl X "zip") (hm : X.mg "zip" = none) (ha : QAn cm X Wx [a, b] m)
    (hs : starEach [a, b] X.env = (false, eval a X.env) :: starEach [b] X.env := by rfl) (hpl : (backTo pos (starEach [b] X.env)).any (·.1) = false := by rfl) :
    QI cm X Wx (.Tuple elts kk tpos) (.Call (.Name "zip" p) [a, b] [] pos) (iZipW m) := by
  obtain ⟨⟨t, pa, s⟩, _⟩ := ha
  refine ⟨_, RZ.pi_zipA hg hm pa hs hpl, fun σ ρ h R H Rk hρ hh pp => ?_⟩
  refine s σ ρ h R H _ hρ hh (Post.mono (Post.bind pp) fun ws h1 R1 H1 e1 x1 p1 => fun vs rs => ?_)
  split at p1
  · rename_i x y
    cases rs with | cons rx r =>
    cases r with | cons ry r =>
    cases r
    split at p1
    · rename_i xs ys ex ey
      obtain ⟨a1, us, rfl, sx, qx⟩ := tupI_ok rx ex
      obtain ⟨a2, vs, rfl, sy, qy⟩ := tupI_ok ry ey
      refine ⟨a1, a2, us, vs, rfl, .inr ⟨sx, sy, p1 R1 H1 Ext.refl x1 _ fun i h2 R2 H2 e2 x2 hk => ?_⟩⟩
      have sx2 := sqT_ext e2.2.1 e2.2.2.1 sx
      have sy2 := sqT_ext e2.2.1 e2.2.2.1 sy
      refine ⟨fun w hw => ?_, fun hi => ⟨_, _, sx2, sy2, ?_⟩⟩
      · obtain ⟨x', y', hx, hy, rfl⟩ := zipL_get hw
        obtain ⟨u, hu, ru⟩ := qx.get hx
        obtain ⟨v, hv, rv⟩ := qy.get hy
        refine ⟨⟨_, _, u, v, sx2, sy2, hu, hv⟩, fun z H' yy => ?_⟩
        obtain ⟨T, u', v', rfl, hT, rfl, ha', hb'⟩ := yy
        have := ha' _ sx2
        rw [hu] at this; cases this
        have := hb' _ sy2
        rw [hv] at this; cases this
        have en : Ext X.K R2 H2 R2 (upd H2 T (.tup [u, v])) := Ext.new hT
        exact ⟨en, x2.new hT, .tup upd_same (.cons (RV.ext en _ _ (RV.ext e2 _ _ ru)) (.cons (RV.ext en _ _ (RV.ext e2 _ _ rv)) .nil))⟩
      · rw [zipL_len] at hi
        rw [← qx.length, ← qy.length]
        omega
    · exact p1.elim
  · exact p1.elim
end
end Z

namespace Z
open PySem PySem.Spec PyProof.Rows L2
def rowAt (z : Str) : List (Str × W) → Option W
  | [] => none
  | (k, w) :: r => if k = z then some w else rowAt z r
structure KTab (K : PySem.W.Frag) (w : World) (g : Addr) (rows : List (Str × W)) : Prop where
  kd : ∃ es n, KDict K w g es n
  hit : ∀ z x, rowAt z rows = some x → ∃ u v, PySem.W.nsIn K g z = some (some u) ∧ RelV v u ∧ ∀ H R, RV K H R x v
  miss : ∀ z, rowAt z rows = none → PySem.W.nsIn K g z = some none
section
variable {cm : Str → Addr} {X : Cx} {Wx : WX}
def eInKd (neg : Bool) (rows : List (Str × W)) (a : ME) : ME := fun ρ h => (a ρ h).bind fun x h1 => match x with
  | .str z => .ok (.bl (xor neg (rowAt z rows).isSome)) h1
  | _ => .stuck
def eIxKd (rows : List (Str × W)) (a : ME) : ME := fun ρ h => (a ρ h).bind fun x h1 => match x with
  | .str z => (match rowAt z rows with
    | some w => .ok w h1
    | none => .stuck)
  | _ => .stuck
def rInKd (K : PySem.W.Frag) (d : Addr) (neg : Bool) : R2 := fun x y H Q => ∃ (z : Str) (r : Option Value), x = .str z ∧ y = .ref d ∧ PySem.W.nsIn K d z = some r ∧ Q (.bl (xor neg r.isSome)) H
theorem op_notInKd {d : Addr} {es n} (D : KDict X.K X.w d es n) : OpR X (compareOp .NotIn) (rInKd X.K d true) := fun pins s σ H x y v u Q I rx ry ⟨z, r, ex, ey, e, q⟩ =>
  op_notIn_kd D pins s σ H x y v u Q I rx ry ⟨z, r, ex, ey, e, by simpa using q⟩
theorem KTab.find {K : PySem.W.Frag} {w : World} {g : Addr} {rows : List (Str × W)} (T : KTab K w g rows) (z : Str) : ∃ r, PySem.W.nsIn K g z = some r ∧ r.isSome = (rowAt z rows).isSome := by
  cases q : rowAt z rows with
  | none => exact ⟨none, T.miss z q, rfl⟩
  | some x =>
    obtain ⟨u, v, e, _⟩ := T.hit z x q
    exact ⟨some u, e, rfl⟩
theorem inKd_ok {neg : Bool} {ta : TE} {ma : ME} {g : Addr} {rows : List (Str × W)} (T : KTab X.K X.w g rows)
    (sa : ∀ σ ρ h R H Q, REnv X.K H R ρ σ → RH X.K cm h R H → Post X.K cm R H (EXw cm Wx σ) (OKv X.K Q) (ma ρ h) → ta σ H Q) :
    ∀ σ ρ h R H Q, REnv X.K H R ρ σ → RH X.K cm h R H → Post X.K cm R H (EXw cm Wx σ) (OKv X.K Q) (eInKd neg rows ma ρ h) → tOp (rInKd X.K g neg) ta (tC (.ref g)) σ H Q := fun σ ρ h R H Q hρ hh p =>
  sa σ ρ h R H _ hρ hh (Post.mono (Post.bind p) fun x h1 R1 H1 e1 x1 p1 => fun vx rx => by
    show rInKd X.K g neg vx (.ref g) H1 Q
    cases x with
    | str z =>
      cases rx
      obtain ⟨r, e, es⟩ := T.find z
      refine ⟨z, r, rfl, rfl, e, ?_⟩
      rw [es]
      exact post_v p1 x1 (.bl _)
    | _ => exact p1.elim)
theorem qt_inKd {neg : Bool} {op : CmpOp} {x : Str} {g : Addr} {rows : List (Str × W)} {a : Expr} {ma : ME} {pos p2 : Pos} (ho : OpR X (compareOp op) (rInKd X.K g neg)) (ha : QE cm X Wx a ma) (hg : Gl X x) (hm : X.mg x = some (.ref g)) (T : KTab X.K X.w g rows)
    (hb : behindInMarks op (.Name x p2) = false) (hd : (x == ("__debug__" : Str)) = false := by decide) : QT cm X Wx (.Compare a [op] [.Name x p2] pos) (tB (eInKd neg rows ma)) := by
  obtain ⟨ta, pa, sa⟩ := ha
  exact ⟨_, pt_cmpR ho pa (pe_glob (v := .ref g) hg hm rfl hd) hb, test_ok (inKd_ok T sa)⟩
theorem q_ixKd {x : Str} {g : Addr} {rows : List (Str × W)} {a : Expr} {ma : ME} {pos p2 : Pos} (ha : QE cm X Wx a ma) (hg : Gl X x) (hm : X.mg x = some (.ref g)) (T : KTab X.K X.w g rows)
    (hs : PlainIx a := by intro _ _; rfl) (hd : (x == ("__debug__" : Str)) = false := by decide) : QE cm X Wx (.Subscript (.Name x p2) a pos) (eIxKd rows ma) := by
  obtain ⟨ta, pa, sa⟩ := ha
  refine ⟨_, pe_ix ix_kdict (pe_glob (v := .ref g) hg hm rfl hd) pa hs, fun σ ρ h R H Q hρ hh p => ?_⟩
  refine sa σ ρ h R H _ hρ hh (Post.mono (Post.bind p) fun x h1 R1 H1 e1 x1 p1 => fun vx rx => ?_)
  cases x with
  | str z =>
    cases rx
    dsimp only at p1
    cases q : rowAt z rows with
    | none => rw [q] at p1; exact p1.elim
    | some w =>
      rw [q] at p1
      obtain ⟨es, n, D⟩ := T.kd
      obtain ⟨u, v, e, r, rv⟩ := T.hit z w q
      exact ⟨g, z, v, rfl, rfl, ⟨es, n, u, D.at_, D.lit, e, r⟩, post_v p1 x1 (rv _ _)⟩
  | _ => exact p1.elim
end
end Z

namespace Z
open PySem PySem.Spec PyProof.Rows L2
inductive Kv where
  | str (x : Str) | tup (xs : List Kv)
mutual
def Kv.w : Kv → W
  | .str x => .str x
  | .tup xs => .kt (Kv.ws xs)
def Kv.ws : List Kv → List W
  | [] => []
  | x :: xs => Kv.w x :: Kv.ws xs
end
mutual
def kvB (K : PySem.W.Frag) : Kv → Value → Bool
  | .str x, u => (match u with
    | .str y _ => decide (x = y)
    | _ => false)
  | .tup xs, u => (match u with
    | .ref a => (match K.lookup a with
      | some ⟨.type c, _, .seq its _, _⟩ => decide (c = "tuple") && (decide (its.size ≤ sizeLine) && kvsB K xs its.toList)
      | _ => false)
    | _ => false)
def kvsB (K : PySem.W.Frag) : List Kv → List Value → Bool
  | [], us => us.isEmpty
  | x :: xs, us => (match us with
    | u :: us => kvB K x u && kvsB K xs us
    | [] => false)
end
mutual
theorem kvB_ok {K : PySem.W.Frag} : ∀ (k : Kv) (u : Value), kvB K k u = true → ∃ v, RelV v u ∧ ∀ H R, RV K H R k.w v
  | .str x, u, h => by
    unfold kvB at h
    split at h
    · rename_i y t
      have := of_decide_eq_true h
      subst this
      exact ⟨.str x, ⟨t, rfl⟩, fun _ _ => .str x⟩
    · cases h
  | .tup xs, u, h => by
    unfold kvB at h
    split at h
    · rename_i a
      split at h
      · rename_i c d its n sl q
        obtain ⟨h1, h2⟩ := He.ba h
        obtain ⟨h3, h4⟩ := He.ba h2
        obtain ⟨vs, r, rv⟩ := kvsB_ok xs its.toList h4
        exact ⟨.ref a, rfl, fun H R => .kt (.inr ⟨_, its, n, q, congrArg Value.type (of_decide_eq_true h1), rfl, of_decide_eq_true h3, r⟩) (rv H R)⟩
      · cases h
    · cases h
theorem kvsB_ok {K : PySem.W.Frag} : ∀ (ks : List Kv) (us : List Value), kvsB K ks us = true → ∃ vs, Vals vs us ∧ ∀ H R, RVs K H R (Kv.ws ks) vs
  | [], us, h => by
    unfold kvsB at h
    have := List.isEmpty_iff.mp h
    subst this
    exact ⟨[], .nil, fun _ _ => .nil⟩
  | k :: ks, us, h => by
    unfold kvsB at h
    split at h
    · rename_i u us
      obtain ⟨h1, h2⟩ := He.ba h
      obtain ⟨v, r, rv⟩ := kvB_ok k u h1
      obtain ⟨vs, rs, rvs⟩ := kvsB_ok ks us h2
      exact ⟨v :: vs, .cons r rs, fun H R => .cons (rv H R) (rvs H R)⟩
    · cases h
end
abbrev Tk : Type := Str × List (Str × Kv)
def Tk.rows (t : Tk) : List (Str × W) := t.2.map fun q => (q.1, q.2.w)
def tkB (K : PySem.W.Frag) (t : Tk) : Bool := (He.Fa.glo t.1).ok K && t.2.all fun q => match PySem.W.nsIn K (He.ga K t.1) q.1 with
  | some (some u) => kvB K q.2 u
  | _ => false
abbrev AlK : Type := AlX × List (Option (List (Option (Str × Int))) × Bool)
def obsK (fa : List Ex) (fn : List Fx) (ts : List Tk) (K : Frg) : AlK := (obsX fa fn K, ts.map fun t => (He.dicW K (He.ga K t.1), tkB K t))
def valK (fn : List Fx) (ts : List Tk) (w : World) : AlK := (valX fn, ts.map fun t => (some (He.keysIn w.params (t.2.map (·.1))), true))
def SaysK (fa : List Ex) (fn : List Fx) (ts : List Tk) (w : World) (K : Frg) : Prop := obsK fa fn ts K = valK fn ts w
def obsKG (n : Nat) (fa : List Ex) (fn : List Fx) (ts : List Tk) (g : Addr → Option Obj) : AlK × Bool := (obsK fa fn ts (frX n g), tabsX g (tfOf fn) (frX n g))
def hookK (n : Nat) (fa : List Ex) (fn : List Fx) (ts : List Tk) : PySem.W.Hook where
  α := AlK × Bool
  obs := fun s => obsKG n fa fn ts s.heap.get?
  val := fun w => (valK fn ts w, true)
  says := fun w h => ∃ K : Frg, K.In h ∧ SaysK fa fn ts w K ∧ TabX (tfOf fn) h K
  of := fun _ _ e => ⟨_, He.frT_in, congrArg (fun z : AlK × Bool => z.1) e, tabsX_ok (congrArg (fun z : AlK × Bool => z.2) e)⟩
  keeps := fun _ _ _ ⟨K, hK, c, t⟩ k => ⟨K, PySem.W.Frag.In.keeps hK k, c, t.keeps k⟩
theorem obsKG_eq {n : Nat} {fa : List Ex} {fn : List Fx} {ts : List Tk} {g : Addr → Option Obj} {s : Shared} (h : ∀ a, g a = s.heap.get? a) : obsKG n fa fn ts g = (hookK n fa fn ts).obs s := by
  have e : g = s.heap.get? := funext h
  rw [e] <;> rfl
theorem rowAt_mem {z : Str} {x : W} : ∀ {rows : List (Str × Kv)}, rowAt z (rows.map fun q => (q.1, q.2.w)) = some x → ∃ q ∈ rows, q.1 = z ∧ q.2.w = x
  | [], h => by cases h
  | q :: r, h => by
    rw [List.map_cons] at h
    unfold rowAt at h
    split at h
    · rename_i e; exact ⟨q, List.mem_cons_self, e, Option.some.inj h⟩
    · obtain ⟨p, hp, e1, e2⟩ := rowAt_mem h
      exact ⟨p, List.mem_cons_of_mem _ hp, e1, e2⟩
theorem rowAt_none {z : Str} : ∀ {rows : List (Str × Kv)}, rowAt z (rows.map fun q => (q.1, q.2.w)) = none → z ∉ rows.map (·.1)
  | [], _ => by simp
  | q :: r, h => by
    rw [List.map_cons] at h
    unfold rowAt at h
    split at h
    · cases h
    · rename_i e
      have := rowAt_none h
      rw [List.map_cons, List.mem_cons]
      rintro (c | c)
      · exact e c.symm
      · exact this c
theorem keysIn_mem {P : Params} : ∀ {l : List DictEntry} {ks : List Str}, l.map He.keyOf = He.keysIn P ks → ∀ e ∈ l, ∃ x t, e.key = .str x t ∧ x ∈ ks
  | [], _, _, e, he => by cases he
  | d :: r, [], h, _, _ => by cases h
  | d :: r, k :: ks, h, e, he => by
    have h1 : He.keyOf d :: r.map He.keyOf = some (k, PyData.keyHash P k) :: He.keysIn P ks := h
    injection h1 with h2 h3
    rcases List.mem_cons.mp he with rfl | he
    · unfold He.keyOf at h2
      split at h2
      · rename_i x t q
        obtain ⟨h5, _⟩ := Prod.mk.inj (Option.some.inj h2)
        exact ⟨x, t, q, by rw [h5]; exact List.mem_cons_self⟩
      · cases h2
    · obtain ⟨x, t, q, m⟩ := keysIn_mem h3 e he
      exact ⟨x, t, q, List.mem_cons_of_mem _ m⟩
theorem dic_miss {K : Frg} {w : World} {a : Addr} {ks : List Str} (h : He.dicW K a = some (He.keysIn w.params ks)) {z : Str} (hz : z ∉ ks) : PySem.W.nsIn K a z = some none := by
  obtain ⟨es, n, D⟩ := He.dicW_ok h
  unfold He.dicW at h
  rw [D.at_] at h
  dsimp only at h
  split at h
  · have h := Option.some.inj h
    have km := keysIn_mem h
    unfold PySem.W.nsIn
    rw [D.at_]
    dsimp only
    have e1 : es.toList.find? (·.key.isStr z) = none := by
      rw [List.find?_eq_none]
      intro e he c
      obtain ⟨x, t, q, m⟩ := km e he
      rw [q] at c
      have : x = z := eq_of_beq c
      subst this
      exact hz m
    have e2 : es.toList.any (·.refKey) = false := by
      rw [List.any_eq_false]
      intro e he c
      obtain ⟨x, t, q, m⟩ := km e he
      unfold DictEntry.refKey at c
      rw [q] at c
      cases c
    rw [e1]
    dsimp only
    rw [e2]
    rfl
  · cases h
section
variable {fa : List Ex} {fn : List Fx} {ts : List Tk} {w : World} {K : Frg}
theorem SaysK.x (c : SaysK fa fn ts w K) : SaysX fa fn K := congrArg (fun z : AlK => z.1) c
theorem SaysK.tab (c : SaysK fa fn ts w K) (i : Nat) {t : Tk} (h : ts[i]? = some t := by rfl) : (He.Fa.glo t.1).ok K = true ∧ KTab K w (He.ga K t.1) t.rows := by
  have e : ts.map (fun t => (He.dicW K (He.ga K t.1), tkB K t)) = ts.map fun t => (some (He.keysIn w.params (t.2.map (·.1))), true) := congrArg (fun z : AlK => z.2) c
  have e2 : (ts.map fun t => (He.dicW K (He.ga K t.1), tkB K t))[i]? = (ts.map fun t => (some (He.keysIn w.params (t.2.map (·.1))), true))[i]? := by rw [e]
  rw [List.getElem?_map, List.getElem?_map, h] at e2
  obtain ⟨h1, h2⟩ := Prod.mk.inj (Option.some.inj e2)
  obtain ⟨h3, h4⟩ := He.ba h2
  refine ⟨h3, He.dicW_ok h1, fun z x hx => ?_, fun z hz => dic_miss h1 (rowAt_none hz)⟩
  obtain ⟨q, hq, rfl, rfl⟩ := rowAt_mem hx
  have h5 := List.all_eq_true.mp h4 q hq
  split at h5
  · rename_i u eu
    obtain ⟨v, r, rv⟩ := kvB_ok q.2 u h5
    exact ⟨u, v, eu, r, rv⟩
  · cases h5
end
structure Bk (fa : List Ex) (fn : List Fx) (ts : List Tk) (P : Program) (w : World) (K : Frg) (mg : Str → Option Value) (base : Heap) : Prop extends Bx fa fn P w K mg base where
  saysK : SaysK fa fn ts w K
theorem Bk.tab {fa : List Ex} {fn : List Fx} {ts : List Tk} {P : Program} {w : World} {K : Frg} {mg : Str → Option Value} {base : Heap} (B : Bk fa fn ts P w K mg base) (i : Nat) {t : Tk} (h : ts[i]? = some t := by rfl) : mg t.1 = some (.ref (He.ga K t.1)) ∧ KTab K w (He.ga K t.1) t.rows := by
  obtain ⟨hh, a, b⟩ := B.ex
  obtain ⟨h1, h2⟩ := B.saysK.tab i h
  exact ⟨He.glo_ok a b h1, h2⟩
section
variable {X : Cx}
theorem op_notInKt {g : Addr} {rows : List (Str × W)} (T : KTab X.K X.w g rows) : OpR X (compareOp .NotIn) (rInKd X.K g true) := by
  obtain ⟨es, n, D⟩ := T.kd
  exact op_notInKd D
end
end Z

namespace Z
open PySem PySem.Spec PyProof.Rows L2
section
variable {cm : Str → Addr} {X : Cx} {Wx : WX}
end
end Z

namespace PySem.SeqAt
open AutoSeq1 (wpAny_loadPart')
open MeetsSeq
end PySem.SeqAt
namespace Z
open PySem PySem.Spec PyProof.Rows L2
section
variable {X : Cx}
end
section
variable {cm : Str → Addr} {X : Cx} {Wx : WX}
def isDK (h : Hq) : W → Bool
  | .ref n => (match h[n]? with
    | some (.dct _ false _) => true
    | _ => false)
  | _ => false
def isTu : W → Bool
  | .tup _ => true
  | _ => false
def eqDW (neg : Bool) : F2 := fun x y h => if isDK h x && isTu y || isTu x && isDK h y then .ok (.bl neg) h else eqW neg x y h
end
end Z

namespace Z
open PySem PySem.Spec PyProof.Rows L2
inductive Cop where
  | lt | le | gt | ge
def Cop.op : Cop → CmpOp
  | .lt => .Lt
  | .le => .LtE
  | .gt => .Gt
  | .ge => .GtE
def iC : Cop → Int → Int → Bool
  | .lt, a, b => decide (a < b)
  | .le, a, b => decide (a ≤ b)
  | .gt, a, b => decide (b < a)
  | .ge, a, b => decide (b ≤ a)
def sC : Cop → Str → Str → Bool
  | .lt, a, b => sLt a b
  | .le, a, b => sLe a b
  | .gt, a, b => sLt b a
  | .ge, a, b => sLe b a
def nC : Cop → Nat → Nat → Bool
  | .lt, a, b => decide (a < b)
  | .le, a, b => decide (a ≤ b)
  | .gt, a, b => decide (a > b)
  | .ge, a, b => decide (a ≥ b)
mutual
def ordD (c : Cop) : PyData → PyData → Option Bool
  | .int i, .int j => some (iC c i j)
  | .str i, .str j => some (sC c i j)
  | .tuple xs, .tuple ys => if okDs c xs ys then some (lexDs c xs ys) else none
  | _, _ => none
def okDs (c : Cop) : List PyData → List PyData → Bool
  | x :: xs, y :: ys => (PyData.eqv x y || (ordD c x y).isSome) && okDs c xs ys
  | _, _ => true
def lexDs (c : Cop) : List PyData → List PyData → Bool
  | x :: xs, y :: ys => if PyData.eqv x y then lexDs c xs ys else (ordD c x y).getD false
  | [], [] => nC c 0 0
  | x :: xs, [] => nC c (xs.length + 1) 0
  | [], y :: ys => nC c 0 (ys.length + 1)
end
section
variable {X : Cx}
end
section
variable {cm : Str → Addr} {X : Cx} {Wx : WX}
end
end Z
namespace Z
open PySem PySem.Spec PyProof.Rows L2
section
variable {cm : Str → Addr} {X : Cx} {Wx : WX}
end
end Z

namespace Z
open PySem PySem.Spec PyProof.Rows L2
section
variable {X : Cx} {pins : List (Addr × Obj)} {σ : L2.St} {H : Hp} {s : Shared} {d : Addr}
end
section
variable {P : Program} {w : World} {K : PySem.W.Frag} {d : Addr} {o : Obj} {es : Array DictEntry} {ep : Nat}
end
section
variable {X : Cx} {e : Expr} {td : TE} {apos cpos : Pos}
end
section
variable {prog : Program} {w : World} {A : Around} {E : Value → Shared → Prop} {s : Shared} {r d : Addr} {es : Array DictEntry} {ep : Nat}
end
section
variable {X : Cx} {e : Expr} {te : TE} {p apos cpos pos : Pos}
end
end Z

namespace Z
open PySem PySem.Spec PyProof.Rows L2
def Dd : HO → Prop
  | .dK _ => True
  | .dT _ => True
  | _ => False
structure Alk (d : Addr) (H H' : Hp) : Prop where
  ne : ∀ a, a ≠ d → H' a = H a
  tup : ∀ xs, H d ≠ some (.tup xs)
  frz : ∀ ob u, H d = some (.frz ob u) → Dd u
section
variable {K : PySem.W.Frag} {H H' : Hp} {R : List Addr} {d : Addr}
theorem Alk.t (A : Alk d H H') {a xs} (h : H a = some (.tup xs)) : H' a = some (.tup xs) := by
  rw [A.ne a (fun z => by subst z; exact A.tup _ h)]; exact h
theorem Alk.f (A : Alk d H H') {a ob u} (n : ¬ Dd u) (h : H a = some (.frz ob u)) : H' a = some (.frz ob u) := by
  rw [A.ne a (fun z => by subst z; exact n (A.frz _ _ h))]; exact h
theorem Alk.sqF (A : Alk d H H') {a xs} (h : SqF K H a xs) : SqF K H' a xs := h.imp (fun ⟨o, e⟩ => ⟨o, A.f id e⟩) id
theorem Alk.sqT (A : Alk d H H') {a xs} (h : SqT K H a xs) : SqT K H' a xs := h.imp (fun h => h.imp A.t fun ⟨o, e⟩ => ⟨o, A.f id e⟩) id
mutual
theorem RV.alk (A : Alk d H H') : ∀ (w : W) (v : V), RV K H R w v → RV K H' R w v
  | .non, _, h => by cases h; exact .non
  | .bl _, _, h => by cases h; exact .bl _
  | .int _, _, h => by cases h; exact .int _
  | .str _, _, h => by cases h; exact .str _
  | .tup xs, _, h => by
    cases h with
    | tup s r => exact .tup (A.t s) (RVs.alk A xs _ r)
  | .frz xs, _, h => by
    cases h with
    | frz s r => exact .frz (A.sqF s) (RVs.alk A xs _ r)
  | .kt xs, _, h => by
    cases h with
    | kt s r => exact .kt (A.sqT s) (RVs.alk A xs _ r)
  | .ref _, _, h => by
    cases h with
    | ref q => exact .ref q
  | .exn _ _, _, h => by cases h; exact .exn _ _
theorem RVs.alk (A : Alk d H H') : ∀ (ws : List W) (vs : List V), RVs K H R ws vs → RVs K H' R ws vs
  | [], _, h => by cases h; exact .nil
  | w :: ws, _, h => by
    cases h with
    | cons a b => exact .cons (RV.alk A w _ a) (RVs.alk A ws _ b)
end
theorem RD.alk (A : Alk d H H') : ∀ {l r}, RD K H R l r → RD K H' R l r := by
  intro l r h
  induction h with
  | nil => exact .nil
  | cons a b _ ih => exact .cons a (RV.alk A _ _ b) ih
theorem RT.alk (A : Alk d H H') : ∀ {l r}, RT K H R l r → RT K H' R l r := by
  intro l r h
  induction h with
  | nil => exact .nil
  | cons a b _ ih => exact .cons a (RV.alk A _ _ b) ih
theorem RF.alk (A : Alk d H H') : ∀ {l r}, RF K H R l r → RF K H' R l r := by
  intro l r h
  induction h with
  | nil => exact .nil
  | cons b _ ih => exact .cons (RV.alk A _ _ b) ih
theorem RO.alk {cm o a} (A : Alk d H H') (n : a ≠ d) (h : RO K H R cm o a) : RO K H' R cm o a := by
  have k : ∀ u, H a = Option.some u → H' a = Option.some u := fun u e => by rw [A.ne a n]; exact e
  cases h with
  | lst q r => exact .lst (k _ q) (RVs.alk A _ _ r)
  | dK q r => exact .dK (q.map k) (RD.alk A r)
  | dT q r => exact .dT (q.map k) (RT.alk A r)
  | ins q r c => exact .ins (k _ q) (RF.alk A r) c
theorem RH.alk {cm h} {n : Nat} {o : Ob} (x : RH K cm h R H) (hn : R[n]? = some d) (A : Alk d H H') (r : RO K H' R cm o d) : RH K cm (h.set n o) R H' := by
  refine ⟨by simp [x.len], x.nd, fun m v q => ?_, x.tab.but (D := d) (fun w hw => by
    obtain ⟨o, _, r⟩ := x.mem hn
    exact r.noT hw) fun b o ne z => by rw [A.ne b ne]; exact z⟩
  by_cases e : n = m
  · subst e
    have hl : n < h.length := by rw [x.len]; exact (List.getElem?_eq_some_iff.mp hn).1
    rw [List.getElem?_set_self hl] at q
    cases q
    exact ⟨d, hn, r⟩
  · rw [List.getElem?_set_ne e] at q
    obtain ⟨a, ea, ra⟩ := x.ob m v q
    have ne : a ≠ d := fun z => by
      subst z
      obtain ⟨h1, e1⟩ := List.getElem?_eq_some_iff.mp hn
      obtain ⟨h2, e2⟩ := List.getElem?_eq_some_iff.mp ea
      exact e ((List.getElem_inj x.nd).mp (e1.trans e2.symm))
    exact ⟨a, ea, ra.alk A ne⟩
theorem REnv.alk {ρ σ} (A : Alk d H H') (h : REnv K H R ρ σ) : REnv K H' R ρ σ := ⟨h.1, fun i w q => let ⟨v, a, b⟩ := h.2 i w q; ⟨v, a, RV.alk A _ _ b⟩⟩
end
def unlk (n : Nat) (h : Hq) : Option Hq := match h[n]? with
  | some (.dct (_ + 1) k kvs) => some (h.set n (.dct 0 k kvs))
  | _ => none
def lkAt (m : ME) (ρ : Ev) (h : Hq) : Option (Nat × Bool × List (W × W)) := match m ρ h with
  | .ok (.ref n) _ => (match h[n]? with
    | some (.dct 0 k kvs) => some (n, k, kvs)
    | _ => none)
  | _ => none
theorem lkAt_some {m : ME} {ρ h n k kvs} (e : lkAt m ρ h = some (n, k, kvs)) : h[n]? = some (.dct 0 k kvs) := by
  unfold lkAt at e
  split at e
  · split at e
    · rename_i q; cases e; exact q
    · cases e
  · cases e
def unE (n : Nat) : Res W → Res W
  | .ok a h => (match unlk n h with
    | some h' => .ok a h'
    | none => .stuck)
  | _ => .stuck
def unS (n : Nat) : RS → RS
  | .ok f ρ h => (match unlk n h with
    | some h' => .ok f ρ h'
    | none => .stuck)
  | _ => .stuck
def eLock (m e : ME) : ME := fun ρ h => match lkAt m ρ h with
  | some (n, k, kvs) => unE n (e ρ (h.set n (.dct 1 k kvs)))
  | none => e ρ h
def sLock (m : ME) (s : MS) : MS := fun ρ h => match lkAt m ρ h with
  | some (n, k, kvs) => unS n (s ρ (h.set n (.dct 1 k kvs)))
  | none => s ρ h
section
variable {cm : Str → Addr} {X : Cx} {Wx : WX}
theorem PE.or' {e : Expr} {t1 t2 : TE} (h1 : PE X e t1) (h2 : PE X e t2) : PE X e (fun σ H Q => t1 σ H Q ∨ t2 σ H Q) := ⟨fun pins s σ H Q I h => h.elim (h1.run pins s σ H Q I) (h2.run pins s σ H Q I)⟩
theorem PS.or' {st : Stmt} {t1 t2 : TS} (h1 : PS X st t1) (h2 : PS X st t2) : PS X st (fun D σ H => t1 D σ H ∨ t2 D σ H) := ⟨fun pins s σ H D I h => h.elim (h1.run pins s σ H D I) (h2.run pins s σ H D I)⟩
theorem lk_in {K : PySem.W.Frag} {h : Hq} {R : List Addr} {H : Hp} {n : Nat} {k : Bool} {kvs : List (W × W)} (x : RH K cm h R H) (e : h[n]? = some (.dct 0 k kvs)) : ∃ d u, R[n]? = some d ∧ H d = some u ∧ Mut (some u) ∧ Dd u ∧ ∀ od, Alk d H (upd H d (.frz od u)) ∧ RH K cm (h.set n (.dct 1 k kvs)) R (upd H d (.frz od u)) := by
  obtain ⟨d, hd, r⟩ := x.ob n _ e
  have mk : ∀ u, H d = some u → Dd u → ∀ od, Alk d H (upd H d (.frz od u)) := fun u hu du od => ⟨fun a ne => upd_ne ne, (fun xs z => by rw [hu] at z; cases z; exact du), (fun ob v z => by rw [hu] at z; cases z; exact du.elim)⟩
  cases r with
  | dK q r =>
    have q : H d = some _ := q
    refine ⟨d, _, hd, q, trivial, trivial, fun od => ?_⟩
    have A := mk _ q trivial od
    exact ⟨A, x.alk hd A (.dK (t := 1) ⟨od, upd_same⟩ (r.alk A))⟩
  | dT q r =>
    have q : H d = some _ := q
    refine ⟨d, _, hd, q, trivial, trivial, fun od => ?_⟩
    have A := mk _ q trivial od
    exact ⟨A, x.alk hd A (.dT (t := 1) ⟨od, upd_same⟩ (r.alk A))⟩
theorem lk_out {K : PySem.W.Frag} {h h2 : Hq} {R R' : List Addr} {H H' : Hp} {n : Nat} {d : Addr} {u : HO} {od : Obj} (hd : R[n]? = some d) (hu : H d = some u) (du : Dd u) (ex : Ext K R (upd H d (.frz od u)) R' H') (x : RH K cm h R' H') (e : unlk n h = some h2) :
    H' d = some (.frz od u) ∧ Ext K R H R' (upd H' d u) ∧ RH K cm h2 R' (upd H' d u) ∧ Alk d H' (upd H' d u) := by
  have f : H' d = some (.frz od u) := ex.2.2.1 _ _ _ upd_same
  have A : Alk d H' (upd H' d u) := ⟨fun a ne => upd_ne ne, (fun xs z => by rw [f] at z; cases z), (fun ob v z => by rw [f] at z; cases z; exact du)⟩
  have hd' := ex.at_ hd
  have nt : ∀ a xs, H a = some (.tup xs) → a ≠ d := fun a xs z y => by subst y; rw [hu] at z; cases z; exact du
  have nf : ∀ a ob v, H a = some (.frz ob v) → a ≠ d := fun a ob v z y => by subst y; rw [hu] at z; cases z; exact du
  refine ⟨f, ⟨?_, fun a xs z => ?_, fun a ob v z => ?_, fun a o z nt na => ?_⟩, ?_, A⟩
  · obtain ⟨⟨t, e1, e2⟩, _⟩ := ex
    refine ⟨t, e1, fun a ha v z => ?_⟩
    have ne : a ≠ d := fun y => by
      subst y
      obtain ⟨ps, q⟩ := e2 a ha _ upd_same
      cases q
    exact e2 a ha v (by rw [upd_ne ne]; exact z)
  · have ne := nt a xs z
    rw [upd_ne ne]
    exact ex.2.1 a xs (by rw [upd_ne ne]; exact z)
  · have ne := nf a ob v z
    rw [upd_ne ne]
    exact ex.2.2.1 a ob v (by rw [upd_ne ne]; exact z)
  · have ne : a ≠ d := fun y => na (by rw [y]; exact List.mem_of_getElem? hd)
    rw [upd_ne ne]
    exact ex.2.2.2 a o (by rw [upd_ne ne]; exact z) nt na
  · unfold unlk at e
    split at e
    · rename_i t k kvs q
      cases e
      have r := x.get hd' q
      cases r with
      | dK q r =>
        obtain ⟨o, q⟩ := q
        rw [f] at q; cases q
        exact x.alk hd' A (.dK (t := 0) upd_same (r.alk A))
      | dT q r =>
        obtain ⟨o, q⟩ := q
        rw [f] at q; cases q
        exact x.alk hd' A (.dT (t := 0) upd_same (r.alk A))
    · cases e
theorem q_lock {e : Expr} {me : ME} (m : ME) (he : QE cm X Wx e me) : QE cm X Wx e (eLock m me) := by
  obtain ⟨t, p, s⟩ := he
  refine ⟨_, PE.or' (pe_lock p) p, fun σ ρ h R H Q hρ hh pp => ?_⟩
  unfold eLock at pp
  cases q : lkAt m ρ h with
  | none => rw [q] at pp; exact .inr (s σ ρ h R H Q hρ hh pp)
  | some z =>
    obtain ⟨n, k, kvs⟩ := z
    rw [q] at pp
    dsimp only at pp
    obtain ⟨d, u, hd, hu, mu, du, ak⟩ := lk_in hh (lkAt_some q)
    refine .inl ⟨d, u, hu, mu, fun od => ?_⟩
    obtain ⟨A, x⟩ := ak od
    refine s σ ρ _ R _ _ (hρ.alk A) x ?_
    cases z : me ρ (h.set n (.dct 1 k kvs)) with
    | stuck => rw [z] at pp; exact pp.elim
    | exc c h1 => rw [z] at pp; exact pp.elim
    | ok a h1 =>
      rw [z] at pp
      unfold unE at pp
      cases y : unlk n h1 with
      | none => simp only [y] at pp; exact pp.elim
      | some h2 =>
        simp only [y] at pp
        intro R1 H1 e1 x1 v r
        obtain ⟨f, e2, x2, A2⟩ := lk_out hd hu du e1 x1 y
        exact ⟨f, pp R1 _ e2 x2 v (RV.alk A2 _ _ r)⟩
theorem qs_lock {st : Stmt} {ms : MS} (m : ME) (hs : QS cm X Wx st ms) : QS cm X Wx st (sLock m ms) := by
  obtain ⟨t, p, s⟩ := hs
  refine ⟨_, PS.or' (ps_lock p) p, fun σ ρ h R H D hρ hh pp => ?_⟩
  unfold sLock at pp
  cases q : lkAt m ρ h with
  | none => rw [q] at pp; exact .inr (s σ ρ h R H D hρ hh pp)
  | some z =>
    obtain ⟨n, k, kvs⟩ := z
    rw [q] at pp
    dsimp only at pp
    obtain ⟨d, u, hd, hu, mu, du, ak⟩ := lk_in hh (lkAt_some q)
    refine .inl ⟨d, u, hu, mu, fun od => ?_⟩
    obtain ⟨A, x⟩ := ak od
    refine s σ ρ _ R _ _ (hρ.alk A) x ?_
    cases z : ms ρ (h.set n (.dct 1 k kvs)) with
    | stuck => rw [z] at pp; exact pp.elim
    | exc c ρ1 h1 => rw [z] at pp; exact pp.elim
    | ok f ρ1 h1 =>
      rw [z] at pp
      unfold unS at pp
      cases y : unlk n h1 with
      | none => simp only [y] at pp; exact pp.elim
      | some h2 =>
        simp only [y] at pp
        intro R1 H1 σ1 e1 x1 r1
        obtain ⟨f1, e2, x2, A2⟩ := lk_out hd hu du e1 x1 y
        have g := pp R1 _ σ1 e2 x2 (r1.alk A2)
        cases f with
        | nx => exact ⟨f1, g⟩
        | bk => exact ⟨f1, g⟩
        | ct => exact ⟨f1, g⟩
        | rt w => exact fun v r => ⟨f1, g v (RV.alk A2 _ _ r)⟩
theorem rd_at {K H R} : ∀ {kvs : List (W × W)} {vs : List (L2.Key × V)} {i : Nat} {k w : W}, RD K H R kvs vs → kvs[i]? = some (k, w) → ∃ l v, vs[i]? = some (l, v) ∧ RK k l ∧ RV K H R w v
  | _, _, _, _, _, .nil, e => by simp at e
  | _, _, i, _, _, .cons a b c, e => by
    cases i with
    | zero => simp at e; obtain ⟨rfl, rfl⟩ := e; exact ⟨_, _, rfl, a, b⟩
    | succ i => exact rd_at (i := i) c e
theorem rd_len {K H R} : ∀ {kvs : List (W × W)} {vs : List (L2.Key × V)}, RD K H R kvs vs → kvs.length = vs.length
  | _, _, .nil => rfl
  | _, _, .cons a b c => by simp [rd_len c]
theorem rt_at {K H R} : ∀ {kvs : List (W × W)} {vs : List (List L2.Key × V)} {i : Nat} {k w : W}, RT K H R kvs vs → kvs[i]? = some (k, w) → ∃ ks l v, k = .tup ks ∧ vs[i]? = some (l, v) ∧ RKs ks l ∧ RV K H R w v
  | _, _, _, _, _, .nil, e => by simp at e
  | _, _, i, _, _, .cons a b c, e => by
    cases i with
    | zero => simp at e; obtain ⟨rfl, rfl⟩ := e; exact ⟨_, _, _, rfl, rfl, a, b⟩
    | succ i => exact rt_at (i := i) c e
theorem rt_len {K H R} : ∀ {kvs : List (W × W)} {vs : List (List L2.Key × V)}, RT K H R kvs vs → kvs.length = vs.length
  | _, _, .nil => rfl
  | _, _, .cons a b c => by simp [rt_len c]
def heldK (h : Hq) : W → Option (List (W × W))
  | .ref n => (match h[n]? with
    | some (.dct (_ + 1) false kvs) => some kvs
    | _ => none)
  | _ => none
def heldT (h : Hq) : W → Option (List (W × W))
  | .ref n => (match h[n]? with
    | some (.dct (_ + 1) true kvs) => some kvs
    | _ => none)
  | _ => none
def iKeysW (m : ME) : MI := fun ρ h => (m ρ h).bind fun x h1 => match heldK h1 x with
  | some kvs => .ok ⟨kvs.map Prod.fst, fun _ => true⟩ h1
  | none => (match heldT h1 x with
    | some kvs => .ok ⟨kvs.map Prod.fst, fun _ => true⟩ h1
    | none => .stuck)
theorem heldK_ok {h R H} {x : W} {v : V} {kvs : List (W × W)} (hh : RH X.K cm h R H) (r : RV X.K H R x v) (e : heldK h x = some kvs) : ∃ d o vs, v = .ref d ∧ H d = some (.frz o (.dK vs)) ∧ RD X.K H R kvs vs := by
  unfold heldK at e
  split at e
  · split at e
    · rename_i q
      cases e
      cases r with
      | ref z =>
        have ro := hh.get z q
        cases ro with
        | dK l d => obtain ⟨o, l⟩ := l; exact ⟨_, o, _, rfl, l, d⟩
    · cases e
  · cases e
theorem heldT_ok {h R H} {x : W} {v : V} {kvs : List (W × W)} (hh : RH X.K cm h R H) (r : RV X.K H R x v) (e : heldT h x = some kvs) : ∃ d o vs, v = .ref d ∧ H d = some (.frz o (.dT vs)) ∧ RT X.K H R kvs vs := by
  unfold heldT at e
  split at e
  · split at e
    · rename_i q
      cases e
      cases r with
      | ref z =>
        have ro := hh.get z q
        cases ro with
        | dT l d => obtain ⟨o, l⟩ := l; exact ⟨_, o, _, rfl, l, d⟩
    · cases e
  · cases e
variable {tg e : Expr} {m : ME} {apos cpos : Pos}
theorem qi_keys (he : QE cm X Wx e m) : QI cm X Wx tg e (iKeysW m) := by
  obtain ⟨t, p, s⟩ := he
  refine ⟨_, pi_keys p, fun σ ρ h R H Rk hρ hh pp => ?_⟩
  refine s σ ρ h R H _ hρ hh (Post.mono (Post.bind pp) fun x h1 R1 H1 e1 x1 p1 => fun v r => ?_)
  cases q : heldK h1 x with
  | some kvs =>
    simp only [q] at p1
    obtain ⟨d, o, vs, rfl, hd, rd⟩ := heldK_ok x1 r q
    refine ⟨d, o, rfl, .inl ⟨vs, hd, p1 R1 H1 Ext.refl x1 _ fun i h2 R2 H2 e2 x2 _ => ⟨fun w hw => ?_, fun hi => ?_⟩⟩⟩
    · rw [List.getElem?_map] at hw
      cases hk : kvs[i]? with
      | none => rw [hk] at hw; cases hw
      | some kw =>
        obtain ⟨k, w'⟩ := kw
        rw [hk] at hw; cases hw
        obtain ⟨l, v, hv, rk, rv⟩ := rd_at rd hk
        refine ⟨⟨e2.2.2.1 _ _ _ hd, (List.getElem?_eq_some_iff.mp hv).1⟩, fun y H' yl => ?_⟩
        obtain ⟨rfl, k2, v2, hv2, rfl⟩ := yl
        rw [hv] at hv2; cases hv2
        exact ⟨Ext.refl, x2, rk_rv rk⟩
    · exact ⟨e2.2.2.1 _ _ _ hd, by rw [← rd_len rd]; simpa using hi⟩
  | none =>
    simp only [q] at p1
    cases q2 : heldT h1 x with
    | none => simp only [q2] at p1; exact p1.elim
    | some kvs =>
      simp only [q2] at p1
      obtain ⟨d, o, vs, rfl, hd, rd⟩ := heldT_ok x1 r q2
      refine ⟨d, o, rfl, .inr ⟨vs, hd, p1 R1 H1 Ext.refl x1 _ fun i h2 R2 H2 e2 x2 _ => ⟨fun w hw => ?_, fun hi => ?_⟩⟩⟩
      · rw [List.getElem?_map] at hw
        cases hk : kvs[i]? with
        | none => rw [hk] at hw; cases hw
        | some kw =>
          obtain ⟨k, w'⟩ := kw
          rw [hk] at hw; cases hw
          obtain ⟨ks, l, v, rfl, hv, rk, rv⟩ := rt_at rd hk
          refine ⟨⟨e2.2.2.1 _ _ _ hd, (List.getElem?_eq_some_iff.mp hv).1⟩, fun y H' yl => ?_⟩
          obtain ⟨rfl, k2, v2, q, hv2, rfl, hq⟩ := yl
          rw [hv] at hv2; cases hv2
          exact ⟨Ext.refl, x2, .tup hq (rks_rvs rk)⟩
      · exact ⟨e2.2.2.1 _ _ _ hd, by rw [← rt_len rd]; simpa using hi⟩
end
end Z

namespace Z
open PySem PySem.Spec PyProof.Rows L2
section
variable {prog : Program} {w : World} {A : Around} {E : Value → Shared → Prop} {s : Shared}
def IsRow (h : Heap) (v : Value) (x y : Int) : Prop := ∃ a o b e n, v = .ref a ∧ h.get? a = some o ∧ o.cls = .type "tuple" ∧ o.data = .seq #[b, e] n ∧ Srt.IsPair h b x y
theorem IsRow.keeps {h h' : Heap} {v : Value} {x y : Int} (p : IsRow h v x y) (k : ∀ b o, h.get? b = some o → o.cls = .type "tuple" → h'.get? b = some o) : IsRow h' v x y := by
  obtain ⟨a, o, b, e, n, ev, ho, hc, hd, ip⟩ := p
  exact ⟨a, o, b, e, n, ev, k _ _ ho hc, hc, hd, ip.keeps k⟩
end
section
variable {X : Cx}
end
section
variable {cm : Str → Addr} {X : Cx}
end
end Z

namespace Z
open PySem PySem.Spec PyProof.Rows L2
section
variable {cm : Str → Addr} {X : Cx} {Wx : WX}
end
end Z

namespace Z
open PySem PySem.Spec PyProof.Rows L2
theorem PG.or {X : Cx} {tg : Expr} {t1 t2 : TG} (h1 : PG X tg t1) (h2 : PG X tg t2) : PG X tg (fun v σ H Q => t1 v σ H Q ∨ t2 v σ H Q) := ⟨fun pins s σ H v u Q I r h => h.elim (h1.run pins s σ H v u Q I r) (h2.run pins s σ H v u Q I r)⟩
section
variable {cm : Str → Addr} {X : Cx} {Wx : WX}
end
end Z

namespace Z
open PySem PySem.Spec PyProof.Rows L2 ItX
def VwO (d r : Addr) : HO := .ext fun h => h.get? r = some { cls := .type "dict_items", data := .fields #[.ref d] }
def IitO (d it : Addr) (n ep : Nat) : HO := .ext fun h => h.get? it = some { cls := .type "dict_itemiterator", data := .fields #[.none, .bool false, .ref d, .int 0 0, .int n 0, .int ep 0, .none, .none] }
section
variable {X : Cx} {e : Expr} {te : TE} {apos cpos : Pos}
end
def spItT (C : Addr) (f : Str) (n : Nat) : Sp := fun vs H Q _ => ∃ (a dx : Addr) (fs : List (Str × V)) (d : Addr) (o : Obj) (kvs : List (List Key × V)) (es : Array DictEntry) (ep : Nat), vs = [V.ref a] ∧ H a = some (.ins C dx fs) ∧ fs.lookup f = some (V.ref d) ∧ H d = some (.frz o (.dT kvs)) ∧ o.data = .dict es ep ∧
  ∀ r it, H r = none → H it = none → r ≠ it → n ≤ it → Q (.ref it) (upd (upd H r (VwO d r)) it (IitO d it es.size ep))
section
variable {P : Program} {w : World} {K : PySem.W.Frag} {mg : Str → Option Value} {base : Heap} {C fi : Addr} {c f : Str} {fd : FuncData}
end

section
variable {prog : Program} {w : World} {A : Around} {s : Shared} {R : Result → Shared → Prop} {es : Array DictEntry} {ep : Nat}
end
section
variable {cm : Str → Addr} {X : Cx} {pins : List (Addr × Obj)} {σ : L2.St} {H : Hp} {s : Shared}
end
structure OwnItT (P : Program) (w : World) (K : PySem.W.Frag) (mg : Str → Option Value) (c f : Str) : Prop where
  ex : ∃ (fi : Addr) (fd : FuncData) (ps : List Str), ItB K (He.ga K c) fi ∧ (∀ base : Heap, FnOk P w K mg base CX0 1 fi fd ps (spItT (He.ga K c) f base.objs.size)) ∧ Binds K fd ps []
end Z

namespace Z
open PySem PySem.Spec PyProof.Rows L2 ItX
section
variable {X : Cx} {C fi : Addr} {f : Str} {fd : FuncData} {ps : List Str} {k : Nat}
end
section
variable {cm : Str → Addr} {X : Cx} {Wx : WX}
end
end Z

namespace Z
open PySem PySem.Spec PyProof.Rows L2
structure LamB (params : Arguments) (body : Expr) (scope : Scope) (y : Str) : Prop where
  names : scope.names = [(y, .local)]
  kind : scope.kind = .function
  co : scope.isCoroutine = false
  gen : scope.isGenerator = false
  eq : ∃ (p1 p2 p3 : Pos) (j : Nat), body = .Subscript (.Name y p1) (.Constant (.int 0) j p2) p3
  bind : ∀ (q : Str) (cl : List (Str × Addr)) (pm cv ctv v : Value), bindArgs (PySem.W.kla_fn "<lambda>" q params body scope cl pm cv ctv) ⟨[v], []⟩ = pure [(y, v)]
  dbg : (y == ("__debug__" : Str)) = false
section
variable {prog : Program} {w : World} {A : Around} {s : Shared} {params : Arguments} {body : Expr} {scope : Scope} {y : Str}
end
section
variable {X : Cx} {pins : List (Addr × Obj)} {σ : L2.St} {H : Hp} {s : Shared} {params : Arguments} {body : Expr} {scope : Scope} {y : Str}
end
section
variable {cm : Str → Addr} {X : Cx} {Wx : WX} {params : Arguments} {body : Expr} {scope : Scope} {y : Str}
end
section
variable {P : Program} {w : World} {K : PySem.W.Frag} {mg : Str → Option Value} {base : Heap}
end
end Z

namespace Z
open PySem PySem.Spec PyProof.Rows L2
section
open PySem.MeetsSeq PySem.AutoSeq1
end
section
variable {cm : Str → Addr} {X : Cx}
end
end Z

namespace Z
open PySem PySem.Spec PyProof.Rows L2
section
variable {cm : Str → Addr} {X : Cx}
end
end Z

namespace ZC
open PySem PySem.Spec PyProof.Rows L2
section
variable {X : Cx}
end
end ZC
namespace Z
open PySem PySem.Spec PyProof.Rows L2 ZC
section
variable {cm : Str → Addr} {X : Cx} {Wx : WX}
end
end Z

namespace Z
open PySem PySem.Spec PyProof.Rows L2
section
variable {cm : Str → Addr} {X : Cx} {Wx : WX}
end
end Z

namespace Z
open PySem PySem.Spec PyProof.Rows L2
end Z

namespace Z
open PySem PySem.Spec PyProof.Rows L2
end Z

namespace Z
open PySem PySem.Spec PyProof.Rows L2
section
variable {cm : Str → Addr} {X : Cx} {Wx : WX}
def dpopW (h : Hq) (x k : W) : Option (W × Hq) := match ddelW h x k, dgetW h x k with
  | some h3, some (some w) => some (w, h3)
  | _, _ => none
def eDpop1 (o i : ME) : ME := fun ρ h => (o ρ h).bind fun x h1 => if isDW h1 x then (i ρ h1).bind fun y h2 => match dpopW h2 x y with
  | some (w, h3) => .ok w h3
  | none => .stuck
  else .stuck
theorem q_dpop1 {o e : Expr} {mo mi : ME} {apos cpos : Pos} (ho : QE cm X Wx o mo) (hi : QE cm X Wx e mi) (m : M1 X o "pop" apos e cpos) :
    QE cm X Wx (.Call (.Attribute o "pop" apos) [e] [] cpos) (eDpop1 mo mi) := by
  obtain ⟨to, po, so⟩ := ho
  obtain ⟨ti, pi, si⟩ := hi
  refine ⟨_, pe_dpop1 po pi m, fun σ ρ h R H Q hρ hh pp => ?_⟩
  refine so σ ρ h R H _ hρ hh (Post.mono (Post.bind pp) fun x h1 R1 H1 e1 x1 p1 => fun vx rx => ?_)
  split at p1
  · rename_i c
    obtain ⟨a, rfl, hd⟩ := isD_ok x1 rx c
    refine ⟨a, rfl, hd, si σ ρ h1 R1 H1 _ (hρ.ext e1) x1 (Post.mono (Post.bind p1) fun y h2 R2 H2 e2 x2 p2 => fun vy ry => ?_)⟩
    cases q : dpopW h2 x y with
    | none => simp only [q] at p2; exact p2.elim
    | some wh =>
      obtain ⟨w, h3⟩ := wh
      simp only [q] at p2
      unfold dpopW at q
      split at q
      · rename_i h3' w' z zg
        cases q
        cases x with
        | ref n =>
          cases rx with
          | ref qx =>
          unfold ddelW at z
          cases z2 : h2[n]? with
          | none => simp [z2] at z
          | some ob =>
            have rx2 := RV.ext e2 _ _ (RV.ref qx)
            cases rx2 with
            | ref q2 =>
              have ro := x2.get q2 z2
              cases ob with
              | dct t kk kvs =>
                cases t with
                | succ t => simp [z2] at z
                | zero =>
                  cases kk with
                  | true => simp [z2] at z
                  | false =>
                    simp only [z2] at z
                    split at z
                    · rename_i hc
                      rw [Bool.and_eq_true] at hc
                      cases z
                      obtain ⟨l, h1', rfl⟩ := key_ok ry hc.1
                      cases ro with
                      | @dK _ _ _ vs a0 b0 =>
                        have ex : Ext X.K R2 H2 R2 (upd H2 _ (.dK (dropK vs l))) := Ext.write (by assumption) q2 a0 (fun _ q => by cases q) (fun _ _ q => by cases q)
                        have zg' : getW y kvs = some w := by
                          unfold dgetW at zg
                          simp only [z2, hc.1, if_true] at zg
                          exact Option.some.inj zg
                        obtain ⟨v, hv, rv⟩ := (RD.get h1' b0).1 w zg'
                        exact ⟨vs, l, v, a0, rfl, hv, p2 R2 _ ex (x2.write q2 a0 (fun _ q => by cases q) (fun _ _ q => by cases q) (.dK upd_same (RD.ext ex (RD.drop h1' b0)))) v (RV.ext ex _ _ rv)⟩
                    · cases z
              | _ => simp [z2] at z
        | _ => simp [ddelW] at z
      · cases q
  · exact p1.elim
end
end Z

namespace Z
open PySem PySem.Spec PyProof.Rows L2 ItX
def KitO (d it : Addr) (n ep : Nat) : HO := .ext fun h => h.get? it = some { cls := .type "dict_keyiterator", data := .fields #[.ref d, .int 0 0, .int n 0, .int ep 0] }
theorem kitO_ok {P : Program} {w : World} {H : Hp} {h : Heap} {d it : Addr} {n ep : Nat} (e : h.get? it = some { cls := .type "dict_keyiterator", data := .fields #[.ref d, .int 0 0, .int n 0, .int ep 0] }) : ObjOk P w H h it (KitO d it n ep) := ⟨e, ⟨_, e⟩, fun h1 h2 q k => k _ q⟩
section
variable {X : Cx}
def rIterK (n : Nat) : List V → Hp → VK → Prop := fun xs H Q => ∃ (d : Addr) (o : Obj) (kvs : List (Key × V)) (es : Array DictEntry) (ep : Nat), xs = [.ref d] ∧ H d = some (.frz o (.dK kvs)) ∧ o.data = .dict es ep ∧ ∀ it, H it = none → n ≤ it → Q (.ref it) (upd H it (KitO d it es.size ep))
theorem call_iterK : CallR X (.builtin "iter") (rIterK X.base.objs.size) := by
  intro pins s σ H xs us Q I rv h
  obtain ⟨d, o, kvs, es, ep, rfl, hd, hod, q⟩ := h
  obtain rfl := Vals.ref1 rv
  obtain ⟨hs, hgd, hx, es', ep', vs, hdt, hsz, kv, hm⟩ := I.frzK hd
  obtain ⟨rfl, rfl⟩ := dict_ep hod hdt
  refine Calls.call_function_entry (by decide +kernel) (by decide +kernel) PySem.W.kdk_entry_iter (PySem.W.kdk_args_iter _) ?_
  unfold Builtin.«iter»
  refine wpAny_bind (m := someArgs "iter" 1 2 _) (wpAny_of_eq (a := [Value.ref d]) (by first | rfl | kernel_rfl!) ?_)
  show wpAny _ _ (pyIter (.ref d) >>= _) _ _ _
  refine wpAny_bind (iter_keys hs hgd hx hdt ?_)
  exact wpAny_pure ⟨_, rfl, .ref s.heap.objs.size, _, I.laid (t' := s.toks) (fun b u e => Heap.get?_push_of_some _ e) (Nat.le_refl _) (kitO_ok (Heap.get?_push_size _ rfl)), rfl, q _ (I.hok.fresh (Nat.le_refl _)) (Nat.le_trans I.ok.bsz I.sz)⟩
end
def spItK (C : Addr) (f : Str) (n : Nat) : Sp := fun vs H Q _ => ∃ (a dx : Addr) (fs : List (Str × V)) (d : Addr) (o : Obj) (kvs : List (Key × V)) (es : Array DictEntry) (ep : Nat), vs = [V.ref a] ∧ H a = some (.ins C dx fs) ∧ fs.lookup f = some (V.ref d) ∧ H d = some (.frz o (.dK kvs)) ∧ o.data = .dict es ep ∧
  ∀ it, H it = none → n ≤ it → Q (.ref it) (upd H it (KitO d it es.size ep))
section
variable {P : Program} {w : World} {K : PySem.W.Frag} {mg : Str → Option Value} {base : Heap} {C fi : Addr} {c f : Str} {fd : FuncData}
theorem ok_itK {qual : Str} {params : Arguments} {scope : Scope} {p1 p2 p3 p4 p5 : Pos} (F : FunD K "__iter__" qual params [.Return (some (.Call (.Name "iter" p1) [.Attribute (.Name "self" p2) f p3] [] p4)) p5] scope [] [] fi fd)
    (S : FnScope ["self"] ["self"] scope) (hl : scope.names.lookup ("self" : Str) = some NameKind.local) (hgl : ∀ (cdv : Value) (A : Around) (outer : List Env) (s : Shared) (H : Hp) (E : XK), Gl (cxOf CX0 P w K mg base ["self"] qual scope fi cdv A outer s H E) "iter") (hm : mg "iter" = none) (hv : bootBuiltins "iter" = some (.builtin "iter")) (ci : CI K c C) (hf : f ∈ fieldsOf c) :
    FnOk P w K mg base CX0 1 fi fd ["self"] (spItK C f base.objs.size) := by
  refine F.ok S (fun vs H Q E h => ?_) (fun cdv A outer s H vs Q E hr h => ?_)
  · obtain ⟨a, dx, fs, d, o, kvs, es, ep, rfl, _⟩ := h; rfl
  · obtain ⟨a, dx, fs, d, o, kvs, es, ep, rfl, ha, hf', hd, hod, q⟩ := h
    refine ⟨_, pss_one (ps_ret (pe_callB call_iterK (hgl cdv A outer s H E) hm hv (pa_cons (pe_fld (pe_var (x := ("self" : Str)) (i := 0) rfl (.inl hl) (by decide) (by decide)) (by rfl)) pa_nil))), ?_⟩
    exact ⟨.ref a, rfl, a, C, dx, fs, .ref d, rfl, ha, ci.cl, ci.na f hf, hf', d, o, kvs, es, ep, rfl, hd, hod, fun it hn hz => q it hn hz⟩
end
section
variable {X : Cx} {C fi : Addr} {f : Str} {fd : FuncData} {ps : List Str} {k : Nat}
def tOwnK (C : Addr) (f : Str) (te : TE) : TI := fun σ H R => te σ H fun x H1 => ∃ (a dx : Addr) (fs : List (Str × V)) (d : Addr) (o : Obj) (kvs : List (Key × V)), x = V.ref a ∧ H1 a = some (.ins C dx fs) ∧ fs.lookup f = some (V.ref d) ∧ H1 d = some (.frz o (.dK kvs)) ∧ R (Itk d o kvs) H1
theorem pi_ownK {tg e : Expr} {te : TE} (hc : ItB X.K C fi) (F : ∀ base : Heap, FnOk X.prog X.w X.K X.mg base CX0 k fi fd ps (spItK C f base.objs.size)) (b : Binds X.K fd ps []) (hr : Room (k + 1) X.A) (he : PE X e te) : PI X tg e (tOwnK C f te) := by
  refine ⟨fun pins s σ H R I h => thn (he.run pins s σ H _ I h) fun u s1 ⟨x, H1, I1, rx, a, dx, fs, d, o, kvs, ex, ha, hf, hd, q⟩ => ?_⟩
  subst ex
  cases rx
  obtain ⟨_, hgd, hx, es, ep, vs, hod, hsz, kv, hm⟩ := I1.frzK hd
  obtain ⟨mA, J, _⟩ := ins_get I1.hok ha
  obtain ⟨od, J, _⟩ := J.look
  obtain ⟨m0, hF⟩ := I1.fr
  refine PySem.W.owit_iter hF I1.ok.mod.kin J hc.it hc.fn ?_
  obtain ⟨g0, ge, gz⟩ := pad_heap X.base s1.heap.objs.size I1.env0.bsz
  have e0 : Env0 X.prog X.w X.K X.mg g0 X.A X.stack s1 H1 := env_alike I1.env0 ge (by omega)
  have F := F g0
  rw [gz] at F
  have hsp : spItK C f s1.heap.objs.size [.ref a] H1 (fun v H' => ∃ it, v = V.ref it ∧ H1 it = none ∧ s1.heap.objs.size ≤ it ∧ H' = upd H1 it (KitO d it es.size ep)) E0 := ⟨a, dx, fs, d, o, kvs, es, ep, rfl, ha, hf, hd, hod, fun it h2 h4 => ⟨it, rfl, h2, h4, rfl⟩⟩
  have hl := F.len _ _ _ _ hsp
  have r2 : Vals [V.ref a] [Value.ref a] := .cons rfl .nil
  refine wpAny_call (codeAny_mono (F.run X.A X.stack s1 H1 ⟨[.ref a], []⟩ [.ref a] [.ref a] _ E0 (hr.mono (by omega)) e0 (by
    have := b s1 [.ref a] I1.kIn (by simpa using hl)
    simpa using this) r2 hsp) fun r s' hq' => ?_)
  cases r with
  | error e => exact hq'.elim
  | ok fl =>
    cases fl with
    | next => exact False.elim hq'
    | brk => exact False.elim hq'
    | cont => exact False.elim hq'
    | ret u =>
      obtain ⟨v, H', I', rv, it, ev, hi0, big, eH⟩ := I1.after hq'
      subst ev
      cases rv
      have hi : H' it = some (KitO d it es.size ep) := by rw [eH]; exact upd_same
      have eo : s'.heap.get? it = some { cls := .type "dict_keyiterator", data := .fields #[.ref d, .int 0 0, .int es.size 0, .int ep 0] } := (I'.hok it _ hi).1
      show PySem.W.OwitIt _ _ _ _ _ _
      unfold PySem.W.OwitIt
      refine wpAny_specialOf (T := "dict_keyiterator") ⟨_, eo, rfl⟩ PySem.F.slot_dict_keyiterator_next.lookup ?_
      have hd2 : dropH H' it = H1 := by rw [eH]; exact dropH_upd hi0
      have hi' := hi
      unfold KitO at hi'
      have I2 := inv_drop I' hi'
      have f2 := inv_fp I' hi (Nat.le_trans I1.sz big)
      refine ⟨it, [it], _, _, H1, rfl, ?_, turn_keys it hod, ⟨_, eo, rfl, ?_⟩, fun b hb => ?_, q⟩
      · rw [hd2] at I2
        exact I2
      · rw [hsz]; rfl
      · have e : b = it := by simpa using hb
        rw [e, ← hd2]
        exact f2
end
section
variable {cm : Str → Addr} {X : Cx} {Wx : WX}
def iOwnKW (c f : Str) (a : ME) : MI := fun ρ h => (a ρ h).bind fun x h1 => match asI h1 x with
  | some (_, c', fs) => if c' = c then (match fs.lookup f with
    | some l => (match heldK h1 l with
      | some kvs => .ok ⟨kvs.map Prod.fst, fun _ => true⟩ h1
      | none => .stuck)
    | none => .stuck) else .stuck
  | none => .stuck
theorem qi_ownK {tg e : Expr} {m : ME} {c f : Str} {fi : Addr} {fd : FuncData} {ps : List Str} {k : Nat} (hc : ItB X.K (cm c) fi) (F : ∀ base : Heap, FnOk X.prog X.w X.K X.mg base CX0 k fi fd ps (spItK (cm c) f base.objs.size)) (b : Binds X.K fd ps []) (hr : Room (k + 1) X.A) (he : QE cm X Wx e m) : QI cm X Wx tg e (iOwnKW c f m) := by
  obtain ⟨t, p, s⟩ := he
  refine ⟨_, pi_ownK hc F b hr p, fun σ ρ h R H Rk hρ hh pp => ?_⟩
  refine s σ ρ h R H _ hρ hh (Post.mono (Post.bind pp) fun x h1 R1 H1 e1 x1 p1 => fun v r => ?_)
  cases z : asI h1 x with
  | none => simp only [z] at p1; exact p1.elim
  | some k =>
    obtain ⟨n, c', fs⟩ := k
    simp only [z] at p1
    obtain ⟨a, dx, us, rfl, rfl, hn, ha, rf, ci⟩ := asI_ok x1 r z
    by_cases cc : c' = c
    · subst cc
      rw [if_pos rfl] at p1
      cases zl : fs.lookup f with
      | none => simp only [zl] at p1; exact p1.elim
      | some l =>
        simp only [zl] at p1
        obtain ⟨u, hu, ru⟩ := rf.get zl
        cases q2 : heldK h1 l with
        | none => simp only [q2] at p1; exact p1.elim
        | some kvs =>
          simp only [q2] at p1
          obtain ⟨d, o, vs, rfl, hd, rd⟩ := heldK_ok x1 ru q2
          refine ⟨a, dx, us, d, o, vs, rfl, ha, hu, hd, ?_⟩
          refine p1 R1 H1 Ext.refl x1 _ fun i h2 R2 H2 e2 x2 _ => ⟨fun w hw => ?_, fun hi => ?_⟩
          · rw [List.getElem?_map] at hw
            cases hk : kvs[i]? with
            | none => rw [hk] at hw; cases hw
            | some kw =>
              obtain ⟨k, w'⟩ := kw
              rw [hk] at hw; cases hw
              obtain ⟨l, v, hv, rk, rv⟩ := rd_at rd hk
              refine ⟨⟨e2.2.2.1 _ _ _ hd, (List.getElem?_eq_some_iff.mp hv).1⟩, fun y H' yl => ?_⟩
              obtain ⟨rfl, k2, v2, hv2, rfl⟩ := yl
              rw [hv] at hv2; cases hv2
              exact ⟨Ext.refl, x2, rk_rv rk⟩
          · exact ⟨e2.2.2.1 _ _ _ hd, by rw [← rd_len rd]; simpa using hi⟩
    · rw [if_neg cc] at p1; exact p1.elim
structure OwnItK (P : Program) (w : World) (K : PySem.W.Frag) (mg : Str → Option Value) (c f : Str) : Prop where
  ex : ∃ (fi : Addr) (fd : FuncData) (ps : List Str), ItB K (He.ga K c) fi ∧ (∀ base : Heap, FnOk P w K mg base CX0 1 fi fd ps (spItK (He.ga K c) f base.objs.size)) ∧ Binds K fd ps []
theorem qi_ownK2 {X : Cx} {Wx : WX} {tg e : Expr} {m : ME} {c f : Str} (o : OwnItK X.prog X.w X.K X.mg c f) (hr : Room 2 X.A) (he : QE (He.ga X.K) X Wx e m) : QI (He.ga X.K) X Wx tg e (iOwnKW c f m) := by
  obtain ⟨fi, fd, ps, h1, h2, h3⟩ := o.ex
  exact qi_ownK h1 h2 h3 hr he
end
end Z

namespace Y
open PySem L2 Z
noncomputable section
def T_FORMS : Tk := ("FORMS", [("store", (.tup [(.str "client"), (.str "house"), (.tup [(.str "view"), (.str "ticket"), (.str "key"), (.str "tuple")])])), ("fetch", (.tup [(.str "client"), (.str "house"), (.tup [(.str "view"), (.str "ticket"), (.str "key")])])), ("stored", (.tup [(.str "house"), (.str "client"), (.tup [(.str "view"), (.str "ticket")])])), ("fetched", (.tup [(.str "house"), (.str "client"), (.tup [(.str "view"), (.str "ticket"), (.str "tuple")])])), ("refused", (.tup [(.str "house"), (.str "client"), (.tup [(.str "view"), (.str "ticket")])])), ("seal", (.tup [(.str "house"), (.str "house"), (.tup [(.str "view")])])), ("sealed", (.tup [(.str "house"), (.str "house"), (.tup [(.str "view"), (.str "tuple")])])), ("news", (.tup [(.str "house"), (.str "house"), (.tup [(.str "tuple")])])), ("told", (.tup [(.str "house"), (.str "house"), (.tup [(.str "tuple")])]))])
def F_Network___init___b : MS := sSeq (sFld "sent" (eV 0) (eC (.int 0)))
      (sFld "_bag" (eV 0) (eDnew false))
def F_Network___init__ : MF := fnB 1 1 F_Network___init___b
def F_law_stream_b : MS := sSeq (sAsg (eLst 0 (aNil)) (gN 2))
      (sSeq (sFor (iAny (eV 0)) (gN 3) (sSeq (sIf (tB (eBin (geW) (eCB lenW (aCons (eV 2) (aNil))) (eV 1))) (sBrk) (sNop))
      (sIf (tB (eBin (geW) (eV 3) (eBin (powW) (eC (.int 10)) (eC (.int 18))))) (sSeq (sAsg (eV 3) (gN 4))
      (sFor (iRng1W (aCons (eC (.int 60)) (aNil))) (gN 5) (sIf (tB (eBin (gtW) (eV 4) (eC (.int 0)))) (sSeq (sExpr (eBM "list" appW (eV 2) (aCons (eBin (modW) (eCB intcW (aCons (eV 4) (aNil))) (eC (.int 5040))) (aNil))))
      (sAsg (eBin (fdivW) (eV 4) (eC (.int 5040))) (gN 4))) (sNop)))) (sSeq (sAsg (eBin (modW) (eCB intcW (aCons (eBin (addW 0) (eBin (addW 0) (eBin (mulW) (eV 3) (eC (.int 48271))) (eBin (mulW) (eCB lenW (aCons (eV 2) (aNil))) (eC (.int 69621)))) (eC (.int 11))) (aNil))) (eC (.int 2147483647))) (gN 6))
      (sFor (iRng1W (aCons (eC (.int 4)) (aNil))) (gN 5) (sSeq (sAsg (eBin (modW) (eCB intcW (aCons (eBin (addW 0) (eBin (addW 0) (eBin (mulW) (eV 6) (eC (.int 69621))) (eBin (mulW) (eC (.int 7)) (eV 5))) (eC (.int 3))) (aNil))) (eC (.int 2147483629))) (gN 6))
      (sExpr (eBM "list" appW (eV 2) (aCons (eBin (modW) (eCB intcW (aCons (eBin (fdivW) (eV 6) (eC (.int 7))) (aNil))) (eC (.int 5040))) (aNil))))))))))
      (sRet (eV 2)))
def F_law_stream : MF := fnB 2 7 F_law_stream_b
def F_law_draw_b : MS := sSeq (sIf (tB (eBin (ltW) (eV 1) (eCB lenW (aCons (eV 0) (aNil))))) (sRet (eBin ixW (eV 0) (eV 1))) (sNop))
      (sRet (eC (.int 0)))
def F_law_draw : MF := fnB 2 2 F_law_draw_b
def F_law_message_b : MS := sSeq (sAsg (eBin (addW 0) (eC (.int 1)) (eBin (fdivW) (eV 0) (eC (.int 4)))) (gN 1))
      (sSeq (sAsg (eLst 0 (aCons (eTup (aCons (eTup (aCons (eC (.str "client")) (aCons (eBin (modW) (eV 0) (eC (.int 3))) (aNil)))) (aCons (eTup (aCons (eC (.str "house")) (aCons (eBin (modW) (eV 0) (eC (.int 5))) (aNil)))) (aCons (eTup (aCons (eC (.str "fetch")) (aCons (eBin (modW) (eV 0) (eC (.int 7))) (aCons (eV 1) (aCons (eC (.str "a")) (aNil)))))) (aNil))))) (aNil))) (gN 2))
      (sSeq (sExpr (eBM "list" appW (eV 2) (aCons (eTup (aCons (eTup (aCons (eC (.str "house")) (aCons (eBin (modW) (eV 0) (eC (.int 5))) (aNil)))) (aCons (eTup (aCons (eC (.str "client")) (aCons (eBin (modW) (eV 0) (eC (.int 3))) (aNil)))) (aCons (eTup (aCons (eC (.str "stored")) (aCons (eBin (modW) (eV 0) (eC (.int 7))) (aCons (eV 1) (aNil))))) (aNil))))) (aNil))))
      (sSeq (sExpr (eBM "list" appW (eV 2) (aCons (eTup (aCons (eTup (aCons (eC (.str "house")) (aCons (eBin (modW) (eV 0) (eC (.int 5))) (aNil)))) (aCons (eTup (aCons (eC (.str "house")) (aCons (eBin (modW) (eV 0) (eC (.int 3))) (aNil)))) (aCons (eTup (aCons (eC (.str "seal")) (aCons (eV 0) (aNil)))) (aNil))))) (aNil))))
      (sSeq (sExpr (eBM "list" appW (eV 2) (aCons (eTup (aCons (eTup (aCons (eC (.str "house")) (aCons (eBin (modW) (eV 0) (eC (.int 5))) (aNil)))) (aCons (eTup (aCons (eC (.str "house")) (aCons (eBin (modW) (eV 0) (eC (.int 3))) (aNil)))) (aCons (eTup (aCons (eC (.str "told")) (aCons (eTup (aCons (eTup (aCons (eC (.str "a")) (aCons (eTup (aCons (eTup (aNil)) (aCons (eTup (aNil)) (aNil)))) (aNil)))) (aNil))) (aNil)))) (aNil))))) (aNil))))
      (sRet (eBin ixW (eV 2) (eBin (modW) (eBin (fdivW) (eV 0) (eC (.int 3))) (eC (.int 4)))))))))
def F_law_message : MF := fnB 1 3 F_law_message_b
def F_law_bad_b : MS := sSeq (sAsg (eLst 0 (aCons (eC .non) (aCons (eTup (aNil)) (aCons (eTup (aCons (eC (.str "seal")) (aCons (eC (.int 0)) (aNil)))) (aCons (eTup (aCons (eTup (aCons (eC (.str "house")) (aCons (eC (.int 0)) (aNil)))) (aCons (eTup (aCons (eC (.str "client")) (aCons (eC (.int 0)) (aNil)))) (aCons (eTup (aCons (eC (.str "seal")) (aCons (eC (.int 0)) (aNil)))) (aNil))))) (aCons (eC (.int 7)) (aCons (eC (.str "told")) (aNil)))))))) (gN 1))
      (sRet (eBin ixW (eV 1) (eBin (modW) (eV 0) (eC (.int 6)))))
def F_law_bad : MF := fnB 1 2 F_law_bad_b
def F_is_integer_b : MS := sRet (eAnd (isiW "int" (eV 0)) (eAnd (eNot (isiW "bool" (eV 0))) (eChain (leW) (leW) (eNeg (eC (.int (1000000000000)))) (eV 0) (eC (.int (1000000000000))))))
def F_is_integer : MF := fnB 1 1 F_is_integer_b
def F_is_number_b : MS := sRet (eAnd (eCB F_is_integer (aCons (eV 0) (aNil))) (eBin (geW) (eV 0) (eC (.int 0))))
def F_is_number : MF := fnB 1 1 F_is_number_b
def F_is_end_b : MS := sSeq (sIf (tOrM (tNotM (tTru (isiW "tuple" (eV 0)))) (tOrM (tB (eBin (eqW true) (eCB lenW (aCons (eV 0) (aNil))) (eC (.int 2)))) (tNotM (tTru (eCB F_is_number (aCons (eBin ixW (eV 0) (eC (.int 1))) (aNil))))))) (sRet (eC (.bl false))) (sNop))
      (sRet (eAnd (isiW "str" (eBin ixW (eV 0) (eC (.int 0)))) (eBin (inW false) (eBin ixW (eV 0) (eC (.int 0))) (eTup (aCons (eC (.str "client")) (aCons (eC (.str "house")) (aNil)))))))
def F_is_end : MF := fnB 1 1 F_is_end_b
def F_has_only_b : MS := sSeq (sFor (iAny (eV 0)) (gN 2) (sIf (tB (eBin (inW true) (eV 2) (eV 1))) (sRet (eC (.bl false))) (sNop)))
      (sRet (eC (.bl true)))
def F_has_only : MF := fnB 2 3 F_has_only_b
def F_is_text_b : MS := sRet (eAnd (isiW "str" (eV 0)) (eAnd (eBin (leW) (eCB lenW (aCons (eV 0) (aNil))) (eC (.int 60))) (eCB F_has_only (aCons (eV 0) (aCons (eC (.str " !\"#$&'()*+,-./0123456789:;<=>?@ABCDEFGHIJKLMNOPQRSTUVWXYZ[\\]^_`abcdefghijklmnopqrstuvwxyz{|}~")) (aNil))))))
def F_is_text : MF := fnB 1 1 F_is_text_b
def F_is_key_b : MS := sRet (eAnd (eCB F_is_text (aCons (eV 0) (aNil))) (eChain (leW) (leW) (eC (.int 1)) (eCB lenW (aCons (eV 0) (aNil))) (eC (.int 20))))
def F_is_key : MF := fnB 1 1 F_is_key_b
def F_is_part_b : MS := sSeq (sIf (tB (eBin (eqW false) (eV 0) (eC (.str "view")))) (sRet (eCB F_is_number (aCons (eV 1) (aNil)))) (sNop))
      (sSeq (sIf (tB (eBin (eqW false) (eV 0) (eC (.str "ticket")))) (sRet (eAnd (eCB F_is_number (aCons (eV 1) (aNil))) (eBin (gtW) (eV 1) (eC (.int 0))))) (sNop))
      (sSeq (sIf (tB (eBin (eqW false) (eV 0) (eC (.str "key")))) (sRet (eCB F_is_key (aCons (eV 1) (aNil)))) (sNop))
      (sRet (isiW "tuple" (eV 1)))))
def F_is_part : MF := fnB 2 2 F_is_part_b
def F_is_body_b : MS := sSeq (sIf (tOrM (tNotM (tTru (isiW "tuple" (eV 2)))) (tOrM (tB (eBin (eqW false) (eCB lenW (aCons (eV 2) (aNil))) (eC (.int 0)))) (tOrM (tNotM (tTru (isiW "str" (eBin ixW (eV 2) (eC (.int 0)))))) (tB (eInKd true T_FORMS.rows (eBin ixW (eV 2) (eC (.int 0)))))))) (sRet (eC (.bl false))) (sNop))
      (sSeq (sAsg (eIxKd T_FORMS.rows (eBin ixW (eV 2) (eC (.int 0)))) (gN 3))
      (sSeq (sIf (tOrM (tB (eBin (eqW true) (eTup (aCons (eV 0) (aCons (eV 1) (aNil)))) (eSl 0 (eV 3) oNone (oSome (eC (.int 2)))))) (tB (eBin (eqW true) (eCB lenW (aCons (eV 2) (aNil))) (eBin (addW 0) (eCB lenW (aCons (eBin ixW (eV 3) (eC (.int 2))) (aNil))) (eC (.int 1)))))) (sRet (eC (.bl false))) (sNop))
      (sSeq (sFor (iZipW (aCons (eBin ixW (eV 3) (eC (.int 2))) (aCons (eSl 0 (eV 2) (oSome (eC (.int 1))) oNone) (aNil)))) (gT 2 (gsCons (gN 4) (gsCons (gN 5) (gsNil)))) (sIf (tNotM (tTru (eCB F_is_part (aCons (eV 4) (aCons (eV 5) (aNil)))))) (sRet (eC (.bl false))) (sNop)))
      (sRet (eC (.bl true))))))
def F_is_body : MF := fnB 3 6 F_is_body_b
def F_is_message_b : MS := sSeq (sIf (tOrM (tNotM (tTru (isiW "tuple" (eV 0)))) (tOrM (tB (eBin (eqW true) (eCB lenW (aCons (eV 0) (aNil))) (eC (.int 3)))) (tOrM (tNotM (tTru (eCB F_is_end (aCons (eBin ixW (eV 0) (eC (.int 0))) (aNil))))) (tNotM (tTru (eCB F_is_end (aCons (eBin ixW (eV 0) (eC (.int 1))) (aNil)))))))) (sRet (eC (.bl false))) (sNop))
      (sRet (eCB F_is_body (aCons (eBin ixW (eBin ixW (eV 0) (eC (.int 0))) (eC (.int 0))) (aCons (eBin ixW (eBin ixW (eV 0) (eC (.int 1))) (eC (.int 0))) (aCons (eBin ixW (eV 0) (eC (.int 2))) (aNil))))))
def F_is_message : MF := fnB 1 1 F_is_message_b
def F_Network_send_b : MS := sSeq (sIf (tNotM (tTru (eCB F_is_message (aCons (eV 1) (aNil))))) (sRaise "BadValue") (sNop))
      (sSeq (sFld "sent" (eV 0) (eBin (addW 0) (eFld "sent" (eV 0)) (eC (.int 1))))
      (sSeq (sPutD (eFld "_bag" (eV 0)) (eFld "sent" (eV 0)) (eV 1))
      (sRet (eFld "sent" (eV 0)))))
def F_Network_send : MF := fnB 2 2 F_Network_send_b
def F_law_sent_b : MS := sTryAs 2 (sRet (eTup (aCons (eC (.str "sent")) (aCons (eMet "send" (("Network", F_Network_send) :: []) (eV 0) (aCons (eV 1) (aNil))) (aNil))))) [("BadValue", true), ("Busy", false), ("RingError", false), ("Unknown", false)] (fun ea ec => sRet (eTup (aCons (eC (.str "refused")) (aCons (eAnd (isE ea ec [("BadValue", true), ("Busy", true), ("RingError", true), ("Unknown", true)] (eV 2)) (eAnd (isE ea ec [("BadValue", true), ("Busy", true), ("RingError", true), ("Unknown", true)] (eV 2)) (eNot (isE2 ea ec [("BadValue", false), ("Busy", false), ("RingError", false), ("Unknown", true)] [("BadValue", false), ("Busy", true), ("RingError", false), ("Unknown", false)] (eV 2))))) (aNil)))))
def F_law_sent : MF := fnB 2 3 F_law_sent_b
def F_Network_message_b : MS := sSeq (sIf (tB (eBin (inDW true) (eV 1) (eFld "_bag" (eV 0)))) (sRaise "Unknown") (sNop))
      (sRet (eIxD (eFld "_bag" (eV 0)) (eV 1)))
def F_Network_message : MF := fnB 2 2 F_Network_message_b
def F_Network_drop_b : MS := sSeq (sIf (tB (eBin (inDW true) (eV 1) (eFld "_bag" (eV 0)))) (sRaise "Unknown") (sNop))
      (sDel (eFld "_bag" (eV 0)) (eV 1))
def F_Network_drop : MF := fnB 2 2 F_Network_drop_b
def F_law_looked_b : MS := sTryAs 3 (sSeq (sIf (tTru (eV 2)) (sRet (eTup (aCons (eC (.str "told")) (aCons (eMet "drop" (("Network", F_Network_drop) :: []) (eV 0) (aCons (eV 1) (aNil))) (aNil))))) (sNop))
      (sRet (eTup (aCons (eC (.str "told")) (aCons (eMet "message" (("Network", F_Network_message) :: []) (eV 0) (aCons (eV 1) (aNil))) (aNil)))))) [("BadValue", false), ("Busy", false), ("RingError", false), ("Unknown", true)] (fun ea ec => sRet (eTup (aCons (eC (.str "refused")) (aCons (eAnd (isE ea ec [("BadValue", true), ("Busy", true), ("RingError", true), ("Unknown", true)] (eV 3)) (eAnd (isE ea ec [("BadValue", true), ("Busy", true), ("RingError", true), ("Unknown", true)] (eV 3)) (eNot (isE ea ec [("BadValue", true), ("Busy", false), ("RingError", false), ("Unknown", false)] (eV 3))))) (aNil)))))
def F_law_looked : MF := fnB 3 4 F_law_looked_b
def F_Network___len___b : MS := sRet (eCB lenW (aCons (eFld "_bag" (eV 0)) (aNil)))
def F_Network___len__ : MF := fnB 1 1 F_Network___len___b
def F_Network_numbers_b : MS := sRet (eCB lstdW (aCons (eFld "_bag" (eV 0)) (aNil)))
def F_Network_numbers : MF := fnB 1 1 F_Network_numbers_b
def F_law_holds_b : MS := sSeq (sAsg (eMet "numbers" (("Network", F_Network_numbers) :: []) (eV 0) aNil) (gN 3))
      (sSeq (sIf (tOrM (tNotM (tTru (isiW "list" (eV 3)))) (tOrM (tB (eBin (eqW true) (eV 3) (eCB sortW (aCons (eCB lstdW (aCons (eV 1) (aNil))) (aNil))))) (tB (eBin (eqW true) (eLock (eFld "_bag" (eV 0)) (eLc 0 [4] (iOwnKW "Network" "_bag" (eV 0)) (gN 4) (tYesM) (eV 4))) (eCB sortW (aCons (eCB lstdW (aCons (eV 1) (aNil))) (aNil))))))) (sRet (eC (.bl false))) (sNop))
      (sSeq (sIf (tOrM (tB (eBin (eqW true) (eCB (ownLen (("Network", F_Network___len__) :: [])) (aCons (eV 0) (aNil))) (eCB lenW (aCons (eV 1) (aNil))))) (tOrM (tB (eBin (eqW true) (eFld "sent" (eV 0)) (eV 2))) (tTru (isiW "bool" (eFld "sent" (eV 0)))))) (sRet (eC (.bl false))) (sNop))
      (sSeq (sExpr (eBM "list" appW (eV 3) (aCons (eC (.int 0)) (aNil))))
      (sRet (eBin (eqW false) (eMet "numbers" (("Network", F_Network_numbers) :: []) (eV 0) aNil) (eCB sortW (aCons (eCB lstdW (aCons (eV 1) (aNil))) (aNil))))))))
def F_law_holds : MF := fnB 3 5 F_law_holds_b
def F_law_b : MS := sSeq (sAsg (eCB F_law_stream (aCons (eV 0) (aCons (eC (.int 100)) (aNil)))) (gN 1))
      (sSeq (sAsg (eLst 0 (aCons (eCB0 (makeW "Network" F_Network___init__)) (aCons (eCB0 (makeW "Network" F_Network___init__)) (aNil)))) (gN 2))
      (sSeq (sAsg (eLst 0 (aCons (eDnew false) (aCons (eDnew false) (aNil)))) (gN 3))
      (sSeq (sAsg (eLst 0 (aCons (eC (.int 0)) (aCons (eC (.int 0)) (aNil)))) (gN 4))
      (sSeq (sIf (tNotM (tTru (eCB F_law_holds (aCons (eBin ixW (eV 2) (eC (.int 0))) (aCons (eDnew false) (aCons (eC (.int 0)) (aNil))))))) (sRet (eC (.bl false))) (sNop))
      (sSeq (sFor (iRng1W (aCons (eCB min2W (aCons (eC (.int 50)) (aCons (eBin (fdivW) (eCB lenW (aCons (eV 1) (aNil))) (eC (.int 2))) (aNil)))) (aNil))) (gN 5) (sSeq (sAsg (eCB F_law_draw (aCons (eV 1) (aCons (eBin (mulW) (eC (.int 2)) (eV 5)) (aNil)))) (gN 6))
      (sSeq (sAsg (eCB F_law_draw (aCons (eV 1) (aCons (eBin (addW 0) (eBin (mulW) (eC (.int 2)) (eV 5)) (eC (.int 1))) (aNil)))) (gN 7))
      (sSeq (sAsg (eBin (modW) (eV 6) (eC (.int 2))) (gN 8))
      (sSeq (sAsg (eBin ixW (eV 3) (eV 8)) (gN 9))
      (sSeq (sIf (tB (eBin (ltW) (eBin (modW) (eBin (fdivW) (eV 6) (eC (.int 2))) (eC (.int 5))) (eC (.int 2)))) (sSeq (sAsg (eCB F_law_message (aCons (eV 7) (aNil))) (gN 10))
      (sSeq (sPut (eV 4) (eV 8) (eBin (addW 0) (eBin ixW (eV 4) (eV 8)) (eC (.int 1))))
      (sSeq (sIf (tB (eBin (eqW true) (eCB F_law_sent (aCons (eBin ixW (eV 2) (eV 8)) (aCons (eV 10) (aNil)))) (eTup (aCons (eC (.str "sent")) (aCons (eBin ixW (eV 4) (eV 8)) (aNil)))))) (sRet (eC (.bl false))) (sNop))
      (sPutD (eV 9) (eBin ixW (eV 4) (eV 8)) (eV 10))))) (sIf (tB (eBin (eqW false) (eBin (modW) (eBin (fdivW) (eV 6) (eC (.int 2))) (eC (.int 5))) (eC (.int 2)))) (sIf (tB (eBin (eqW true) (eCB F_law_sent (aCons (eBin ixW (eV 2) (eV 8)) (aCons (eCB F_law_bad (aCons (eV 7) (aNil))) (aNil)))) (eTup (aCons (eC (.str "refused")) (aCons (eC (.bl true)) (aNil)))))) (sRet (eC (.bl false))) (sNop)) (sSeq (sAsg (eBin (subW) (eBin (modW) (eV 7) (eBin (addW 0) (eBin ixW (eV 4) (eV 8)) (eC (.int 3)))) (eC (.int 1))) (gN 11))
      (sSeq (sAsg (eBin (eqW false) (eBin (modW) (eBin (fdivW) (eV 6) (eC (.int 2))) (eC (.int 5))) (eC (.int 4))) (gN 12))
      (sSeq (sAsg (eTup (aCons (eC (.str "refused")) (aCons (eC (.bl true)) (aNil)))) (gN 13))
      (sSeq (sIf (tB (eBin (inDW false) (eV 11) (eV 9))) (sSeq (sAsg (eTup (aCons (eC (.str "told")) (aCons (eBin ixW (eTup (aCons (eIxD (eV 9) (eV 11)) (aCons (eC .non) (aNil)))) (eCB intcW (aCons (eV 12) (aNil)))) (aNil)))) (gN 13))
      (sIf (tTru (eV 12)) (sExpr (eDpop1 (eV 9) (eV 11))) (sNop))) (sNop))
      (sIf (tB (eBin (eqW true) (eCB F_law_looked (aCons (eBin ixW (eV 2) (eV 8)) (aCons (eV 11) (aCons (eV 12) (aNil))))) (eV 13))) (sRet (eC (.bl false))) (sNop))))))))
      (sIf (tOrM (tNotM (tTru (eCB F_law_holds (aCons (eBin ixW (eV 2) (eC (.int 0))) (aCons (eIxD (eV 3) (eC (.int 0))) (aCons (eBin ixW (eV 4) (eC (.int 0))) (aNil))))))) (tNotM (tTru (eCB F_law_holds (aCons (eBin ixW (eV 2) (eC (.int 1))) (aCons (eIxD (eV 3) (eC (.int 1))) (aCons (eBin ixW (eV 4) (eC (.int 1))) (aNil)))))))) (sRet (eC (.bl false))) (sNop))))))))
      (sSeq (sLock (eIxD (eV 3) (eC (.int 0))) (sFor (iKeysW (eIxD (eV 3) (eC (.int 0)))) (gN 11) (sIf (tB (eBin (eqW true) (eCB F_law_looked (aCons (eBin ixW (eV 2) (eC (.int 0))) (aCons (eV 11) (aCons (eC (.bl false)) (aNil))))) (eTup (aCons (eC (.str "told")) (aCons (eIxD (eIxD (eV 3) (eC (.int 0))) (eV 11)) (aNil)))))) (sRet (eC (.bl false))) (sNop))))
      (sRet (eC (.bl true)))))))))
def F_law : MF := fnB 1 14 F_law_b
end
end Y

namespace Y
open PySem PySem.Spec PyProof.Rows L2 Z
def top (i : Nat) : Stmt := PySem.Challenge.pw_ringheld_k51_network_keeps_messages.main.body.getD i (.Pass ⟨0, 0, 0, 0⟩)
abbrev st_Network___init__ : Stmt := inClass (top 20) 0
def d_Network___init__ : Fx := ⟨fun K => mA K "Network" "__init__", "__init__", "Network.__init__", defArgs st_Network___init__, defBody st_Network___init__, defScope st_Network___init__⟩
abbrev st__law_stream : Stmt := top 22
def d__law_stream : Fx := ⟨fun K => He.ga K "_law_stream", "_law_stream", "_law_stream", defArgs st__law_stream, defBody st__law_stream, defScope st__law_stream⟩
abbrev st__law_draw : Stmt := top 23
def d__law_draw : Fx := ⟨fun K => He.ga K "_law_draw", "_law_draw", "_law_draw", defArgs st__law_draw, defBody st__law_draw, defScope st__law_draw⟩
abbrev st__law_message : Stmt := top 24
def d__law_message : Fx := ⟨fun K => He.ga K "_law_message", "_law_message", "_law_message", defArgs st__law_message, defBody st__law_message, defScope st__law_message⟩
abbrev st__law_bad : Stmt := top 25
def d__law_bad : Fx := ⟨fun K => He.ga K "_law_bad", "_law_bad", "_law_bad", defArgs st__law_bad, defBody st__law_bad, defScope st__law_bad⟩
abbrev st_is_integer : Stmt := top 8
def d_is_integer : Fx := ⟨fun K => He.ga K "is_integer", "is_integer", "is_integer", defArgs st_is_integer, defBody st_is_integer, defScope st_is_integer⟩
abbrev st_is_number : Stmt := top 9
def d_is_number : Fx := ⟨fun K => He.ga K "is_number", "is_number", "is_number", defArgs st_is_number, defBody st_is_number, defScope st_is_number⟩
abbrev st_is_end : Stmt := top 15
def d_is_end : Fx := ⟨fun K => He.ga K "is_end", "is_end", "is_end", defArgs st_is_end, defBody st_is_end, defScope st_is_end⟩
abbrev st_has_only : Stmt := top 10
def d_has_only : Fx := ⟨fun K => He.ga K "has_only", "has_only", "has_only", defArgs st_has_only, defBody st_has_only, defScope st_has_only⟩
abbrev st_is_text : Stmt := top 11
def d_is_text : Fx := ⟨fun K => He.ga K "is_text", "is_text", "is_text", defArgs st_is_text, defBody st_is_text, defScope st_is_text⟩
abbrev st_is_key : Stmt := top 12
def d_is_key : Fx := ⟨fun K => He.ga K "is_key", "is_key", "is_key", defArgs st_is_key, defBody st_is_key, defScope st_is_key⟩
abbrev st_is_part : Stmt := top 16
def d_is_part : Fx := ⟨fun K => He.ga K "is_part", "is_part", "is_part", defArgs st_is_part, defBody st_is_part, defScope st_is_part⟩
abbrev st_is_body : Stmt := top 17
def d_is_body : Fx := ⟨fun K => He.ga K "is_body", "is_body", "is_body", defArgs st_is_body, defBody st_is_body, defScope st_is_body⟩
abbrev st_is_message : Stmt := top 18
def d_is_message : Fx := ⟨fun K => He.ga K "is_message", "is_message", "is_message", defArgs st_is_message, defBody st_is_message, defScope st_is_message⟩
abbrev st_Network_send : Stmt := inClass (top 20) 3
def d_Network_send : Fx := ⟨fun K => mA K "Network" "send", "send", "Network.send", defArgs st_Network_send, defBody st_Network_send, defScope st_Network_send⟩
abbrev st__law_sent : Stmt := top 26
def d__law_sent : Fx := ⟨fun K => He.ga K "_law_sent", "_law_sent", "_law_sent", defArgs st__law_sent, defBody st__law_sent, defScope st__law_sent⟩
abbrev st_Network_message : Stmt := inClass (top 20) 4
def d_Network_message : Fx := ⟨fun K => mA K "Network" "message", "message", "Network.message", defArgs st_Network_message, defBody st_Network_message, defScope st_Network_message⟩
abbrev st_Network_drop : Stmt := inClass (top 20) 5
def d_Network_drop : Fx := ⟨fun K => mA K "Network" "drop", "drop", "Network.drop", defArgs st_Network_drop, defBody st_Network_drop, defScope st_Network_drop⟩
abbrev st__law_looked : Stmt := top 27
def d__law_looked : Fx := ⟨fun K => He.ga K "_law_looked", "_law_looked", "_law_looked", defArgs st__law_looked, defBody st__law_looked, defScope st__law_looked⟩
abbrev st_Network___len__ : Stmt := inClass (top 20) 1
def d_Network___len__ : Fx := ⟨fun K => mA K "Network" "__len__", "__len__", "Network.__len__", defArgs st_Network___len__, defBody st_Network___len__, defScope st_Network___len__⟩
abbrev st_Network_numbers : Stmt := inClass (top 20) 6
def d_Network_numbers : Fx := ⟨fun K => mA K "Network" "numbers", "numbers", "Network.numbers", defArgs st_Network_numbers, defBody st_Network_numbers, defScope st_Network_numbers⟩
abbrev st__law_holds : Stmt := top 28
def d__law_holds : Fx := ⟨fun K => He.ga K "_law_holds", "_law_holds", "_law_holds", defArgs st__law_holds, defBody st__law_holds, defScope st__law_holds⟩
abbrev st_law : Stmt := top 29
def d_law : Fx := ⟨fun K => He.ga K "law", "law", "law", defArgs st_law, defBody st_law, defScope st_law⟩
abbrev st_Network___iter__ : Stmt := inClass (top 20) 2
def d_Network___iter__ : Fx := ⟨fun K => mA K "Network" "__iter__", "__iter__", "Network.__iter__", defArgs st_Network___iter__, defBody st_Network___iter__, defScope st_Network___iter__⟩
def fnl : List Fx := [d_Network___init__, d__law_stream, d__law_draw, d__law_message, d__law_bad, d_is_integer, d_is_number, d_is_end, d_has_only, d_is_text, d_is_key, d_is_part, d_is_body, d_is_message, d_Network_send, d__law_sent, d_Network_message, d_Network_drop, d__law_looked, d_Network___len__, d_Network_numbers, d__law_holds, d_law, d_Network___iter__]
def tsl : List Tk := [T_FORMS]
def fal : List Ex := [.fa (.glo "_law_stream"), .fa (.glo "Network"), .ci "Network", .mk "Network", .fa (.glo "_law_holds"), .fa (.free "len"), .fa (.free "min"), .fa (.free "range"), .fa (.glo "_law_draw"), .fa (.glo "_law_message"), .fa (.glo "_law_sent"), .fa (.glo "_law_bad"), .fa (.free "int"), .fa (.glo "_law_looked"), .meth "Network" "numbers", .fa (.free "isinstance"), .fa (.free "list"), .fa (.free "sorted"), .meth "Network" "__iter__", .fa (.free "iter"), .meth "Network" "__len__", .fa (.free "bool"), .fa (.glo "BadValue"), .meth "Network" "send", .fa (.glo "Unknown"), .exm "Unknown" "BadValue" false, .fa (.glo "RingError"), .exm "RingError" "BadValue" false, .fa (.glo "Busy"), .exm "Busy" "BadValue" false, .exm "BadValue" "BadValue" true, .kit "Unknown" "RingError" true, .exk "Unknown", .kit "RingError" "RingError" true, .exk "RingError", .kit "Busy" "RingError" true, .exk "Busy", .kit "BadValue" "RingError" true, .exk "BadValue", .kitT "Unknown" "ValueError" true, .kitT "RingError" "ValueError" true, .kitT "Busy" "ValueError" true, .kitT "BadValue" "ValueError" true, .fa (.free "ValueError"), .kit "Unknown" "Unknown" true, .kit "RingError" "Unknown" false, .kit "Busy" "Unknown" false, .kit "BadValue" "Unknown" false, .kit "Unknown" "Busy" false, .kit "RingError" "Busy" false, .kit "Busy" "Busy" true, .kit "BadValue" "Busy" false, .meth "Network" "drop", .meth "Network" "message", .exm "Unknown" "Unknown" true, .exm "RingError" "Unknown" false, .exm "Busy" "Unknown" false, .exm "BadValue" "Unknown" false, .kit "Unknown" "BadValue" false, .kit "RingError" "BadValue" false, .kit "Busy" "BadValue" false, .kit "BadValue" "BadValue" true, .fa (.glo "is_message"), .exc "BadValue", .exc "Unknown", .fa (.free "tuple"), .fa (.glo "is_end"), .fa (.glo "is_body"), .fa (.glo "is_number"), .fa (.free "str"), .fa (.free "zip"), .fa (.glo "is_part"), .fa (.glo "is_integer"), .fa (.glo "is_key"), .fa (.int "GREATEST" (1000000000000)), .fa (.glo "is_text"), .fa (.glo "has_only"), .fa (.str "CHARACTERS" " !\"#$&'()*+,-./0123456789:;<=>?@ABCDEFGHIJKLMNOPQRSTUVWXYZ[\\]^_`abcdefghijklmnopqrstuvwxyz{|}~"), .fa (.glo "law")]
section
variable {P : Program} {w : World} {K : PySem.W.Frag} {mg : Str → Option Value} {base : Heap}
abbrev Bl := Bk fal fnl tsl
theorem bt_ValueError : bootBuiltins "ValueError" = some (.type "ValueError") := by decide +kernel
theorem bt_bool : bootBuiltins "bool" = some (.type "bool") := by decide +kernel
theorem bt_int : bootBuiltins "int" = some (.type "int") := by decide +kernel
theorem bt_isinstance : bootBuiltins "isinstance" = some (.builtin "isinstance") := by decide +kernel
theorem bt_iter : bootBuiltins "iter" = some (.builtin "iter") := by decide +kernel
theorem bt_len : bootBuiltins "len" = some (.builtin "len") := by decide +kernel
theorem bt_list : bootBuiltins "list" = some (.type "list") := by decide +kernel
theorem bt_min : bootBuiltins "min" = some (.builtin "min") := by decide +kernel
theorem bt_sorted : bootBuiltins "sorted" = some (.builtin "sorted") := by decide +kernel
theorem bt_str : bootBuiltins "str" = some (.type "str") := by decide +kernel
theorem bt_tuple : bootBuiltins "tuple" = some (.type "tuple") := by decide +kernel
theorem sc_Network___iter__ : FnScope ["self"] ["self"] (defScope st_Network___iter__) := ⟨rfl, rfl, rfl, by decide +kernel, rfl, by decide +kernel, by decide +kernel⟩
theorem k_Network___iter__ (B : Bl P w K mg base) : OwnItK P w K mg "Network" "_bag" := by
  obtain ⟨fd, F⟩ := B.says.def_ 23 (d := d_Network___iter__) rfl
  refine ⟨_, fd, ["self"], itB_of (B.says.fact 18), fun b => ?_, F.bindsN fun _ _ _ _ _ _ us hl => match us, hl with | [_], _ => rfl⟩
  exact ok_itK F sc_Network___iter__ (by decide +kernel) (fun _ _ _ _ _ _ => by rfl) (B.free 19) bt_iter (ci_ok (B.says.fact 2)) (by decide +kernel)
theorem sc_Network___init__ : FnScope ["self"] ["self"] (defScope st_Network___init__) := ⟨rfl, rfl, rfl, by decide +kernel, rfl, by decide +kernel, by decide +kernel⟩
theorem k_Network___init__ (B : Bl P w K mg base) : FOk P w K mg base 1 (mA K "Network" "__init__") F_Network___init__ := by
  obtain ⟨fd, F⟩ := B.says.def_ 0 (d := d_Network___init__) rfl
  refine ⟨fd, ["self"], ?_, F.kp, F.bindsN fun _ _ _ _ _ _ us hl => match us, hl with | [_], _ => rfl⟩
  refine qf_okD F sc_Network___init__ fun cdv A outer s H E hr => ?_
  have tk := takes_of (X := cxOf (L2.CX P w) P w K mg base ["self"] "Network.__init__" (defScope st_Network___init__) (d_Network___init__.ad K) cdv A outer s H E) rfl rfl rfl rfl
  have nd := sc_Network___init__.nd
  have hu := hr.units
  have hu5 := room65 hr
  have hu1 := room1 hr
  have hpo := passes_of (X := cxOf (L2.CX P w) P w K mg base ["self"] "Network.__init__" (defScope st_Network___init__) (d_Network___init__.ad K) cdv A outer s H E) rfl
  show QB _ _ _ _ F_Network___init___b
  exact qb_cons (qs_fld (qv 0) (q_int))
      (qb_one (qs_fld (qv 0) (q_dnewK)))
theorem sc__law_stream : FnScope ["_law_script", "_law_many", "_law_draws", "_law_cell", "_law_rest", "_law_k", "_law_mixed"] ["_law_script", "_law_many"] (defScope st__law_stream) := ⟨rfl, rfl, rfl, by decide +kernel, rfl, by decide +kernel, by decide +kernel⟩
theorem k__law_stream (B : Bl P w K mg base) : FOk P w K mg base 1 (He.ga K "_law_stream") F_law_stream := by
  obtain ⟨fd, F⟩ := B.says.def_ 1 (d := d__law_stream) rfl
  refine ⟨fd, ["_law_script", "_law_many"], ?_, F.kp, F.bindsN fun _ _ _ _ _ _ us hl => match us, hl with | [_, _], _ => rfl⟩
  refine qf_okD F sc__law_stream fun cdv A outer s H E hr => ?_
  have tk := takes_of (X := cxOf (L2.CX P w) P w K mg base ["_law_script", "_law_many", "_law_draws", "_law_cell", "_law_rest", "_law_k", "_law_mixed"] "_law_stream" (defScope st__law_stream) (d__law_stream.ad K) cdv A outer s H E) rfl rfl rfl rfl
  have nd := sc__law_stream.nd
  have hu := hr.units
  have hu5 := room65 hr
  have hu1 := room1 hr
  have hpo := passes_of (X := cxOf (L2.CX P w) P w K mg base ["_law_script", "_law_many", "_law_draws", "_law_cell", "_law_rest", "_law_k", "_law_mixed"] "_law_stream" (defScope st__law_stream) (d__law_stream.ad K) cdv A outer s H E) rfl
  show QB _ _ _ _ F_law_stream_b
  exact qb_cons (qs_set 2 nd (q_lst (qa_nil)))
      (qb_cons (qs_for hpo rfl (qi_any (qv 0)) (qg_name 3 nd) (qb_cons (qs_if (qt_cmp (op_geW) q_ordW (q_cb call_lenW q_lenW (by rfl) (B.free 5) bt_len (qa_cons (qv 2) (qa_nil))) (qv 1) (nomark _)) (qb_one (qs_break)) (qb_nil))
      (qb_one (qs_if (qt_cmp (op_geW) q_ordW (qv 3) (q_pow (q_int) (q_int)) (nomark _)) (qb_cons (qs_set 4 nd (qv 3))
      (qb_one (qs_for hpo rfl (qi_rng1 (by rfl) (B.free 7) (qa_cons (q_int) (qa_nil))) (qg_name 5 nd) (qb_one (qs_if (qt_cmp (op_gtW) q_ordW (qv 4) (q_int) (nomark _)) (qb_cons (qs_expr (q_bm PySem.F.plainAttrs_list PySem.F.slot_list_append PySem.F.type_list_append mt_append q_appW (qv 2) (qa_cons (q_mod (q_cty call_int1 q_intcW (by rfl) (B.free 12) bt_int (qa_cons (qv 4) (qa_nil))) (q_int)) (qa_nil))))
      (qb_one (qs_set 4 nd (q_fdiv (qv 4) (q_int))))) (qb_nil)))))) (qb_cons (qs_set 6 nd (q_mod (q_cty call_int1 q_intcW (by rfl) (B.free 12) bt_int (qa_cons (q_add (q_add (q_mul (qv 3) (q_int)) (q_mul (q_cb call_lenW q_lenW (by rfl) (B.free 5) bt_len (qa_cons (qv 2) (qa_nil))) (q_int))) (q_int)) (qa_nil))) (q_int)))
      (qb_one (qs_for hpo rfl (qi_rng1 (by rfl) (B.free 7) (qa_cons (q_int) (qa_nil))) (qg_name 5 nd) (qb_cons (qs_set 6 nd (q_mod (q_cty call_int1 q_intcW (by rfl) (B.free 12) bt_int (qa_cons (q_add (q_add (q_mul (qv 6) (q_int)) (q_mul (q_int) (qv 5))) (q_int)) (qa_nil))) (q_int)))
      (qb_one (qs_expr (q_bm PySem.F.plainAttrs_list PySem.F.slot_list_append PySem.F.type_list_append mt_append q_appW (qv 2) (qa_cons (q_mod (q_cty call_int1 q_intcW (by rfl) (B.free 12) bt_int (qa_cons (q_fdiv (qv 6) (q_int)) (qa_nil))) (q_int)) (qa_nil)))))))))))))
      (qb_one (qs_ret (qv 2))))
theorem sc__law_draw : FnScope ["_law_draws", "_law_k"] ["_law_draws", "_law_k"] (defScope st__law_draw) := ⟨rfl, rfl, rfl, by decide +kernel, rfl, by decide +kernel, by decide +kernel⟩
theorem k__law_draw (B : Bl P w K mg base) : FOk P w K mg base 1 (He.ga K "_law_draw") F_law_draw := by
  obtain ⟨fd, F⟩ := B.says.def_ 2 (d := d__law_draw) rfl
  refine ⟨fd, ["_law_draws", "_law_k"], ?_, F.kp, F.bindsN fun _ _ _ _ _ _ us hl => match us, hl with | [_, _], _ => rfl⟩
  refine qf_okD F sc__law_draw fun cdv A outer s H E hr => ?_
  have tk := takes_of (X := cxOf (L2.CX P w) P w K mg base ["_law_draws", "_law_k"] "_law_draw" (defScope st__law_draw) (d__law_draw.ad K) cdv A outer s H E) rfl rfl rfl rfl
  have nd := sc__law_draw.nd
  have hu := hr.units
  have hu5 := room65 hr
  have hu1 := room1 hr
  have hpo := passes_of (X := cxOf (L2.CX P w) P w K mg base ["_law_draws", "_law_k"] "_law_draw" (defScope st__law_draw) (d__law_draw.ad K) cdv A outer s H E) rfl
  show QB _ _ _ _ F_law_draw_b
  exact qb_cons (qs_if (qt_cmp (op_ltW) q_ordW (qv 1) (q_cb call_lenW q_lenW (by rfl) (B.free 5) bt_len (qa_cons (qv 0) (qa_nil))) (nomark _)) (qb_one (qs_ret (q_ix (qv 0) (qv 1)))) (qb_nil))
      (qb_one (qs_ret (q_int)))
theorem sc__law_message : FnScope ["_law_draw_here", "_law_ticket", "_law_rows"] ["_law_draw_here"] (defScope st__law_message) := ⟨rfl, rfl, rfl, by decide +kernel, rfl, by decide +kernel, by decide +kernel⟩
theorem k__law_message (B : Bl P w K mg base) : FOk P w K mg base 1 (He.ga K "_law_message") F_law_message := by
  obtain ⟨fd, F⟩ := B.says.def_ 3 (d := d__law_message) rfl
  refine ⟨fd, ["_law_draw_here"], ?_, F.kp, F.bindsN fun _ _ _ _ _ _ us hl => match us, hl with | [_], _ => rfl⟩
  refine qf_okD F sc__law_message fun cdv A outer s H E hr => ?_
  have tk := takes_of (X := cxOf (L2.CX P w) P w K mg base ["_law_draw_here", "_law_ticket", "_law_rows"] "_law_message" (defScope st__law_message) (d__law_message.ad K) cdv A outer s H E) rfl rfl rfl rfl
  have nd := sc__law_message.nd
  have hu := hr.units
  have hu5 := room65 hr
  have hu1 := room1 hr
  have hpo := passes_of (X := cxOf (L2.CX P w) P w K mg base ["_law_draw_here", "_law_ticket", "_law_rows"] "_law_message" (defScope st__law_message) (d__law_message.ad K) cdv A outer s H E) rfl
  show QB _ _ _ _ F_law_message_b
  exact qb_cons (qs_set 1 nd (q_add (q_int) (q_fdiv (qv 0) (q_int))))
      (qb_cons (qs_set 2 nd (q_lst (qa_cons (q_tup (qa_cons (q_tup (qa_cons (q_str) (qa_cons (q_mod (qv 0) (q_int)) (qa_nil)))) (qa_cons (q_tup (qa_cons (q_str) (qa_cons (q_mod (qv 0) (q_int)) (qa_nil)))) (qa_cons (q_tup (qa_cons (q_str) (qa_cons (q_mod (qv 0) (q_int)) (qa_cons (qv 1) (qa_cons (q_str) (qa_nil)))))) (qa_nil))))) (qa_nil))))
      (qb_cons (qs_expr (q_bm PySem.F.plainAttrs_list PySem.F.slot_list_append PySem.F.type_list_append mt_append q_appW (qv 2) (qa_cons (q_tup (qa_cons (q_tup (qa_cons (q_str) (qa_cons (q_mod (qv 0) (q_int)) (qa_nil)))) (qa_cons (q_tup (qa_cons (q_str) (qa_cons (q_mod (qv 0) (q_int)) (qa_nil)))) (qa_cons (q_tup (qa_cons (q_str) (qa_cons (q_mod (qv 0) (q_int)) (qa_cons (qv 1) (qa_nil))))) (qa_nil))))) (qa_nil))))
      (qb_cons (qs_expr (q_bm PySem.F.plainAttrs_list PySem.F.slot_list_append PySem.F.type_list_append mt_append q_appW (qv 2) (qa_cons (q_tup (qa_cons (q_tup (qa_cons (q_str) (qa_cons (q_mod (qv 0) (q_int)) (qa_nil)))) (qa_cons (q_tup (qa_cons (q_str) (qa_cons (q_mod (qv 0) (q_int)) (qa_nil)))) (qa_cons (q_tup (qa_cons (q_str) (qa_cons (qv 0) (qa_nil)))) (qa_nil))))) (qa_nil))))
      (qb_cons (qs_expr (q_bm PySem.F.plainAttrs_list PySem.F.slot_list_append PySem.F.type_list_append mt_append q_appW (qv 2) (qa_cons (q_tup (qa_cons (q_tup (qa_cons (q_str) (qa_cons (q_mod (qv 0) (q_int)) (qa_nil)))) (qa_cons (q_tup (qa_cons (q_str) (qa_cons (q_mod (qv 0) (q_int)) (qa_nil)))) (qa_cons (q_tup (qa_cons (q_str) (qa_cons (q_tup (qa_cons (q_tup (qa_cons (q_str) (qa_cons (q_tup (qa_cons (q_tup (qa_nil)) (qa_cons (q_tup (qa_nil)) (qa_nil)))) (qa_nil)))) (qa_nil))) (qa_nil)))) (qa_nil))))) (qa_nil))))
      (qb_one (qs_ret (q_ix (qv 2) (q_mod (q_fdiv (qv 0) (q_int)) (q_int)))))))))
theorem sc__law_bad : FnScope ["_law_draw_here", "_law_rows"] ["_law_draw_here"] (defScope st__law_bad) := ⟨rfl, rfl, rfl, by decide +kernel, rfl, by decide +kernel, by decide +kernel⟩
theorem k__law_bad (B : Bl P w K mg base) : FOk P w K mg base 1 (He.ga K "_law_bad") F_law_bad := by
  obtain ⟨fd, F⟩ := B.says.def_ 4 (d := d__law_bad) rfl
  refine ⟨fd, ["_law_draw_here"], ?_, F.kp, F.bindsN fun _ _ _ _ _ _ us hl => match us, hl with | [_], _ => rfl⟩
  refine qf_okD F sc__law_bad fun cdv A outer s H E hr => ?_
  have tk := takes_of (X := cxOf (L2.CX P w) P w K mg base ["_law_draw_here", "_law_rows"] "_law_bad" (defScope st__law_bad) (d__law_bad.ad K) cdv A outer s H E) rfl rfl rfl rfl
  have nd := sc__law_bad.nd
  have hu := hr.units
  have hu5 := room65 hr
  have hu1 := room1 hr
  have hpo := passes_of (X := cxOf (L2.CX P w) P w K mg base ["_law_draw_here", "_law_rows"] "_law_bad" (defScope st__law_bad) (d__law_bad.ad K) cdv A outer s H E) rfl
  show QB _ _ _ _ F_law_bad_b
  exact qb_cons (qs_set 1 nd (q_lst (qa_cons (q_non) (qa_cons (q_tup (qa_nil)) (qa_cons (q_tup (qa_cons (q_str) (qa_cons (q_int) (qa_nil)))) (qa_cons (q_tup (qa_cons (q_tup (qa_cons (q_str) (qa_cons (q_int) (qa_nil)))) (qa_cons (q_tup (qa_cons (q_str) (qa_cons (q_int) (qa_nil)))) (qa_cons (q_tup (qa_cons (q_str) (qa_cons (q_int) (qa_nil)))) (qa_nil))))) (qa_cons (q_int) (qa_cons (q_str) (qa_nil)))))))))
      (qb_one (qs_ret (q_ix (qv 1) (q_mod (qv 0) (q_int)))))
theorem sc_is_integer : FnScope ["thing"] ["thing"] (defScope st_is_integer) := ⟨rfl, rfl, rfl, by decide +kernel, rfl, by decide +kernel, by decide +kernel⟩
theorem k_is_integer (B : Bl P w K mg base) : FOk P w K mg base 1 (He.ga K "is_integer") F_is_integer := by
  obtain ⟨fd, F⟩ := B.says.def_ 5 (d := d_is_integer) rfl
  refine ⟨fd, ["thing"], ?_, F.kp, F.bindsN fun _ _ _ _ _ _ us hl => match us, hl with | [_], _ => rfl⟩
  refine qf_okD F sc_is_integer fun cdv A outer s H E hr => ?_
  have tk := takes_of (X := cxOf (L2.CX P w) P w K mg base ["thing"] "is_integer" (defScope st_is_integer) (d_is_integer.ad K) cdv A outer s H E) rfl rfl rfl rfl
  have nd := sc_is_integer.nd
  have hu := hr.units
  have hu5 := room65 hr
  have hu1 := room1 hr
  have hpo := passes_of (X := cxOf (L2.CX P w) P w K mg base ["thing"] "is_integer" (defScope st_is_integer) (d_is_integer.ad K) cdv A outer s H E) rfl
  show QB _ _ _ _ F_is_integer_b
  exact qb_one (qs_ret (qe_and (q_isi (by rfl) (B.free 15) bt_isinstance (by rfl) (B.free 12) bt_int (qv 0)) (qe_and (qe_not (q_isi (by rfl) (B.free 15) bt_isinstance (by rfl) (B.free 21) bt_bool (qv 0))) (qe_one (qe_chain (op_leW) q_ordW (op_leW) q_ordW (q_neg (q_globI (by rfl) (B.int 74))) (qv 0) (q_globI (by rfl) (B.int 74)))))))
theorem sc_is_number : FnScope ["thing"] ["thing"] (defScope st_is_number) := ⟨rfl, rfl, rfl, by decide +kernel, rfl, by decide +kernel, by decide +kernel⟩
theorem k_is_number (B : Bl P w K mg base) : FOk P w K mg base 2 (He.ga K "is_number") F_is_number := by
  obtain ⟨fd, F⟩ := B.says.def_ 6 (d := d_is_number) rfl
  refine ⟨fd, ["thing"], ?_, F.kp, F.bindsN fun _ _ _ _ _ _ us hl => match us, hl with | [_], _ => rfl⟩
  refine qf_okD F sc_is_number fun cdv A outer s H E hr => ?_
  have tk := takes_of (X := cxOf (L2.CX P w) P w K mg base ["thing"] "is_number" (defScope st_is_number) (d_is_number.ad K) cdv A outer s H E) rfl rfl rfl rfl
  have nd := sc_is_number.nd
  have hu := hr.units
  have hu5 := room65 hr
  have hu1 := room1 hr
  have hpo := passes_of (X := cxOf (L2.CX P w) P w K mg base ["thing"] "is_number" (defScope st_is_number) (d_is_number.ad K) cdv A outer s H E) rfl
  show QB _ _ _ _ F_is_number_b
  exact qb_one (qs_ret (qe_and (q_cal ((k_is_integer B).cal (B.glo 72)) tk hr (by decide) (by rfl) (qa_cons (qv 0) (qa_nil))) (qe_one (qe_cmp (op_geW) q_ordW (qv 0) (q_int) (nomark _)))))
theorem sc_is_end : FnScope ["thing"] ["thing"] (defScope st_is_end) := ⟨rfl, rfl, rfl, by decide +kernel, rfl, by decide +kernel, by decide +kernel⟩
theorem k_is_end (B : Bl P w K mg base) : FOk P w K mg base 3 (He.ga K "is_end") F_is_end := by
  obtain ⟨fd, F⟩ := B.says.def_ 7 (d := d_is_end) rfl
  refine ⟨fd, ["thing"], ?_, F.kp, F.bindsN fun _ _ _ _ _ _ us hl => match us, hl with | [_], _ => rfl⟩
  refine qf_okD F sc_is_end fun cdv A outer s H E hr => ?_
  have tk := takes_of (X := cxOf (L2.CX P w) P w K mg base ["thing"] "is_end" (defScope st_is_end) (d_is_end.ad K) cdv A outer s H E) rfl rfl rfl rfl
  have nd := sc_is_end.nd
  have hu := hr.units
  have hu5 := room65 hr
  have hu1 := room1 hr
  have hpo := passes_of (X := cxOf (L2.CX P w) P w K mg base ["thing"] "is_end" (defScope st_is_end) (d_is_end.ad K) cdv A outer s H E) rfl
  show QB _ _ _ _ F_is_end_b
  exact qb_cons (qs_if (QW.pt (qw_or (qt_not (qt_truth (q_isi (by rfl) (B.free 15) bt_isinstance (by rfl) (B.free 65) bt_tuple (qv 0)))) (qw_or (qt_cmp (op_neW hu) q_eqW (q_cb call_lenW q_lenW (by rfl) (B.free 5) bt_len (qa_cons (qv 0) (qa_nil))) (q_int) (nomark _)) (qw_or1 (qt_not (qt_truth (q_cal ((k_is_number B).cal (B.glo 68)) tk hr (by decide) (by rfl) (qa_cons (q_ix (qv 0) (q_int)) (qa_nil))))))))) (qb_one (qs_ret (q_bl))) (qb_nil))
      (qb_one (qs_ret (qe_and (q_isi (by rfl) (B.free 15) bt_isinstance (by rfl) (B.free 69) bt_str (q_ix (qv 0) (q_int))) (qe_one (qe_cmp (op_inW hu5) q_inW (q_ix (qv 0) (q_int)) (q_tup (qa_cons (q_str) (qa_cons (q_str) (qa_nil)))) (by rfl))))))
theorem sc_has_only : FnScope ["text", "characters", "character"] ["text", "characters"] (defScope st_has_only) := ⟨rfl, rfl, rfl, by decide +kernel, rfl, by decide +kernel, by decide +kernel⟩
theorem k_has_only (B : Bl P w K mg base) : FOk P w K mg base 1 (He.ga K "has_only") F_has_only := by
  obtain ⟨fd, F⟩ := B.says.def_ 8 (d := d_has_only) rfl
  refine ⟨fd, ["text", "characters"], ?_, F.kp, F.bindsN fun _ _ _ _ _ _ us hl => match us, hl with | [_, _], _ => rfl⟩
  refine qf_okD F sc_has_only fun cdv A outer s H E hr => ?_
  have tk := takes_of (X := cxOf (L2.CX P w) P w K mg base ["text", "characters", "character"] "has_only" (defScope st_has_only) (d_has_only.ad K) cdv A outer s H E) rfl rfl rfl rfl
  have nd := sc_has_only.nd
  have hu := hr.units
  have hu5 := room65 hr
  have hu1 := room1 hr
  have hpo := passes_of (X := cxOf (L2.CX P w) P w K mg base ["text", "characters", "character"] "has_only" (defScope st_has_only) (d_has_only.ad K) cdv A outer s H E) rfl
  show QB _ _ _ _ F_has_only_b
  exact qb_cons (qs_for hpo rfl (qi_any (qv 0)) (qg_name 2 nd) (qb_one (qs_if (qt_cmp (op_notInW hu5) q_inW (qv 2) (qv 1) (by rfl)) (qb_one (qs_ret (q_bl))) (qb_nil))))
      (qb_one (qs_ret (q_bl)))
theorem sc_is_text : FnScope ["thing"] ["thing"] (defScope st_is_text) := ⟨rfl, rfl, rfl, by decide +kernel, rfl, by decide +kernel, by decide +kernel⟩
theorem k_is_text (B : Bl P w K mg base) : FOk P w K mg base 2 (He.ga K "is_text") F_is_text := by
  obtain ⟨fd, F⟩ := B.says.def_ 9 (d := d_is_text) rfl
  refine ⟨fd, ["thing"], ?_, F.kp, F.bindsN fun _ _ _ _ _ _ us hl => match us, hl with | [_], _ => rfl⟩
  refine qf_okD F sc_is_text fun cdv A outer s H E hr => ?_
  have tk := takes_of (X := cxOf (L2.CX P w) P w K mg base ["thing"] "is_text" (defScope st_is_text) (d_is_text.ad K) cdv A outer s H E) rfl rfl rfl rfl
  have nd := sc_is_text.nd
  have hu := hr.units
  have hu5 := room65 hr
  have hu1 := room1 hr
  have hpo := passes_of (X := cxOf (L2.CX P w) P w K mg base ["thing"] "is_text" (defScope st_is_text) (d_is_text.ad K) cdv A outer s H E) rfl
  show QB _ _ _ _ F_is_text_b
  exact qb_one (qs_ret (qe_and (q_isi (by rfl) (B.free 15) bt_isinstance (by rfl) (B.free 69) bt_str (qv 0)) (qe_and (qe_cmp (op_leW) q_ordW (q_cb call_lenW q_lenW (by rfl) (B.free 5) bt_len (qa_cons (qv 0) (qa_nil))) (q_int) (nomark _)) (qe_one (q_cal ((k_has_only B).cal (B.glo 76)) tk hr (by decide) (by rfl) (qa_cons (qv 0) (qa_cons (q_globS (by rfl) (B.str 77)) (qa_nil))))))))
theorem sc_is_key : FnScope ["thing"] ["thing"] (defScope st_is_key) := ⟨rfl, rfl, rfl, by decide +kernel, rfl, by decide +kernel, by decide +kernel⟩
theorem k_is_key (B : Bl P w K mg base) : FOk P w K mg base 3 (He.ga K "is_key") F_is_key := by
  obtain ⟨fd, F⟩ := B.says.def_ 10 (d := d_is_key) rfl
  refine ⟨fd, ["thing"], ?_, F.kp, F.bindsN fun _ _ _ _ _ _ us hl => match us, hl with | [_], _ => rfl⟩
  refine qf_okD F sc_is_key fun cdv A outer s H E hr => ?_
  have tk := takes_of (X := cxOf (L2.CX P w) P w K mg base ["thing"] "is_key" (defScope st_is_key) (d_is_key.ad K) cdv A outer s H E) rfl rfl rfl rfl
  have nd := sc_is_key.nd
  have hu := hr.units
  have hu5 := room65 hr
  have hu1 := room1 hr
  have hpo := passes_of (X := cxOf (L2.CX P w) P w K mg base ["thing"] "is_key" (defScope st_is_key) (d_is_key.ad K) cdv A outer s H E) rfl
  show QB _ _ _ _ F_is_key_b
  exact qb_one (qs_ret (qe_and (q_cal ((k_is_text B).cal (B.glo 75)) tk hr (by decide) (by rfl) (qa_cons (qv 0) (qa_nil))) (qe_one (qe_chain (op_leW) q_ordW (op_leW) q_ordW (q_int) (q_cb call_lenW q_lenW (by rfl) (B.free 5) bt_len (qa_cons (qv 0) (qa_nil))) (q_int)))))
theorem sc_is_part : FnScope ["kind", "thing"] ["kind", "thing"] (defScope st_is_part) := ⟨rfl, rfl, rfl, by decide +kernel, rfl, by decide +kernel, by decide +kernel⟩
theorem k_is_part (B : Bl P w K mg base) : FOk P w K mg base 4 (He.ga K "is_part") F_is_part := by
  obtain ⟨fd, F⟩ := B.says.def_ 11 (d := d_is_part) rfl
  refine ⟨fd, ["kind", "thing"], ?_, F.kp, F.bindsN fun _ _ _ _ _ _ us hl => match us, hl with | [_, _], _ => rfl⟩
  refine qf_okD F sc_is_part fun cdv A outer s H E hr => ?_
  have tk := takes_of (X := cxOf (L2.CX P w) P w K mg base ["kind", "thing"] "is_part" (defScope st_is_part) (d_is_part.ad K) cdv A outer s H E) rfl rfl rfl rfl
  have nd := sc_is_part.nd
  have hu := hr.units
  have hu5 := room65 hr
  have hu1 := room1 hr
  have hpo := passes_of (X := cxOf (L2.CX P w) P w K mg base ["kind", "thing"] "is_part" (defScope st_is_part) (d_is_part.ad K) cdv A outer s H E) rfl
  show QB _ _ _ _ F_is_part_b
  exact qb_cons (qs_if (qt_cmp (op_eqW hu) q_eqW (qv 0) (q_str) (nomark _)) (qb_one (qs_ret (q_cal ((k_is_number B).cal (B.glo 68)) tk hr (by decide) (by rfl) (qa_cons (qv 1) (qa_nil))))) (qb_nil))
      (qb_cons (qs_if (qt_cmp (op_eqW hu) q_eqW (qv 0) (q_str) (nomark _)) (qb_one (qs_ret (qe_and (q_cal ((k_is_number B).cal (B.glo 68)) tk hr (by decide) (by rfl) (qa_cons (qv 1) (qa_nil))) (qe_one (qe_cmp (op_gtW) q_ordW (qv 1) (q_int) (nomark _)))))) (qb_nil))
      (qb_cons (qs_if (qt_cmp (op_eqW hu) q_eqW (qv 0) (q_str) (nomark _)) (qb_one (qs_ret (q_cal ((k_is_key B).cal (B.glo 73)) tk hr (by decide) (by rfl) (qa_cons (qv 1) (qa_nil))))) (qb_nil))
      (qb_one (qs_ret (q_isi (by rfl) (B.free 15) bt_isinstance (by rfl) (B.free 65) bt_tuple (qv 1))))))
theorem sc_is_body : FnScope ["sender", "receiver", "body", "form", "kind", "thing"] ["sender", "receiver", "body"] (defScope st_is_body) := ⟨rfl, rfl, rfl, by decide +kernel, rfl, by decide +kernel, by decide +kernel⟩
theorem k_is_body (B : Bl P w K mg base) : FOk P w K mg base 5 (He.ga K "is_body") F_is_body := by
  obtain ⟨fd, F⟩ := B.says.def_ 12 (d := d_is_body) rfl
  refine ⟨fd, ["sender", "receiver", "body"], ?_, F.kp, F.bindsN fun _ _ _ _ _ _ us hl => match us, hl with | [_, _, _], _ => rfl⟩
  refine qf_okD F sc_is_body fun cdv A outer s H E hr => ?_
  have tk := takes_of (X := cxOf (L2.CX P w) P w K mg base ["sender", "receiver", "body", "form", "kind", "thing"] "is_body" (defScope st_is_body) (d_is_body.ad K) cdv A outer s H E) rfl rfl rfl rfl
  have nd := sc_is_body.nd
  have hu := hr.units
  have hu5 := room65 hr
  have hu1 := room1 hr
  have hpo := passes_of (X := cxOf (L2.CX P w) P w K mg base ["sender", "receiver", "body", "form", "kind", "thing"] "is_body" (defScope st_is_body) (d_is_body.ad K) cdv A outer s H E) rfl
  show QB _ _ _ _ F_is_body_b
  exact qb_cons (qs_if (QW.pt (qw_or (qt_not (qt_truth (q_isi (by rfl) (B.free 15) bt_isinstance (by rfl) (B.free 65) bt_tuple (qv 2)))) (qw_or (qt_cmp (op_eqW hu) q_eqW (q_cb call_lenW q_lenW (by rfl) (B.free 5) bt_len (qa_cons (qv 2) (qa_nil))) (q_int) (nomark _)) (qw_or (qt_not (qt_truth (q_isi (by rfl) (B.free 15) bt_isinstance (by rfl) (B.free 69) bt_str (q_ix (qv 2) (q_int))))) (qw_or1 (qt_inKd (op_notInKt (B.tab 0 (t := T_FORMS) rfl).2) (q_ix (qv 2) (q_int)) (by rfl) (B.tab 0 (t := T_FORMS) rfl).1 (B.tab 0 (t := T_FORMS) rfl).2 (by rfl))))))) (qb_one (qs_ret (q_bl))) (qb_nil))
      (qb_cons (qs_set 3 nd (q_ixKd (q_ix (qv 2) (q_int)) (by rfl) (B.tab 0 (t := T_FORMS) rfl).1 (B.tab 0 (t := T_FORMS) rfl).2))
      (qb_cons (qs_if (QW.pt (qw_or (qt_cmp (op_neW hu) q_eqW (q_tup (qa_cons (qv 0) (qa_cons (qv 1) (qa_nil)))) (q_sl (qv 3) qo_none (qo_some (q_int))) (nomark _)) (qw_or1 (qt_cmp (op_neW hu) q_eqW (q_cb call_lenW q_lenW (by rfl) (B.free 5) bt_len (qa_cons (qv 2) (qa_nil))) (q_add (q_cb call_lenW q_lenW (by rfl) (B.free 5) bt_len (qa_cons (q_ix (qv 3) (q_int)) (qa_nil))) (q_int)) (nomark _))))) (qb_one (qs_ret (q_bl))) (qb_nil))
      (qb_cons (qs_for hpo rfl (qi_zip (by rfl) (B.free 70) (qa_cons (q_ix (qv 3) (q_int)) (qa_cons (q_sl (qv 2) (qo_some (q_int)) qo_none) (qa_nil)))) (qg_tup rfl (qgs_cons (qg_name 4 nd) (qgs_cons (qg_name 5 nd) (qgs_nil)))) (qb_one (qs_if (qt_not (qt_truth (q_cal ((k_is_part B).cal (B.glo 71)) tk hr (by decide) (by rfl) (qa_cons (qv 4) (qa_cons (qv 5) (qa_nil)))))) (qb_one (qs_ret (q_bl))) (qb_nil))))
      (qb_one (qs_ret (q_bl))))))
theorem sc_is_message : FnScope ["thing"] ["thing"] (defScope st_is_message) := ⟨rfl, rfl, rfl, by decide +kernel, rfl, by decide +kernel, by decide +kernel⟩
theorem k_is_message (B : Bl P w K mg base) : FOk P w K mg base 6 (He.ga K "is_message") F_is_message := by
  obtain ⟨fd, F⟩ := B.says.def_ 13 (d := d_is_message) rfl
  refine ⟨fd, ["thing"], ?_, F.kp, F.bindsN fun _ _ _ _ _ _ us hl => match us, hl with | [_], _ => rfl⟩
  refine qf_okD F sc_is_message fun cdv A outer s H E hr => ?_
  have tk := takes_of (X := cxOf (L2.CX P w) P w K mg base ["thing"] "is_message" (defScope st_is_message) (d_is_message.ad K) cdv A outer s H E) rfl rfl rfl rfl
  have nd := sc_is_message.nd
  have hu := hr.units
  have hu5 := room65 hr
  have hu1 := room1 hr
  have hpo := passes_of (X := cxOf (L2.CX P w) P w K mg base ["thing"] "is_message" (defScope st_is_message) (d_is_message.ad K) cdv A outer s H E) rfl
  show QB _ _ _ _ F_is_message_b
  exact qb_cons (qs_if (QW.pt (qw_or (qt_not (qt_truth (q_isi (by rfl) (B.free 15) bt_isinstance (by rfl) (B.free 65) bt_tuple (qv 0)))) (qw_or (qt_cmp (op_neW hu) q_eqW (q_cb call_lenW q_lenW (by rfl) (B.free 5) bt_len (qa_cons (qv 0) (qa_nil))) (q_int) (nomark _)) (qw_or (qt_not (qt_truth (q_cal ((k_is_end B).cal (B.glo 66)) tk hr (by decide) (by rfl) (qa_cons (q_ix (qv 0) (q_int)) (qa_nil))))) (qw_or1 (qt_not (qt_truth (q_cal ((k_is_end B).cal (B.glo 66)) tk hr (by decide) (by rfl) (qa_cons (q_ix (qv 0) (q_int)) (qa_nil)))))))))) (qb_one (qs_ret (q_bl))) (qb_nil))
      (qb_one (qs_ret (q_cal ((k_is_body B).cal (B.glo 67)) tk hr (by decide) (by rfl) (qa_cons (q_ix (q_ix (qv 0) (q_int)) (q_int)) (qa_cons (q_ix (q_ix (qv 0) (q_int)) (q_int)) (qa_cons (q_ix (qv 0) (q_int)) (qa_nil)))))))
theorem sc_Network_send : FnScope ["self", "message"] ["self", "message"] (defScope st_Network_send) := ⟨rfl, rfl, rfl, by decide +kernel, rfl, by decide +kernel, by decide +kernel⟩
theorem k_Network_send (B : Bl P w K mg base) : FOk P w K mg base 7 (mA K "Network" "send") F_Network_send := by
  obtain ⟨fd, F⟩ := B.says.def_ 14 (d := d_Network_send) rfl
  refine ⟨fd, ["self", "message"], ?_, F.kp, F.bindsN fun _ _ _ _ _ _ us hl => match us, hl with | [_, _], _ => rfl⟩
  refine qf_okD F sc_Network_send fun cdv A outer s H E hr => ?_
  have tk := takes_of (X := cxOf (L2.CX P w) P w K mg base ["self", "message"] "Network.send" (defScope st_Network_send) (d_Network_send.ad K) cdv A outer s H E) rfl rfl rfl rfl
  have nd := sc_Network_send.nd
  have hu := hr.units
  have hu5 := room65 hr
  have hu1 := room1 hr
  have hpo := passes_of (X := cxOf (L2.CX P w) P w K mg base ["self", "message"] "Network.send" (defScope st_Network_send) (d_Network_send.ad K) cdv A outer s H E) rfl
  show QB _ _ _ _ F_Network_send_b
  exact qb_cons (qs_if (qt_not (qt_truth (q_cal ((k_is_message B).cal (B.glo 62)) tk hr (by decide) (by rfl) (qa_cons (qv 1) (qa_nil))))) (qb_one (qs_raise (exc_cls (B.glo 22) (B.says.fact 63)) tk rfl (by rfl))) (qb_nil))
      (qb_cons (qs_fld (qv 0) (q_add (q_fld (qv 0)) (q_int)))
      (qb_cons (qs_putD hu1 (q_fld (qv 0)) (q_fld (qv 0)) (qv 1))
      (qb_one (qs_ret (q_fld (qv 0))))))
theorem sc__law_sent : FnScope ["_law_network", "_law_thing", "e"] ["_law_network", "_law_thing"] (defScope st__law_sent) := ⟨rfl, rfl, rfl, by decide +kernel, rfl, by decide +kernel, by decide +kernel⟩
theorem k__law_sent (B : Bl P w K mg base) : FOk P w K mg base 8 (He.ga K "_law_sent") F_law_sent := by
  obtain ⟨fd, F⟩ := B.says.def_ 15 (d := d__law_sent) rfl
  refine ⟨fd, ["_law_network", "_law_thing"], ?_, F.kp, F.bindsN fun _ _ _ _ _ _ us hl => match us, hl with | [_, _], _ => rfl⟩
  refine qf_okD F sc__law_sent fun cdv A outer s H E hr => ?_
  have tk := takes_of (X := cxOf (L2.CX P w) P w K mg base ["_law_network", "_law_thing", "e"] "_law_sent" (defScope st__law_sent) (d__law_sent.ad K) cdv A outer s H E) rfl rfl rfl rfl
  have nd := sc__law_sent.nd
  have hu := hr.units
  have hu5 := room65 hr
  have hu1 := room1 hr
  have hpo := passes_of (X := cxOf (L2.CX P w) P w K mg base ["_law_network", "_law_thing", "e"] "_law_sent" (defScope st__law_sent) (d__law_sent.ad K) cdv A outer s H E) rfl
  show QB _ _ _ _ F_law_sent_b
  exact qb_one (qs_try_as 2 rfl rfl nd ⟨by rfl, by decide, .inl (B.glo 22)⟩ tk (tbB_cons (exm_okx (B.says.fact 30)) (tbB_cons (exm_okx (B.says.fact 29)) (tbB_cons (exm_okx (B.says.fact 27)) (tbB_cons (exm_okx (B.says.fact 25)) (tbB_nil))))) (fun W pn xe tk hpo => qb_one (qs_ret (q_tup (qa_cons (q_str) (qa_cons (q_met (mets_cons ((k_Network_send B).met (B.says.fact 2) (B.says.fact 23)) (by decide) (mets_nil)) tk hr (qv 0) (qa_cons (qv 1) (qa_nil))) (qa_nil)))))) (fun ea ec oe pn hz hfl => qb_one (qs_ret (q_tup (qa_cons (q_str) (qa_cons (qe_and (q_isE hz hfl (by rfl) (B.free 15) bt_isinstance (by rfl) (B.glo 26) (tbB_cons (kit_ok (B.says.fact 37)) (tbB_cons (kit_ok (B.says.fact 35)) (tbB_cons (kit_ok (B.says.fact 33)) (tbB_cons (kit_ok (B.says.fact 31)) (tbB_nil))))) (tbB_cons (P := fun c _ => L2.ExcC K (He.ga K c)) (exk_ok (B.says.fact 38)) (tbB_cons (P := fun c _ => L2.ExcC K (He.ga K c)) (exk_ok (B.says.fact 36)) (tbB_cons (P := fun c _ => L2.ExcC K (He.ga K c)) (exk_ok (B.says.fact 34)) (tbB_cons (P := fun c _ => L2.ExcC K (He.ga K c)) (exk_ok (B.says.fact 32)) (tbB_nil))))) (qv 2)) (qe_and (q_isET hz hfl (by rfl) (B.free 15) bt_isinstance (by rfl) (B.free 43) bt_ValueError (tbB_cons (kitT_ok (B.says.fact 42)) (tbB_cons (kitT_ok (B.says.fact 41)) (tbB_cons (kitT_ok (B.says.fact 40)) (tbB_cons (kitT_ok (B.says.fact 39)) (tbB_nil))))) (tbB_cons (P := fun c _ => L2.ExcC K (He.ga K c)) (exk_ok (B.says.fact 38)) (tbB_cons (P := fun c _ => L2.ExcC K (He.ga K c)) (exk_ok (B.says.fact 36)) (tbB_cons (P := fun c _ => L2.ExcC K (He.ga K c)) (exk_ok (B.says.fact 34)) (tbB_cons (P := fun c _ => L2.ExcC K (He.ga K c)) (exk_ok (B.says.fact 32)) (tbB_nil))))) (qv 2)) (qe_one (qe_not (q_isE2 hz hfl (by rfl) (B.free 15) bt_isinstance (by rfl) (B.glo 24) (by rfl) (B.glo 28) (tbB_cons (kit_ok (B.says.fact 47)) (tbB_cons (kit_ok (B.says.fact 46)) (tbB_cons (kit_ok (B.says.fact 45)) (tbB_cons (kit_ok (B.says.fact 44)) (tbB_nil))))) (tbB_cons (kit_ok (B.says.fact 51)) (tbB_cons (kit_ok (B.says.fact 50)) (tbB_cons (kit_ok (B.says.fact 49)) (tbB_cons (kit_ok (B.says.fact 48)) (tbB_nil))))) (tbB_cons (P := fun c _ => L2.ExcC K (He.ga K c)) (exk_ok (B.says.fact 38)) (tbB_cons (P := fun c _ => L2.ExcC K (He.ga K c)) (exk_ok (B.says.fact 36)) (tbB_cons (P := fun c _ => L2.ExcC K (He.ga K c)) (exk_ok (B.says.fact 34)) (tbB_cons (P := fun c _ => L2.ExcC K (He.ga K c)) (exk_ok (B.says.fact 32)) (tbB_nil))))) (qv 2)))))) (qa_nil)))))))
theorem sc_Network_message : FnScope ["self", "number"] ["self", "number"] (defScope st_Network_message) := ⟨rfl, rfl, rfl, by decide +kernel, rfl, by decide +kernel, by decide +kernel⟩
theorem k_Network_message (B : Bl P w K mg base) : FOk P w K mg base 1 (mA K "Network" "message") F_Network_message := by
  obtain ⟨fd, F⟩ := B.says.def_ 16 (d := d_Network_message) rfl
  refine ⟨fd, ["self", "number"], ?_, F.kp, F.bindsN fun _ _ _ _ _ _ us hl => match us, hl with | [_, _], _ => rfl⟩
  refine qf_okD F sc_Network_message fun cdv A outer s H E hr => ?_
  have tk := takes_of (X := cxOf (L2.CX P w) P w K mg base ["self", "number"] "Network.message" (defScope st_Network_message) (d_Network_message.ad K) cdv A outer s H E) rfl rfl rfl rfl
  have nd := sc_Network_message.nd
  have hu := hr.units
  have hu5 := room65 hr
  have hu1 := room1 hr
  have hpo := passes_of (X := cxOf (L2.CX P w) P w K mg base ["self", "number"] "Network.message" (defScope st_Network_message) (d_Network_message.ad K) cdv A outer s H E) rfl
  show QB _ _ _ _ F_Network_message_b
  exact qb_cons (qs_if (qt_cmp (OpR.or (op_notInDct hu1) (op_notInW hu5)) q_inDW (qv 1) (q_fld (qv 0)) (by rfl)) (qb_one (qs_raise (exc_cls (B.glo 24) (B.says.fact 64)) tk rfl (by rfl))) (qb_nil))
      (qb_one (qs_ret (q_ixD hu1 (q_fld (qv 0)) (qv 1) (by intro _ _; rfl))))
theorem sc_Network_drop : FnScope ["self", "number"] ["self", "number"] (defScope st_Network_drop) := ⟨rfl, rfl, rfl, by decide +kernel, rfl, by decide +kernel, by decide +kernel⟩
theorem k_Network_drop (B : Bl P w K mg base) : FOk P w K mg base 1 (mA K "Network" "drop") F_Network_drop := by
  obtain ⟨fd, F⟩ := B.says.def_ 17 (d := d_Network_drop) rfl
  refine ⟨fd, ["self", "number"], ?_, F.kp, F.bindsN fun _ _ _ _ _ _ us hl => match us, hl with | [_, _], _ => rfl⟩
  refine qf_okD F sc_Network_drop fun cdv A outer s H E hr => ?_
  have tk := takes_of (X := cxOf (L2.CX P w) P w K mg base ["self", "number"] "Network.drop" (defScope st_Network_drop) (d_Network_drop.ad K) cdv A outer s H E) rfl rfl rfl rfl
  have nd := sc_Network_drop.nd
  have hu := hr.units
  have hu5 := room65 hr
  have hu1 := room1 hr
  have hpo := passes_of (X := cxOf (L2.CX P w) P w K mg base ["self", "number"] "Network.drop" (defScope st_Network_drop) (d_Network_drop.ad K) cdv A outer s H E) rfl
  show QB _ _ _ _ F_Network_drop_b
  exact qb_cons (qs_if (qt_cmp (OpR.or (op_notInDct hu1) (op_notInW hu5)) q_inDW (qv 1) (q_fld (qv 0)) (by rfl)) (qb_one (qs_raise (exc_cls (B.glo 24) (B.says.fact 64)) tk rfl (by rfl))) (qb_nil))
      (qb_one (qs_del (q_fld (qv 0)) (qv 1)))
theorem sc__law_looked : FnScope ["_law_network", "_law_number", "_law_drops", "e"] ["_law_network", "_law_number", "_law_drops"] (defScope st__law_looked) := ⟨rfl, rfl, rfl, by decide +kernel, rfl, by decide +kernel, by decide +kernel⟩
theorem k__law_looked (B : Bl P w K mg base) : FOk P w K mg base 2 (He.ga K "_law_looked") F_law_looked := by
  obtain ⟨fd, F⟩ := B.says.def_ 18 (d := d__law_looked) rfl
  refine ⟨fd, ["_law_network", "_law_number", "_law_drops"], ?_, F.kp, F.bindsN fun _ _ _ _ _ _ us hl => match us, hl with | [_, _, _], _ => rfl⟩
  refine qf_okD F sc__law_looked fun cdv A outer s H E hr => ?_
  have tk := takes_of (X := cxOf (L2.CX P w) P w K mg base ["_law_network", "_law_number", "_law_drops", "e"] "_law_looked" (defScope st__law_looked) (d__law_looked.ad K) cdv A outer s H E) rfl rfl rfl rfl
  have nd := sc__law_looked.nd
  have hu := hr.units
  have hu5 := room65 hr
  have hu1 := room1 hr
  have hpo := passes_of (X := cxOf (L2.CX P w) P w K mg base ["_law_network", "_law_number", "_law_drops", "e"] "_law_looked" (defScope st__law_looked) (d__law_looked.ad K) cdv A outer s H E) rfl
  show QB _ _ _ _ F_law_looked_b
  exact qb_one (qs_try_as 3 rfl rfl nd ⟨by rfl, by decide, .inl (B.glo 24)⟩ tk (tbB_cons (exm_okx (B.says.fact 57)) (tbB_cons (exm_okx (B.says.fact 56)) (tbB_cons (exm_okx (B.says.fact 55)) (tbB_cons (exm_okx (B.says.fact 54)) (tbB_nil))))) (fun W pn xe tk hpo => qb_cons (qs_if (qt_truth (qv 2)) (qb_one (qs_ret (q_tup (qa_cons (q_str) (qa_cons (q_met (mets_cons ((k_Network_drop B).met (B.says.fact 2) (B.says.fact 52)) (by decide) (mets_nil)) tk hr (qv 0) (qa_cons (qv 1) (qa_nil))) (qa_nil)))))) (qb_nil))
      (qb_one (qs_ret (q_tup (qa_cons (q_str) (qa_cons (q_met (mets_cons ((k_Network_message B).met (B.says.fact 2) (B.says.fact 53)) (by decide) (mets_nil)) tk hr (qv 0) (qa_cons (qv 1) (qa_nil))) (qa_nil))))))) (fun ea ec oe pn hz hfl => qb_one (qs_ret (q_tup (qa_cons (q_str) (qa_cons (qe_and (q_isE hz hfl (by rfl) (B.free 15) bt_isinstance (by rfl) (B.glo 26) (tbB_cons (kit_ok (B.says.fact 37)) (tbB_cons (kit_ok (B.says.fact 35)) (tbB_cons (kit_ok (B.says.fact 33)) (tbB_cons (kit_ok (B.says.fact 31)) (tbB_nil))))) (tbB_cons (P := fun c _ => L2.ExcC K (He.ga K c)) (exk_ok (B.says.fact 38)) (tbB_cons (P := fun c _ => L2.ExcC K (He.ga K c)) (exk_ok (B.says.fact 36)) (tbB_cons (P := fun c _ => L2.ExcC K (He.ga K c)) (exk_ok (B.says.fact 34)) (tbB_cons (P := fun c _ => L2.ExcC K (He.ga K c)) (exk_ok (B.says.fact 32)) (tbB_nil))))) (qv 3)) (qe_and (q_isET hz hfl (by rfl) (B.free 15) bt_isinstance (by rfl) (B.free 43) bt_ValueError (tbB_cons (kitT_ok (B.says.fact 42)) (tbB_cons (kitT_ok (B.says.fact 41)) (tbB_cons (kitT_ok (B.says.fact 40)) (tbB_cons (kitT_ok (B.says.fact 39)) (tbB_nil))))) (tbB_cons (P := fun c _ => L2.ExcC K (He.ga K c)) (exk_ok (B.says.fact 38)) (tbB_cons (P := fun c _ => L2.ExcC K (He.ga K c)) (exk_ok (B.says.fact 36)) (tbB_cons (P := fun c _ => L2.ExcC K (He.ga K c)) (exk_ok (B.says.fact 34)) (tbB_cons (P := fun c _ => L2.ExcC K (He.ga K c)) (exk_ok (B.says.fact 32)) (tbB_nil))))) (qv 3)) (qe_one (qe_not (q_isE hz hfl (by rfl) (B.free 15) bt_isinstance (by rfl) (B.glo 22) (tbB_cons (kit_ok (B.says.fact 61)) (tbB_cons (kit_ok (B.says.fact 60)) (tbB_cons (kit_ok (B.says.fact 59)) (tbB_cons (kit_ok (B.says.fact 58)) (tbB_nil))))) (tbB_cons (P := fun c _ => L2.ExcC K (He.ga K c)) (exk_ok (B.says.fact 38)) (tbB_cons (P := fun c _ => L2.ExcC K (He.ga K c)) (exk_ok (B.says.fact 36)) (tbB_cons (P := fun c _ => L2.ExcC K (He.ga K c)) (exk_ok (B.says.fact 34)) (tbB_cons (P := fun c _ => L2.ExcC K (He.ga K c)) (exk_ok (B.says.fact 32)) (tbB_nil))))) (qv 3)))))) (qa_nil)))))))
theorem sc_Network___len__ : FnScope ["self"] ["self"] (defScope st_Network___len__) := ⟨rfl, rfl, rfl, by decide +kernel, rfl, by decide +kernel, by decide +kernel⟩
theorem k_Network___len__ (B : Bl P w K mg base) : FOk P w K mg base 1 (mA K "Network" "__len__") F_Network___len__ := by
  obtain ⟨fd, F⟩ := B.says.def_ 19 (d := d_Network___len__) rfl
  refine ⟨fd, ["self"], ?_, F.kp, F.bindsN fun _ _ _ _ _ _ us hl => match us, hl with | [_], _ => rfl⟩
  refine qf_okD F sc_Network___len__ fun cdv A outer s H E hr => ?_
  have tk := takes_of (X := cxOf (L2.CX P w) P w K mg base ["self"] "Network.__len__" (defScope st_Network___len__) (d_Network___len__.ad K) cdv A outer s H E) rfl rfl rfl rfl
  have nd := sc_Network___len__.nd
  have hu := hr.units
  have hu5 := room65 hr
  have hu1 := room1 hr
  have hpo := passes_of (X := cxOf (L2.CX P w) P w K mg base ["self"] "Network.__len__" (defScope st_Network___len__) (d_Network___len__.ad K) cdv A outer s H E) rfl
  show QB _ _ _ _ F_Network___len___b
  exact qb_one (qs_ret (q_cb call_lenW q_lenW (by rfl) (B.free 5) bt_len (qa_cons (q_fld (qv 0)) (qa_nil))))
theorem sc_Network_numbers : FnScope ["self"] ["self"] (defScope st_Network_numbers) := ⟨rfl, rfl, rfl, by decide +kernel, rfl, by decide +kernel, by decide +kernel⟩
theorem k_Network_numbers (B : Bl P w K mg base) : FOk P w K mg base 1 (mA K "Network" "numbers") F_Network_numbers := by
  obtain ⟨fd, F⟩ := B.says.def_ 20 (d := d_Network_numbers) rfl
  refine ⟨fd, ["self"], ?_, F.kp, F.bindsN fun _ _ _ _ _ _ us hl => match us, hl with | [_], _ => rfl⟩
  refine qf_okD F sc_Network_numbers fun cdv A outer s H E hr => ?_
  have tk := takes_of (X := cxOf (L2.CX P w) P w K mg base ["self"] "Network.numbers" (defScope st_Network_numbers) (d_Network_numbers.ad K) cdv A outer s H E) rfl rfl rfl rfl
  have nd := sc_Network_numbers.nd
  have hu := hr.units
  have hu5 := room65 hr
  have hu1 := room1 hr
  have hpo := passes_of (X := cxOf (L2.CX P w) P w K mg base ["self"] "Network.numbers" (defScope st_Network_numbers) (d_Network_numbers.ad K) cdv A outer s H E) rfl
  show QB _ _ _ _ F_Network_numbers_b
  exact qb_one (qs_ret (q_cty (call_lstd (by rfl)) q_lstdW (by rfl) (B.free 16) bt_list (qa_cons (q_fld (qv 0)) (qa_nil))))
theorem sc__law_holds : FnScope ["_law_network", "_law_bag", "_law_sent_here", "_law_told", "_law_number"] ["_law_network", "_law_bag", "_law_sent_here"] (defScope st__law_holds) := ⟨rfl, rfl, rfl, by decide +kernel, rfl, by decide +kernel, by decide +kernel⟩
theorem k__law_holds (B : Bl P w K mg base) : FOk P w K mg base 3 (He.ga K "_law_holds") F_law_holds := by
  obtain ⟨fd, F⟩ := B.says.def_ 21 (d := d__law_holds) rfl
  refine ⟨fd, ["_law_network", "_law_bag", "_law_sent_here"], ?_, F.kp, F.bindsN fun _ _ _ _ _ _ us hl => match us, hl with | [_, _, _], _ => rfl⟩
  refine qf_okD F sc__law_holds fun cdv A outer s H E hr => ?_
  have tk := takes_of (X := cxOf (L2.CX P w) P w K mg base ["_law_network", "_law_bag", "_law_sent_here", "_law_told", "_law_number"] "_law_holds" (defScope st__law_holds) (d__law_holds.ad K) cdv A outer s H E) rfl rfl rfl rfl
  have nd := sc__law_holds.nd
  have hu := hr.units
  have hu5 := room65 hr
  have hu1 := room1 hr
  have hpo := passes_of (X := cxOf (L2.CX P w) P w K mg base ["_law_network", "_law_bag", "_law_sent_here", "_law_told", "_law_number"] "_law_holds" (defScope st__law_holds) (d__law_holds.ad K) cdv A outer s H E) rfl
  show QB _ _ _ _ F_law_holds_b
  exact qb_cons (qs_set 3 nd (q_met0 (mets_cons ((k_Network_numbers B).met (B.says.fact 2) (B.says.fact 14)) (by decide) (mets_nil)) tk hr (qv 0)))
      (qb_cons (qs_if (QW.pt (qw_or (qt_not (qt_truth (q_isi (by rfl) (B.free 15) bt_isinstance (by rfl) (B.free 16) bt_list (qv 3)))) (qw_or (qt_cmp (op_neW hu) q_eqW (qv 3) (q_cb call_sortW q_sortW (by rfl) (B.free 17) bt_sorted (qa_cons (q_cty (call_lstd (by rfl)) q_lstdW (by rfl) (B.free 16) bt_list (qa_cons (qv 1) (qa_nil))) (qa_nil))) (nomark _)) (qw_or1 (qt_cmp (op_neW hu) q_eqW (q_lock (eFld "_bag" (eV 0)) (q_lc [("_law_number", 4)] rfl nd (qi_ownK2 (k_Network___iter__ B) (hr.mono (by decide)) (qv 0)) (by kernel_rfl) (fun _ _ _ _ _ => qv_name 4 nd) (fun _ _ _ _ _ => qc_nil) (fun _ _ _ _ _ => qv 4))) (q_cb call_sortW q_sortW (by rfl) (B.free 17) bt_sorted (qa_cons (q_cty (call_lstd (by rfl)) q_lstdW (by rfl) (B.free 16) bt_list (qa_cons (qv 1) (qa_nil))) (qa_nil))) (nomark _)))))) (qb_one (qs_ret (q_bl))) (qb_nil))
      (qb_cons (qs_if (QW.pt (qw_or (qt_cmp (op_neW hu) q_eqW (q_cb (CallR.or (call_ownLen (mets_cons ((k_Network___len__ B).met (B.says.fact 2) (B.says.fact 20)) (by decide) (mets_nil)) hr) call_lenW) q_ownLen (by rfl) (B.free 5) bt_len (qa_cons (qv 0) (qa_nil))) (q_cb call_lenW q_lenW (by rfl) (B.free 5) bt_len (qa_cons (qv 1) (qa_nil))) (nomark _)) (qw_or (qt_cmp (op_neW hu) q_eqW (q_fld (qv 0)) (qv 2) (nomark _)) (qw_or1 (qt_truth (q_isi (by rfl) (B.free 15) bt_isinstance (by rfl) (B.free 21) bt_bool (q_fld (qv 0)))))))) (qb_one (qs_ret (q_bl))) (qb_nil))
      (qb_cons (qs_expr (q_bm PySem.F.plainAttrs_list PySem.F.slot_list_append PySem.F.type_list_append mt_append q_appW (qv 3) (qa_cons (q_int) (qa_nil))))
      (qb_one (qs_ret (qe_cmp (op_eqW hu) q_eqW (q_met0 (mets_cons ((k_Network_numbers B).met (B.says.fact 2) (B.says.fact 14)) (by decide) (mets_nil)) tk hr (qv 0)) (q_cb call_sortW q_sortW (by rfl) (B.free 17) bt_sorted (qa_cons (q_cty (call_lstd (by rfl)) q_lstdW (by rfl) (B.free 16) bt_list (qa_cons (qv 1) (qa_nil))) (qa_nil))) (nomark _)))))))
theorem sc_law : FnScope ["_law_script", "_law_draws", "_law_networks", "_law_bags", "_law_sent_here", "_law_step", "_law_draw_here", "_law_more", "_law_which", "_law_bag", "_law_message_here", "_law_number", "_law_drops", "_law_due"] ["_law_script"] (defScope st_law) := ⟨rfl, rfl, rfl, by decide +kernel, rfl, by decide +kernel, by decide +kernel⟩
theorem f_law {fd : FuncData} (B : Bl P w K mg base) (F : FxD K d_law fd) : FnOk P w K mg base (L2.CX P w) 9 (He.ga K "law") fd ["_law_script"] (spL K (He.ga K) F_law) := by
  refine qf_okL F sc_law fun cdv A outer s H E hr => ?_
  have tk := takes_of (X := cxOf (L2.CX P w) P w K mg base ["_law_script", "_law_draws", "_law_networks", "_law_bags", "_law_sent_here", "_law_step", "_law_draw_here", "_law_more", "_law_which", "_law_bag", "_law_message_here", "_law_number", "_law_drops", "_law_due"] "law" (defScope st_law) (d_law.ad K) cdv A outer s H E) rfl rfl rfl rfl
  have nd := sc_law.nd
  have hu := hr.units
  have hu5 := room65 hr
  have hu1 := room1 hr
  have hpo := passes_of (X := cxOf (L2.CX P w) P w K mg base ["_law_script", "_law_draws", "_law_networks", "_law_bags", "_law_sent_here", "_law_step", "_law_draw_here", "_law_more", "_law_which", "_law_bag", "_law_message_here", "_law_number", "_law_drops", "_law_due"] "law" (defScope st_law) (d_law.ad K) cdv A outer s H E) rfl
  show QB _ _ _ _ F_law_b
  exact qb_cons (qs_set 1 nd (q_cal ((k__law_stream B).cal (B.glo 0)) tk hr (by decide) (by rfl) (qa_cons (qv 0) (qa_cons (q_int) (qa_nil)))))
      (qb_cons (qs_set 2 nd (q_lst (qa_cons (q_make0 ((k_Network___init__ B).mkr (B.glo 1) (B.says.fact 2) (B.says.fact 3)) tk hr (by decide) (by rfl)) (qa_cons (q_make0 ((k_Network___init__ B).mkr (B.glo 1) (B.says.fact 2) (B.says.fact 3)) tk hr (by decide) (by rfl)) (qa_nil)))))
      (qb_cons (qs_set 3 nd (q_lst (qa_cons (q_dnewK) (qa_cons (q_dnewK) (qa_nil)))))
      (qb_cons (qs_set 4 nd (q_lst (qa_cons (q_int) (qa_cons (q_int) (qa_nil)))))
      (qb_cons (qs_if (qt_not (qt_truth (q_cal ((k__law_holds B).cal (B.glo 4)) tk hr (by decide) (by rfl) (qa_cons (q_ix (qv 2) (q_int)) (qa_cons (q_dnewK) (qa_cons (q_int) (qa_nil))))))) (qb_one (qs_ret (q_bl))) (qb_nil))
      (qb_cons (qs_for hpo rfl (qi_rng1 (by rfl) (B.free 7) (qa_cons (q_cb (call_min2 rfl) q_min2W (by rfl) (B.free 6) bt_min (qa_cons (q_int) (qa_cons (q_fdiv (q_cb call_lenW q_lenW (by rfl) (B.free 5) bt_len (qa_cons (qv 1) (qa_nil))) (q_int)) (qa_nil)))) (qa_nil))) (qg_name 5 nd) (qb_cons (qs_set 6 nd (q_cal ((k__law_draw B).cal (B.glo 8)) tk hr (by decide) (by rfl) (qa_cons (qv 1) (qa_cons (q_mul (q_int) (qv 5)) (qa_nil)))))
      (qb_cons (qs_set 7 nd (q_cal ((k__law_draw B).cal (B.glo 8)) tk hr (by decide) (by rfl) (qa_cons (qv 1) (qa_cons (q_add (q_mul (q_int) (qv 5)) (q_int)) (qa_nil)))))
      (qb_cons (qs_set 8 nd (q_mod (qv 6) (q_int)))
      (qb_cons (qs_set 9 nd (q_ix (qv 3) (qv 8)))
      (qb_cons (qs_if (qt_cmp (op_ltW) q_ordW (q_mod (q_fdiv (qv 6) (q_int)) (q_int)) (q_int) (nomark _)) (qb_cons (qs_set 10 nd (q_cal ((k__law_message B).cal (B.glo 9)) tk hr (by decide) (by rfl) (qa_cons (qv 7) (qa_nil))))
      (qb_cons (qs_put (qv 4) (qv 8) (q_add (q_ix (qv 4) (qv 8)) (q_int)))
      (qb_cons (qs_if (qt_cmp (op_neW hu) q_eqW (q_cal ((k__law_sent B).cal (B.glo 10)) tk hr (by decide) (by rfl) (qa_cons (q_ix (qv 2) (qv 8)) (qa_cons (qv 10) (qa_nil)))) (q_tup (qa_cons (q_str) (qa_cons (q_ix (qv 4) (qv 8)) (qa_nil)))) (nomark _)) (qb_one (qs_ret (q_bl))) (qb_nil))
      (qb_one (qs_putD hu1 (qv 9) (q_ix (qv 4) (qv 8)) (qv 10)))))) (qb_one (qs_if (qt_cmp (op_eqW hu) q_eqW (q_mod (q_fdiv (qv 6) (q_int)) (q_int)) (q_int) (nomark _)) (qb_one (qs_if (qt_cmp (op_neW hu) q_eqW (q_cal ((k__law_sent B).cal (B.glo 10)) tk hr (by decide) (by rfl) (qa_cons (q_ix (qv 2) (qv 8)) (qa_cons (q_cal ((k__law_bad B).cal (B.glo 11)) tk hr (by decide) (by rfl) (qa_cons (qv 7) (qa_nil))) (qa_nil)))) (q_tup (qa_cons (q_str) (qa_cons (q_bl) (qa_nil)))) (nomark _)) (qb_one (qs_ret (q_bl))) (qb_nil))) (qb_cons (qs_set 11 nd (q_sub (q_mod (qv 7) (q_add (q_ix (qv 4) (qv 8)) (q_int))) (q_int)))
      (qb_cons (qs_set 12 nd (qe_cmp (op_eqW hu) q_eqW (q_mod (q_fdiv (qv 6) (q_int)) (q_int)) (q_int) (nomark _)))
      (qb_cons (qs_set 13 nd (q_tup (qa_cons (q_str) (qa_cons (q_bl) (qa_nil)))))
      (qb_cons (qs_if (qt_cmp (OpR.or (op_inDct hu1) (op_inW hu5)) q_inDW (qv 11) (qv 9) (by rfl)) (qb_cons (qs_set 13 nd (q_tup (qa_cons (q_str) (qa_cons (q_ix (q_tup (qa_cons (q_ixD hu1 (qv 9) (qv 11) (by intro _ _; rfl)) (qa_cons (q_non) (qa_nil)))) (q_cty call_int1 q_intcW (by rfl) (B.free 12) bt_int (qa_cons (qv 12) (qa_nil)))) (qa_nil)))))
      (qb_one (qs_if (qt_truth (qv 12)) (qb_one (qs_expr (q_dpop1 (qv 9) (qv 11) ⟨by rfl, by rfl, by rfl, by rfl⟩))) (qb_nil)))) (qb_nil))
      (qb_one (qs_if (qt_cmp (op_neW hu) q_eqW (q_cal ((k__law_looked B).cal (B.glo 13)) tk hr (by decide) (by rfl) (qa_cons (q_ix (qv 2) (qv 8)) (qa_cons (qv 11) (qa_cons (qv 12) (qa_nil))))) (qv 13) (nomark _)) (qb_one (qs_ret (q_bl))) (qb_nil))))))))))
      (qb_one (qs_if (QW.pt (qw_or (qt_not (qt_truth (q_cal ((k__law_holds B).cal (B.glo 4)) tk hr (by decide) (by rfl) (qa_cons (q_ix (qv 2) (q_int)) (qa_cons (q_ixD hu1 (qv 3) (q_int) (by intro _ _; rfl)) (qa_cons (q_ix (qv 4) (q_int)) (qa_nil))))))) (qw_or1 (qt_not (qt_truth (q_cal ((k__law_holds B).cal (B.glo 4)) tk hr (by decide) (by rfl) (qa_cons (q_ix (qv 2) (q_int)) (qa_cons (q_ixD hu1 (qv 3) (q_int) (by intro _ _; rfl)) (qa_cons (q_ix (qv 4) (q_int)) (qa_nil)))))))))) (qb_one (qs_ret (q_bl))) (qb_nil)))))))))
      (qb_cons (qs_lock (eIxD (eV 3) (eC (.int 0))) (qs_for hpo rfl (qi_keys (q_ixD hu1 (qv 3) (q_int) (by intro _ _; rfl))) (qg_name 11 nd) (qb_one (qs_if (qt_cmp (op_neW hu) q_eqW (q_cal ((k__law_looked B).cal (B.glo 13)) tk hr (by decide) (by rfl) (qa_cons (q_ix (qv 2) (q_int)) (qa_cons (qv 11) (qa_cons (q_bl) (qa_nil))))) (q_tup (qa_cons (q_str) (qa_cons (q_ixD hu1 (q_ixD hu1 (qv 3) (q_int) (by intro _ _; rfl)) (qv 11) (by intro _ _; rfl)) (qa_nil)))) (nomark _)) (qb_one (qs_ret (q_bl))) (qb_nil)))))
      (qb_one (qs_ret (q_bl)))))))))
end
theorem law_fn {P : Program} {w : World} {K : PySem.W.Frag} {mg : Str → Option Value} {fa : Addr} {h : Heap} (Q : (SaysK fal fnl tsl w K ∧ TabX (tfOf fnl) h K) ∧ ∃ h2 : Heap, h2 = h ∧ K.In h2 ∧ h2.Ns mainGlobals mg) (hmg : mg ("law" : Str) = some (.ref fa)) :
    ∃ (K : PySem.W.Frag) (fd : FuncData) (cs : List (Addr × Addr)), K.In h ∧ (∀ p ∈ cs, h.get? p.2 = some { cls := .none, data := .fields #[] }) ∧ (∀ p ∈ cs, K.lookup p.2 = none) ∧ (∀ p ∈ cs, PySem.W.CodeHd h p.1 p.2) ∧ (∀ P ∈ tabA K, ∃ p ∈ cs, p.2 = P) ∧
      (∀ (s : Shared) (u : Value), BindsTo s fd ⟨[u], []⟩ [("_law_script", u)]) ∧ ∀ base : Heap, (∀ p ∈ cs, LamX.TabB base mg p.1 p.2) → FnOk P w K mg base (L2.CX P w) 9 fa fd ["_law_script"] (spL K (He.ga K) F_law) := by
  obtain ⟨⟨ck, tx⟩, h2, rfl, KX, G⟩ := Q
  have c := ck.x
  obtain ⟨fd, F⟩ := c.def_ 22 (d := d_law) rfl
  have e := hmg.symm.trans (He.glo_ok KX G (c.fact 78 (f := .fa (.glo "law")) rfl))
  cases e
  obtain ⟨cs, rfl, t1, t2, t3, t4⟩ := tx.end_ KX
  refine ⟨K, fd, _, KX, t1, t2, t3, t4, fun s v => FunD.bindsA (ps := ["_law_script"]) F (fun _ _ _ _ _ _ us hl => match us, hl with | [_], _ => rfl) s [v] rfl, fun base tb => ?_⟩
  have tb2 : ∀ d ∈ tfOf fnl, LamX.TabB base mg (cX K d).1 (cX K d).2 ∧ (cX K d).2 ∈ tabA K := fun d hd => ⟨tb _ (List.mem_map.mpr ⟨d, hd, rfl⟩), tx.one d hd⟩
  have B : Bl P w K mg base := ⟨⟨c, ⟨h2, KX, G⟩, tb2⟩, ck⟩
  exact f_law B F
abbrev Rr : PySem.W.OpenRow := PySem.W.OpenLaw.row PySem.Challenge.rw_ringheld_k51_network_keeps_messages
abbrev hk : PySem.W.Hook := hookK 7 fal fnl tsl
def ob (s : PySem.W.SharedT) : AlK × Bool := obsKG 7 fal fnl tsl (HandSHeadRun.getT s)
theorem ob_eq (s : PySem.W.SharedT) : ob s = hk.obs s.abs := obsKG_eq (HandSHeadRun.getT_eq s)
def looseN : List PySem.Str := ("is_integer" : PySem.Str) :: ("is_number" : PySem.Str) :: ("has_only" : PySem.Str) :: ("is_text" : PySem.Str) :: ("is_key" : PySem.Str) :: ("is_end" : PySem.Str) :: ("is_part" : PySem.Str) :: ("is_body" : PySem.Str) :: ("is_message" : PySem.Str) :: ("_law_stream" : PySem.Str) :: ("_law_draw" : PySem.Str) :: ("_law_message" : PySem.Str) :: ("_law_bad" : PySem.Str) :: ("_law_sent" : PySem.Str) :: ("_law_looked" : PySem.Str) :: ("_law_holds" : PySem.Str) :: ("RingError" : PySem.Str) :: ("BadValue" : PySem.Str) :: ("Busy" : PySem.Str) :: ("Unknown" : PySem.Str) :: ("Network" : PySem.Str) :: ("GREATEST" : PySem.Str) :: ("CHARACTERS" : PySem.Str) :: ("FORMS" : PySem.Str) :: []
theorem run (w : World) : HandSHeadRun.RunEq Rr (PySem.W.view Rr.prog [29]) hk ob 4000 looseN w := by
  have h : ∀ (b : Bool) (w : World), HandSHeadRun.RunEq Rr (PySem.W.view Rr.prog [29]) hk ob 4000 looseN (w.withFollow "special-get-raises" b) := fun b w => by
    cases b <;> (intro os; kernel_rfl)
  have e := h (w.params.followText "special-get-raises") w
  rwa [PySem.World.withFollow_self] at e
end Y

namespace ZP
open PySem L2 Z

inductive Zv where
  | non | bl (b : Bool) | int (i : Int) | str (x : Str) | tup (xs : List Zv) | frz (xs : List Zv) | lst (xs : List Zv) | dct (k : Bool) (kvs : List (Zv × Zv)) | ins (c : Str) (fs : List (Str × Zv)) | exn (a : Nat) (c : Str)
inductive T where
  | z (v : Zv) | lst (xs : List Zv) | nst (ts : List T) | dct (k : Bool) (kvs : List (Zv × Zv)) | ins (c : Str) (fs : List (Str × T))

inductive A2 {α β : Type} (R : α → β → Prop) : List α → List β → Prop
  | nil : A2 R [] []
  | cons {a b xs ys} : R a b → A2 R xs ys → A2 R (a :: xs) (b :: ys)
theorem A2.imp {α β : Type} {R Q : α → β → Prop} {xs : List α} {ys : List β} (h : A2 R xs ys) (k : ∀ a b, a ∈ xs → b ∈ ys → R a b → Q a b) : A2 Q xs ys := by
  induction h with
  | nil => exact .nil
  | cons r _ ih => exact .cons (k _ _ (List.mem_cons_self ..) (List.mem_cons_self ..) r) (ih fun a b ha hb q => k a b (List.mem_cons_of_mem _ ha) (List.mem_cons_of_mem _ hb) q)
theorem A2.length {α β : Type} {R : α → β → Prop} {xs : List α} {ys : List β} (h : A2 R xs ys) : xs.length = ys.length := by
  induction h with
  | nil => rfl
  | cons _ _ ih => simp [ih]
theorem A2.get {α β : Type} {R : α → β → Prop} {xs : List α} {ys : List β} (h : A2 R xs ys) : ∀ {i : Nat} {b : β}, ys[i]? = some b → ∃ a, xs[i]? = some a ∧ R a b := by
  induction h with
  | nil => intro i b e; simp at e
  | cons r _ ih =>
    intro i b e
    cases i with
    | zero => simp at e; subst e; exact ⟨_, rfl, r⟩
    | succ i => simpa using ih (i := i) (by simpa using e)
theorem A2.append {α β : Type} {R : α → β → Prop} {xs xs' : List α} {ys ys' : List β} (h : A2 R xs ys) (g : A2 R xs' ys') : A2 R (xs ++ xs') (ys ++ ys') := by
  induction h with
  | nil => exact g
  | cons r _ ih => exact .cons r ih
theorem A2.take {α β : Type} {R : α → β → Prop} {xs : List α} {ys : List β} (h : A2 R xs ys) : ∀ n, A2 R (xs.take n) (ys.take n) := by
  induction h with
  | nil => intro n; simpa using .nil
  | cons r _ ih =>
    intro n
    cases n with
    | zero => exact .nil
    | succ n => exact .cons r (ih n)
theorem A2.drop {α β : Type} {R : α → β → Prop} {xs : List α} {ys : List β} (h : A2 R xs ys) : ∀ n, A2 R (xs.drop n) (ys.drop n) := by
  induction h with
  | nil => intro n; simpa using .nil
  | cons r s ih =>
    intro n
    cases n with
    | zero => exact .cons r s
    | succ n => exact ih n
theorem A2.set {α β : Type} {R : α → β → Prop} {xs : List α} {ys : List β} (h : A2 R xs ys) {a : α} {b : β} (r : R a b) : ∀ n, A2 R (xs.set n a) (ys.set n b) := by
  induction h with
  | nil => intro n; exact .nil
  | cons q s ih =>
    intro n
    cases n with
    | zero => exact .cons r s
    | succ n => exact .cons q (ih n)
theorem A2.mem {α β : Type} {R : α → β → Prop} {xs : List α} {ys : List β} (h : A2 R xs ys) {b : β} (m : b ∈ ys) : ∃ a, a ∈ xs ∧ R a b := by
  obtain ⟨i, hi, e⟩ := List.mem_iff_getElem.mp m
  obtain ⟨a, ha, r⟩ := h.get (i := i) (b := b) (by rw [List.getElem?_eq_getElem hi, e])
  exact ⟨a, List.mem_of_getElem? ha, r⟩
theorem A2.of_get {α β : Type} {R : α → β → Prop} : ∀ {xs : List α} {ys : List β}, xs.length = ys.length → (∀ (i : Nat) (a : α) (b : β), xs[i]? = some a → ys[i]? = some b → R a b) → A2 R xs ys
  | [], [], _, _ => .nil
  | a :: xs, b :: ys, hl, k => .cons (k 0 a b rfl rfl) (A2.of_get (by simpa using hl) fun i a b ha hb => k (i + 1) a b (by simpa using ha) (by simpa using hb))
  | [], _ :: _, hl, _ => by simp at hl
  | _ :: _, [], hl, _ => by simp at hl
theorem A2.map_right {α β γ : Type} {R : α → β → Prop} {Q : α → γ → Prop} {f : β → γ} {xs : List α} {ys : List β} (h : A2 R xs ys) (k : ∀ a b, R a b → Q a (f b)) : A2 Q xs (ys.map f) := by
  induction h with
  | nil => exact .nil
  | cons r _ ih => exact .cons (k _ _ r) ih
def mapO {α β : Type} (f : α → Option β) : List α → Option (List β)
  | [] => some []
  | a :: r => match f a, mapO f r with
    | some b, some s => some (b :: s)
    | _, _ => none
theorem mapO_iff {α β : Type} {f : α → Option β} : ∀ {xs : List α} {ys : List β}, mapO f xs = some ys ↔ A2 (fun a b => f a = some b) xs ys := by
  intro xs
  induction xs with
  | nil =>
    intro ys
    constructor
    · intro h; simp [mapO] at h; subst h; exact .nil
    · intro h; cases h; rfl
  | cons a r ih =>
    intro ys
    constructor
    · intro h
      unfold mapO at h
      split at h
      · rename_i b s h1 h2
        cases h
        exact .cons h1 (ih.mp h2)
      · cases h
    · intro h
      cases h with
      | cons h1 h2 =>
        unfold mapO
        rw [h1, ih.mpr h2]
abbrev Cel := Nat → Bool
def rdP (f : W → Option Zv) (p : W × W) : Option (Zv × Zv) := match f p.1, f p.2 with
  | some a, some b => some (a, b)
  | _, _ => none
def rdF (f : W → Option Zv) (p : Str × W) : Option (Str × Zv) := match f p.2 with
  | some b => some (p.1, b)
  | none => none
def rd (S : Cel) (h : Hq) : Nat → W → Option Zv
  | 0, _ => none
  | _ + 1, .non => some .non
  | _ + 1, .bl b => some (.bl b)
  | _ + 1, .int i => some (.int i)
  | _ + 1, .str x => some (.str x)
  | _ + 1, .exn a c => some (.exn a c)
  | k + 1, .tup ws => (mapO (rd S h k) ws).map Zv.tup
  | k + 1, .frz ws => (mapO (rd S h k) ws).map Zv.frz
  | _ + 1, .kt _ => none
  | k + 1, .ref n => if S n then (match h[n]? with
    | some (.lst _ ws) => (mapO (rd S h k) ws).map Zv.lst
    | some (.dct _ b kws) => (mapO (rdP (rd S h k)) kws).map (Zv.dct b)
    | some (.ins c fs) => (mapO (rdF (rd S h k)) fs).map (Zv.ins c)
    | none => none) else none
def DZ (S : Cel) (h : Hq) (w : W) (v : Zv) : Prop := ∃ k, rd S h k w = some v
def DZ2 (S : Cel) (h : Hq) (p : W × W) (q : Zv × Zv) : Prop := DZ S h p.1 q.1 ∧ DZ S h p.2 q.2
def DZF (S : Cel) (h : Hq) (p : Str × W) (q : Str × Zv) : Prop := p.1 = q.1 ∧ DZ S h p.2 q.2
theorem rd_mono {S S' : Cel} {h h' : Hq} (hS : ∀ n, S n = true → S' n = true) (hh : ∀ n, S n = true → h'[n]? = h[n]?) : ∀ (k : Nat) (w : W) (v : Zv) (k' : Nat), k ≤ k' → rd S h k w = some v → rd S' h' k' w = some v := by
  intro k
  induction k with
  | zero => intro w v k' _ e; simp [rd] at e
  | succ k ih =>
    intro w v k' hk e
    obtain ⟨j, rfl⟩ : ∃ j, k' = j + 1 := ⟨k' - 1, by omega⟩
    have hj : k ≤ j := by omega
    have key : ∀ {ws : List W} {vs : List Zv}, mapO (rd S h k) ws = some vs → mapO (rd S' h' j) ws = some vs := fun {ws vs} q => mapO_iff.mpr ((mapO_iff.mp q).imp fun a b _ _ r => ih a b j hj r)
    have key2 : ∀ {ws : List (W × W)} {vs : List (Zv × Zv)}, mapO (rdP (rd S h k)) ws = some vs → mapO (rdP (rd S' h' j)) ws = some vs := fun {ws vs} q => mapO_iff.mpr ((mapO_iff.mp q).imp fun a b _ _ r => by
      unfold rdP at r ⊢
      split at r
      · rename_i x y h1 h2
        rw [ih _ _ j hj h1, ih _ _ j hj h2]; exact r
      · cases r)
    have key3 : ∀ {ws : List (Str × W)} {vs : List (Str × Zv)}, mapO (rdF (rd S h k)) ws = some vs → mapO (rdF (rd S' h' j)) ws = some vs := fun {ws vs} q => mapO_iff.mpr ((mapO_iff.mp q).imp fun a b _ _ r => by
      unfold rdF at r ⊢
      split at r
      · rename_i x h1
        rw [ih _ _ j hj h1]; exact r
      · cases r)
    cases w with
    | non => exact e
    | bl b => exact e
    | int i => exact e
    | str x => exact e
    | exn a c => exact e
    | tup ws =>
      simp only [rd, Option.map_eq_some_iff] at e ⊢
      obtain ⟨vs, e1, e2⟩ := e
      exact ⟨vs, key e1, e2⟩
    | frz ws =>
      simp only [rd, Option.map_eq_some_iff] at e ⊢
      obtain ⟨vs, e1, e2⟩ := e
      exact ⟨vs, key e1, e2⟩
    | kt ws => simp [rd] at e
    | ref n =>
      unfold rd at e ⊢
      split at e
      · rename_i hn
        rw [if_pos (hS n hn), hh n hn]
        split at e
        · obtain ⟨vs, e1, e2⟩ := Option.map_eq_some_iff.mp e
          exact Option.map_eq_some_iff.mpr ⟨vs, key e1, e2⟩
        · obtain ⟨vs, e1, e2⟩ := Option.map_eq_some_iff.mp e
          exact Option.map_eq_some_iff.mpr ⟨vs, key2 e1, e2⟩
        · obtain ⟨vs, e1, e2⟩ := Option.map_eq_some_iff.mp e
          exact Option.map_eq_some_iff.mpr ⟨vs, key3 e1, e2⟩
        · cases e
      · cases e
theorem DZ.mono {S S' : Cel} {h h' : Hq} (hS : ∀ n, S n = true → S' n = true) (hh : ∀ n, S n = true → h'[n]? = h[n]?) {w : W} {v : Zv} (d : DZ S h w v) : DZ S' h' w v := by
  obtain ⟨k, e⟩ := d
  exact ⟨k, rd_mono hS hh k w v k (Nat.le_refl k) e⟩
theorem rd_up {S : Cel} {h : Hq} {k k' : Nat} {w : W} {v : Zv} (hk : k ≤ k') (e : rd S h k w = some v) : rd S h k' w = some v := rd_mono (fun _ q => q) (fun _ _ => rfl) k w v k' hk e
theorem A2.fuel {α β : Type} {R : Nat → α → β → Prop} (mono : ∀ k k' a b, k ≤ k' → R k a b → R k' a b) {xs : List α} {ys : List β} (h : A2 (fun a b => ∃ k, R k a b) xs ys) : ∃ k, A2 (R k) xs ys := by
  induction h with
  | nil => exact ⟨0, .nil⟩
  | cons r _ ih =>
    obtain ⟨k1, r⟩ := r
    obtain ⟨k2, ih⟩ := ih
    exact ⟨max k1 k2, .cons (mono _ _ _ _ (Nat.le_max_left ..) r) (ih.imp fun a b _ _ q => mono _ _ _ _ (Nat.le_max_right ..) q)⟩
section
variable {S : Cel} {h : Hq}
theorem dzs_iff {ws : List W} {vs : List Zv} : A2 (DZ S h) ws vs ↔ ∃ k, mapO (rd S h k) ws = some vs := by
  constructor
  · intro a
    obtain ⟨k, q⟩ := A2.fuel (R := fun k a b => rd S h k a = some b) (fun k k' a b hk e => rd_up hk e) a
    exact ⟨k, mapO_iff.mpr q⟩
  · rintro ⟨k, e⟩
    exact (mapO_iff.mp e).imp fun a b _ _ q => ⟨k, q⟩
theorem dzk_iff {ws : List (W × W)} {vs : List (Zv × Zv)} : A2 (DZ2 S h) ws vs ↔ ∃ k, mapO (rdP (rd S h k)) ws = some vs := by
  constructor
  · intro a
    obtain ⟨k, q⟩ := A2.fuel (R := fun k (a : W × W) (b : Zv × Zv) => rd S h k a.1 = some b.1 ∧ rd S h k a.2 = some b.2) (fun k k' a b hk e => ⟨rd_up hk e.1, rd_up hk e.2⟩) (a.imp fun a b _ _ q => by
      obtain ⟨⟨k1, q1⟩, ⟨k2, q2⟩⟩ := q
      exact ⟨max k1 k2, rd_up (Nat.le_max_left ..) q1, rd_up (Nat.le_max_right ..) q2⟩)
    exact ⟨k, mapO_iff.mpr (q.imp fun a b _ _ e => by unfold rdP; rw [e.1, e.2])⟩
  · rintro ⟨k, e⟩
    exact (mapO_iff.mp e).imp fun a b _ _ q => by
      unfold rdP at q
      split at q
      · rename_i h1 h2; cases q; exact ⟨⟨k, h1⟩, ⟨k, h2⟩⟩
      · cases q
theorem dzf_iff {ws : List (Str × W)} {vs : List (Str × Zv)} : A2 (DZF S h) ws vs ↔ ∃ k, mapO (rdF (rd S h k)) ws = some vs := by
  constructor
  · intro a
    obtain ⟨k, q⟩ := A2.fuel (R := fun k (a : Str × W) (b : Str × Zv) => a.1 = b.1 ∧ rd S h k a.2 = some b.2) (fun k k' a b hk e => ⟨e.1, rd_up hk e.2⟩) (a.imp fun a b _ _ q => by
      obtain ⟨q1, ⟨k2, q2⟩⟩ := q
      exact ⟨k2, q1, q2⟩)
    exact ⟨k, mapO_iff.mpr (q.imp fun a b _ _ e => by unfold rdF; rw [e.2, e.1])⟩
  · rintro ⟨k, e⟩
    exact (mapO_iff.mp e).imp fun a b _ _ q => by
      unfold rdF at q
      split at q
      · rename_i h1; cases q; exact ⟨rfl, ⟨k, h1⟩⟩
      · cases q
theorem dz_non : DZ S h .non .non := ⟨1, rfl⟩
theorem dz_bl {b : Bool} : DZ S h (.bl b) (.bl b) := ⟨1, rfl⟩
theorem dz_int {i : Int} : DZ S h (.int i) (.int i) := ⟨1, rfl⟩
theorem dz_str {x : Str} : DZ S h (.str x) (.str x) := ⟨1, rfl⟩
theorem dz_exn {a : Nat} {c : Str} : DZ S h (.exn a c) (.exn a c) := ⟨1, rfl⟩
theorem dz_tup {ws : List W} {vs : List Zv} (a : A2 (DZ S h) ws vs) : DZ S h (.tup ws) (.tup vs) := by
  obtain ⟨k, e⟩ := dzs_iff.mp a
  exact ⟨k + 1, by simp [rd, e]⟩
theorem dz_frz {ws : List W} {vs : List Zv} (a : A2 (DZ S h) ws vs) : DZ S h (.frz ws) (.frz vs) := by
  obtain ⟨k, e⟩ := dzs_iff.mp a
  exact ⟨k + 1, by simp [rd, e]⟩
theorem dz_lst {n t : Nat} {ws : List W} {vs : List Zv} (hs : S n = true) (hn : h[n]? = some (.lst t ws)) (a : A2 (DZ S h) ws vs) : DZ S h (.ref n) (.lst vs) := by
  obtain ⟨k, e⟩ := dzs_iff.mp a
  exact ⟨k + 1, by unfold rd; rw [if_pos hs, hn]; simp [e]⟩
theorem dz_dct {n t : Nat} {b : Bool} {ws : List (W × W)} {vs : List (Zv × Zv)} (hs : S n = true) (hn : h[n]? = some (.dct t b ws)) (a : A2 (DZ2 S h) ws vs) : DZ S h (.ref n) (.dct b vs) := by
  obtain ⟨k, e⟩ := dzk_iff.mp a
  exact ⟨k + 1, by unfold rd; rw [if_pos hs, hn]; simp [e]⟩
theorem dz_ins {n : Nat} {c : Str} {ws : List (Str × W)} {vs : List (Str × Zv)} (hs : S n = true) (hn : h[n]? = some (.ins c ws)) (a : A2 (DZF S h) ws vs) : DZ S h (.ref n) (.ins c vs) := by
  obtain ⟨k, e⟩ := dzf_iff.mp a
  exact ⟨k + 1, by unfold rd; rw [if_pos hs, hn]; simp [e]⟩
theorem DZ.inv {w : W} {v : Zv} (d : DZ S h w v) : match w with
    | .non => v = .non
    | .bl b => v = .bl b
    | .int i => v = .int i
    | .str x => v = .str x
    | .exn a c => v = .exn a c
    | .tup ws => ∃ vs, v = .tup vs ∧ A2 (DZ S h) ws vs
    | .frz ws => ∃ vs, v = .frz vs ∧ A2 (DZ S h) ws vs
    | .kt _ => False
    | .ref n => S n = true ∧ ((∃ t ws vs, h[n]? = some (.lst t ws) ∧ v = .lst vs ∧ A2 (DZ S h) ws vs) ∨ (∃ t b ws vs, h[n]? = some (.dct t b ws) ∧ v = .dct b vs ∧ A2 (DZ2 S h) ws vs) ∨ ∃ c ws vs, h[n]? = some (.ins c ws) ∧ v = .ins c vs ∧ A2 (DZF S h) ws vs) := by
  obtain ⟨k, e⟩ := d
  cases k with
  | zero => simp [rd] at e
  | succ k =>
    cases w with
    | non => simp [rd] at e; exact e.symm
    | bl b => simp [rd] at e; exact e.symm
    | int i => simp [rd] at e; exact e.symm
    | str x => simp [rd] at e; exact e.symm
    | exn a c => simp [rd] at e; exact e.symm
    | tup ws =>
      simp only [rd, Option.map_eq_some_iff] at e
      obtain ⟨vs, e1, e2⟩ := e
      exact ⟨vs, e2.symm, dzs_iff.mpr ⟨k, e1⟩⟩
    | frz ws =>
      simp only [rd, Option.map_eq_some_iff] at e
      obtain ⟨vs, e1, e2⟩ := e
      exact ⟨vs, e2.symm, dzs_iff.mpr ⟨k, e1⟩⟩
    | kt ws => simp [rd] at e
    | ref n =>
      unfold rd at e
      split at e
      · rename_i hn
        refine ⟨hn, ?_⟩
        split at e
        · rename_i q
          obtain ⟨vs, e1, e2⟩ := Option.map_eq_some_iff.mp e
          exact .inl ⟨_, _, vs, q, e2.symm, dzs_iff.mpr ⟨k, e1⟩⟩
        · rename_i q
          obtain ⟨vs, e1, e2⟩ := Option.map_eq_some_iff.mp e
          exact .inr (.inl ⟨_, _, _, vs, q, e2.symm, dzk_iff.mpr ⟨k, e1⟩⟩)
        · rename_i q
          obtain ⟨vs, e1, e2⟩ := Option.map_eq_some_iff.mp e
          exact .inr (.inr ⟨_, _, vs, q, e2.symm, dzf_iff.mpr ⟨k, e1⟩⟩)
        · cases e
      · cases e
theorem dz_non_iff {w : W} : DZ S h w .non ↔ w = .non := by
  constructor
  · intro d; have := d.inv; cases w <;> simp at this ⊢
  · rintro rfl; exact dz_non
theorem dz_bl_iff {w : W} {b : Bool} : DZ S h w (.bl b) ↔ w = .bl b := by
  constructor
  · intro d; have := d.inv; cases w <;> simp at this ⊢; exact this.symm
  · rintro rfl; exact dz_bl
theorem dz_int_iff {w : W} {i : Int} : DZ S h w (.int i) ↔ w = .int i := by
  constructor
  · intro d; have := d.inv; cases w <;> simp at this ⊢; exact this.symm
  · rintro rfl; exact dz_int
theorem dz_str_iff {w : W} {x : Str} : DZ S h w (.str x) ↔ w = .str x := by
  constructor
  · intro d; have := d.inv; cases w <;> simp at this ⊢; exact this.symm
  · rintro rfl; exact dz_str
theorem dz_exn_iff {w : W} {a : Nat} {c : Str} : DZ S h w (.exn a c) ↔ w = .exn a c := by
  constructor
  · intro d; have := d.inv; cases w <;> simp at this ⊢; exact ⟨this.1.symm, this.2.symm⟩
  · rintro rfl; exact dz_exn
theorem dz_tup_iff {w : W} {vs : List Zv} : DZ S h w (.tup vs) ↔ ∃ ws, w = .tup ws ∧ A2 (DZ S h) ws vs := by
  constructor
  · intro d; have := d.inv; cases w <;> simp at this ⊢; exact this
  · rintro ⟨ws, rfl, a⟩; exact dz_tup a
theorem dz_frz_iff {w : W} {vs : List Zv} : DZ S h w (.frz vs) ↔ ∃ ws, w = .frz ws ∧ A2 (DZ S h) ws vs := by
  constructor
  · intro d; have := d.inv; cases w <;> simp at this ⊢; exact this
  · rintro ⟨ws, rfl, a⟩; exact dz_frz a
theorem dz_lst_iff {w : W} {vs : List Zv} : DZ S h w (.lst vs) ↔ ∃ n t ws, w = .ref n ∧ S n = true ∧ h[n]? = some (.lst t ws) ∧ A2 (DZ S h) ws vs := by
  constructor
  · intro d; have := d.inv
    cases w with
    | frz ws => obtain ⟨vs', e, a⟩ := this; cases e
    | ref n =>
      obtain ⟨hs, ⟨t, ws, vs', hn, e, a⟩ | ⟨_, _, _, _, _, e, _⟩ | ⟨_, _, _, _, e, _⟩⟩ := this
      · cases e; exact ⟨n, t, ws, rfl, hs, hn, a⟩
      · cases e
      · cases e
    | tup ws => obtain ⟨_, e, _⟩ := this; cases e
    | _ => simp at this
  · rintro ⟨n, t, ws, rfl, hs, hn, a⟩
    exact dz_lst hs hn a
theorem dz_dct_iff {w : W} {b : Bool} {vs : List (Zv × Zv)} : DZ S h w (.dct b vs) ↔ ∃ n t ws, w = .ref n ∧ S n = true ∧ h[n]? = some (.dct t b ws) ∧ A2 (DZ2 S h) ws vs := by
  constructor
  · intro d; have := d.inv
    cases w with
    | frz ws => obtain ⟨vs', e, a⟩ := this; cases e
    | ref n =>
      obtain ⟨hs, ⟨t, ws, vs', hn, e, a⟩ | ⟨_, _, _, _, hn, e, a⟩ | ⟨_, _, _, _, e, _⟩⟩ := this
      · cases e
      · cases e; exact ⟨n, _, _, rfl, hs, hn, a⟩
      · cases e
    | tup ws => obtain ⟨_, e, _⟩ := this; cases e
    | _ => simp at this
  · rintro ⟨n, t, ws, rfl, hs, hn, a⟩
    exact dz_dct hs hn a
theorem dz_ins_iff {w : W} {c : Str} {vs : List (Str × Zv)} : DZ S h w (.ins c vs) ↔ ∃ n ws, w = .ref n ∧ S n = true ∧ h[n]? = some (.ins c ws) ∧ A2 (DZF S h) ws vs := by
  constructor
  · intro d; have := d.inv
    cases w with
    | frz ws => obtain ⟨vs', e, a⟩ := this; cases e
    | ref n =>
      obtain ⟨hs, ⟨t, ws, vs', hn, e, a⟩ | ⟨_, _, _, _, hn, e, a⟩ | ⟨_, _, _, hn, e, a⟩⟩ := this
      · cases e
      · cases e
      · cases e; exact ⟨n, _, rfl, hs, hn, a⟩
    | tup ws => obtain ⟨_, e, _⟩ := this; cases e
    | _ => simp at this
  · rintro ⟨n, ws, rfl, hs, hn, a⟩
    exact dz_ins hs hn a
end

abbrev Pth := List Nat
abbrev Ow := Nat → Option Pth
def noO : Ow := fun _ => none
def Dk (S : Cel) (h : Hq) (o : Ow) : Nat → Pth → W → T → Prop
  | 0, _, _, _ => False
  | k + 1, p, w, t => match t with
    | .z v => DZ S h w v
    | .lst vs => ∃ n tg ws, w = .ref n ∧ o n = some p ∧ h[n]? = some (.lst tg ws) ∧ A2 (DZ S h) ws vs
    | .dct b kvs => ∃ (n : Nat) (_ : Nat) (ws : List (W × W)), w = .ref n ∧ o n = some p ∧ h[n]? = some (.dct 0 b ws) ∧ A2 (DZ2 S h) ws kvs
    | .nst ts => ∃ n tg ws, w = .ref n ∧ o n = some p ∧ h[n]? = some (.lst tg ws) ∧ ws.length = ts.length ∧ ∀ (i : Nat) (x : W) (u : T), ws[i]? = some x → ts[i]? = some u → Dk S h o k (p ++ [i]) x u
    | .ins c fs => ∃ n ws, w = .ref n ∧ o n = some p ∧ h[n]? = some (.ins c ws) ∧ ws.map Prod.fst = fs.map Prod.fst ∧ ∀ (i : Nat) (x : Str × W) (u : Str × T), ws[i]? = some x → fs[i]? = some u → Dk S h o k (p ++ [i]) x.2 u.2
def D (S : Cel) (h : Hq) (o : Ow) (p : Pth) (w : W) (t : T) : Prop := ∃ k, Dk S h o k p w t
theorem Dk.move {S S' : Cel} {h h' : Hq} {o o' : Ow} {p p' : Pth} (hS : ∀ n, S n = true → S' n = true) (hh : ∀ n, S n = true → h'[n]? = h[n]?)
    (ho : ∀ n q, o n = some (p ++ q) → o' n = some (p' ++ q) ∧ h'[n]? = h[n]?) : ∀ (k : Nat) (r : Pth) (w : W) (t : T) (k' : Nat), k ≤ k' → Dk S h o k (p ++ r) w t → Dk S' h' o' k' (p' ++ r) w t := by
  intro k
  induction k with
  | zero => intro r w t k' _ d; exact d.elim
  | succ k ih =>
    intro r w t k' hk d
    obtain ⟨j, rfl⟩ : ∃ j, k' = j + 1 := ⟨k' - 1, by omega⟩
    have hj : k ≤ j := by omega
    cases t with
    | z v => exact DZ.mono hS hh d
    | lst vs =>
      obtain ⟨n, tg, ws, e, on, hn, a⟩ := d
      obtain ⟨o1, h1⟩ := ho n r on
      exact ⟨n, tg, ws, e, o1, h1.trans hn, a.imp fun _ _ _ _ q => DZ.mono hS hh q⟩
    | dct b vs =>
      obtain ⟨n, tg, ws, e, on, hn, a⟩ := d
      obtain ⟨o1, h1⟩ := ho n r on
      exact ⟨n, tg, ws, e, o1, h1.trans hn, a.imp fun _ _ _ _ q => ⟨DZ.mono hS hh q.1, DZ.mono hS hh q.2⟩⟩
    | nst ts =>
      obtain ⟨n, tg, ws, e, on, hn, hl, a⟩ := d
      obtain ⟨o1, h1⟩ := ho n r on
      refine ⟨n, tg, ws, e, o1, h1.trans hn, hl, fun i x u hx hu => ?_⟩
      have := a i x u hx hu
      rw [List.append_assoc] at this ⊢
      exact ih _ _ _ _ hj this
    | ins c fs =>
      obtain ⟨n, ws, e, on, hn, hl, a⟩ := d
      obtain ⟨o1, h1⟩ := ho n r on
      refine ⟨n, ws, e, o1, h1.trans hn, hl, fun i x u hx hu => ?_⟩
      have := a i x u hx hu
      rw [List.append_assoc] at this ⊢
      exact ih _ _ _ _ hj this
theorem D.move {S S' : Cel} {h h' : Hq} {o o' : Ow} {p p' : Pth} {w : W} {t : T} (d : D S h o p w t) (hS : ∀ n, S n = true → S' n = true) (hh : ∀ n, S n = true → h'[n]? = h[n]?)
    (ho : ∀ n q, o n = some (p ++ q) → o' n = some (p' ++ q) ∧ h'[n]? = h[n]?) : D S' h' o' p' w t := by
  obtain ⟨k, d⟩ := d
  exact ⟨k, by simpa using Dk.move hS hh ho k [] w t k (Nat.le_refl k) (by simpa using d)⟩
theorem Dk.up {S : Cel} {h : Hq} {o : Ow} {p : Pth} {k k' : Nat} {w : W} {t : T} (d : Dk S h o k p w t) (hk : k ≤ k') : Dk S h o k' p w t := by
  simpa using Dk.move (p := []) (p' := []) (fun _ q => q) (fun _ _ => rfl) (fun _ _ q => ⟨q, rfl⟩) k p w t k' hk (by simpa using d)
mutual
def T.toZ : T → Zv
  | .z v => v
  | .lst vs => .lst vs
  | .dct b kvs => .dct b kvs
  | .nst ts => .lst (T.toZs ts)
  | .ins c fs => .ins c (T.toZf fs)
def T.toZs : List T → List Zv
  | [] => []
  | t :: ts => t.toZ :: T.toZs ts
def T.toZf : List (Str × T) → List (Str × Zv)
  | [] => []
  | (f, t) :: ts => (f, t.toZ) :: T.toZf ts
end
theorem toZs_map : ∀ ts : List T, T.toZs ts = ts.map T.toZ
  | [] => rfl
  | t :: ts => by rw [T.toZs, toZs_map ts]; rfl
theorem toZf_map : ∀ ts : List (Str × T), T.toZf ts = ts.map fun p => (p.1, p.2.toZ)
  | [] => rfl
  | (f, t) :: ts => by rw [T.toZf, toZf_map ts]; rfl
theorem Dk.freeze {S S' : Cel} {h h' : Hq} {o : Ow} {p : Pth} (hS : ∀ n, S n = true → S' n = true) (hh : ∀ n, S n = true → h'[n]? = h[n]?)
    (ho : ∀ n q, o n = some (p ++ q) → S' n = true ∧ h'[n]? = h[n]?) : ∀ (k : Nat) (r : Pth) (w : W) (t : T), Dk S h o k (p ++ r) w t → DZ S' h' w t.toZ := by
  intro k
  induction k with
  | zero => intro r w t d; exact d.elim
  | succ k ih =>
    intro r w t d
    cases t with
    | z v => exact DZ.mono hS hh d
    | lst vs =>
      obtain ⟨n, tg, ws, rfl, on, hn, a⟩ := d
      obtain ⟨o1, h1⟩ := ho n r on
      exact dz_lst o1 (h1.trans hn) (a.imp fun _ _ _ _ q => DZ.mono hS hh q)
    | dct b vs =>
      obtain ⟨n, tg, ws, rfl, on, hn, a⟩ := d
      obtain ⟨o1, h1⟩ := ho n r on
      exact dz_dct o1 (h1.trans hn) (a.imp fun _ _ _ _ q => ⟨DZ.mono hS hh q.1, DZ.mono hS hh q.2⟩)
    | nst ts =>
      obtain ⟨n, tg, ws, rfl, on, hn, hl, a⟩ := d
      obtain ⟨o1, h1⟩ := ho n r on
      rw [T.toZ, toZs_map]
      refine dz_lst o1 (h1.trans hn) (A2.map_right (R := fun w t => DZ S' h' w t.toZ) (A2.of_get hl fun i x u hx hu => ?_) fun _ _ q => q)
      have := a i x u hx hu
      rw [List.append_assoc] at this
      exact ih _ _ _ this
    | ins c fs =>
      obtain ⟨n, ws, rfl, on, hn, hl, a⟩ := d
      obtain ⟨o1, h1⟩ := ho n r on
      rw [T.toZ, toZf_map]
      have hl2 : ws.length = fs.length := by simpa using congrArg List.length hl
      refine dz_ins o1 (h1.trans hn) (A2.map_right (R := fun (x : Str × W) (u : Str × T) => x.1 = u.1 ∧ DZ S' h' x.2 u.2.toZ) (A2.of_get hl2 fun i x u hx hu => ?_) fun _ _ q => q)
      have := a i x u hx hu
      rw [List.append_assoc] at this
      refine ⟨?_, ih _ _ _ this⟩
      have e1 : (ws.map Prod.fst)[i]? = some x.1 := by rw [List.getElem?_map, hx]; rfl
      have e2 : (fs.map Prod.fst)[i]? = some u.1 := by rw [List.getElem?_map, hu]; rfl
      rw [hl, e2] at e1
      exact (Option.some.inj e1).symm
theorem D.freeze {S S' : Cel} {h h' : Hq} {o : Ow} {p : Pth} {w : W} {t : T} (d : D S h o p w t) (hS : ∀ n, S n = true → S' n = true) (hh : ∀ n, S n = true → h'[n]? = h[n]?)
    (ho : ∀ n q, o n = some (p ++ q) → S' n = true ∧ h'[n]? = h[n]?) : DZ S' h' w t.toZ := by
  obtain ⟨k, d⟩ := d
  exact Dk.freeze hS hh ho k [] w t (by simpa using d)
theorem D.z_iff {S : Cel} {h : Hq} {o : Ow} {p : Pth} {w : W} {v : Zv} : D S h o p w (.z v) ↔ DZ S h w v :=
  ⟨fun ⟨k, d⟩ => by cases k with
    | zero => exact d.elim
    | succ k => exact d, fun d => ⟨1, d⟩⟩
theorem D.z {S : Cel} {h : Hq} {o : Ow} {p : Pth} {w : W} {v : Zv} (d : DZ S h w v) : D S h o p w (.z v) := ⟨1, d⟩
theorem D.lst_iff {S : Cel} {h : Hq} {o : Ow} {p : Pth} {w : W} {vs : List Zv} : D S h o p w (.lst vs) ↔ ∃ n tg ws, w = .ref n ∧ o n = some p ∧ h[n]? = some (.lst tg ws) ∧ A2 (DZ S h) ws vs :=
  ⟨fun ⟨k, d⟩ => by cases k with
    | zero => exact d.elim
    | succ k => exact d, fun d => ⟨1, d⟩⟩
theorem D.dct_iff {S : Cel} {h : Hq} {o : Ow} {p : Pth} {w : W} {b : Bool} {vs : List (Zv × Zv)} : D S h o p w (.dct b vs) ↔ ∃ (n : Nat) (_ : Nat) (ws : List (W × W)), w = .ref n ∧ o n = some p ∧ h[n]? = some (.dct 0 b ws) ∧ A2 (DZ2 S h) ws vs :=
  ⟨fun ⟨k, d⟩ => by cases k with
    | zero => exact d.elim
    | succ k => exact d, fun d => ⟨1, d⟩⟩
theorem fuel_all {α β : Type} {R : Nat → Nat → α → β → Prop} (mono : ∀ k k' i a b, k ≤ k' → R k i a b → R k' i a b) : ∀ (xs : List α) (ys : List β) (s : Nat), (∀ (i : Nat) (a : α) (b : β), xs[i]? = some a → ys[i]? = some b → ∃ k, R k (s + i) a b) → ∃ k, ∀ (i : Nat) (a : α) (b : β), xs[i]? = some a → ys[i]? = some b → R k (s + i) a b
  | [], ys, s, _ => ⟨0, fun i a b h => by simp at h⟩
  | x :: xs, [], s, _ => ⟨0, fun i a b _ h => by simp at h⟩
  | x :: xs, y :: ys, s, k => by
    obtain ⟨k1, h1⟩ := k 0 x y rfl rfl
    obtain ⟨k2, h2⟩ := fuel_all mono xs ys (s + 1) fun i a b ha hb => by
      have := k (i + 1) a b (by simpa using ha) (by simpa using hb)
      rwa [show s + (i + 1) = s + 1 + i by omega] at this
    refine ⟨max k1 k2, fun i a b ha hb => ?_⟩
    cases i with
    | zero =>
      simp at ha hb; subst ha; subst hb
      exact mono _ _ _ _ _ (Nat.le_max_left ..) h1
    | succ i =>
      have := h2 i a b (by simpa using ha) (by simpa using hb)
      rw [show s + (i + 1) = s + 1 + i by omega]
      exact mono _ _ _ _ _ (Nat.le_max_right ..) this
theorem D.nst_iff {S : Cel} {h : Hq} {o : Ow} {p : Pth} {w : W} {ts : List T} : D S h o p w (.nst ts) ↔ ∃ n tg ws, w = .ref n ∧ o n = some p ∧ h[n]? = some (.lst tg ws) ∧ ws.length = ts.length ∧ ∀ (i : Nat) (x : W) (u : T), ws[i]? = some x → ts[i]? = some u → D S h o (p ++ [i]) x u := by
  constructor
  · rintro ⟨k, d⟩
    cases k with
    | zero => exact d.elim
    | succ k =>
      obtain ⟨n, tg, ws, e, on, hn, hl, a⟩ := d
      exact ⟨n, tg, ws, e, on, hn, hl, fun i x u hx hu => ⟨k, a i x u hx hu⟩⟩
  · rintro ⟨n, tg, ws, e, on, hn, hl, a⟩
    obtain ⟨k, q⟩ := fuel_all (R := fun k i x u => Dk S h o k (p ++ [i]) x u) (fun k k' i a b hk d => d.up hk) ws ts 0 (fun i x u hx hu => by rw [Nat.zero_add]; exact a i x u hx hu)
    exact ⟨k + 1, n, tg, ws, e, on, hn, hl, fun i x u hx hu => by simpa using q i x u hx hu⟩
theorem D.ins_iff {S : Cel} {h : Hq} {o : Ow} {p : Pth} {w : W} {c : Str} {fs : List (Str × T)} : D S h o p w (.ins c fs) ↔ ∃ n ws, w = .ref n ∧ o n = some p ∧ h[n]? = some (.ins c ws) ∧ ws.map Prod.fst = fs.map Prod.fst ∧ ∀ (i : Nat) (x : Str × W) (u : Str × T), ws[i]? = some x → fs[i]? = some u → D S h o (p ++ [i]) x.2 u.2 := by
  constructor
  · rintro ⟨k, d⟩
    cases k with
    | zero => exact d.elim
    | succ k =>
      obtain ⟨n, ws, e, on, hn, hl, a⟩ := d
      exact ⟨n, ws, e, on, hn, hl, fun i x u hx hu => ⟨k, a i x u hx hu⟩⟩
  · rintro ⟨n, ws, e, on, hn, hl, a⟩
    obtain ⟨k, q⟩ := fuel_all (R := fun k i (x : Str × W) (u : Str × T) => Dk S h o k (p ++ [i]) x.2 u.2) (fun k k' i a b hk d => d.up hk) ws fs 0 (fun i x u hx hu => by rw [Nat.zero_add]; exact a i x u hx hu)
    exact ⟨k + 1, n, ws, e, on, hn, hl, fun i x u hx hu => by simpa using q i x u hx hu⟩
end ZP

namespace ZP
open PySem L2 Z

inductive Rz (α : Type) where
  | ok (a : α) | exc (c : Str) | stuck
def Rz.bind {α β : Type} (r : Rz α) (f : α → Rz β) : Rz β := match r with
  | .ok a => f a
  | .exc c => .exc c
  | .stuck => .stuck
def Rz.map {α β : Type} (f : α → β) (r : Rz α) : Rz β := match r with
  | .ok a => .ok (f a)
  | .exc c => .exc c
  | .stuck => .stuck
structure Wx (S S' : Cel) (h h' : Hq) : Prop where
  le : ∀ n, S n = true → S' n = true
  new : ∀ n, S' n = true → S n = true ∨ h.length ≤ n
  fr : ∀ n, n < h.length → h'[n]? = h[n]?
  len : h.length ≤ h'.length
theorem Wx.refl {S : Cel} {h : Hq} : Wx S S h h := ⟨fun _ q => q, fun _ q => .inl q, fun _ _ => rfl, Nat.le_refl _⟩
theorem Wx.trans {S S1 S2 : Cel} {h h1 h2 : Hq} (a : Wx S S1 h h1) (b : Wx S1 S2 h1 h2) : Wx S S2 h h2 :=
  ⟨fun n q => b.le n (a.le n q), fun n q => by
    rcases b.new n q with q | q
    · exact a.new n q
    · exact .inr (Nat.le_trans a.len q), fun n hn => (b.fr n (Nat.lt_of_lt_of_le hn a.len)).trans (a.fr n hn), Nat.le_trans a.len b.len⟩
theorem Wx.app {S : Cel} {h t : Hq} : Wx S S h (h ++ t) := ⟨fun _ q => q, fun _ q => .inl q, fun n hn => List.getElem?_append_left hn, by simp⟩
theorem Wx.frz {S S' : Cel} {h h' : Hq} (a : Wx S S' h h') {o : Ow} (ho : ∀ n, o n ≠ none → h.length ≤ n) : Wx S (fun n => S' n || (o n).isSome) h h' :=
  ⟨fun n q => by simp [a.le n q], fun n q => by
    simp only [Bool.or_eq_true] at q
    rcases q with q | q
    · exact a.new n q
    · exact .inr (ho n (by intro z; rw [z] at q; cases q)), a.fr, a.len⟩
def Sb (S : Cel) (h : Hq) : Prop := ∀ n, S n = true → n < h.length
theorem Wx.hh {S S' : Cel} {h h' : Hq} (a : Wx S S' h h') (b : Sb S h) : ∀ n, S n = true → h'[n]? = h[n]? := fun n q => a.fr n (b n q)
theorem D.ext {S S' : Cel} {h h' : Hq} {o : Ow} {p : Pth} {w : W} {t : T} (d : D S h o p w t) (a : Wx S S' h h') (b : Sb S h) (ho : ∀ n, o n ≠ none → n < h.length) : D S' h' o p w t :=
  D.move d a.le (a.hh b) fun n q e => ⟨e, a.fr n (ho n (by rw [e]; simp))⟩
theorem DZ.ext {S S' : Cel} {h h' : Hq} {w : W} {v : Zv} (d : DZ S h w v) (a : Wx S S' h h') (b : Sb S h) : DZ S' h' w v := DZ.mono a.le (a.hh b) d
inductive En where
  | own (t : T) | ext (t : T) | par (t : T) | als (r : Nat) (p : Pth)
abbrev PEnv := List (Option En)
abbrev Om := Nat → Option (Nat × Pth)
def sl (O : Om) (i : Nat) : Ow := fun n => match O n with
  | some (j, p) => if j = i then some p else none
  | none => none
theorem sl_some {O : Om} {i n : Nat} {p : Pth} : sl O i n = some p ↔ O n = some (i, p) := by
  unfold sl
  cases e : O n with
  | none => simp
  | some q =>
    obtain ⟨j, r⟩ := q
    dsimp only
    by_cases c : j = i
    · subst c; simp
    · simp [c]
def kid (o : Ob) (i : Nat) : Option W := match o with
  | .lst _ ws => ws[i]?
  | .ins _ fs => (fs[i]?).map Prod.snd
  | _ => none
def Pw (h : Hq) : W → Pth → W → Prop
  | w, [], x => w = x
  | w, i :: p, x => ∃ n o y, w = .ref n ∧ h[n]? = some o ∧ kid o i = some y ∧ Pw h y p x
def getT : T → Pth → Option T
  | t, [] => some t
  | .nst ts, i :: p => (ts[i]?).bind fun u => getT u p
  | .ins _ fs, i :: p => (fs[i]?).bind fun u => getT u.2 p
  | _, _ :: _ => none
def setT : T → Pth → T → T
  | _, [], u => u
  | .nst ts, i :: p, u => .nst (match ts[i]? with
    | some x => ts.set i (setT x p u)
    | none => ts)
  | .ins c fs, i :: p, u => .ins c (match fs[i]? with
    | some x => fs.set i (x.1, setT x.2 p u)
    | none => fs)
  | t, _ :: _, _ => t
structure Xt where
  x : Cel
  w : Nat → W
def rootT (ps : PEnv) (r : Nat) : Option T := match ps[r]? with
  | some (some (.own t)) | some (some (.par t)) | some (some (.ext t)) => some t
  | _ => none
def EnR (A : List Nat) (S : Cel) (h : Hq) (X : Xt) (O : Om) (ρ : Ev) (ps : PEnv) (i : Nat) : En → Prop
  | .own t => ∃ w, ρ[i]? = some (some w) ∧ D S h (sl O i) [] w t
  | .par t => ∃ w, (ρ[i]? = some (some w) ∧ w = X.w i) ∧ D S h (sl O i) [] w t
  | .ext t => ∃ w o, ρ[i]? = some (some w) ∧ D S h o [] w t ∧ ∀ n, o n ≠ none → X.x n = true
  | .als r p => r ∈ A ∧ ∃ w wr t0 t1, ρ[i]? = some (some w) ∧ ρ[r]? = some (some wr) ∧ Pw h wr p w ∧ rootT ps r = some t0 ∧ getT t0 p = some t1
structure Bd (S : Cel) (h : Hq) (X : Xt) (O : Om) : Prop where
  s : Sb S h
  x : ∀ n, X.x n = true → n < h.length ∧ S n = false
  o : ∀ n, O n ≠ none → n < h.length ∧ S n = false ∧ X.x n = false
structure Inv (A : List Nat) (S : Cel) (h : Hq) (X : Xt) (O : Om) (ρ : Ev) (ps : PEnv) : Prop extends Bd S h X O where
  len : ρ.length = ps.length
  en : ∀ (i : Nat) (e : En), ps[i]? = some (some e) → EnR A S h X O ρ ps i e
theorem Bd.ext {S S' : Cel} {h h' : Hq} {X : Xt} {O : Om} (b : Bd S h X O) (a : Wx S S' h h') (hs : Sb S' h') : Bd S' h' X O where
  s := hs
  x := fun n q => ⟨Nat.lt_of_lt_of_le (b.x n q).1 a.len, by
    cases e : S' n with
    | false => rfl
    | true =>
      rcases a.new n e with z | z
      · rw [(b.x n q).2] at z; cases z
      · exact absurd (b.x n q).1 (by omega)⟩
  o := fun n q => ⟨Nat.lt_of_lt_of_le (b.o n q).1 a.len, by
    cases e : S' n with
    | false => rfl
    | true =>
      rcases a.new n e with z | z
      · rw [(b.o n q).2.1] at z; cases z
      · exact absurd (b.o n q).1 (by omega), (b.o n q).2.2⟩
theorem Pw.mono {h h' : Hq} (hh : ∀ (n : Nat) (o : Ob), h[n]? = some o → h'[n]? = some o) : ∀ {p : Pth} {w x : W}, Pw h w p x → Pw h' w p x
  | [], _, _, e => e
  | _ :: _, _, _, ⟨n, o, y, e, hn, k, r⟩ => ⟨n, o, y, e, hh _ _ hn, k, Pw.mono hh r⟩
theorem lt_of_get {α : Type} {xs : List α} {n : Nat} {a : α} (h : xs[n]? = some a) : n < xs.length := (List.getElem?_eq_some_iff.mp h).1
theorem Wx.get {S S' : Cel} {h h' : Hq} (a : Wx S S' h h') {n : Nat} {o : Ob} (e : h[n]? = some o) : h'[n]? = some o := (a.fr n (lt_of_get e)).trans e
theorem sl_none {O : Om} {i n : Nat} (h : sl O i n ≠ none) : O n ≠ none := by
  intro e; unfold sl at h; rw [e] at h; exact h rfl
theorem Inv.ext {A : List Nat} {S S' : Cel} {h h' : Hq} {X : Xt} {O : Om} {ρ : Ev} {ps : PEnv} (b : Inv A S h X O ρ ps) (a : Wx S S' h h') (hs : Sb S' h') : Inv A S' h' X O ρ ps where
  toBd := b.toBd.ext a hs
  len := b.len
  en := fun i e q => by
    have := b.en i e q
    cases e with
    | own t => obtain ⟨w, hw, d⟩ := this; exact ⟨w, hw, d.ext a b.s fun n hn => (b.o n (sl_none hn)).1⟩
    | par t => obtain ⟨w, hw, d⟩ := this; exact ⟨w, hw, d.ext a b.s fun n hn => (b.o n (sl_none hn)).1⟩
    | ext t => obtain ⟨w, o, hw, d, ho⟩ := this; exact ⟨w, o, hw, d.ext a b.s fun n hn => (b.x n (ho n hn)).1, ho⟩
    | als r p => obtain ⟨ha, w, wr, t0, t1, h1, h2, h3, h4, h5⟩ := this; exact ⟨ha, w, wr, t0, t1, h1, h2, h3.mono fun n o e => a.get e, h4, h5⟩
structure Wd (S S' : Cel) (h h' : Hq) (O O' : Om) : Prop where
  le : ∀ n, S n = true → S' n = true
  new : ∀ n, S' n = true → S n = true ∨ O n ≠ none ∨ h.length ≤ n
  fr : ∀ n, n < h.length → O n = none → h'[n]? = h[n]?
  len : h.length ≤ h'.length
  own : ∀ n, O' n ≠ none → O n ≠ none ∨ h.length ≤ n
theorem Wx.wd {S S' : Cel} {h h' : Hq} {O : Om} (a : Wx S S' h h') : Wd S S' h h' O O :=
  ⟨a.le, fun n q => (a.new n q).elim .inl fun z => .inr (.inr z), fun n hn _ => a.fr n hn, a.len, fun n q => .inl q⟩
theorem Wd.refl {S : Cel} {h : Hq} {O : Om} : Wd S S h h O O := Wx.refl.wd
theorem Wd.trans {S S1 S2 : Cel} {h h1 h2 : Hq} {O O1 O2 : Om} (a : Wd S S1 h h1 O O1) (b : Wd S1 S2 h1 h2 O1 O2) : Wd S S2 h h2 O O2 where
  le := fun n q => b.le n (a.le n q)
  new := fun n q => by
    rcases b.new n q with q | q | q
    · exact a.new n q
    · exact .inr (a.own n q)
    · exact .inr (.inr (Nat.le_trans a.len q))
  fr := fun n hn ho => by
    have h1 : O1 n = none := by
      cases e : O1 n with
      | none => rfl
      | some p =>
        rcases a.own n (by rw [e]; simp) with z | z
        · exact absurd ho z
        · omega
    exact (b.fr n (Nat.lt_of_lt_of_le hn a.len) h1).trans (a.fr n hn ho)
  len := Nat.le_trans a.len b.len
  own := fun n q => by
    rcases b.own n q with q | q
    · exact a.own n q
    · exact .inr (Nat.le_trans a.len q)
def Fr (S' : Cel) (h h' : Hq) (w : W) (t : T) : Prop := ∃ o, D S' h' o [] w t ∧ ∀ n, o n ≠ none → h.length ≤ n ∧ n < h'.length ∧ S' n = false
def Br (B : List Nat) (S' : Cel) (h h' : Hq) (X : Xt) (O : Om) (w : W) (t : T) : Prop := ∃ o, D S' h' o [] w t ∧ ∀ n, o n ≠ none → n < h'.length ∧ S' n = false ∧ (h.length ≤ n ∨ X.x n = true ∨ ∃ j q, O n = some (j, q) ∧ j ∈ B)
def Rdb (S : Cel) (h : Hq) (w : W) (t : T) : Prop := ∃ o, D S h o [] w t ∧ ∀ n, o n ≠ none → n < h.length ∧ S n = false
theorem Fr.z {S : Cel} {h h' : Hq} {w : W} {v : Zv} (d : DZ S h' w v) : Fr S h h' w (.z v) := ⟨noO, D.z d, fun n q => absurd rfl q⟩
theorem Fr.br {B : List Nat} {S' : Cel} {h h' : Hq} {X : Xt} {O : Om} {w : W} {t : T} (f : Fr S' h h' w t) : Br B S' h h' X O w t := by
  obtain ⟨o, d, k⟩ := f
  exact ⟨o, d, fun n q => ⟨(k n q).2.1, (k n q).2.2, .inl (k n q).1⟩⟩
theorem Br.rdb {B : List Nat} {S' : Cel} {h h' : Hq} {X : Xt} {O : Om} {w : W} {t : T} (f : Br B S' h h' X O w t) : Rdb S' h' w t := by
  obtain ⟨o, d, k⟩ := f
  exact ⟨o, d, fun n q => ⟨(k n q).1, (k n q).2.1⟩⟩
theorem Br.z {B : List Nat} {S' : Cel} {h h' : Hq} {X : Xt} {O : Om} {w : W} {v : Zv} (f : Br B S' h h' X O w (.z v)) : DZ S' h' w v := by
  obtain ⟨o, d, k⟩ := f
  exact D.z_iff.mp d
theorem Rdb.z {S : Cel} {h : Hq} {w : W} {v : Zv} (f : Rdb S h w (.z v)) : DZ S h w v := by
  obtain ⟨o, d, k⟩ := f
  exact D.z_iff.mp d
theorem Rdb.of_z {S : Cel} {h : Hq} {w : W} {v : Zv} (d : DZ S h w v) : Rdb S h w (.z v) := ⟨noO, D.z d, fun n q => absurd rfl q⟩
theorem notS {S S' : Cel} {h h' : Hq} (a : Wx S S' h h') {n : Nat} (hn : n < h.length) (hs : S n = false) : S' n = false := by
  cases e : S' n with
  | false => rfl
  | true =>
    rcases a.new n e with z | z
    · rw [hs] at z; cases z
    · omega
theorem Br.ext {B : List Nat} {S0 S' S'' : Cel} {h0 h h' h'' : Hq} {X : Xt} {O : Om} {w : W} {t : T} (f : Br B S' h h' X O w t) (a : Wx S' S'' h' h'') (b : Sb S' h') (l : h0.length ≤ h.length) : Br B S'' h0 h'' X O w t := by
  obtain ⟨o, d, k⟩ := f
  refine ⟨o, d.ext a b fun n q => (k n q).1, fun n q => ?_⟩
  obtain ⟨h1, h2, h3⟩ := k n q
  exact ⟨Nat.lt_of_lt_of_le h1 a.len, notS a h1 h2, h3.imp (fun z => Nat.le_trans l z) id⟩
theorem Fr.ext {S' S'' : Cel} {h0 h h' h'' : Hq} {w : W} {t : T} (f : Fr S' h h' w t) (a : Wx S' S'' h' h'') (b : Sb S' h') (l : h0.length ≤ h.length) : Fr S'' h0 h'' w t := by
  obtain ⟨o, d, k⟩ := f
  refine ⟨o, d.ext a b fun n q => (k n q).2.1, fun n q => ?_⟩
  obtain ⟨h1, h2, h3⟩ := k n q
  exact ⟨Nat.le_trans l h1, Nat.lt_of_lt_of_le h2 a.len, notS a h2 h3⟩
theorem Rdb.ext {S' S'' : Cel} {h' h'' : Hq} {w : W} {t : T} (f : Rdb S' h' w t) (a : Wx S' S'' h' h'') (b : Sb S' h') : Rdb S'' h'' w t := by
  obtain ⟨o, d, k⟩ := f
  exact ⟨o, d.ext a b fun n q => (k n q).1, fun n q => ⟨Nat.lt_of_lt_of_le (k n q).1 a.len, notS a (k n q).1 (k n q).2⟩⟩
def Po {α β : Type} (S : Cel) (h : Hq) (r : Res α) (z : Rz β) (K : α → β → Cel → Hq → Prop) : Prop := match z with
  | .ok t => ∃ w h' S', r = .ok w h' ∧ Wx S S' h h' ∧ Sb S' h' ∧ K w t S' h'
  | .exc c => ∃ h' S', r = .exc c h' ∧ Wx S S' h h' ∧ Sb S' h'
  | .stuck => True
theorem Po.bind {α β γ δ : Type} {S : Cel} {h : Hq} {r : Res α} {z : Rz β} {K : α → β → Cel → Hq → Prop} {f : α → Hq → Res γ} {g : β → Rz δ} {K' : γ → δ → Cel → Hq → Prop}
    (a : Po S h r z K) (b : ∀ w t S' h', Wx S S' h h' → Sb S' h' → K w t S' h' → Po S' h' (f w h') (g t) K') : Po S h (r.bind f) (z.bind g) K' := by
  cases z with
  | ok t =>
    obtain ⟨w, h1, S1, rfl, a1, s1, k⟩ := a
    have := b w t S1 h1 a1 s1 k
    show Po S h (f w h1) (g t) K'
    revert this
    cases g t with
    | ok u => rintro ⟨x, h2, S2, e, a2, s2, k2⟩; exact ⟨x, h2, S2, e, a1.trans a2, s2, k2⟩
    | exc c => rintro ⟨h2, S2, e, a2, s2⟩; exact ⟨h2, S2, e, a1.trans a2, s2⟩
    | stuck => exact fun _ => trivial
  | exc c =>
    obtain ⟨h1, S1, rfl, a1, s1⟩ := a
    exact ⟨h1, S1, rfl, a1, s1⟩
  | stuck => trivial
theorem Po.mono {α β : Type} {S : Cel} {h : Hq} {r : Res α} {z : Rz β} {K K' : α → β → Cel → Hq → Prop} (a : Po S h r z K) (k : ∀ w t S' h', Wx S S' h h' → Sb S' h' → K w t S' h' → K' w t S' h') : Po S h r z K' := by
  cases z with
  | ok t => obtain ⟨w, h1, S1, e, a1, s1, q⟩ := a; exact ⟨w, h1, S1, e, a1, s1, k _ _ _ _ a1 s1 q⟩
  | exc c => exact a
  | stuck => trivial
theorem Po.ret {α β : Type} {S : Cel} {h : Hq} {a : α} {b : β} {K : α → β → Cel → Hq → Prop} (s : Sb S h) (k : K a b S h) : Po S h (.ok a h) (.ok b) K := ⟨a, h, S, rfl, Wx.refl, s, k⟩
theorem Po.app {α β : Type} {S : Cel} {h t : Hq} {a : α} {b : β} {K : α → β → Cel → Hq → Prop} (s : Sb S h) (k : K a b S (h ++ t)) : Po S h (.ok a (h ++ t)) (.ok b) K :=
  ⟨a, _, S, rfl, Wx.app, fun n q => by have := s n q; simp; omega, k⟩
theorem Po.map {α β γ : Type} {S : Cel} {h : Hq} {r : Res α} {z : Rz β} {K : α → β → Cel → Hq → Prop} {g : β → γ} {K' : α → γ → Cel → Hq → Prop}
    (a : Po S h r z K) (b : ∀ w t S' h', Wx S S' h h' → Sb S' h' → K w t S' h' → K' w (g t) S' h') : Po S h r (z.map g) K' := by
  cases z with
  | ok t =>
    obtain ⟨w, h1, S1, e, a1, s1, k⟩ := a
    exact ⟨w, h1, S1, e, a1, s1, b _ _ _ _ a1 s1 k⟩
  | exc c => exact a
  | stuck => trivial
abbrev P0 := PEnv → Rz T
def J0f (A : List Nat) (m : ME) (p : P0) : Prop := ∀ S h X O ρ ps, Inv A S h X O ρ ps → Po S h (m ρ h) (p ps) fun w t S' h' => Fr S' h h' w t
def J0b (A : List Nat) (B : List Nat) (m : ME) (p : P0) : Prop := ∀ S h X O ρ ps, Inv A S h X O ρ ps → Po S h (m ρ h) (p ps) fun w t S' h' => Br B S' h h' X O w t
theorem J0f.b {A : List Nat} {m : ME} {p : P0} (j : J0f A m p) : J0b A [] m p := fun S h X O ρ ps v => (j S h X O ρ ps v).mono fun _ _ _ _ _ _ f => f.br
abbrev P0b := PEnv → Rz Bool
def J0t (A : List Nat) (m : MT) (p : P0b) : Prop := ∀ S h X O ρ ps, Inv A S h X O ρ ps → Po S h (m ρ h) (p ps) fun w t S' h' => w = t
abbrev P0a := PEnv → Rz (List T)
def J0a (A : List Nat) (B : List Nat) (m : MA) (p : P0a) : Prop := ∀ S h X O ρ ps, Inv A S h X O ρ ps → Po S h (m ρ h) (p ps) fun ws ts S' h' => A2 (Br B S' h h' X O) ws ts
abbrev PF := List T → Rz T
def JF (F : MF) (P : PF) : Prop := ∀ S h ws ts, Sb S h → A2 (Rdb S h) ws ts → Po S h (F ws h) (P ts) fun w t S' h' => Fr S' h h' w t
abbrev G2 := T → T → Rz T
def Op2 (f : F2) (g : G2) : Prop := ∀ S h x y t u, Sb S h → Rdb S h x t → Rdb S h y u → Po S h (f x y h) (g t u) fun w t S' h' => Fr S' h h' w t
inductive R1 (α : Type) where
  | ok (a : α) (ps : PEnv) | exc (c : Str) (ps : PEnv) | stuck
def R1.bind {α β : Type} (r : R1 α) (f : α → PEnv → R1 β) : R1 β := match r with
  | .ok a ps => f a ps
  | .exc c ps => .exc c ps
  | .stuck => .stuck
def Rz.at_ {α : Type} (r : Rz α) (ps : PEnv) : R1 α := match r with
  | .ok a => .ok a ps
  | .exc c => .exc c ps
  | .stuck => .stuck
def Rs (S' : Cel) (h h' : Hq) (X : Xt) (O O' : Om) (w : W) (t : T) : Prop := ∃ o, D S' h' o [] w t ∧ ∀ n, o n ≠ none → n < h'.length ∧ S' n = false ∧ X.x n = false ∧ O' n = none ∧ (O n ≠ none ∨ h.length ≤ n)
def Po1 {α β : Type} (A : List Nat) (S : Cel) (h : Hq) (X : Xt) (O : Om) (ρ : Ev) (r : Res α) (z : R1 β) (K : α → β → Cel → Hq → Om → Prop) : Prop := match z with
  | .ok t ps => ∃ w h' S' O', r = .ok w h' ∧ Wd S S' h h' O O' ∧ Inv A S' h' X O' ρ ps ∧ K w t S' h' O'
  | .exc c ps => ∃ h' S' O', r = .exc c h' ∧ Wd S S' h h' O O' ∧ Inv A S' h' X O' ρ ps
  | .stuck => True
theorem Po1.bind {A : List Nat} {α β γ δ : Type} {S : Cel} {h : Hq} {X : Xt} {O : Om} {ρ : Ev} {r : Res α} {z : R1 β} {K : α → β → Cel → Hq → Om → Prop} {f : α → Hq → Res γ} {g : β → PEnv → R1 δ} {K' : γ → δ → Cel → Hq → Om → Prop}
    (a : Po1 A S h X O ρ r z K) (b : ∀ w t ps S' h' O', Wd S S' h h' O O' → Inv A S' h' X O' ρ ps → K w t S' h' O' → Po1 A S' h' X O' ρ (f w h') (g t ps) K') : Po1 A S h X O ρ (r.bind f) (z.bind g) K' := by
  cases z with
  | ok t ps =>
    obtain ⟨w, h1, S1, O1, rfl, a1, v1, k⟩ := a
    have := b w t ps S1 h1 O1 a1 v1 k
    show Po1 A S h X O ρ (f w h1) (g t ps) K'
    revert this
    cases g t ps with
    | ok u ps2 => rintro ⟨x, h2, S2, O2, e, a2, v2, k2⟩; exact ⟨x, h2, S2, O2, e, a1.trans a2, v2, k2⟩
    | exc c ps2 => rintro ⟨h2, S2, O2, e, a2, v2⟩; exact ⟨h2, S2, O2, e, a1.trans a2, v2⟩
    | stuck => exact fun _ => trivial
  | exc c ps =>
    obtain ⟨h1, S1, O1, rfl, a1, v1⟩ := a
    exact ⟨h1, S1, O1, rfl, a1, v1⟩
  | stuck => trivial
theorem Po1.mono {A : List Nat} {α β : Type} {S : Cel} {h : Hq} {X : Xt} {O : Om} {ρ : Ev} {r : Res α} {z : R1 β} {K K' : α → β → Cel → Hq → Om → Prop} (a : Po1 A S h X O ρ r z K) (k : ∀ w t S' h' O', Wd S S' h h' O O' → K w t S' h' O' → K' w t S' h' O') : Po1 A S h X O ρ r z K' := by
  cases z with
  | ok t ps => obtain ⟨w, h1, S1, O1, e, a1, v1, q⟩ := a; exact ⟨w, h1, S1, O1, e, a1, v1, k _ _ _ _ _ a1 q⟩
  | exc c ps => exact a
  | stuck => trivial
theorem Po.up {A : List Nat} {α β : Type} {S : Cel} {h : Hq} {X : Xt} {O : Om} {ρ : Ev} {ps : PEnv} {r : Res α} {z : Rz β} {K : α → β → Cel → Hq → Prop} {K' : α → β → Cel → Hq → Om → Prop} (v : Inv A S h X O ρ ps) (a : Po S h r z K)
    (k : ∀ w t S' h', Wx S S' h h' → Sb S' h' → K w t S' h' → K' w t S' h' O) : Po1 A S h X O ρ r (z.at_ ps) K' := by
  cases z with
  | ok t => obtain ⟨w, h1, S1, e, a1, s1, q⟩ := a; exact ⟨w, h1, S1, O, e, a1.wd, v.ext a1 s1, k _ _ _ _ a1 s1 q⟩
  | exc c => obtain ⟨h1, S1, e, a1, s1⟩ := a; exact ⟨h1, S1, O, e, a1.wd, v.ext a1 s1⟩
  | stuck => trivial
abbrev P1 := PEnv → R1 T
def J1f (A : List Nat) (m : ME) (p : P1) : Prop := ∀ S h X O ρ ps, Inv A S h X O ρ ps → Po1 A S h X O ρ (m ρ h) (p ps) fun w t S' h' O' => Rs S' h h' X O O' w t
theorem Fr.rs {S S' : Cel} {h h' : Hq} {X : Xt} {O : Om} {w : W} {t : T} (f : Fr S' h h' w t) (b : Bd S h X O) : Rs S' h h' X O O w t := by
  obtain ⟨o, d, k⟩ := f
  refine ⟨o, d, fun n q => ?_⟩
  obtain ⟨h1, h2, h3⟩ := k n q
  refine ⟨h2, h3, ?_, ?_, .inr h1⟩
  · cases e : X.x n with
    | false => rfl
    | true => have := (b.x n e).1; omega
  · cases e : O n with
    | none => rfl
    | some p => have := (b.o n (by rw [e]; simp)).1; omega
def up {α : Type} (p : PEnv → Rz α) : PEnv → R1 α := fun ps => (p ps).at_ ps
theorem J0f.up {A : List Nat} {m : ME} {p : P0} (j : J0f A m p) : J1f A m (up p) := fun S h X O ρ ps v => (j S h X O ρ ps v).up v fun _ _ _ _ _ _ f => f.rs v.toBd
abbrev P1b := PEnv → R1 Bool
def J1t (A : List Nat) (m : MT) (p : P1b) : Prop := ∀ S h X O ρ ps, Inv A S h X O ρ ps → Po1 A S h X O ρ (m ρ h) (p ps) fun w t S' h' O' => w = t
theorem J0t.up {A : List Nat} {m : MT} {p : P0b} (j : J0t A m p) : J1t A m (up p) := fun S h X O ρ ps v => (j S h X O ρ ps v).up v fun _ _ _ _ _ _ f => f
inductive Fp where
  | nx | bk | ct | rt (t : T)
inductive Rp where
  | ok (f : Fp) (ps : PEnv) | exc (c : Str) (ps : PEnv) | stuck
abbrev PS := PEnv → Rp
def FlR (S' : Cel) (h h' : Hq) (X : Xt) (O O' : Om) : Fl → Fp → Prop
  | .nx, .nx => True
  | .bk, .bk => True
  | .ct, .ct => True
  | .rt w, .rt t => Rs S' h h' X O O' w t
  | _, _ => False
def PoS (A : List Nat) (S : Cel) (h : Hq) (X : Xt) (O : Om) (r : RS) (z : Rp) : Prop := match z with
  | .ok f ps => ∃ fl ρ' h' S' O', r = .ok fl ρ' h' ∧ Wd S S' h h' O O' ∧ Inv A S' h' X O' ρ' ps ∧ FlR S' h h' X O O' fl f
  | .exc c ps => ∃ ρ' h' S' O', r = .exc c ρ' h' ∧ Wd S S' h h' O O' ∧ Inv A S' h' X O' ρ' ps
  | .stuck => True
def JS (A : List Nat) (m : MS) (p : PS) : Prop := ∀ S h X O ρ ps, Inv A S h X O ρ ps → PoS A S h X O (m ρ h) (p ps)
def R1.toP {α : Type} (r : R1 α) (f : α → PEnv → Rp) : Rp := match r with
  | .ok a ps => f a ps
  | .exc c ps => .exc c ps
  | .stuck => .stuck
theorem Rs.up {S0 S1 S' : Cel} {h0 h h' : Hq} {X : Xt} {O0 O O' : Om} {w : W} {t : T} (a : Wd S0 S1 h0 h O0 O) (f : Rs S' h h' X O O' w t) : Rs S' h0 h' X O0 O' w t := by
  obtain ⟨o, d, k⟩ := f
  refine ⟨o, d, fun n q => ?_⟩
  obtain ⟨h1, h2, h3, h4, h5⟩ := k n q
  refine ⟨h1, h2, h3, h4, ?_⟩
  rcases h5 with h5 | h5
  · exact a.own n h5
  · exact .inr (Nat.le_trans a.len h5)
theorem FlR.up {S0 S1 S' : Cel} {h0 h h' : Hq} {X : Xt} {O0 O O' : Om} {fl : Fl} {f : Fp} (a : Wd S0 S1 h0 h O0 O) (r : FlR S' h h' X O O' fl f) : FlR S' h0 h' X O0 O' fl f := by
  cases fl <;> cases f <;> first | trivial | exact r.elim | exact Rs.up a r
theorem Rs.keep {S' S'' : Cel} {h h' h'' : Hq} {X : Xt} {O O' O'' : Om} {w : W} {t : T} (f : Rs S' h h' X O O' w t) (a : Wd S' S'' h' h'' O' O'') (b : Sb S' h') (c : ∀ n, S' n = true → O' n = none) : Rs S'' h h'' X O O'' w t := by
  obtain ⟨o, d, k⟩ := f
  refine ⟨o, ?_, fun n q => ?_⟩
  · refine d.move a.le (fun n q => a.fr n (b n q) (c n q)) fun n q e => ⟨e, ?_⟩
    obtain ⟨h1, h2, h3, h4, h5⟩ := k n (by rw [e]; simp)
    exact a.fr n h1 h4
  · obtain ⟨h1, h2, h3, h4, h5⟩ := k n q
    refine ⟨Nat.lt_of_lt_of_le h1 a.len, ?_, h3, ?_, h5⟩
    · cases e : S'' n with
      | false => rfl
      | true =>
        rcases a.new n e with z | z | z
        · rw [h2] at z; cases z
        · exact absurd h4 z
        · omega
    · cases e : O'' n with
      | none => rfl
      | some p =>
        rcases a.own n (by rw [e]; simp) with z | z
        · exact absurd h4 z
        · omega
theorem Bd.sO {S : Cel} {h : Hq} {X : Xt} {O : Om} (b : Bd S h X O) {n : Nat} (q : S n = true) : O n = none := by
  cases e : O n with
  | none => rfl
  | some p => have := (b.o n (by rw [e]; simp)).2.1; rw [q] at this; cases this
theorem PoS.up {A : List Nat} {S S1 : Cel} {h h1 : Hq} {X : Xt} {O O1 : Om} {r : RS} {z : Rp} (a : Wd S S1 h h1 O O1) (p : PoS A S1 h1 X O1 r z) : PoS A S h X O r z := by
  cases z with
  | ok f ps => obtain ⟨fl, ρ', h', S', O', e, b, v, k⟩ := p; exact ⟨fl, ρ', h', S', O', e, a.trans b, v, k.up a⟩
  | exc c ps => obtain ⟨ρ', h', S', O', e, b, v⟩ := p; exact ⟨ρ', h', S', O', e, a.trans b, v⟩
  | stuck => trivial
theorem Po1.toS {A : List Nat} {α β : Type} {S : Cel} {h : Hq} {X : Xt} {O : Om} {ρ : Ev} {r : Res α} {z : R1 β} {K : α → β → Cel → Hq → Om → Prop} {f : α → Hq → RS} {g : β → PEnv → Rp}
    (a : Po1 A S h X O ρ r z K) (b : ∀ w t ps S' h' O', Wd S S' h h' O O' → Inv A S' h' X O' ρ ps → K w t S' h' O' → PoS A S' h' X O' (f w h') (g t ps)) : PoS A S h X O (r.toS ρ f) (z.toP g) := by
  cases z with
  | ok t ps =>
    obtain ⟨w, h1, S1, O1, rfl, a1, v1, k⟩ := a
    exact (b w t ps S1 h1 O1 a1 v1 k).up a1
  | exc c ps =>
    obtain ⟨h1, S1, O1, rfl, a1, v1⟩ := a
    exact ⟨ρ, h1, S1, O1, rfl, a1, v1⟩
  | stuck => trivial
end ZP

namespace ZP
open PySem L2 Z

theorem D.sub {S : Cel} {h : Hq} {o : Ow} : ∀ {q p : Pth} {w : W} {t u : T}, D S h o p w t → getT t q = some u → ∃ x, Pw h w q x ∧ D S h o (p ++ q) x u
  | [], p, w, t, u, d, g => by cases g; exact ⟨w, rfl, by simpa using d⟩
  | i :: q, p, w, .nst ts, u, d, g => by
    obtain ⟨n, tg, ws, rfl, on, hn, hl, a⟩ := D.nst_iff.mp d
    simp only [getT, Option.bind_eq_some_iff] at g
    obtain ⟨v, hv, g⟩ := g
    have hi : i < ws.length := by rw [hl]; exact lt_of_get hv
    have hx : ws[i]? = some ws[i] := List.getElem?_eq_getElem hi
    obtain ⟨x, r, d2⟩ := D.sub (a i _ v hx hv) g
    exact ⟨x, ⟨n, _, ws[i], rfl, hn, hx, r⟩, by simpa using d2⟩
  | i :: q, p, w, .ins c fs, u, d, g => by
    obtain ⟨n, ws, rfl, on, hn, hl, a⟩ := D.ins_iff.mp d
    simp only [getT, Option.bind_eq_some_iff] at g
    obtain ⟨v, hv, g⟩ := g
    have hl2 : ws.length = fs.length := by simpa using congrArg List.length hl
    have hi : i < ws.length := by rw [hl2]; exact lt_of_get hv
    have hx : ws[i]? = some ws[i] := List.getElem?_eq_getElem hi
    obtain ⟨x, r, d2⟩ := D.sub (a i _ v hx hv) g
    exact ⟨x, ⟨n, _, ws[i].2, rfl, hn, by simp [kid, hx], r⟩, by simpa using d2⟩
  | i :: q, p, w, .z v, u, d, g => by cases g
  | i :: q, p, w, .lst v, u, d, g => by cases g
  | i :: q, p, w, .dct b v, u, d, g => by cases g
theorem Pw.fn {h : Hq} : ∀ {p : Pth} {w x y : W}, Pw h w p x → Pw h w p y → x = y
  | [], _, _, _, a, b => a.symm.trans b
  | i :: p, _, _, _, ⟨n, o, y, e, hn, k, r⟩, ⟨n', o', y', e', hn', k', r'⟩ => by
    subst e; cases e'; rw [hn] at hn'; cases hn'; rw [k] at k'; cases k'
    exact Pw.fn r r'
def cut0 : Pth → Pth → Option Pth
  | [], s => some s
  | i :: q, j :: s => if i = j then cut0 q s else none
  | _ :: _, [] => none
theorem cut0_some : ∀ {q s r : Pth}, cut0 q s = some r ↔ s = q ++ r
  | [], s, r => by simp [cut0]
  | i :: q, [], r => by simp [cut0]
  | i :: q, j :: s, r => by
    by_cases c : i = j
    · subst c; simp [cut0, cut0_some]
    · simp only [cut0, if_neg c, List.cons_append, List.cons.injEq, reduceCtorEq, false_iff, not_and]
      intro e; exact absurd e.symm c
theorem D.root {S : Cel} {h : Hq} {o : Ow} {q : Pth} {w : W} {t : T} (d : D S h o q w t) : D S h (fun n => (o n).bind (cut0 q)) [] w t :=
  d.move (fun _ z => z) (fun _ _ => rfl) fun n s e => ⟨by simp [e, cut0_some], rfl⟩
def pV (i : Nat) : P0 := fun ps => match ps[i]? with
  | some (some (.own t)) | some (some (.par t)) | some (some (.ext t)) => .ok t
  | _ => .stuck
theorem j_v {A : List Nat} (i : Nat) : J0b A [i] (eV i) (pV i) := fun S h X O ρ ps v => by
  unfold pV
  have key : ∀ (t : T) (o : Ow) (w : W), ρ[i]? = some (some w) → D S h o [] w t → (∀ n, o n ≠ none → n < h.length ∧ S n = false ∧ (X.x n = true ∨ ∃ q, O n = some (i, q))) → Po S h (eV i ρ h) (.ok t) fun w t S' h' => Br [i] S' h h' X O w t := fun t o w hw d k => by
    unfold eV; rw [hw]
    refine Po.ret v.s ⟨o, d, fun n q => ?_⟩
    obtain ⟨a, b, c⟩ := k n q
    exact ⟨a, b, .inr (c.imp id fun ⟨q, e⟩ => ⟨i, q, e, by simp⟩)⟩
  have own : ∀ (t : T) (w : W), ρ[i]? = some (some w) → D S h (sl O i) [] w t → Po S h (eV i ρ h) (.ok t) fun w t S' h' => Br [i] S' h h' X O w t := fun t w hw d =>
    key t _ w hw d fun n q => by
      have := v.o n (sl_none q)
      refine ⟨this.1, this.2.1, .inr ?_⟩
      cases e : sl O i n with
      | none => exact absurd e q
      | some p => exact ⟨p, sl_some.mp e⟩
  cases e : ps[i]? with
  | none => trivial
  | some x =>
    cases x with
    | none => trivial
    | some en =>
      have := v.en i en e
      cases en with
      | own t => obtain ⟨w, hw, d⟩ := this; exact own t w hw d
      | par t => obtain ⟨w, hw, d⟩ := this; exact own t w hw.1 d
      | ext t =>
        obtain ⟨w, o, hw, d, ho⟩ := this
        exact key t o w hw d fun n q => ⟨(v.x n (ho n q)).1, (v.x n (ho n q)).2, .inl (ho n q)⟩
      | als r p => trivial
theorem rootT_some {ps : PEnv} {r : Nat} {t : T} (e : rootT ps r = some t) : ∃ en, ps[r]? = some (some en) ∧ (en = .own t ∨ en = .par t ∨ en = .ext t) := by
  unfold rootT at e
  cases q : ps[r]? with
  | none => rw [q] at e; cases e
  | some x =>
    rw [q] at e
    cases x with
    | none => cases e
    | some en => cases en <;> cases e <;> exact ⟨_, rfl, by simp⟩
theorem Inv.root {A : List Nat} {S : Cel} {h : Hq} {X : Xt} {O : Om} {ρ : Ev} {ps : PEnv} (v : Inv A S h X O ρ ps) {r : Nat} {t : T} (e : rootT ps r = some t) :
    ∃ w o, ρ[r]? = some (some w) ∧ D S h o [] w t ∧ ∀ n, o n ≠ none → n < h.length ∧ S n = false ∧ (X.x n = true ∨ ∃ q, O n = some (r, q)) := by
  obtain ⟨en, q, k⟩ := rootT_some e
  have := v.en r en q
  have own : ∀ w, ρ[r]? = some (some w) → D S h (sl O r) [] w t → ∃ w o, ρ[r]? = some (some w) ∧ D S h o [] w t ∧ ∀ n, o n ≠ none → n < h.length ∧ S n = false ∧ (X.x n = true ∨ ∃ q, O n = some (r, q)) := fun w hw d =>
    ⟨w, _, hw, d, fun n q => by
      have := v.o n (sl_none q)
      refine ⟨this.1, this.2.1, .inr ?_⟩
      cases e : sl O r n with
      | none => exact absurd e q
      | some p => exact ⟨p, sl_some.mp e⟩⟩
  rcases k with rfl | rfl | rfl
  · obtain ⟨w, hw, d⟩ := this; exact own w hw d
  · obtain ⟨w, hw, d⟩ := this; exact own w hw.1 d
  · obtain ⟨w, o, hw, d, ho⟩ := this
    exact ⟨w, o, hw, d, fun n q => ⟨(v.x n (ho n q)).1, (v.x n (ho n q)).2, .inl (ho n q)⟩⟩
def pC (v : Zv) : P0 := fun _ => .ok (.z v)
theorem j_non {A : List Nat} : J0f A (eC .non) (pC .non) := fun S h X O ρ ps v => Po.ret v.s (.z dz_non)
theorem j_bl {A : List Nat} {b : Bool} : J0f A (eC (.bl b)) (pC (.bl b)) := fun S h X O ρ ps v => Po.ret v.s (.z dz_bl)
theorem j_int {A : List Nat} {i : Int} : J0f A (eC (.int i)) (pC (.int i)) := fun S h X O ρ ps v => Po.ret v.s (.z dz_int)
theorem j_str {A : List Nat} {x : Str} : J0f A (eC (.str x)) (pC (.str x)) := fun S h X O ρ ps v => Po.ret v.s (.z dz_str)
def asZ : T → Rz T
  | .z v => .ok (.z v)
  | _ => .stuck
def pZ (p : P0) : P0 := fun ps => (p ps).bind asZ
theorem Po.bindr {α β δ : Type} {S : Cel} {h : Hq} {r : Res α} {z : Rz β} {K : α → β → Cel → Hq → Prop} {g : β → Rz δ} {K' : α → δ → Cel → Hq → Prop}
    (a : Po S h r z K) (b : ∀ w t u S' h', Wx S S' h h' → Sb S' h' → K w t S' h' → g t = .ok u → K' w u S' h') (nx : ∀ t c, g t ≠ .exc c) : Po S h r (z.bind g) K' := by
  cases z with
  | ok t =>
    obtain ⟨w, h1, S1, e, a1, s1, k⟩ := a
    show Po S h r (g t) K'
    cases q : g t with
    | ok u => exact ⟨w, h1, S1, e, a1, s1, b _ _ _ _ _ a1 s1 k q⟩
    | exc c => exact absurd q (nx t c)
    | stuck => trivial
  | exc c => exact a
  | stuck => trivial
theorem j_z {A : List Nat} {B : List Nat} {m : ME} {p : P0} (j : J0b A B m p) : J0f A m (pZ p) := fun S h X O ρ ps v =>
  (j S h X O ρ ps v).bindr (fun w t u S' h' _ _ k e => by
    cases t <;> cases e
    exact .z k.z) fun t c e => by cases t <;> cases e
def pFz (p : P0) : P0 := fun ps => (p ps).map fun t => .z t.toZ
theorem Fr.freeze {S S' : Cel} {h h' : Hq} {w : W} {t : T} (a : Wx S S' h h') (s : Sb S' h') (f : Fr S' h h' w t) : ∃ S'', Wx S S'' h h' ∧ Sb S'' h' ∧ DZ S'' h' w t.toZ := by
  obtain ⟨o, d, k⟩ := f
  refine ⟨_, a.frz (o := o) fun n q => (k n q).1, fun n q => ?_, d.freeze (fun n q => by simp [q]) (fun _ _ => rfl) fun n q e => ⟨by simp [e], rfl⟩⟩
  simp only [Bool.or_eq_true] at q
  rcases q with q | q
  · exact s n q
  · exact (k n (by intro z; rw [z] at q; cases q)).2.1
theorem j_fz {A : List Nat} {m : ME} {p : P0} (j : J0f A m p) : J0f A m (pFz p) := fun S h X O ρ ps v => by
  have := j S h X O ρ ps v
  unfold pFz
  revert this
  cases p ps with
  | ok t =>
    rintro ⟨w, h', S', e, a, s, f⟩
    obtain ⟨S'', a2, s2, d⟩ := f.freeze a s
    exact ⟨w, h', S'', e, a2, s2, .z d⟩
  | exc c => exact fun q => q
  | stuck => exact fun _ => trivial
def pBin (g : G2) (a b : P0) : P0 := fun ps => (a ps).bind fun t => (b ps).bind fun u => g t u
theorem j_bin {A : List Nat} {B B' : List Nat} {f : F2} {g : G2} {a b : ME} {p q : P0} (op : Op2 f g) (ja : J0b A B a p) (jb : J0b A B' b q) : J0f A (eBin f a b) (pBin g p q) := fun S h X O ρ ps v =>
  (ja S h X O ρ ps v).bind fun x t S1 h1 a1 s1 k1 => (jb S1 h1 X O ρ ps (v.ext a1 s1)).bind fun y u S2 h2 a2 s2 k2 =>
    (op S2 h2 x y t u s2 (k1.rdb.ext a2 s1) k2.rdb).mono fun w r S3 h3 a3 s3 f => by
      obtain ⟨o, d, k⟩ := f
      exact ⟨o, d, fun n q => ⟨Nat.le_trans (a1.trans a2).len (k n q).1, (k n q).2⟩⟩
abbrev GZ := Zv → Zv → Rz Zv
def Rz.z (r : Rz Zv) : Rz T := r.map T.z
def ofZ2 (g : GZ) : G2 := fun t u => match t, u with
  | .z v, .z x => (g v x).z
  | _, _ => .stuck
def OpZ (f : F2) (g : GZ) : Prop := ∀ S h x y v u, Sb S h → DZ S h x v → DZ S h y u → match g v u with
  | .ok r => ∃ w, f x y h = .ok w h ∧ DZ S h w r
  | .exc _ => False
  | .stuck => True
theorem op_z {f : F2} {g : GZ} (k : OpZ f g) : Op2 f (ofZ2 g) := fun S h x y t u s a b => by
  unfold ofZ2
  cases t <;> cases u <;> first | trivial | skip
  rename_i v u
  have := k S h x y v u s a.z b.z
  show Po S h (f x y h) (g v u).z _
  revert this
  cases g v u with
  | ok r => rintro ⟨w, e, d⟩; exact ⟨w, h, S, e, Wx.refl, s, .z d⟩
  | exc c => exact fun z => z.elim
  | stuck => exact fun _ => trivial
def intZ (c : Int → Int → Bool) (g : Int → Int → Int) : GZ := fun a b => match a, b with
  | .int i, .int j => if c i j then .ok (.int (g i j)) else .stuck
  | _, _ => .stuck
theorem opz_int {f : F2} {c : Int → Int → Bool} {g : Int → Int → Int} (k : ∀ i j h, c i j = true → f (.int i) (.int j) h = .ok (.int (g i j)) h) : OpZ f (intZ c g) := fun S h x y v u s a b => by
  unfold intZ
  cases v <;> cases u <;> first | trivial | skip
  rename_i i j
  cases dz_int_iff.mp a; cases dz_int_iff.mp b
  by_cases q : c i j = true
  · simp only [if_pos q]; exact ⟨_, k i j h q, dz_int⟩
  · simp only [if_neg q]
def subT : G2 := ofZ2 (intZ (fun _ _ => true) (· - ·))
theorem op_sub : Op2 subW subT := op_z (opz_int fun _ _ _ _ => rfl)
def mulT : G2 := ofZ2 (intZ (fun i j => small i || small j) (· * ·))
theorem op_mul : Op2 mulW mulT := op_z (opz_int fun i j h q => by unfold mulW; simp only [if_pos q])
def fdivT : G2 := ofZ2 (intZ (fun i j => decide (0 < j) && decide (j.natAbs < wideB)) (· / ·))
theorem op_fdiv : Op2 fdivW fdivT := op_z (opz_int fun i j h q => by unfold fdivW; simp only [if_pos q])
def modT : G2 := ofZ2 (intZ (fun _ j => decide (0 < j)) (· % ·))
theorem op_mod : Op2 modW modT := op_z (opz_int fun i j h q => by unfold modW; simp only [if_pos (of_decide_eq_true q)])
def powT : G2 := ofZ2 (intZ (fun i j => decide (0 ≤ j ∧ j ≤ 1000000) && decide (i.natAbs < 2 ^ 64)) (fun i j => i ^ j.toNat))
theorem op_pow : Op2 powW powT := op_z (opz_int fun i j h q => by unfold powW; simp only [if_pos q])
theorem asL_ref {h : Hq} {n tg : Nat} {ws : List W} (e : h[n]? = some (.lst tg ws)) : asL h (.ref n) = some ws := by
  show (match h[n]? with
      | some (Ob.lst t xs) => some xs
      | x => none) = some ws
  rw [e]
def asLT : T → Option (List Zv)
  | .z (.lst vs) => some vs
  | .z (.frz vs) => some vs
  | .lst vs => some vs
  | _ => none
def asMT : T → Option (List Zv)
  | .z (.lst vs) => some vs
  | .lst vs => some vs
  | _ => none
def asQT : T → Option (List Zv)
  | .z (.tup vs) => some vs
  | t => asLT t
theorem asM_w {S : Cel} {h : Hq} {w : W} {t : T} {vs : List Zv} (d : Rdb S h w t) (e : asMT t = some vs) : ∃ n tg ws, w = .ref n ∧ h[n]? = some (.lst tg ws) ∧ A2 (DZ S h) ws vs := by
  obtain ⟨o, d, _⟩ := d
  cases t with
  | z v =>
    cases v <;> cases e
    obtain ⟨n, tg, ws, rfl, _, hn, a⟩ := dz_lst_iff.mp (D.z_iff.mp d)
    exact ⟨n, tg, ws, rfl, hn, a⟩
  | lst us =>
    cases e
    obtain ⟨n, tg, ws, rfl, _, hn, a⟩ := D.lst_iff.mp d
    exact ⟨n, tg, ws, rfl, hn, a⟩
  | _ => cases e
theorem asL_w {S : Cel} {h : Hq} {w : W} {t : T} {vs : List Zv} (d : Rdb S h w t) (e : asLT t = some vs) : ∃ ws, asL h w = some ws ∧ A2 (DZ S h) ws vs ∧ ((∃ n tg, w = .ref n ∧ h[n]? = some (.lst tg ws)) ∨ w = .frz ws) := by
  have key : asMT t = some vs → ∃ ws, asL h w = some ws ∧ A2 (DZ S h) ws vs ∧ ((∃ n tg, w = .ref n ∧ h[n]? = some (.lst tg ws)) ∨ w = .frz ws) := fun e => by
    obtain ⟨n, tg, ws, rfl, hn, a⟩ := asM_w d e
    exact ⟨ws, asL_ref hn, a, .inl ⟨n, tg, rfl, hn⟩⟩
  cases t with
  | z v =>
    cases v with
    | lst us => exact key e
    | frz us =>
      cases e
      obtain ⟨o, d, _⟩ := d
      obtain ⟨ws, rfl, a⟩ := dz_frz_iff.mp (D.z_iff.mp d)
      exact ⟨ws, rfl, a, .inr rfl⟩
    | _ => cases e
  | lst us => exact key e
  | _ => cases e
theorem asQ_w {S : Cel} {h : Hq} {w : W} {t : T} {vs : List Zv} (d : Rdb S h w t) (e : asQT t = some vs) : ∃ ws, asQ h w = some ws ∧ A2 (DZ S h) ws vs := by
  have key : asLT t = some vs → ∃ ws, asQ h w = some ws ∧ A2 (DZ S h) ws vs := fun e => by
    obtain ⟨ws, e1, a, c⟩ := asL_w d e
    rcases c with ⟨n, tg, rfl, _⟩ | rfl
    · exact ⟨ws, e1, a⟩
    · exact ⟨ws, e1, a⟩
  cases t with
  | z v =>
    cases v with
    | tup us =>
      cases e
      obtain ⟨o, d, _⟩ := d
      obtain ⟨ws, rfl, a⟩ := dz_tup_iff.mp (D.z_iff.mp d)
      exact ⟨ws, rfl, a⟩
    | _ => exact key e
  | _ => exact key e
theorem fr_lst {S : Cel} {h : Hq} {tg : Nat} {ws : List W} {vs : List Zv} (s : Sb S h) (a : A2 (DZ S h) ws vs) : Fr S h (h ++ [.lst tg ws]) (.ref h.length) (.lst vs) := by
  refine ⟨fun n => if n = h.length then some [] else none, D.lst_iff.mpr ⟨h.length, tg, ws, rfl, by simp, by simp, a.imp fun _ _ _ _ d => d.ext Wx.app s⟩, fun n q => ?_⟩
  by_cases c : n = h.length
  · subst c
    refine ⟨Nat.le_refl _, by simp, ?_⟩
    cases e : S h.length with
    | false => rfl
    | true => have := s _ e; omega
  · simp [c] at q
theorem po_mkL {S : Cel} {h : Hq} {tg : Nat} {ws : List W} {vs : List Zv} (s : Sb S h) (a : A2 (DZ S h) ws vs) : Po S h (mkL tg ws h) (.ok (.lst vs)) fun w t S' h' => Fr S' h h' w t := Po.app s (fr_lst s a)
def addT : G2 := fun t u => match t, u with
  | .z (.int i), .z (.int j) => .ok (.z (.int (i + j)))
  | .z (.str a), .z (.str b) => if a.length + b.length ≤ sizeLine then .ok (.z (.str (a ++ b))) else .stuck
  | .z (.tup a), .z (.tup b) => if a.length + b.length ≤ sizeLine then .ok (.z (.tup (a ++ b))) else .stuck
  | t, u => match asMT t, asMT u with
    | some xs, some ys => if xs.length + ys.length ≤ sizeLine then .ok (.lst (xs ++ ys)) else .stuck
    | _, _ => .stuck
theorem op_add : Op2 (addW 0) addT := fun S h x y t u s a b => by
  have key : Po S h (addW 0 x y h) (match asMT t, asMT u with
    | some xs, some ys => if xs.length + ys.length ≤ sizeLine then .ok (.lst (xs ++ ys)) else .stuck
    | _, _ => .stuck) fun w t S' h' => Fr S' h h' w t := by
    cases e1 : asMT t with
    | none => trivial
    | some xs =>
      cases e2 : asMT u with
      | none => trivial
      | some ys =>
        obtain ⟨m, tg, ws, rfl, hm, a1⟩ := asM_w a e1
        obtain ⟨n, tg', ws', rfl, hn, a2⟩ := asM_w b e2
        dsimp only
        by_cases c : xs.length + ys.length ≤ sizeLine
        · rw [if_pos c]
          have : addW 0 (.ref m) (.ref n) h = mkL 0 (ws ++ ws') h := by
            unfold addW
            have l1 := asL_ref hm
            have l2 := asL_ref hn
            have l3 : isMut h (.ref m) = true := by unfold isMut; simp [hm]
            have l4 : isMut h (.ref n) = true := by unfold isMut; simp [hn]
            simp only [l1, l2, l3, l4, Bool.and_self, Bool.true_and]
            rw [if_pos (by rw [a1.length, a2.length]; exact decide_eq_true c)]
          rw [this]
          exact po_mkL s (a1.append a2)
        · rw [if_neg c]; trivial
  unfold addT
  split
  · rename_i i j
    cases dz_int_iff.mp a.z; cases dz_int_iff.mp b.z
    exact Po.ret s (.z dz_int)
  · rename_i i j
    cases dz_str_iff.mp a.z; cases dz_str_iff.mp b.z
    split
    · rename_i c
      unfold addW; simp only [if_pos c]
      exact Po.ret s (.z dz_str)
    · trivial
  · rename_i i j
    obtain ⟨ws, rfl, a1⟩ := dz_tup_iff.mp a.z
    obtain ⟨ws', rfl, a2⟩ := dz_tup_iff.mp b.z
    split
    · rename_i c
      unfold addW; simp only [a1.length, a2.length, if_pos c]
      exact Po.ret s (.z (dz_tup (a1.append a2)))
    · trivial
  · exact key
mutual
def toDZ : Nat → Zv → Option PyData
  | _, .non => some .none
  | _, .bl b => some (.bool b)
  | _, .int i => some (.int i)
  | _, .str x => some (.str x)
  | k, .tup vs => (toDZs k vs).map .tuple
  | k, .frz vs => (toDZs k vs).map .list
  | k + 1, .lst vs => (toDZs k vs).map .list
  | _, _ => none
def toDZs : Nat → List Zv → Option (List PyData)
  | _, [] => some []
  | k, v :: vs => match toDZ k v, toDZs k vs with
    | some d, some ds => some (d :: ds)
    | _, _ => none
end
mutual
theorem toD_of {S : Cel} {h : Hq} : ∀ (v : Zv) (k : Nat) (w : W) (d : PyData), DZ S h w v → toDZ k v = some d → toD (refD h k) w = some d
  | .non, k, w, d, z, e => by cases dz_non_iff.mp z; simp [toDZ] at e; simp [toD, e]
  | .bl b, k, w, d, z, e => by cases dz_bl_iff.mp z; simp [toDZ] at e; simp [toD, e]
  | .int b, k, w, d, z, e => by cases dz_int_iff.mp z; simp [toDZ] at e; simp [toD, e]
  | .str b, k, w, d, z, e => by cases dz_str_iff.mp z; simp [toDZ] at e; simp [toD, e]
  | .tup vs, k, w, d, z, e => by
    obtain ⟨ws, rfl, a⟩ := dz_tup_iff.mp z
    simp only [toDZ, Option.map_eq_some_iff] at e
    obtain ⟨ds, e1, e2⟩ := e
    simp only [toD, toDs_of vs k ws ds a e1, Option.map_some, e2]
  | .frz vs, k, w, d, z, e => by
    obtain ⟨ws, rfl, a⟩ := dz_frz_iff.mp z
    simp only [toDZ, Option.map_eq_some_iff] at e
    obtain ⟨ds, e1, e2⟩ := e
    simp only [toD, toDs_of vs k ws ds a e1, Option.map_some, e2]
  | .lst vs, 0, w, d, z, e => by simp [toDZ] at e
  | .lst vs, k + 1, w, d, z, e => by
    obtain ⟨n, tg, ws, rfl, _, hn, a⟩ := dz_lst_iff.mp z
    simp only [toDZ, Option.map_eq_some_iff] at e
    obtain ⟨ds, e1, e2⟩ := e
    have l := asL_ref hn
    simp only [toD, refD, l, toDs_of vs k ws ds a e1, Option.map_some, e2]
  | .dct _ _, k, w, d, z, e => by cases k <;> simp [toDZ] at e
  | .ins _ _, k, w, d, z, e => by cases k <;> simp [toDZ] at e
  | .exn _ _, k, w, d, z, e => by cases k <;> simp [toDZ] at e
theorem toDs_of {S : Cel} {h : Hq} : ∀ (vs : List Zv) (k : Nat) (ws : List W) (ds : List PyData), A2 (DZ S h) ws vs → toDZs k vs = some ds → toDs (refD h k) ws = some ds
  | [], k, ws, ds, a, e => by cases a; simp [toDZs] at e; simp [toDs, e]
  | v :: vs, k, ws, ds, a, e => by
    cases a with
    | cons r a =>
      unfold toDZs at e
      split at e
      · rename_i d ds' h1 h2
        unfold toDs
        rw [toD_of v k _ d r h1, toDs_of vs k _ ds' a h2]
        exact e
      · cases e
end
def eqZ (neg : Bool) (a b : Zv) : Rz Zv := match a, b with
  | .int i, .int j => .ok (.bl (xor neg (decide (i = j))))
  | .str i, .str j => .ok (.bl (xor neg (decide (i = j))))
  | .bl i, .bl j => .ok (.bl (xor neg (decide (i = j))))
  | .non, .non => .ok (.bl (xor neg true))
  | .non, .int _ | .int _, .non | .non, .bl _ | .bl _, .non | .non, .str _ | .str _, .non | .int _, .str _ | .str _, .int _ | .bl _, .str _ | .str _, .bl _ => .ok (.bl neg)
  | x, y => match toDZ 60 x, toDZ 60 y with
    | some d, some e => if SeqAt.shaped d && SeqAt.shaped e then .ok (.bl (xor neg (PyData.eqv d e))) else .stuck
    | _, _ => .stuck
def T.val : T → Option Zv
  | .z v => some v
  | .lst vs => some (.lst vs)
  | _ => none
def eqT (neg : Bool) : G2 := fun t u => match t.val, u.val with
  | some v, some x => (eqZ neg v x).z
  | _, _ => .stuck
theorem Rdb.val {S : Cel} {h : Hq} {w : W} {t : T} {v : Zv} (d : Rdb S h w t) (e : t.val = some v) : ∃ S', DZ S' h w v ∧ (∀ n, S n = true → S' n = true) := by
  cases t with
  | z u => cases e; exact ⟨S, d.z, fun _ q => q⟩
  | lst us =>
    cases e
    obtain ⟨n, tg, ws, rfl, hn, a⟩ := asM_w d rfl
    exact ⟨fun k => S k || decide (k = n), dz_lst (by simp) hn (a.imp fun _ _ _ _ q => q.mono (fun _ z => by simp [z]) fun _ _ => rfl), fun k q => by simp [q]⟩
  | _ => cases e
theorem op_eq {neg : Bool} : Op2 (eqW neg) (eqT neg) := fun S h x y t u s a b => by
  unfold eqT
  cases e1 : t.val with
  | none => trivial
  | some v =>
    cases e2 : u.val with
    | none => trivial
    | some z =>
      obtain ⟨S1, d1, _⟩ := a.val e1
      obtain ⟨S2, d2, _⟩ := b.val e2
      have key : Po S h (match dataW h x, dataW h y with
          | some d, some e => if SeqAt.shaped d && SeqAt.shaped e then .ok (.bl (xor neg (PyData.eqv d e))) h else .stuck
          | _, _ => .stuck) (Rz.z (match toDZ 60 v, toDZ 60 z with
          | some d, some e => if SeqAt.shaped d && SeqAt.shaped e then .ok (.bl (xor neg (PyData.eqv d e))) else .stuck
          | _, _ => .stuck)) fun w t S' h' => Fr S' h h' w t := by
        cases q1 : toDZ 60 v with
        | none => trivial
        | some d =>
          cases q2 : toDZ 60 z with
          | none => trivial
          | some e =>
            have w1 : dataW h x = some d := toD_of v 60 x d d1 q1
            have w2 : dataW h y = some e := toD_of z 60 y e d2 q2
            rw [w1, w2]
            dsimp only
            split
            · exact Po.ret s (.z dz_bl)
            · trivial
      have i1 := d1.inv
      have i2 := d2.inv
      have L : ∀ (v : Zv) (w : W), (match w with
        | .non => v = .non
        | .bl b => v = .bl b
        | .int i => v = .int i
        | .str x => v = .str x
        | .exn a c => v = .exn a c
        | .tup ws => ∃ vs, v = .tup vs
        | .frz ws => ∃ vs, v = .frz vs
        | .kt _ => False
        | .ref n => (∃ vs, v = .lst vs) ∨ (∃ b vs, v = .dct b vs) ∨ ∃ c vs, v = .ins c vs) → True := fun _ _ _ => trivial
      cases x with
      | ref n =>
        obtain ⟨_, ⟨_, _, _, _, rfl, _⟩ | ⟨_, _, _, _, _, rfl, _⟩ | ⟨_, _, _, _, rfl, _⟩⟩ := i1 <;> (cases y <;> first
          | (obtain ⟨_, ⟨_, _, _, _, rfl, _⟩ | ⟨_, _, _, _, _, rfl, _⟩ | ⟨_, _, _, _, rfl, _⟩⟩ := i2 <;> exact key)
          | (obtain ⟨_, rfl, _⟩ := i2; exact key)
          | (cases i2; exact key))
      | tup ws =>
        obtain ⟨_, rfl, _⟩ := i1
        cases y <;> first
          | (obtain ⟨_, ⟨_, _, _, _, rfl, _⟩ | ⟨_, _, _, _, _, rfl, _⟩ | ⟨_, _, _, _, rfl, _⟩⟩ := i2 <;> exact key)
          | (obtain ⟨_, rfl, _⟩ := i2; exact key)
          | (cases i2; exact key)
      | kt ws => exact i1.elim
      | frz ws =>
        obtain ⟨_, rfl, _⟩ := i1
        cases y <;> first
          | (obtain ⟨_, ⟨_, _, _, _, rfl, _⟩ | ⟨_, _, _, _, _, rfl, _⟩ | ⟨_, _, _, _, rfl, _⟩⟩ := i2 <;> exact key)
          | (obtain ⟨_, rfl, _⟩ := i2; exact key)
          | (cases i2; exact key)
      | non =>
        cases i1
        cases y <;> first
          | (obtain ⟨_, ⟨_, _, _, _, rfl, _⟩ | ⟨_, _, _, _, _, rfl, _⟩ | ⟨_, _, _, _, rfl, _⟩⟩ := i2 <;> exact key)
          | (obtain ⟨_, rfl, _⟩ := i2; exact key)
          | (cases i2; exact Po.ret s (.z dz_bl))
          | (cases i2; exact key)
      | bl b =>
        cases i1
        cases y <;> first
          | (obtain ⟨_, ⟨_, _, _, _, rfl, _⟩ | ⟨_, _, _, _, _, rfl, _⟩ | ⟨_, _, _, _, rfl, _⟩⟩ := i2 <;> exact key)
          | (obtain ⟨_, rfl, _⟩ := i2; exact key)
          | (cases i2; exact Po.ret s (.z dz_bl))
          | (cases i2; exact key)
      | int b =>
        cases i1
        cases y <;> first
          | (obtain ⟨_, ⟨_, _, _, _, rfl, _⟩ | ⟨_, _, _, _, _, rfl, _⟩ | ⟨_, _, _, _, rfl, _⟩⟩ := i2 <;> exact key)
          | (obtain ⟨_, rfl, _⟩ := i2; exact key)
          | (cases i2; exact Po.ret s (.z dz_bl))
          | (cases i2; exact key)
      | str b =>
        cases i1
        cases y <;> first
          | (obtain ⟨_, ⟨_, _, _, _, rfl, _⟩ | ⟨_, _, _, _, _, rfl, _⟩ | ⟨_, _, _, _, rfl, _⟩⟩ := i2 <;> exact key)
          | (obtain ⟨_, rfl, _⟩ := i2; exact key)
          | (cases i2; exact Po.ret s (.z dz_bl))
          | (cases i2; exact key)
      | exn a c =>
        cases i1
        cases y <;> first
          | (obtain ⟨_, ⟨_, _, _, _, rfl, _⟩ | ⟨_, _, _, _, _, rfl, _⟩ | ⟨_, _, _, _, rfl, _⟩⟩ := i2 <;> exact key)
          | (obtain ⟨_, rfl, _⟩ := i2; exact key)
          | (cases i2; exact key)
def ordZ (g : Int → Int → Bool) (s : Str → Str → Bool) : GZ := fun a b => match a, b with
  | .int i, .int j => .ok (.bl (g i j))
  | .str i, .str j => .ok (.bl (s i j))
  | _, _ => .stuck
theorem opz_ord {g : Int → Int → Bool} {s : Str → Str → Bool} : OpZ (ordW g s) (ordZ g s) := fun S h x y v u _ a b => by
  cases v <;> cases u <;> first | trivial | skip
  · cases dz_int_iff.mp a; cases dz_int_iff.mp b; exact ⟨_, rfl, dz_bl⟩
  · cases dz_str_iff.mp a; cases dz_str_iff.mp b; exact ⟨_, rfl, dz_bl⟩
def ltT : G2 := ofZ2 (ordZ (fun i j => decide (i < j)) sLt)
def leT : G2 := ofZ2 (ordZ (fun i j => decide (i ≤ j)) sLe)
def gtT : G2 := ofZ2 (ordZ (fun i j => decide (j < i)) (fun i j => sLt j i))
def geT : G2 := ofZ2 (ordZ (fun i j => decide (j ≤ i)) (fun i j => sLe j i))
theorem op_lt : Op2 ltW ltT := op_z opz_ord
theorem op_le : Op2 leW leT := op_z opz_ord
theorem op_gt : Op2 gtW gtT := op_z opz_ord
theorem op_ge : Op2 geW geT := op_z opz_ord
end ZP

namespace ZP
open PySem L2 Z
section
variable {A B B' : List Nat} {a b c : ME} {p q r : P0}

def pNeg (p : P0) : P0 := fun ps => (p ps).bind fun t => match t with
  | .z (.int i) => .ok (.z (.int (-i)))
  | _ => .stuck
theorem j_neg (ja : J0b A B a p) : J0f A (eNeg a) (pNeg p) := fun S h X O ρ ps v =>
  (ja S h X O ρ ps v).bind fun x t S1 h1 a1 s1 k1 => by
    cases t with
    | z u =>
      cases u with
      | int i =>
        cases dz_int_iff.mp k1.z
        exact Po.ret s1 (.z dz_int)
      | _ => trivial
    | _ => trivial
def asB : T → Rz Bool
  | .z (.bl b) => .ok b
  | _ => .stuck
def pTB (p : P0) : P0b := fun ps => (p ps).bind asB
theorem j_tB (ja : J0b A B a p) : J0t A (tB a) (pTB p) := fun S h X O ρ ps v =>
  (ja S h X O ρ ps v).bind fun x t S1 h1 a1 s1 k1 => by
    cases t with
    | z u =>
      cases u with
      | bl i =>
        cases dz_bl_iff.mp k1.z
        exact Po.ret s1 rfl
      | _ => trivial
    | _ => trivial
def pChain (f g : G2) (p q r : P0) : P0 := fun ps => (p ps).bind fun t => (q ps).bind fun u => (f t u).bind fun k => match k with
  | .z (.bl true) => (r ps).bind fun z => g u z
  | .z (.bl false) => .ok (.z (.bl false))
  | _ => .stuck
theorem Fr.base {S : Cel} {h0 h h' : Hq} {w : W} {t : T} (l : h0.length ≤ h.length) (f : Fr S h h' w t) : Fr S h0 h' w t := by
  obtain ⟨o, d, k⟩ := f
  exact ⟨o, d, fun n q => ⟨Nat.le_trans l (k n q).1, (k n q).2⟩⟩
theorem j_chain {B'' : List Nat} {f g : F2} {f' g' : G2} (o1 : Op2 f f') (o2 : Op2 g g') (ja : J0b A B a p) (jb : J0b A B' b q) (jc : J0b A B'' c r) : J0f A (eChain f g a b c) (pChain f' g' p q r) := fun S h X O ρ ps v =>
  (ja S h X O ρ ps v).bind fun x t S1 h1 a1 s1 k1 => (jb S1 h1 X O ρ ps (v.ext a1 s1)).bind fun y u S2 h2 a2 s2 k2 =>
    (o1 S2 h2 x y t u s2 (k1.rdb.ext a2 s1) k2.rdb).bind fun w m S3 h3 a3 s3 k3 => by
      have v3 := ((v.ext a1 s1).ext a2 s2).ext a3 s3
      cases m with
      | z k =>
        cases k with
        | bl k =>
          cases dz_bl_iff.mp (k3.br (B := []) (X := X) (O := O)).z
          cases k with
          | true =>
            refine (jc S3 h3 X O ρ ps v3).bind fun z e S4 h4 a4 s4 k4 => ?_
            exact (o2 S4 h4 y z u e s4 ((k2.rdb.ext a3 s2).ext a4 s3) k4.rdb).mono fun w r S5 h5 a5 s5 f => f.base (((a1.trans a2).trans a3).trans a4).len
          | false => exact Po.ret s3 (.z dz_bl)
        | _ => trivial
      | _ => trivial
def truT : T → Option Bool
  | .z .non => some false
  | .z (.bl b) => some b
  | .z (.int i) => some (i != 0)
  | .z (.str x) => if x.length ≤ sizeLine then some ((x.length : Int) != 0) else none
  | .z (.tup xs) | .z (.frz xs) | .z (.lst xs) | .lst xs => some (!xs.isEmpty)
  | .dct false kvs => some (!kvs.isEmpty)
  | .nst ts => some (!ts.isEmpty)
  | _ => none
theorem A2.empty {α β : Type} {R : α → β → Prop} {xs : List α} {ys : List β} (h : A2 R xs ys) : xs.isEmpty = ys.isEmpty := by cases h <;> rfl
theorem tru_w {S : Cel} {h : Hq} {w : W} {t : T} {k : Bool} (d : Rdb S h w t) (e : truT t = some k) : truW h w = some k := by
  cases t with
  | z v =>
    have z := d.z
    cases v with
    | non => cases dz_non_iff.mp z; exact e
    | bl b => cases dz_bl_iff.mp z; exact e
    | int b => cases dz_int_iff.mp z; exact e
    | str b => cases dz_str_iff.mp z; exact e
    | tup b => obtain ⟨ws, rfl, a⟩ := dz_tup_iff.mp z; rw [truT] at e; rw [truW, a.empty]; exact e
    | frz b => obtain ⟨ws, rfl, a⟩ := dz_frz_iff.mp z; rw [truT] at e; rw [truW, a.empty]; exact e
    | lst b => obtain ⟨n, tg, ws, rfl, _, hn, a⟩ := dz_lst_iff.mp z; rw [truT] at e; simp only [truW, hn, a.empty]; exact e
    | dct b kvs =>
      obtain ⟨n, tg, ws, rfl, _, hn, a⟩ := dz_dct_iff.mp z
      cases b with
      | true => cases e
      | false => cases e
    | ins c fs => cases e
    | exn _ _ => cases e
  | lst vs =>
    obtain ⟨o, d, _⟩ := d
    obtain ⟨n, tg, ws, rfl, _, hn, a⟩ := D.lst_iff.mp d; rw [truT] at e; simp only [truW, hn, a.empty]; exact e
  | dct b kvs =>
    obtain ⟨o, d, _⟩ := d
    obtain ⟨n, tg, ws, rfl, _, hn, a⟩ := D.dct_iff.mp d
    cases b with
    | true => cases e
    | false => rw [truT] at e; simp only [truW, hn, a.empty]; exact e
  | nst ts =>
    obtain ⟨o, d, _⟩ := d
    obtain ⟨n, tg, ws, rfl, _, hn, hl, a⟩ := D.nst_iff.mp d
    rw [truT] at e; simp only [truW, hn]
    have : ws.isEmpty = ts.isEmpty := by cases ws <;> cases ts <;> simp_all
    rw [this]; exact e
  | ins c fs => cases e
def pTru (p : P0) : P0b := fun ps => (p ps).bind fun t => match truT t with
  | some b => .ok b
  | none => .stuck
theorem j_tru (ja : J0b A B a p) : J0t A (tTru a) (pTru p) := fun S h X O ρ ps v =>
  (ja S h X O ρ ps v).bind fun x t S1 h1 a1 s1 k1 => by
    cases e : truT t with
    | none => trivial
    | some k =>
      rw [tru_w k1.rdb e]
      exact Po.ret s1 rfl
end
section
variable {A : List Nat} {a b : MT} {p q : P0b}
def pTOr (p q : P0b) : P0b := fun ps => (p ps).bind fun k => if k then .ok true else q ps
theorem j_tOr (ja : J0t A a p) (jb : J0t A b q) : J0t A (tOrM a b) (pTOr p q) := fun S h X O ρ ps v =>
  (ja S h X O ρ ps v).bind fun x t S1 h1 a1 s1 k1 => by
    subst k1
    cases x with
    | true => exact Po.ret s1 rfl
    | false => exact jb S1 h1 X O ρ ps (v.ext a1 s1)
def pTNot (p : P0b) : P0b := fun ps => (p ps).map (!·)
theorem j_tNot (ja : J0t A a p) : J0t A (tNotM a) (pTNot p) := fun S h X O ρ ps v => by
  have := (ja S h X O ρ ps v).bind (f := fun k h1 => Res.ok (!k) h1) (g := fun k => Rz.ok (!k)) (K' := fun w t _ _ => w = t) fun x t S1 h1 a1 s1 k1 => by subst k1; exact Po.ret s1 rfl
  unfold pTNot Rz.map
  exact this
end
section
variable {A B B' : List Nat} {a b c : ME} {p q r : P0}
def pAnd (p q : P0) : P0 := fun ps => (p ps).bind fun t => match t with
  | .z (.bl true) => q ps
  | .z (.bl false) => .ok (.z (.bl false))
  | _ => .stuck
theorem j_and (ja : J0b A B a p) (jb : J0f A b q) : J0f A (eAnd a b) (pAnd p q) := fun S h X O ρ ps v =>
  (ja S h X O ρ ps v).bind fun x t S1 h1 a1 s1 k1 => by
    cases t with
    | z k =>
      cases k with
      | bl k =>
        cases dz_bl_iff.mp k1.z
        cases k with
        | true => exact (jb S1 h1 X O ρ ps (v.ext a1 s1)).mono fun _ _ _ _ _ _ f => f.base a1.len
        | false => exact Po.ret s1 (.z dz_bl)
      | _ => trivial
    | _ => trivial
def pNot (p : P0) : P0 := fun ps => (p ps).bind fun t => match t with
  | .z (.bl k) => .ok (.z (.bl (!k)))
  | _ => .stuck
theorem j_not (ja : J0b A B a p) : J0f A (eNot a) (pNot p) := fun S h X O ρ ps v =>
  (ja S h X O ρ ps v).bind fun x t S1 h1 a1 s1 k1 => by
    cases t with
    | z k =>
      cases k with
      | bl k =>
        cases dz_bl_iff.mp k1.z
        exact Po.ret s1 (.z dz_bl)
      | _ => trivial
    | _ => trivial
def pNil : P0a := fun _ => .ok []
theorem j_nil : J0a A [] aNil pNil := fun S h X O ρ ps v => Po.ret v.s .nil
def pCons (p : P0) (q : P0a) : P0a := fun ps => (p ps).bind fun t => (q ps).bind fun ts => .ok (t :: ts)
theorem Br.sub {B B' : List Nat} {S : Cel} {h h' : Hq} {X : Xt} {O : Om} {w : W} {t : T} (k : ∀ i ∈ B, i ∈ B') (f : Br B S h h' X O w t) : Br B' S h h' X O w t := by
  obtain ⟨o, d, q⟩ := f
  exact ⟨o, d, fun n z => ⟨(q n z).1, (q n z).2.1, (q n z).2.2.imp id fun y => y.imp id fun ⟨j, s, e, m⟩ => ⟨j, s, e, k j m⟩⟩⟩
theorem Br.base {B : List Nat} {S : Cel} {h0 h h' : Hq} {X : Xt} {O : Om} {w : W} {t : T} (l : h0.length ≤ h.length) (f : Br B S h h' X O w t) : Br B S h0 h' X O w t := by
  obtain ⟨o, d, q⟩ := f
  exact ⟨o, d, fun n z => ⟨(q n z).1, (q n z).2.1, (q n z).2.2.imp (fun y => Nat.le_trans l y) id⟩⟩
theorem j_cons {m : MA} {q : P0a} (ja : J0b A B a p) (jr : J0a A B' m q) : J0a A (B ++ B') (aCons a m) (pCons p q) := fun S h X O ρ ps v =>
  (ja S h X O ρ ps v).bind fun x t S1 h1 a1 s1 k1 => (jr S1 h1 X O ρ ps (v.ext a1 s1)).bind fun xs ts S2 h2 a2 s2 k2 =>
    Po.ret s2 (.cons ((k1.ext (S0 := S) a2 s1 (Nat.le_refl _)).sub fun i hi => List.mem_append_left _ hi) (k2.imp fun _ _ _ _ f => (f.base a1.len).sub fun i hi => List.mem_append_right _ hi))
def zsT : List T → Option (List Zv)
  | [] => some []
  | .z v :: ts => (zsT ts).map (v :: ·)
  | _ => none
theorem zs_w {S : Cel} {h : Hq} : ∀ {ws : List W} {ts : List T} {vs : List Zv}, A2 (Rdb S h) ws ts → zsT ts = some vs → A2 (DZ S h) ws vs
  | _, [], _, a, e => by cases a; cases e; exact .nil
  | _, .z v :: ts, _, a, e => by
    cases a with
    | cons r a =>
      simp only [zsT, Option.map_eq_some_iff] at e
      obtain ⟨us, e1, rfl⟩ := e
      exact .cons r.z (zs_w a e1)
  | _, .lst _ :: _, _, _, e => by cases e
  | _, .nst _ :: _, _, _, e => by cases e
  | _, .dct _ _ :: _, _, _, e => by cases e
  | _, .ins _ _ :: _, _, _, e => by cases e
def tupT : PF := fun ts => match zsT ts with
  | some vs => .ok (.z (.tup vs))
  | none => .stuck
def lstT : PF := fun ts => match zsT ts with
  | some vs => .ok (.lst vs)
  | none => .stuck
def pTup (q : P0a) : P0 := fun ps => (q ps).bind tupT
def pLst (q : P0a) : P0 := fun ps => (q ps).bind lstT
theorem rdbs {B : List Nat} {S : Cel} {h h' : Hq} {X : Xt} {O : Om} {ws : List W} {ts : List T} (k : A2 (Br B S h h' X O) ws ts) : A2 (Rdb S h') ws ts := k.imp fun _ _ _ _ f => f.rdb
theorem j_tup {m : MA} {q : P0a} (ja : J0a A B m q) : J0f A (eTup m) (pTup q) := fun S h X O ρ ps v =>
  (ja S h X O ρ ps v).bind fun ws ts S1 h1 a1 s1 k1 => by
    unfold tupT
    cases e : zsT ts with
    | none => trivial
    | some vs => exact Po.ret s1 (.z (dz_tup (zs_w (rdbs k1) e)))
theorem j_lst {m : MA} {q : P0a} (ja : J0a A B m q) : J0f A (eLst 0 m) (pLst q) := fun S h X O ρ ps v =>
  (ja S h X O ρ ps v).bind fun ws ts S1 h1 a1 s1 k1 => by
    unfold lstT
    cases e : zsT ts with
    | none => trivial
    | some vs => exact (po_mkL s1 (zs_w (rdbs k1) e)).mono fun _ _ _ _ _ _ f => f.base a1.len
def pCall (P : PF) (q : P0a) : P0 := fun ps => (q ps).bind P
theorem j_call {F : MF} {P : PF} {m : MA} {q : P0a} (f : JF F P) (ja : J0a A B m q) : J0f A (eCB F m) (pCall P q) := fun S h X O ρ ps v =>
  (ja S h X O ρ ps v).bind fun ws ts S1 h1 a1 s1 k1 => (f S1 h1 ws ts s1 (rdbs k1)).mono fun _ _ _ _ _ _ f => f.base a1.len
def pCall0 (P : PF) : P0 := fun _ => P []
theorem j_call0 {F : MF} {P : PF} (f : JF F P) : J0f A (eCB0 F) (pCall0 P) := fun S h X O ρ ps v => f S h [] [] v.s .nil
def Go (S : Cel) (h : Hq) (F : MF) (w : W) (r : Rz Zv) : Prop := match r with
    | .ok v => ∃ x, F [w] h = .ok x h ∧ DZ S h x v
    | .exc _ => False
    | .stuck => True
theorem jf_1 {F : MF} {g : T → Rz Zv} (k : ∀ S h w t, Sb S h → Rdb S h w t → Go S h F w (g t)) : JF F (fun ts => match ts with
    | [t] => (g t).z
    | _ => .stuck) := fun S h ws ts s a => by
  cases a with
  | nil => trivial
  | cons r a =>
    cases a with
    | cons _ _ => trivial
    | nil =>
      rename_i w t
      have := k S h w t s r
      show Po S h (F [w] h) (g t).z _
      revert this
      cases g t with
      | ok v => rintro ⟨x, e, d⟩; exact ⟨x, h, S, e, Wx.refl, s, .z d⟩
      | exc c => exact fun z => z.elim
      | stuck => exact fun _ => trivial
def lenG : T → Rz Zv
  | .z (.str x) => if x.length ≤ sizeLine then .ok (.int x.length) else .stuck
  | .z (.tup ys) | .z (.frz ys) | .z (.lst ys) | .lst ys => .ok (.int ys.length)
  | .nst ts => .ok (.int ts.length)
  | .z (.dct _ kvs) | .dct _ kvs => .ok (.int kvs.length)
  | _ => .stuck
def lenT : PF := fun ts => match ts with
  | [t] => (lenG t).z
  | _ => .stuck
theorem jf_len : JF lenW lenT := jf_1 fun S h w t s d => by
  unfold lenG
  have L : ∀ {n tg : Nat} {ws : List W}, h[n]? = some (.lst tg ws) → lenW [.ref n] h = .ok (.int ws.length) h := fun e => by
    show (match h[_]? with
      | some (Ob.lst _ ys) => Res.ok (W.int ys.length) h
      | some (.dct _ _ kvs) => .ok (.int kvs.length) h
      | _ => .stuck) = _
    rw [e]
  have L2 : ∀ {n tg : Nat} {b : Bool} {ws : List (W × W)}, h[n]? = some (.dct tg b ws) → lenW [.ref n] h = .ok (.int ws.length) h := fun e => by
    show (match h[_]? with
      | some (Ob.lst _ ys) => Res.ok (W.int ys.length) h
      | some (.dct _ _ kvs) => .ok (.int kvs.length) h
      | _ => .stuck) = _
    rw [e]
  split
  · rename_i x
    cases dz_str_iff.mp d.z
    split
    · rename_i c; exact ⟨_, by unfold lenW; simp only [if_pos c], dz_int⟩
    · trivial
  · obtain ⟨ws, rfl, a⟩ := dz_tup_iff.mp d.z; exact ⟨_, rfl, by rw [← a.length]; exact dz_int⟩
  · obtain ⟨ws, rfl, a⟩ := dz_frz_iff.mp d.z; exact ⟨_, rfl, by rw [← a.length]; exact dz_int⟩
  · obtain ⟨n, tg, ws, rfl, _, hn, a⟩ := dz_lst_iff.mp d.z; exact ⟨_, L hn, by rw [← a.length]; exact dz_int⟩
  · obtain ⟨o, d, _⟩ := d
    obtain ⟨n, tg, ws, rfl, _, hn, a⟩ := D.lst_iff.mp d; exact ⟨_, L hn, by rw [← a.length]; exact dz_int⟩
  · obtain ⟨o, d, _⟩ := d
    obtain ⟨n, tg, ws, rfl, _, hn, hl, a⟩ := D.nst_iff.mp d; exact ⟨_, L hn, by rw [← hl]; exact dz_int⟩
  · obtain ⟨n, tg, ws, rfl, _, hn, a⟩ := dz_dct_iff.mp d.z; exact ⟨_, L2 hn, by rw [← a.length]; exact dz_int⟩
  · obtain ⟨o, d, _⟩ := d
    obtain ⟨n, tg, ws, rfl, _, hn, a⟩ := D.dct_iff.mp d; exact ⟨_, L2 hn, by rw [← a.length]; exact dz_int⟩
  · trivial
def intcT : PF := fun ts => match ts with
  | [t] => (match t with
    | .z (.int i) => Rz.ok (Zv.int i)
    | .z (.bl k) => .ok (.int (if k then 1 else 0))
    | _ => .stuck).z
  | _ => .stuck
theorem jf_intc : JF intcW intcT := jf_1 fun S h w t s d => by
  split
  · cases dz_int_iff.mp d.z; exact ⟨_, rfl, dz_int⟩
  · cases dz_bl_iff.mp d.z; exact ⟨_, rfl, dz_int⟩
  · trivial
theorem jf_ii {F : MF} {g : Int → Int → Int} (k : ∀ i j h, F [.int i, .int j] h = .ok (.int (g i j)) h) : JF F (fun ts => match ts with
    | [.z (.int i), .z (.int j)] => .ok (.z (.int (g i j)))
    | _ => .stuck) := fun S h ws ts s a => by
  dsimp only
  split
  · cases a with
    | cons r a =>
      cases a with
      | cons r2 a =>
        cases a
        cases dz_int_iff.mp r.z
        cases dz_int_iff.mp r2.z
        exact ⟨_, h, S, k _ _ _, Wx.refl, s, .z dz_int⟩
  · trivial
def min2T : PF := fun ts => match ts with
    | [.z (.int i), .z (.int j)] => .ok (.z (.int (if j < i then j else i)))
    | _ => .stuck
theorem jf_min2 : JF min2W min2T := jf_ii fun _ _ _ => rfl
def tyT : T → Option (String ⊕ Str)
  | .z .non => some (.inl "NoneType")
  | .z (.bl _) => some (.inl "bool")
  | .z (.int _) => some (.inl "int")
  | .z (.str _) => some (.inl "str")
  | .z (.tup _) => some (.inl "tuple")
  | .z (.frz _) | .z (.lst _) | .lst _ | .nst _ => some (.inl "list")
  | .z (.dct false _) | .dct _ _ => some (.inl "dict")
  | .z (.dct true _) => none
  | .z (.ins c _) | .ins c _ => some (.inr c)
  | .z (.exn _ _) => none
theorem ty_w {S : Cel} {h : Hq} {w : W} {t : T} {k : String ⊕ Str} (d : Rdb S h w t) (e : tyT t = some k) : tyW h w = some k := by
  cases t with
  | z v =>
    have z := d.z
    cases v with
    | non => cases dz_non_iff.mp z; exact e
    | bl b => cases dz_bl_iff.mp z; exact e
    | int b => cases dz_int_iff.mp z; exact e
    | str b => cases dz_str_iff.mp z; exact e
    | tup b => obtain ⟨ws, rfl, a⟩ := dz_tup_iff.mp z; exact e
    | frz b => obtain ⟨ws, rfl, a⟩ := dz_frz_iff.mp z; exact e
    | lst b => obtain ⟨n, tg, ws, rfl, _, hn, a⟩ := dz_lst_iff.mp z; simp only [tyW, hn]; exact e
    | dct b kvs => obtain ⟨n, tg, ws, rfl, _, hn, a⟩ := dz_dct_iff.mp z; cases b with | false => (cases e; simp only [tyW, hn]) | true => cases e
    | ins c fs => obtain ⟨n, ws, rfl, _, hn, a⟩ := dz_ins_iff.mp z; simp only [tyW, hn]; exact e
    | exn _ _ => cases e
  | lst vs => obtain ⟨o, d, _⟩ := d; obtain ⟨n, tg, ws, rfl, _, hn, a⟩ := D.lst_iff.mp d; simp only [tyW, hn]; exact e
  | dct b kvs => obtain ⟨o, d, _⟩ := d; obtain ⟨n, tg, ws, rfl, _, hn, a⟩ := D.dct_iff.mp d; cases b <;> (cases e; simp only [tyW, hn])
  | nst ts => obtain ⟨o, d, _⟩ := d; obtain ⟨n, tg, ws, rfl, _, hn, hl, a⟩ := D.nst_iff.mp d; simp only [tyW, hn]; exact e
  | ins c fs => obtain ⟨o, d, _⟩ := d; obtain ⟨n, ws, rfl, _, hn, hl, a⟩ := D.ins_iff.mp d; simp only [tyW, hn]; exact e
def isiT (s : String) : T → Rz T := fun t => match tyT t with
  | some (.inl s') => (match kitB s' s with
    | some b => .ok (.z (.bl b))
    | none => .stuck)
  | some (.inr _) => if isiTs.contains s then .ok (.z (.bl false)) else .stuck
  | none => .stuck
def pIsi (s : String) (p : P0) : P0 := fun ps => (p ps).bind (isiT s)
theorem j_isi {s : String} (ja : J0b A B a p) : J0f A (isiW s a) (pIsi s p) := fun S h X O ρ ps v =>
  (ja S h X O ρ ps v).bind fun x t S1 h1 a1 s1 k1 => by
    unfold isiT
    cases e : tyT t with
    | none => trivial
    | some k =>
      rw [ty_w k1.rdb e]
      cases k with
      | inl s' =>
        dsimp only
        cases e2 : kitB s' s with
        | none => trivial
        | some b => exact Po.ret s1 (.z dz_bl)
      | inr c =>
        dsimp only
        split
        · exact Po.ret s1 (.z dz_bl)
        · trivial
end
end ZP

namespace ZP
open PySem L2 Z
theorem A2.atI {α β : Type} {R : α → β → Prop} {xs : List α} {ys : List β} (h : A2 R xs ys) {i : Int} {b : β} (e : L2.atI ys i = some b) : ∃ a, L2.atI xs i = some a ∧ R a b := by
  unfold L2.atI at e ⊢
  rw [h.length]
  cases q : L2.ixN ys.length i with
  | none => rw [q] at e; cases e
  | some j =>
    rw [q] at e
    exact h.get e
section
variable {A B B' B'' : List Nat} {a b c : ME} {p q r : P0}
def ixT : G2 := fun t u => match u with
  | .z (.int i) => (match t with
    | .z (.tup xs) => (match atI xs i with
      | some v => .ok (.z v)
      | none => .stuck)
    | .z (.str z) => if z.length ≤ sizeLine then (match atI z.cps.toList i with
      | some c => .ok (.z (.str ⟨#[c]⟩))
      | none => .stuck) else .stuck
    | .nst ts => (match atI ts i with
      | some v => .ok v
      | none => .stuck)
    | t => (match asLT t with
      | some xs => (match atI xs i with
        | some v => .ok (.z v)
        | none => .stuck)
      | none => .stuck))
  | _ => .stuck
theorem ix_l {h : Hq} {x : W} {ws : List W} {i : Int} {w : W} (e : asL h x = some ws) (hx : (∃ n tg, x = .ref n ∧ h[n]? = some (.lst tg ws)) ∨ x = .frz ws) (k : atI ws i = some w) : ixW x (.int i) h = .ok w h := by
  unfold ixW
  rcases hx with ⟨n, tg, rfl, hn⟩ | rfl
  · simp only [e, k]
  · simp only [e, k]
theorem j_ix (ja : J0b A B a p) (jb : J0b A B' b q) : J0b A B (eBin ixW a b) (pBin ixT p q) := fun S h X O ρ ps v =>
  (ja S h X O ρ ps v).bind fun x t S1 h1 a1 s1 k1 => (jb S1 h1 X O ρ ps (v.ext a1 s1)).bind fun y u S2 h2 a2 s2 k2 => by
    cases u with
    | z u =>
      cases u with
      | int i =>
        cases dz_int_iff.mp k2.z
        have k1 := k1.ext (S0 := S) a2 s1 (Nat.le_refl _)
        have LS : Po S2 h2 (ixW x (.int i) h2) (match asLT t with
            | some xs => (match atI xs i with
              | some v => Rz.ok (T.z v)
              | none => .stuck)
            | none => .stuck) fun w t S' h' => Br B S' h h' X O w t := by
          cases e : asLT t with
          | none => trivial
          | some xs =>
            dsimp only
            cases e2 : atI xs i with
            | none => trivial
            | some z =>
              obtain ⟨ws, e3, m, k⟩ := asL_w k1.rdb e
              obtain ⟨w, e4, d⟩ := m.atI e2
              rw [ix_l e3 k e4]
              exact Po.ret s2 (Fr.z (S := S2) (h := h) d).br
        cases t with
        | z t =>
          cases t with
          | tup xs =>
            obtain ⟨ws, rfl, m⟩ := dz_tup_iff.mp k1.z
            show Po S2 h2 _ (match atI xs i with
              | some v => Rz.ok (T.z v)
              | none => .stuck) _
            cases e2 : atI xs i with
            | none => trivial
            | some z =>
              obtain ⟨w, e4, d⟩ := m.atI e2
              have : ixW (.tup ws) (.int i) h2 = .ok w h2 := by unfold ixW; simp only [e4]
              rw [this]
              exact Po.ret s2 (Fr.z (S := S2) (h := h) d).br
          | str z =>
            cases dz_str_iff.mp k1.z
            show Po S2 h2 _ (if z.length ≤ sizeLine then (match atI z.cps.toList i with
              | some c => Rz.ok (T.z (.str ⟨#[c]⟩))
              | none => .stuck) else .stuck) _
            split
            · rename_i hz
              cases e2 : atI z.cps.toList i with
              | none => trivial
              | some c =>
                have : ixW (.str z) (.int i) h2 = .ok (.str ⟨#[c]⟩) h2 := by unfold ixW; simp only [if_pos hz, e2]
                rw [this]
                exact Po.ret s2 (Fr.z (S := S2) (h := h) dz_str).br
            · trivial
          | _ => exact LS
        | nst ts =>
          show Po S2 h2 _ (match atI ts i with
              | some v => Rz.ok v
              | none => .stuck) _
          cases e2 : atI ts i with
          | none => trivial
          | some z =>
            obtain ⟨o, d, k⟩ := k1
            obtain ⟨n, tg, ws, rfl, on, hn, hl, m⟩ := D.nst_iff.mp d
            unfold L2.atI at e2
            cases q : ixN ts.length i with
            | none => rw [q] at e2; cases e2
            | some j =>
              rw [q] at e2
              have e2 : ts[j]? = some z := e2
              have hj : j < ws.length := by rw [hl]; exact lt_of_get e2
              have e3 : ws[j]? = some ws[j] := List.getElem?_eq_getElem hj
              have e4 : atI ws i = some ws[j] := by unfold L2.atI; rw [hl, q]; exact e3
              rw [ix_l (asL_ref hn) (.inl ⟨n, tg, rfl, hn⟩) e4]
              refine Po.ret s2 ⟨_, D.root (m j _ _ e3 e2), fun n q => ?_⟩
              exact k n fun z => q (by simp [z])
        | _ => exact LS
      | _ => trivial
    | _ => trivial
abbrev P0o := PEnv → Rz (Option Int)
def lkT (f : Str) : List (Str × T) → Option T
  | [] => none
  | (g, t) :: r => if g = f then some t else lkT f r
def lkZ (f : Str) : List (Str × Zv) → Option Zv
  | [] => none
  | (g, t) :: r => if g = f then some t else lkZ f r
theorem lk_beq {f g : Str} : (f == g) = decide (f = g) := by
  by_cases c : f = g
  · subst c; simp
  · simp [c]
theorem lkZ_w {S : Cel} {h : Hq} {f : Str} : ∀ {ws : List (Str × W)} {fs : List (Str × Zv)} {v : Zv}, A2 (DZF S h) ws fs → lkZ f fs = some v → ∃ w, ws.lookup f = some w ∧ DZ S h w v
  | _, [], _, a, e => by cases e
  | _, (g, t) :: fs, v, a, e => by
    cases a with
    | cons r a =>
      rename_i x ws
      obtain ⟨g', w⟩ := x
      obtain ⟨e1, d⟩ := r
      dsimp only at e1 d; subst e1
      unfold lkZ at e
      by_cases c : g' = f
      · subst c; rw [if_pos rfl] at e; cases e; exact ⟨w, by simp [List.lookup], d⟩
      · rw [if_neg c] at e
        obtain ⟨w', h1, h2⟩ := lkZ_w a e
        exact ⟨w', by rw [List.lookup, lk_beq, decide_eq_false (fun z => c z.symm)]; exact h1, h2⟩
theorem lkT_ix {f : Str} : ∀ {fs : List (Str × T)} {t : T}, lkT f fs = some t → ∃ i : Nat, fs[i]? = some (f, t) ∧ ∀ ws : List (Str × W), ws.map Prod.fst = fs.map Prod.fst → ∃ w, ws[i]? = some (f, w) ∧ ws.lookup f = some w
  | [], _, e => by cases e
  | (g, u) :: fs, t, e => by
    unfold lkT at e
    by_cases c : g = f
    · subst c; rw [if_pos rfl] at e; cases e
      refine ⟨0, rfl, fun ws hw => ?_⟩
      cases ws with
      | nil => simp at hw
      | cons x ws =>
        obtain ⟨g', w⟩ := x
        simp at hw
        obtain ⟨rfl, _⟩ := hw
        exact ⟨w, rfl, by simp [List.lookup]⟩
    · rw [if_neg c] at e
      obtain ⟨i, h1, h2⟩ := lkT_ix e
      refine ⟨i + 1, h1, fun ws hw => ?_⟩
      cases ws with
      | nil => simp at hw
      | cons x ws =>
        obtain ⟨g', w⟩ := x
        simp at hw
        obtain ⟨rfl, hw⟩ := hw
        obtain ⟨w', h3, h4⟩ := h2 ws hw
        exact ⟨w', h3, by rw [List.lookup, lk_beq, decide_eq_false (fun z => c z.symm)]; exact h4⟩
theorem asI_ref {h : Hq} {n : Nat} {c : Str} {fs : List (Str × W)} (e : h[n]? = some (.ins c fs)) : asI h (.ref n) = some (n, c, fs) := by
  unfold asI; simp only [e]
def fldT (f : Str) : T → Rz T
  | .z (.ins c fs) => if (fieldsOf c).contains f then (match lkZ f fs with
    | some v => .ok (.z v)
    | none => .stuck) else .stuck
  | .ins c fs => if (fieldsOf c).contains f then (match lkT f fs with
    | some t => .ok t
    | none => .stuck) else .stuck
  | _ => .stuck
def pFld (f : Str) (p : P0) : P0 := fun ps => (p ps).bind (fldT f)
theorem fldW_of {h : Hq} {n : Nat} {c f : Str} {fs : List (Str × W)} {w : W} (e : h[n]? = some (.ins c fs)) (l : fs.lookup f = some w) (k : (fieldsOf c).contains f = true) : fldW f (.ref n) h = .ok w h := by
  unfold fldW
  rw [asI_ref e]
  simp only [l, k, if_true]
theorem j_fld {f : Str} (ja : J0b A B a p) : J0b A B (eFld f a) (pFld f p) := fun S h X O ρ ps v =>
  (ja S h X O ρ ps v).bind fun x t S1 h1 a1 s1 k1 => by
    cases t with
    | z t =>
      cases t with
      | ins c fs =>
        obtain ⟨n, ws, rfl, _, hn, m⟩ := dz_ins_iff.mp k1.z
        show Po S1 h1 _ (if (fieldsOf c).contains f then (match lkZ f fs with
          | some v => Rz.ok (T.z v)
          | none => .stuck) else .stuck) _
        by_cases kf : (fieldsOf c).contains f = true
        · rw [if_pos kf]
          cases e : lkZ f fs with
          | none => trivial
          | some z =>
            obtain ⟨w, l, d⟩ := lkZ_w m e
            rw [fldW_of hn l kf]
            exact Po.ret s1 (Fr.z (S := S1) (h := h) d).br
        · rw [if_neg kf]; trivial
      | _ => trivial
    | ins c fs =>
      obtain ⟨o, d, k⟩ := k1
      obtain ⟨n, ws, rfl, on, hn, hl, m⟩ := D.ins_iff.mp d
      show Po S1 h1 _ (if (fieldsOf c).contains f then (match lkT f fs with
          | some v => Rz.ok v
          | none => .stuck) else .stuck) _
      by_cases kf : (fieldsOf c).contains f = true
      · rw [if_pos kf]
        cases e : lkT f fs with
        | none => trivial
        | some z =>
          obtain ⟨i, h2, h3⟩ := lkT_ix e
          obtain ⟨w, h4, h5⟩ := h3 ws hl
          rw [fldW_of hn h5 kf]
          refine Po.ret s1 ⟨_, D.root (m i _ _ h4 h2), fun n q => ?_⟩
          exact k n fun z => q (by simp [z])
      · rw [if_neg kf]; trivial
    | _ => trivial
abbrev TbP := List (Str × PF)
inductive TbR : Tb → TbP → Prop
  | nil : TbR [] []
  | cons {c g P tb tp} : JF g P → TbR tb tp → TbR ((c, g) :: tb) ((c, P) :: tp)
theorem TbR.look {tb : Tb} {tp : TbP} (h : TbR tb tp) {c : Str} {P : PF} (e : tp.lookup c = some P) : ∃ g, tb.lookup c = some g ∧ JF g P := by
  induction h with
  | nil => cases e
  | cons j _ ih =>
    rename_i c' _ _ _ _ _
    rw [List.lookup, lk_beq] at e
    rw [List.lookup, lk_beq]
    by_cases q : c = c'
    · rw [decide_eq_true q] at e ⊢
      cases e
      exact ⟨_, rfl, j⟩
    · rw [decide_eq_false q] at e ⊢
      exact ih e
def clsT (m : Str) : T → Option Str
  | .z (.ins c fs) => if (fs.map Prod.fst).contains m then none else some c
  | .ins c fs => if (fs.map Prod.fst).contains m then none else some c
  | _ => none
theorem look_none {m : Str} : ∀ {ws : List (Str × W)}, (ws.map Prod.fst).contains m = false → ws.lookup m = none
  | [], _ => rfl
  | (g, w) :: ws, e => by
    rw [List.lookup, lk_beq]
    by_cases c : m = g
    · subst c; simp at e
    · rw [decide_eq_false c]
      refine look_none ?_
      simp at e ⊢
      exact e.2
theorem a2_fst {S : Cel} {h : Hq} {ws : List (Str × W)} {fs : List (Str × Zv)} (a : A2 (DZF S h) ws fs) : ws.map Prod.fst = fs.map Prod.fst := by
  induction a with
  | nil => rfl
  | cons r _ ih => simp [r.1, ih]
theorem cls_w {S : Cel} {h : Hq} {x : W} {t : T} {m c : Str} (d : Rdb S h x t) (e : clsT m t = some c) : ∃ n fs, x = .ref n ∧ asI h x = some (n, c, fs) ∧ fs.lookup m = none := by
  cases t with
  | z v =>
    cases v with
    | ins c' fs =>
      obtain ⟨n, ws, rfl, _, hn, a⟩ := dz_ins_iff.mp d.z
      have e : (if (fs.map Prod.fst).contains m then none else some c') = some c := e
      by_cases q : (fs.map Prod.fst).contains m = true
      · rw [if_pos q] at e; cases e
      · rw [if_neg q] at e; cases e
        exact ⟨n, ws, rfl, asI_ref hn, look_none (by rw [a2_fst a]; simpa using q)⟩
    | _ => cases e
  | ins c' fs =>
    obtain ⟨o, d, _⟩ := d
    obtain ⟨n, ws, rfl, _, hn, hl, _⟩ := D.ins_iff.mp d
    have e : (if (fs.map Prod.fst).contains m then none else some c') = some c := e
    by_cases q : (fs.map Prod.fst).contains m = true
    · rw [if_pos q] at e; cases e
    · rw [if_neg q] at e; cases e
      exact ⟨n, ws, rfl, asI_ref hn, look_none (by rw [hl]; simpa using q)⟩
  | _ => cases e
def pMet (m : Str) (tp : TbP) (p : P0) (q : P0a) : P0 := fun ps => (p ps).bind fun t => match clsT m t with
  | some c => (match tp.lookup c with
    | some P => (q ps).bind fun ts => P (t :: ts)
    | none => .stuck)
  | none => .stuck
theorem j_met {m : Str} {tb : Tb} {tp : TbP} {ma : MA} {qa : P0a} (tr : TbR tb tp) (ja : J0b A B a p) (jr : J0a A B' ma qa) : J0f A (eMet m tb a ma) (pMet m tp p qa) := fun S h X O ρ ps v =>
  (ja S h X O ρ ps v).bind fun x t S1 h1 a1 s1 k1 => by
    cases e : clsT m t with
    | none => trivial
    | some c =>
      dsimp only
      cases e2 : tp.lookup c with
      | none => trivial
      | some P =>
        obtain ⟨n, fs, rfl, q1, q2⟩ := cls_w k1.rdb e
        obtain ⟨g, q3, j⟩ := tr.look e2
        rw [q1]
        simp only [q2, q3]
        exact (jr S1 h1 X O ρ ps (v.ext a1 s1)).bind fun ws ts S2 h2 a2 s2 k2 => (j S2 h2 _ _ s2 (.cons (k1.rdb.ext a2 s1) (rdbs k2))).mono fun _ _ _ _ _ _ f => f.base (a1.trans a2).len
def clsT0 : T → Option Str
  | .z (.ins c _) => some c
  | .ins c _ => some c
  | _ => none
theorem cls_w0 {S : Cel} {h : Hq} {x : W} {t : T} {c : Str} (d : Rdb S h x t) (e : clsT0 t = some c) : ∃ n fs, x = .ref n ∧ asI h x = some (n, c, fs) := by
  cases t with
  | z v =>
    cases v with
    | ins c' fs =>
      obtain ⟨n, ws, rfl, _, hn, a⟩ := dz_ins_iff.mp d.z
      cases e
      exact ⟨n, ws, rfl, asI_ref hn⟩
    | _ => cases e
  | ins c' fs =>
    obtain ⟨o, d, _⟩ := d
    obtain ⟨n, ws, rfl, _, hn, hl, _⟩ := D.ins_iff.mp d
    cases e
    exact ⟨n, ws, rfl, asI_ref hn⟩
  | _ => cases e
end
end ZP

namespace ZP
open PySem L2 Z
def Cells (B : List Nat) (S' : Cel) (h h' : Hq) (X : Xt) (O : Om) (s : Src) : Prop :=
  ∃ C : Nat → Prop, (∀ n, C n → n < h'.length ∧ (S' n = true ∨ S' n = false ∧ (h.length ≤ n ∨ X.x n = true ∨ ∃ j q, O n = some (j, q) ∧ j ∈ B))) ∧ ∀ h'' : Hq, (∀ n, C n → h''[n]? = h'[n]?) → s.chk h'' = true
abbrev P0i := PEnv → Rz (List Zv)
def J0i (A B : List Nat) (m : MI) (p : P0i) : Prop := ∀ S h X O ρ ps, Inv A S h X O ρ ps → Po S h (m ρ h) (p ps) fun s vs S' h' => A2 (DZ S' h') s.items vs ∧ Cells B S' h h' X O s
theorem cells_none {B : List Nat} {S' : Cel} {h h' : Hq} {X : Xt} {O : Om} {s : Src} (e : ∀ h'', s.chk h'' = true) : Cells B S' h h' X O s := ⟨fun _ => False, fun _ q => q.elim, fun h'' _ => e h''⟩
section
variable {A B B' : List Nat} {a b c : ME} {p q r : P0}
def itT : T → Rz (List Zv)
  | .z (.tup xs) => .ok xs
  | .z (.str z) => .ok (z.cps.toList.map fun c => .str ⟨#[c]⟩)
  | t => match asLT t with
    | some xs => .ok xs
    | none => .stuck
def pIt (p : P0) : P0i := fun ps => (p ps).bind itT
theorem cells_l {S' : Cel} {h h' : Hq} {X : Xt} {O : Om} {x : W} {t : T} {vs : List Zv} (k : Br B S' h h' X O x t) (e : asLT t = some vs) : ∃ ws, asL h' x = some ws ∧ A2 (DZ S' h') ws vs ∧ ∀ s : Src, s.chk = stillL x ws → Cells B S' h h' X O s := by
  obtain ⟨ws, e1, m, c⟩ := asL_w k.rdb e
  refine ⟨ws, e1, m, fun s hs => ?_⟩
  have own : ∀ n tg, x = .ref n → h'[n]? = some (.lst tg ws) → (n < h'.length ∧ (S' n = true ∨ S' n = false ∧ (h.length ≤ n ∨ X.x n = true ∨ ∃ j q, O n = some (j, q) ∧ j ∈ B))) → Cells B S' h h' X O s := fun n tg hx hn g => by
    refine ⟨fun m => m = n, fun m z => by subst z; exact g, fun h'' q => ?_⟩
    rw [hs]
    subst hx
    have : h''[n]? = some (.lst tg ws) := (q n rfl).trans hn
    unfold stillL
    rw [asL_ref this]
    exact W.beqs_refl _
  cases t with
  | z v =>
    cases v with
    | lst us =>
      obtain ⟨n, tg, ws', rfl, hs', hn, _⟩ := dz_lst_iff.mp k.z
      rw [asL_ref hn] at e1; cases e1
      exact own n tg rfl hn ⟨lt_of_get hn, .inl hs'⟩
    | frz us =>
      obtain ⟨ws', rfl, _⟩ := dz_frz_iff.mp k.z
      cases e1
      exact cells_none fun h'' => by rw [hs]; exact W.beqs_refl _
    | _ => cases e
  | lst us =>
    obtain ⟨o, d, g⟩ := k
    obtain ⟨n, tg, ws', rfl, on, hn, _⟩ := D.lst_iff.mp d
    rw [asL_ref hn] at e1; cases e1
    have := g n (by rw [on]; simp)
    exact own n tg rfl hn ⟨this.1, .inr this.2⟩
  | _ => cases e
theorem j_it (ja : J0b A B a p) : J0i A B (iAny a) (pIt p) := fun S h X O ρ ps v =>
  (ja S h X O ρ ps v).bind fun x t S1 h1 a1 s1 k1 => by
    have LS : Po S1 h1 (iterW x h1) (match asLT t with
        | some xs => Rz.ok xs
        | none => .stuck) fun s vs S' h' => A2 (DZ S' h') s.items vs ∧ Cells B S' h h' X O s := by
      cases e : asLT t with
      | none => trivial
      | some xs =>
        obtain ⟨ws, e1, m, c⟩ := cells_l k1 e
        have : iterW x h1 = .ok ⟨ws, stillL x ws⟩ h1 := by
          cases x with
          | ref n => unfold iterW; simp only [e1]
          | frz n => unfold iterW; simp only [e1]
          | _ => cases e1
        rw [this]
        exact Po.ret s1 ⟨m, c _ rfl⟩
    cases t with
    | z t =>
      cases t with
      | tup xs =>
        obtain ⟨ws, rfl, m⟩ := dz_tup_iff.mp k1.z
        exact Po.ret s1 ⟨m, cells_none fun _ => rfl⟩
      | str z =>
        cases dz_str_iff.mp k1.z
        refine Po.ret s1 ⟨?_, cells_none fun _ => rfl⟩
        generalize z.cps.toList = l
        induction l with
        | nil => exact .nil
        | cons c l ih => exact .cons dz_str ih
      | _ => exact LS
    | _ => exact LS
def rngZ (lo : Int) (n : Nat) : List Zv := (List.range n).map fun (k : Nat) => .int (lo + (k : Int))
theorem rng_w {S : Cel} {h : Hq} {lo : Int} {n : Nat} : A2 (DZ S h) (rngL lo n) (rngZ lo n) := by
  unfold rngL rngZ
  generalize List.range n = l
  induction l with
  | nil => exact .nil
  | cons c l ih => exact .cons dz_int ih
def pRng1 (q : P0a) : P0i := fun ps => (q ps).bind fun ts => match ts with
  | [.z (.int j)] => if i62 j then .ok (rngZ 0 j.toNat) else .stuck
  | _ => .stuck
theorem j_rng1 {m : MA} {qa : P0a} (ja : J0a A B m qa) : J0i A [] (iRng1W m) (pRng1 qa) := fun S h X O ρ ps v =>
  (ja S h X O ρ ps v).bind fun ws ts S1 h1 a1 s1 k1 => by
    generalize e : (match ts with
      | [.z (.int j)] => if i62 j then Rz.ok (rngZ 0 j.toNat) else .stuck
      | _ => .stuck) = z
    split at e
    · rename_i j
      cases k1 with
      | cons r k =>
        cases k
        cases dz_int_iff.mp r.z
        subst e
        dsimp only
        split
        · exact Po.ret s1 ⟨rng_w, cells_none fun _ => rfl⟩
        · trivial
    · subst e; trivial
abbrev PG := Zv → PEnv → Option PEnv
def JG (A : List Nat) (g : MG) (p : PG) : Prop := ∀ S h X O ρ ps w v, Inv A S h X O ρ ps → DZ S h w v → ∀ ps', p v ps = some ps' → ∃ ρ', g w ρ = some ρ' ∧ Inv A S h X O ρ' ps'
def pgN (i : Nat) : PG := fun v ps => some (ps.set i (some (.own (.z v))))
theorem rootT_set {ps : PEnv} {i r : Nat} {e : Option En} (n : r ≠ i) : rootT (ps.set i e) r = rootT ps r := by
  unfold rootT; rw [List.getElem?_set_ne (Ne.symm n)]
theorem Inv.setz {S : Cel} {h : Hq} {X : Xt} {O : Om} {ρ : Ev} {ps : PEnv} (v : Inv A S h X O ρ ps) {i : Nat} (hi : i ∉ A) {w : W} {z : Zv} (d : DZ S h w z) : Inv A S h X O (ρ.set i (some w)) (ps.set i (some (.own (.z z)))) where
  toBd := v.toBd
  len := by simp [v.len]
  en := fun j e q => by
    by_cases c : i = j
    · subst c
      have hl : i < ps.length := by have := lt_of_get q; simpa using this
      rw [List.getElem?_set_self hl] at q
      cases q
      exact ⟨w, List.getElem?_set_self (by rw [v.len]; exact hl), D.z d⟩
    · rw [List.getElem?_set_ne c] at q
      have := v.en j e q
      cases e with
      | own t => obtain ⟨w, hw, d⟩ := this; exact ⟨w, by rw [List.getElem?_set_ne c]; exact hw, d⟩
      | par t => obtain ⟨w, hw, d⟩ := this; exact ⟨w, ⟨by rw [List.getElem?_set_ne c]; exact hw.1, hw.2⟩, d⟩
      | ext t => obtain ⟨w, o, hw, d⟩ := this; exact ⟨w, o, by rw [List.getElem?_set_ne c]; exact hw, d⟩
      | als r p =>
        obtain ⟨ha, w, wr, t0, t1, h1, h2, h3, h4, h5⟩ := this
        have n : r ≠ i := fun z => hi (z ▸ ha)
        exact ⟨ha, w, wr, t0, t1, by rw [List.getElem?_set_ne c]; exact h1, by rw [List.getElem?_set_ne (Ne.symm n)]; exact h2, h3, by rw [rootT_set n]; exact h4, h5⟩
theorem Inv.unset {S : Cel} {h : Hq} {X : Xt} {O : Om} {ρ : Ev} {ps : PEnv} (v : Inv A S h X O ρ ps) {i : Nat} (hi : i ∉ A) {e0 : Option W} : Inv A S h X O (ρ.set i e0) (ps.set i none) where
  toBd := v.toBd
  len := by simp [v.len]
  en := fun j e q => by
    by_cases c : i = j
    · subst c
      have hl : i < ps.length := by have := lt_of_get q; simpa using this
      rw [List.getElem?_set_self hl] at q
      cases q
    · rw [List.getElem?_set_ne c] at q
      have := v.en j e q
      cases e with
      | own t => obtain ⟨w, hw, d⟩ := this; exact ⟨w, by rw [List.getElem?_set_ne c]; exact hw, d⟩
      | par t => obtain ⟨w, hw, d⟩ := this; exact ⟨w, ⟨by rw [List.getElem?_set_ne c]; exact hw.1, hw.2⟩, d⟩
      | ext t => obtain ⟨w, o, hw, d⟩ := this; exact ⟨w, o, by rw [List.getElem?_set_ne c]; exact hw, d⟩
      | als r p =>
        obtain ⟨ha, w, wr, t0, t1, h1, h2, h3, h4, h5⟩ := this
        have n : r ≠ i := fun z => hi (z ▸ ha)
        exact ⟨ha, w, wr, t0, t1, by rw [List.getElem?_set_ne c]; exact h1, by rw [List.getElem?_set_ne (Ne.symm n)]; exact h2, h3, by rw [rootT_set n]; exact h4, h5⟩
theorem jg_n (i : Nat) (hi : i ∉ A) : JG A (gN i) (pgN i) := fun S h X O ρ ps w v x d ps' e => by
  cases e
  exact ⟨_, rfl, x.setz hi d⟩
abbrev PGs := List Zv → PEnv → Option PEnv
def wipeP (ps : PEnv) : List Nat → PEnv
  | [] => ps
  | v :: vs => (wipeP ps vs).set v none
theorem Inv.wipe {S : Cel} {h : Hq} {X : Xt} {O : Om} {ρ : Ev} {ps : PEnv} (v : Inv A S h X O ρ ps) : ∀ {vs : List Nat}, (∀ i ∈ vs, i ∉ A) → Inv A S h X O (wipeW ρ vs) (wipeP ps vs)
  | [], _ => v
  | i :: vs, k => (Inv.wipe v fun j hj => k j (List.mem_cons_of_mem _ hj)).unset (k i (List.mem_cons_self ..))
end
end ZP

namespace ZP
open PySem L2 Z
section
variable {A B B' B'' : List Nat} {a b c : ME} {p q r : P0}
def flatZ : Zv → Bool
  | .non | .bl _ | .int _ | .str _ => true
  | _ => false
def toVZ : Zv → V
  | .bl b => .bl b
  | .int i => .int i
  | .str x => .str x
  | _ => .non
theorem flat_w {S : Cel} {h : Hq} {w : W} {v : Zv} (d : DZ S h w v) (f : flatZ v = true) : flatW w = true ∧ toV w = toVZ v := by
  cases v with
  | non => cases dz_non_iff.mp d; exact ⟨rfl, rfl⟩
  | bl b => cases dz_bl_iff.mp d; exact ⟨rfl, rfl⟩
  | int b => cases dz_int_iff.mp d; exact ⟨rfl, rfl⟩
  | str b => cases dz_str_iff.mp d; exact ⟨rfl, rfl⟩
  | _ => cases f
theorem flats_w {S : Cel} {h : Hq} {x : W} {v : Zv} (e : toV x = toVZ v) : ∀ {ws : List W} {vs : List Zv}, A2 (DZ S h) ws vs → vs.all flatZ = true → ws.all flatW = true ∧ (ws.any fun z => eqV (toV z) (toV x)) = vs.any fun z => eqV (toVZ z) (toVZ v)
  | _, _, .nil, _ => ⟨rfl, rfl⟩
  | _, _, .cons r m, f => by
    simp only [List.all_cons, Bool.and_eq_true] at f
    obtain ⟨f1, f2⟩ := flat_w r f.1
    obtain ⟨f3, f4⟩ := flats_w e m f.2
    exact ⟨by simp [f1, f3], by rw [List.any_cons, List.any_cons, f2, f4, e]⟩
def inT (neg : Bool) : G2 := fun t u => match u with
  | .z (.tup ys) => (match t with
    | .z x => if flatZ x && ys.all flatZ then .ok (.z (.bl (xor neg (ys.any fun z => eqV (toVZ z) (toVZ x))))) else .stuck
    | _ => .stuck)
  | .z (.str z) => (match t with
    | .z (.str i) => if i.cps.size = 1 then .ok (.z (.bl (xor neg (decide (i.cps.getD 0 0 ∈ z.cps.toList))))) else .stuck
    | _ => .stuck)
  | u => (match t.val, u.val with
    | some v, some y => (match toDZ 60 v, toDZ 60 y with
      | some d, some (.list ds) => if SeqAt.shaped d && SeqAt.shaped (.list ds) then .ok (.z (.bl (xor neg (ds.any fun z => PyData.eqv z d)))) else .stuck
      | _, _ => .stuck)
    | _, _ => .stuck)
theorem op_in {neg : Bool} : Op2 (inW neg) (inT neg) := fun S h x y t u s ra rb => by
  have LS : (∀ ys, y ≠ .tup ys) → (∀ z, y ≠ .str z) → Po S h (inW neg x y h) (match t.val, u.val with
    | some v, some y => (match toDZ 60 v, toDZ 60 y with
      | some d, some (.list ds) => if SeqAt.shaped d && SeqAt.shaped (.list ds) then Rz.ok (T.z (.bl (xor neg (ds.any fun z => PyData.eqv z d)))) else .stuck
      | _, _ => .stuck)
    | _, _ => .stuck) fun w t S' h' => Fr S' h h' w t := fun n1 n2 => by
    cases e1 : t.val with
    | none => trivial
    | some v =>
      cases e2 : u.val with
      | none => trivial
      | some z =>
        obtain ⟨S1, d1, _⟩ := ra.val e1
        obtain ⟨S2, d2, _⟩ := rb.val e2
        dsimp only
        cases q1 : toDZ 60 v with
        | none => trivial
        | some d =>
          cases q2 : toDZ 60 z with
          | none => trivial
          | some e =>
            cases e with
            | list ds =>
              have w1 : dataW h x = some d := toD_of v 60 x d d1 q1
              have w2 : dataW h y = some (.list ds) := toD_of z 60 y _ d2 q2
              have : inW neg x y h = (if SeqAt.shaped d && SeqAt.shaped (.list ds) then .ok (.bl (xor neg (ds.any fun z => PyData.eqv z d))) h else .stuck) := by
                cases y with
                | tup ys => exact absurd rfl (n1 ys)
                | str ys => exact absurd rfl (n2 ys)
                | _ => unfold inW; simp only [w1, w2]
              rw [this]
              dsimp only
              split
              · exact Po.ret s (.z dz_bl)
              · trivial
            | _ => trivial
  cases u with
  | z u =>
    have zb := rb.z
    cases u with
    | tup ys =>
      obtain ⟨ws, rfl, m⟩ := dz_tup_iff.mp zb
      cases t with
      | z v =>
        show Po S h _ (if flatZ v && ys.all flatZ then Rz.ok (T.z (.bl (xor neg (ys.any fun z => eqV (toVZ z) (toVZ v))))) else .stuck) _
        by_cases f : (flatZ v && ys.all flatZ) = true
        · rw [if_pos f]
          simp only [Bool.and_eq_true] at f
          obtain ⟨f1, f2⟩ := flat_w ra.z f.1
          obtain ⟨f3, f4⟩ := flats_w f2 m f.2
          have : inW neg x (.tup ws) h = .ok (.bl (xor neg (ys.any fun z => eqV (toVZ z) (toVZ v)))) h := by unfold inW; simp only [f1, f3, f4, Bool.and_self, if_true]
          rw [this]
          exact Po.ret s (.z dz_bl)
        · rw [if_neg f]; trivial
      | _ => trivial
    | str z =>
      cases dz_str_iff.mp zb
      cases t with
      | z v =>
        cases v with
        | str i =>
          cases dz_str_iff.mp ra.z
          show Po S h _ (if i.cps.size = 1 then Rz.ok (T.z (.bl (xor neg (decide (i.cps.getD 0 0 ∈ z.cps.toList))))) else .stuck) _
          split
          · rename_i c
            have : inW neg (.str i) (.str z) h = .ok (.bl (xor neg (decide (i.cps.getD 0 0 ∈ z.cps.toList)))) h := by unfold inW; simp only [if_pos c]
            rw [this]
            exact Po.ret s (.z dz_bl)
          · trivial
        | _ => trivial
      | _ => trivial
    | lst ys => obtain ⟨n, tg, ws, rfl, _⟩ := dz_lst_iff.mp zb; exact LS (fun _ e => nomatch e) (fun _ e => nomatch e)
    | frz ys => obtain ⟨ws, rfl, _⟩ := dz_frz_iff.mp zb; exact LS (fun _ e => nomatch e) (fun _ e => nomatch e)
    | dct k ys => obtain ⟨n, tg, ws, rfl, _⟩ := dz_dct_iff.mp zb; exact LS (fun _ e => nomatch e) (fun _ e => nomatch e)
    | ins k ys => obtain ⟨n, ws, rfl, _⟩ := dz_ins_iff.mp zb; exact LS (fun _ e => nomatch e) (fun _ e => nomatch e)
    | non => cases dz_non_iff.mp zb; exact LS (fun _ e => nomatch e) (fun _ e => nomatch e)
    | bl b => cases dz_bl_iff.mp zb; exact LS (fun _ e => nomatch e) (fun _ e => nomatch e)
    | int b => cases dz_int_iff.mp zb; exact LS (fun _ e => nomatch e) (fun _ e => nomatch e)
    | exn b c => cases dz_exn_iff.mp zb; exact LS (fun _ e => nomatch e) (fun _ e => nomatch e)
  | lst ys => have ⟨o, d, _⟩ := rb; obtain ⟨n, tg, ws, rfl, _⟩ := D.lst_iff.mp d; exact LS (fun _ e => nomatch e) (fun _ e => nomatch e)
  | dct k ys => have ⟨o, d, _⟩ := rb; obtain ⟨n, tg, ws, rfl, _⟩ := D.dct_iff.mp d; exact LS (fun _ e => nomatch e) (fun _ e => nomatch e)
  | nst ys => have ⟨o, d, _⟩ := rb; obtain ⟨n, tg, ws, rfl, _⟩ := D.nst_iff.mp d; exact LS (fun _ e => nomatch e) (fun _ e => nomatch e)
  | ins k ys => have ⟨o, d, _⟩ := rb; obtain ⟨n, ws, rfl, _⟩ := D.ins_iff.mp d; exact LS (fun _ e => nomatch e) (fun _ e => nomatch e)
def intsZ : List Zv → Option (List Int)
  | [] => some []
  | .int i :: r => (intsZ r).map (i :: ·)
  | _ => none
def pairsZ : List Zv → Option (List (Int × Int))
  | [] => some []
  | .tup [.int i, .int j] :: r => (pairsZ r).map ((i, j) :: ·)
  | _ => none
theorem ints_w {S : Cel} {h : Hq} {ws : List W} {vs : List Zv} (m : A2 (DZ S h) ws vs) : intsW ws = intsZ vs := by
  induction m with
  | nil => rfl
  | cons r _ ih =>
    rename_i w v ws vs _
    have := r.inv
    cases w with
    | ref n => obtain ⟨_, ⟨_, _, _, _, rfl, _⟩ | ⟨_, _, _, _, _, rfl, _⟩ | ⟨_, _, _, _, rfl, _⟩⟩ := this <;> rfl
    | tup _ => obtain ⟨_, rfl, _⟩ := this; rfl
    | frz _ => obtain ⟨_, rfl, _⟩ := this; rfl
    | kt _ => exact this.elim
    | int i => cases this; unfold intsW intsZ; rw [ih]
    | _ => cases this; rfl
theorem pairs_w {S : Cel} {h : Hq} : ∀ {vs : List Zv} {ws : List W} {ps : List (Int × Int)}, A2 (DZ S h) ws vs → pairsZ vs = some ps → pairsW ws = some ps
  | [], _, _, m, e => by cases m; cases e; rfl
  | v :: vs, _, ps, m, e => by
    cases m with
    | cons r m =>
      unfold pairsZ at e
      split at e
      · rename_i z; cases z
      · rename_i i j r' z
        cases z
        obtain ⟨us, rfl, k⟩ := dz_tup_iff.mp r
        cases k with
        | cons r1 k =>
          cases k with
          | cons r2 k =>
            cases k
            cases dz_int_iff.mp r1
            cases dz_int_iff.mp r2
            obtain ⟨qs, e1, rfl⟩ := Option.map_eq_some_iff.mp e
            unfold pairsW
            rw [pairs_w m e1]; rfl
      · cases e
def pZ2 (p : Int × Int) : Zv := .tup [.int p.1, .int p.2]
def sortZ (xs : List Zv) : Option (List Zv) := match intsZ xs with
  | some ns => some ((sortI ns).map Zv.int)
  | none => (match pairsZ xs with
    | some ps => some ((sortP ps).map pZ2)
    | none => none)
def sortT : PF := fun ts => match ts with
  | [t] => (match asLT t with
    | some xs => (match sortZ xs with
      | some ys => .ok (.lst ys)
      | none => .stuck)
    | none => .stuck)
  | _ => .stuck
theorem a2_map {S : Cel} {h : Hq} {α : Type} {f : α → W} {g : α → Zv} (k : ∀ a, DZ S h (f a) (g a)) : ∀ l : List α, A2 (DZ S h) (l.map f) (l.map g)
  | [] => .nil
  | a :: l => .cons (k a) (a2_map k l)
theorem jf_l {F : MF} {G : List Zv → Rz T} (k : ∀ S h w ws vs, Sb S h → asL h w = some ws → A2 (DZ S h) ws vs → Po S h (F [w] h) (G vs) fun w t S' h' => Fr S' h h' w t) : JF F (fun ts => match ts with
  | [t] => (match asLT t with
    | some xs => G xs
    | none => .stuck)
  | _ => .stuck) := fun S h ws ts s m => by
  cases m with
  | nil => trivial
  | cons r m =>
    cases m with
    | cons _ _ => trivial
    | nil =>
      rename_i w t
      show Po S h _ (match asLT t with
        | some xs => G xs
        | none => .stuck) _
      cases e : asLT t with
      | none => trivial
      | some xs =>
        obtain ⟨us, e1, d, _⟩ := asL_w r e
        exact k S h w us xs s e1 d
theorem jf_sort : JF sortW sortT := jf_l (G := fun xs => match sortZ xs with
      | some ys => .ok (.lst ys)
      | none => .stuck) fun S h w ws vs s e m => by
  unfold sortZ
  cases q : intsZ vs with
  | some ns =>
    have : sortW [w] h = mkL 0 ((sortI ns).map W.int) h := by unfold sortW; simp only [e, ints_w m, q]
    rw [this]
    exact po_mkL s (a2_map (fun _ => dz_int) _)
  | none =>
    cases q2 : pairsZ vs with
    | none => trivial
    | some ps =>
      have : sortW [w] h = mkL 0 ((sortP ps).map pW) h := by unfold sortW; simp only [e, ints_w m, q, pairs_w m q2]
      rw [this]
      exact po_mkL s (a2_map (fun _ => dz_tup (.cons dz_int (.cons dz_int .nil))) _)
def tyBT (s : String) (t : T) : Bool := match s with
  | "list" => (asLT t).isSome
  | "str" => (match t with | .z (.str _) => true | _ => false)
  | _ => false
theorem tyB_w {s : String} {S : Cel} {h : Hq} {x : W} {t : T} (d : Rdb S h x t) (e : tyBT s t = true) : tyB s h x = true := by
  unfold tyBT at e
  split at e
  · cases q : asLT t with
    | none => rw [q] at e; cases e
    | some vs =>
      obtain ⟨ws, e1, _⟩ := asL_w d q
      show (asL h x).isSome = true
      rw [e1]; rfl
  · split at e
    · cases dz_str_iff.mp d.z; rfl
    · cases e
  · cases e
theorem cls0_none {S : Cel} {h : Hq} {x : W} {t : T} (d : Rdb S h x t) (e : clsT0 t = none) : asI h x = none := by
  cases t with
  | z v =>
    have := d.z.inv
    cases x with
    | ref n =>
      obtain ⟨_, ⟨_, _, _, hn, rfl, _⟩ | ⟨_, _, _, _, hn, rfl, _⟩ | ⟨_, _, _, hn, rfl, _⟩⟩ := this
      · unfold asI; simp only [hn]
      · unfold asI; simp only [hn]
      · cases e
    | _ => rfl
  | lst vs => obtain ⟨o, d, _⟩ := d; obtain ⟨n, tg, ws, rfl, _, hn, _⟩ := D.lst_iff.mp d; unfold asI; simp only [hn]
  | nst vs => obtain ⟨o, d, _⟩ := d; obtain ⟨n, tg, ws, rfl, _, hn, _⟩ := D.nst_iff.mp d; unfold asI; simp only [hn]
  | dct b vs => obtain ⟨o, d, _⟩ := d; obtain ⟨n, tg, ws, rfl, _, hn, _⟩ := D.dct_iff.mp d; unfold asI; simp only [hn]
  | ins c vs => cases e
end
end ZP

namespace ZP
open PySem L2 Z
theorem D.put {S S' : Cel} {h h' : Hq} {o o' : Ow} {u' : T} {x : W} (hS : ∀ n, S n = true → S' n = true) (hh : ∀ n, S n = true → h'[n]? = h[n]?) : ∀ {q p : Pth} {w : W} {t u : T}, D S h o p w t → getT t q = some u → Pw h w q x →
    (∀ n s, o n = some (p ++ s) → (∀ r, s ≠ q ++ r) → o' n = some (p ++ s) ∧ h'[n]? = h[n]?) → D S' h' o' (p ++ q) x u' → D S' h' o' p w (setT t q u')
  | [], p, w, t, u, d, g, pw, ho, d' => by
    cases (show w = x from pw)
    have : setT t [] u' = u' := by cases t <;> rfl
    rw [this]
    simpa using d'
  | i :: q, p, w, .nst ts, u, d, g, pw, ho, d' => by
    obtain ⟨n, tg, ws, rfl, on, hn, hl, a⟩ := D.nst_iff.mp d
    obtain ⟨n2, ob, y, e2, hn2, hk, pw⟩ := pw
    cases e2; rw [hn] at hn2; cases hn2
    have hk : ws[i]? = some y := hk
    simp only [getT, Option.bind_eq_some_iff] at g
    obtain ⟨v, hv, g⟩ := g
    obtain ⟨o1, h1⟩ := ho n [] (by simpa using on) (by intro r; simp)
    rw [List.append_nil] at o1
    rw [setT, hv]
    refine D.nst_iff.mpr ⟨n, tg, ws, rfl, o1, h1.trans hn, by simpa using hl, fun j z t hz ht => ?_⟩
    by_cases c : i = j
    · subst c
      rw [hk] at hz; cases hz
      rw [List.getElem?_set_self (lt_of_get hv)] at ht
      cases ht
      exact D.put hS hh (a i _ v hk hv) g pw (fun m s e k => by
        rw [List.append_assoc] at e ⊢
        exact ho m _ e fun r z => k r (by simpa using z)) (by simpa using d')
    · rw [List.getElem?_set_ne c] at ht
      exact (a j _ _ hz ht).move hS hh fun m s e => by
        rw [List.append_assoc] at e ⊢
        exact ho m _ e fun r z => c (by simp at z; exact z.1.symm)
  | i :: q, p, w, .ins cl fs, u, d, g, pw, ho, d' => by
    obtain ⟨n, ws, rfl, on, hn, hl, a⟩ := D.ins_iff.mp d
    obtain ⟨n2, ob, y, e2, hn2, hk, pw⟩ := pw
    cases e2; rw [hn] at hn2; cases hn2
    obtain ⟨y1, hy1, rfl⟩ := Option.map_eq_some_iff.mp (show (ws[i]?).map Prod.snd = some y from hk)
    simp only [getT, Option.bind_eq_some_iff] at g
    obtain ⟨v, hv, g⟩ := g
    obtain ⟨o1, h1⟩ := ho n [] (by simpa using on) (by intro r; simp)
    rw [List.append_nil] at o1
    rw [setT, hv]
    refine D.ins_iff.mpr ⟨n, ws, rfl, o1, h1.trans hn, ?_, fun j z t hz ht => ?_⟩
    · rw [hl]
      refine List.ext_getElem? fun j => ?_
      dsimp only
      rw [List.getElem?_map, List.getElem?_map, List.getElem?_set]
      by_cases c : i = j
      · subst c; rw [if_pos rfl, if_pos (lt_of_get hv), hv]; rfl
      · rw [if_neg c]
    · by_cases c : i = j
      · subst c
        rw [hy1] at hz; cases hz
        rw [List.getElem?_set_self (lt_of_get hv)] at ht
        cases ht
        exact D.put hS hh (a i _ v hy1 hv) g pw (fun m s e k => by
          rw [List.append_assoc] at e ⊢
          exact ho m _ e fun r z => k r (by simpa using z)) (by simpa using d')
      · dsimp only at ht
        rw [List.getElem?_set_ne c] at ht
        exact (a j _ _ hz ht).move hS hh fun m s e => by
          rw [List.append_assoc] at e ⊢
          exact ho m _ e fun r z => c (by simp at z; exact z.1.symm)
  | i :: q, p, w, .z v, u, d, g, _, _, _ => by cases g
  | i :: q, p, w, .lst v, u, d, g, _, _, _ => by cases g
  | i :: q, p, w, .dct b v, u, d, g, _, _, _ => by cases g
def und (r : Nat) (q : Pth) : Option (Nat × Pth) → Bool
  | some (j, s) => decide (j = r) && (cut0 q s).isSome
  | none => false
theorem und_iff {r : Nat} {q : Pth} {e : Option (Nat × Pth)} : und r q e = true ↔ ∃ s, e = some (r, q ++ s) := by
  cases e with
  | none => simp [und]
  | some p =>
    obtain ⟨j, s⟩ := p
    simp only [und, Bool.and_eq_true, decide_eq_true_eq, Option.isSome_iff_exists, cut0_some, Option.some.injEq, Prod.mk.injEq]
    constructor
    · rintro ⟨a, t, b⟩; exact ⟨t, a, b⟩
    · rintro ⟨t, a, b⟩; exact ⟨a, t, b⟩
def newO (r : Nat) (q : Pth) (o1 : Ow) (O : Om) : Om := fun n => match o1 n with
  | some s => some (r, q ++ s)
  | none => if und r q (O n) then none else O n
def updR (ps : PEnv) (r : Nat) (q : Pth) (u : T) : Option PEnv := match ps[r]? with
  | some (some (.own t)) => some (ps.set r (some (.own (setT t q u))))
  | some (some (.par t)) => some (ps.set r (some (.par (setT t q u))))
  | _ => none
theorem Pw.stay {S : Cel} {h h' : Hq} {o : Ow} : ∀ {q p : Pth} {w x : W} {t u : T}, D S h o p w t → getT t q = some u → Pw h w q x → (∀ n, o n ≠ none → h'[n]? = h[n]?) → Pw h' w q x
  | [], _, _, _, _, _, _, _, pw, _ => pw
  | i :: q, p, w, x, .nst ts, u, d, g, pw, k => by
    obtain ⟨n, tg, ws, rfl, on, hn, hl, a⟩ := D.nst_iff.mp d
    obtain ⟨n2, ob, y, e2, hn2, hk, pw⟩ := pw
    cases e2; rw [hn] at hn2; cases hn2
    simp only [getT, Option.bind_eq_some_iff] at g
    obtain ⟨v, hv, g⟩ := g
    exact ⟨n, _, y, rfl, (k n (by rw [on]; simp)).trans hn, hk, Pw.stay (a i _ _ hk hv) g pw k⟩
  | i :: q, p, w, x, .ins c fs, u, d, g, pw, k => by
    obtain ⟨n, ws, rfl, on, hn, hl, a⟩ := D.ins_iff.mp d
    obtain ⟨n2, ob, y, e2, hn2, hk, pw⟩ := pw
    cases e2; rw [hn] at hn2; cases hn2
    obtain ⟨y1, hy1, rfl⟩ := Option.map_eq_some_iff.mp (show (ws[i]?).map Prod.snd = some y from hk)
    simp only [getT, Option.bind_eq_some_iff] at g
    obtain ⟨v, hv, g⟩ := g
    exact ⟨n, _, y1.2, rfl, (k n (by rw [on]; simp)).trans hn, hk, Pw.stay (a i _ _ hy1 hv) g pw k⟩
  | i :: q, p, w, x, .z v, u, d, g, _, _ => by cases g
  | i :: q, p, w, x, .lst v, u, d, g, _, _ => by cases g
  | i :: q, p, w, x, .dct b v, u, d, g, _, _ => by cases g
section
variable {A : List Nat}
theorem EnR.same {S : Cel} {h : Hq} {X : Xt} {O : Om} {ρ : Ev} {ps : PEnv} {j : Nat} {e : En} {ps' : PEnv} (k : ∀ r, r ∈ A → rootT ps' r = rootT ps r) (q : EnR A S h X O ρ ps j e) : EnR A S h X O ρ ps' j e := by
  cases e with
  | als r p => obtain ⟨ha, w, wr, t0, t1, h1, h2, h3, h4, h5⟩ := q; exact ⟨ha, w, wr, t0, t1, h1, h2, h3, (k r ha).trans h4, h5⟩
  | _ => exact q
theorem Inv.updT {Tm : Nat → Prop} {S S' : Cel} {h h' : Hq} {X : Xt} {O : Om} {ρ : Ev} {ps ps' : PEnv} (v : Inv A S h X O ρ ps) {r : Nat} {q : Pth} {w0 x : W} {t0 t1 u : T} (hr : r ∉ A)
    (e0 : ps[r]? = some (some (.own t0)) ∨ ps[r]? = some (some (.par t0))) (hw : ρ[r]? = some (some w0)) (hg : getT t0 q = some t1) (hp : Pw h w0 q x) (eu : updR ps r q u = some ps')
    (le : ∀ n, S n = true → S' n = true) (new : ∀ n, S' n = true → S n = true ∨ (∃ s, O n = some (r, q ++ s)) ∨ h.length ≤ n) (fr : ∀ n, n < h.length → (∀ s, O n ≠ some (r, q ++ s)) → h'[n]? = h[n]?) (len : h.length ≤ h'.length) (sb : Sb S' h')
    {o1 : Ow} (d' : D S' h' o1 [] x u) (ho1 : ∀ n, o1 n ≠ none → n < h'.length ∧ S' n = false ∧ ((∃ s, O n = some (r, q ++ s)) ∨ h.length ≤ n ∨ Tm n ∧ O n = none ∧ X.x n = false)) :
    (∀ n, newO r q o1 O n ≠ none → O n ≠ none ∨ h.length ≤ n ∨ Tm n) ∧ Inv A S' h' X (newO r q o1 O) ρ ps' := by
  have hlt : r < ps.length := by rcases e0 with e0 | e0 <;> exact lt_of_get e0
  have o1none : ∀ n, O n ≠ none → (∀ s, O n ≠ some (r, q ++ s)) → o1 n = none := fun n hn k => by
    cases e : o1 n with
    | none => rfl
    | some s =>
      obtain ⟨_, _, ⟨s, z⟩ | z | ⟨_, z, _⟩⟩ := ho1 n (by rw [e]; simp)
      · exact absurd z (k s)
      · have := (v.o n hn).1; omega
      · exact absurd z hn
  have keep : ∀ n, O n ≠ none → (∀ s, O n ≠ some (r, q ++ s)) → newO r q o1 O n = O n := fun n hn k => by
    unfold newO
    rw [o1none n hn k]
    dsimp only
    have : und r q (O n) = false := by
      cases e : und r q (O n) with
      | false => rfl
      | true => obtain ⟨s, z⟩ := und_iff.mp e; exact absurd z (k s)
    rw [this]; simp
  have wd : ∀ n, newO r q o1 O n ≠ none → O n ≠ none ∨ h.length ≤ n ∨ Tm n := fun n e => by
    unfold newO at e
    cases q1 : o1 n with
    | some s =>
      obtain ⟨_, _, ⟨s, z⟩ | z | z⟩ := ho1 n (by rw [q1]; simp)
      · exact .inl (by rw [z]; simp)
      · exact .inr (.inl z)
      · exact .inr (.inr z.1)
    | none =>
      rw [q1] at e
      dsimp only at e
      by_cases c : und r q (O n) = true
      · rw [if_pos c] at e; exact absurd rfl e
      · rw [if_neg c] at e; exact .inl e
  refine ⟨wd, ⟨⟨sb, fun n e => ?_, fun n e => ?_⟩, ?_, fun j en ej => ?_⟩⟩
  · have := v.x n e
    refine ⟨Nat.lt_of_lt_of_le this.1 len, ?_⟩
    cases z : S' n with
    | false => rfl
    | true =>
      rcases new n z with z | ⟨s, z⟩ | z
      · rw [this.2] at z; cases z
      · have := (v.o n (by rw [z]; simp)).2.2; rw [e] at this; cases this
      · omega
  · cases q1 : o1 n with
    | some s =>
      obtain ⟨a1, a2, a3⟩ := ho1 n (by rw [q1]; simp)
      refine ⟨a1, a2, ?_⟩
      rcases a3 with ⟨s, z⟩ | z | ⟨_, _, z⟩
      · exact (v.o n (by rw [z]; simp)).2.2
      rotate_left
      · exact z
      · cases z2 : X.x n with
        | false => rfl
        | true => have := (v.x n z2).1; omega
    | none =>
      have e' := e
      unfold newO at e'
      rw [q1] at e'
      dsimp only at e'
      by_cases c : und r q (O n) = true
      · rw [if_pos c] at e'; exact absurd rfl e'
      · rw [if_neg c] at e'
        have := v.o n e'
        refine ⟨Nat.lt_of_lt_of_le this.1 len, ?_, this.2.2⟩
        cases z : S' n with
        | false => rfl
        | true =>
          rcases new n z with z | ⟨s, z⟩ | z
          · rw [this.2.1] at z; cases z
          · exact absurd (und_iff.mpr ⟨s, z⟩) c
          · omega
  · unfold updR at eu
    rcases e0 with e0 | e0 <;> (rw [e0] at eu; cases eu; simp [v.len])
  · have hh : ∀ n, S n = true → h'[n]? = h[n]? := fun n e => fr n (v.s n e) fun s z => by
      have := v.sO e
      rw [this] at z; cases z
    have main : D S' h' (sl (newO r q o1 O) r) [] w0 (setT t0 q u) := by
      have d0 : D S h (sl O r) [] w0 t0 := by
        rcases e0 with e0 | e0
        · obtain ⟨w, hw2, d⟩ := v.en r _ e0; rw [hw] at hw2; cases hw2; exact d
        · obtain ⟨w, hw2, d⟩ := v.en r _ e0; rw [hw] at hw2; cases hw2.1; exact d
      refine D.put le hh d0 hg hp (fun n s e k => ?_) ?_
      · have e2 : O n = some (r, s) := sl_some.mp e
        have nn : ∀ r', O n ≠ some (r, q ++ r') := fun r' z => by rw [e2] at z; cases z; exact k r' rfl
        have hn := (v.o n (by rw [e2]; simp)).1
        exact ⟨sl_some.mpr ((keep n (by rw [e2]; simp) nn).trans e2), fr n hn nn⟩
      · rw [List.nil_append]
        refine d'.move (fun _ z => z) (fun _ _ => rfl) fun n s e => ⟨sl_some.mpr ?_, rfl⟩
        unfold newO
        rw [show o1 n = some s from e]
    have other : ∀ (k : Nat) (w : W) (t : T), k ≠ r → D S h (sl O k) [] w t → D S' h' (sl (newO r q o1 O) k) [] w t := fun k w t ne d => by
      refine d.move le hh fun n s e => ?_
      have e2 : O n = some (k, s) := sl_some.mp e
      have nn : ∀ r', O n ≠ some (r, q ++ r') := fun r' z => by rw [e2] at z; cases z; exact ne rfl
      have hn := (v.o n (by rw [e2]; simp)).1
      exact ⟨sl_some.mpr ((keep n (by rw [e2]; simp) nn).trans e2), fr n hn nn⟩
    have roots : ∀ k, k ∈ A → rootT ps' k = rootT ps k := fun k hk => by
      have : k ≠ r := fun z => hr (z ▸ hk)
      unfold updR at eu
      rcases e0 with e0 | e0 <;> (rw [e0] at eu; cases eu; exact rootT_set this)
    by_cases c : r = j
    · subst c
      unfold updR at eu
      rcases e0 with e0 | e0
      · rw [e0] at eu; cases eu
        rw [List.getElem?_set_self hlt] at ej; cases ej
        exact ⟨w0, hw, main⟩
      · rw [e0] at eu; cases eu
        rw [List.getElem?_set_self hlt] at ej; cases ej
        obtain ⟨w, hw2, _⟩ := v.en r _ e0
        have := hw2.1; rw [hw] at this; cases this
        exact ⟨w0, hw2, main⟩
    · have ej' : ps[j]? = some (some en) := by
        unfold updR at eu
        rcases e0 with e0 | e0 <;> (rw [e0] at eu; cases eu; rwa [List.getElem?_set_ne c] at ej)
      have := v.en j en ej'
      refine EnR.same roots ?_
      cases en with
      | own t => obtain ⟨w, hw, d⟩ := this; exact ⟨w, hw, other j w t (Ne.symm c) d⟩
      | par t => obtain ⟨w, hw, d⟩ := this; exact ⟨w, hw, other j w t (Ne.symm c) d⟩
      | ext t =>
        obtain ⟨w, o, hw, d, ho⟩ := this
        refine ⟨w, o, hw, d.move le hh fun n s e => ⟨e, ?_⟩, ho⟩
        have hx := ho n (by rw [show o n = some s from e]; simp)
        refine fr n (v.x n hx).1 fun s z => ?_
        have := (v.o n (by rw [z]; simp)).2.2
        rw [hx] at this; cases this
      | als r' p =>
        obtain ⟨ha, w, wr, t2, t3, h1, h2, h3, h4, h5⟩ := this
        refine ⟨ha, w, wr, t2, t3, h1, h2, ?_, h4, h5⟩
        have ne : r' ≠ r := fun z => hr (z ▸ ha)
        obtain ⟨w', o, hw', d, k⟩ := v.root h4
        rw [h2] at hw'; cases hw'
        refine h3.stay d h5 fun n e => ?_
        obtain ⟨a1, a2, a3⟩ := k n e
        refine fr n a1 fun s z => ?_
        rcases a3 with a3 | ⟨s', a3⟩
        · have := (v.o n (by rw [z]; simp)).2.2; rw [a3] at this; cases this
        · rw [a3] at z; cases z; exact ne rfl
theorem Inv.upd {S S' : Cel} {h h' : Hq} {X : Xt} {O : Om} {ρ : Ev} {ps ps' : PEnv} (v : Inv A S h X O ρ ps) {r : Nat} {q : Pth} {w0 x : W} {t0 t1 u : T} (hr : r ∉ A)
    (e0 : ps[r]? = some (some (.own t0)) ∨ ps[r]? = some (some (.par t0))) (hw : ρ[r]? = some (some w0)) (hg : getT t0 q = some t1) (hp : Pw h w0 q x) (eu : updR ps r q u = some ps')
    (le : ∀ n, S n = true → S' n = true) (new : ∀ n, S' n = true → S n = true ∨ (∃ s, O n = some (r, q ++ s)) ∨ h.length ≤ n) (fr : ∀ n, n < h.length → (∀ s, O n ≠ some (r, q ++ s)) → h'[n]? = h[n]?) (len : h.length ≤ h'.length) (sb : Sb S' h')
    {o1 : Ow} (d' : D S' h' o1 [] x u) (ho1 : ∀ n, o1 n ≠ none → n < h'.length ∧ S' n = false ∧ ((∃ s, O n = some (r, q ++ s)) ∨ h.length ≤ n)) :
    Wd S S' h h' O (newO r q o1 O) ∧ Inv A S' h' X (newO r q o1 O) ρ ps' := by
  obtain ⟨a, b⟩ := v.updT (Tm := fun _ => False) hr e0 hw hg hp eu le new fr len sb d' fun n z => by
    obtain ⟨g1, g2, g3⟩ := ho1 n z
    exact ⟨g1, g2, g3.imp id .inl⟩
  refine ⟨⟨le, fun n e => ?_, fun n hn e => fr n hn fun s z => (by rw [e] at z; cases z), len, fun n e => ?_⟩, b⟩
  · rcases new n e with z | ⟨s, z⟩ | z
    · exact .inl z
    · exact .inr (.inl (by rw [z]; simp))
    · exact .inr (.inr z)
  · rcases a n e with z | z | z
    · exact .inl z
    · exact .inr z
    · exact z.elim
theorem Inv.take {S : Cel} {h0 h : Hq} {X : Xt} {O0 O : Om} {ρ : Ev} {ps : PEnv} (v : Inv A S h X O ρ ps) {i : Nat} (hi : i ∉ A) {w : W} {t : T} (r : Rs S h0 h X O0 O w t) (wd : ∀ n, O0 n ≠ none → n < h0.length) :
    ∃ O', (∀ n, O' n ≠ none → O n ≠ none ∨ O0 n ≠ none ∨ h0.length ≤ n) ∧ Inv A S h X O' (ρ.set i (some w)) (ps.set i (some (.own t))) := by
  obtain ⟨o, d, k⟩ := r
  refine ⟨fun n => match o n with
    | some s => some (i, s)
    | none => (match O n with
      | some (j, s) => if j = i then none else some (j, s)
      | none => none), fun n e => ?_, ?_⟩
  · dsimp only at e
    cases q : o n with
    | some s => exact .inr (k n (by rw [q]; simp)).2.2.2.2
    | none =>
      rw [q] at e
      dsimp only at e
      cases q2 : O n with
      | none => rw [q2] at e; exact absurd rfl e
      | some z => exact .inl (by simp)
  · have same : ∀ n, o n = none → ∀ j s, j ≠ i → O n = some (j, s) → (match o n with
        | some s => some (i, s)
        | none => (match O n with
          | some (j, s) => if j = i then none else some (j, s)
          | none => none)) = some (j, s) := fun n q j s c e => by rw [q, e]; simp [c]
    have on : ∀ n j s, O n = some (j, s) → o n = none := fun n j s e => by
      cases q : o n with
      | none => rfl
      | some s' => have := (k n (by rw [q]; simp)).2.2.2.1; rw [e] at this; cases this
    refine ⟨⟨v.s, v.x, fun n e => ?_⟩, by simp [v.len], fun j en ej => ?_⟩
    · cases q : o n with
      | some s => have := k n (by rw [q]; simp); exact ⟨this.1, this.2.1, this.2.2.1⟩
      | none =>
        rw [q] at e
        cases q2 : O n with
        | none => rw [q2] at e; exact absurd rfl e
        | some z => exact v.o n (by rw [q2]; simp)
    · by_cases c : i = j
      · subst c
        have hl : i < ps.length := by have := lt_of_get ej; simpa using this
        rw [List.getElem?_set_self hl] at ej
        cases ej
        refine ⟨w, List.getElem?_set_self (by rw [v.len]; exact hl), d.move (fun _ z => z) (fun _ _ => rfl) fun n s e => ⟨sl_some.mpr ?_, rfl⟩⟩
        rw [show o n = some s from e]; rfl
      · rw [List.getElem?_set_ne c] at ej
        have := v.en j en ej
        have other : ∀ w t, D S h (sl O j) [] w t → D S h (sl (fun n => match o n with
            | some s => some (i, s)
            | none => (match O n with
              | some (j, s) => if j = i then none else some (j, s)
              | none => none)) j) [] w t := fun w t d => d.move (fun _ z => z) (fun _ _ => rfl) fun n s e => by
          have e2 : O n = some (j, s) := sl_some.mp e
          exact ⟨sl_some.mpr (same n (on n j s e2) j s (Ne.symm c) e2), rfl⟩
        cases en with
        | own t => obtain ⟨w, hw, d⟩ := this; exact ⟨w, by rw [List.getElem?_set_ne c]; exact hw, other w t d⟩
        | par t => obtain ⟨w, hw, d⟩ := this; exact ⟨w, ⟨by rw [List.getElem?_set_ne c]; exact hw.1, hw.2⟩, other w t d⟩
        | ext t => obtain ⟨w, o, hw, d⟩ := this; exact ⟨w, o, by rw [List.getElem?_set_ne c]; exact hw, d⟩
        | als r p =>
          obtain ⟨ha, w, wr, t0, t1, h1, h2, h3, h4, h5⟩ := this
          have n : r ≠ i := fun z => hi (z ▸ ha)
          exact ⟨ha, w, wr, t0, t1, by rw [List.getElem?_set_ne c]; exact h1, by rw [List.getElem?_set_ne (Ne.symm n)]; exact h2, h3, by rw [rootT_set n]; exact h4, h5⟩
end
end ZP

namespace ZP
open PySem L2 Z
section
variable {A B : List Nat}
def pNop : PS := fun ps => .ok .nx ps
theorem js_nop : JS A sNop pNop := fun S h X O ρ ps v => ⟨.nx, ρ, h, S, O, rfl, .refl, v, trivial⟩
def thenP (r : Rp) (f : PS) : Rp := match r with
  | .ok .nx ps => f ps
  | r => r
def pSeq (a b : PS) : PS := fun ps => thenP (a ps) b
theorem js_seq {a b : MS} {p q : PS} (ja : JS A a p) (jb : JS A b q) : JS A (sSeq a b) (pSeq p q) := fun S h X O ρ ps v => by
  have := ja S h X O ρ ps v
  show PoS A S h X O (thenS (a ρ h) b) (thenP (p ps) q)
  revert this
  cases p ps with
  | ok f ps1 =>
    rintro ⟨fl, ρ1, h1, S1, O1, e, a1, v1, k⟩
    rw [e]
    cases fl <;> cases f <;> first | exact k.elim | skip
    · exact (jb S1 h1 X O1 ρ1 ps1 v1).up a1
    · exact ⟨_, ρ1, h1, S1, O1, rfl, a1, v1, k⟩
    · exact ⟨_, ρ1, h1, S1, O1, rfl, a1, v1, k⟩
    · exact ⟨_, ρ1, h1, S1, O1, rfl, a1, v1, k⟩
  | exc c ps1 =>
    rintro ⟨ρ1, h1, S1, O1, e, a1, v1⟩
    rw [e]
    exact ⟨ρ1, h1, S1, O1, rfl, a1, v1⟩
  | stuck => exact fun _ => trivial
def pExpr (p : P1) : PS := fun ps => (p ps).toP fun _ ps' => .ok .nx ps'
theorem js_expr {m : ME} {p : P1} (j : J1f A m p) : JS A (sExpr m) (pExpr p) := fun S h X O ρ ps v =>
  (j S h X O ρ ps v).toS fun w t ps' S' h' O' a v' k => ⟨.nx, ρ, h', S', O', rfl, .refl, v', trivial⟩
def pRet (p : P1) : PS := fun ps => (p ps).toP fun t ps' => .ok (.rt t) ps'
theorem js_ret {m : ME} {p : P1} (j : J1f A m p) : JS A (sRet m) (pRet p) := fun S h X O ρ ps v => by
  have := j S h X O ρ ps v
  show PoS A S h X O ((m ρ h).toS ρ fun w h1 => .ok (.rt w) ρ h1) ((p ps).toP fun t ps' => .ok (.rt t) ps')
  revert this
  cases p ps with
  | ok t ps1 =>
    rintro ⟨w, h1, S1, O1, e, a1, v1, k⟩
    rw [e]
    exact ⟨.rt w, ρ, h1, S1, O1, rfl, a1, v1, k⟩
  | exc c ps1 =>
    rintro ⟨h1, S1, O1, e, a1, v1⟩
    rw [e]
    exact ⟨ρ, h1, S1, O1, rfl, a1, v1⟩
  | stuck => exact fun _ => trivial
def pBrk : PS := fun ps => .ok .bk ps
theorem js_brk : JS A sBrk pBrk := fun S h X O ρ ps v => ⟨.bk, ρ, h, S, O, rfl, .refl, v, trivial⟩
def pRaise (c : Str) : PS := fun ps => .exc c ps
theorem js_raise {c : Str} : JS A (sRaise c) (pRaise c) := fun S h X O ρ ps v => ⟨ρ, h, S, O, rfl, .refl, v⟩
def pIf (c : P1b) (a b : PS) : PS := fun ps => (c ps).toP fun k ps' => if k then a ps' else b ps'
theorem js_if {c : MT} {a b : MS} {pc : P1b} {pa pb : PS} (jc : J1t A c pc) (ja : JS A a pa) (jb : JS A b pb) : JS A (sIf c a b) (pIf pc pa pb) := fun S h X O ρ ps v =>
  (jc S h X O ρ ps v).toS fun w t ps' S' h' O' a1 v' k => by
    have k : w = t := k
    subst k
    cases w with
    | true => exact ja S' h' X O' ρ ps' v'
    | false => exact jb S' h' X O' ρ ps' v'
def pAsg (p : P1) (i : Nat) : PS := fun ps => (p ps).toP fun t ps' => .ok .nx (ps'.set i (some (.own t)))
theorem js_asg {m : ME} {p : P1} {i : Nat} (hi : i ∉ A) (j : J1f A m p) : JS A (sAsg m (gN i)) (pAsg p i) := fun S h X O ρ ps v => by
  have := j S h X O ρ ps v
  show PoS A S h X O ((m ρ h).toS ρ fun w h1 => match gN i w ρ with
  | some ρ' => .ok .nx ρ' h1
  | none => .stuck) ((p ps).toP fun t ps' => .ok .nx (ps'.set i (some (.own t))))
  revert this
  cases p ps with
  | ok t ps1 =>
    rintro ⟨w, h1, S1, O1, e, a1, v1, k⟩
    rw [e]
    obtain ⟨O', k1, v2⟩ := v1.take hi k fun n q => (v.o n q).1
    refine ⟨.nx, _, h1, S1, O', rfl, ⟨a1.le, a1.new, a1.fr, a1.len, fun n q => ?_⟩, v2, trivial⟩
    rcases k1 n q with z | z | z
    · exact a1.own n z
    · exact .inl z
    · exact .inr z
  | exc c ps1 =>
    rintro ⟨h1, S1, O1, e, a1, v1⟩
    rw [e]
    exact ⟨ρ, h1, S1, O1, rfl, a1, v1⟩
  | stuck => exact fun _ => trivial
theorem Rs.z {S' : Cel} {h h' : Hq} {X : Xt} {O O' : Om} {w : W} {v : Zv} (r : Rs S' h h' X O O' w (.z v)) : DZ S' h' w v := by
  obtain ⟨o, d, _⟩ := r
  exact D.z_iff.mp d
def pLoop (g : PG) (b : PS) : List Zv → PS
  | [] => fun ps => .ok .nx ps
  | v :: vs => fun ps => match g v ps with
    | some ps1 => (match b ps1 with
      | .ok .nx ps2 => pLoop g b vs ps2
      | .ok .ct ps2 => pLoop g b vs ps2
      | .ok .bk ps2 => .ok .nx ps2
      | r => r)
    | none => .stuck
theorem Wd.dz {S S' : Cel} {h h' : Hq} {X : Xt} {O O' : Om} {ws : List W} {vs : List Zv} (a : Wd S S' h h' O O') (b : Bd S h X O) (m : A2 (DZ S h) ws vs) : A2 (DZ S' h') ws vs :=
  m.imp fun _ _ _ _ d => d.mono a.le fun n q => a.fr n (b.s n q) (b.sO q)
theorem po_loop {S1 : Cel} {h1 : Hq} {X : Xt} {O1 : Om} {s : Src} {g : MG} {b : MS} {pg : PG} {pb : PS} (jg : JG A g pg) (jb : JS A b pb)
    (C : Nat → Prop) (hC : ∀ n, C n → n < h1.length ∧ O1 n = none) (ck : ∀ h'' : Hq, (∀ n, C n → h''[n]? = h1[n]?) → s.chk h'' = true) :
    ∀ (ws : List W) (us : List Zv) (S : Cel) (h : Hq) (O : Om) (ρ : Ev) (ps : PEnv), Wd S1 S h1 h O1 O → Inv A S h X O ρ ps → A2 (DZ S h) ws us → PoS A S h X O (loopF s.chk g b ws ρ h) (pLoop pg pb us ps) := by
  intro ws
  induction ws with
  | nil =>
    intro us S h O ρ ps a v m
    cases m
    unfold loopF pLoop
    rw [if_pos (ck h fun n q => a.fr n (hC n q).1 (hC n q).2)]
    exact ⟨.nx, ρ, h, S, O, rfl, .refl, v, trivial⟩
  | cons w ws ih =>
    intro us S h O ρ ps a v m
    cases m with
    | cons r m =>
      rename_i u us
      unfold loopF pLoop
      rw [if_pos (ck h fun n q => a.fr n (hC n q).1 (hC n q).2)]
      cases q : pg u ps with
      | none => trivial
      | some ps1 =>
        obtain ⟨ρ1, e1, v1⟩ := jg S h X O ρ ps w u v r ps1 q
        rw [e1]
        dsimp only
        have hb := jb S h X O ρ1 ps1 v1
        revert hb
        cases pb ps1 with
        | ok f ps2 =>
          rintro ⟨fl, ρ2, h2, S2, O2, e, a2, v2, k⟩
          rw [e]
          cases fl <;> cases f <;> first | exact k.elim | skip
          · exact (ih us S2 h2 O2 ρ2 ps2 (a.trans a2) v2 (a2.dz v.toBd m)).up a2
          · exact ⟨.nx, ρ2, h2, S2, O2, rfl, a2, v2, trivial⟩
          · exact (ih us S2 h2 O2 ρ2 ps2 (a.trans a2) v2 (a2.dz v.toBd m)).up a2
          · exact ⟨_, ρ2, h2, S2, O2, rfl, a2, v2, k⟩
        | exc c ps2 =>
          rintro ⟨ρ2, h2, S2, O2, e, a2, v2⟩
          rw [e]
          exact ⟨ρ2, h2, S2, O2, rfl, a2, v2⟩
        | stuck => exact fun _ => trivial
def pFor (i : P0i) (g : PG) (b : PS) : PS := fun ps => (up i ps).toP fun vs ps' => pLoop g b vs ps'
theorem js_for {i : MI} {g : MG} {b : MS} {pi : P0i} {pg : PG} {pb : PS} (ji : J0i A [] i pi) (jg : JG A g pg) (jb : JS A b pb) : JS A (sFor i g b) (pFor pi pg pb) := fun S h X O ρ ps v => by
  have := (ji S h X O ρ ps v).up (A := A) (X := X) (O := O) (ρ := ρ) (K' := fun s vs S' h' O' => O' = O ∧ A2 (DZ S' h') s.items vs ∧ Cells [] S' h h' X O s) v fun w t S' h' _ _ k => ⟨rfl, k⟩
  refine this.toS fun s us ps' S1 h1 O1 a1 v1 k1 => ?_
  obtain ⟨eo, m, C, hC, ck⟩ := k1
  subst eo
  refine po_loop jg jb C (fun n q => ⟨(hC n q).1, ?_⟩) ck s.items us S1 h1 O1 ρ ps' .refl v1 m
  rcases (hC n q).2 with z | ⟨_, z | z | ⟨j, s, _, z⟩⟩
  · exact v1.sO z
  · cases e : O1 n with
    | none => rfl
    | some p => have := (v.o n (by rw [e]; simp)).1; omega
  · cases e : O1 n with
    | none => rfl
    | some p => have := (v.o n (by rw [e]; simp)).2.2; rw [z] at this; cases this
  · cases z
def exts (ts : List T) : PEnv := ts.map fun t => some (.ext t)
def pfn (np nn : Nat) (b : PS) : PF := fun ts => if ts.length = np then (match b (exts ts ++ List.replicate (nn - ts.length) none) with
  | .ok .nx _ => .ok (.z .non)
  | .ok (.rt t) _ => .ok t
  | .exc c _ => .exc c
  | _ => .stuck) else .stuck
theorem jf_fn {np nn : Nat} {b : MS} {p : PS} (j : JS A b p) : JF (fnB np nn b) (pfn np nn p) := fun S h ws ts s m => by
  unfold pfn fnB
  rw [m.length]
  by_cases c : ts.length = np
  · rw [if_pos c, if_pos c]
    have v : Inv A S h ⟨fun n => decide (n < h.length) && !S n, fun _ => .non⟩ (fun _ => none) (ws.map some ++ List.replicate (nn - ts.length) none) (exts ts ++ List.replicate (nn - ts.length) none) := by
      refine ⟨⟨s, fun n q => by simpa using q, fun n q => absurd rfl q⟩, by simp [exts, m.length], fun i e q => ?_⟩
      have hi : i < ts.length := by
        by_cases hi : i < ts.length
        · exact hi
        · rw [List.getElem?_append_right (by simp [exts]; omega)] at q
          rw [List.getElem?_replicate] at q
          split at q <;> simp at q
      rw [List.getElem?_append_left (by simp [exts]; exact hi)] at q
      simp only [exts, List.getElem?_map, Option.map_eq_some_iff] at q
      obtain ⟨t, ht, q⟩ := q
      cases q
      obtain ⟨w, hw, o, d, k⟩ := m.get ht
      refine ⟨w, o, ?_, d, fun n z => by have := k n z; simp [this.1, this.2]⟩
      rw [List.getElem?_append_left (by simp [m.length]; exact hi), List.getElem?_map, hw]; rfl
    have := j S h _ _ _ _ v
    revert this
    have wx : ∀ {S' : Cel} {h' : Hq} {O' : Om}, Wd S S' h h' (fun _ => none) O' → Wx S S' h h' := fun a =>
      ⟨a.le, fun n q => by rcases a.new n q with z | z | z; exact .inl z; exact absurd rfl z; exact .inr z, fun n hn => a.fr n hn rfl, a.len⟩
    cases p (exts ts ++ List.replicate (nn - ts.length) none) with
    | ok f ps' =>
      rintro ⟨fl, ρ', h', S', O', e, a1, v1, k⟩
      rw [e]
      cases fl <;> cases f <;> first | exact k.elim | trivial | skip
      · exact ⟨.non, h', S', rfl, wx a1, v1.s, .z dz_non⟩
      · obtain ⟨o, d, k⟩ := k
        refine ⟨_, h', S', rfl, wx a1, v1.s, o, d, fun n z => ?_⟩
        obtain ⟨k1, k2, k3, k4, k5⟩ := k n z
        rcases k5 with k5 | k5
        · exact absurd rfl k5
        · exact ⟨k5, k1, k2⟩
    | exc c ps' =>
      rintro ⟨ρ', h', S', O', e, a1, v1⟩
      rw [e]
      exact ⟨h', S', rfl, wx a1, v1.s⟩
    | stuck => exact fun _ => trivial
  · rw [if_neg c, if_neg c]; trivial
end
end ZP

namespace ZP
open PySem L2 Z
inductive Rf where
  | ok (t out : T) | exc (c : Str) (out : T) | stuck
abbrev PM := List T → Rf
structure Mw (S S' : Cel) (h h' : Hq) (o o' : Ow) : Prop where
  le : ∀ n, S n = true → S' n = true
  new : ∀ n, S' n = true → S n = true ∨ o n ≠ none ∨ h.length ≤ n
  fr : ∀ n, n < h.length → o n = none → h'[n]? = h[n]?
  len : h.length ≤ h'.length
  sb : Sb S' h'
  ob : ∀ n, o' n ≠ none → n < h'.length ∧ S' n = false ∧ (o n ≠ none ∨ h.length ≤ n)
def PoM (S : Cel) (h : Hq) (o : Ow) (wk : W) (r : Res W) (z : Rf) : Prop := match z with
  | .ok t out => ∃ w h' S' o' oo, r = .ok w h' ∧ Mw S S' h h' o o' ∧ D S' h' o' [] wk out ∧ D S' h' oo [] w t ∧ ∀ n, oo n ≠ none → n < h'.length ∧ S' n = false ∧ o' n = none ∧ (o n ≠ none ∨ h.length ≤ n)
  | .exc c out => ∃ h' S' o', r = .exc c h' ∧ Mw S S' h h' o o' ∧ D S' h' o' [] wk out
  | .stuck => True
def JM (k : Nat) (F : MF) (P : PM) : Prop := ∀ S h (X : Cel) o ws ts wk tk, Sb S h → (∀ n, X n = true → n < h.length ∧ S n = false) → ws[k]? = some wk → ts[k]? = some tk → D S h o [] wk tk →
  (∀ n, o n ≠ none → n < h.length ∧ S n = false ∧ X n = false) → ws.length = ts.length → (∀ (j : Nat) (w : W) (t : T), j ≠ k → ws[j]? = some w → ts[j]? = some t → ∃ oj, D S h oj [] w t ∧ ∀ n, oj n ≠ none → X n = true) → PoM S h o wk (F ws h) (P ts)
section
variable {A B B' : List Nat}
def ini (k : Nat) : List T → PEnv
  | [] => []
  | t :: ts => match k with
    | 0 => some (.par t) :: exts ts
    | k + 1 => some (.ext t) :: ini k ts
def outM (k : Nat) (t : T) (ps : PEnv) : Rf := match ps[k]? with
  | some (some (.par u)) => .ok t u
  | _ => .stuck
def outX (k : Nat) (c : Str) (ps : PEnv) : Rf := match ps[k]? with
  | some (some (.par u)) => .exc c u
  | _ => .stuck
def pfm (k np nn : Nat) (b : PS) : PM := fun ts => if ts.length = np then (match b (ini k ts ++ List.replicate (nn - ts.length) none) with
  | .ok .nx ps => outM k (.z .non) ps
  | .ok (.rt t) ps => outM k t ps
  | .exc c ps => outX k c ps
  | _ => .stuck) else .stuck
theorem ini_len : ∀ {k : Nat} {ts : List T}, (ini k ts).length = ts.length
  | _, [] => by simp [ini]
  | 0, t :: ts => by simp [ini, exts]
  | k + 1, t :: ts => by simp [ini, ini_len]
theorem ini_get : ∀ {k : Nat} {ts : List T} {i : Nat} {e : Option En}, (ini k ts)[i]? = some e → ∃ t, ts[i]? = some t ∧ e = some (if i = k then .par t else .ext t)
  | k, [], i, e, q => by simp [ini] at q
  | 0, t :: ts, 0, e, q => by simp [ini] at q; exact ⟨t, rfl, by simp [q]⟩
  | 0, t :: ts, i + 1, e, q => by simp [ini, exts] at q; obtain ⟨u, h1, h2⟩ := q; exact ⟨u, by simpa using h1, by simp [← h2]⟩
  | k + 1, t :: ts, 0, e, q => by simp [ini] at q; exact ⟨t, rfl, by simp [q]⟩
  | k + 1, t :: ts, i + 1, e, q => by
    obtain ⟨u, h1, h2⟩ := ini_get (k := k) (ts := ts) (i := i) (by simpa [ini] using q)
    exact ⟨u, by simpa using h1, by simpa using h2⟩
theorem jm_fn {k np nn : Nat} {b : MS} {p : PS} (j : JS A b p) : JM k (fnB np nn b) (pfm k np nn p) := fun S h X o ws ts wk tk s xb hw ht d ho hl args => by
  unfold pfm fnB
  rw [hl]
  by_cases c : ts.length = np
  · rw [if_pos c, if_pos c]
    have v : Inv A S h ⟨X, fun _ => wk⟩ (fun n => (o n).map fun s => (k, s)) (ws.map some ++ List.replicate (nn - ts.length) none) (ini k ts ++ List.replicate (nn - ts.length) none) := by
      refine ⟨⟨s, xb, fun n q => ho n fun z => q (by simp [z])⟩, by simp [ini_len, hl], fun i e q => ?_⟩
      have hi : i < ts.length := by
        by_cases hi : i < ts.length
        · exact hi
        · rw [List.getElem?_append_right (by rw [ini_len]; omega)] at q
          rw [List.getElem?_replicate] at q
          split at q <;> simp at q
      rw [List.getElem?_append_left (by rw [ini_len]; exact hi)] at q
      obtain ⟨t, h1, h2⟩ := ini_get q
      have hiw : i < ws.length := by rw [hl]; exact hi
      have h3 : ws[i]? = some ws[i] := List.getElem?_eq_getElem hiw
      have h4 : (ws.map some ++ List.replicate (nn - ts.length) none)[i]? = some (some ws[i]) := by
        rw [List.getElem?_append_left (by simpa using hiw), List.getElem?_map, h3]; rfl
      by_cases ck : i = k
      · subst ck
        rw [if_pos rfl] at h2; cases h2
        rw [ht] at h1; cases h1
        rw [hw] at h3
        refine ⟨wk, ⟨by rw [h4, (Option.some.inj h3)], rfl⟩, d.move (fun _ z => z) (fun _ _ => rfl) fun n s e => ⟨sl_some.mpr ?_, rfl⟩⟩
        simp at e; simp [e]
      · rw [if_neg ck] at h2; cases h2
        obtain ⟨oj, d2, k2⟩ := args i _ t ck h3 h1
        exact ⟨_, oj, h4, d2, k2⟩
    have := j S h _ _ _ _ v
    revert this
    have on : ∀ n, (o n).map (fun s => (k, s)) ≠ none → o n ≠ none := fun n q z => q (by simp [z])
    have mw : ∀ {S' : Cel} {h' : Hq} {O' : Om} {ρ' : Ev} {ps' : PEnv}, Wd S S' h h' (fun n => (o n).map fun s => (k, s)) O' → Inv A S' h' ⟨X, fun _ => wk⟩ O' ρ' ps' → Mw S S' h h' o (sl O' k) := fun {S' h' O' ρ' ps'} a i =>
      ⟨a.le, fun n q => (a.new n q).imp id fun z => z.imp (on n) id, fun n hn q => a.fr n hn (by simp [q]), a.len, i.s, fun n q => by
        have := i.o n (sl_none q)
        exact ⟨this.1, this.2.1, (a.own n (sl_none q)).imp (on n) id⟩⟩
    have get : ∀ {S' : Cel} {h' : Hq} {O' : Om} {ρ' : Ev} {ps' : PEnv} {u : T}, Inv A S' h' ⟨X, fun _ => wk⟩ O' ρ' ps' → ps'[k]? = some (some (.par u)) → D S' h' (sl O' k) [] wk u := fun i e => by
      obtain ⟨w, hw, d9⟩ := i.en k _ e
      have e2 : w = wk := hw.2
      rw [e2] at d9; exact d9
    cases p (ini k ts ++ List.replicate (nn - ts.length) none) with
    | ok f ps' =>
      rintro ⟨fl, ρ', h', S', O', e, a1, v1, q⟩
      rw [e]
      cases fl <;> cases f <;> first | exact q.elim | trivial | skip
      · dsimp only
        unfold outM
        split
        · rename_i u e2
          exact ⟨.non, h', S', _, noO, rfl, mw a1 v1, get v1 e2, D.z dz_non, fun n z => absurd rfl z⟩
        · trivial
      · dsimp only
        unfold outM
        split
        · rename_i u e2
          obtain ⟨oo, d2, g⟩ := q
          refine ⟨_, h', S', _, oo, rfl, mw a1 v1, get v1 e2, d2, fun n z => ?_⟩
          obtain ⟨g1, g2, g3, g4, g5⟩ := g n z
          exact ⟨g1, g2, by unfold sl; rw [g4], g5.imp (on n) id⟩
        · trivial
    | exc c ps' =>
      rintro ⟨ρ', h', S', O', e, a1, v1⟩
      rw [e]
      dsimp only
      unfold outX
      split
      · rename_i u e2
        exact ⟨h', S', _, rfl, mw a1 v1, get v1 e2⟩
      · trivial
    | stuck => exact fun _ => trivial
  · rw [if_neg c, if_neg c]; trivial
def ownT (ps : PEnv) (r : Nat) : Option T := match ps[r]? with
  | some (some (.own t)) => some t
  | some (some (.par t)) => some t
  | _ => none
theorem ownT_some {ps : PEnv} {r : Nat} {t : T} (e : ownT ps r = some t) : ps[r]? = some (some (.own t)) ∨ ps[r]? = some (some (.par t)) := by
  unfold ownT at e
  split at e
  · rename_i q; cases e; exact .inl q
  · rename_i q; cases e; exact .inr q
  · cases e
theorem Inv.own {S : Cel} {h : Hq} {X : Xt} {O : Om} {ρ : Ev} {ps : PEnv} (v : Inv A S h X O ρ ps) {r : Nat} {t : T} (e : ps[r]? = some (some (.own t)) ∨ ps[r]? = some (some (.par t))) : ∃ w, ρ[r]? = some (some w) ∧ D S h (sl O r) [] w t := by
  rcases e with e | e
  · exact v.en r _ e
  · obtain ⟨w, hw, d⟩ := v.en r _ e; exact ⟨w, hw.1, d⟩
abbrev P0p := PEnv → Rz Pth
def AtP (h : Hq) (ρ : Ev) (ps : PEnv) (r : Nat) (x : W) (q : Pth) : Prop := ∃ w0 t0 u, ρ[r]? = some (some w0) ∧ (ps[r]? = some (some (.own t0)) ∨ ps[r]? = some (some (.par t0))) ∧ getT t0 q = some u ∧ Pw h w0 q x
def JP (A : List Nat) (r : Nat) (m : ME) (p : P0p) : Prop := ∀ S h X O ρ ps, Inv A S h X O ρ ps → Po S h (m ρ h) (p ps) fun x q S' h' => AtP h' ρ ps r x q
theorem AtP.ext {S S' : Cel} {h h' : Hq} {ρ : Ev} {ps : PEnv} {r : Nat} {x : W} {q : Pth} (a : Wx S S' h h') (k : AtP h ρ ps r x q) : AtP h' ρ ps r x q := by
  obtain ⟨w0, t0, u, h1, h2, h3, h4⟩ := k
  exact ⟨w0, t0, u, h1, h2, h3, h4.mono fun n o e => a.get e⟩
def pPV (r : Nat) : P0p := fun ps => match ownT ps r with
  | some _ => .ok []
  | none => .stuck
theorem jp_v (r : Nat) : JP A r (eV r) (pPV r) := fun S h X O ρ ps v => by
  unfold pPV
  cases e : ownT ps r with
  | none => trivial
  | some t =>
    have e2 := ownT_some e
    obtain ⟨w, hw, d⟩ := v.own e2
    unfold eV; rw [hw]
    exact Po.ret v.s ⟨w, t, t, hw, e2, rfl, rfl⟩
def ixF (f : Str) : List (Str × T) → Option Nat
  | [] => none
  | (g, _) :: r => if g = f then some 0 else (ixF f r).map (· + 1)
theorem ixF_some {f : Str} : ∀ {fs : List (Str × T)} {i : Nat}, ixF f fs = some i → ∃ t, fs[i]? = some (f, t) ∧ ∀ ws : List (Str × W), ws.map Prod.fst = fs.map Prod.fst → ∃ w, ws[i]? = some (f, w) ∧ ws.lookup f = some w
  | [], _, e => by cases e
  | (g, u) :: fs, i, e => by
    unfold ixF at e
    by_cases c : g = f
    · subst c; rw [if_pos rfl] at e; cases e
      refine ⟨u, rfl, fun ws hw => ?_⟩
      cases ws with
      | nil => simp at hw
      | cons x ws =>
        obtain ⟨g', w⟩ := x
        simp at hw
        obtain ⟨rfl, _⟩ := hw
        exact ⟨w, rfl, by simp [List.lookup]⟩
    · rw [if_neg c] at e
      obtain ⟨i, e1, rfl⟩ := Option.map_eq_some_iff.mp e
      obtain ⟨t, h1, h2⟩ := ixF_some e1
      refine ⟨t, h1, fun ws hw => ?_⟩
      cases ws with
      | nil => simp at hw
      | cons x ws =>
        obtain ⟨g', w⟩ := x
        simp at hw
        obtain ⟨rfl, hw⟩ := hw
        obtain ⟨w', h3, h4⟩ := h2 ws hw
        exact ⟨w', h3, by rw [List.lookup, lk_beq, decide_eq_false (fun z => c z.symm)]; exact h4⟩
theorem getT_app : ∀ {q : Pth} {t u : T} {s : Pth}, getT t q = some u → getT t (q ++ s) = getT u s
  | [], t, u, s, e => by cases e; rfl
  | i :: q, .nst ts, u, s, e => by
    simp only [getT, Option.bind_eq_some_iff] at e
    obtain ⟨v, hv, e⟩ := e
    simp only [List.cons_append, getT, hv, Option.bind_some]
    exact getT_app e
  | i :: q, .ins c ts, u, s, e => by
    simp only [getT, Option.bind_eq_some_iff] at e
    obtain ⟨v, hv, e⟩ := e
    simp only [List.cons_append, getT, hv, Option.bind_some]
    exact getT_app e
  | i :: q, .z v, u, s, e => by cases e
  | i :: q, .lst v, u, s, e => by cases e
  | i :: q, .dct b v, u, s, e => by cases e
theorem Pw.app {h : Hq} : ∀ {q s : Pth} {w x y : W}, Pw h w q x → Pw h x s y → Pw h w (q ++ s) y
  | [], s, w, x, y, a, b => by cases a; exact b
  | i :: q, s, w, x, y, ⟨n, o, z, e, hn, k, r⟩, b => ⟨n, o, z, e, hn, k, Pw.app r b⟩
def atT (ps : PEnv) (r : Nat) (q : Pth) : Option T := (ownT ps r).bind fun t => getT t q
theorem AtP.tree {S : Cel} {h : Hq} {X : Xt} {O : Om} {ρ : Ev} {ps : PEnv} {r : Nat} {x : W} {q : Pth} (v : Inv A S h X O ρ ps) (k : AtP h ρ ps r x q) : ∃ u, atT ps r q = some u ∧ D S h (sl O r) q x u := by
  obtain ⟨w0, t0, u, h1, h2, h3, h4⟩ := k
  obtain ⟨w, hw, d⟩ := v.own h2
  rw [h1] at hw; cases hw
  obtain ⟨y, h5, d2⟩ := d.sub h3
  cases h4.fn h5
  refine ⟨u, ?_, by simpa using d2⟩
  unfold atT ownT
  rcases h2 with h2 | h2 <;> (rw [h2]; exact h3)
def pPF (r : Nat) (f : Str) (p : P0p) : P0p := fun ps => (p ps).bind fun q => match atT ps r q with
  | some (.ins c fs) => if (fieldsOf c).contains f then (match ixF f fs with
    | some i => .ok (q ++ [i])
    | none => .stuck) else .stuck
  | _ => .stuck
theorem jp_f {r : Nat} {f : Str} {m : ME} {p : P0p} (j : JP A r m p) : JP A r (eFld f m) (pPF r f p) := fun S h X O ρ ps v =>
  (j S h X O ρ ps v).bind fun x q S1 h1 a1 s1 k1 => by
    obtain ⟨u, e1, d⟩ := k1.tree (v.ext a1 s1)
    rw [e1]
    cases u with
    | ins c fs =>
      dsimp only
      by_cases kf : (fieldsOf c).contains f = true
      · rw [if_pos kf]
        cases e : ixF f fs with
        | none => trivial
        | some i =>
          obtain ⟨t, g1, g2⟩ := ixF_some e
          obtain ⟨n, ws, rfl, on, hn, hl, _⟩ := D.ins_iff.mp d
          obtain ⟨w, g3, g4⟩ := g2 ws hl
          rw [fldW_of hn g4 kf]
          obtain ⟨w0, t0, u, b1, b2, b3, b4⟩ := k1
          refine Po.ret s1 ⟨w0, t0, t, b1, b2, ?_, b4.app ⟨n, _, w, rfl, hn, by simp [kid, g3], rfl⟩⟩
          have : atT ps r q = getT t0 q := by unfold atT ownT; rcases b2 with b2 | b2 <;> (rw [b2]; rfl)
          rw [this] at e1
          rw [getT_app e1]
          simp [getT, g1]
      · rw [if_neg kf]; trivial
    | _ => trivial
def pPI (r : Nat) (p : P0p) (i : P0) : P0p := fun ps => (p ps).bind fun q => (i ps).bind fun k => match atT ps r q, k with
  | some (.nst ts), .z (.int j) => (match ixN ts.length j with
    | some n => .ok (q ++ [n])
    | none => .stuck)
  | _, _ => .stuck
theorem ixN_lt {n k : Nat} {i : Int} (e : ixN n i = some k) : k < n := (ixN_seq e).2.1
theorem jp_i {r : Nat} {m i : ME} {p : P0p} {pi : P0} (j : JP A r m p) (ji : J0b A B i pi) : JP A r (eBin ixW m i) (pPI r p pi) := fun S h X O ρ ps v =>
  (j S h X O ρ ps v).bind fun x q S1 h1 a1 s1 k1 => (ji S1 h1 X O ρ ps (v.ext a1 s1)).bind fun y k S2 h2 a2 s2 k2 => by
    have k1 := k1.ext a2
    obtain ⟨u, e1, d⟩ := k1.tree ((v.ext a1 s1).ext a2 s2)
    rw [e1]
    cases u with
    | nst ts =>
      cases k with
      | z k =>
        cases k with
        | int z =>
          cases dz_int_iff.mp k2.z
          dsimp only
          cases e : ixN ts.length z with
          | none => trivial
          | some n =>
            obtain ⟨m, tg, ws, rfl, on, hn, hl, _⟩ := D.nst_iff.mp d
            have hlt := ixN_lt e
            obtain ⟨y9, g3⟩ : ∃ y, ws[n]? = some y := ⟨_, List.getElem?_eq_getElem (by rw [hl]; exact hlt)⟩
            have g4 : atI ws z = some y9 := by unfold L2.atI; rw [hl, e]; exact g3
            rw [ix_l (asL_ref hn) (.inl ⟨m, tg, rfl, hn⟩) g4]
            obtain ⟨w0, t0, u, b1, b2, b3, b4⟩ := k1
            refine Po.ret s2 ⟨w0, t0, ts[n], b1, b2, ?_, b4.app ⟨m, _, y9, rfl, hn, g3, rfl⟩⟩
            have : atT ps r q = getT t0 q := by unfold atT ownT; rcases b2 with b2 | b2 <;> (rw [b2]; rfl)
            rw [this] at e1
            rw [getT_app e1]
            simp [getT, hlt]
        | _ => trivial
      | _ => trivial
    | _ => trivial
abbrev P1a := PEnv → Rz (Pth × List T)
def JA1 (A : List Nat) (k r : Nat) (m : MA) (p : P1a) : Prop := ∀ S h X O ρ ps, Inv A S h X O ρ ps → Po S h (m ρ h) (p ps) fun ws qt S' h' => ∃ x, AtP h' ρ ps r x qt.1 ∧ ws[k]? = some x ∧ qt.2[k]? = atT ps r qt.1 ∧ ws.length = qt.2.length ∧ ∀ (j : Nat) (w : W) (t : T), j ≠ k → ws[j]? = some w → qt.2[j]? = some t → ∃ B, r ∉ B ∧ Br B S' h h' X O w t
def pA0 (r : Nat) (p : P0p) (q : P0a) : P1a := fun ps => (p ps).bind fun s => (q ps).bind fun ts => match atT ps r s with
  | some u => .ok (s, u :: ts)
  | none => .stuck
theorem a2_all {α β : Type} {R : α → β → Prop} : ∀ {xs : List α} {ys : List β}, A2 R xs ys → ∀ (i : Nat) (a : α) (b : β), xs[i]? = some a → ys[i]? = some b → R a b
  | _, _, .nil, i, a, b, h, _ => by simp at h
  | _, _, .cons r m, 0, a, b, h, g => by simp at h g; subst h; subst g; exact r
  | _, _, .cons r m, i + 1, a, b, h, g => a2_all m i a b (by simpa using h) (by simpa using g)
theorem ja_0 {r : Nat} {m : ME} {ma : MA} {p : P0p} {q : P0a} (hr : r ∉ B) (j : JP A r m p) (ja : J0a A B ma q) : JA1 A 0 r (aCons m ma) (pA0 r p q) := fun S h X O ρ ps v =>
  (j S h X O ρ ps v).bind fun x s S1 h1 a1 s1 k1 => (ja S1 h1 X O ρ ps (v.ext a1 s1)).bind fun ws ts S2 h2 a2 s2 k2 => by
    have k1 := k1.ext a2
    obtain ⟨u, e1, d⟩ := k1.tree ((v.ext a1 s1).ext a2 s2)
    rw [e1]
    refine Po.ret s2 ⟨x, k1, rfl, e1.symm, by simp [k2.length], fun j w t hj hw ht => ?_⟩
    cases j with
    | zero => exact absurd rfl hj
    | succ j => exact ⟨B, hr, (a2_all k2 j w t (by simpa using hw) (by simpa using ht)).base a1.len⟩
def pM (r : Nat) (P : PM) (p : P1a) : P1 := fun ps => match p ps with
  | .ok (q, ts) => (match P ts with
    | .ok t out => (match updR ps r q out with
      | some ps' => .ok t ps'
      | none => .stuck)
    | .exc c out => (match updR ps r q out with
      | some ps' => .exc c ps'
      | none => .stuck)
    | .stuck => .stuck)
  | .exc c => .exc c ps
  | .stuck => .stuck
theorem call_m {k r : Nat} {F : MF} {P : PM} {S : Cel} {h0 h : Hq} {X : Xt} {O : Om} {ρ : Ev} {ps : PEnv} {ws : List W} {ts : List T} {q : Pth} {x : W} (hr : r ∉ A) (f : JM k F P) (v : Inv A S h X O ρ ps) (l : h0.length ≤ h.length)
    (hO : ∀ n, O n ≠ none → n < h0.length) (hX : ∀ n, X.x n = true → n < h0.length)
    (k1 : AtP h ρ ps r x q) (k2 : ws[k]? = some x) (k3 : ts[k]? = atT ps r q) (k4 : ws.length = ts.length) (k5 : ∀ (j : Nat) (w : W) (t : T), j ≠ k → ws[j]? = some w → ts[j]? = some t → ∃ B, r ∉ B ∧ Br B S h0 h X O w t) :
    Po1 A S h X O ρ (F ws h) (match P ts with
    | .ok t out => (match updR ps r q out with
      | some ps' => .ok t ps'
      | none => .stuck)
    | .exc c out => (match updR ps r q out with
      | some ps' => .exc c ps'
      | none => .stuck)
    | .stuck => .stuck) fun w t S' h' O' => Rs S' h h' X O O' w t := by
  obtain ⟨u, e1, d⟩ := k1.tree v
  obtain ⟨w0, t0, u', b1, b2, b3, b4⟩ := k1
  have : atT ps r q = getT t0 q := by unfold atT ownT; rcases b2 with b2 | b2 <;> (rw [b2]; rfl)
  have b3' := b3
  rw [← this, e1] at b3'; cases b3'
  have dr := d.root
  have oc : ∀ n, ((sl O r n).bind (cut0 q)) ≠ none → ∃ s, O n = some (r, q ++ s) := fun n z => by
    cases e : (sl O r n).bind (cut0 q) with
    | none => exact absurd e z
    | some s =>
      obtain ⟨s', e2, e3⟩ := Option.bind_eq_some_iff.mp e
      exact ⟨s, by rw [← cut0_some.mp e3]; exact sl_some.mp e2⟩
  have oc2 : ∀ n s, O n = some (r, q ++ s) → ((sl O r n).bind (cut0 q)) ≠ none := fun n s e => by
    rw [sl_some.mpr e, Option.bind_some, cut0_some.mpr rfl]; simp
  have := f S h (fun n => decide (n < h.length) && !S n && !und r q (O n)) _ ws ts x u v.s (fun n z => by simp at z; exact ⟨z.1.1, z.1.2⟩) k2 (k3.trans e1) dr (fun n z => by
      obtain ⟨s, e⟩ := oc n z
      have := v.o n (by rw [e]; simp)
      refine ⟨this.1, this.2.1, ?_⟩
      have : und r q (O n) = true := und_iff.mpr ⟨s, e⟩
      simp [this]) k4 (fun j w t hj hw ht => by
      obtain ⟨B, hB, o, d2, g⟩ := k5 j w t hj hw ht
      refine ⟨o, d2, fun n z => ?_⟩
      obtain ⟨g1, g2, g3⟩ := g n z
      have nu : und r q (O n) = false := by
        cases e : und r q (O n) with
        | false => rfl
        | true =>
          obtain ⟨s, e⟩ := und_iff.mp e
          rcases g3 with g3 | g3 | ⟨j', s', g3, g4⟩
          · have := hO n (by rw [e]; simp); omega
          · have := (v.o n (by rw [e]; simp)).2.2; rw [g3] at this; cases this
          · rw [e] at g3; cases g3; exact absurd g4 hB
      simp [g1, g2, nu])
  have fin : ∀ {S' : Cel} {h' : Hq} {o' : Ow} {out : T} {ps' : PEnv}, Mw S S' h h' (fun n => (sl O r n).bind (cut0 q)) o' → D S' h' o' [] x out → updR ps r q out = some ps' → Wd S S' h h' O (newO r q o' O) ∧ Inv A S' h' X (newO r q o' O) ρ ps' := fun {S' h' o' out ps'} a d' eu =>
    v.upd hr b2 b1 b3 b4 eu a.le (fun n z => (a.new n z).imp id fun y => y.imp (oc n) id) (fun n hn z => a.fr n hn (by
      cases e : (sl O r n).bind (cut0 q) with
      | none => rfl
      | some s => obtain ⟨s', e'⟩ := oc n (by rw [e]; simp); exact absurd e' (z s'))) a.len a.sb d' fun n z => by
      obtain ⟨g1, g2, g3⟩ := a.ob n z
      exact ⟨g1, g2, g3.imp (oc n) id⟩
  revert this
  cases P ts with
  | ok t out =>
    rintro ⟨w, h', S', o', oo, e, a, d', d2, g⟩
    dsimp only
    cases eu : updR ps r q out with
    | none => trivial
    | some ps' =>
      obtain ⟨wd, v'⟩ := fin a d' eu
      refine ⟨w, h', S', _, e, wd, v', oo, d2, fun n z => ?_⟩
      obtain ⟨g1, g2, g3, g4⟩ := g n z
      refine ⟨g1, g2, ?_, ?_, ?_⟩
      · rcases g4 with g4 | g4
        · obtain ⟨s, e⟩ := oc n g4; exact (v.o n (by rw [e]; simp)).2.2
        · cases ex : X.x n with
          | false => rfl
          | true => have := hX n ex; omega
      · unfold newO
        rw [g3]
        dsimp only
        rcases g4 with g4 | g4
        · obtain ⟨s, e⟩ := oc n g4
          rw [if_pos (und_iff.mpr ⟨s, e⟩)]
        · have : O n = none := by
            cases e : O n with
            | none => rfl
            | some y => have := (v.o n (by rw [e]; simp)).1; omega
          rw [this]; rfl
      · rcases g4 with g4 | g4
        · obtain ⟨s, e⟩ := oc n g4; exact .inl (by rw [e]; simp)
        · exact .inr g4
  | exc c out =>
    rintro ⟨h', S', o', e, a, d'⟩
    dsimp only
    cases eu : updR ps r q out with
    | none => trivial
    | some ps' =>
      obtain ⟨wd, v'⟩ := fin a d' eu
      exact ⟨h', S', _, e, wd, v'⟩
  | stuck => exact fun _ => trivial
theorem Po1.after {α β : Type} {S S1 : Cel} {h h1 : Hq} {X : Xt} {O : Om} {ρ : Ev} {r : Res α} {z : R1 β} {w0 : α → β → Cel → Hq → Om → Prop} {K : α → β → Cel → Hq → Om → Prop} (a : Wx S S1 h h1) (p : Po1 A S1 h1 X O ρ r z w0) (k : ∀ w t S' h' O', w0 w t S' h' O' → K w t S' h' O') : Po1 A S h X O ρ r z K := by
  cases z with
  | ok t ps => obtain ⟨w, h', S', O', e, b, v, q⟩ := p; exact ⟨w, h', S', O', e, a.wd.trans b, v, k _ _ _ _ _ q⟩
  | exc c ps => obtain ⟨h', S', O', e, b, v⟩ := p; exact ⟨h', S', O', e, a.wd.trans b, v⟩
  | stuck => trivial
theorem Rs.base {S' : Cel} {h0 h h' : Hq} {X : Xt} {O O' : Om} {w : W} {t : T} (l : h0.length ≤ h.length) (f : Rs S' h h' X O O' w t) : Rs S' h0 h' X O O' w t := by
  obtain ⟨o, d, k⟩ := f
  exact ⟨o, d, fun n q => by obtain ⟨a, b, c, e, g⟩ := k n q; exact ⟨a, b, c, e, g.imp id fun y => Nat.le_trans l y⟩⟩
theorem j_m {k r : Nat} {F : MF} {P : PM} {m : MA} {p : P1a} (hr : r ∉ A) (f : JM k F P) (ja : JA1 A k r m p) : J1f A (eCB F m) (pM r P p) := fun S h X O ρ ps v => by
  have := ja S h X O ρ ps v
  unfold pM
  show Po1 A S h X O ρ ((m ρ h).bind fun xs h1 => F xs h1) _ _
  revert this
  cases p ps with
  | ok qt =>
    obtain ⟨q, ts⟩ := qt
    rintro ⟨ws, h1, S1, e, a1, s1, x, k1, k2, k3, k4, k5⟩
    rw [e]
    exact (call_m hr f (v.ext a1 s1) a1.len (fun n z => (v.o n z).1) (fun n z => (v.x n z).1) k1 k2 k3 k4 k5).after a1 fun _ _ _ _ _ g => g.base a1.len
  | exc c =>
    rintro ⟨h1, S1, e, a1, s1⟩
    rw [e]
    exact ⟨h1, S1, O, rfl, a1.wd, v.ext a1 s1⟩
  | stuck => exact fun _ => trivial
end
end ZP

namespace ZP
open PySem L2 Z
abbrev TbM := List (Str × PM)
inductive TbMR : Tb → TbM → Prop
  | nil : TbMR [] []
  | cons {c g P tb tp} : JM 0 g P → TbMR tb tp → TbMR ((c, g) :: tb) ((c, P) :: tp)
theorem TbMR.look {tb : Tb} {tp : TbM} (h : TbMR tb tp) {c : Str} {P : PM} (e : tp.lookup c = some P) : ∃ g, tb.lookup c = some g ∧ JM 0 g P := by
  induction h with
  | nil => cases e
  | cons j _ ih =>
    rename_i c' _ _ _ _ _
    rw [List.lookup, lk_beq] at e
    rw [List.lookup, lk_beq]
    by_cases q : c = c'
    · rw [decide_eq_true q] at e ⊢
      cases e
      exact ⟨_, rfl, j⟩
    · rw [decide_eq_false q] at e ⊢
      exact ih e
section
variable {A B B' : List Nat}
def pMM (m : Str) (r : Nat) (tp : TbM) (p : P0p) (qa : P0a) : P1 := fun ps => match p ps with
  | .ok q => (match atT ps r q with
    | some u => (match clsT m u with
      | some c => (match tp.lookup c with
        | some P => (match qa ps with
          | .ok ts => (match P (u :: ts) with
            | .ok t out => (match updR ps r q out with
              | some ps' => .ok t ps'
              | none => .stuck)
            | .exc c out => (match updR ps r q out with
              | some ps' => .exc c ps'
              | none => .stuck)
            | .stuck => .stuck)
          | .exc c => .exc c ps
          | .stuck => .stuck)
        | none => .stuck)
      | none => .stuck)
    | none => .stuck)
  | .exc c => .exc c ps
  | .stuck => .stuck
theorem AtP.rdb {S : Cel} {h : Hq} {X : Xt} {O : Om} {ρ : Ev} {ps : PEnv} {r : Nat} {x : W} {q : Pth} {u : T} (v : Inv A S h X O ρ ps) (k : AtP h ρ ps r x q) (e : atT ps r q = some u) : Rdb S h x u := by
  obtain ⟨u', e', d⟩ := k.tree v
  rw [e] at e'; cases e'
  refine ⟨_, d.root, fun n z => ?_⟩
  have : sl O r n ≠ none := fun y => z (by rw [y]; rfl)
  have := v.o n (sl_none this)
  exact ⟨this.1, this.2.1⟩
theorem eMet_go {m : Str} {tb : Tb} {o : ME} {ma : MA} {ρ : Ev} {h h1 : Hq} {n : Nat} {c : Str} {fs : List (Str × W)} {g : MF} (e : o ρ h = .ok (.ref n) h1) (q1 : asI h1 (.ref n) = some (n, c, fs)) (q2 : tb.lookup c = some g) (q3 : fs.lookup m = none) : eMet m tb o ma ρ h = (ma ρ h1).bind fun ws h2 => g (.ref n :: ws) h2 := by
  unfold eMet; rw [e]; simp only [bind_ok, q1, q2, q3]
theorem j_mm {m : Str} {r : Nat} {tb : Tb} {tp : TbM} {o : ME} {ma : MA} {p : P0p} {qa : P0a} (hr : r ∉ A) (hB : r ∉ B) (tr : TbMR tb tp) (j : JP A r o p) (ja : J0a A B ma qa) : J1f A (eMet m tb o ma) (pMM m r tp p qa) := fun S h X O ρ ps v => by
  have := j S h X O ρ ps v
  unfold pMM
  revert this
  cases p ps with
  | ok q =>
    rintro ⟨x, h1, S1, e, a1, s1, k1⟩
    have v1 := v.ext a1 s1
    dsimp only
    cases e1 : atT ps r q with
    | none => trivial
    | some u =>
      dsimp only
      cases e2 : clsT m u with
      | none => trivial
      | some c =>
        dsimp only
        cases e3 : tp.lookup c with
        | none => trivial
        | some P =>
          dsimp only
          obtain ⟨n, fs, rfl, q1, q2⟩ := cls_w (k1.rdb v1 e1) e2
          obtain ⟨g, q3, jg⟩ := tr.look e3
          have := ja S1 h1 X O ρ ps v1
          rw [eMet_go e q1 q3 q2]
          revert this
          cases qa ps with
          | ok ts =>
            rintro ⟨ws, h2, S2, e4, a2, s2, k2⟩
            rw [e4]
            dsimp only
            refine (call_m (k := 0) (ws := W.ref n :: ws) (ts := u :: ts) hr jg (v1.ext a2 s2) (a1.trans a2).len (fun n z => (v.o n z).1) (fun n z => (v.x n z).1) (k1.ext a2) rfl e1.symm (by simp [k2.length]) fun j w t hj hw ht => ?_).after (a1.trans a2) fun _ _ _ _ _ g => g.base (a1.trans a2).len
            cases j with
            | zero => exact absurd rfl hj
            | succ j => exact ⟨B, hB, (a2_all k2 j w t (by simpa using hw) (by simpa using ht)).base a1.len⟩
          | exc c =>
            rintro ⟨h2, S2, e4, a2, s2⟩
            rw [e4]
            exact ⟨h2, S2, O, rfl, (a1.trans a2).wd, v.ext (a1.trans a2) s2⟩
          | stuck => exact fun _ => trivial
  | exc c =>
    rintro ⟨h1, S1, e, a1, s1⟩
    exact ⟨h1, S1, O, by unfold eMet; rw [e]; rfl, a1.wd, v.ext a1 s1⟩
  | stuck => exact fun _ => trivial
def pBMM (s : String) (r : Nat) (P : PM) (p : P0p) (qa : P0a) : P1 := fun ps => match p ps with
  | .ok q => (match atT ps r q with
    | some u => if tyBT s u then (match qa ps with
          | .ok ts => (match P (u :: ts) with
            | .ok t out => (match updR ps r q out with
              | some ps' => .ok t ps'
              | none => .stuck)
            | .exc c out => (match updR ps r q out with
              | some ps' => .exc c ps'
              | none => .stuck)
            | .stuck => .stuck)
          | .exc c => .exc c ps
          | .stuck => .stuck) else .stuck
    | none => .stuck)
  | .exc c => .exc c ps
  | .stuck => .stuck
theorem j_bmm {s : String} {r : Nat} {F : MF} {P : PM} {o : ME} {ma : MA} {p : P0p} {qa : P0a} (hr : r ∉ A) (hB : r ∉ B) (f : JM 0 F P) (j : JP A r o p) (ja : J0a A B ma qa) : J1f A (eBM s F o ma) (pBMM s r P p qa) := fun S h X O ρ ps v => by
  have := j S h X O ρ ps v
  unfold pBMM
  show Po1 A S h X O ρ ((o ρ h).bind fun x h1 => if tyB s h1 x then (ma ρ h1).bind fun ws h2 => F (x :: ws) h2 else .stuck) _ _
  revert this
  cases p ps with
  | ok q =>
    rintro ⟨x, h1, S1, e, a1, s1, k1⟩
    rw [e]
    have v1 := v.ext a1 s1
    dsimp only
    cases e1 : atT ps r q with
    | none => trivial
    | some u =>
      dsimp only
      by_cases c : tyBT s u = true
      · rw [if_pos c]
        show Po1 A S h X O ρ (if tyB s h1 x then (ma ρ h1).bind fun ws h2 => F (x :: ws) h2 else .stuck) _ _
        rw [if_pos (tyB_w (k1.rdb v1 e1) c)]
        have := ja S1 h1 X O ρ ps v1
        revert this
        cases qa ps with
        | ok ts =>
          rintro ⟨ws, h2, S2, e4, a2, s2, k2⟩
          rw [e4]
          dsimp only
          refine (call_m (k := 0) (ws := x :: ws) (ts := u :: ts) hr f (v1.ext a2 s2) (a1.trans a2).len (fun n z => (v.o n z).1) (fun n z => (v.x n z).1) (k1.ext a2) rfl e1.symm (by simp [k2.length]) fun j w t hj hw ht => ?_).after (a1.trans a2) fun _ _ _ _ _ g => g.base (a1.trans a2).len
          cases j with
          | zero => exact absurd rfl hj
          | succ j => exact ⟨B, hB, (a2_all k2 j w t (by simpa using hw) (by simpa using ht)).base a1.len⟩
        | exc c =>
          rintro ⟨h2, S2, e4, a2, s2⟩
          rw [e4]
          exact ⟨h2, S2, O, rfl, (a1.trans a2).wd, v.ext (a1.trans a2) s2⟩
        | stuck => exact fun _ => trivial
      · rw [if_neg c]; trivial
  | exc c =>
    rintro ⟨h1, S1, e, a1, s1⟩
    rw [e]
    exact ⟨h1, S1, O, rfl, a1.wd, v.ext a1 s1⟩
  | stuck => exact fun _ => trivial
theorem Mw.set {S : Cel} {h : Hq} {o : Ow} {n : Nat} {ob : Ob} (s : Sb S h) (on : o n ≠ none) (ho : ∀ n, o n ≠ none → n < h.length ∧ S n = false) : Mw S S h (h.set n ob) o o where
  le := fun _ q => q
  new := fun _ q => .inl q
  fr := fun m hm q => List.getElem?_set_ne (fun z => by subst z; exact on q)
  len := by simp
  sb := fun m q => by simpa using s m q
  ob := fun m q => ⟨by simpa using (ho m q).1, (ho m q).2, .inl q⟩
theorem set_hh {S : Cel} {h : Hq} {n : Nat} {ob : Ob} (hs : S n = false) : ∀ m, S m = true → (h.set n ob)[m]? = h[m]? := fun m q => List.getElem?_set_ne (fun z => by subst z; rw [hs] at q; cases q)
theorem jm_l {F : MF} {g : List Zv → List T → Option (Zv × List Zv)} (k : ∀ S h n tg ws vs us ts y vs', Sb S h → S n = false → h[n]? = some (.lst tg ws) → A2 (DZ S h) ws vs → A2 (fun w t => ∃ o, D S h o [] w t) us ts → g vs ts = some (y, vs') →
    ∃ x ws', F (.ref n :: us) h = .ok x (h.set n (.lst tg ws')) ∧ A2 (DZ S h) ws' vs' ∧ DZ S h x y) : JM 0 F (fun ts => match ts with
  | .lst vs :: ts => (match g vs ts with
    | some (y, vs') => .ok (.z y) (.lst vs')
    | none => .stuck)
  | _ => .stuck) := fun S h X o ws ts wk tk s xb hw ht d ho hl args => by
  cases ts with
  | nil => simp at ht
  | cons t ts =>
    cases ws with
    | nil => simp at hw
    | cons w us =>
      simp at hw ht
      subst hw; subst ht
      cases t with
      | lst vs =>
        show PoM S h o w _ (match g vs ts with
          | some (y, vs') => Rf.ok (T.z y) (.lst vs')
          | none => .stuck)
        cases e : g vs ts with
        | none => trivial
        | some p =>
          obtain ⟨y, vs'⟩ := p
          obtain ⟨n, tg, ws, rfl, on, hn, m⟩ := D.lst_iff.mp d
          have on' : o n ≠ none := by rw [on]; simp
          have ma : A2 (fun w t => ∃ o, D S h o [] w t) us ts := A2.of_get (by simpa using hl) fun i a b ha hb => by
            obtain ⟨oj, d, _⟩ := args (i + 1) a b (by simp) (by simpa using ha) (by simpa using hb)
            exact ⟨oj, d⟩
          obtain ⟨x, ws', e1, m', dx⟩ := k S h n tg ws vs us ts y vs' s (ho n on').2.1 hn m ma e
          have hh := set_hh (h := h) (ob := .lst tg ws') (ho n on').2.1
          refine ⟨x, _, S, o, noO, e1, Mw.set s on' (fun n q => ⟨(ho n q).1, (ho n q).2.1⟩), D.lst_iff.mpr ⟨n, tg, ws', rfl, on, List.getElem?_set_self (ho n on').1, m'.imp fun _ _ _ _ d => d.mono (fun _ q => q) hh⟩, D.z (dx.mono (fun _ q => q) hh), fun n z => absurd rfl z⟩
      | _ => trivial
theorem atM_ref {h : Hq} {n tg : Nat} {ws : List W} (e : h[n]? = some (.lst tg ws)) : atM h (.ref n) = some (n, tg, ws) := by unfold atM; simp only [e]
def appT : PM := fun ts => match ts with
  | .lst vs :: ts => (match (match ts with
      | [.z v] => if vs.length < sizeLine then some (Zv.non, vs ++ [v]) else none
      | _ => none) with
    | some (y, vs') => .ok (.z y) (.lst vs')
    | none => .stuck)
  | _ => .stuck
theorem jm_app : JM 0 appW appT := jm_l (g := fun vs ts => match ts with
      | [.z v] => if vs.length < sizeLine then some (Zv.non, vs ++ [v]) else none
      | _ => none) fun S h n tg ws vs us ts y vs' s hs hn m ma e => by
  split at e
  · rename_i v
    cases ma with
    | cons r ma =>
      cases ma
      obtain ⟨o, d⟩ := r
      split at e
      · rename_i c
        cases e
        refine ⟨.non, ws ++ [_], ?_, m.append (.cons (D.z_iff.mp d) .nil), dz_non⟩
        unfold appW
        simp only [atM_ref hn, m.length, if_pos c]
      · cases e
  · cases e
def pMake (c : Str) (P : PM) : PF := fun ts => match P (.ins c [] :: ts) with
  | .ok (.z .non) out => .ok out
  | .exc c _ => .exc c
  | _ => .stuck
theorem jf_make {c : Str} {g : MF} {P : PM} (j : JM 0 g P) : JF (makeW c g) (pMake c P) := fun S h ws ts s m => by
  have hn : (h ++ [Ob.ins c []])[h.length]? = some (.ins c []) := by simp
  have sl' : S h.length = false := by
    cases e : S h.length with
    | false => rfl
    | true => have := s _ e; omega
  have s' : Sb S (h ++ [Ob.ins c []]) := fun n q => by have := s n q; simp; omega
  have := j S (h ++ [.ins c []]) (fun n => decide (n < h.length) && !S n) (fun n => if n = h.length then some [] else none) (.ref h.length :: ws) (.ins c [] :: ts) (.ref h.length) (.ins c []) s' (fun n z => by simp at z; simp [z.2]; omega) rfl rfl
    (D.ins_iff.mpr ⟨h.length, [], rfl, by simp, hn, rfl, fun i x u hx => by simp at hx⟩) (fun n z => by
      by_cases e : n = h.length
      · subst e; simp [sl']
      · simp [e] at z) (by simp [m.length]) (fun j w t hj hw ht => by
      cases j with
      | zero => exact absurd rfl hj
      | succ j =>
        obtain ⟨o, d, k⟩ := a2_all m j w t (by simpa using hw) (by simpa using ht)
        refine ⟨o, d.ext Wx.app s fun n q => (k n q).1, fun n z => by have := k n z; simp [this.1, this.2]⟩)
  show Po S h ((g (.ref h.length :: ws) (h ++ [.ins c []])).bind fun r h2 => match r with
  | .non => Res.ok (W.ref h.length) h2
  | _ => .stuck) (match P (.ins c [] :: ts) with
  | .ok (.z .non) out => .ok out
  | .exc c _ => .exc c
  | _ => .stuck) _
  have wx : ∀ {S' : Cel} {h' : Hq} {o' : Ow}, Mw S S' (h ++ [Ob.ins c []]) h' (fun n => if n = h.length then some [] else none) o' → Wx S S' h h' := fun a =>
    ⟨a.le, fun n q => by
      rcases a.new n q with z | z | z
      · exact .inl z
      · refine .inr ?_
        by_cases e : n = h.length
        · omega
        · simp [e] at z
      · exact .inr (by simp at z; omega), fun n hn => by
      rw [a.fr n (by simp; omega) (if_neg (by omega)), List.getElem?_append_left hn], by have := a.len; simp at this; omega⟩
  revert this
  cases P (.ins c [] :: ts) with
  | ok t out =>
    rintro ⟨w, h', S', o', oo, e, a, d', d2, g⟩
    rw [e]
    cases t with
    | z t =>
      cases t with
      | non =>
        cases dz_non_iff.mp (D.z_iff.mp d2)
        refine ⟨_, h', S', rfl, wx a, a.sb, o', d', fun n z => ?_⟩
        obtain ⟨g1, g2, g3⟩ := a.ob n z
        refine ⟨?_, g1, g2⟩
        rcases g3 with g3 | g3
        · by_cases e : n = h.length
          · omega
          · simp [e] at g3
        · simp at g3; omega
      | _ => trivial
    | _ => trivial
  | exc c out =>
    rintro ⟨h', S', o', e, a, d'⟩
    rw [e]
    exact ⟨h', S', rfl, wx a, a.sb⟩
  | stuck => exact fun _ => trivial
def pMv (i : Nat) : P1 := fun ps => match ps[i]? with
  | some (some (.own t)) => .ok t (ps.set i none)
  | _ => .stuck
theorem j_mv {i : Nat} (hi : i ∉ A) : J1f A (eV i) (pMv i) := fun S h X O ρ ps v => by
  unfold pMv
  split
  · rename_i t e
    obtain ⟨w, hw, d⟩ := v.en i _ e
    have hw' : eV i ρ h = .ok w h := by unfold eV; rw [hw]
    refine ⟨w, h, S, fun n => match O n with
      | some (j, s) => if j = i then none else some (j, s)
      | none => none, hw', ⟨fun _ q => q, fun _ q => .inl q, fun _ _ _ => rfl, Nat.le_refl _, fun n q => ?_⟩, ⟨⟨v.s, v.x, fun n q => ?_⟩, by simp [v.len], fun j en ej => ?_⟩, sl O i, d, fun n q => ?_⟩
    · cases e : O n with
      | none => rw [e] at q; exact absurd rfl q
      | some y => exact .inl (by simp)
    · cases e : O n with
      | none => rw [e] at q; exact absurd rfl q
      | some y => exact v.o n (by rw [e]; simp)
    · by_cases c : i = j
      · subst c
        have hl : i < ps.length := lt_of_get e
        rw [List.getElem?_set_self hl] at ej; cases ej
      · rw [List.getElem?_set_ne c] at ej
        have := v.en j en ej
        have other : ∀ w t, D S h (sl O j) [] w t → D S h (sl (fun n => match O n with
            | some (j, s) => if j = i then none else some (j, s)
            | none => none) j) [] w t := fun w t d => d.move (fun _ z => z) (fun _ _ => rfl) fun n s e => by
          have e2 : O n = some (j, s) := sl_some.mp e
          refine ⟨sl_some.mpr ?_, rfl⟩
          rw [e2]; simp [Ne.symm c]
        cases en with
        | own t => obtain ⟨w, hw, d⟩ := this; exact ⟨w, hw, other w t d⟩
        | par t => obtain ⟨w, hw, d⟩ := this; exact ⟨w, hw, other w t d⟩
        | ext t => exact this
        | als r p =>
          obtain ⟨ha, w, wr, t0, t1, h1, h2, h3, h4, h5⟩ := this
          have n : r ≠ i := fun z => hi (z ▸ ha)
          exact ⟨ha, w, wr, t0, t1, h1, h2, h3, by rw [rootT_set n]; exact h4, h5⟩
    · have := v.o n (sl_none q)
      refine ⟨this.1, this.2.1, this.2.2, ?_, .inl (sl_none q)⟩
      cases e : sl O i n with
      | none => exact absurd e q
      | some p => dsimp only; rw [sl_some.mp e]; simp
  · trivial
def pFv (i : Nat) : P1 := fun ps => match ps[i]? with
  | some (some (.own t)) => .ok (.z t.toZ) (ps.set i (some (.own (.z t.toZ))))
  | _ => .stuck
end
end ZP

namespace ZP
open PySem L2 Z
section
variable {A B B' : List Nat}
theorem attach {S S2 : Cel} {h h2 : Hq} {X : Xt} {O O1 : Om} {ρ : Ev} {ps1 ps2 : PEnv} {r n i : Nat} {q : Pth} {y : W} {tv u' : T} {ob : Ob} (hr : r ∉ A) (wd : Wd S S2 h h2 O O1) (v2 : Inv A S2 h2 X O1 ρ ps1) (k : AtP h2 ρ ps1 r (.ref n) q) (eu : updR ps1 r q u' = some ps2)
    (on : sl O1 r n = some q) (rs : Rs S2 h h2 X O O1 y tv)
    (hD : ∀ o1 : Ow, o1 n = some [] → D S2 (h2.set n ob) o1 [i] y tv → (∀ (j : Nat) (xw : W) (xt : T), j ≠ i → D S2 h2 (sl O1 r) (q ++ [j]) xw xt → D S2 (h2.set n ob) o1 [j] xw xt) → D S2 (h2.set n ob) o1 [] (.ref n) u') :
    ∃ O3, Wd S S2 h (h2.set n ob) O O3 ∧ Inv A S2 (h2.set n ob) X O3 ρ ps2 := by
  obtain ⟨w0, t0, u, b1, b2, b3, b4⟩ := k
  obtain ⟨ov, dv, kv⟩ := rs
  have on' : O1 n = some (r, q) := sl_some.mp on
  have nb := v2.o n (by rw [on']; simp)
  have ne : ∀ m, ov m ≠ none → m ≠ n := fun m z e => by
    subst e
    have := (kv m z).2.2.2.1
    rw [on'] at this; cases this
  have hset : ∀ m, m ≠ n → (h2.set n ob)[m]? = h2[m]? := fun m z => List.getElem?_set_ne (Ne.symm z)
  have hh := set_hh (h := h2) (ob := ob) nb.2.1
  have vo : ∀ m, O1 m ≠ none → ov m = none := fun m z => by
    cases e : ov m with
    | none => rfl
    | some s => exact absurd (kv m (by rw [e]; simp)).2.2.2.1 z
  let o1 : Ow := fun m => match ov m with
    | some s => some (i :: s)
    | none => (match (sl O1 r m).bind (cut0 q) with
      | some (j :: s) => if j = i then none else some (j :: s)
      | e => e)
  have d' : D S2 (h2.set n ob) o1 [] (.ref n) u' := by
    refine hD o1 ?_ ?_ ?_
    · show (match ov n with
      | some s => some (i :: s)
      | none => (match (sl O1 r n).bind (cut0 q) with
        | some (j :: s) => if j = i then none else some (j :: s)
        | e => e)) = some []
      rw [vo n (by rw [on']; simp), on, Option.bind_some, cut0_some.mpr (show q = q ++ [] by simp)]
    · refine dv.move (fun _ z => z) hh fun m s e => ⟨?_, hset m (ne m (by rw [e]; simp))⟩
      show (match ov m with
      | some s => some (i :: s)
      | none => (match (sl O1 r m).bind (cut0 q) with
        | some (j :: s) => if j = i then none else some (j :: s)
        | e => e)) = some ([i] ++ s)
      rw [show ov m = some s from e]; rfl
    · intro j xw xt hj dj
      refine dj.move (fun _ z => z) hh fun m s e => ⟨?_, hset m fun z => ?_⟩
      · show (match ov m with
        | some s => some (i :: s)
        | none => (match (sl O1 r m).bind (cut0 q) with
          | some (j :: s) => if j = i then none else some (j :: s)
          | e => e)) = some ([j] ++ s)
        rw [vo m (sl_none (by rw [e]; simp)), e, Option.bind_some, cut0_some.mpr (show q ++ [j] ++ s = q ++ (j :: s) by simp)]
        simp [hj]
      · subst z
        rw [on] at e
        have := congrArg List.length (Option.some.inj e)
        simp at this
  have und' : ∀ m, (sl O1 r m).bind (cut0 q) ≠ none → ∃ s, O1 m = some (r, q ++ s) := fun m z => by
    cases e : (sl O1 r m).bind (cut0 q) with
    | none => exact absurd e z
    | some s =>
      obtain ⟨s', e2, e3⟩ := Option.bind_eq_some_iff.mp e
      exact ⟨s, by rw [← cut0_some.mp e3]; exact sl_some.mp e2⟩
  obtain ⟨g1, g2⟩ := v2.updT (Tm := fun m => O m ≠ none ∨ h.length ≤ m) hr b2 b1 b3 b4 eu (fun _ z => z) (fun _ z => .inl z) (fun m hm z => hset m fun e => by subst e; exact z [] (by simpa using on')) (by simp) (fun m z => by simpa using v2.s m z) d' (fun m z => by
    cases e : ov m with
    | some s =>
      obtain ⟨c1, c2, c3, c4, c5⟩ := kv m (by rw [e]; simp)
      exact ⟨by simpa using c1, c2, .inr (.inr ⟨c5, c4, c3⟩)⟩
    | none =>
      have e2 : (sl O1 r m).bind (cut0 q) ≠ none := fun e3 => z (by
        show (match ov m with
        | some s => some (i :: s)
        | none => (match (sl O1 r m).bind (cut0 q) with
          | some (j :: s) => if j = i then none else some (j :: s)
          | e => e)) = none
        rw [e, e3])
      obtain ⟨s, e4⟩ := und' m e2
      have := v2.o m (by rw [e4]; simp)
      exact ⟨by simpa using this.1, this.2.1, .inl ⟨s, e4⟩⟩)
  refine ⟨_, ⟨wd.le, wd.new, fun m hm z => ?_, by simpa using wd.len, fun m z => ?_⟩, g2⟩
  · rw [hset m fun e => ?_]
    · exact wd.fr m hm z
    · subst e
      rcases wd.own m (by rw [on']; simp) with y | y
      · exact y z
      · omega
  · rcases g1 m z with y | y | y
    · exact wd.own m y
    · exact .inr (Nat.le_trans wd.len y)
    · exact y
def putT (f : Str) (v : T) : List (Str × T) → List (Str × T)
  | [] => [(f, v)]
  | (g, x) :: r => if g = f then (g, v) :: r else (g, x) :: putT f v r
def ixP (f : Str) : List (Str × T) → Nat
  | [] => 0
  | (g, _) :: r => if g = f then 0 else ixP f r + 1
theorem put_ix {f : Str} {y : W} {tv : T} : ∀ {fs : List (Str × T)} {ws : List (Str × W)}, ws.map Prod.fst = fs.map Prod.fst → (putW f y ws).map Prod.fst = (putT f tv fs).map Prod.fst ∧ ∀ (j : Nat) (xw : Str × W) (xt : Str × T), (putW f y ws)[j]? = some xw → (putT f tv fs)[j]? = some xt → (j = ixP f fs ∧ xw.2 = y ∧ xt.2 = tv) ∨ (j ≠ ixP f fs ∧ ws[j]? = some xw ∧ fs[j]? = some xt)
  | [], [], _ => ⟨rfl, fun j xw xt hw ht => by
    cases j with
    | zero => simp [putW, putT] at hw ht; subst hw; subst ht; exact .inl ⟨rfl, rfl, rfl⟩
    | succ j => simp [putW] at hw⟩
  | [], _ :: _, e => by simp at e
  | _ :: _, [], e => by simp at e
  | (g, x) :: fs, (g', w) :: ws, e => by
    simp at e
    obtain ⟨rfl, e⟩ := e
    unfold putW putT ixP
    by_cases c : g' = f
    · subst c
      simp only [if_pos]
      refine ⟨by simp [e], fun j xw xt hw ht => ?_⟩
      cases j with
      | zero => simp at hw ht; subst hw; subst ht; exact .inl ⟨rfl, rfl, rfl⟩
      | succ j => exact .inr ⟨by omega, by simpa using hw, by simpa using ht⟩
    · simp only [if_neg c]
      obtain ⟨i1, i2⟩ := put_ix (f := f) (y := y) (tv := tv) e
      refine ⟨by simp [i1], fun j xw xt hw ht => ?_⟩
      cases j with
      | zero => simp at hw ht; subst hw; subst ht; exact .inr ⟨by omega, rfl, rfl⟩
      | succ j =>
        rcases i2 j xw xt (by simpa using hw) (by simpa using ht) with ⟨a, b, c⟩ | ⟨a, b, c⟩
        · exact .inl ⟨by omega, b, c⟩
        · exact .inr ⟨by omega, by simpa using b, by simpa using c⟩
def pFS (f : Str) (r : Nat) (po : P0p) (pe : P1) : PS := fun ps => (pe ps).toP fun tv ps1 => match po ps1 with
  | .ok q => (match atT ps1 r q with
    | some (.ins c fs) => if (fieldsOf c).contains f && decide (fs.length < 1000) then (match updR ps1 r q (.ins c (putT f tv fs)) with
      | some ps2 => .ok .nx ps2
      | none => .stuck) else .stuck
    | _ => .stuck)
  | .exc c => .exc c ps1
  | .stuck => .stuck
theorem js_fld {f : Str} {r : Nat} {o e : ME} {po : P0p} {pe : P1} (hr : r ∉ A) (jo : JP A r o po) (je : J1f A e pe) : JS A (Z.sFld f o e) (pFS f r po pe) := fun S h X O ρ ps v => by
  have hje := je S h X O ρ ps v
  unfold Z.sFld pFS
  revert hje
  cases pe ps with
  | exc c ps1 =>
    rintro ⟨h1, S1, O1, e1, a1, v1⟩
    rw [e1]
    exact ⟨ρ, h1, S1, O1, rfl, a1, v1⟩
  | stuck => exact fun _ => trivial
  | ok tv ps1 =>
    rintro ⟨y, h1, S1, O1, e1, a1, v1, rs⟩
    rw [e1]
    show PoS A S h X O ((o ρ h1).toS ρ fun x h2 => match setW f x y h2 with
      | some h3 => .ok .nx ρ h3
      | none => .stuck) (match po ps1 with
      | .ok q => (match atT ps1 r q with
        | some (.ins c fs) => if (fieldsOf c).contains f && decide (fs.length < 1000) then (match updR ps1 r q (.ins c (putT f tv fs)) with
          | some ps2 => Rp.ok .nx ps2
          | none => .stuck) else .stuck
        | _ => .stuck)
      | .exc c => .exc c ps1
      | .stuck => .stuck)
    have hjo := jo S1 h1 X O1 ρ ps1 v1
    revert hjo
    cases po ps1 with
    | exc c =>
      rintro ⟨h2, S2, e2, a2, s2⟩
      rw [e2]
      exact ⟨ρ, h2, S2, O1, rfl, a1.trans a2.wd, v1.ext a2 s2⟩
    | stuck => exact fun _ => trivial
    | ok q =>
      rintro ⟨x, h2, S2, e2, a2, s2, k⟩
      rw [e2]
      have v2 := v1.ext a2 s2
      have rs2 := rs.keep a2.wd v1.s fun n z => v1.sO z
      obtain ⟨u, e3, d⟩ := k.tree v2
      dsimp only
      rw [e3]
      cases u with
      | ins c fs =>
        dsimp only
        by_cases kf : ((fieldsOf c).contains f && decide (fs.length < 1000)) = true
        · rw [if_pos kf]
          cases eu : updR ps1 r q (.ins c (putT f tv fs)) with
          | none => trivial
          | some ps2 =>
            obtain ⟨n, ws, rfl, on, hn, hl, ch⟩ := D.ins_iff.mp d
            have hlen : ws.length = fs.length := by simpa using congrArg List.length hl
            have es : setW f (.ref n) y h2 = some (h2.set n (.ins c (putW f y ws))) := by
              unfold setW
              rw [asI_ref hn]
              dsimp only
              rw [hlen, if_pos kf]
            obtain ⟨p1, p2⟩ := put_ix (f := f) (y := y) (tv := tv) hl
            obtain ⟨O3, w3, v3⟩ := attach (i := ixP f fs) (ob := .ins c (putW f y ws)) hr (a1.trans a2.wd) v2 k eu on rs2 fun o1 h5 h6 h7 => D.ins_iff.mpr ⟨n, _, rfl, h5, List.getElem?_set_self (lt_of_get hn), p1, fun j xw xt hw ht => by
              rcases p2 j xw xt hw ht with ⟨b1, b2, b3⟩ | ⟨b1, b2, b3⟩
              · rw [b1, b2, b3]; exact h6
              · exact h7 j _ _ b1 (ch j xw xt b2 b3)⟩
            show PoS A S h X O (match setW f (.ref n) y h2 with
              | some h3 => .ok .nx ρ h3
              | none => .stuck) (Rp.ok .nx ps2)
            rw [es]
            exact ⟨.nx, ρ, _, S2, O3, rfl, w3, v3, trivial⟩
        · rw [if_neg kf]; trivial
      | _ => trivial
def putP (r : Nat) (q : Pth) (ti tv : T) (ps : PEnv) : Rp := match atT ps r q, ti, tv with
  | some (.lst vs), .z (.int j), .z v => (match ixN vs.length j with
    | some m => (match updR ps r q (.lst (vs.set m v)) with
      | some ps3 => .ok .nx ps3
      | none => .stuck)
    | none => .stuck)
  | _, _, _ => .stuck
def Rz.toP {α : Type} (r : Rz α) (ps : PEnv) (f : α → Rp) : Rp := match r with
  | .ok a => f a
  | .exc c => .exc c ps
  | .stuck => .stuck
def pPut (r : Nat) (po : P0p) (pi pe : P0) : PS := fun ps => (pe ps).toP ps fun tv => (po ps).toP ps fun q => (pi ps).toP ps fun ti => putP r q ti tv ps
theorem Po.toS {α β : Type} {S : Cel} {h : Hq} {X : Xt} {O : Om} {ρ : Ev} {ps : PEnv} {r : Res α} {z : Rz β} {K : α → β → Cel → Hq → Prop} {f : α → Hq → RS} {g : β → Rp} (v : Inv A S h X O ρ ps) (a : Po S h r z K)
    (b : ∀ w t S' h', Wx S S' h h' → Inv A S' h' X O ρ ps → K w t S' h' → PoS A S' h' X O (f w h') (g t)) : PoS A S h X O (r.toS ρ f) (z.toP ps g) := by
  cases z with
  | ok t =>
    obtain ⟨w, h1, S1, rfl, a1, s1, k⟩ := a
    exact (b w t S1 h1 a1 (v.ext a1 s1) k).up a1.wd
  | exc c =>
    obtain ⟨h1, S1, rfl, a1, s1⟩ := a
    exact ⟨ρ, h1, S1, O, rfl, a1.wd, v.ext a1 s1⟩
  | stuck => trivial
theorem write_flat {S : Cel} {h : Hq} {X : Xt} {O : Om} {ρ : Ev} {ps ps2 : PEnv} {r n : Nat} {q : Pth} {u' : T} {ob : Ob} (hr : r ∉ A) (v : Inv A S h X O ρ ps) (k : AtP h ρ ps r (.ref n) q) (eu : updR ps r q u' = some ps2)
    (on : sl O r n = some q) (hD : ∀ o1 : Ow, o1 n = some [] → D S (h.set n ob) o1 [] (.ref n) u') : ∃ O3, Wd S S h (h.set n ob) O O3 ∧ Inv A S (h.set n ob) X O3 ρ ps2 := by
  obtain ⟨w0, t0, u, b1, b2, b3, b4⟩ := k
  have on' : O n = some (r, q) := sl_some.mp on
  have nb := v.o n (by rw [on']; simp)
  have hset : ∀ m, m ≠ n → (h.set n ob)[m]? = h[m]? := fun m z => List.getElem?_set_ne (Ne.symm z)
  exact ⟨_, v.upd hr b2 b1 b3 b4 eu (fun _ z => z) (fun _ z => .inl z) (fun m hm z => hset m fun e => by subst e; exact z [] (by simpa using on')) (by simp) (fun m z => by simpa using v.s m z) (hD (fun m => if m = n then some [] else none) (by simp)) fun m z => by
    by_cases e : m = n
    · subst e; exact ⟨by simpa using nb.1, nb.2.1, .inl ⟨[], by simpa using on'⟩⟩
    · simp [e] at z⟩
theorem js_put {r : Nat} {o i e : ME} {po : P0p} {pi pe : P0} (hr : r ∉ A) (jo : JP A r o po) (ji : J0b A B i pi) (je : J0b A B' e pe) : JS A (sPut o i e) (pPut r po pi pe) := fun S h X O ρ ps v =>
  (je S h X O ρ ps v).toS v fun y tv S1 h1 a1 v1 ky => (jo S1 h1 X O ρ ps v1).toS v1 fun x q S2 h2 a2 v2 k => (ji S2 h2 X O ρ ps v2).toS v2 fun z ti S3 h3 a3 v3 kz => by
    have k3 := k.ext a3
    obtain ⟨u, e4, d⟩ := k3.tree v3
    unfold putP
    rw [e4]
    cases u with
    | lst vs =>
      cases ti with
      | z ti =>
        cases ti with
        | int j =>
          cases tv with
          | z tv =>
            cases dz_int_iff.mp kz.z
            dsimp only
            cases e5 : ixN vs.length j with
            | none => trivial
            | some m =>
              dsimp only
              cases eu : updR ps r q (.lst (vs.set m tv)) with
              | none => trivial
              | some ps3 =>
                obtain ⟨n, tg, ws, rfl, on, hn, ch⟩ := D.lst_iff.mp d
                have dy := ky.z.ext (a2.trans a3) v1.s
                have nS := (v3.o n (sl_none (by rw [on]; simp))).2.1
                have es : putIx (.ref n) (.int j) y h3 = some (h3.set n (.lst tg (ws.set m y))) := by
                  unfold putIx
                  simp only [atM_ref hn, ch.length, e5]
                obtain ⟨O3, w3, v4⟩ := write_flat (ob := .lst tg (ws.set m y)) hr v3 k3 eu on fun o1 h5 => D.lst_iff.mpr ⟨n, tg, _, rfl, h5, List.getElem?_set_self (lt_of_get hn), (ch.set dy m).imp fun _ _ _ _ d => d.mono (fun _ q => q) (set_hh nS)⟩
                rw [es]
                exact ⟨.nx, ρ, _, S3, O3, rfl, w3, v4, trivial⟩
          | _ => trivial
        | _ => trivial
      | _ => trivial
    | _ => trivial
end
end ZP

namespace ZP
open PySem L2 Z
section
variable {A : List Nat} {i : Nat}
def JU (i : Nat) (m : Nat → Str → ME) (p : Str → Rz Zv) : Prop := ∀ c (S : Cel) (h : Hq) (ρ : Ev), i < ρ.length → match p c with
  | .ok v => ∃ w, (∀ a, m a c (ρ.set i (some (.exn a c))) h = .ok w h) ∧ DZ S h w v
  | .exc _ => False
  | .stuck => True
def uC (v : Zv) : Str → Rz Zv := fun _ => .ok v
theorem ju_c {w : W} {v : Zv} (k : ∀ S h, DZ S h w v) : JU i (fun _ _ => eC w) (uC v) := fun c S h ρ _ => ⟨w, fun _ => rfl, k S h⟩
def uIs (tb : TbB) : Str → Rz Zv := fun c => match tb.lookup c with
  | some b => .ok (.bl b)
  | none => .stuck
theorem ju_is {tb : TbB} : JU i (fun a c => isE a c tb (eV i)) (uIs tb) := fun c S h ρ hi => by
  unfold uIs
  cases e : tb.lookup c with
  | none => trivial
  | some b =>
    refine ⟨.bl b, fun a => ?_, dz_bl⟩
    unfold isE eV
    dsimp only
    rw [List.getElem?_set_self hi]
    simp only [bind_ok, and_self, if_true, e]
def uAnd (p q : Str → Rz Zv) : Str → Rz Zv := fun c => match p c with
  | .ok (.bl true) => q c
  | .ok (.bl false) => .ok (.bl false)
  | _ => .stuck
theorem ju_and {m n : Nat → Str → ME} {p q : Str → Rz Zv} (jm : JU i m p) (jn : JU i n q) : JU i (fun a c => eAnd (m a c) (n a c)) (uAnd p q) := fun c S h ρ hi => by
  have h1 := jm c S h ρ hi
  have h2 := jn c S h ρ hi
  unfold uAnd
  revert h1
  cases p c with
  | ok v =>
    rintro ⟨w, e, d⟩
    cases v with
    | bl b =>
      cases dz_bl_iff.mp d
      cases b with
      | true =>
        dsimp only
        revert h2
        cases q c with
        | ok v => rintro ⟨w2, e2, d2⟩; exact ⟨w2, fun a => by unfold eAnd; (try dsimp only); rw [e a]; exact e2 a, d2⟩
        | exc _ => exact fun z => z.elim
        | stuck => exact fun _ => trivial
      | false => exact ⟨.bl false, fun a => by unfold eAnd; (try dsimp only); rw [e a]; rfl, dz_bl⟩
    | _ => trivial
  | exc _ => exact fun z => z.elim
  | stuck => exact fun _ => trivial
def uNot (p : Str → Rz Zv) : Str → Rz Zv := fun c => match p c with
  | .ok (.bl b) => .ok (.bl (!b))
  | _ => .stuck
theorem ju_not {m : Nat → Str → ME} {p : Str → Rz Zv} (jm : JU i m p) : JU i (fun a c => eNot (m a c)) (uNot p) := fun c S h ρ hi => by
  have h1 := jm c S h ρ hi
  unfold uNot
  revert h1
  cases p c with
  | ok v =>
    rintro ⟨w, e, d⟩
    cases v with
    | bl b => cases dz_bl_iff.mp d; exact ⟨_, fun a => by unfold eNot; (try dsimp only); rw [e a]; rfl, dz_bl⟩
    | _ => trivial
  | exc _ => exact fun z => z.elim
  | stuck => exact fun _ => trivial
def JUa (i : Nat) (m : Nat → Str → MA) (p : Str → Rz (List Zv)) : Prop := ∀ c (S : Cel) (h : Hq) (ρ : Ev), i < ρ.length → match p c with
  | .ok vs => ∃ ws, (∀ a, m a c (ρ.set i (some (.exn a c))) h = .ok ws h) ∧ A2 (DZ S h) ws vs
  | .exc _ => False
  | .stuck => True
def uNil : Str → Rz (List Zv) := fun _ => .ok []
theorem jua_nil : JUa i (fun _ _ => aNil) uNil := fun c S h ρ _ => ⟨[], fun _ => rfl, .nil⟩
def uCons (p : Str → Rz Zv) (q : Str → Rz (List Zv)) : Str → Rz (List Zv) := fun c => match p c, q c with
  | .ok v, .ok vs => .ok (v :: vs)
  | _, _ => .stuck
theorem jua_cons {m : Nat → Str → ME} {n : Nat → Str → MA} {p : Str → Rz Zv} {q : Str → Rz (List Zv)} (jm : JU i m p) (jn : JUa i n q) : JUa i (fun a c => aCons (m a c) (n a c)) (uCons p q) := fun c S h ρ hi => by
  have h1 := jm c S h ρ hi
  have h2 := jn c S h ρ hi
  unfold uCons
  revert h1 h2
  cases p c with
  | ok v =>
    cases q c with
    | ok vs =>
      rintro ⟨w, e, d⟩ ⟨ws, e2, d2⟩
      exact ⟨w :: ws, fun a => by unfold aCons; (try dsimp only); rw [e a]; show (n a c _ h).bind _ = _; rw [e2 a]; rfl, .cons d d2⟩
    | exc _ => exact fun _ z => z.elim
    | stuck => exact fun _ _ => trivial
  | exc _ => exact fun z => z.elim
  | stuck => exact fun _ _ => trivial
def uTup (q : Str → Rz (List Zv)) : Str → Rz Zv := fun c => (q c).map Zv.tup
theorem ju_tup {n : Nat → Str → MA} {q : Str → Rz (List Zv)} (jn : JUa i n q) : JU i (fun a c => eTup (n a c)) (uTup q) := fun c S h ρ hi => by
  have h2 := jn c S h ρ hi
  unfold uTup
  revert h2
  cases q c with
  | ok vs => rintro ⟨ws, e2, d2⟩; exact ⟨.tup ws, fun a => by unfold eTup; (try dsimp only); rw [e2 a]; rfl, dz_tup d2⟩
  | exc _ => exact fun z => z.elim
  | stuck => exact fun _ => trivial
def JUs (i : Nat) (m : Nat → Str → MS) (p : Str → Rz (Option Zv)) : Prop := ∀ c (S : Cel) (h : Hq) (ρ : Ev), i < ρ.length → match p c with
  | .ok (some v) => ∃ w, (∀ a, m a c (ρ.set i (some (.exn a c))) h = .ok (.rt w) (ρ.set i (some (.exn a c))) h) ∧ DZ S h w v
  | .ok none => ∀ a, m a c (ρ.set i (some (.exn a c))) h = .ok .nx (ρ.set i (some (.exn a c))) h
  | .exc _ => False
  | .stuck => True
def uRet (p : Str → Rz Zv) : Str → Rz (Option Zv) := fun c => (p c).map some
theorem jus_ret {m : Nat → Str → ME} {p : Str → Rz Zv} (jm : JU i m p) : JUs i (fun a c => sRet (m a c)) (uRet p) := fun c S h ρ hi => by
  have h1 := jm c S h ρ hi
  unfold uRet
  revert h1
  cases p c with
  | ok v => rintro ⟨w, e, d⟩; exact ⟨w, fun a => by unfold sRet; (try dsimp only); rw [e a]; rfl, d⟩
  | exc _ => exact fun z => z.elim
  | stuck => exact fun _ => trivial
def pTry (i : Nat) (b : PS) (mt : TbB) (s : Str → Rz (Option Zv)) : PS := fun ps => match b ps with
  | .exc c ps1 => if i < ps1.length then (match mt.lookup c with
    | some true => (match s c with
      | .ok (some v) => .ok (.rt (.z v)) (ps1.set i none)
      | .ok none => .ok .nx (ps1.set i none)
      | _ => .stuck)
    | some false => .exc c ps1
    | none => .stuck) else .stuck
  | r => r
theorem js_try {b : MS} {mt : TbB} {s : Nat → Str → MS} {pb : PS} {us : Str → Rz (Option Zv)} (hi : i ∉ A) (jb : JS A b pb) (js : JUs i s us) : JS A (sTryAs i b mt s) (pTry i pb mt us) := fun S h X O ρ ps v => by
  have hb := jb S h X O ρ ps v
  unfold pTry
  revert hb
  cases pb ps with
  | ok f ps1 =>
    rintro ⟨fl, ρ1, h1, S1, O1, e, a1, v1, k⟩
    rw [sTryAs_ok e]
    exact ⟨fl, ρ1, h1, S1, O1, rfl, a1, v1, k⟩
  | stuck => exact fun _ => trivial
  | exc c ps1 =>
    rintro ⟨ρ1, h1, S1, O1, e, a1, v1⟩
    dsimp only
    by_cases hL : i < ps1.length
    rotate_left
    · rw [if_neg hL]; trivial
    rw [if_pos hL]
    have hlt : i < ρ1.length := by rw [v1.len]; exact hL
    cases em : mt.lookup c with
    | none => trivial
    | some bb =>
      cases bb with
      | false =>
        refine ⟨ρ1, h1, S1, O1, ?_, a1, v1⟩
        unfold sTryAs; rw [e]; simp only [em]
      | true =>
        dsimp only
        have hs := js c S1 h1 ρ1 hlt
        have v2 := v1.unset (e0 := none) hi
        revert hs
        cases us c with
        | ok o =>
          cases o with
          | some u =>
            rintro ⟨w, e2, d⟩
            refine ⟨.rt w, ρ1.set i none, h1, S1, O1, sTryAs_exc e em fun a => ?_, a1, v2, noO, D.z d, fun n q => absurd rfl q⟩
            rw [e2 a]; simp only [RS.drop, List.set_set]
          | none =>
            intro e2
            refine ⟨.nx, ρ1.set i none, h1, S1, O1, sTryAs_exc e em fun a => ?_, a1, v2, trivial⟩
            rw [e2 a]; simp only [RS.drop, List.set_set]
        | exc _ => exact fun z => z.elim
        | stuck => exact fun _ => trivial
end
end ZP

namespace ZP
open PySem L2 Z
section
variable {A B B' : List Nat} {a b c : ME} {p q r : P1}
theorem Wd.dz1 {S S' : Cel} {h h' : Hq} {X : Xt} {O O' : Om} {w : W} {v : Zv} (a : Wd S S' h h' O O') (b : Bd S h X O) (d : DZ S h w v) : DZ S' h' w v := d.mono a.le fun n q => a.fr n (b.s n q) (b.sO q)
theorem Po.up1 {α β : Type} {S S1 : Cel} {h0 h h1 : Hq} {X : Xt} {O0 O : Om} {ρ : Ev} {ps : PEnv} {r : Res α} {z : Rz β} {K : α → β → Cel → Hq → Prop} {K' : α → β → Cel → Hq → Om → Prop} (v : Inv A S h X O ρ ps) (a : Po S h r z K) (k : ∀ w t S' h', Wx S S' h h' → K w t S' h' → K' w t S' h' O) : Po1 A S h X O ρ r (z.at_ ps) K' :=
  a.up v fun w t S' h' a1 _ k1 => k w t S' h' a1 k1
def z2 (g : G2) (t u : T) : Rz T := match t, u with
  | .z v, .z x => g (.z v) (.z x)
  | _, _ => .stuck
def p1Bin (g : G2) (p q : P1) : P1 := fun ps => (p ps).bind fun t ps1 => (q ps1).bind fun u ps2 => (z2 g t u).at_ ps2
theorem Rs.of_z {S' : Cel} {h h' : Hq} {X : Xt} {O O' : Om} {w : W} {v : Zv} (d : DZ S' h' w v) : Rs S' h h' X O O' w (.z v) := ⟨noO, D.z d, fun n q => absurd rfl q⟩
theorem Rs.mono {S' : Cel} {h0 h h' : Hq} {X : Xt} {O0 O O' : Om} {w : W} {t : T} (r : Rs S' h h' X O O' w t) (k : ∀ n, O n ≠ none ∨ h.length ≤ n → O0 n ≠ none ∨ h0.length ≤ n) : Rs S' h0 h' X O0 O' w t := by
  obtain ⟨o, d, g⟩ := r
  exact ⟨o, d, fun n q => by obtain ⟨a, b, c, e, f⟩ := g n q; exact ⟨a, b, c, e, k n f⟩⟩
theorem Wd.base {S S' : Cel} {h h' : Hq} {O O' : Om} (a : Wd S S' h h' O O') : ∀ n, O' n ≠ none ∨ h'.length ≤ n → O n ≠ none ∨ h.length ≤ n := fun n q => by
  rcases q with q | q
  · exact a.own n q
  · exact .inr (Nat.le_trans a.len q)
theorem j1_bin {f : F2} {g : G2} (op : Op2 f g) (ja : J1f A a p) (jb : J1f A b q) : J1f A (eBin f a b) (p1Bin g p q) := fun S h X O ρ ps v =>
  (ja S h X O ρ ps v).bind fun x t ps1 S1 h1 O1 a1 v1 k1 => (jb S1 h1 X O1 ρ ps1 v1).bind fun y u ps2 S2 h2 O2 a2 v2 k2 => by
    unfold z2
    cases t with
    | z t =>
      cases u with
      | z u =>
        refine (op S2 h2 x y (.z t) (.z u) v2.s (Rdb.of_z (a2.dz1 v1.toBd k1.z)) (Rdb.of_z k2.z)).up1 (h0 := h) (h1 := h) (S1 := S) (O0 := O) v2 fun w r S3 h3 a3 f => (f.rs v2.toBd).mono fun n z => a1.base n (a2.base n z)
      | _ => trivial
    | _ => trivial
def p1TB (p : P1) : P1b := fun ps => (p ps).bind fun t ps1 => (asB t).at_ ps1
theorem j1_tB (ja : J1f A a p) : J1t A (tB a) (p1TB p) := fun S h X O ρ ps v =>
  (ja S h X O ρ ps v).bind fun x t ps1 S1 h1 O1 a1 v1 k1 => by
    cases t with
    | z t =>
      cases t with
      | bl b => cases dz_bl_iff.mp k1.z; exact ⟨b, h1, S1, O1, rfl, .refl, v1, rfl⟩
      | _ => trivial
    | _ => trivial
end
section
variable {A : List Nat} {a b : MT} {p q : P1b}
end
section
variable {A B B' : List Nat} {a b c : ME} {p q r : P1}
abbrev P1z := PEnv → R1 (List Zv)
def J1a (A : List Nat) (m : MA) (p : P1z) : Prop := ∀ S h X O ρ ps, Inv A S h X O ρ ps → Po1 A S h X O ρ (m ρ h) (p ps) fun ws vs S' h' _ => A2 (DZ S' h') ws vs
def p1Nil : P1z := fun ps => .ok [] ps
theorem j1_nil : J1a A aNil p1Nil := fun S h X O ρ ps v => ⟨[], h, S, O, rfl, .refl, v, .nil⟩
def p1Cons (p : P1) (q : P1z) : P1z := fun ps => (p ps).bind fun t ps1 => (q ps1).bind fun vs ps2 => match t with
  | .z v => .ok (v :: vs) ps2
  | _ => .stuck
theorem j1_cons {m : MA} {qz : P1z} (ja : J1f A a p) (jr : J1a A m qz) : J1a A (aCons a m) (p1Cons p qz) := fun S h X O ρ ps v =>
  (ja S h X O ρ ps v).bind fun x t ps1 S1 h1 O1 a1 v1 k1 => (jr S1 h1 X O1 ρ ps1 v1).bind fun xs vs ps2 S2 h2 O2 a2 v2 k2 => by
    cases t with
    | z t => exact ⟨x :: xs, h2, S2, O2, rfl, .refl, v2, .cons (a2.dz1 v1.toBd k1.z) k2⟩
    | _ => trivial
def p1Tup (q : P1z) : P1 := fun ps => (q ps).bind fun vs ps1 => .ok (.z (.tup vs)) ps1
theorem j1_tup {m : MA} {qz : P1z} (j : J1a A m qz) : J1f A (eTup m) (p1Tup qz) := fun S h X O ρ ps v =>
  (j S h X O ρ ps v).bind fun ws vs ps1 S1 h1 O1 a1 v1 k1 => ⟨.tup ws, h1, S1, O1, rfl, .refl, v1, .of_z (dz_tup k1)⟩
theorem j_fv {i : Nat} (hi : i ∉ A) : J1f A (eV i) (pFv i) := fun S h X O ρ ps v => by
  unfold pFv
  split
  · rename_i t e
    obtain ⟨w, hw, d⟩ := v.en i _ e
    have hw' : eV i ρ h = .ok w h := by unfold eV; rw [hw]
    have hS : ∀ n, S n = true → (S n || (sl O i n).isSome) = true := fun n q => by simp [q]
    have dz : DZ (fun n => S n || (sl O i n).isSome) h w t.toZ := d.freeze hS (fun _ _ => rfl) fun n q e => ⟨by simp [e], rfl⟩
    have on : ∀ n, (match O n with
      | some (j, s) => if j = i then none else some (j, s)
      | none => none) ≠ none → ∃ j s, O n = some (j, s) ∧ j ≠ i := fun n q => by
      cases e : O n with
      | none => rw [e] at q; exact absurd rfl q
      | some y =>
        obtain ⟨j, s⟩ := y
        refine ⟨j, s, rfl, fun c => ?_⟩
        rw [e] at q; simp [c] at q
    have slS : ∀ n, (sl O i n).isSome = true → O n ≠ none := fun n q => sl_none (i := i) (by intro z; rw [z] at q; cases q)
    refine ⟨w, h, fun n => S n || (sl O i n).isSome, fun n => match O n with
      | some (j, s) => if j = i then none else some (j, s)
      | none => none, hw', ⟨hS, fun n q => ?_, fun _ _ _ => rfl, Nat.le_refl _, fun n q => ?_⟩, ⟨⟨fun n q => ?_, fun n q => ?_, fun n q => ?_⟩, by simp [v.len], fun j en ej => ?_⟩, .of_z dz⟩
    · simp only [Bool.or_eq_true] at q
      exact q.imp id fun z => .inl (slS n z)
    · obtain ⟨j, s, e, _⟩ := on n q; exact .inl (by rw [e]; simp)
    · simp only [Bool.or_eq_true] at q
      rcases q with q | q
      · exact v.s n q
      · exact (v.o n (slS n q)).1
    · have := v.x n q
      refine ⟨this.1, ?_⟩
      cases e : sl O i n with
      | none => simp [this.2]
      | some p => have := (v.o n (slS n (by rw [e]; rfl))).2.2; rw [q] at this; cases this
    · obtain ⟨j, s, e, hj⟩ := on n q
      have := v.o n (by rw [e]; simp)
      refine ⟨this.1, ?_, this.2.2⟩
      have : sl O i n = none := by unfold sl; rw [e]; simp [hj]
      simp [this, (v.o n (by rw [e]; simp)).2.1]
    · by_cases c : i = j
      · subst c
        have hl : i < ps.length := lt_of_get e
        rw [List.getElem?_set_self hl] at ej; cases ej
        exact ⟨w, hw, D.z dz⟩
      · rw [List.getElem?_set_ne c] at ej
        have := v.en j en ej
        have other : ∀ w t, D S h (sl O j) [] w t → D (fun n => S n || (sl O i n).isSome) h (sl (fun n => match O n with
            | some (j, s) => if j = i then none else some (j, s)
            | none => none) j) [] w t := fun w t d => d.move hS (fun _ _ => rfl) fun n s e => by
          have e2 : O n = some (j, s) := sl_some.mp e
          refine ⟨sl_some.mpr ?_, rfl⟩
          rw [e2]; simp [Ne.symm c]
        cases en with
        | own t => obtain ⟨w, hw, d⟩ := this; exact ⟨w, hw, other w t d⟩
        | par t => obtain ⟨w, hw, d⟩ := this; exact ⟨w, hw, other w t d⟩
        | ext t => obtain ⟨w, o, hw, d, ho⟩ := this; exact ⟨w, o, hw, d.move hS (fun _ _ => rfl) fun _ _ z => ⟨z, rfl⟩, ho⟩
        | als r p =>
          obtain ⟨ha, w, wr, t0, t1, h1, h2, h3, h4, h5⟩ := this
          have n : r ≠ i := fun z => hi (z ▸ ha)
          exact ⟨ha, w, wr, t0, t1, h1, h2, h3, by rw [rootT_set n]; exact h4, h5⟩
  · trivial
end
end ZP

namespace ZP
open PySem L2 Z
section
variable {A B B' : List Nat} {a b c : ME} {p q r : P1}
def p1Fz (p : P1) : P1 := fun ps => (p ps).bind fun t ps1 => .ok (.z t.toZ) ps1
theorem j1_fz (ja : J1f A a p) : J1f A a (p1Fz p) := fun S h X O ρ ps v => by
  have := ja S h X O ρ ps v
  unfold p1Fz
  revert this
  cases p ps with
  | ok t ps1 =>
    rintro ⟨w, h1, S1, O1, e, a1, v1, o, d, k⟩
    have hS : ∀ n, S1 n = true → (S1 n || (o n).isSome) = true := fun n q => by simp [q]
    have on : ∀ n, (o n).isSome = true → o n ≠ none := fun n q z => by rw [z] at q; cases q
    have dz : DZ (fun n => S1 n || (o n).isSome) h1 w t.toZ := d.freeze hS (fun _ _ => rfl) fun n q e => ⟨by simp [e], rfl⟩
    refine ⟨w, h1, fun n => S1 n || (o n).isSome, O1, e, ⟨fun n q => hS n (a1.le n q), fun n q => ?_, a1.fr, a1.len, a1.own⟩, ⟨⟨fun n q => ?_, fun n q => ?_, fun n q => ?_⟩, v1.len, fun j en ej => ?_⟩, .of_z dz⟩
    · simp only [Bool.or_eq_true] at q
      rcases q with q | q
      · exact a1.new n q
      · exact .inr (k n (on n q)).2.2.2.2
    · simp only [Bool.or_eq_true] at q
      rcases q with q | q
      · exact v1.s n q
      · exact (k n (on n q)).1
    · refine ⟨(v1.x n q).1, ?_⟩
      cases e : o n with
      | none => simp [(v1.x n q).2]
      | some s => have := (k n (by rw [e]; simp)).2.2.1; rw [q] at this; cases this
    · have := v1.o n q
      refine ⟨this.1, ?_, this.2.2⟩
      cases e : o n with
      | none => simp [this.2.1]
      | some s => exact absurd (k n (by rw [e]; simp)).2.2.2.1 q
    · have := v1.en j en ej
      have mv : ∀ {o : Ow} {p : Pth} {w : W} {t : T}, D S1 h1 o p w t → D (fun n => S1 n || (o n).isSome) h1 o p w t ∧ True := fun _ => ⟨(by assumption : D S1 h1 _ _ _ _).move (fun n q => by simp [q]) (fun _ _ => rfl) fun _ _ z => ⟨z, rfl⟩, trivial⟩
      have mv2 : ∀ {o' : Ow} {p : Pth} {w : W} {t : T}, D S1 h1 o' p w t → D (fun n => S1 n || (o n).isSome) h1 o' p w t := fun d => d.move hS (fun _ _ => rfl) fun _ _ z => ⟨z, rfl⟩
      cases en with
      | own t => obtain ⟨w, hw, d⟩ := this; exact ⟨w, hw, mv2 d⟩
      | par t => obtain ⟨w, hw, d⟩ := this; exact ⟨w, hw, mv2 d⟩
      | ext t => obtain ⟨w, o, hw, d, ho⟩ := this; exact ⟨w, o, hw, mv2 d, ho⟩
      | als r p => exact this
  | exc c ps1 => exact fun q => q
  | stuck => exact fun _ => trivial
def pVx (i : Nat) : P0 := fun ps => match ps[i]? with
  | some (some (.ext t)) => .ok t
  | some (some (.own (.z v))) => .ok (.z v)
  | _ => .stuck
theorem j_vx (i : Nat) : J0b A [] (eV i) (pVx i) := fun S h X O ρ ps v => by
  unfold pVx
  split
  · rename_i t e
    obtain ⟨w, o, hw, d, ho⟩ := v.en i _ e
    have hw' : eV i ρ h = .ok w h := by unfold eV; rw [hw]
    rw [hw']
    exact Po.ret v.s ⟨o, d, fun n q => ⟨(v.x n (ho n q)).1, (v.x n (ho n q)).2, .inr (.inl (ho n q))⟩⟩
  · rename_i u e
    obtain ⟨w, hw, d⟩ := v.en i _ e
    have hw' : eV i ρ h = .ok w h := by unfold eV; rw [hw]
    rw [hw']
    exact Po.ret v.s (Fr.z (S := S) (h := h) (D.z_iff.mp d)).br
  · trivial
def ownLenT (tp : TbP) : PF := fun ts => match ts with
  | [t] => (match clsT0 t with
    | some c => (match tp.lookup c with
      | some P => (match P [t] with
        | .ok (.z (.int n)) => if decide (0 ≤ n) && i62 n then .ok (.z (.int n)) else .stuck
        | _ => .stuck)
      | none => .stuck)
    | none => lenT [t])
  | _ => .stuck
theorem jf_ownLen {tb : Tb} {tp : TbP} (tr : TbR tb tp) : JF (ownLen tb) (ownLenT tp) := fun S h ws ts s m => by
  cases m with
  | nil => trivial
  | cons ra m =>
    cases m with
    | cons _ _ => trivial
    | nil =>
      rename_i x t
      unfold ownLenT ownLen
      dsimp only
      cases e : clsT0 t with
      | none => rw [cls0_none ra e]; exact jf_len S h [x] [t] s (.cons ra .nil)
      | some c =>
        dsimp only
        cases e2 : tp.lookup c with
        | none => trivial
        | some P =>
          obtain ⟨n, fs, rfl, q1⟩ := cls_w0 ra e
          obtain ⟨g, q3, j⟩ := tr.look e2
          rw [q1]
          simp only [q3]
          have := j S h _ _ s (.cons ra .nil)
          revert this
          cases P [t] with
          | ok v =>
            rintro ⟨w, h2, S2, e, a2, s2, f⟩
            cases v with
            | z v =>
              cases v with
              | int b =>
                cases dz_int_iff.mp (f.br (B := []) (X := ⟨fun _ => false, fun _ => .non⟩) (O := fun _ => none)).z
                rw [e]
                dsimp only
                split
                · exact ⟨_, h2, S2, rfl, a2, s2, .z dz_int⟩
                · trivial
              | _ => trivial
            | _ => trivial
          | exc c => exact fun _ => trivial
          | stuck => exact fun _ => trivial
end
theorem law_of {F : MF} {P : PF} (j : JF F P) {ns : List Int} (e : P [.z (.frz (ns.map Zv.int))] = .ok (.z (.bl true))) : ∃ h', F [.frz (ns.map W.int)] [] = .ok (.bl true) h' := by
  have := j (fun _ => false) [] [.frz (ns.map W.int)] [.z (.frz (ns.map Zv.int))] (fun n q => by cases q) (.cons (Rdb.of_z (dz_frz (a2_map (fun _ => dz_int) ns))) .nil)
  rw [e] at this
  obtain ⟨w, h', S', e1, a, s, f⟩ := this
  cases dz_bl_iff.mp (f.br (B := []) (X := ⟨fun _ => false, fun _ => .non⟩) (O := fun _ => none)).z
  exact ⟨h', e1⟩
end ZP

namespace ZP
open PySem L2 Z
def endP (r : Rp) : Rz T := match r with
  | .ok .nx _ => .ok (.z .non)
  | .ok (.rt t) _ => .ok t
  | .exc c _ => .exc c
  | _ => .stuck
def endM (k : Nat) (r : Rp) : Rf := match r with
  | .ok .nx ps => outM k (.z .non) ps
  | .ok (.rt t) ps => outM k t ps
  | .exc c ps => outX k c ps
  | _ => .stuck
end ZP

namespace ZP
open PySem L2 Z
section
variable {A : List Nat} {ps ps' : PEnv} {i r k : Nat} {v x y : Zv} {t u w : T} {p q s : P0} {a b : P0b} {m n : P0a} {g : G2} {P : PF} {M : PM} {e e' : P1} {z : P1z} {c c' : P1b} {f f2 : PS} {pg : PG} {pgs : PGs} {it : P0i} {o o' : P0o} {pp : P0p} {pa : P1a} {str : Str} {S : String} {tp : TbP} {tm : TbM} {ts : List T} {vs us : List Zv}
theorem pV_ap : pV i ps = (match ps[i]? with
  | some (some (.own t)) | some (some (.par t)) | some (some (.ext t)) => .ok t
  | _ => .stuck) := id rfl
theorem pVx_ap : pVx i ps = (match ps[i]? with
  | some (some (.ext t)) => .ok t
  | some (some (.own (.z v))) => .ok (.z v)
  | _ => .stuck) := id rfl
theorem pC_ap : pC v ps = .ok (.z v) := id rfl
theorem pZ_ap : pZ p ps = (p ps).bind asZ := id rfl
theorem asZ_z : asZ (.z v) = .ok (.z v) := id rfl
theorem pFz_ap : pFz p ps = (p ps).map fun t => .z t.toZ := id rfl
theorem pBin_ap : pBin g p q ps = (p ps).bind fun t => (q ps).bind fun u => g t u := id rfl
theorem pNeg_ap : pNeg p ps = (p ps).bind fun t => match t with
  | .z (.int i) => .ok (.z (.int (-i)))
  | _ => .stuck := id rfl
theorem pTB_ap : pTB p ps = (p ps).bind asB := id rfl
theorem asB_b {k : Bool} : asB (.z (.bl k)) = .ok k := id rfl
theorem pChain_ap {g2 : G2} : pChain g g2 p q s ps = (p ps).bind fun t => (q ps).bind fun u => (g t u).bind fun k => match k with
  | .z (.bl true) => (s ps).bind fun z => g2 u z
  | .z (.bl false) => .ok (.z (.bl false))
  | _ => .stuck := id rfl
theorem pTru_ap : pTru p ps = (p ps).bind fun t => match truT t with
  | some b => .ok b
  | none => .stuck := id rfl
theorem pTOr_ap : pTOr a b ps = (a ps).bind fun k => if k then .ok true else b ps := id rfl
theorem pTNot_ap : pTNot a ps = (a ps).map (!·) := id rfl
theorem pAnd_ap : pAnd p q ps = (p ps).bind fun t => match t with
  | .z (.bl true) => q ps
  | .z (.bl false) => .ok (.z (.bl false))
  | _ => .stuck := id rfl
theorem pNot_ap : pNot p ps = (p ps).bind fun t => match t with
  | .z (.bl k) => .ok (.z (.bl (!k)))
  | _ => .stuck := id rfl
theorem pNil_ap : pNil ps = .ok [] := id rfl
theorem pCons_ap : pCons p m ps = (p ps).bind fun t => (m ps).bind fun ts => .ok (t :: ts) := id rfl
theorem pTup_ap : pTup m ps = (m ps).bind tupT := id rfl
theorem pLst_ap : pLst m ps = (m ps).bind lstT := id rfl
theorem tupT_ap : tupT ts = (match zsT ts with
  | some vs => .ok (.z (.tup vs))
  | none => .stuck) := id rfl
theorem lstT_ap : lstT ts = (match zsT ts with
  | some vs => .ok (.lst vs)
  | none => .stuck) := id rfl
theorem zsT_nil : zsT [] = some [] := id rfl
theorem zsT_cons : zsT (.z v :: ts) = (zsT ts).map (v :: ·) := id rfl
theorem pCall_ap : pCall P m ps = (m ps).bind P := id rfl
theorem pCall0_ap : pCall0 P ps = P [] := id rfl
theorem pIsi_ap : pIsi S p ps = (p ps).bind (isiT S) := id rfl
theorem pFld_ap : pFld str p ps = (p ps).bind (fldT str) := id rfl
theorem pMet_ap : pMet str tp p m ps = (p ps).bind fun t => match clsT str t with
  | some c => (match tp.lookup c with
    | some P => (m ps).bind fun ts => P (t :: ts)
    | none => .stuck)
  | none => .stuck := id rfl
theorem pIt_ap : pIt p ps = (p ps).bind itT := id rfl
theorem itT_frz : itT (.z (.frz vs)) = .ok vs := id rfl
theorem itT_str : itT (.z (.str str)) = .ok (str.cps.toList.map fun c => .str ⟨#[c]⟩) := id rfl
theorem pRng1_ap : pRng1 m ps = (m ps).bind fun ts => match ts with
  | [.z (.int j)] => if i62 j then .ok (rngZ 0 j.toNat) else .stuck
  | _ => .stuck := id rfl
theorem tyBT_l {vs : List Zv} : tyBT "list" (.lst vs) = true := id rfl
theorem up_ap {α : Type} {p : PEnv → Rz α} : up p ps = (p ps).at_ ps := id rfl
theorem pNop_ap : pNop ps = .ok .nx ps := id rfl
theorem pSeq_ap : pSeq f f2 ps = thenP (f ps) f2 := id rfl
theorem thenP_nx : thenP (.ok .nx ps) f = f ps := id rfl
theorem thenP_rt : thenP (.ok (.rt t) ps) f = .ok (.rt t) ps := id rfl
theorem thenP_bk : thenP (.ok .bk ps) f = .ok .bk ps := id rfl
theorem thenP_exc : thenP (.exc str ps) f = .exc str ps := id rfl
theorem pExpr_ap : pExpr e ps = (e ps).toP fun _ ps' => .ok .nx ps' := id rfl
theorem pRet_ap : pRet e ps = (e ps).toP fun t ps' => .ok (.rt t) ps' := id rfl
theorem pBrk_ap : pBrk ps = .ok .bk ps := id rfl
theorem pRaise_ap : pRaise str ps = .exc str ps := id rfl
theorem pIf_ap : pIf c f f2 ps = (c ps).toP fun k ps' => if k then f ps' else f2 ps' := id rfl
theorem pAsg_ap : pAsg e i ps = (e ps).toP fun t ps' => .ok .nx (ps'.set i (some (.own t))) := id rfl
theorem pFor_ap : pFor it pg f ps = (up it ps).toP fun vs ps' => pLoop pg f vs ps' := id rfl
theorem pPV_ap : pPV r ps = (match ownT ps r with
  | some _ => .ok []
  | none => .stuck) := id rfl
theorem ownT_ap : ownT ps r = (match ps[r]? with
  | some (some (.own t)) => some t
  | some (some (.par t)) => some t
  | _ => none) := id rfl
theorem pPF_ap : pPF r str pp ps = (pp ps).bind fun q => match atT ps r q with
  | some (.ins c fs) => if (fieldsOf c).contains str then (match ixF str fs with
    | some i => .ok (q ++ [i])
    | none => .stuck) else .stuck
  | _ => .stuck := id rfl
theorem atT_ap {q : Pth} : atT ps r q = (ownT ps r).bind fun t => getT t q := id rfl
theorem pA0_ap : pA0 r pp m ps = (pp ps).bind fun s => (m ps).bind fun ts => match atT ps r s with
  | some u => .ok (s, u :: ts)
  | none => .stuck := id rfl
theorem pM_ap : pM r M pa ps = (match pa ps with
  | .ok (q, ts) => (match M ts with
    | .ok t out => (match updR ps r q out with
      | some ps' => .ok t ps'
      | none => .stuck)
    | .exc c out => (match updR ps r q out with
      | some ps' => .exc c ps'
      | none => .stuck)
    | .stuck => .stuck)
  | .exc c => .exc c ps
  | .stuck => .stuck) := id rfl
theorem pMM_ap : pMM str r tm pp m ps = (match pp ps with
  | .ok q => (match atT ps r q with
    | some u => (match clsT str u with
      | some c => (match tm.lookup c with
        | some P => (match m ps with
          | .ok ts => (match P (u :: ts) with
            | .ok t out => (match updR ps r q out with
              | some ps' => .ok t ps'
              | none => .stuck)
            | .exc c out => (match updR ps r q out with
              | some ps' => .exc c ps'
              | none => .stuck)
            | .stuck => .stuck)
          | .exc c => .exc c ps
          | .stuck => .stuck)
        | none => .stuck)
      | none => .stuck)
    | none => .stuck)
  | .exc c => .exc c ps
  | .stuck => .stuck) := id rfl
theorem pBMM_ap : pBMM S r M pp m ps = (match pp ps with
  | .ok q => (match atT ps r q with
    | some u => if tyBT S u then (match m ps with
          | .ok ts => (match M (u :: ts) with
            | .ok t out => (match updR ps r q out with
              | some ps' => .ok t ps'
              | none => .stuck)
            | .exc c out => (match updR ps r q out with
              | some ps' => .exc c ps'
              | none => .stuck)
            | .stuck => .stuck)
          | .exc c => .exc c ps
          | .stuck => .stuck) else .stuck
    | none => .stuck)
  | .exc c => .exc c ps
  | .stuck => .stuck) := id rfl
theorem updR_ap {q : Pth} : updR ps r q u = (match ps[r]? with
  | some (some (.own t)) => some (ps.set r (some (.own (setT t q u))))
  | some (some (.par t)) => some (ps.set r (some (.par (setT t q u))))
  | _ => none) := id rfl
theorem setT_nil : setT t [] u = u := by cases t <;> rfl
theorem getT_nil : getT t [] = some t := by cases t <;> rfl
theorem getT_ins {cl : Str} {fs : List (Str × T)} {j : Nat} {q : Pth} : getT (.ins cl fs) (j :: q) = (fs[j]?).bind fun u => getT u.2 q := id rfl
theorem getT_nst {j : Nat} {q : Pth} : getT (.nst ts) (j :: q) = (ts[j]?).bind fun u => getT u q := id rfl
theorem setT_ins {cl : Str} {fs : List (Str × T)} {j : Nat} {q : Pth} : setT (.ins cl fs) (j :: q) u = .ins cl (match fs[j]? with
    | some x => fs.set j (x.1, setT x.2 q u)
    | none => fs) := id rfl
theorem setT_nst {j : Nat} {q : Pth} : setT (.nst ts) (j :: q) u = .nst (match ts[j]? with
    | some x => ts.set j (setT x q u)
    | none => ts) := id rfl
theorem pMv_ap : pMv i ps = (match ps[i]? with
  | some (some (.own t)) => .ok t (ps.set i none)
  | _ => .stuck) := id rfl
theorem pFv_ap : pFv i ps = (match ps[i]? with
  | some (some (.own t)) => .ok (.z t.toZ) (ps.set i (some (.own (.z t.toZ))))
  | _ => .stuck) := id rfl
theorem pFS_ap : pFS str r pp e ps = (e ps).toP fun tv ps1 => match pp ps1 with
  | .ok q => (match atT ps1 r q with
    | some (.ins c fs) => if (fieldsOf c).contains str && decide (fs.length < 1000) then (match updR ps1 r q (.ins c (putT str tv fs)) with
      | some ps2 => .ok .nx ps2
      | none => .stuck) else .stuck
    | _ => .stuck)
  | .exc c => .exc c ps1
  | .stuck => .stuck := id rfl
theorem pPut_ap : pPut r pp p q ps = (q ps).toP ps fun tv => (pp ps).toP ps fun k => (p ps).toP ps fun ti => putP r k ti tv ps := id rfl
def mkR : Rf → Rz T
  | .ok (.z .non) out => .ok out
  | .exc c _ => .exc c
  | _ => .stuck
theorem pMake_ap {cl : Str} : pMake cl M ts = mkR (M (.ins cl [] :: ts)) := id rfl
theorem mkR_ok : mkR (.ok (.z .non) t) = .ok t := id rfl
theorem rz_bind_ok {α β : Type} {a : α} {f : α → Rz β} : (Rz.ok a).bind f = f a := id rfl
theorem rz_bind_exc {α β : Type} {f : α → Rz β} : (Rz.exc str : Rz α).bind f = .exc str := id rfl
theorem rz_map_ok {α β : Type} {a : α} {f : α → β} : (Rz.ok a).map f = .ok (f a) := id rfl
theorem rz_map_exc {α β : Type} {f : α → β} : (Rz.exc str : Rz α).map f = .exc str := id rfl
theorem rz_at_ok {α : Type} {a : α} : (Rz.ok a).at_ ps = .ok a ps := id rfl
theorem rz_at_exc {α : Type} : (Rz.exc str : Rz α).at_ ps = .exc str ps := id rfl
theorem rz_toP_ok {α : Type} {a : α} {f : α → Rp} : (Rz.ok a).toP ps f = f a := id rfl
theorem rz_z_ok : (Rz.ok v).z = .ok (.z v) := id rfl
theorem r1_bind_ok {α β : Type} {a : α} {f : α → PEnv → R1 β} : (R1.ok a ps).bind f = f a ps := id rfl
theorem r1_bind_exc {α β : Type} {f : α → PEnv → R1 β} : (R1.exc str ps : R1 α).bind f = .exc str ps := id rfl
theorem r1_toP_ok {α : Type} {a : α} {f : α → PEnv → Rp} : (R1.ok a ps).toP f = f a ps := id rfl
theorem r1_toP_exc {α : Type} {f : α → PEnv → Rp} : (R1.exc str ps : R1 α).toP f = .exc str ps := id rfl
theorem endP_rt : endP (.ok (.rt t) ps) = .ok t := id rfl
theorem endP_exc : endP (.exc str ps) = .exc str := id rfl
theorem endM_nx : endM k (.ok .nx ps) = outM k (.z .non) ps := id rfl
theorem endM_rt : endM k (.ok (.rt t) ps) = outM k t ps := id rfl
theorem endM_exc : endM k (.exc str ps) = outX k str ps := id rfl
theorem outM_ap : outM k t ps = (match ps[k]? with
  | some (some (.par u)) => .ok t u
  | _ => .stuck) := id rfl
theorem outX_ap : outX k str ps = (match ps[k]? with
  | some (some (.par u)) => .exc str u
  | _ => .stuck) := id rfl
theorem toZ_z : (T.z v).toZ = v := by simp [T.toZ]
theorem toZ_lst {vs : List Zv} : (T.lst vs).toZ = .lst vs := by simp [T.toZ]
theorem toZ_dct {kk : Bool} {kvs : List (Zv × Zv)} : (T.dct kk kvs).toZ = .dct kk kvs := by simp [T.toZ]
theorem addT_ii {i j : Int} : addT (.z (.int i)) (.z (.int j)) = .ok (.z (.int (i + j))) := id rfl
theorem subT_ii {i j : Int} : subT (.z (.int i)) (.z (.int j)) = .ok (.z (.int (i - j))) := id rfl
theorem mulT_l {i j : Int} (h : small i = true) : mulT (.z (.int i)) (.z (.int j)) = .ok (.z (.int (i * j))) := by
  show (if (small i || small j) = true then Rz.ok (Zv.int (i * j)) else .stuck).z = _
  rw [h, Bool.true_or, if_pos rfl]; rfl
theorem mulT_r {i j : Int} (h : small j = true) : mulT (.z (.int i)) (.z (.int j)) = .ok (.z (.int (i * j))) := by
  show (if (small i || small j) = true then Rz.ok (Zv.int (i * j)) else .stuck).z = _
  rw [h, Bool.or_true, if_pos rfl]; rfl
theorem fdivT_ii {i j : Int} (h : 0 < j) (h2 : j ≤ 10 ^ 60) : fdivT (.z (.int i)) (.z (.int j)) = .ok (.z (.int (i / j))) := by
  have e := fdivW_ok (i := i) (h := []) h h2
  unfold fdivW at e
  show (if (decide (0 < j) && decide (j.natAbs < wideB)) = true then Rz.ok (Zv.int (i / j)) else .stuck).z = _
  by_cases c : (decide (0 < j) && decide (j.natAbs < wideB)) = true
  · rw [if_pos c]; rfl
  · simp only [if_neg c] at e; cases e
theorem modT_ii {i j : Int} (h : 0 < j) : modT (.z (.int i)) (.z (.int j)) = .ok (.z (.int (i % j))) := by
  show (if decide (0 < j) = true then Rz.ok (Zv.int (i % j)) else .stuck).z = _
  rw [if_pos (decide_eq_true h)]; rfl
theorem powT_ii {i j : Int} (h : (decide (0 ≤ j ∧ j ≤ 1000000) && decide (i.natAbs < 2 ^ 64)) = true) : powT (.z (.int i)) (.z (.int j)) = .ok (.z (.int (i ^ j.toNat))) := by
  show (if (decide (0 ≤ j ∧ j ≤ 1000000) && decide (i.natAbs < 2 ^ 64)) = true then Rz.ok (Zv.int (i ^ j.toNat)) else .stuck).z = _
  rw [if_pos h]; rfl
theorem eqT_ap {neg : Bool} : eqT neg t u = (match t.val, u.val with
  | some v, some x => (eqZ neg v x).z
  | _, _ => .stuck) := id rfl
theorem val_z : (T.z v).val = some v := id rfl
theorem val_l {vs : List Zv} : (T.lst vs).val = some (.lst vs) := id rfl
theorem eqZ_ii {neg : Bool} {i j : Int} : eqZ neg (.int i) (.int j) = .ok (.bl (xor neg (decide (i = j)))) := id rfl
theorem eqZ_ss {neg : Bool} {i j : Str} : eqZ neg (.str i) (.str j) = .ok (.bl (xor neg (decide (i = j)))) := id rfl
theorem ltT_ii {i j : Int} : ltT (.z (.int i)) (.z (.int j)) = .ok (.z (.bl (decide (i < j)))) := id rfl
theorem leT_ii {i j : Int} : leT (.z (.int i)) (.z (.int j)) = .ok (.z (.bl (decide (i ≤ j)))) := id rfl
theorem gtT_ii {i j : Int} : gtT (.z (.int i)) (.z (.int j)) = .ok (.z (.bl (decide (j < i)))) := id rfl
theorem geT_ii {i j : Int} : geT (.z (.int i)) (.z (.int j)) = .ok (.z (.bl (decide (j ≤ i)))) := id rfl
theorem truT_b {k : Bool} : truT (.z (.bl k)) = some k := id rfl
theorem isiT_ap : isiT S t = (match tyT t with
  | some (.inl s') => (match kitB s' S with
    | some b => .ok (.z (.bl b))
    | none => .stuck)
  | some (.inr _) => if isiTs.contains S then .ok (.z (.bl false)) else .stuck
  | none => .stuck) := id rfl
theorem ixT_t {xs : List Zv} {i : Int} : ixT (.z (.tup xs)) (.z (.int i)) = (match atI xs i with
      | some v => .ok (.z v)
      | none => .stuck) := id rfl
theorem ixT_l {xs : List Zv} {i : Int} : ixT (.z (.lst xs)) (.z (.int i)) = (match atI xs i with
      | some v => .ok (.z v)
      | none => .stuck) := id rfl
theorem ixT_f {xs : List Zv} {i : Int} : ixT (.z (.frz xs)) (.z (.int i)) = (match atI xs i with
      | some v => .ok (.z v)
      | none => .stuck) := id rfl
theorem ixT_o {xs : List Zv} {i : Int} : ixT (.lst xs) (.z (.int i)) = (match atI xs i with
      | some v => .ok (.z v)
      | none => .stuck) := id rfl
theorem ixT_n {xs : List T} {i : Int} : ixT (.nst xs) (.z (.int i)) = (match atI xs i with
      | some v => .ok v
      | none => .stuck) := id rfl
theorem ixT_s {z : Str} {i : Int} : ixT (.z (.str z)) (.z (.int i)) = if z.length ≤ sizeLine then (match atI z.cps.toList i with
      | some c => .ok (.z (.str ⟨#[c]⟩))
      | none => .stuck) else .stuck := id rfl
theorem lenT_ap : lenT [t] = (lenG t).z := id rfl
theorem lenG_t {xs : List Zv} : lenG (.z (.tup xs)) = .ok (.int xs.length) := id rfl
theorem lenG_l {xs : List Zv} : lenG (.z (.lst xs)) = .ok (.int xs.length) := id rfl
theorem lenG_f {xs : List Zv} : lenG (.z (.frz xs)) = .ok (.int xs.length) := id rfl
theorem lenG_o {xs : List Zv} : lenG (.lst xs) = .ok (.int xs.length) := id rfl
theorem lenG_s {z : Str} : lenG (.z (.str z)) = if z.length ≤ sizeLine then .ok (.int z.length) else .stuck := id rfl
theorem intcT_i {i : Int} : intcT [.z (.int i)] = .ok (.z (.int i)) := id rfl
theorem intcT_b {k : Bool} : intcT [.z (.bl k)] = .ok (.z (.int (if k then 1 else 0))) := id rfl
theorem min2T_i {i j : Int} : min2T [.z (.int i), .z (.int j)] = .ok (.z (.int (if j < i then j else i))) := id rfl
theorem appT_ap {xs : List Zv} : appT [.lst xs, .z v] = if xs.length < sizeLine then .ok (.z .non) (.lst (xs ++ [v])) else .stuck := by
  show (match (if xs.length < sizeLine then some (Zv.non, xs ++ [v]) else none) with
    | some (y, vs') => Rf.ok (.z y) (.lst vs')
    | none => .stuck) = _
  split <;> simp_all
theorem fldT_o {cl : Str} {fs : List (Str × T)} : fldT str (.ins cl fs) = if (fieldsOf cl).contains str then (match lkT str fs with
    | some t => .ok t
    | none => .stuck) else .stuck := id rfl
theorem lkT_cons {g : Str} {fs : List (Str × T)} : lkT str ((g, t) :: fs) = if g = str then some t else lkT str fs := id rfl
theorem putT_nil : putT str t [] = [(str, t)] := id rfl
theorem putT_cons {g : Str} {fs : List (Str × T)} : putT str t ((g, u) :: fs) = if g = str then (g, t) :: fs else (g, u) :: putT str t fs := id rfl
theorem ixF_cons {g : Str} {fs : List (Str × T)} : ixF str ((g, u) :: fs) = if g = str then some 0 else (ixF str fs).map (· + 1) := id rfl
theorem pLoop_cons : pLoop pg f (v :: vs) ps = (match pg v ps with
    | some ps1 => (match f ps1 with
      | .ok .nx ps2 => pLoop pg f vs ps2
      | .ok .ct ps2 => pLoop pg f vs ps2
      | .ok .bk ps2 => .ok .nx ps2
      | r => r)
    | none => .stuck) := id rfl
def stp (I : PEnv → Prop) (Q : Rp → Prop) (r : Rp) : Prop := match r with
  | .ok .nx ps => I ps
  | .ok .ct ps => I ps
  | .ok .bk ps => Q (.ok .nx ps)
  | r => Q r
theorem stp_nx {I : PEnv → Prop} {Q : Rp → Prop} : stp I Q (.ok .nx ps) = I ps := id rfl
theorem stp_bk {I : PEnv → Prop} {Q : Rp → Prop} : stp I Q (.ok .bk ps) = Q (.ok .nx ps) := id rfl
theorem stp_rt {I : PEnv → Prop} {Q : Rp → Prop} : stp I Q (.ok (.rt t) ps) = Q (.ok (.rt t) ps) := id rfl
theorem pLoop_pre {Q : Rp → Prop} (I : List Zv → PEnv → Prop) (vs : List Zv) {ps : PEnv} (h0 : I [] ps)
    (st : ∀ pre v post ps, vs = pre ++ v :: post → I pre ps → ∃ ps1, pg v ps = some ps1 ∧ stp (I (pre ++ [v])) Q (f ps1))
    (hd : ∀ ps, I vs ps → Q (.ok .nx ps)) : Q (pLoop pg f vs ps) := by
  have key : ∀ (us pre : List Zv) (ps : PEnv), vs = pre ++ us → I pre ps → Q (pLoop pg f us ps) := by
    intro us
    induction us with
    | nil => intro pre ps e h; rw [List.append_nil] at e; subst e; exact hd _ h
    | cons u us ih =>
      intro pre ps e h
      obtain ⟨ps1, e1, q⟩ := st pre u us ps e h
      rw [pLoop_cons, e1]
      dsimp only
      cases z : f ps1 with
      | ok fl ps2 =>
        rw [z] at q
        cases fl with
        | nx => exact ih (pre ++ [u]) ps2 (by simp [e]) q
        | ct => exact ih (pre ++ [u]) ps2 (by simp [e]) q
        | bk => exact q
        | rt w => exact q
      | exc c ps2 => rw [z] at q; exact q
      | stuck => rw [z] at q; exact q
  exact key vs [] ps rfl h0
theorem pLoop_ind {Q : Rp → Prop} (I : Nat → PEnv → Prop) (vs : List Zv) {ps : PEnv} (h0 : I 0 ps)
    (st : ∀ i v ps, vs[i]? = some v → I i ps → ∃ ps1, pg v ps = some ps1 ∧ stp (I (i + 1)) Q (f ps1))
    (hd : ∀ ps, I vs.length ps → Q (.ok .nx ps)) : Q (pLoop pg f vs ps) :=
  pLoop_pre (fun pre ps => I pre.length ps) vs h0 (fun pre v post ps e h => by
    have := st pre.length v ps (by rw [e, List.getElem?_append_right (Nat.le_refl _), Nat.sub_self]; rfl) h
    simpa using this) hd
end
end ZP

namespace ZP
open PySem L2 Z
def gd : Nat → Zv → Bool
  | _, .non => true
  | _, .bl _ => true
  | _, .int _ => true
  | _, .str x => PyData.strOk x
  | k + 1, .tup vs => vs.all (gd k)
  | k + 1, .frz vs => vs.all (gd k)
  | k + 1, .lst vs => vs.all (gd k)
  | _, _ => false
mutual
/-- as it is compared -/
def nrm : Zv → Zv
  | .bl b => .int (if b then 1 else 0)
  | .tup vs => .tup (nrms vs)
  | .frz vs => .lst (nrms vs)
  | .lst vs => .lst (nrms vs)
  | v => v
def nrms : List Zv → List Zv
  | [] => []
  | v :: vs => nrm v :: nrms vs
end
theorem nrms_map : ∀ vs : List Zv, nrms vs = vs.map nrm
  | [] => by simp [nrms]
  | v :: vs => by simp [nrms, nrms_map vs]
theorem toDZs_of {k : Nat} {P : Zv → PyData → Prop} : ∀ {vs : List Zv}, (∀ v ∈ vs, ∃ d, toDZ k v = some d ∧ P v d) → ∃ ds, toDZs k vs = some ds ∧ A2 P vs ds
  | [], _ => ⟨[], rfl, .nil⟩
  | v :: vs, h => by
    obtain ⟨d, h1, h2⟩ := h v (by simp)
    obtain ⟨ds, h3, h4⟩ := toDZs_of (vs := vs) fun u hu => h u (by simp [hu])
    exact ⟨d :: ds, by unfold toDZs; rw [h1, h3], .cons h2 h4⟩
theorem lay_all {P : Zv → PyData → Prop} (k : ∀ v d, P v d → d.canLay0 = true) : ∀ {vs : List Zv} {ds : List PyData}, A2 P vs ds → PyData.canLayAll0 ds = true
  | _, _, .nil => by simp [PyData.canLayAll0]
  | _, _, .cons r m => by simp [PyData.canLayAll0, k _ _ r, lay_all k m]
theorem dep_all {P : Zv → PyData → Prop} {n : Nat} (k : ∀ v d, P v d → d.depth ≤ n) : ∀ {vs : List Zv} {ds : List PyData}, A2 P vs ds → PyData.depthAll ds ≤ n
  | _, _, .nil => by simp [PyData.depthAll]
  | _, _, .cons r m => by rw [PyData.depthAll]; exact Nat.max_le.mpr ⟨k _ _ r, dep_all k m⟩
theorem gd_data : ∀ (k : Nat) (v : Zv) (j : Nat), k ≤ j → gd k v = true → ∃ d, toDZ j v = some d ∧ d.canLay0 = true ∧ d.depth ≤ k + 1 := by
  intro k
  induction k with
  | zero =>
    intro v j _ h
    cases v with
    | non => exact ⟨_, by cases j <;> rfl, by simp [PyData.canLay0], by simp [PyData.depth]⟩
    | bl b => exact ⟨_, by cases j <;> rfl, by simp [PyData.canLay0], by simp [PyData.depth]⟩
    | int b => exact ⟨_, by cases j <;> rfl, by simp [PyData.canLay0], by simp [PyData.depth]⟩
    | str b => exact ⟨_, by cases j <;> rfl, by simpa [PyData.canLay0, gd] using h, by simp [PyData.depth]⟩
    | _ => simp [gd] at h
  | succ k ih =>
    intro v j hk h
    have key : ∀ (i : Nat) (vs : List Zv), k ≤ i → vs.all (gd k) = true → ∃ ds, toDZs i vs = some ds ∧ PyData.canLayAll0 ds = true ∧ PyData.depthAll ds ≤ k + 1 := fun i vs hi hv => by
      obtain ⟨ds, h1, h2⟩ := toDZs_of (k := i) (P := fun v d => d.canLay0 = true ∧ d.depth ≤ k + 1) (vs := vs) fun v hv' => by
        obtain ⟨d, a, b, c⟩ := ih v i hi (List.all_eq_true.mp hv v hv')
        exact ⟨d, a, b, c⟩
      exact ⟨ds, h1, lay_all (fun _ _ z => z.1) h2, dep_all (fun _ _ z => z.2) h2⟩
    cases v with
    | non => exact ⟨_, by cases j <;> rfl, by simp [PyData.canLay0], by simp [PyData.depth]⟩
    | bl b => exact ⟨_, by cases j <;> rfl, by simp [PyData.canLay0], by simp [PyData.depth]⟩
    | int b => exact ⟨_, by cases j <;> rfl, by simp [PyData.canLay0], by simp [PyData.depth]⟩
    | str b => exact ⟨_, by cases j <;> rfl, by simpa [PyData.canLay0, gd] using h, by simp [PyData.depth]⟩
    | tup vs =>
      obtain ⟨ds, a, b, c⟩ := key j vs (by omega) h
      exact ⟨.tuple ds, by cases j <;> simp [toDZ, a], by simpa [PyData.canLay0] using b, by simp [PyData.depth]; omega⟩
    | frz vs =>
      obtain ⟨ds, a, b, c⟩ := key j vs (by omega) h
      exact ⟨.list ds, by cases j <;> simp [toDZ, a], by simpa [PyData.canLay0] using b, by simp [PyData.depth]; omega⟩
    | lst vs =>
      obtain ⟨i, rfl⟩ : ∃ i, j = i + 1 := ⟨j - 1, by omega⟩
      obtain ⟨ds, a, b, c⟩ := key i vs (by omega) h
      exact ⟨.list ds, by simp [toDZ, a], by simpa [PyData.canLay0] using b, by simp [PyData.depth]; omega⟩
    | dct _ _ => simp [gd] at h
    | ins _ _ => simp [gd] at h
    | exn _ _ => simp [gd] at h
theorem toDZ_lst {j : Nat} {vs : List Zv} {d : PyData} (h : toDZ j (.lst vs) = some d) : ∃ i ds, toDZs i vs = some ds ∧ d = .list ds := by
  cases j with
  | zero => simp [toDZ] at h
  | succ i =>
    simp only [toDZ, Option.map_eq_some_iff] at h
    obtain ⟨ds, a, b⟩ := h
    exact ⟨i, ds, a, b.symm⟩
theorem toDZ_frz {j : Nat} {vs : List Zv} {d : PyData} (h : toDZ j (.frz vs) = some d) : ∃ i ds, toDZs i vs = some ds ∧ d = .list ds := by
  cases j <;> (simp only [toDZ, Option.map_eq_some_iff] at h; obtain ⟨ds, a, b⟩ := h; exact ⟨_, ds, a, b.symm⟩)
theorem toDZ_tup {j : Nat} {vs : List Zv} {d : PyData} (h : toDZ j (.tup vs) = some d) : ∃ i ds, toDZs i vs = some ds ∧ d = .tuple ds := by
  cases j <;> (simp only [toDZ, Option.map_eq_some_iff] at h; obtain ⟨ds, a, b⟩ := h; exact ⟨_, ds, a, b.symm⟩)
theorem toDZ_leaf {j : Nat} {v : Zv} {d : PyData} (h : toDZ j v = some d) : match v with
    | .non => d = .none
    | .bl b => d = .bool b
    | .int i => d = .int i
    | .str x => d = .str x
    | .tup vs => ∃ i ds, toDZs i vs = some ds ∧ d = .tuple ds
    | .frz vs => ∃ i ds, toDZs i vs = some ds ∧ d = .list ds
    | .lst vs => ∃ i ds, toDZs i vs = some ds ∧ d = .list ds
    | _ => False := by
  cases v with
  | non => cases j <;> simp [toDZ] at h <;> exact h.symm
  | bl b => cases j <;> simp [toDZ] at h <;> exact h.symm
  | int b => cases j <;> simp [toDZ] at h <;> exact h.symm
  | str b => cases j <;> simp [toDZ] at h <;> exact h.symm
  | tup b => exact toDZ_tup h
  | frz b => exact toDZ_frz h
  | lst b => exact toDZ_lst h
  | dct _ _ => cases j <;> simp [toDZ] at h
  | ins _ _ => cases j <;> simp [toDZ] at h
  | exn _ _ => cases j <;> simp [toDZ] at h
mutual
theorem eqv_iff : ∀ (a : Zv) (j : Nat) (da : PyData) (b : Zv) (i : Nat) (db : PyData), toDZ j a = some da → toDZ i b = some db → (PyData.eqv da db = true ↔ nrm a = nrm b)
  | .non, j, da, b, i, db, ha, hb => by
    have h1 := toDZ_leaf ha; have h2 := toDZ_leaf hb
    cases b <;> simp only at h1 h2 <;> first | (subst h1; subst h2; simp [PyData.eqv, nrm]) | (obtain ⟨_, _, _, rfl⟩ := h2; subst h1; simp [PyData.eqv, nrm]) | exact h2.elim
  | .bl x, j, da, b, i, db, ha, hb => by
    have h1 := toDZ_leaf ha; have h2 := toDZ_leaf hb
    cases b <;> simp only at h1 h2 <;> first | (subst h1; subst h2; simp [PyData.eqv, nrm]; done) | (subst h1; subst h2; rename_i y; cases x <;> cases y <;> simp [PyData.eqv, nrm]) | (obtain ⟨_, _, _, rfl⟩ := h2; subst h1; simp [PyData.eqv, nrm]) | exact h2.elim
  | .int x, j, da, b, i, db, ha, hb => by
    have h1 := toDZ_leaf ha; have h2 := toDZ_leaf hb
    cases b <;> simp only at h1 h2 <;> first | (subst h1; subst h2; simp [PyData.eqv, nrm]) | (obtain ⟨_, _, _, rfl⟩ := h2; subst h1; simp [PyData.eqv, nrm]) | exact h2.elim
  | .str x, j, da, b, i, db, ha, hb => by
    have h1 := toDZ_leaf ha; have h2 := toDZ_leaf hb
    cases b <;> simp only at h1 h2 <;> first | (subst h1; subst h2; simp [PyData.eqv, nrm]) | (obtain ⟨_, _, _, rfl⟩ := h2; subst h1; simp [PyData.eqv, nrm]) | exact h2.elim
  | .tup xs, j, da, b, i, db, ha, hb => by
    obtain ⟨k, ds, e, rfl⟩ := toDZ_leaf ha
    have h2 := toDZ_leaf hb
    cases b <;> simp only at h2 <;> first
      | (subst h2; simp [PyData.eqv, nrm]; done)
      | (obtain ⟨l, es, e2, rfl⟩ := h2; simp only [PyData.eqv, nrm, Zv.tup.injEq, Zv.lst.injEq, reduceCtorEq, Bool.false_eq_true]; done)
      | (obtain ⟨l, es, e2, rfl⟩ := h2; simp only [PyData.eqv, nrm, Zv.tup.injEq, Zv.lst.injEq]; exact eqvs_iff xs _ _ _ _ _ e e2)
      | exact h2.elim
  | .frz xs, j, da, b, i, db, ha, hb => by
    obtain ⟨k, ds, e, rfl⟩ := toDZ_leaf ha
    have h2 := toDZ_leaf hb
    cases b <;> simp only at h2 <;> first
      | (subst h2; simp [PyData.eqv, nrm]; done)
      | (obtain ⟨l, es, e2, rfl⟩ := h2; simp only [PyData.eqv, nrm, Zv.tup.injEq, Zv.lst.injEq, reduceCtorEq, Bool.false_eq_true]; done)
      | (obtain ⟨l, es, e2, rfl⟩ := h2; simp only [PyData.eqv, nrm, Zv.tup.injEq, Zv.lst.injEq]; exact eqvs_iff xs _ _ _ _ _ e e2)
      | exact h2.elim
  | .lst xs, j, da, b, i, db, ha, hb => by
    obtain ⟨k, ds, e, rfl⟩ := toDZ_leaf ha
    have h2 := toDZ_leaf hb
    cases b <;> simp only at h2 <;> first
      | (subst h2; simp [PyData.eqv, nrm]; done)
      | (obtain ⟨l, es, e2, rfl⟩ := h2; simp only [PyData.eqv, nrm, Zv.tup.injEq, Zv.lst.injEq, reduceCtorEq, Bool.false_eq_true]; done)
      | (obtain ⟨l, es, e2, rfl⟩ := h2; simp only [PyData.eqv, nrm, Zv.tup.injEq, Zv.lst.injEq]; exact eqvs_iff xs _ _ _ _ _ e e2)
      | exact h2.elim
  | .dct _ _, j, da, b, i, db, ha, hb => (toDZ_leaf ha).elim
  | .ins _ _, j, da, b, i, db, ha, hb => (toDZ_leaf ha).elim
  | .exn _ _, j, da, b, i, db, ha, hb => (toDZ_leaf ha).elim
theorem eqvs_iff : ∀ (a : List Zv) (j : Nat) (da : List PyData) (b : List Zv) (i : Nat) (db : List PyData), toDZs j a = some da → toDZs i b = some db → (PyData.eqvAll da db = true ↔ nrms a = nrms b)
  | [], j, da, [], i, db, ha, hb => by simp [toDZs] at ha hb; subst ha; subst hb; simp [PyData.eqvAll]
  | [], j, da, b :: bs, i, db, ha, hb => by
    simp [toDZs] at ha; subst ha
    unfold toDZs at hb
    split at hb
    · cases hb; simp [PyData.eqvAll, nrms]
    · cases hb
  | a :: as, j, da, [], i, db, ha, hb => by
    simp [toDZs] at hb; subst hb
    unfold toDZs at ha
    split at ha
    · cases ha; simp [PyData.eqvAll, nrms]
    · cases ha
  | a :: as, j, da, b :: bs, i, db, ha, hb => by
    unfold toDZs at ha hb
    split at ha
    · rename_i d ds h1 h2
      cases ha
      split at hb
      · rename_i e es h3 h4
        cases hb
        have q1 := eqv_iff a j d b i e h1 h3
        have q2 := eqvs_iff as j ds bs i es h2 h4
        simp only [PyData.eqvAll, nrms, Bool.and_eq_true, List.cons.injEq, q1, q2]
      · cases hb
    · cases ha
end
theorem shaped_of {k : Nat} {d : PyData} (hk : k ≤ 60) (h : d.canLay0 = true) (h2 : d.depth ≤ k + 1) : SeqAt.shaped d = true := by
  unfold SeqAt.shaped
  rw [h, Bool.true_and]
  exact decide_eq_true (by omega)
theorem eqZ_gd {neg : Bool} {a b : Zv} {k l : Nat} (ha : gd k a = true) (hb : gd l b = true) (hk : k ≤ 60) (hl : l ≤ 60) : ∃ r : Bool, eqZ neg a b = .ok (.bl (xor neg r)) ∧ (r = true ↔ nrm a = nrm b) := by
  obtain ⟨da, a1, a2, a3⟩ := gd_data k a 60 hk ha
  obtain ⟨db, b1, b2, b3⟩ := gd_data l b 60 hl hb
  have key : ∃ r : Bool, (match toDZ 60 a, toDZ 60 b with
      | some d, some e => if SeqAt.shaped d && SeqAt.shaped e then Rz.ok (Zv.bl (xor neg (PyData.eqv d e))) else .stuck
      | _, _ => .stuck) = .ok (.bl (xor neg r)) ∧ (r = true ↔ nrm a = nrm b) := by
    refine ⟨PyData.eqv da db, ?_, eqv_iff a 60 da b 60 db a1 b1⟩
    simp only [a1, b1, shaped_of hk a2 a3, shaped_of hl b2 b3, Bool.and_self, if_true]
  unfold eqZ
  split <;> first
    | exact key
    | (rename_i i j; exact ⟨decide (i = j), rfl, by simp only [nrm, decide_eq_true_eq, Zv.int.injEq, Zv.str.injEq]⟩)
    | (rename_i i j; exact ⟨decide (i = j), rfl, by cases (i : Bool) <;> cases (j : Bool) <;> simp [nrm]⟩)
    | exact ⟨true, rfl, by simp [nrm]⟩
    | exact ⟨false, by simp, by simp [nrm]⟩
    | exact ⟨_, rfl, by simp [nrm]⟩
theorem inT_gd {neg : Bool} {x : Zv} {ys : List Zv} {k l : Nat} (hx : gd k x = true) (hy : ys.all (gd l) = true) (hk : k ≤ 60) (hl : l ≤ 59) : ∃ r : Bool, inT neg (.z x) (.z (.lst ys)) = .ok (.z (.bl (xor neg r))) ∧ inT neg (.z x) (.lst ys) = .ok (.z (.bl (xor neg r))) ∧ (r = true ↔ nrm x ∈ ys.map nrm) := by
  obtain ⟨dx, a1, a2, a3⟩ := gd_data k x 60 hk hx
  obtain ⟨ds, b1, b4⟩ := toDZs_of (k := 59) (P := fun v d => toDZ 59 v = some d ∧ d.canLay0 = true ∧ d.depth ≤ l + 1) (vs := ys) fun v hv => by
    obtain ⟨d, a, b, c⟩ := gd_data l v 59 hl (List.all_eq_true.mp hy v hv)
    exact ⟨d, a, a, b, c⟩
  have b2 := lay_all (fun _ _ z => z.2.1) b4
  have b3 := dep_all (fun _ _ z => z.2.2) b4
  have sh : SeqAt.shaped (.list ds) = true := by
    unfold SeqAt.shaped
    rw [show (PyData.list ds).canLay0 = true by simpa [PyData.canLay0] using b2, Bool.true_and]
    exact decide_eq_true (by simp [PyData.depth]; omega)
  have e60 : toDZ 60 (.lst ys) = some (.list ds) := by simp [toDZ, b1]
  have val : (match toDZ 60 x, toDZ 60 (.lst ys) with
      | some d, some (.list ds) => if SeqAt.shaped d && SeqAt.shaped (.list ds) then Rz.ok (T.z (.bl (xor neg (ds.any fun z => PyData.eqv z d)))) else .stuck
      | _, _ => .stuck) = .ok (.z (.bl (xor neg (ds.any fun z => PyData.eqv z dx)))) := by
    rw [a1, e60]
    simp only [shaped_of hk a2 a3, sh, Bool.and_self, if_true]
  refine ⟨ds.any fun z => PyData.eqv z dx, val, val, ?_⟩
  rw [List.any_eq_true]
  constructor
  · rintro ⟨d, hd, e⟩
    obtain ⟨i, hi, rfl⟩ := List.mem_iff_getElem.mp hd
    have hi' : i < ys.length := by rw [b4.length]; exact hi
    have q := a2_all b4 i ys[i] ds[i] (List.getElem?_eq_getElem hi') (List.getElem?_eq_getElem hi)
    have := (eqv_iff ys[i] 59 ds[i] x 60 dx q.1 a1).mp e
    rw [← this]
    exact List.mem_map.mpr ⟨ys[i], List.getElem_mem _, rfl⟩
  · intro h
    obtain ⟨y, hy', e⟩ := List.mem_map.mp h
    obtain ⟨i, hi, rfl⟩ := List.mem_iff_getElem.mp hy'
    have hi' : i < ds.length := by rw [← b4.length]; exact hi
    have q := a2_all b4 i ys[i] ds[i] (List.getElem?_eq_getElem hi) (List.getElem?_eq_getElem hi')
    exact ⟨ds[i], List.getElem_mem _, (eqv_iff ys[i] 59 ds[i] x 60 dx q.1 a1).mpr e⟩
section
variable {ps : PEnv} {pg : PG} {f : PS} {c : P1b}
theorem pLoop_map {α : Type} {Q : Rp → Prop} (en : α → Zv) (I : List α → PEnv → Prop) (xs : List α) (h0 : I [] ps)
    (st : ∀ pre x post ps, xs = pre ++ x :: post → I pre ps → ∃ ps1, pg (en x) ps = some ps1 ∧ stp (I (pre ++ [x])) Q (f ps1))
    (hd : ∀ ps, I xs ps → Q (.ok .nx ps)) : Q (pLoop pg f (xs.map en) ps) := by
  have key : ∀ (us pre : List α) (ps : PEnv), xs = pre ++ us → I pre ps → Q (pLoop pg f (us.map en) ps) := by
    intro us
    induction us with
    | nil => intro pre ps e h; rw [List.append_nil] at e; subst e; exact hd _ h
    | cons u us ih =>
      intro pre ps e h
      obtain ⟨ps1, e1, q⟩ := st pre u us ps e h
      rw [List.map_cons, pLoop_cons, e1]
      dsimp only
      cases z : f ps1 with
      | ok fl ps2 =>
        rw [z] at q
        cases fl with
        | nx => exact ih (pre ++ [u]) ps2 (by simp [e]) q
        | ct => exact ih (pre ++ [u]) ps2 (by simp [e]) q
        | bk => exact q
        | rt w => exact q
      | exc c ps2 => rw [z] at q; exact q
      | stuck => rw [z] at q; exact q
  exact key xs [] ps rfl h0
theorem pLoop_rng {Q : Rp → Prop} (I : Nat → PEnv → Prop) {lo : Int} {n : Nat} (h0 : I 0 ps)
    (st : ∀ j ps, j < n → I j ps → ∃ ps1, pg (.int (lo + (j : Int))) ps = some ps1 ∧ stp (I (j + 1)) Q (f ps1))
    (hd : ∀ ps, I n ps → Q (.ok .nx ps)) : Q (pLoop pg f (rngZ lo n) ps) :=
  pLoop_ind I (rngZ lo n) h0 (fun i v ps hv h => by
    unfold rngZ at hv
    rw [List.getElem?_map, Option.map_eq_some_iff] at hv
    obtain ⟨k, h1, rfl⟩ := hv
    obtain ⟨h3, h4⟩ := List.getElem?_eq_some_iff.mp h1
    simp at h3 h4
    subst h4
    exact st i ps h3 h) (fun ps h => hd ps (by simpa [rngZ] using h))
end
theorem rngZ_get {lo : Int} {n i : Nat} {v : Zv} (h : (rngZ lo n)[i]? = some v) : v = .int (lo + i) ∧ i < n := by
  unfold rngZ at h
  rw [List.getElem?_map, Option.map_eq_some_iff] at h
  obtain ⟨k, h1, h2⟩ := h
  have := List.getElem?_eq_some_iff.mp h1
  obtain ⟨h3, h4⟩ := this
  simp at h3 h4
  subst h4
  exact ⟨h2.symm, h3⟩
structure Enc (α : Type) where
  en : α → Zv
  d : Nat
  g : ∀ a, gd d (en a) = true
  inj : ∀ a b, nrm (en a) = nrm (en b) → a = b
theorem Enc.eq {α : Type} [DecidableEq α] (E : Enc α) (hd : E.d ≤ 60) (neg : Bool) (a b : α) : eqZ neg (E.en a) (E.en b) = .ok (.bl (xor neg (decide (a = b)))) := by
  obtain ⟨r, h1, h2⟩ := eqZ_gd (neg := neg) (E.g a) (E.g b) hd hd
  rw [h1]
  have : r = decide (a = b) := by
    by_cases c : a = b
    · rw [decide_eq_true c]; exact h2.mpr (by rw [c])
    · rw [decide_eq_false c]
      cases q : r with
      | false => rfl
      | true => exact absurd (E.inj a b (h2.mp q)) c
  rw [this]
theorem Enc.mem {α : Type} [DecidableEq α] (E : Enc α) (hd : E.d ≤ 59) (neg : Bool) (a : α) (xs : List α) : inT neg (.z (E.en a)) (.z (.lst (xs.map E.en))) = .ok (.z (.bl (xor neg (decide (a ∈ xs))))) ∧ inT neg (.z (E.en a)) (.lst (xs.map E.en)) = .ok (.z (.bl (xor neg (decide (a ∈ xs))))) := by
  obtain ⟨r, h1, h2, h3⟩ := inT_gd (neg := neg) (x := E.en a) (ys := xs.map E.en) (k := E.d) (l := E.d) (E.g a) (List.all_eq_true.mpr fun v hv => by
    obtain ⟨x, _, rfl⟩ := List.mem_map.mp hv
    exact E.g x) (by omega) hd
  rw [h1, h2]
  have : r = decide (a ∈ xs) := by
    have iff : r = true ↔ a ∈ xs := by
      rw [h3, List.map_map]
      constructor
      · intro h
        obtain ⟨y, hy, e⟩ := List.mem_map.mp h
        rw [← E.inj y a e]; exact hy
      · exact fun h => List.mem_map.mpr ⟨a, h, rfl⟩
    by_cases c : a ∈ xs
    · rw [decide_eq_true c]; exact iff.mpr c
    · rw [decide_eq_false c]
      cases q : r with
      | false => rfl
      | true => exact absurd (iff.mp q) c
  rw [this]; exact ⟨rfl, rfl⟩
def eInt : Enc Int := ⟨.int, 0, fun _ => rfl, fun a b h => by simpa [nrm] using h⟩
def Enc.lst {α : Type} (E : Enc α) : Enc (List α) := ⟨fun xs => .lst (xs.map E.en), E.d + 1, fun xs => List.all_eq_true.mpr fun v hv => by
    obtain ⟨x, _, rfl⟩ := List.mem_map.mp hv
    exact E.g x, fun a b h => by
    simp only [nrm, nrms_map, Zv.lst.injEq, List.map_map] at h
    have : ∀ (a b : List α), a.map (nrm ∘ E.en) = b.map (nrm ∘ E.en) → a = b := by
      intro a
      induction a with
      | nil => intro b h; cases b <;> simp at h ⊢
      | cons x a ih =>
        intro b h
        cases b with
        | nil => simp at h
        | cons y b =>
          simp at h
          rw [E.inj x y h.1, ih b (by simpa using h.2)]
    exact this a b h⟩
theorem tyT_n : tyT (.z .non) = some (.inl "NoneType") := id rfl
theorem tyT_b {b : Bool} : tyT (.z (.bl b)) = some (.inl "bool") := id rfl
theorem tyT_i {b : Int} : tyT (.z (.int b)) = some (.inl "int") := id rfl
theorem tyT_s {b : Str} : tyT (.z (.str b)) = some (.inl "str") := id rfl
theorem tyT_t {b : List Zv} : tyT (.z (.tup b)) = some (.inl "tuple") := id rfl
theorem tyT_f {b : List Zv} : tyT (.z (.frz b)) = some (.inl "list") := id rfl
theorem tyT_l {b : List Zv} : tyT (.z (.lst b)) = some (.inl "list") := id rfl
theorem tyT_o {b : List Zv} : tyT (.lst b) = some (.inl "list") := id rfl
theorem tyT_zd {b : List (Zv × Zv)} : tyT (.z (.dct false b)) = some (.inl "dict") := id rfl
theorem tyT_zins {c : Str} {b : List (Str × Zv)} : tyT (.z (.ins c b)) = some (.inr c) := id rfl
theorem small_ap {i : Int} : small i = (decide (-18446744073709551616 < i) && decide (i < 18446744073709551616)) := id rfl
theorem kitx_NoneType_str : kitB "NoneType" "str" = some false := by decide +kernel
theorem kitx_NoneType_tuple : kitB "NoneType" "tuple" = some false := by decide +kernel
theorem kitx_bool_int : kitB "bool" "int" = some true := by decide +kernel
theorem kitx_bool_bool : kitB "bool" "bool" = some true := by decide +kernel
theorem kitx_bool_str : kitB "bool" "str" = some false := by decide +kernel
theorem kitx_bool_tuple : kitB "bool" "tuple" = some false := by decide +kernel
theorem kitx_int_int : kitB "int" "int" = some true := by decide +kernel
theorem kitx_int_bool : kitB "int" "bool" = some false := by decide +kernel
theorem kitx_int_str : kitB "int" "str" = some false := by decide +kernel
theorem kitx_int_tuple : kitB "int" "tuple" = some false := by decide +kernel
theorem kitx_str_str : kitB "str" "str" = some true := by decide +kernel
theorem kitx_str_tuple : kitB "str" "tuple" = some false := by decide +kernel
theorem kitx_tuple_str : kitB "tuple" "str" = some false := by decide +kernel
theorem kitx_tuple_tuple : kitB "tuple" "tuple" = some true := by decide +kernel
theorem kitx_list_str : kitB "list" "str" = some false := by decide +kernel
theorem kitx_list_list : kitB "list" "list" = some true := by decide +kernel
theorem kitx_list_tuple : kitB "list" "tuple" = some false := by decide +kernel
theorem kitx_dict_str : kitB "dict" "str" = some false := by decide +kernel
theorem kitx_dict_tuple : kitB "dict" "tuple" = some false := by decide +kernel
theorem atI_nat' {α : Type} {xs : List α} {i : Int} (h0 : 0 ≤ i) (h1 : i < xs.length) : L2.atI xs i = xs[i.toNat]? := by
  unfold L2.atI L2.ixN
  rw [if_pos h0, if_pos h1]; rfl
theorem atI_k0 {α : Type} {x0 : α} {xs : List α} : L2.atI (x0 :: xs) 0 = some x0 := by
  rw [atI_nat' (by decide) (by simp only [List.length_cons]; omega)]; rfl
theorem atI_k1 {α : Type} {x0 x1 : α} {xs : List α} : L2.atI (x0 :: x1 :: xs) 1 = some x1 := by
  rw [atI_nat' (by decide) (by simp only [List.length_cons]; omega)]; rfl
theorem atI_k2 {α : Type} {x0 x1 x2 : α} {xs : List α} : L2.atI (x0 :: x1 :: x2 :: xs) 2 = some x2 := by
  rw [atI_nat' (by decide) (by simp only [List.length_cons]; omega)]; rfl
theorem rngZ_len {lo : Int} {n : Nat} : (rngZ lo n).length = n := by simp [rngZ]
theorem mapI_get {xs : List Int} {i : Nat} {v : Zv} (h : (xs.map Zv.int)[i]? = some v) : ∃ z, v = .int z ∧ xs[i]? = some z := by
  rw [List.getElem?_map, Option.map_eq_some_iff] at h
  obtain ⟨k, h1, h2⟩ := h
  exact ⟨k, h2.symm, h1⟩
theorem map_app1 {α β : Type} {f : α → β} {xs : List α} {x : α} : xs.map f ++ [f x] = (xs ++ [x]).map f := by simp
end ZP

namespace ZP
open PySem L2 Z
theorem lk_nil {α : Type} {c : Str} : List.lookup c ([] : List (Str × α)) = none := id rfl
theorem lk_cons {α : Type} {c d : Str} {v : α} {r : List (Str × α)} : List.lookup c ((d, v) :: r) = (match c == d with
  | true => some v
  | false => List.lookup c r) := id rfl
theorem str_beq {c : Str} : (c == c) = true := by simp
theorem ne_sent__bag : (Str.ofString "sent" = Str.ofString "_bag") = False := eq_false (by decide +kernel)
theorem ne__bag_sent : (Str.ofString "_bag" = Str.ofString "sent") = False := eq_false (by decide +kernel)
theorem fo_Network_sent : (fieldsOf (Str.ofString "Network")).contains (Str.ofString "sent") = true := by decide +kernel
theorem fo_Network__bag : (fieldsOf (Str.ofString "Network")).contains (Str.ofString "_bag") = true := by decide +kernel
end ZP

namespace ZP
open PySem L2 Z
def kqZ : Zv → Zv → Bool
  | .int a, .int b => decide (a = b)
  | .str a, .str b => decide (a = b)
  | _, _ => false
def kqsZ : List Zv → List Zv → Bool
  | [], [] => true
  | a :: x, b :: y => kqZ a b && kqsZ x y
  | _, _ => false
def keyZ : Zv → Bool
  | .int _ | .str _ => true
  | _ => false
def kqT : Zv → Zv → Bool
  | .tup a, .tup b => kqsZ a b
  | a, b => kqZ a b
def getZ (k : Zv) : List (Zv × Zv) → Option Zv
  | [] => none
  | (l, x) :: r => if kqT l k then some x else getZ k r
theorem keyB_w {S : Cel} {h : Hq} {w : W} {v : Zv} (d : DZ S h w v) (e : keyZ v = true) : keyB w = true := by
  cases v with
  | int i => cases dz_int_iff.mp d; rfl
  | str i => cases dz_str_iff.mp d; rfl
  | _ => cases e
theorem keysB_w {S : Cel} {h : Hq} : ∀ {ws : List W} {vs : List Zv}, A2 (DZ S h) ws vs → vs.all keyZ = true → ws.all keyB = true
  | _, _, .nil, _ => rfl
  | _, _, .cons r m, f => by
    rw [List.all_cons, Bool.and_eq_true] at f
    rw [List.all_cons, keyB_w r f.1, keysB_w m f.2]; rfl
theorem kq_w {S : Cel} {h : Hq} {l k : W} {vl vk : Zv} (a : DZ S h l vl) (b : DZ S h k vk) (e : keyZ vk = true) : W.beq l k = kqZ vl vk := by
  cases vk with
  | int i =>
    cases dz_int_iff.mp b
    cases vl with
    | int j => cases dz_int_iff.mp a; unfold W.beq kqZ; by_cases q : j = i <;> simp [q]
    | non => cases dz_non_iff.mp a; rfl
    | bl c => cases dz_bl_iff.mp a; rfl
    | str c => cases dz_str_iff.mp a; rfl
    | tup c => obtain ⟨ws, rfl, _⟩ := dz_tup_iff.mp a; rfl
    | frz c => obtain ⟨ws, rfl, _⟩ := dz_frz_iff.mp a; rfl
    | lst c => obtain ⟨n, tg, ws, rfl, _⟩ := dz_lst_iff.mp a; rfl
    | dct c d => obtain ⟨n, tg, ws, rfl, _⟩ := dz_dct_iff.mp a; rfl
    | ins c d => obtain ⟨n, ws, rfl, _⟩ := dz_ins_iff.mp a; rfl
    | exn c d => cases dz_exn_iff.mp a; rfl
  | str i =>
    cases dz_str_iff.mp b
    cases vl with
    | str j => cases dz_str_iff.mp a; unfold W.beq kqZ; by_cases q : j = i <;> simp [q]
    | non => cases dz_non_iff.mp a; rfl
    | bl c => cases dz_bl_iff.mp a; rfl
    | int c => cases dz_int_iff.mp a; rfl
    | tup c => obtain ⟨ws, rfl, _⟩ := dz_tup_iff.mp a; rfl
    | frz c => obtain ⟨ws, rfl, _⟩ := dz_frz_iff.mp a; rfl
    | lst c => obtain ⟨n, tg, ws, rfl, _⟩ := dz_lst_iff.mp a; rfl
    | dct c d => obtain ⟨n, tg, ws, rfl, _⟩ := dz_dct_iff.mp a; rfl
    | ins c d => obtain ⟨n, ws, rfl, _⟩ := dz_ins_iff.mp a; rfl
    | exn c d => cases dz_exn_iff.mp a; rfl
  | _ => cases e
theorem kqs_w {S : Cel} {h : Hq} : ∀ {ls ks : List W} {vl vk : List Zv}, A2 (DZ S h) ls vl → A2 (DZ S h) ks vk → vk.all keyZ = true → W.beqs ls ks = kqsZ vl vk
  | _, _, _, _, .nil, .nil, _ => by simp [W.beqs, kqsZ]
  | _, _, _, _, .nil, .cons _ _, _ => by simp [W.beqs, kqsZ]
  | _, _, _, _, .cons _ _, .nil, _ => by simp [W.beqs, kqsZ]
  | _, _, _, _, .cons a m, .cons b n, e => by
    rw [List.all_cons, Bool.and_eq_true] at e
    unfold W.beqs kqsZ
    rw [kq_w a b e.1, kqs_w m n e.2]
def kokZ : Bool → Zv → Bool
  | false, k => keyZ k
  | true, .tup ks => ks.all keyZ
  | true, _ => false
theorem kqT_key {vl vk : Zv} (e : keyZ vk = true) : kqT vl vk = kqZ vl vk := by
  cases vk <;> first | (cases e; done) | (cases vl <;> rfl)
theorem kq_ok {S : Cel} {h : Hq} {l k : W} {vl vk : Zv} {b : Bool} (a : DZ S h l vl) (d : DZ S h k vk) (e : kokZ b vk = true) : W.beq l k = kqT vl vk := by
  cases b with
  | false => rw [kqT_key e]; exact kq_w a d e
  | true =>
    cases vk with
    | tup ks =>
      obtain ⟨ws, rfl, m⟩ := dz_tup_iff.mp d
      cases vl with
      | tup c => obtain ⟨us, rfl, m2⟩ := dz_tup_iff.mp a; unfold W.beq; exact kqs_w m2 m e
      | non => cases dz_non_iff.mp a; rfl
      | bl c => cases dz_bl_iff.mp a; rfl
      | int c => cases dz_int_iff.mp a; rfl
      | str c => cases dz_str_iff.mp a; rfl
      | frz c => obtain ⟨ws, rfl, _⟩ := dz_frz_iff.mp a; rfl
      | lst c => obtain ⟨n, tg, ws, rfl, _⟩ := dz_lst_iff.mp a; rfl
      | dct c d => obtain ⟨n, tg, ws, rfl, _⟩ := dz_dct_iff.mp a; rfl
      | ins c d => obtain ⟨n, ws, rfl, _⟩ := dz_ins_iff.mp a; rfl
      | exn c d => cases dz_exn_iff.mp a; rfl
    | _ => cases e
theorem get_w {S : Cel} {h : Hq} {k : W} {vk : Zv} {b : Bool} (d : DZ S h k vk) (e : kokZ b vk = true) : ∀ {ws : List (W × W)} {vs : List (Zv × Zv)}, A2 (DZ2 S h) ws vs → match getZ vk vs with
    | some v => ∃ w, getW k ws = some w ∧ DZ S h w v
    | none => getW k ws = none
  | _, _, .nil => rfl
  | (l, x) :: ws, (vl, vx) :: vs, .cons r m => by
    unfold getZ getW
    rw [kq_ok r.1 d e]
    by_cases c : kqT vl vk = true
    · rw [if_pos c, if_pos c]; exact ⟨x, rfl, r.2⟩
    · rw [if_neg c, if_neg c]; exact get_w d e m
def dctT : T → Option (Bool × List (Zv × Zv))
  | .z (.dct k kvs) | .dct k kvs => some (k, kvs)
  | _ => none
theorem dct_w {S : Cel} {h : Hq} {x : W} {t : T} (r : Rdb S h x t) : match dctT t with
    | some (k, kvs) => ∃ n tg ws, x = .ref n ∧ h[n]? = some (.dct tg k ws) ∧ A2 (DZ2 S h) ws kvs
    | none => isDW h x = false := by
  cases t with
  | z v =>
    have z := r.z
    cases v with
    | dct k kvs => obtain ⟨n, tg, ws, rfl, _, hn, a⟩ := dz_dct_iff.mp z; exact ⟨n, tg, ws, rfl, hn, a⟩
    | non => cases dz_non_iff.mp z; rfl
    | bl c => cases dz_bl_iff.mp z; rfl
    | int c => cases dz_int_iff.mp z; rfl
    | str c => cases dz_str_iff.mp z; rfl
    | tup c => obtain ⟨ws, rfl, _⟩ := dz_tup_iff.mp z; rfl
    | frz c => obtain ⟨ws, rfl, _⟩ := dz_frz_iff.mp z; rfl
    | lst c => obtain ⟨n, tg, ws, rfl, _, hn, _⟩ := dz_lst_iff.mp z; show isDW h (.ref n) = false; simp only [isDW, hn]
    | ins c d => obtain ⟨n, ws, rfl, _, hn, _⟩ := dz_ins_iff.mp z; show isDW h (.ref n) = false; simp only [isDW, hn]
    | exn c d => cases dz_exn_iff.mp z; rfl
  | dct k kvs => obtain ⟨o, d, _⟩ := r; obtain ⟨n, tg, ws, rfl, _, hn, a⟩ := D.dct_iff.mp d; exact ⟨n, 0, ws, rfl, hn, a⟩
  | lst c => obtain ⟨o, d, _⟩ := r; obtain ⟨n, tg, ws, rfl, _, hn, _⟩ := D.lst_iff.mp d; show isDW h (.ref n) = false; simp only [isDW, hn]
  | nst c => obtain ⟨o, d, _⟩ := r; obtain ⟨n, tg, ws, rfl, _, hn, _⟩ := D.nst_iff.mp d; show isDW h (.ref n) = false; simp only [isDW, hn]
  | ins c f => obtain ⟨o, d, _⟩ := r; obtain ⟨n, ws, rfl, _, hn, _⟩ := D.ins_iff.mp d; show isDW h (.ref n) = false; simp only [isDW, hn]
theorem dget_w {S : Cel} {h : Hq} {n tg : Nat} {b : Bool} {ws : List (W × W)} {kvs : List (Zv × Zv)} {k : W} {vk : Zv} (hn : h[n]? = some (.dct tg b ws)) (a : A2 (DZ2 S h) ws kvs) (d : DZ S h k vk) (e : kokZ b vk = true) : match getZ vk kvs with
    | some v => ∃ w, dgetW h (.ref n) k = some (some w) ∧ DZ S h w v
    | none => dgetW h (.ref n) k = some none := by
  have g := get_w d e a
  cases b with
  | false =>
    have kb := keyB_w d e
    unfold dgetW
    simp only [hn, kb, if_true]
    cases q : getZ vk kvs with
    | none => rw [q] at g; simp only [g]
    | some v => rw [q] at g; obtain ⟨w, e1, e2⟩ := g; exact ⟨w, by simp only [e1], e2⟩
  | true =>
    cases vk with
    | tup ks =>
      obtain ⟨us, rfl, m⟩ := dz_tup_iff.mp d
      have kb := keysB_w m e
      unfold dgetW
      simp only [hn, kb, if_true]
      cases q : getZ (.tup ks) kvs with
      | none => rw [q] at g; simp only [g]
      | some v => rw [q] at g; obtain ⟨w, e1, e2⟩ := g; exact ⟨w, by simp only [e1], e2⟩
    | _ => cases e
def inDT (neg : Bool) : G2 := fun t u => match dctT u with
  | some (b, kvs) => (match t with
    | .z k => if kokZ b k then .ok (.z (.bl (xor neg (getZ k kvs).isSome))) else .stuck
    | _ => .stuck)
  | none => inT neg t u
theorem op_inD2 {neg : Bool} : Op2 (inDW neg) (inDT neg) := fun S h x y t u s ra rb => by
  have db := dct_w rb
  unfold inDT inDW
  cases e : dctT u with
  | none =>
    rw [e] at db
    dsimp only at db ⊢
    rw [db]
    exact op_in S h x y t u s ra rb
  | some p =>
    obtain ⟨b, kvs⟩ := p
    rw [e] at db
    obtain ⟨n, tg, ws, rfl, hn, a⟩ := db
    dsimp only
    cases t with
    | z k =>
      dsimp only
      by_cases c : kokZ b k = true
      · rw [if_pos c]
        have g := dget_w hn a ra.z c
        have i : isDW h (.ref n) = true := by simp only [isDW, hn]
        rw [i, if_pos rfl]
        cases q : getZ k kvs with
        | none => rw [q] at g; rw [g]; exact ⟨_, h, S, rfl, Wx.refl, s, .z dz_bl⟩
        | some v => rw [q] at g; obtain ⟨w, e1, _⟩ := g; rw [e1]; exact ⟨_, h, S, rfl, Wx.refl, s, .z dz_bl⟩
      · rw [if_neg c]; trivial
    | _ => trivial
def dgW : F2 := fun x y h => match dgetW h x y with
  | some (some r) => .ok r h
  | _ => .stuck
def dgT : G2 := fun t u => match dctT t, u with
  | some (b, kvs), .z k => if kokZ b k then (match getZ k kvs with
    | some v => .ok (.z v)
    | none => .stuck) else .stuck
  | _, _ => .stuck
theorem op_dg : Op2 dgW dgT := fun S h x y t u s ra rb => by
  have da := dct_w ra
  unfold dgT dgW
  cases e : dctT t with
  | none => trivial
  | some p =>
    obtain ⟨b, kvs⟩ := p
    rw [e] at da
    obtain ⟨n, tg, ws, rfl, hn, a⟩ := da
    cases u with
    | z k =>
      dsimp only
      by_cases c : kokZ b k = true
      · rw [if_pos c]
        have g := dget_w hn a rb.z c
        cases q : getZ k kvs with
        | none => trivial
        | some v => rw [q] at g; obtain ⟨w, e1, e2⟩ := g; rw [e1]; exact ⟨_, h, S, rfl, Wx.refl, s, .z e2⟩
      · rw [if_neg c]; trivial
    | _ => trivial
section
variable {A B B' : List Nat}
def pIxD (p q : P0) : P0 := fun ps => (p ps).bind fun t => if (dctT t).isSome then (q ps).bind fun u => dgT t u else (q ps).bind fun u => ixT t u
theorem j_ixD {a b : ME} {p q : P0} (ja : J0b A B a p) (jb : J0b A B' b q) : J0b A B (eIxD a b) (pIxD p q) := fun S h X O ρ ps v => by
  have hja := ja S h X O ρ ps v
  have d1 := (j_bin op_dg ja jb S h X O ρ ps v).mono (K' := fun w t S' h' => Br B S' h h' X O w t) fun _ _ _ _ _ _ f => f.br
  have d2 := j_ix ja jb S h X O ρ ps v
  unfold eIxD isDM pIxD
  unfold pBin eBin at d1 d2
  revert hja d1 d2
  cases p ps with
  | stuck => exact fun _ _ _ => trivial
  | exc c =>
    rintro ⟨h1, S1, e1, a1, s1⟩ d1 d2
    rw [e1] at d2 ⊢
    unfold eBin
    rw [e1]
    exact d2
  | ok t =>
    rintro ⟨x, h1, S1, e1, a1, s1, k1⟩ d1 d2
    have da := dct_w k1.rdb
    rw [e1]
    show Po S h (if isDW h1 x = true then eDgetS a b ρ h else eBin ixW a b ρ h) (if (dctT t).isSome = true then _ else _) _
    cases e : dctT t with
    | none =>
      rw [e] at da
      dsimp only at da
      rw [da]
      exact d2
    | some z =>
      obtain ⟨b', kvs⟩ := z
      rw [e] at da
      obtain ⟨n, tg, ws, rfl, hn, _⟩ := da
      have i : isDW h1 (.ref n) = true := by simp only [isDW, hn]
      rw [i]
      exact d1
def pDn (k : Bool) : P0 := fun _ => .ok (.dct k [])
theorem j_dn {k : Bool} : J0f A (eDnew k) (pDn k) := fun S h X O ρ ps v => Po.app v.s (by
  refine ⟨fun n => if n = h.length then some [] else none, D.dct_iff.mpr ⟨h.length, 0, [], rfl, by simp, by simp, .nil⟩, fun n q => ?_⟩
  by_cases c : n = h.length
  · subst c
    refine ⟨Nat.le_refl _, by simp, ?_⟩
    cases e : S h.length with
    | false => rfl
    | true => have := v.s _ e; omega
  · simp [c] at q)
end
end ZP

namespace ZP
open PySem L2 Z
def hasZ (k : Zv) (kvs : List (Zv × Zv)) : Bool := kvs.any fun p => kqT p.1 k
def putZ (kvs : List (Zv × Zv)) (k v : Zv) : List (Zv × Zv) := if hasZ k kvs then kvs.map fun p => if kqT p.1 k then (p.1, v) else p else kvs ++ [(k, v)]
theorem has_w {S : Cel} {h : Hq} {k : W} {vk : Zv} {b : Bool} (d : DZ S h k vk) (e : kokZ b vk = true) : ∀ {ws : List (W × W)} {vs : List (Zv × Zv)}, A2 (DZ2 S h) ws vs → hasW k ws = hasZ vk vs
  | _, _, .nil => rfl
  | _ :: _, _ :: _, .cons r m => by
    unfold hasW hasZ
    rw [List.any_cons, List.any_cons, kq_ok r.1 d e]
    have := has_w d e m
    unfold hasW hasZ at this
    rw [this]
theorem repl_w {S : Cel} {h : Hq} {k x : W} {vk vx : Zv} {b : Bool} (d : DZ S h k vk) (e : kokZ b vk = true) (dx : DZ S h x vx) : ∀ {ws : List (W × W)} {vs : List (Zv × Zv)}, A2 (DZ2 S h) ws vs → A2 (DZ2 S h) (ws.map fun p => if W.beq p.1 k then (p.1, x) else p) (vs.map fun p => if kqT p.1 vk then (p.1, vx) else p)
  | _, _, .nil => .nil
  | _ :: _, _ :: _, .cons r m => by
    rw [List.map_cons, List.map_cons, kq_ok r.1 d e]
    refine .cons ?_ (repl_w d e dx m)
    split
    · exact ⟨r.1, dx⟩
    · exact r
theorem put_w {S : Cel} {h : Hq} {k x : W} {vk vx : Zv} {b : Bool} (d : DZ S h k vk) (e : kokZ b vk = true) (dx : DZ S h x vx) {ws : List (W × W)} {vs : List (Zv × Zv)} (m : A2 (DZ2 S h) ws vs) : A2 (DZ2 S h) (putKW ws k x) (putZ vs vk vx) := by
  unfold putKW putZ
  rw [has_w d e m]
  split
  · exact repl_w d e dx m
  · exact m.append (.cons ⟨d, dx⟩ .nil)
theorem dput_w {S : Cel} {h : Hq} {n : Nat} {b : Bool} {ws : List (W × W)} {kvs : List (Zv × Zv)} {k x : W} {vk : Zv} (hn : h[n]? = some (.dct 0 b ws)) (a : A2 (DZ2 S h) ws kvs) (d : DZ S h k vk) (e : kokZ b vk = true) (l : kvs.length < sizeLine) :
    dputW h (.ref n) k x = some (h.set n (.dct 0 b (putKW ws k x))) := by
  have l' : ws.length < sizeLine := by rw [a.length]; exact l
  cases b with
  | false =>
    have kb := keyB_w d e
    unfold dputW
    simp only [hn, kb, decide_eq_true l', Bool.and_self, if_true]
  | true =>
    cases vk with
    | tup ks =>
      obtain ⟨us, rfl, m⟩ := dz_tup_iff.mp d
      have kb := keysB_w m e
      unfold dputW
      simp only [hn, kb, decide_eq_true l', Bool.and_self, if_true]
    | _ => cases e
def putPD (r : Nat) (q : Pth) (ti tv : T) (ps : PEnv) : Rp := match atT ps r q with
  | some (.dct b kvs) => (match ti, tv with
    | .z k, .z v => if kokZ b k && decide (kvs.length < sizeLine) then (match updR ps r q (.dct b (putZ kvs k v)) with
      | some ps3 => .ok .nx ps3
      | none => .stuck) else .stuck
    | _, _ => .stuck)
  | _ => putP r q ti tv ps
def ownP (r : Nat) (q : Pth) (ps : PEnv) : Bool := match atT ps r q with
  | some (.z _) => false
  | _ => true
section
variable {A B B' : List Nat}
def pPutD (r : Nat) (po : P0p) (pi pe : P0) : PS := fun ps => (pe ps).toP ps fun tv => (po ps).toP ps fun q => if ownP r q ps then (pi ps).toP ps fun ti => putPD r q ti tv ps else .stuck
theorem js_putD {r : Nat} {o i e : ME} {po : P0p} {pi pe : P0} (hr : r ∉ A) (jo : JP A r o po) (ji : J0b A B i pi) (je : J0b A B' e pe) : JS A (sPutD o i e) (pPutD r po pi pe) := fun S h X O ρ ps v => by
  have d2 := js_put hr jo ji je S h X O ρ ps v
  have hje := je S h X O ρ ps v
  unfold sPutD isDM2 pPutD
  unfold pPut at d2
  revert hje d2
  cases pe ps with
  | stuck => exact fun _ _ => trivial
  | exc c =>
    rintro d2 ⟨h1, S1, e1, a1, s1⟩
    rw [e1]
    exact d2
  | ok tv =>
    rintro d2 ⟨y, h1, S1, e1, a1, s1, ky⟩
    rw [e1]
    have v1 := v.ext a1 s1
    have hjo := jo S1 h1 X O ρ ps v1
    change PoS A S h X O (if isDM o ρ h1 = true then sDput o i e ρ h else sPut o i e ρ h) ((po ps).toP ps fun q => if ownP r q ps then (pi ps).toP ps fun ti => putPD r q ti tv ps else .stuck)
    change PoS A S h X O (sPut o i e ρ h) ((po ps).toP ps fun q => (pi ps).toP ps fun ti => putP r q ti tv ps) at d2
    unfold isDM
    revert hjo d2
    cases po ps with
    | stuck => exact fun _ _ => trivial
    | exc c =>
      rintro ⟨h2, S2, e2, a2, s2⟩ d2
      rw [e2]
      exact d2
    | ok q =>
      rintro ⟨x, h2, S2, e2, a2, s2, k⟩ d2
      rw [e2]
      have v2 := v1.ext a2 s2
      obtain ⟨u, e3, d⟩ := k.tree v2
      change PoS A S h X O (if isDW h2 x = true then sDput o i e ρ h else sPut o i e ρ h) (if ownP r q ps = true then (pi ps).toP ps fun ti => putPD r q ti tv ps else .stuck)
      by_cases cz : ownP r q ps = true
      case neg => rw [if_neg cz]; trivial
      rw [if_pos cz]
      change PoS A S h X O (sPut o i e ρ h) ((pi ps).toP ps fun ti => putP r q ti tv ps) at d2
      have nd : (∀ b kvs, u ≠ .dct b kvs) → (fun ti => putPD r q ti tv ps) = fun ti => putP r q ti tv ps := fun z => by
        funext ti
        unfold putPD
        rw [e3]
        cases u with
        | dct b kvs => exact absurd rfl (z b kvs)
        | _ => rfl
      have other : (∀ b kvs, u ≠ .dct b kvs) → isDW h2 x = false → PoS A S h X O (if isDW h2 x = true then sDput o i e ρ h else sPut o i e ρ h) ((pi ps).toP ps fun ti => putPD r q ti tv ps) := fun z w => by
        rw [nd z, w]; exact d2
      cases u with
      | dct b kvs =>
        obtain ⟨n, tg, ws, rfl, on, hn, ch⟩ := D.dct_iff.mp d
        have i1 : isDW h2 (.ref n) = true := by simp only [isDW, hn]
        rw [i1]
        show PoS A S h X O ((e ρ h).toS ρ fun y h1 => (o ρ h1).toS ρ fun x h2 => (i ρ h2).toS ρ fun k h3 => match dputW h3 x k y with
          | some h4 => .ok .nx ρ h4
          | none => .stuck) _
        rw [e1]
        show PoS A S h X O ((o ρ h1).toS ρ fun x h2 => (i ρ h2).toS ρ fun k h3 => match dputW h3 x k y with
          | some h4 => .ok .nx ρ h4
          | none => .stuck) _
        rw [e2]
        refine PoS.up (a1.trans a2).wd ?_
        show PoS A S2 h2 X O ((i ρ h2).toS ρ fun k h3 => match dputW h3 (.ref n) k y with
          | some h4 => .ok .nx ρ h4
          | none => .stuck) _
        refine (ji S2 h2 X O ρ ps v2).toS v2 fun z ti S3 h3 a3 v3 kz => ?_
        have k3 := k.ext a3
        obtain ⟨u', e4, d'⟩ := k3.tree v3
        unfold putPD
        rw [e4]
        cases e3.symm.trans e4
        cases ti with
        | z vk =>
          cases tv with
          | z vv =>
            dsimp only
            by_cases c : (kokZ b vk && decide (kvs.length < sizeLine)) = true
            · rw [if_pos c]
              rw [Bool.and_eq_true, decide_eq_true_eq] at c
              cases eu : updR ps r q (.dct b (putZ kvs vk vv)) with
              | none => trivial
              | some ps3 =>
                obtain ⟨n', tg', ws', en, on', hn', ch'⟩ := D.dct_iff.mp d'
                cases en
                have dy := ky.z.ext (a2.trans a3) v1.s
                have nS := (v3.o n (sl_none (by rw [on']; simp))).2.1
                have es := dput_w (x := y) hn' ch' kz.z c.1 c.2
                obtain ⟨O3, w3, v4⟩ := write_flat (ob := .dct 0 b (putKW ws' z y)) hr v3 k3 eu on' fun o1 h5 => D.dct_iff.mpr ⟨n, tg', _, rfl, h5, List.getElem?_set_self (lt_of_get hn'), (put_w kz.z c.1 dy ch').imp fun _ _ _ _ p => ⟨p.1.mono (fun _ q => q) (set_hh nS), p.2.mono (fun _ q => q) (set_hh nS)⟩⟩
                rw [es]
                exact ⟨.nx, ρ, _, S3, O3, rfl, w3, v4, trivial⟩
            · rw [if_neg c]; trivial
          | _ => trivial
        | _ => trivial
      | z w => unfold ownP at cz; rw [e3] at cz; cases cz
      | lst c => exact other (fun _ _ z => by cases z) (by obtain ⟨n, tg, ws, rfl, _, hn, _⟩ := D.lst_iff.mp d; simp only [isDW, hn])
      | nst c => exact other (fun _ _ z => by cases z) (by obtain ⟨n, tg, ws, rfl, _, hn, _⟩ := D.nst_iff.mp d; simp only [isDW, hn])
      | ins c f => exact other (fun _ _ z => by cases z) (by obtain ⟨n, ws, rfl, _, hn, _⟩ := D.ins_iff.mp d; simp only [isDW, hn])
end
end ZP

namespace ZP
open PySem L2 Z
section
variable {p q r : P0} {ps : PEnv} {t u : T} {k : Bool} {kvs : List (Zv × Zv)} {neg : Bool} {xs : List Zv} {ts : List T} {x : Zv} {s c : Str} {fs : List (Str × Zv)} {fo : List (Str × T)}
def ixDT : G2 := fun t u => if (dctT t).isSome then dgT t u else ixT t u
theorem pIxD_ap : pIxD p q ps = (p ps).bind fun t => (q ps).bind fun u => ixDT t u := by
  unfold pIxD ixDT
  congr 1
  funext t
  cases (dctT t).isSome <;> simp
def dgk (b : Bool) (kvs : List (Zv × Zv)) (k : Zv) : Rz T := if kokZ b k then (match getZ k kvs with
    | some v => .ok (.z v)
    | none => .stuck) else .stuck
def inDk (neg b : Bool) (kvs : List (Zv × Zv)) (k : Zv) : Rz T := if kokZ b k then .ok (.z (.bl (xor neg (getZ k kvs).isSome))) else .stuck
theorem pDn_ap : pDn k ps = .ok (.dct k []) := id rfl
theorem ixDT_zl : ixDT (.z (.lst xs)) u = ixT (.z (.lst xs)) u := id rfl
theorem ixDT_n : ixDT (.nst ts) u = ixT (.nst ts) u := id rfl
theorem ixDT_d : ixDT (.dct k kvs) (.z x) = dgk k kvs x := id rfl
theorem ixDT_zd : ixDT (.z (.dct k kvs)) (.z x) = dgk k kvs x := id rfl
theorem inDT_d : inDT neg (.z x) (.dct k kvs) = inDk neg k kvs x := id rfl
def putDk (i : Nat) (q : Pth) (b : Bool) (kvs : List (Zv × Zv)) (k v : Zv) (ps : PEnv) : Rp := if kokZ b k && decide (kvs.length < sizeLine) then (match updR ps i q (.dct b (putZ kvs k v)) with
      | some ps3 => .ok .nx ps3
      | none => .stuck) else .stuck
def putDD (pi : P0) (i : Nat) (k : Pth) (tv : T) (ps : PEnv) : Option T → Rp
  | some (.z _) => .stuck
  | some (.dct b kvs) => (pi ps).toP ps fun ti => match ti, tv with
    | .z x, .z v => putDk i k b kvs x v ps
    | _, _ => .stuck
  | _ => (pi ps).toP ps fun ti => putP i k ti tv ps
theorem pPutD_ap {i : Nat} {po : P0p} : pPutD i po p q ps = (q ps).toP ps fun tv => (po ps).toP ps fun k => putDD p i k tv ps (atT ps i k) := by
  unfold pPutD
  congr 1
  funext tv
  congr 1
  funext k
  unfold ownP putPD putDD putDk
  cases atT ps i k with
  | none => rfl
  | some u => cases u <;> first | rfl | (rw [if_neg (by simp)])
theorem putDD_d {i : Nat} {k : Pth} {b : Bool} {v : Zv} : putDD p i k (.z v) ps (some (.dct b kvs)) = (p ps).toP ps fun ti => match ti with
    | .z x => putDk i k b kvs x v ps
    | _ => .stuck := by
  show ((p ps).toP ps fun ti => _) = _
  congr 1
  funext ti
  cases ti <;> rfl
end
structure KEnc (κ : Type) [DecidableEq κ] where
  e : κ → Zv
  b : Bool
  ok : ∀ k, kokZ b (e k) = true
  eq : ∀ k l, kqT (e k) (e l) = decide (k = l)
def KI : KEnc Int := ⟨Zv.int, false, fun _ => rfl, fun _ _ => rfl⟩
section
variable {κ α : Type} [DecidableEq κ] (K : KEnc κ) (f : α → Zv)
def dZ (l : List (κ × α)) : List (Zv × Zv) := l.map fun p => (K.e p.1, f p.2)
def lkD (k : κ) : List (κ × α) → Option α
  | [] => none
  | (j, v) :: r => if j = k then some v else lkD k r
def putD (l : List (κ × α)) (k : κ) (v : α) : List (κ × α) := if (lkD k l).isSome then l.map fun p => if p.1 = k then (p.1, v) else p else l ++ [(k, v)]
theorem getZ_d (k : κ) : ∀ l : List (κ × α), getZ (K.e k) (dZ K f l) = (lkD k l).map f
  | [] => rfl
  | (j, v) :: r => by
    show (if kqT (K.e j) (K.e k) = true then some (f v) else getZ (K.e k) (dZ K f r)) = Option.map f (if j = k then some v else lkD k r)
    rw [K.eq, getZ_d k r]
    by_cases c : j = k <;> simp [c]
theorem hasZ_d (k : κ) : ∀ l : List (κ × α), hasZ (K.e k) (dZ K f l) = (lkD k l).isSome
  | [] => rfl
  | (j, v) :: r => by
    show (kqT (K.e j) (K.e k) || hasZ (K.e k) (dZ K f r)) = (if j = k then some v else lkD k r).isSome
    rw [K.eq, hasZ_d k r]
    by_cases c : j = k <;> simp [c]
theorem putZ_d (l : List (κ × α)) (k : κ) (v : α) : putZ (dZ K f l) (K.e k) (f v) = dZ K f (putD l k v) := by
  unfold putZ putD
  rw [hasZ_d]
  split
  · unfold dZ
    rw [List.map_map, List.map_map]
    refine List.map_congr_left fun p _ => ?_
    show (if kqT (K.e p.1) (K.e k) = true then (K.e p.1, f v) else (K.e p.1, f p.2)) = _
    rw [K.eq]
    by_cases c : p.1 = k <;> simp [c]
  · simp [dZ]
theorem dZ_len {l : List (κ × α)} : (dZ K f l).length = l.length := by simp [dZ]
theorem inDk_d {neg : Bool} {k : κ} {l : List (κ × α)} : inDk neg K.b (dZ K f l) (K.e k) = .ok (.z (.bl (xor neg (lkD k l).isSome))) := by
  unfold inDk; rw [if_pos (K.ok k), getZ_d]; simp
theorem dgk_d {k : κ} {l : List (κ × α)} {v : α} (h : lkD k l = some v) : dgk K.b (dZ K f l) (K.e k) = .ok (.z (f v)) := by
  unfold dgk; rw [if_pos (K.ok k), getZ_d, h]; rfl
theorem putDk_d {i : Nat} {q : Pth} {k : κ} {l : List (κ × α)} {v : α} {ps : PEnv} (h : l.length < 16777216) : putDk i q K.b (dZ K f l) (K.e k) (f v) ps = (match updR ps i q (.dct K.b (dZ K f (putD l k v))) with
      | some ps3 => .ok .nx ps3
      | none => .stuck) := by
  unfold putDk; rw [K.ok k, dZ_len, decide_eq_true (show l.length < sizeLine from h), putZ_d]; rfl
end
end ZP

namespace ZP
open PySem L2 Z
section
variable {A : List Nat}
end
end ZP

namespace ZP
open PySem L2 Z
def uIs2 (t1 t2 : TbB) : Str → Rz Zv := fun c => match t1.lookup c, t2.lookup c with
  | some b, some d => .ok (.bl (b || d))
  | _, _ => .stuck
theorem ju_is2 {i : Nat} {t1 t2 : TbB} : JU i (fun a c => isE2 a c t1 t2 (eV i)) (uIs2 t1 t2) := fun c S h ρ hi => by
  unfold uIs2
  cases e : t1.lookup c with
  | none => trivial
  | some b =>
    cases e2 : t2.lookup c with
    | none => trivial
    | some d =>
      refine ⟨.bl (b || d), fun a => ?_, dz_bl⟩
      unfold isE2 eV
      dsimp only
      rw [List.getElem?_set_self hi]
      simp only [bind_ok, and_self, if_true, e, e2]
end ZP

namespace ZP
open PySem L2 Z
def tryA (i : Nat) (mt : TbB) (s : Str → Rz (Option Zv)) : Rp → Rp
  | .exc c ps1 => if i < ps1.length then (match mt.lookup c with
    | some true => (match s c with
      | .ok (some v) => .ok (.rt (.z v)) (ps1.set i none)
      | .ok none => .ok .nx (ps1.set i none)
      | _ => .stuck)
    | some false => .exc c ps1
    | none => .stuck) else .stuck
  | r => r
theorem pTry_ap {i : Nat} {b : PS} {mt : TbB} {s : Str → Rz (Option Zv)} {ps : PEnv} : pTry i b mt s ps = tryA i mt s (b ps) := by
  unfold pTry tryA
  cases b ps <;> rfl
theorem tryA_ok {i : Nat} {mt : TbB} {s : Str → Rz (Option Zv)} {ps : PEnv} {f : Fp} : tryA i mt s (.ok f ps) = .ok f ps := id rfl
section
variable {p q : P1} {b c : P1b} {l : P1z} {g : G2} {ps : PEnv} {P : PF}
def consT1 (t : T) (vs : List Zv) (ps : PEnv) : R1 (List Zv) := match t with
  | .z v => .ok (v :: vs) ps
  | _ => .stuck
theorem p1Bin_ap : p1Bin g p q ps = (p ps).bind fun t ps1 => (q ps1).bind fun u ps2 => (z2 g t u).at_ ps2 := id rfl
theorem z2_z {v x : Zv} : z2 g (.z v) (.z x) = g (.z v) (.z x) := id rfl
theorem p1TB_ap : p1TB p ps = (p ps).bind fun t ps1 => (asB t).at_ ps1 := id rfl
theorem p1Nil_ap : p1Nil ps = .ok [] ps := id rfl
theorem p1Cons_ap : p1Cons p l ps = (p ps).bind fun t ps1 => (l ps1).bind fun vs ps2 => (consT1 t vs ps2) := by
  unfold p1Cons consT1
  rfl
theorem consT1_z {v : Zv} {vs : List Zv} : consT1 (.z v) vs ps = .ok (v :: vs) ps := id rfl
theorem p1Tup_ap : p1Tup l ps = (l ps).bind fun vs ps1 => .ok (.z (.tup vs)) ps1 := id rfl
theorem p1Fz_ap : p1Fz p ps = (p ps).bind fun t ps1 => .ok (.z t.toZ) ps1 := id rfl
end
end ZP

namespace ZP
open PySem L2 Z
section
variable {A B B' : List Nat}
end
section
variable {p q : P0} {ps : PEnv} {b : Bool} {kvs : List (Zv × Zv)} {k : Zv} {u : T}
end
end ZP

namespace ZP
open PySem L2 Z
theorem intsZ_map : ∀ ns : List Int, intsZ (ns.map Zv.int) = some ns
  | [] => rfl
  | n :: ns => by
    show (intsZ (ns.map Zv.int)).map (n :: ·) = _
    rw [intsZ_map ns]; rfl
end ZP

namespace ZP
open PySem L2 Z
section
variable {A : List Nat}
end
end ZP

namespace ZP
open PySem L2 Z
section
variable {A B B' : List Nat} {a b c : ME} {p q r : P0}
end
section
variable {A : List Nat}
abbrev P1i := PEnv → R1 (List Zv)
def J1i (A : List Nat) (m : MI) (p : P1i) : Prop := ∀ S h X O ρ ps, Inv A S h X O ρ ps → Po1 A S h X O ρ (m ρ h) (p ps) fun s vs S' h' O' =>
  A2 (DZ S' h') s.items vs ∧ ∃ C : Nat → Prop, (∀ n, C n → n < h'.length ∧ O' n = none) ∧ ∀ h'' : Hq, (∀ n, C n → h''[n]? = h'[n]?) → s.chk h'' = true
theorem J0i.up {i : MI} {pi : P0i} (ji : J0i A [] i pi) : J1i A i (up pi) := fun S h X O ρ ps v =>
  (ji S h X O ρ ps v).up v fun s vs S' h' a1 s1 k => by
    obtain ⟨m, C, hC, ck⟩ := k
    refine ⟨m, C, fun n q => ⟨(hC n q).1, ?_⟩, ck⟩
    have v1 := v.ext a1 s1
    rcases (hC n q).2 with z | ⟨_, z | z | ⟨j, s, _, z⟩⟩
    · exact v1.sO z
    · cases e : O n with
      | none => rfl
      | some p => have := (v.o n (by rw [e]; simp)).1; omega
    · cases e : O n with
      | none => rfl
      | some p => have := (v.o n (by rw [e]; simp)).2.2; rw [z] at this; cases this
    · cases z
abbrev P1o := PEnv → R1 (Option Int)
end
end ZP

namespace ZP
open PySem L2 Z
section
variable {A : List Nat}
end
section
variable {ps ps1 : PEnv} {vs us : List Zv} {r : Nat} {t : T} {v : Zv} {p pe : P1} {q : P1z} {i : P1i} {l u : P1o} {g : PG} {c : P1b} {xs : List Nat}
end
end ZP

namespace ZP
open PySem L2 Z
section
variable {ps : PEnv} {vs : List Zv} {r : Nat} {v : Zv} {k : Pth}
def putQ (r : Nat) (q : Pth) (ti tv : T) (ps : PEnv) (o : Option T) : Rp := match o, ti, tv with
  | some (.lst vs), .z (.int j), .z v => (match ixN vs.length j with
    | some m => (match updR ps r q (.lst (vs.set m v)) with
      | some ps3 => .ok .nx ps3
      | none => .stuck)
    | none => .stuck)
  | _, _, _ => .stuck
theorem putP_ap {ti tv : T} : putP r k ti tv ps = putQ r k ti tv ps (atT ps r k) := id rfl
theorem putQ_l {j : Int} : putQ r k (.z (.int j)) (.z v) ps (some (.lst vs)) = (match ixN vs.length j with
    | some m => (match updR ps r k (.lst (vs.set m v)) with
      | some ps3 => .ok .nx ps3
      | none => .stuck)
    | none => .stuck) := id rfl
theorem ixN_20 : ixN 2 0 = some 0 := by decide +kernel
theorem ixN_21 : ixN 2 1 = some 1 := by decide +kernel
theorem inT_c {neg : Bool} {c : Nat} {z : Str} : inT neg (.z (.str ⟨#[c]⟩)) (.z (.str z)) = .ok (.z (.bl (xor neg (decide (c ∈ z.cps.toList))))) := by
  show (if (#[c] : Array Nat).size = 1 then Rz.ok (T.z (.bl (xor neg (decide ((#[c] : Array Nat).getD 0 0 ∈ z.cps.toList))))) else .stuck) = _
  rw [if_pos (show (#[c] : Array Nat).size = 1 from rfl)]; rfl
end
end ZP

namespace ZP
open PySem L2 Z
theorem A2.pre {α β : Type} {R : α → β → Prop} {xs : List α} {ys : List β} (h : A2 R xs ys) (i : Nat) : A2 R (xs.take i) (ys.take i) := by
  induction h generalizing i with
  | nil => simp; exact .nil
  | cons a b ih => cases i with
    | zero => exact .nil
    | succ i => exact .cons a (ih i)
end ZP

namespace ZP
open PySem L2 Z
theorem any_strs {w : Str} : ∀ ss : List Str, ((ss.map Zv.str).any fun z => eqV (toVZ z) (toVZ (.str w))) = decide (w ∈ ss) ∧ (ss.map Zv.str).all flatZ = true
  | [] => ⟨by simp, rfl⟩
  | s :: ss => by
    obtain ⟨a, b⟩ := any_strs (w := w) ss
    constructor
    · rw [List.map_cons, List.any_cons, a]
      have : eqV (toVZ (.str s)) (toVZ (.str w)) = decide (s = w) := by
        simp only [toVZ, eqV]
        rw [Bool.eq_iff_iff]; simp
      rw [this]
      by_cases c : s = w
      · subst c; simp
      · have c2 : ¬ w = s := fun z => c z.symm
        simp [c, c2]
    · rw [List.map_cons, List.all_cons, b]; rfl
theorem inT_strs {neg : Bool} {w : Str} {ss : List Str} : inT neg (.z (.str w)) (.z (.tup (ss.map Zv.str))) = .ok (.z (.bl (xor neg (decide (w ∈ ss))))) := by
  obtain ⟨a, b⟩ := any_strs (w := w) ss
  show (if flatZ (.str w) && (ss.map Zv.str).all flatZ then Rz.ok (T.z (.bl (xor neg ((ss.map Zv.str).any fun z => eqV (toVZ z) (toVZ (.str w)))))) else .stuck) = _
  rw [a, b]; rfl
theorem inT_s2 {neg : Bool} {w a b : Str} : inT neg (.z (.str w)) (.z (.tup [.str a, .str b])) = .ok (.z (.bl (xor neg (decide (w ∈ [a, b]))))) := inT_strs (ss := [a, b])
end ZP
namespace ZP
open PySem L2 Z
end ZP

namespace ZP
open PySem L2 Z
theorem a2_keys {S : Cel} {h : Hq} : ∀ {ws : List (W × W)} {kvs : List (Zv × Zv)}, A2 (DZ2 S h) ws kvs → A2 (DZ S h) (ws.map Prod.fst) (kvs.map Prod.fst)
  | _, _, .nil => .nil
  | _, _, .cons a b => .cons a.1 (a2_keys b)
def lstdT : PF := fun ts => match ts with
  | [t] => (match dctT t with
    | some (_, kvs) => .ok (.lst (kvs.map Prod.fst))
    | none => (match asQT t with
      | some vs => .ok (.lst vs)
      | none => .stuck))
  | _ => .stuck
theorem jf_lstd : JF lstdW lstdT := fun S h ws ts s m => by
  cases m with
  | nil => trivial
  | cons r m =>
    cases m with
    | cons _ _ => trivial
    | nil =>
      rename_i w t
      have db := dct_w r
      show Po S h _ (match dctT t with
        | some (_, kvs) => Rz.ok (T.lst (kvs.map Prod.fst))
        | none => (match asQT t with
          | some vs => Rz.ok (T.lst vs)
          | none => .stuck)) _
      cases e : dctT t with
      | some p =>
        obtain ⟨b, kvs⟩ := p
        rw [e] at db
        obtain ⟨n, tg, us, rfl, hn, a⟩ := db
        have : lstdW [.ref n] h = mkL 0 (us.map Prod.fst) h := by
          have q : asQ h (.ref n) = none := by unfold asQ asL; simp only [hn]
          unfold lstdW
          simp only [q, dctAt, hn]
        rw [this]
        exact po_mkL s (a2_keys a)
      | none =>
        dsimp only
        cases e2 : asQT t with
        | none => trivial
        | some vs =>
          obtain ⟨us, e1, d⟩ := asQ_w r e2
          have : lstdW [w] h = mkL 0 us h := by unfold lstdW; simp only [e1]
          rw [this]
          exact po_mkL s d
theorem lstdT_d {b : Bool} {kvs : List (Zv × Zv)} : lstdT [.dct b kvs] = .ok (.lst (kvs.map Prod.fst)) := id rfl
end ZP

namespace ZP
open PySem L2 Z
section
variable {A B B' : List Nat} {a b c : ME} {p q r : P0}
def fldC (cl f : Str) : T → Rz T
  | .z (.ins c fs) => if c = cl then (match lkZ f fs with
    | some v => .ok (.z v)
    | none => .stuck) else .stuck
  | .ins c fs => if c = cl then (match lkT f fs with
    | some t => .ok t
    | none => .stuck) else .stuck
  | _ => .stuck
abbrev P0n := PEnv → Rz (List T)
def FrL (S' : Cel) (h h' : Hq) (ws : List W) (ts : List T) : Prop := ∃ o : Ow, ws.length = ts.length ∧ (∀ (i : Nat) (x : W) (u : T), ws[i]? = some x → ts[i]? = some u → D S' h' o [i] x u) ∧ ∀ n, o n ≠ none → h.length ≤ n ∧ n < h'.length ∧ S' n = false
def J0n (A : List Nat) (m : MA) (p : P0n) : Prop := ∀ S h X O ρ ps, Inv A S h X O ρ ps → Po S h (m ρ h) (p ps) fun ws ts S' h' => FrL S' h h' ws ts
def pnNil : P0n := fun _ => .ok []
def pnCons (p : P0) (q : P0n) : P0n := fun ps => (p ps).bind fun t => (q ps).bind fun ts => .ok (t :: ts)
def pNst (q : P0n) : P0 := fun ps => (q ps).bind fun ts => .ok (.nst ts)
theorem jn_nil : J0n A aNil pnNil := fun S h X O ρ ps v => Po.ret v.s ⟨noO, rfl, (fun i x u hx => by simp at hx), fun n z => absurd rfl z⟩
theorem jn_cons {m : MA} {q : P0n} (ja : J0f A a p) (jr : J0n A m q) : J0n A (aCons a m) (pnCons p q) := fun S h X O ρ ps v =>
  (ja S h X O ρ ps v).bind fun x t S1 h1 a1 s1 k1 => by
    refine (jr S1 h1 X O ρ ps (v.ext a1 s1)).bind fun xs ts S2 h2 a2 s2 k2 => ?_
    obtain ⟨o1, d1, g1⟩ := k1
    obtain ⟨o2, hl, d2, g2⟩ := k2
    have lo : ∀ n, n < h1.length → (if n < h1.length then (o1 n).map (0 :: ·) else (o2 n).map fun q => match q with | i :: r => (i + 1) :: r | [] => []) = (o1 n).map (0 :: ·) := fun n hn => if_pos hn
    have hi : ∀ n, ¬ n < h1.length → (if n < h1.length then (o1 n).map (0 :: ·) else (o2 n).map fun q => match q with | i :: r => (i + 1) :: r | [] => []) = (o2 n).map fun q => match q with | i :: r => (i + 1) :: r | [] => [] := fun n hn => if_neg hn
    refine Po.ret s2 ⟨fun n => if n < h1.length then (o1 n).map (0 :: ·) else (o2 n).map fun q => match q with | i :: r => (i + 1) :: r | [] => [], by simp [hl], fun i w u hw hu => ?_, fun n hn => ?_⟩
    · cases i with
      | zero =>
        simp at hw hu
        subst hw; subst hu
        refine D.move (p := []) (p' := [0]) d1 a2.le (fun n z => a2.fr n (s1 n z)) fun n q e => ?_
        have b := g1 n (by rw [e]; simp)
        exact ⟨by rw [lo n b.2.1, e]; rfl, a2.fr n b.2.1⟩
      | succ i =>
        refine D.move (p := [i]) (p' := [i + 1]) (d2 i w u (by simpa using hw) (by simpa using hu)) (fun _ z => z) (fun _ _ => rfl) fun n q e => ?_
        have b := g2 n (by rw [e]; simp)
        exact ⟨by rw [hi n (by omega), e]; rfl, rfl⟩
    · rcases Nat.lt_or_ge n h1.length with c | c
      · have e : o1 n ≠ none := fun z => hn (by show (if n < h1.length then _ else _) = none; rw [lo n c, z]; rfl)
        have b := g1 n e
        refine ⟨b.1, Nat.lt_of_lt_of_le c a2.len, ?_⟩
        cases q : S2 n with
        | false => rfl
        | true =>
          rcases a2.new n q with z | z
          · rw [b.2.2] at z; cases z
          · omega
      · have e : o2 n ≠ none := fun z => hn (by show (if n < h1.length then _ else _) = none; rw [hi n (by omega), z]; rfl)
        have b := g2 n e
        exact ⟨Nat.le_trans a1.len b.1, b.2⟩
theorem j_nst {m : MA} {q : P0n} (jr : J0n A m q) : J0f A (eLst 0 m) (pNst q) := fun S h X O ρ ps v =>
  (jr S h X O ρ ps v).bind fun ws ts S1 h1 a1 s1 k1 => by
    obtain ⟨o, hl, d, g⟩ := k1
    have hh : ∀ n, n < h1.length → (h1 ++ [Ob.lst 0 ws])[n]? = h1[n]? := fun n z => List.getElem?_append_left z
    refine ⟨.ref h1.length, h1 ++ [.lst 0 ws], S1, rfl, ⟨fun _ z => z, fun _ z => .inl z, fun n z => hh n z, by simp⟩, ?_, fun n => if n = h1.length then some [] else o n, D.nst_iff.mpr ⟨h1.length, 0, ws, rfl, by simp, by simp, hl, fun i x u hx hu => ?_⟩, fun n z => ?_⟩
    · intro n z
      have := s1 n z
      simp; omega
    · refine D.move (p := [i]) (p' := [i]) (d i x u hx hu) (fun _ z => z) (fun n z => hh n (s1 n z)) fun n q e => ?_
      have b := g n (by rw [e]; simp)
      exact ⟨by show (if n = h1.length then some [] else o n) = _; rw [if_neg (by omega), e], hh n b.2.1⟩
    · by_cases c : n = h1.length
      · subst c
        refine ⟨a1.len, by simp, ?_⟩
        cases q : S1 h1.length with
        | false => rfl
        | true => exact absurd (s1 _ q) (Nat.lt_irrefl _)
      · have e : o n ≠ none := fun y => z (by show (if n = h1.length then some [] else o n) = none; rw [if_neg c, y])
        have b := g n e
        exact ⟨b.1, by simp; omega, b.2.2⟩
theorem pNst_ap {q : P0n} {ps : PEnv} : pNst q ps = (q ps).bind fun ts => .ok (.nst ts) := id rfl
theorem pnCons_ap {q : P0n} {ps : PEnv} : pnCons p q ps = (p ps).bind fun t => (q ps).bind fun ts => .ok (t :: ts) := id rfl
theorem pnNil_ap {ps : PEnv} : pnNil ps = .ok [] := id rfl
end
end ZP

namespace ZP
open PySem L2 Z
section
variable {A B B' : List Nat} {a b c : ME} {p q r : P0}
theorem keyB_of {S : Cel} {h : Hq} {w : W} {v : Zv} (d : DZ S h w v) (e : keyZ v = true) : keyB w = true := by
  cases v with
  | int i => cases dz_int_iff.mp d; rfl
  | str i => cases dz_str_iff.mp d; rfl
  | _ => cases e
end
end ZP

namespace ZP
open PySem L2 Z
section
variable {A B B' : List Nat}
def delZ (kvs : List (Zv × Zv)) (k : Zv) : List (Zv × Zv) := kvs.filter fun p => !kqT p.1 k
theorem del_w {S : Cel} {h : Hq} {k : W} {vk : Zv} (d : DZ S h k vk) (e : kokZ false vk = true) {ws : List (W × W)} {vs : List (Zv × Zv)} (m : A2 (DZ2 S h) ws vs) : A2 (DZ2 S h) (delKW ws k) (delZ vs vk) := by
  unfold delKW delZ
  induction m with
  | nil => exact .nil
  | @cons a b l r p m ih =>
    rw [List.filter_cons, List.filter_cons, kq_ok p.1 d e]
    split
    · exact .cons p ih
    · exact ih
def delP (r : Nat) (q : Pth) (ti : T) (ps : PEnv) : Rp := match atT ps r q, ti with
  | some (.dct false kvs), .z k => if keyZ k && hasZ k kvs then (match updR ps r q (.dct false (delZ kvs k)) with
    | some ps' => .ok .nx ps'
    | none => .stuck) else .stuck
  | _, _ => .stuck
def pDel (r : Nat) (po : P0p) (pi : P0) : PS := fun ps => (po ps).toP ps fun q => (pi ps).toP ps fun ti => delP r q ti ps
theorem js_del {r : Nat} {o i : ME} {po : P0p} {pi : P0} (hr : r ∉ A) (jo : JP A r o po) (ji : J0b A B i pi) : JS A (sDel o i) (pDel r po pi) := fun S h X O ρ ps v =>
  (jo S h X O ρ ps v).toS v fun x q S1 h1 a1 v1 k => (ji S1 h1 X O ρ ps v1).toS v1 fun z ti S2 h2 a2 v2 kz => by
    have k2 := k.ext a2
    obtain ⟨u, e4, d⟩ := k2.tree v2
    unfold delP
    rw [e4]
    cases u with
    | dct b kvs =>
      cases b with
      | true => trivial
      | false =>
        cases ti with
        | z tk =>
          dsimp only
          by_cases c : (keyZ tk && hasZ tk kvs) = true
          · rw [if_pos c]
            rw [Bool.and_eq_true] at c
            obtain ⟨n, tg, ws, rfl, on, hn, ch⟩ := D.dct_iff.mp d
            cases eu : updR ps r q (.dct false (delZ kvs tk)) with
            | none => trivial
            | some ps3 =>
              have nS := (v2.o n (sl_none (by rw [on]; simp))).2.1
              have es : ddelW h2 (.ref n) z = some (h2.set n (.dct 0 false (delKW ws z))) := by
                unfold ddelW
                simp only [hn]
                rw [keyB_of kz.z c.1, has_w (b := false) kz.z c.1 ch, c.2]; rfl
              obtain ⟨O3, w3, v4⟩ := write_flat (ob := .dct 0 false (delKW ws z)) hr v2 k2 eu on fun o1 h5 => D.dct_iff.mpr ⟨n, tg, _, rfl, h5, List.getElem?_set_self (lt_of_get hn), (del_w kz.z c.1 ch).imp fun _ _ _ _ p => ⟨p.1.mono (fun _ q => q) (set_hh nS), p.2.mono (fun _ q => q) (set_hh nS)⟩⟩
              rw [es]
              exact ⟨.nx, ρ, _, S2, O3, rfl, w3, v4, trivial⟩
          · rw [if_neg c]; trivial
        | _ => trivial
    | _ => trivial
end
end ZP

namespace ZP
open PySem L2 Z
section
variable {A : List Nat}
end
end ZP

namespace ZP
open PySem L2 Z
end ZP

namespace ZP
open PySem L2 Z
def isDKT : T → Bool
  | .z (.dct false _) | .dct false _ => true
  | _ => false
def isTuT : T → Bool
  | .z (.tup _) => true
  | _ => false
def eqDT (neg : Bool) : G2 := fun t u => if isDKT t && isTuT u || isTuT t && isDKT u then .ok (.z (.bl neg)) else eqT neg t u
theorem isDKT_ok {S : Cel} {h : Hq} {x : W} {t : T} (r : Rdb S h x t) : isDK h x = isDKT t := by
  cases t with
  | z v =>
    have d := r.z
    cases v with
    | non => cases dz_non_iff.mp d; rfl
    | bl b => cases dz_bl_iff.mp d; rfl
    | int b => cases dz_int_iff.mp d; rfl
    | str b => cases dz_str_iff.mp d; rfl
    | exn a b => cases dz_exn_iff.mp d; rfl
    | tup b => obtain ⟨ws, rfl, a⟩ := dz_tup_iff.mp d; rfl
    | frz b => obtain ⟨ws, rfl, a⟩ := dz_frz_iff.mp d; rfl
    | lst b => obtain ⟨n, tg, ws, rfl, _, hn, a⟩ := dz_lst_iff.mp d; show (match h[n]? with | some (.dct _ false _) => true | _ => false) = false; rw [hn]
    | dct b kvs => obtain ⟨n, tg, ws, rfl, _, hn, a⟩ := dz_dct_iff.mp d; show (match h[n]? with | some (.dct _ false _) => true | _ => false) = _; rw [hn]; cases b <;> rfl
    | ins c fs => obtain ⟨n, ws, rfl, _, hn, a⟩ := dz_ins_iff.mp d; show (match h[n]? with | some (.dct _ false _) => true | _ => false) = false; rw [hn]
  | lst vs => obtain ⟨o, d, _⟩ := r; obtain ⟨n, tg, ws, rfl, _, hn, a⟩ := D.lst_iff.mp d; show (match h[n]? with | some (.dct _ false _) => true | _ => false) = false; rw [hn]
  | dct b kvs => obtain ⟨o, d, _⟩ := r; obtain ⟨n, tg, ws, rfl, _, hn, a⟩ := D.dct_iff.mp d; show (match h[n]? with | some (.dct _ false _) => true | _ => false) = _; rw [hn]; cases b <;> rfl
  | nst ts => obtain ⟨o, d, _⟩ := r; obtain ⟨n, tg, ws, rfl, _, hn, hl, a⟩ := D.nst_iff.mp d; show (match h[n]? with | some (.dct _ false _) => true | _ => false) = false; rw [hn]
  | ins c fs => obtain ⟨o, d, _⟩ := r; obtain ⟨n, ws, rfl, _, hn, hl, a⟩ := D.ins_iff.mp d; show (match h[n]? with | some (.dct _ false _) => true | _ => false) = false; rw [hn]
theorem isTuT_ok {S : Cel} {h : Hq} {x : W} {t : T} (r : Rdb S h x t) : isTu x = isTuT t := by
  cases t with
  | z v =>
    have d := r.z
    cases v with
    | non => cases dz_non_iff.mp d; rfl
    | bl b => cases dz_bl_iff.mp d; rfl
    | int b => cases dz_int_iff.mp d; rfl
    | str b => cases dz_str_iff.mp d; rfl
    | exn a b => cases dz_exn_iff.mp d; rfl
    | tup b => obtain ⟨ws, rfl, a⟩ := dz_tup_iff.mp d; rfl
    | frz b => obtain ⟨ws, rfl, a⟩ := dz_frz_iff.mp d; rfl
    | lst b => obtain ⟨n, tg, ws, rfl, _, hn, a⟩ := dz_lst_iff.mp d; rfl
    | dct b kvs => obtain ⟨n, tg, ws, rfl, _, hn, a⟩ := dz_dct_iff.mp d; rfl
    | ins c fs => obtain ⟨n, ws, rfl, _, hn, a⟩ := dz_ins_iff.mp d; rfl
  | lst vs => obtain ⟨o, d, _⟩ := r; obtain ⟨n, tg, ws, rfl, _, hn, a⟩ := D.lst_iff.mp d; rfl
  | dct b kvs => obtain ⟨o, d, _⟩ := r; obtain ⟨n, tg, ws, rfl, _, hn, a⟩ := D.dct_iff.mp d; rfl
  | nst ts => obtain ⟨o, d, _⟩ := r; obtain ⟨n, tg, ws, rfl, _, hn, hl, a⟩ := D.nst_iff.mp d; rfl
  | ins c fs => obtain ⟨o, d, _⟩ := r; obtain ⟨n, ws, rfl, _, hn, hl, a⟩ := D.ins_iff.mp d; rfl
theorem op_eqD {neg : Bool} : Op2 (eqDW neg) (eqDT neg) := fun S h x y t u s ra rb => by
  unfold eqDT eqDW
  rw [isDKT_ok ra, isDKT_ok rb, isTuT_ok ra, isTuT_ok rb]
  split
  · exact Po.ret s (.z dz_bl)
  · exact op_eq S h x y t u s ra rb
end ZP

namespace ZP
open PySem L2 Z
end ZP
namespace ZP
open PySem L2 Z
end ZP

namespace ZP
open PySem L2 Z
structure Hl (n : Nat) (h h' : Hq) : Prop where
  ne : ∀ m, m ≠ n → h'[m]? = h[m]?
  at_ : ∃ t t' k ws, h[n]? = some (.dct t k ws) ∧ h'[n]? = some (.dct t' k ws)
  len : h'.length = h.length
theorem hl_set {n t t' : Nat} {k : Bool} {ws : List (W × W)} {h : Hq} (e : h[n]? = some (.dct t k ws)) : Hl n h (h.set n (.dct t' k ws)) :=
  ⟨fun m ne => List.getElem?_set_ne (Ne.symm ne), ⟨t, t', k, ws, e, List.getElem?_set_self (lt_of_get e)⟩, by simp⟩
section
variable {S : Cel} {h h' : Hq} {n : Nat}
theorem rd_hl (l : Hl n h h') : ∀ (k : Nat) (w : W), rd S h' k w = rd S h k w := by
  intro k
  induction k with
  | zero => intro w; simp [rd]
  | succ k ih =>
    intro w
    have e : rd S h' k = rd S h k := funext ih
    cases w with
    | ref m =>
      by_cases c : m = n
      · subst c
        obtain ⟨t, t', b, ws, e1, e2⟩ := l.at_
        simp only [rd, e, e1, e2]
      · simp only [rd, e, l.ne m c]
    | _ => simp only [rd, e]
theorem DZ.hl (l : Hl n h h') {w : W} {v : Zv} (d : DZ S h w v) : DZ S h' w v := by
  obtain ⟨k, e⟩ := d
  exact ⟨k, by rw [rd_hl l]; exact e⟩
theorem Dk.hl (l : Hl n h h') {o : Ow} (on : o n = none) : ∀ (k : Nat) (p : Pth) (w : W) (t : T), Dk S h o k p w t → Dk S h' o k p w t := by
  intro k
  have at_ : ∀ {m : Nat} {q : Pth}, o m = some q → h'[m]? = h[m]? := fun {m q} e => l.ne m fun z => by subst z; rw [on] at e; cases e
  induction k with
  | zero => intro p w t d; exact d.elim
  | succ k ih =>
    intro p w t d
    cases t with
    | z v => exact DZ.hl l d
    | lst vs =>
      obtain ⟨m, tg, ws, e, om, hn, a⟩ := d
      exact ⟨m, tg, ws, e, om, (at_ om).trans hn, a.imp fun _ _ _ _ q => DZ.hl l q⟩
    | dct b vs =>
      obtain ⟨m, tg, ws, e, om, hn, a⟩ := d
      exact ⟨m, tg, ws, e, om, (at_ om).trans hn, a.imp fun _ _ _ _ q => ⟨DZ.hl l q.1, DZ.hl l q.2⟩⟩
    | nst ts =>
      obtain ⟨m, tg, ws, e, om, hn, hl, a⟩ := d
      exact ⟨m, tg, ws, e, om, (at_ om).trans hn, hl, fun i x u hx hu => ih _ _ _ (a i x u hx hu)⟩
    | ins c fs =>
      obtain ⟨m, ws, e, om, hn, hl, a⟩ := d
      exact ⟨m, ws, e, om, (at_ om).trans hn, hl, fun i x u hx hu => ih _ _ _ (a i x u hx hu)⟩
theorem D.hl (l : Hl n h h') {o : Ow} (on : o n = none) {p : Pth} {w : W} {t : T} (d : D S h o p w t) : D S h' o p w t := by
  obtain ⟨k, d⟩ := d
  exact ⟨k, Dk.hl l on k p w t d⟩
theorem Pw.hl (l : Hl n h h') : ∀ {p : Pth} {w x : W}, Pw h w p x → Pw h' w p x
  | [], _, _, e => e
  | _ :: _, _, _, ⟨m, o, y, e, hn, k, r⟩ => by
    refine ⟨m, o, y, e, ?_, k, Pw.hl l r⟩
    by_cases c : m = n
    · subst c
      obtain ⟨t, t', b, ws, e1, e2⟩ := l.at_
      rw [e1] at hn; cases hn; cases k
    · rw [l.ne m c]; exact hn
theorem Inv.hl {A : List Nat} {X : Xt} {O : Om} {ρ : Ev} {ps : PEnv} (l : Hl n h h') (sn : S n = true) (v : Inv A S h X O ρ ps) : Inv A S h' X O ρ ps where
  s := fun m q => by rw [l.len]; exact v.s m q
  x := fun m q => by rw [l.len]; exact v.x m q
  o := fun m q => by rw [l.len]; exact v.o m q
  len := v.len
  en := fun i e q => by
    have xn : X.x n = false := by
      cases z : X.x n with
      | false => rfl
      | true => have := (v.x n z).2; rw [sn] at this; cases this
    have on : O n = none := by
      cases z : O n with
      | none => rfl
      | some p => have := (v.o n (by rw [z]; simp)).2.1; rw [sn] at this; cases this
    have sn0 : sl O i n = none := by unfold sl; rw [on]
    have := v.en i e q
    cases e with
    | own t => obtain ⟨w, hw, d⟩ := this; exact ⟨w, hw, d.hl l sn0⟩
    | par t => obtain ⟨w, hw, d⟩ := this; exact ⟨w, hw, d.hl l sn0⟩
    | ext t =>
      obtain ⟨w, o, hw, d, ho⟩ := this
      refine ⟨w, o, hw, d.hl l ?_, ho⟩
      cases z : o n with
      | none => rfl
      | some p => have := ho n (by rw [z]; simp); rw [xn] at this; cases this
    | als r p => obtain ⟨ha, w, wr, t0, t1, h1, h2, h3, h4, h5⟩ := this; exact ⟨ha, w, wr, t0, t1, h1, h2, h3.hl l, h4, h5⟩
end
def Still (m : ME) : Prop := ∀ ρ h w h', m ρ h = .ok w h' → h' = h ∧ ∀ (n : Nat) (k : Bool) (kvs : List (W × W)), h[n]? = some (.dct 0 k kvs) → m ρ (h.set n (.dct 1 k kvs)) = .ok w (h.set n (.dct 1 k kvs))
theorem still_v {i : Nat} : Still (eV i) := fun ρ h w h' e => by
  unfold eV at e ⊢
  split at e
  · cases e; exact ⟨rfl, fun n k kvs hn => rfl⟩
  · cases e
structure Wlk where
  w : ME → MI
  z : Bool → List (Zv × Zv) → Option (List Zv)
  ok : ∀ {S : Cel} {m : ME} {ρ : Ev} {h : Hq} {n t : Nat} {k : Bool} {ws : List (W × W)} {kvs : List (Zv × Zv)} {us : List Zv}, m ρ h = .ok (.ref n) h → h[n]? = some (.dct (t + 1) k ws) → A2 (DZ2 S h) ws kvs → z k kvs = some us →
    ∃ xs, w m ρ h = .ok ⟨xs, fun _ => true⟩ h ∧ A2 (DZ S h) xs us
theorem a2_prod {S : Cel} {h : Hq} {f : W × W → W} {g : Zv × Zv → Zv} (k : ∀ p q, DZ2 S h p q → DZ S h (f p) (g q)) : ∀ {ws : List (W × W)} {kvs : List (Zv × Zv)}, A2 (DZ2 S h) ws kvs → A2 (DZ S h) (ws.map f) (kvs.map g)
  | _, _, .nil => .nil
  | _, _, .cons a b => .cons (k _ _ a) (a2_prod k b)
def wKeys : Wlk := ⟨iKeysW, fun _ kvs => some (kvs.map Prod.fst), by
  intro S m ρ h n t k ws kvs us e hn a z
  cases z
  refine ⟨ws.map Prod.fst, ?_, a2_prod (fun p q d => d.1) a⟩
  unfold iKeysW
  rw [e]
  show (match heldK h (.ref n) with
    | some kvs => Res.ok (⟨kvs.map Prod.fst, fun _ => true⟩ : Src) h
    | none => (match heldT h (.ref n) with
      | some kvs => Res.ok (⟨kvs.map Prod.fst, fun _ => true⟩ : Src) h
      | none => .stuck)) = _
  cases k <;> simp only [heldK, heldT, hn]⟩
def noXp : Rp → Rp
  | .ok f ps => .ok f ps
  | _ => .stuck
def heldZ (f : Wlk) (p : P0) (ps : PEnv) : Option (List Zv) := match p ps with
  | .ok (.z (.dct k kvs)) => f.z k kvs
  | _ => none
def pForD (f : Wlk) (p : P0) (g : PG) (b : PS) : PS := fun ps => match heldZ f p ps with
  | some us => noXp (pLoop g b us ps)
  | none => .stuck
section
variable {A B B' : List Nat}
theorem held_w {f : Wlk} {m : ME} {p : P0} {S : Cel} {h : Hq} {X : Xt} {O : Om} {ρ : Ev} {ps : PEnv} {us : List Zv} (sm : Still m) (jm : J0b A B m p) (v : Inv A S h X O ρ ps) (e : heldZ f p ps = some us) :
    ∃ n t k ws S1, m ρ h = .ok (.ref n) h ∧ h[n]? = some (.dct t k ws) ∧ Wx S S1 h h ∧ Sb S1 h ∧ S1 n = true ∧ ∃ kvs, A2 (DZ2 S1 h) ws kvs ∧ f.z k kvs = some us := by
  unfold heldZ at e
  split at e
  · rename_i k kvs q
    have := jm S h X O ρ ps v
    rw [q] at this
    obtain ⟨w, h1, S1, e1, a1, s1, b⟩ := this
    obtain ⟨rfl, _⟩ := sm _ _ _ _ e1
    obtain ⟨n, t, ws, rfl, sn, hn, a⟩ := dz_dct_iff.mp b.z
    exact ⟨n, t, k, ws, S1, e1, hn, a1, s1, sn, kvs, a, e⟩
  · cases e
theorem lkAt_of {m : ME} {ρ : Ev} {h : Hq} {n : Nat} {k : Bool} {ws : List (W × W)} (e : m ρ h = .ok (.ref n) h) (hn : h[n]? = some (.dct 0 k ws)) : lkAt m ρ h = some (n, k, ws) := by
  unfold lkAt
  simp only [e, hn]
theorem lkAt_no {m : ME} {ρ : Ev} {h : Hq} {n t : Nat} {k : Bool} {ws : List (W × W)} (e : m ρ h = .ok (.ref n) h) (hn : h[n]? = some (.dct (t + 1) k ws)) : lkAt m ρ h = none := by
  unfold lkAt
  simp only [e, hn]
theorem Inv.on {S : Cel} {h : Hq} {X : Xt} {O : Om} {ρ : Ev} {ps : PEnv} {n : Nat} (v : Inv A S h X O ρ ps) (sn : S n = true) : O n = none := by
  cases z : O n with
  | none => rfl
  | some p => have := (v.o n (by rw [z]; simp)).2.1; rw [sn] at this; cases this
theorem A2.hl {S : Cel} {h h' : Hq} {n : Nat} (l : Hl n h h') {ws : List (W × W)} {kvs : List (Zv × Zv)} (a : A2 (DZ2 S h) ws kvs) : A2 (DZ2 S h') ws kvs := a.imp fun _ _ _ _ d => ⟨DZ.hl l d.1, DZ.hl l d.2⟩
theorem js_forD (f : Wlk) {m : ME} {p : P0} {g : MG} {b : MS} {pg : PG} {pb : PS} (sm : Still m) (jm : J0b A B m p) (jg : JG A g pg) (jb : JS A b pb) : JS A (sLock m (sFor (f.w m) g b)) (pForD f p pg pb) := fun S h X O ρ ps v => by
  unfold pForD
  cases e : heldZ f p ps with
  | none => trivial
  | some us =>
    obtain ⟨n, t, k, ws, S1, e1, hn, a1, s1, sn, kvs, a, ez⟩ := held_w sm jm v e
    have v1 := v.ext a1 s1
    have on := v1.on sn
    cases t with
    | succ t =>
      unfold sLock
      rw [lkAt_no e1 hn]
      obtain ⟨xs, e2, ax⟩ := f.ok e1 hn a ez
      dsimp only
      unfold sFor
      rw [e2]
      have := po_loop (s := ⟨xs, fun _ => true⟩) jg jb (fun _ => False) (fun _ z => z.elim) (fun _ _ => rfl) xs us S1 h O ρ ps .refl v1 ax
      have := this.up a1.wd
      revert this
      show PoS A S h X O (loopF (fun _ => true) g b xs ρ h) (pLoop pg pb us ps) → PoS A S h X O (loopF (fun _ => true) g b xs ρ h) (noXp (pLoop pg pb us ps))
      cases pLoop pg pb us ps with
      | ok f ps' => exact id
      | exc c ps' => exact fun _ => trivial
      | stuck => exact id
    | zero =>
      unfold sLock
      rw [lkAt_of e1 hn]
      have l := hl_set (t' := 1) hn
      have vL := v1.hl l sn
      have eL := (sm _ _ _ _ e1).2 n k ws hn
      have hL : (h.set n (.dct 1 k ws))[n]? = some (.dct (0 + 1) k ws) := List.getElem?_set_self (lt_of_get hn)
      obtain ⟨xs, e2, ax⟩ := f.ok eL hL (a.hl l) ez
      dsimp only
      unfold sFor
      rw [e2]
      have := po_loop (s := ⟨xs, fun _ => true⟩) jg jb (fun _ => False) (fun _ z => z.elim) (fun _ _ => rfl) xs us S1 _ O ρ ps .refl vL ax
      revert this
      show PoS A S1 (h.set n (.dct 1 k ws)) X O (loopF (fun _ => true) g b xs ρ (h.set n (.dct 1 k ws))) (pLoop pg pb us ps) → PoS A S h X O (unS n (loopF (fun _ => true) g b xs ρ (h.set n (.dct 1 k ws)))) (noXp (pLoop pg pb us ps))
      cases pLoop pg pb us ps with
      | exc c ps' => exact fun _ => trivial
      | stuck => exact fun _ => trivial
      | ok f ps' =>
        rintro ⟨fl, ρ', h', S', O', er, wd, v', fr⟩
        rw [er]
        have hn' : h'[n]? = some (.dct (0 + 1) k ws) := (wd.fr n (lt_of_get hL) on).trans hL
        have sn' := wd.le n sn
        have l' := hl_set (t' := 0) hn'
        have eu : unlk n h' = some (h'.set n (.dct 0 k ws)) := by
          unfold unlk
          simp only [hn']
        unfold unS
        dsimp only
        rw [eu]
        have wd2 : Wd S1 S' h (h'.set n (.dct 0 k ws)) O O' := ⟨wd.le, fun m q => by
            have := wd.new m q
            rw [l.len] at this; exact this, fun m hm om => by
            by_cases c : m = n
            · subst c; rw [hn, List.getElem?_set_self (lt_of_get hn')]
            · rw [l'.ne m c, wd.fr m (by rw [l.len]; exact hm) om, l.ne m c], by
            rw [l'.len]; have := wd.len; rw [l.len] at this; exact this, fun m q => by
            have := wd.own m q
            rw [l.len] at this; exact this⟩
        refine ⟨fl, ρ', _, S', O', rfl, a1.wd.trans wd2, v'.hl l' sn', ?_⟩
        have fr2 : FlR S' h (h'.set n (.dct 0 k ws)) X O O' fl f := by
          cases fl <;> cases f <;> first | trivial | exact fr.elim | skip
          obtain ⟨o, d, kk⟩ := fr
          have ho : o n = none := by
            cases z : o n with
            | none => rfl
            | some p => have := (kk n (by rw [z]; simp)).2.1; rw [sn'] at this; cases this
          refine ⟨o, d.hl l' ho, fun m q => ?_⟩
          have := kk m q
          rw [l'.len]
          rw [l.len] at this
          exact this
        exact fr2
end
theorem pForD_ap {f : Wlk} {p : P0} {g : PG} {b : PS} {ps : PEnv} : pForD f p g b ps = (match heldZ f p ps with
  | some us => noXp (pLoop g b us ps)
  | none => .stuck) := id rfl
def heldR (f : Wlk) : Rz T → Option (List Zv)
  | .ok (.z (.dct k kvs)) => f.z k kvs
  | _ => none
theorem heldZ_ap {f : Wlk} {p : P0} {ps : PEnv} : heldZ f p ps = heldR f (p ps) := id rfl
theorem heldR_k {k : Bool} {kvs : List (Zv × Zv)} : heldR wKeys (.ok (.z (.dct k kvs))) = some (kvs.map Prod.fst) := id rfl
theorem noXp_ok {f : Fp} {ps : PEnv} : noXp (.ok f ps) = .ok f ps := id rfl
end ZP

namespace ZP
open PySem L2 Z
end ZP

namespace ZP
open PySem L2 Z
def pFrS (r : Nat) (s : PS) : PS := fun ps => match pFv r ps with
  | .ok _ ps' => s ps'
  | _ => s ps
theorem js_frS {A : List Nat} {m : MS} {s : PS} (r : Nat) (hr : r ∉ A) (js : JS A m s) : JS A m (pFrS r s) := fun S h X O ρ ps v => by
  unfold pFrS
  have j := j_fv (A := A) (i := r) hr S h X O ρ ps v
  revert j
  cases pFv r ps with
  | stuck => exact fun _ => js S h X O ρ ps v
  | exc c ps' => exact fun _ => js S h X O ρ ps v
  | ok t ps' =>
    rintro ⟨w, h', S', O', e, wd, v', _⟩
    have eh : h' = h := by
      unfold eV at e
      split at e
      · cases e; rfl
      · cases e
    subst eh
    exact (js S' h' X O' ρ ps' v').up wd
theorem pFrS_ap {r : Nat} {s : PS} {ps : PEnv} : pFrS r s ps = (match pFv r ps with
  | .ok _ ps' => s ps'
  | _ => s ps) := id rfl
end ZP

namespace ZP
open PySem L2 Z
abbrev Mp := List (Int × List Int)
section
variable {hb : Hq} {M : Mp}
end
def Agr (ρ ρ' : Ev) : Prop := ρ'.length = ρ.length ∧ ∀ i, i ≠ 3 → i ≠ 4 → i ≠ 5 → ρ'[i]? = ρ[i]?
theorem Agr.refl {ρ : Ev} : Agr ρ ρ := ⟨rfl, fun _ _ _ _ => rfl⟩
theorem Agr.trans {ρ ρ1 ρ2 : Ev} (a : Agr ρ ρ1) (b : Agr ρ1 ρ2) : Agr ρ ρ2 := ⟨b.1.trans a.1, fun i h3 h4 h5 => (b.2 i h3 h4 h5).trans (a.2 i h3 h4 h5)⟩
theorem Agr.set {ρ : Ev} {i : Nat} {w : W} (h : i = 3 ∨ i = 4 ∨ i = 5) : Agr ρ (ρ.set i (some w)) := ⟨by simp, fun j h3 h4 h5 => List.getElem?_set_ne (by omega)⟩
end ZP

namespace ZP
open PySem L2 Z
section
variable {A B B' : List Nat} {m : ME} {p : P0}
end
end ZP

namespace ZP
open PySem L2 Z
end ZP

namespace ZP
open PySem L2 Z
theorem Rs.rdb {S' : Cel} {h h' : Hq} {X : Xt} {O O' : Om} {w : W} {t : T} (r : Rs S' h h' X O O' w t) : Rdb S' h' w t := by
  obtain ⟨o, d, k⟩ := r
  exact ⟨o, d, fun n q => ⟨(k n q).1, (k n q).2.1⟩⟩
section
variable {ps : PEnv} {p : P0} {n : Nat} {pg : PGs}
end
end ZP

namespace ZP
open PySem L2 Z
section
variable {A B B' : List Nat}
end
theorem asL_set {h : Hq} {x : W} {n : Nat} {k : Bool} {kvs : List (W × W)} (hn : h[n]? = some (.dct 0 k kvs)) : asL (h.set n (.dct 1 k kvs)) x = asL h x := by
  cases x with
  | ref m =>
    unfold asL
    dsimp only
    by_cases c : n = m
    · subst c
      rw [List.getElem?_set_self (lt_of_get hn), hn]
    · rw [List.getElem?_set_ne c]
  | _ => rfl
theorem isD_set {h : Hq} {x : W} {n : Nat} {k : Bool} {kvs : List (W × W)} (hn : h[n]? = some (.dct 0 k kvs)) : isDW (h.set n (.dct 1 k kvs)) x = isDW h x := by
  cases x with
  | ref m =>
    unfold isDW
    dsimp only
    by_cases c : n = m
    · subst c
      rw [List.getElem?_set_self (lt_of_get hn), hn]
    · rw [List.getElem?_set_ne c]
  | _ => rfl
theorem dget_set {h : Hq} {x y : W} {n : Nat} {k : Bool} {kvs : List (W × W)} (hn : h[n]? = some (.dct 0 k kvs)) : dgetW (h.set n (.dct 1 k kvs)) x y = dgetW h x y := by
  cases x with
  | ref m =>
    unfold dgetW
    dsimp only
    by_cases c : n = m
    · subst c
      rw [List.getElem?_set_self (lt_of_get hn), hn]
      cases k <;> rfl
    · rw [List.getElem?_set_ne c]
  | _ => rfl
theorem ix_still {x y w : W} {h h' : Hq} (e : ixW x y h = .ok w h') : h' = h ∧ ∀ (n : Nat) (k : Bool) (kvs : List (W × W)), h[n]? = some (.dct 0 k kvs) → ixW x y (h.set n (.dct 1 k kvs)) = .ok w (h.set n (.dct 1 k kvs)) := by
  cases y with
  | int i =>
    have viaL : ∀ x, (∀ h, ixW x (.int i) h = match asL h x with
      | some xs => (match atI xs i with
        | some w => .ok w h
        | none => .stuck)
      | none => .stuck) → ixW x (.int i) h = .ok w h' → h' = h ∧ ∀ (n : Nat) (k : Bool) (kvs : List (W × W)), h[n]? = some (.dct 0 k kvs) → ixW x (.int i) (h.set n (.dct 1 k kvs)) = .ok w (h.set n (.dct 1 k kvs)) := fun x d e => by
      rw [d] at e
      cases q : asL h x with
      | none => rw [q] at e; cases e
      | some xs =>
        rw [q] at e
        dsimp only at e
        cases q2 : atI xs i with
        | none => rw [q2] at e; cases e
        | some z =>
          rw [q2] at e
          cases e
          exact ⟨rfl, fun n k kvs hn => by rw [d, asL_set hn, q]; dsimp only; rw [q2]⟩
    have viaT : ∀ x (xs : List W), (∀ h, ixW x (.int i) h = match atI xs i with
      | some w => .ok w h
      | none => .stuck) → ixW x (.int i) h = .ok w h' → h' = h ∧ ∀ (n : Nat) (k : Bool) (kvs : List (W × W)), h[n]? = some (.dct 0 k kvs) → ixW x (.int i) (h.set n (.dct 1 k kvs)) = .ok w (h.set n (.dct 1 k kvs)) := fun x xs d e => by
      rw [d] at e
      cases q : atI xs i with
      | none => rw [q] at e; cases e
      | some z =>
        rw [q] at e
        cases e
        exact ⟨rfl, fun n k kvs hn => by rw [d, q]⟩
    cases x with
    | tup xs => exact viaT _ xs (fun _ => rfl) e
    | kt xs => exact viaT _ xs (fun _ => rfl) e
    | str z =>
      have d : ∀ h, ixW (.str z) (.int i) h = if z.length ≤ sizeLine then (match atI z.cps.toList i with
        | some c => .ok (.str ⟨#[c]⟩) h
        | none => .stuck) else .stuck := fun _ => rfl
      rw [d] at e
      by_cases c : z.length ≤ sizeLine
      · rw [if_pos c] at e
        cases q : atI z.cps.toList i with
        | none => rw [q] at e; cases e
        | some u =>
          rw [q] at e
          cases e
          exact ⟨rfl, fun n k kvs hn => by rw [d, if_pos c, q]⟩
      · rw [if_neg c] at e; cases e
    | _ => exact viaL _ (fun _ => rfl) e
  | _ => cases x <;> cases e
theorem still_ixD {m : ME} {i : W} (s : Still m) : Still (eIxD m (eC i)) := fun ρ h w h' e => by
  cases q : m ρ h with
  | stuck => unfold eIxD isDM eDgetS eBin at e; rw [q] at e; simp at e; cases e
  | exc c h1 => unfold eIxD isDM eDgetS eBin at e; rw [q] at e; simp at e; cases e
  | ok x h1 =>
    obtain ⟨rfl, kk⟩ := s ρ h x h1 q
    have e1 : eIxD m (eC i) ρ h1 = if isDW h1 x then (match dgetW h1 x i with
      | some (some r) => .ok r h1
      | _ => .stuck) else ixW x i h1 := by unfold eIxD isDM eDgetS eBin; rw [q]; rfl
    rw [e1] at e
    have e2 : ∀ (n : Nat) (k : Bool) (kvs : List (W × W)), h1[n]? = some (.dct 0 k kvs) → eIxD m (eC i) ρ (h1.set n (.dct 1 k kvs)) = if isDW h1 x then (match dgetW h1 x i with
      | some (some r) => .ok r (h1.set n (.dct 1 k kvs))
      | _ => .stuck) else ixW x i (h1.set n (.dct 1 k kvs)) := fun n k kvs hn => by
      have : eIxD m (eC i) ρ (h1.set n (.dct 1 k kvs)) = if isDW (h1.set n (.dct 1 k kvs)) x then (match dgetW (h1.set n (.dct 1 k kvs)) x i with
        | some (some r) => .ok r (h1.set n (.dct 1 k kvs))
        | _ => .stuck) else ixW x i (h1.set n (.dct 1 k kvs)) := by unfold eIxD isDM eDgetS eBin; rw [kk n k kvs hn]; rfl
      rw [this, isD_set hn, dget_set hn]
    by_cases c : isDW h1 x = true
    · rw [if_pos c] at e
      cases z : dgetW h1 x i with
      | none => rw [z] at e; cases e
      | some r =>
        cases r with
        | none => rw [z] at e; cases e
        | some r =>
          rw [z] at e
          cases e
          refine ⟨rfl, fun n k kvs hn => ?_⟩
          rw [e2 n k kvs hn, if_pos c, z]
    · rw [if_neg c] at e
      obtain ⟨rfl, k2⟩ := ix_still e
      refine ⟨rfl, fun n k kvs hn => ?_⟩
      rw [e2 n k kvs hn, if_neg c, k2 n k kvs hn]
end ZP

namespace ZP
open PySem L2 Z
section
variable {A B B' : List Nat}
end
end ZP

namespace ZP
open PySem L2 Z
section
variable {A : List Nat}
end
end ZP

namespace ZP
open PySem L2 Z
end ZP

namespace ZP
open PySem L2 Z
end ZP

namespace ZP
open PySem L2 Z
section
variable {A : List Nat}
end
end ZP

namespace ZP
open PySem L2 Z
inductive R3 where
  | ok (t o0 o2 o3 : T) | stuck
def slotO (ps : PEnv) (a : Nat) : Option T := match ps[a]? with
  | some (some (.own t)) => some t
  | _ => none
def p3 (a0 a1 a2 a3 : Nat) (P : T → T → T → T → R3) : P1 := fun ps => match slotO ps a0, slotO ps a1, slotO ps a2, slotO ps a3 with
  | some t0, some t1, some t2, some t3 => (match P t0 t1 t2 t3 with
    | .ok t o0 o2 o3 => .ok t (((ps.set a0 (some (.own o0))).set a2 (some (.own o2))).set a3 (some (.own o3)))
    | .stuck => .stuck)
  | _, _, _, _ => .stuck
end ZP

namespace ZP
open PySem L2 Z
section
variable {A : List Nat}
end
end ZP

namespace ZP
open PySem L2 Z
section
variable {A B : List Nat}
end
end ZP

namespace ZP
open PySem L2 Z
end ZP

namespace ZP
open PySem L2 Z
section
variable {A B : List Nat}
end
end ZP

namespace ZP
open PySem L2 Z
def PoE (A : List Nat) (S : Cel) (h : Hq) (X : Xt) (O : Om) (r : RS) (z : Rp) : Prop := match z with
  | .ok f ps => ∃ fl ρ' h' S' O' ρ2, r = .ok fl ρ' h' ∧ Wd S S' h h' O O' ∧ Inv A S' h' X O' ρ2 ps ∧ FlR S' h h' X O O' fl f
  | .exc c ps => ∃ ρ' h' S' O' ρ2, r = .exc c ρ' h' ∧ Wd S S' h h' O O' ∧ Inv A S' h' X O' ρ2 ps
  | .stuck => True
def JE (A : List Nat) (m : MS) (p : PS) : Prop := ∀ S h X O ρ ps, Inv A S h X O ρ ps → PoE A S h X O (m ρ h) (p ps)
theorem PoS.e {A : List Nat} {S : Cel} {h : Hq} {X : Xt} {O : Om} {r : RS} {z : Rp} (a : PoS A S h X O r z) : PoE A S h X O r z := by
  cases z with
  | ok f ps => obtain ⟨fl, ρ', h', S', O', e, b, v, k⟩ := a; exact ⟨fl, ρ', h', S', O', ρ', e, b, v, k⟩
  | exc c ps => obtain ⟨ρ', h', S', O', e, b, v⟩ := a; exact ⟨ρ', h', S', O', ρ', e, b, v⟩
  | stuck => trivial
theorem JS.e {A : List Nat} {m : MS} {p : PS} (j : JS A m p) : JE A m p := fun S h X O ρ ps v => (j S h X O ρ ps v).e
theorem PoE.up {A : List Nat} {S S1 : Cel} {h h1 : Hq} {X : Xt} {O O1 : Om} {r : RS} {z : Rp} (a : Wd S S1 h h1 O O1) (p : PoE A S1 h1 X O1 r z) : PoE A S h X O r z := by
  cases z with
  | ok f ps => obtain ⟨fl, ρ', h', S', O', ρ2, e, b, v, k⟩ := p; exact ⟨fl, ρ', h', S', O', ρ2, e, a.trans b, v, k.up a⟩
  | exc c ps => obtain ⟨ρ', h', S', O', ρ2, e, b, v⟩ := p; exact ⟨ρ', h', S', O', ρ2, e, a.trans b, v⟩
  | stuck => trivial
def notAl (r : Nat) : Option En → Bool
  | some (.als r' _) => decide (r' ≠ r)
  | _ => true
def isAl (r : Nat) (q : Pth) : Option (Option En) → Bool
  | some (some (.als r' q')) => decide (r' = r ∧ q' = q)
  | _ => false
section
variable {A : List Nat}
theorem Inv.alias {S : Cel} {h : Hq} {X : Xt} {O : Om} {ρ : Ev} {ps : PEnv} (v : Inv A S h X O ρ ps) {x r : Nat} {w : W} {q : Pth} (hx : x ∉ A) (hxr : x ≠ r) (k : AtP h ρ ps r w q) : Inv (r :: A) S h X O (ρ.set x (some w)) (ps.set x (some (.als r q))) where
  toBd := v.toBd
  len := by simp [v.len]
  en := fun j e ej => by
    by_cases c : x = j
    · subst c
      have hl : x < ps.length := by have := lt_of_get ej; simpa using this
      rw [List.getElem?_set_self hl] at ej
      cases ej
      obtain ⟨w0, t0, u, h1, h2, h3, h4⟩ := k
      refine ⟨by simp, w, w0, t0, u, List.getElem?_set_self (by rw [v.len]; exact hl), by rw [List.getElem?_set_ne hxr]; exact h1, h4, ?_, h3⟩
      rw [rootT_set (Ne.symm hxr)]
      unfold rootT
      rcases h2 with h2 | h2 <;> rw [h2]
    · rw [List.getElem?_set_ne c] at ej
      have := v.en j e ej
      cases e with
      | own t => obtain ⟨w, hw, d⟩ := this; exact ⟨w, by rw [List.getElem?_set_ne c]; exact hw, d⟩
      | par t => obtain ⟨w, hw, d⟩ := this; exact ⟨w, ⟨by rw [List.getElem?_set_ne c]; exact hw.1, hw.2⟩, d⟩
      | ext t => obtain ⟨w, o, hw, d⟩ := this; exact ⟨w, o, by rw [List.getElem?_set_ne c]; exact hw, d⟩
      | als r2 p2 =>
        obtain ⟨ha, w, wr, t0, t1, h1, h2, h3, h4, h5⟩ := this
        have n : r2 ≠ x := fun z => hx (z ▸ ha)
        exact ⟨List.mem_cons_of_mem _ ha, w, wr, t0, t1, by rw [List.getElem?_set_ne c]; exact h1, by rw [List.getElem?_set_ne (Ne.symm n)]; exact h2, h3, by rw [rootT_set n]; exact h4, h5⟩
def inO (x r : Nat) (q : Pth) (O : Om) : Om := fun n => match O n with
  | some (j, s) => if j = r then (cut0 q s).map (fun s' => (x, s')) else if j = x then none else some (j, s)
  | none => none
def offO (r : Nat) (q : Pth) (O : Om) (n : Nat) : Bool := match O n with
  | some (j, s) => decide (j = r) && (cut0 q s).isNone
  | none => false
theorem offO_iff {r : Nat} {q : Pth} {O : Om} {n : Nat} : offO r q O n = true ↔ ∃ s, O n = some (r, s) ∧ cut0 q s = none := by
  unfold offO
  cases e : O n with
  | none => simp
  | some p =>
    obtain ⟨j, s⟩ := p
    simp only [Bool.and_eq_true, decide_eq_true_eq, Option.isNone_iff_eq_none, Option.some.injEq, Prod.mk.injEq]
    constructor
    · rintro ⟨a, b⟩; exact ⟨s, ⟨a, rfl⟩, b⟩
    · rintro ⟨s', ⟨a, rfl⟩, b⟩; exact ⟨a, b⟩
theorem inO_none {x r : Nat} {q : Pth} {O : Om} {n : Nat} (e : O n = none) : inO x r q O n = none := by unfold inO; rw [e]
theorem inO_ne {x r : Nat} {q : Pth} {O : Om} {n : Nat} (e : inO x r q O n ≠ none) : O n ≠ none ∧ offO r q O n = false := by
  refine ⟨fun z => e (inO_none z), ?_⟩
  cases z : offO r q O n with
  | false => rfl
  | true =>
    obtain ⟨s, e1, e2⟩ := offO_iff.mp z
    exact absurd (by unfold inO; rw [e1]; simp [e2]) e
theorem inO_keep {x r : Nat} {q : Pth} {O : Om} {n j : Nat} {s : Pth} (e : O n = some (j, s)) (h1 : j ≠ r) (h2 : j ≠ x) : inO x r q O n = some (j, s) := by
  unfold inO; rw [e]; simp [h1, h2]
theorem inO_in {x r : Nat} {q : Pth} {O : Om} {n : Nat} {s : Pth} (e : O n = some (r, q ++ s)) : inO x r q O n = some (x, s) := by
  unfold inO; rw [e]; simp [cut0_some.mpr rfl]
def bkO (x r : Nat) (q : Pth) (O O' : Om) : Om := fun n => match O' n with
  | some (j, s) => if j = x then some (r, q ++ s) else some (j, s)
  | none => if offO r q O n then O n else none
theorem bkO_ne {x r : Nat} {q : Pth} {O O' : Om} {n : Nat} (e : bkO x r q O O' n ≠ none) : O' n ≠ none ∨ offO r q O n = true := by
  unfold bkO at e
  cases z : O' n with
  | some p => exact .inl (by simp)
  | none =>
    rw [z] at e
    dsimp only at e
    by_cases c : offO r q O n = true
    · exact .inr c
    · rw [if_neg c] at e; exact absurd rfl e
def inX (x r : Nat) (q : Pth) (O : Om) (w : W) (X : Xt) : Xt := ⟨fun n => X.x n || offO r q O n, fun i => if i = x then w else X.w i⟩
theorem Inv.focus {S : Cel} {h : Hq} {X : Xt} {O : Om} {ρ : Ev} {ps : PEnv} {x r : Nat} {w0 w : W} {q : Pth} {t0 t1 : T} (v : Inv (r :: A) S h X O ρ ps) (hxA : x ∉ A) (hxr : x ≠ r)
    (d0 : D S h (sl O r) [] w0 t0) (hg : getT t0 q = some t1) (hp : Pw h w0 q w) (hw : ρ[x]? = some (some w)) (na : (ps.set x none).all (notAl r) = true) :
    Inv A S h (inX x r q O w X) (inO x r q O) ρ ((ps.set r none).set x (some (.par t1))) := by
  have bx : ∀ n, (inX x r q O w X).x n = true → X.x n = true ∨ O n ≠ none := fun n e => by
    have e : (X.x n || offO r q O n) = true := e
    rw [Bool.or_eq_true] at e
    refine e.imp id fun e => ?_
    obtain ⟨s, e1, _⟩ := offO_iff.mp e
    rw [e1]; simp
  refine ⟨⟨v.s, fun n e => ?_, fun n e => ?_⟩, by simp [v.len], fun j en ej => ?_⟩
  · rcases bx n e with e | e
    · exact v.x n e
    · exact ⟨(v.o n e).1, (v.o n e).2.1⟩
  · obtain ⟨e1, e2⟩ := inO_ne e
    have := v.o n e1
    exact ⟨this.1, this.2.1, by show (X.x n || offO r q O n) = false; rw [this.2.2, e2]; rfl⟩
  · by_cases c : x = j
    · subst c
      have hl : x < ps.length := by have := lt_of_get ej; simpa using this
      rw [List.getElem?_set_self (by simpa using hl)] at ej
      cases ej
      obtain ⟨y, h5, d2⟩ := d0.sub hg
      cases hp.fn h5
      refine ⟨w, ⟨hw, by simp [inX]⟩, ?_⟩
      refine D.move d2 (fun _ z => z) (fun _ _ => rfl) fun n s e => ?_
      have e : sl O r n = some (q ++ s) := e
      exact ⟨sl_some.mpr (inO_in (sl_some.mp e)), rfl⟩
    · rw [List.getElem?_set_ne c] at ej
      by_cases c2 : r = j
      · subst c2
        have hl : r < ps.length := by have := lt_of_get ej; simpa using this
        rw [List.getElem?_set_self hl] at ej
        cases ej
      · rw [List.getElem?_set_ne c2] at ej
        have al : ∀ r' p, en = .als r' p → r' ≠ r := fun r' p z => by
          subst z
          have := List.all_eq_true.mp na (some (.als r' p)) (List.mem_of_getElem? (by rw [List.getElem?_set_ne c]; exact ej))
          simpa [notAl] using this
        have := v.en j en ej
        have other : ∀ (w : W) (t : T), D S h (sl O j) [] w t → D S h (sl (inO x r q O) j) [] w t := fun w t d => D.move d (fun _ z => z) (fun _ _ => rfl) fun n s e => ⟨sl_some.mpr (inO_keep (sl_some.mp e) (Ne.symm c2) (Ne.symm c)), rfl⟩
        cases en with
        | own t => obtain ⟨w, hw, d⟩ := this; exact ⟨w, hw, other _ _ d⟩
        | par t => obtain ⟨w, hw, d⟩ := this; exact ⟨w, ⟨hw.1, by rw [hw.2]; simp [inX, Ne.symm c]⟩, other _ _ d⟩
        | ext t => obtain ⟨w, o, hw, d, k⟩ := this; exact ⟨w, o, hw, d, fun n e => by show (X.x n || _) = true; rw [k n e]; rfl⟩
        | als r2 p2 =>
          obtain ⟨ha, w, wr, t2, t3, h1, h2, h3, h4, h5⟩ := this
          have n2 : r2 ≠ r := al r2 p2 rfl
          have ha : r2 ∈ A := by rcases List.mem_cons.mp ha with z | z; exact absurd z n2; exact z
          have n1 : r2 ≠ x := fun z => hxA (z ▸ ha)
          exact ⟨ha, w, wr, t2, t3, h1, h2, h3, by rw [rootT_set n1, rootT_set n2]; exact h4, h5⟩
end
end ZP

namespace ZP
open PySem L2 Z
section
variable {A B : List Nat} {cs : List (Nat × Nat)} {k : Nat}
end
inductive RK where
  | ok (t : T) (os : List T) | stuck
section
variable {cs : List (Nat × Nat)} {O O2 : Om} {n : Nat}
end
end ZP

namespace ZP
open PySem L2 Z
section
variable {ps : PEnv} {x r : Nat} {q : Pth} {b : PS} {e : T → En} {t0 t1 u : T}
theorem isAl_s : isAl r q (some (some (.als r q))) = true := by simp [isAl]
theorem notAl_n : notAl r none = true := id rfl
theorem notAl_o : notAl r (some (.own u)) = true := id rfl
theorem notAl_e : notAl r (some (.ext u)) = true := id rfl
theorem allNA_nil : List.all [] (notAl r) = true := id rfl
theorem allNA_cons {o : Option En} {os : PEnv} : List.all (o :: os) (notAl r) = (notAl r o && List.all os (notAl r)) := by simp
variable {as is : List Nat} {us ts : List T} {P : List T → RK} {qa : P0a} {v : Zv} {t : T}
end
end ZP

namespace ZP
open PySem L2 Z
section
variable {A B B' : List Nat}
theorem FrL.ext {S S' : Cel} {h0 h h' : Hq} {ws : List W} {ts : List T} (f : FrL S h0 h ws ts) (a : Wx S S' h h') (s : Sb S h) : FrL S' h0 h' ws ts := by
  obtain ⟨o, hl, d, g⟩ := f
  refine ⟨o, hl, fun i x u hx hu => (d i x u hx hu).ext a s fun n z => (g n z).2.1, fun n z => ?_⟩
  obtain ⟨g1, g2, g3⟩ := g n z
  exact ⟨g1, Nat.lt_of_lt_of_le g2 a.len, notS a g2 g3⟩
theorem FrL.app {S S' : Cel} {h0 h h' : Hq} {ws : List W} {ts : List T} {w : W} {t : T} (l : h0.length ≤ h.length) (f : FrL S h0 h ws ts) (a : Wx S S' h h') (s : Sb S h) (k : Fr S' h h' w t) : FrL S' h0 h' (ws ++ [w]) (ts ++ [t]) := by
  obtain ⟨o1, hl, d1, g1⟩ := f
  obtain ⟨o2, d2, g2⟩ := k
  have lo : ∀ n, n < h.length → (if n < h.length then o1 n else (o2 n).map (ws.length :: ·)) = o1 n := fun n hn => if_pos hn
  have hi : ∀ n, ¬ n < h.length → (if n < h.length then o1 n else (o2 n).map (ws.length :: ·)) = (o2 n).map (ws.length :: ·) := fun n hn => if_neg hn
  refine ⟨fun n => if n < h.length then o1 n else (o2 n).map (ws.length :: ·), by simp [hl], fun i x u hx hu => ?_, fun n hn => ?_⟩
  · rcases Nat.lt_trichotomy i ws.length with c | c | c
    · rw [List.getElem?_append_left c] at hx
      rw [List.getElem?_append_left (by omega)] at hu
      refine D.move (p := [i]) (p' := [i]) (d1 i x u hx hu) a.le (fun n z => a.fr n (s n z)) fun n q e => ?_
      have b := g1 n (by rw [e]; simp)
      exact ⟨by rw [lo n b.2.1, e], a.fr n b.2.1⟩
    · subst c
      rw [List.getElem?_append_right (Nat.le_refl _)] at hx
      rw [List.getElem?_append_right (by omega)] at hu
      simp at hx
      rw [hl] at hu
      simp at hu
      subst hx; subst hu
      refine D.move (p := []) (p' := [ws.length]) d2 (fun _ z => z) (fun _ _ => rfl) fun n q e => ?_
      have b := g2 n (by rw [e]; simp)
      exact ⟨by rw [hi n (by omega), e]; rfl, rfl⟩
    · rw [List.getElem?_eq_none (by simp; omega)] at hx
      cases hx
  · rcases Nat.lt_or_ge n h.length with c | c
    · have e : o1 n ≠ none := fun z => hn (by show (if n < h.length then _ else _) = none; rw [lo n c, z])
      have b := g1 n e
      exact ⟨b.1, Nat.lt_of_lt_of_le c a.len, notS a b.2.1 b.2.2⟩
    · have e : o2 n ≠ none := fun z => hn (by show (if n < h.length then _ else _) = none; rw [hi n (by omega), z]; rfl)
      have b := g2 n e
      exact ⟨Nat.le_trans l b.1, b.2⟩
end
section
variable {g : PG} {c : P0b} {e : P0} {ps : PEnv} {vs : List Nat} {i : P0i} {r : Nat} {q : Pth} {tv : T}
end
end ZP

namespace ZP
open PySem L2 Z
section
variable {A B B' : List Nat}
def ItX (S : Cel) (h : Hq) (X : Xt) (ws : List W) (ts : List T) : Prop := ws.length = ts.length ∧ ∀ (i : Nat) (w : W) (t : T), ws[i]? = some w → ts[i]? = some t → ∃ o, D S h o [] w t ∧ ∀ n, o n ≠ none → X.x n = true
theorem ItX.tl {S : Cel} {h : Hq} {X : Xt} {w : W} {t : T} {ws : List W} {ts : List T} (k : ItX S h X (w :: ws) (t :: ts)) : ItX S h X ws ts := ⟨by simpa using k.1, fun i w' t' hw ht => k.2 (i + 1) w' t' (by simpa using hw) (by simpa using ht)⟩
theorem ItX.ext {S S' : Cel} {h h' : Hq} {X : Xt} {O : Om} {ws : List W} {ts : List T} (k : ItX S h X ws ts) (b : Bd S h X O) (a : Wx S S' h h') : ItX S' h' X ws ts := ⟨k.1, fun i w t hw ht => by
  obtain ⟨o, d, g⟩ := k.2 i w t hw ht
  exact ⟨o, d.ext a b.s fun n z => (b.x n (g n z)).1, g⟩⟩
end
section
variable {ps : PEnv} {vs : List Nat} {i k : Nat} {c : P0b} {e : P0} {ts : List T}
end
end ZP

namespace ZP
open PySem L2 Z
def Kps (J : List Nat) (m : MS) : Prop := ∀ ρ h, match m ρ h with
  | .ok _ ρ' _ => ∀ j ∈ J, ρ'[j]? = ρ[j]?
  | .exc _ ρ' _ => ∀ j ∈ J, ρ'[j]? = ρ[j]?
  | .stuck => True
def midE : Option En → Option En
  | some (.par t) => some (.par t)
  | some (.own t) => some (.own t)
  | some (.ext (.z v)) => some (.ext (.z v))
  | _ => none
def midsP (ps : PEnv) : PEnv := ps.map midE
def backM (x r : Nat) (e : T → En) (t0 : T) (q : Pth) (ps : PEnv) : Option PEnv := match ps[x]? with
  | some (some (.par u)) => some (((midsP ps).set x none).set r (some (e (setT t0 q u))))
  | _ => none
def backMP (x r : Nat) (e : T → En) (t0 : T) (q : Pth) : Rp → Rp
  | .ok f ps => (match backM x r e t0 q ps with
    | some ps' => .ok f ps'
    | none => .stuck)
  | .exc c ps => (match backM x r e t0 q ps with
    | some ps' => .exc c ps'
    | none => .stuck)
  | .stuck => .stuck
def focM (x r : Nat) (q : Pth) (b : PS) (e : T → En) (t0 : T) (ps : PEnv) : Rp := match getT t0 q with
  | some t1 => if isAl r q ps[x]? && (ps.set x none).all (notAl r) then backMP x r e t0 q (b ((ps.set r none).set x (some (.par t1)))) else .stuck
  | none => .stuck
def focMG (x r : Nat) (q : Pth) (b : PS) (ps : PEnv) : Rp := match ps[r]? with
  | some (some (.own t0)) => focM x r q b .own t0 ps
  | some (some (.par t0)) => focM x r q b .par t0 ps
  | _ => .stuck
def pAlsM (x r : Nat) (p : P0p) (b : PS) : PS := fun ps => match p ps with
  | .ok q => focMG x r q b (ps.set x (some (.als r q)))
  | _ => .stuck
section
variable {A : List Nat}
theorem midE_some {ps : PEnv} {j : Nat} {e : En} (h : (midsP ps)[j]? = some (some e)) : ps[j]? = some (some e) ∧ ((∃ t, e = .par t) ∨ (∃ t, e = .own t) ∨ ∃ v, e = .ext (.z v)) := by
  unfold midsP at h
  rw [List.getElem?_map, Option.map_eq_some_iff] at h
  obtain ⟨o, h1, h2⟩ := h
  unfold midE at h2
  split at h2
  · cases h2; exact ⟨h1, .inl ⟨_, rfl⟩⟩
  · cases h2; exact ⟨h1, .inr (.inl ⟨_, rfl⟩)⟩
  · cases h2; exact ⟨h1, .inr (.inr ⟨_, rfl⟩)⟩
  · cases h2
theorem Inv.mback {S S' : Cel} {h h' : Hq} {X : Xt} {O O' : Om} {ρ ρ2 : Ev} {ps ps2 ps' : PEnv} {x r : Nat} {w0 w : W} {q : Pth} {t0 t1 : T} {e : T → En} (v : Inv (r :: A) S h X O ρ ps) (hxr : x ≠ r)
    (d0 : D S h (sl O r) [] w0 t0) (hg : getT t0 q = some t1) (hp : Pw h w0 q w) (he : e = .own ∨ e = .par ∧ w0 = X.w r)
    (wd : Wd S S' h h' (inO x r q O) O') (v' : Inv A S' h' (inX x r q O w X) O' ρ2 ps2) (eb : backM x r e t0 q ps2 = some ps') (h2r : ρ2[r]? = some (some w0)) :
    Wd S S' h h' O (bkO x r q O O') ∧ Inv A S' h' X (bkO x r q O O') ρ2 ps' ∧ ∀ fl f, FlR S' h h' (inX x r q O w X) (inO x r q O) O' fl f → FlR S' h h' X O (bkO x r q O O') fl f := by
  have xx : ∀ n, (inX x r q O w X).x n = false → X.x n = false ∧ offO r q O n = false := fun n z => by
    have z : (X.x n || offO r q O n) = false := z
    rw [Bool.or_eq_false_iff] at z
    exact z
  have off' : ∀ n, offO r q O n = true → O' n = none ∧ n < h'.length ∧ S' n = false ∧ O n ≠ none := fun n z => by
    have hx : (inX x r q O w X).x n = true := by show (X.x n || offO r q O n) = true; rw [z]; simp
    have b := v'.x n hx
    refine ⟨?_, b.1, b.2, ?_⟩
    · cases y : O' n with
      | none => rfl
      | some p => have := (v'.o n (by rw [y]; simp)).2.2; rw [hx] at this; cases this
    · obtain ⟨s, e1, _⟩ := offO_iff.mp z
      rw [e1]; simp
  refine ⟨⟨wd.le, fun n z => ?_, fun n hn z => wd.fr n hn (inO_none z), wd.len, fun n z => ?_⟩, ?_, ?_⟩
  · rcases wd.new n z with y | y | y
    · exact .inl y
    · exact .inr (.inl (inO_ne y).1)
    · exact .inr (.inr y)
  · rcases bkO_ne z with y | y
    · rcases wd.own n y with y | y
      · exact .inl (inO_ne y).1
      · exact .inr y
    · exact .inl (off' n y).2.2.2
  · unfold backM at eb
    split at eb
    · rename_i u eu
      cases eb
      obtain ⟨w', ⟨hw', ew⟩, d'⟩ := v'.en x _ eu
      have ew : w' = w := by rw [ew]; simp [inX]
      subst ew
      refine ⟨⟨v'.s, fun n z => ?_, fun n z => ?_⟩, ?_, fun j en ej => ?_⟩
      · exact v'.x n (by show (X.x n || _) = true; rw [z]; rfl)
      · rcases bkO_ne z with y | y
        · have := v'.o n y
          exact ⟨this.1, this.2.1, (xx n this.2.2).1⟩
        · obtain ⟨a, b, c, d⟩ := off' n y
          exact ⟨b, c, (v.o n d).2.2⟩
      · simp [midsP, v'.len]
      · by_cases c : r = j
        · subst c
          have hl : r < ps2.length := by have := lt_of_get ej; simpa [midsP] using this
          rw [List.getElem?_set_self (by simpa [midsP] using hl)] at ej
          have hh : ∀ n, S n = true → h'[n]? = h[n]? := fun n z => wd.fr n (v.s n z) (inO_none (v.sO z))
          have main : D S' h' (sl (bkO x r q O O') r) [] w0 (setT t0 q u) := by
            refine D.put wd.le hh d0 hg hp (fun n s e k => ?_) ?_
            · have e2 : O n = some (r, s) := sl_some.mp e
              have cn : cut0 q s = none := by
                cases z : cut0 q s with
                | none => rfl
                | some s' => exact absurd (cut0_some.mp z) (k s')
              have of : offO r q O n = true := offO_iff.mpr ⟨s, e2, cn⟩
              have o' := (off' n of).1
              refine ⟨sl_some.mpr ?_, wd.fr n (v.o n (by rw [e2]; simp)).1 ?_⟩
              · unfold bkO
                rw [o']
                simp only [of, if_true]
                exact e2
              · unfold inO; rw [e2]; simp [cn]
            · rw [List.nil_append]
              refine D.move d' (fun _ z => z) (fun _ _ => rfl) fun n s e => ⟨sl_some.mpr ?_, rfl⟩
              have e : sl O' x n = some s := e
              unfold bkO
              rw [sl_some.mp e]
              simp
          have hw0 := h2r
          rcases he with rfl | ⟨rfl, ex⟩
          · cases ej; exact ⟨w0, hw0, main⟩
          · cases ej; exact ⟨w0, ⟨hw0, ex⟩, main⟩
        · rw [List.getElem?_set_ne c] at ej
          by_cases c2 : x = j
          · subst c2
            have hl : x < ps2.length := lt_of_get eu
            rw [List.getElem?_set_self (by simpa [midsP] using hl)] at ej
            cases ej
          · rw [List.getElem?_set_ne c2] at ej
            obtain ⟨e2, k⟩ := midE_some ej
            have mv : ∀ (w9 : W) (t : T), D S' h' (sl O' j) [] w9 t → D S' h' (sl (bkO x r q O O') j) [] w9 t := fun w9 t d => by
              refine D.move d (fun _ z => z) (fun _ _ => rfl) fun n s e => ⟨sl_some.mpr ?_, rfl⟩
              have e : sl O' j n = some s := e
              unfold bkO
              rw [sl_some.mp e]
              simp [Ne.symm c2]
            have := v'.en j _ e2
            rcases k with ⟨t, rfl⟩ | ⟨t, rfl⟩ | ⟨v9, rfl⟩
            · obtain ⟨w9, ⟨h1, h2⟩, d⟩ := this
              exact ⟨w9, ⟨h1, by rw [h2]; simp [inX, Ne.symm c2]⟩, mv _ _ d⟩
            · obtain ⟨w9, h1, d⟩ := this
              exact ⟨w9, h1, mv _ _ d⟩
            · obtain ⟨w9, o9, h1, d, _⟩ := this
              exact ⟨w9, noO, h1, D.z (D.z_iff.mp d), fun n z => absurd rfl z⟩
    · cases eb
  · intro fl f k
    cases fl <;> cases f <;> first | trivial | exact k.elim | skip
    obtain ⟨o, d, g⟩ := k
    refine ⟨o, d, fun n z => ?_⟩
    obtain ⟨g1, g2, g3, g4, g5⟩ := g n z
    obtain ⟨x1, x2⟩ := xx n g3
    refine ⟨g1, g2, x1, ?_, g5.imp (fun y => (inO_ne y).1) id⟩
    unfold bkO
    rw [g4]
    simp [x2]
theorem js_als {x r : Nat} {m : ME} {b : MS} {p : P0p} {pb : PS} (hx : x ∉ A) (hxr : x ≠ r) (jo : JP A r m p) (jb : JS A b pb) (kb : Kps [r] b) : JS A (sSeq (sAsg m (gN x)) b) (pAlsM x r p pb) := fun S h X O ρ ps v => by
  unfold pAlsM
  have hj := jo S h X O ρ ps v
  revert hj
  cases p ps with
  | exc c => exact fun _ => trivial
  | stuck => exact fun _ => trivial
  | ok q =>
    rintro ⟨w, h1, S1, e1, a1, s1, k1⟩
    have v1 := (v.ext a1 s1).alias hx hxr k1
    have eA : sAsg m (gN x) ρ h = .ok .nx (ρ.set x (some w)) h1 := by unfold sAsg; rw [e1]; rfl
    show PoS A S h X O (thenS (sAsg m (gN x) ρ h) b) (focMG x r q pb (ps.set x (some (.als r q))))
    rw [eA]
    show PoS A S h X O (b (ρ.set x (some w)) h1) _
    generalize ρ.set x (some w) = ρ1 at v1 ⊢
    generalize ps.set x (some (.als r q)) = ps1 at v1 ⊢
    refine PoS.up a1.wd ?_
    have go : ∀ (e : T → En) (w0 : W) (t0 : T), (e = .own ∨ e = .par ∧ w0 = X.w r) → ρ1[r]? = some (some w0) → rootT ps1 r = some t0 → D S1 h1 (sl O r) [] w0 t0 → PoS A S1 h1 X O (b ρ1 h1) (focM x r q pb e t0 ps1) := fun e w0 t0 he hw0 hr d0 => by
      unfold focM
      cases hg : getT t0 q with
      | none => trivial
      | some t1 =>
        dsimp only
        by_cases c : (isAl r q ps1[x]? && (ps1.set x none).all (notAl r)) = true
        · rw [if_pos c]
          rw [Bool.and_eq_true] at c
          obtain ⟨c1, c2⟩ := c
          have hal : ps1[x]? = some (some (.als r q)) := by
            revert c1
            unfold isAl
            split
            · rename_i r' q' z
              intro y
              simp at y
              obtain ⟨rfl, rfl⟩ := y
              exact z
            · intro y; cases y
          obtain ⟨_, wx, wr, t2, t3, g1, g2, g3, g4, g5⟩ := v1.en x _ hal
          rw [hw0] at g2; cases g2
          have vf := v1.focus hx hxr d0 hg g3 g1 c2
          have hb := jb S1 h1 _ _ _ _ vf
          have hk := kb ρ1 h1
          revert hb hk
          cases pb ((ps1.set r none).set x (some (.par t1))) with
          | stuck => exact fun _ _ => trivial
          | ok f ps2 =>
            rintro ⟨fl, ρ', h', S', O', e3, wd, v3, kf⟩
            rw [e3]
            intro hk
            unfold backMP
            dsimp only
            cases eb : backM x r e t0 q ps2 with
            | none => trivial
            | some ps' =>
              obtain ⟨b1, b2, b3⟩ := v1.mback hxr d0 hg g3 he wd v3 eb (by rw [hk r (by simp)]; exact hw0)
              exact ⟨fl, ρ', h', S', _, rfl, b1, b2, b3 _ _ kf⟩
          | exc c ps2 =>
            rintro ⟨ρ', h', S', O', e3, wd, v3⟩
            rw [e3]
            intro hk
            unfold backMP
            dsimp only
            cases eb : backM x r e t0 q ps2 with
            | none => trivial
            | some ps' =>
              obtain ⟨b1, b2, b3⟩ := v1.mback hxr d0 hg g3 he wd v3 eb (by rw [hk r (by simp)]; exact hw0)
              exact ⟨ρ', h', S', _, rfl, b1, b2⟩
        · rw [if_neg c]; trivial
    unfold focMG
    split
    · rename_i t0 z
      obtain ⟨w0, hw0, d0⟩ := v1.en r _ z
      exact go _ w0 t0 (.inl rfl) hw0 (by unfold rootT; rw [z]) d0
    · rename_i t0 z
      obtain ⟨w0, hw0, d0⟩ := v1.en r _ z
      exact go _ w0 t0 (.inr ⟨rfl, hw0.2⟩) hw0.1 (by unfold rootT; rw [z]) d0
    · trivial
end
section
variable {J : List Nat}
def KpR (J : List Nat) (ρ : Ev) : RS → Prop
  | .ok _ ρ' _ => ∀ j ∈ J, ρ'[j]? = ρ[j]?
  | .exc _ ρ' _ => ∀ j ∈ J, ρ'[j]? = ρ[j]?
  | .stuck => True
theorem Kps.iff {m : MS} : Kps J m ↔ ∀ ρ h, KpR J ρ (m ρ h) := by
  refine forall_congr' fun ρ => forall_congr' fun h => ?_
  cases m ρ h <;> exact Iff.rfl
theorem KpR.toS {α : Type} {r : Res α} {ρ : Ev} {f : α → Hq → RS} (h : ∀ a h1, KpR J ρ (f a h1)) : KpR J ρ (r.toS ρ f) := by
  cases r with
  | ok a h1 => exact h a h1
  | exc c h1 => exact fun _ _ => rfl
  | stuck => trivial
theorem KpR.trans {ρ ρ1 : Ev} {r : RS} (a : ∀ j ∈ J, ρ1[j]? = ρ[j]?) (h : KpR J ρ1 r) : KpR J ρ r := by
  cases r with
  | ok f ρ2 h2 => exact fun j hj => (h j hj).trans (a j hj)
  | exc c ρ2 h2 => exact fun j hj => (h j hj).trans (a j hj)
  | stuck => trivial
theorem kp_nop : Kps J sNop := fun ρ h _ _ => rfl
theorem kp_retN : Kps J sRetN := fun ρ h _ _ => rfl
theorem kp_raise {c : Str} : Kps J (sRaise c) := fun ρ h _ _ => rfl
theorem kp_seq {a b : MS} (ha : Kps J a) (hb : Kps J b) : Kps J (sSeq a b) := Kps.iff.mpr fun ρ h => by
  have h1 := Kps.iff.mp ha ρ h
  unfold sSeq
  revert h1
  cases a ρ h with
  | stuck => exact fun _ => trivial
  | exc c ρ1 h1 => exact id
  | ok f ρ1 h1 =>
    cases f with
    | nx => exact fun q => KpR.trans q (Kps.iff.mp hb ρ1 h1)
    | bk => exact id
    | ct => exact id
    | rt w => exact id
theorem kp_if {c : MT} {a b : MS} (ha : Kps J a) (hb : Kps J b) : Kps J (sIf c a b) := Kps.iff.mpr fun ρ h => by
  unfold sIf
  refine KpR.toS fun k h1 => ?_
  cases k with
  | true => exact Kps.iff.mp ha ρ h1
  | false => exact Kps.iff.mp hb ρ h1
theorem kp_asg {m : ME} {i : Nat} (hi : i ∉ J) : Kps J (sAsg m (gN i)) := Kps.iff.mpr fun ρ h => by
  unfold sAsg
  exact KpR.toS fun w h1 => fun j hj => List.getElem?_set_ne (fun e : i = j => hi (e ▸ hj))
theorem kp_expr {m : ME} : Kps J (sExpr m) := Kps.iff.mpr fun ρ h => by
  unfold sExpr
  exact KpR.toS fun w h1 => fun j hj => rfl
theorem kp_ret {m : ME} : Kps J (sRet m) := Kps.iff.mpr fun ρ h => by
  unfold sRet
  exact KpR.toS fun w h1 => fun j hj => rfl
theorem kp_put {o i e : ME} : Kps J (sPut o i e) := Kps.iff.mpr fun ρ h => by
  unfold sPut
  refine KpR.toS fun y h1 => KpR.toS fun x h2 => KpR.toS fun k h3 => ?_
  cases putIx x k y h3 with
  | none => trivial
  | some h4 => exact fun j hj => rfl
theorem kp_dput {o i e : ME} : Kps J (sDput o i e) := Kps.iff.mpr fun ρ h => by
  unfold sDput
  refine KpR.toS fun y h1 => KpR.toS fun x h2 => KpR.toS fun k h3 => ?_
  cases dputW h3 x k y with
  | none => trivial
  | some h4 => exact fun j hj => rfl
theorem kp_putD {o i e : ME} : Kps J (sPutD o i e) := Kps.iff.mpr fun ρ h => by
  unfold sPutD
  split
  · exact Kps.iff.mp kp_dput ρ h
  · exact Kps.iff.mp kp_put ρ h
theorem kp_del {o i : ME} : Kps J (sDel o i) := Kps.iff.mpr fun ρ h => by
  unfold sDel
  refine KpR.toS fun x h1 => KpR.toS fun k h2 => ?_
  cases ddelW h2 x k with
  | none => trivial
  | some h4 => exact fun j hj => rfl
theorem kp_for {it : MI} {i : Nat} {b : MS} (hi : i ∉ J) (hb : Kps J b) : Kps J (sFor it (gN i) b) := Kps.iff.mpr fun ρ h => by
  unfold sFor
  refine KpR.toS fun s h1 => ?_
  generalize s.items = ws
  induction ws generalizing ρ h1 with
  | nil =>
    unfold loopF
    split
    · exact fun j hj => rfl
    · trivial
  | cons w ws ih =>
    unfold loopF
    split
    · dsimp only [gN]
      have a : ∀ j ∈ J, (ρ.set i (some w))[j]? = ρ[j]? := fun j hj => List.getElem?_set_ne (fun e : i = j => hi (e ▸ hj))
      have q := Kps.iff.mp hb (ρ.set i (some w)) h1
      revert q
      cases b (ρ.set i (some w)) h1 with
      | stuck => exact fun _ => trivial
      | exc c ρ2 h2 => exact KpR.trans a
      | ok f ρ2 h2 =>
        cases f with
        | nx => exact fun q => KpR.trans a (KpR.trans q (ih ρ2 h2))
        | ct => exact fun q => KpR.trans a (KpR.trans q (ih ρ2 h2))
        | bk => exact fun q => KpR.trans a (r := .ok .nx ρ2 h2) q
        | rt w => exact fun q => KpR.trans a q
    · trivial
end
section
variable {ps : PEnv} {x r : Nat} {q : Pth} {b : PS} {e : T → En} {t0 t1 u : T} {v : Zv}
theorem pAlsM_ap {p : P0p} : pAlsM x r p b ps = (match p ps with
  | .ok q => focMG x r q b (ps.set x (some (.als r q)))
  | _ => .stuck) := id rfl
theorem focMG_ap : focMG x r q b ps = (match ps[r]? with
  | some (some (.own t0)) => focM x r q b .own t0 ps
  | some (some (.par t0)) => focM x r q b .par t0 ps
  | _ => .stuck) := id rfl
def focMQ (x r : Nat) (q : Pth) (b : PS) (e : T → En) (t0 : T) (ps : PEnv) : Option T → Rp
  | some t1 => if isAl r q ps[x]? && (ps.set x none).all (notAl r) then backMP x r e t0 q (b ((ps.set r none).set x (some (.par t1)))) else .stuck
  | none => .stuck
theorem focM_ap : focM x r q b e t0 ps = focMQ x r q b e t0 ps (getT t0 q) := id rfl
theorem focMQ_s : focMQ x r q b e t0 ps (some t1) = if isAl r q ps[x]? && (ps.set x none).all (notAl r) then backMP x r e t0 q (b ((ps.set r none).set x (some (.par t1)))) else .stuck := id rfl
theorem backMP_ok {f : Fp} : backMP x r e t0 q (.ok f ps) = (match backM x r e t0 q ps with
  | some ps' => .ok f ps'
  | none => .stuck) := id rfl
theorem backM_ap : backM x r e t0 q ps = (match ps[x]? with
  | some (some (.par u)) => some (((midsP ps).set x none).set r (some (e (setT t0 q u))))
  | _ => none) := id rfl
theorem midsP_nil : midsP [] = [] := id rfl
theorem midsP_cons {o : Option En} {os : PEnv} : midsP (o :: os) = midE o :: midsP os := id rfl
theorem midE_n : midE none = none := id rfl
theorem midE_o : midE (some (.own u)) = some (.own u) := id rfl
theorem midE_p : midE (some (.par u)) = some (.par u) := id rfl
theorem midE_z : midE (some (.ext (.z v))) = some (.ext (.z v)) := id rfl
end
end ZP

namespace ZP
open PySem L2 Z
section
variable {A B : List Nat}
theorem sSeq_assoc {a b c : MS} : sSeq (sSeq a b) c = sSeq a (sSeq b c) := by
  funext ρ h
  show thenS (thenS (a ρ h) b) c = thenS (a ρ h) (sSeq b c)
  cases a ρ h with
  | ok f ρ1 h1 => cases f <;> rfl
  | exc e ρ1 h1 => rfl
  | stuck => rfl
theorem js_eq {m m' : MS} {p : PS} (j : JS A m p) (e : m = m') : JS A m' p := e ▸ j
theorem sExpr_dpop {o i : ME} {ρ : Ev} {h : Hq} : sExpr (eDpop1 o i) ρ h = (o ρ h).toS ρ fun x h1 => if isDW h1 x then (i ρ h1).toS ρ fun y h2 => match dpopW h2 x y with
  | some (_, h3) => .ok .nx ρ h3
  | none => .stuck
  else .stuck := by
  unfold sExpr eDpop1
  cases o ρ h with
  | exc c h1 => rfl
  | stuck => rfl
  | ok x h1 =>
    show (if isDW h1 x then _ else _ : Res W).toS ρ _ = (if isDW h1 x then _ else _ : RS)
    split
    · cases i ρ h1 with
      | exc c h2 => rfl
      | stuck => rfl
      | ok y h2 =>
        show (match dpopW h2 x y with | some (w, h3) => Res.ok w h3 | none => .stuck : Res W).toS ρ _ = (match dpopW h2 x y with | some (_, h3) => RS.ok .nx ρ h3 | none => .stuck)
        cases dpopW h2 x y <;> rfl
    · rfl
theorem get_has {k : W} : ∀ {ws : List (W × W)}, hasW k ws = true → ∃ w, getW k ws = some w
  | [], h => by cases h
  | (l, x) :: ws, h => by
    unfold getW
    split
    · exact ⟨_, rfl⟩
    · rename_i c
      refine get_has (ws := ws) ?_
      unfold hasW at h ⊢
      rw [List.any_cons, Bool.or_eq_true] at h
      exact h.resolve_left c
def pDpop (r : Nat) (po : P0p) (pi : P0) : PS := fun ps => (po ps).toP ps fun q => match atT ps r q with
  | some (.dct _ _) => (pi ps).toP ps fun ti => delP r q ti ps
  | _ => .stuck
theorem js_dpop {r : Nat} {o i : ME} {po : P0p} {pi : P0} (hr : r ∉ A) (jo : JP A r o po) (ji : J0b A B i pi) : JS A (sExpr (eDpop1 o i)) (pDpop r po pi) := fun S h X O ρ ps v => by
  rw [sExpr_dpop]
  exact (jo S h X O ρ ps v).toS v fun x q S1 h1 a1 v1 k => by
    obtain ⟨u0, e0, d0⟩ := k.tree v1
    rw [e0]
    cases u0 with
    | dct b0 kvs0 =>
      obtain ⟨n0, tg0, ws0, rfl, on0, hn0, ch0⟩ := D.dct_iff.mp d0
      have isd : isDW h1 (.ref n0) = true := by unfold isDW; simp only [hn0]
      rw [if_pos isd]
      show PoS A S1 h1 X O _ ((pi ps).toP ps fun ti => delP r q ti ps)
      exact (ji S1 h1 X O ρ ps v1).toS v1 fun z ti S2 h2 a2 v2 kz => by
        have k2 := k.ext a2
        obtain ⟨u, e4, d⟩ := k2.tree v2
        unfold delP
        rw [e4]
        cases u with
        | dct b kvs =>
          cases b with
          | true => trivial
          | false =>
            cases ti with
            | z tk =>
              dsimp only
              by_cases c : (keyZ tk && hasZ tk kvs) = true
              · rw [if_pos c]
                rw [Bool.and_eq_true] at c
                obtain ⟨n, tg, ws, e9, on, hn, ch⟩ := D.dct_iff.mp d
                cases e9
                cases eu : updR ps r q (.dct false (delZ kvs tk)) with
                | none => trivial
                | some ps3 =>
                  have nS := (v2.o n0 (sl_none (by rw [on]; simp))).2.1
                  have es : ddelW h2 (.ref n0) z = some (h2.set n0 (.dct 0 false (delKW ws z))) := by
                    unfold ddelW
                    simp only [hn]
                    rw [keyB_of kz.z c.1, has_w (b := false) kz.z c.1 ch, c.2]; rfl
                  have hz : hasW z ws = true := by rw [has_w (b := false) kz.z c.1 ch, c.2]
                  obtain ⟨w, gw⟩ := get_has hz
                  have eg : dgetW h2 (.ref n0) z = some (some w) := by
                    unfold dgetW
                    simp only [hn]
                    rw [keyB_of kz.z c.1, gw]; rfl
                  have ep : dpopW h2 (.ref n0) z = some (w, h2.set n0 (.dct 0 false (delKW ws z))) := by
                    unfold dpopW
                    rw [es, eg]
                  obtain ⟨O3, w3, v4⟩ := write_flat (ob := .dct 0 false (delKW ws z)) hr v2 k2 eu on fun o1 h5 => D.dct_iff.mpr ⟨n0, tg, _, rfl, h5, List.getElem?_set_self (lt_of_get hn), (del_w kz.z c.1 ch).imp fun _ _ _ _ p => ⟨p.1.mono (fun _ q => q) (set_hh nS), p.2.mono (fun _ q => q) (set_hh nS)⟩⟩
                  rw [ep]
                  exact ⟨.nx, ρ, _, S2, O3, rfl, w3, v4, trivial⟩
              · rw [if_neg c]; trivial
            | _ => trivial
        | _ => trivial
    | _ => trivial
section
variable {ps : PEnv} {r : Nat}
theorem pDpop_ap {po : P0p} {pi : P0} : pDpop r po pi ps = (po ps).toP ps fun q => match atT ps r q with
  | some (.dct _ _) => (pi ps).toP ps fun ti => delP r q ti ps
  | _ => .stuck := id rfl
end
end
end ZP

namespace ZP
open PySem L2 Z
section
variable {A : List Nat}
def rootE (ps : PEnv) (r : Nat) : Option En := match ps[r]? with
  | some (some (.own t)) => some (.own t)
  | some (some (.par t)) => some (.par t)
  | _ => none
theorem rootE_some {ps : PEnv} {r : Nat} {e : En} (h : rootE ps r = some e) : ps[r]? = some (some e) ∧ ∃ t, e = .own t ∨ e = .par t := by
  unfold rootE at h
  split at h
  · rename_i t z; cases h; exact ⟨z, t, .inl rfl⟩
  · rename_i t z; cases h; exact ⟨z, t, .inr rfl⟩
  · cases h
theorem D.sub2 {S : Cel} {h h' : Hq} {o : Ow} (hk : ∀ n, o n ≠ none → h'[n]? = h[n]?) : ∀ {q p : Pth} {w : W} {t u : T}, D S h o p w t → getT t q = some u → ∃ x, Pw h w q x ∧ Pw h' w q x
  | [], p, w, t, u, d, g => ⟨w, rfl, rfl⟩
  | i :: q, p, w, .nst ts, u, d, g => by
    obtain ⟨n, tg, ws, rfl, on, hn, hl, a⟩ := D.nst_iff.mp d
    simp only [getT, Option.bind_eq_some_iff] at g
    obtain ⟨v, hv, g⟩ := g
    have hi : i < ws.length := by rw [hl]; exact lt_of_get hv
    have hx : ws[i]? = some ws[i] := List.getElem?_eq_getElem hi
    obtain ⟨x, r1, r2⟩ := D.sub2 hk (a i _ v hx hv) g
    exact ⟨x, ⟨n, .lst tg ws, ws[i], rfl, hn, hx, r1⟩, ⟨n, .lst tg ws, ws[i], rfl, by rw [hk n (by rw [on]; simp)]; exact hn, hx, r2⟩⟩
  | i :: q, p, w, .ins c fs, u, d, g => by
    obtain ⟨n, ws, rfl, on, hn, hl, a⟩ := D.ins_iff.mp d
    simp only [getT, Option.bind_eq_some_iff] at g
    obtain ⟨v, hv, g⟩ := g
    have hl2 : ws.length = fs.length := by simpa using congrArg List.length hl
    have hi : i < ws.length := by rw [hl2]; exact lt_of_get hv
    have hx : ws[i]? = some ws[i] := List.getElem?_eq_getElem hi
    obtain ⟨x, r1, r2⟩ := D.sub2 hk (a i _ v hx hv) g
    exact ⟨x, ⟨n, _, ws[i].2, rfl, hn, by simp [kid, hx], r1⟩, ⟨n, _, ws[i].2, rfl, by rw [hk n (by rw [on]; simp)]; exact hn, by simp [kid, hx], r2⟩⟩
  | i :: q, p, w, .z v, u, d, g => by cases g
  | i :: q, p, w, .lst v, u, d, g => by cases g
  | i :: q, p, w, .dct b v, u, d, g => by cases g
theorem AtP.keep {S : Cel} {h h' : Hq} {X : Xt} {O : Om} {ρ : Ev} {ps ps2 : PEnv} {r : Nat} {x : W} {q : Pth} {e : En} (v : Inv A S h X O ρ ps) (er : rootE ps r = some e) (e2 : ps2[r]? = some (some e)) (hk : ∀ n, sl O r n ≠ none → h'[n]? = h[n]?) (k : AtP h ρ ps r x q) : AtP h' ρ ps2 r x q := by
  obtain ⟨w0, t0, u, h1, h2, h3, h4⟩ := k
  obtain ⟨e1, t1, e3⟩ := rootE_some er
  have d : D S h (sl O r) [] w0 t0 := by
    rcases h2 with h2 | h2
    · obtain ⟨w, hw, d⟩ := v.en r _ h2; rw [hw] at h1; cases h1; exact d
    · obtain ⟨w, hw, d⟩ := v.en r _ h2; rw [hw.1] at h1; cases h1; exact d
  obtain ⟨y, p1, p2⟩ := D.sub2 hk d h3
  cases p1.fn h4
  refine ⟨w0, t0, u, h1, ?_, h3, p2⟩
  rcases h2 with h2 | h2
  · rw [h2] at e1; cases e1; exact .inl e2
  · rw [h2] at e1; cases e1; exact .inr e2
section
variable {ps : PEnv} {r : Nat} {P : PM} {t : T}
end
end
end ZP

namespace ZP
open PySem L2 Z
def keyZs : T → Option (List Zv)
  | .z (.dct false kvs) => some (kvs.map Prod.fst)
  | .dct false kvs => some (kvs.map Prod.fst)
  | _ => none
def keysU (n v : Nat) (u : T) : Rz T := match keyZs u with
  | some us => if us.length ≤ sizeLine ∧ v < n then .ok (.lst us) else .stuck
  | none => .stuck
def keysO (c f : Str) (n v : Nat) (t : T) : Rz T := match fldC c f t with
  | .ok u => if (Z.fieldsOf c).contains f then keysU n v u else .stuck
  | _ => .stuck
def pKeysO (c f : Str) (v : Nat) (p : P0) : P0 := fun ps => match p ps with
  | .ok t => keysO c f ps.length v t
  | _ => .stuck
theorem comp_id {v : Nat} {ρ0 : Ev} (hv : v < ρ0.length) : ∀ (xs acc : List W) (h : Hq), acc.length + xs.length ≤ sizeLine → compF (fun _ => true) (gN v) tYesM (eV v) ρ0 acc xs h = .ok (acc ++ xs) h
  | [], acc, h, _ => by simp [compF]
  | x :: xs, acc, h, e => by
    have e : acc.length + (xs.length + 1) ≤ sizeLine := e
    have e1 : eV v (ρ0.set v (some x)) h = .ok x h := by
      unfold eV
      rw [List.getElem?_set_self hv]
    unfold compF
    simp only [if_true, gN, tYesM, e1]
    rw [if_pos (by omega), comp_id hv xs (acc ++ [x]) h (by simp; omega)]
    simp
section
variable {A B : List Nat}
theorem keys_main {c f : Str} {v a n t : Nat} {m : ME} {ρ : Ev} {h : Hq} {ws : List (Str × W)} {kws : List (W × W)} (e1 : m ρ h = .ok (.ref a) h) (ha : h[a]? = some (.ins c ws)) (hf : ws.lookup f = some (.ref n)) (hn : h[n]? = some (.dct (t + 1) false kws)) (hl : kws.length ≤ sizeLine) (hv : v < ρ.length) :
    eLc 0 [v] (iOwnKW c f m) (gN v) tYesM (eV v) ρ h = .ok (.ref h.length) (h ++ [.lst 0 (kws.map Prod.fst)]) := by
  unfold eLc iOwnKW
  rw [e1]
  show Res.bind (match asI h (.ref a) with
    | some (_, c', fs) => if c' = c then (match fs.lookup f with
      | some l => (match heldK h l with
        | some kvs => Res.ok (⟨kvs.map Prod.fst, fun _ => true⟩ : Src) h
        | none => .stuck)
      | none => .stuck) else .stuck
    | none => .stuck) _ = _
  rw [asI_ref ha]
  simp only [if_true, hf, heldK, hn]
  show Res.bind (compF (fun _ => true) (gN v) tYesM (eV v) (wipeW ρ [v]) [] (kws.map Prod.fst) h) _ = _
  have hw : (wipeW ρ [v]).length = ρ.length := by simp [wipeW]
  rw [comp_id (by rw [hw]; exact hv) _ _ _ (by simpa using hl)]
  rfl
theorem keys_at {c f : Str} {v a n : Nat} {m : ME} {ρ : Ev} {S : Cel} {h : Hq} {X : Xt} {O : Om} {ps : PEnv} {ws : List (Str × W)} {k : Nat} {kws : List (W × W)} {kvs : List (Zv × Zv)} (fo : (Z.fieldsOf c).contains f = true) (sm : Still m) (V : Inv A S h X O ρ ps) (e1 : m ρ h = .ok (.ref a) h) (ha : h[a]? = some (.ins c ws)) (hf : ws.lookup f = some (.ref n)) (hn : h[n]? = some (.dct k false kws)) (r : A2 (DZ2 S h) kws kvs) :
    Po S h (eLock (eFld f m) (eLc 0 [v] (iOwnKW c f m) (gN v) tYesM (eV v)) ρ h) (if (kvs.map Prod.fst).length ≤ sizeLine ∧ v < ps.length then .ok (.lst (kvs.map Prod.fst)) else .stuck) fun w t S' h' => Fr S' h h' w t := by
  by_cases hc : (kvs.map Prod.fst).length ≤ sizeLine ∧ v < ps.length
  · rw [if_pos hc]
    have hl : kws.length ≤ sizeLine := by rw [r.length]; simpa using hc.1
    have hv : v < ρ.length := by rw [V.len]; exact hc.2
    have dk : A2 (DZ S h) (kws.map Prod.fst) (kvs.map Prod.fst) := a2_prod (fun p q d => d.1) r
    have e2 : eFld f m ρ h = .ok (.ref n) h := by
      unfold eFld
      rw [e1]
      show fldW f (.ref a) h = _
      unfold fldW
      rw [asI_ref ha]
      simp only [hf, fo, if_true]
    have same : eLock (eFld f m) (eLc 0 [v] (iOwnKW c f m) (gN v) tYesM (eV v)) ρ h = .ok (.ref h.length) (h ++ [.lst 0 (kws.map Prod.fst)]) := by
      unfold eLock
      cases k with
      | succ k =>
        rw [lkAt_no e2 hn]
        exact keys_main e1 ha hf hn hl hv
      | zero =>
        rw [lkAt_of e2 hn]
        dsimp only
        have e3 := (sm _ _ _ _ e1).2 n false kws hn
        have hn1 : (h.set n (.dct 1 false kws))[n]? = some (.dct (0 + 1) false kws) := List.getElem?_set_self (lt_of_get hn)
        have ha1 : (h.set n (.dct 1 false kws))[a]? = some (.ins c ws) := by
          rw [List.getElem?_set_ne (fun z => by subst z; rw [hn] at ha; cases ha)]; exact ha
        rw [keys_main e3 ha1 hf hn1 hl hv]
        unfold unE unlk
        have hn2 : (h.set n (.dct 1 false kws) ++ [Ob.lst 0 (kws.map Prod.fst)])[n]? = some (.dct (0 + 1) false kws) := by
          rw [List.getElem?_append_left (by simpa using lt_of_get hn)]; exact hn1
        simp only [hn2]
        have hs : h.set n (.dct 0 false kws) = h := by
          obtain ⟨q1, q2⟩ := List.getElem?_eq_some_iff.mp hn
          rw [← q2, List.set_getElem_self]
        rw [List.set_append_left _ _ (by simpa using lt_of_get hn), List.set_set, hs]
        simp
    rw [same]
    exact po_mkL (tg := 0) V.s dk
  · rw [if_neg hc]; trivial
theorem j_keysO {c f : Str} {v : Nat} {m : ME} {p : P0} (sm : Still m) (jm : J0b A B m p) : J0f A (eLock (eFld f m) (eLc 0 [v] (iOwnKW c f m) (gN v) tYesM (eV v))) (pKeysO c f v p) := fun S h X O ρ ps V => by
  unfold pKeysO
  cases ep : p ps with
  | stuck => trivial
  | exc c => trivial
  | ok t =>
    dsimp only
    have g := jm S h X O ρ ps V
    rw [ep] at g
    obtain ⟨w, h1, S1, e1, a1, s1, b⟩ := g
    obtain ⟨rfl, _⟩ := sm _ _ _ _ e1
    have V1 := V.ext a1 s1
    unfold keysO
    have fin : ∀ {z : Rz T}, Po S1 h1 (eLock (eFld f m) (eLc 0 [v] (iOwnKW c f m) (gN v) tYesM (eV v)) ρ h1) z (fun w t S' h' => Fr S' h1 h' w t) → Po S h1 (eLock (eFld f m) (eLc 0 [v] (iOwnKW c f m) (gN v) tYesM (eV v)) ρ h1) z fun w t S' h' => Fr S' h1 h' w t := by
      intro z q
      cases z with
      | ok t => obtain ⟨w, h', S', e, a2, s2, k2⟩ := q; exact ⟨w, h', S', e, a1.trans a2, s2, k2⟩
      | exc c => obtain ⟨h', S', e, a2, s2⟩ := q; exact ⟨h', S', e, a1.trans a2, s2⟩
      | stuck => trivial
    refine fin ?_
    cases t with
    | z t =>
      cases t with
      | ins c' fs =>
        show Po S1 h1 _ (match (if c' = c then (match lkZ f fs with
          | some v => Rz.ok (T.z v)
          | none => .stuck) else .stuck) with
          | .ok u => if (Z.fieldsOf c).contains f then keysU ps.length v u else .stuck
          | _ => .stuck) _
        by_cases cc : c' = c
        · subst cc
          rw [if_pos rfl]
          obtain ⟨a, ws, rfl, _, ha, mm⟩ := dz_ins_iff.mp b.z
          cases e : lkZ f fs with
          | none => trivial
          | some z =>
            dsimp only
            obtain ⟨x, l, d⟩ := lkZ_w mm e
            by_cases fo : (Z.fieldsOf c').contains f = true
            case neg => rw [if_neg fo]; trivial
            rw [if_pos fo]
            unfold keysU
            cases z with
            | dct kk kvs =>
              cases kk with
              | true => trivial
              | false =>
                obtain ⟨n, t, kws, rfl, _, hn, r⟩ := dz_dct_iff.mp d
                exact keys_at fo sm V1 e1 ha l hn r
            | _ => trivial
        · rw [if_neg cc]; trivial
      | _ => trivial
    | ins c' fs =>
      show Po S1 h1 _ (match (if c' = c then (match lkT f fs with
        | some v => Rz.ok v
        | none => .stuck) else .stuck) with
        | .ok u => if (Z.fieldsOf c).contains f then keysU ps.length v u else .stuck
        | _ => .stuck) _
      by_cases cc : c' = c
      · subst cc
        rw [if_pos rfl]
        obtain ⟨o, d, k⟩ := b
        obtain ⟨a, ws, rfl, on, ha, hl, mm⟩ := D.ins_iff.mp d
        cases e : lkT f fs with
        | none => trivial
        | some u =>
          dsimp only
          obtain ⟨i, h2, h3⟩ := lkT_ix e
          obtain ⟨x, h4, h5⟩ := h3 ws hl
          have du := mm i _ _ h4 h2
          by_cases fo : (Z.fieldsOf c').contains f = true
          case neg => rw [if_neg fo]; trivial
          rw [if_pos fo]
          unfold keysU
          cases u with
          | z z =>
            have dz := D.z_iff.mp du
            cases z with
            | dct kk kvs =>
              cases kk with
              | true => trivial
              | false =>
                obtain ⟨n, t, kws, ex, _, hn, r⟩ := dz_dct_iff.mp dz
                have ex : x = W.ref n := ex
                subst ex
                exact keys_at fo sm V1 e1 ha h5 hn r
            | _ => trivial
          | dct kk kvs =>
            cases kk with
            | true => trivial
            | false =>
              obtain ⟨n, t, kws, ex, _, hn, r⟩ := D.dct_iff.mp du
              have ex : x = W.ref n := ex
              subst ex
              exact keys_at fo sm V1 e1 ha h5 hn r
          | _ => trivial
      · rw [if_neg cc]; trivial
    | _ => trivial
theorem pKeysO_ap {c f : Str} {v : Nat} {p : P0} {ps : PEnv} : pKeysO c f v p ps = match p ps with
  | .ok t => keysO c f ps.length v t
  | _ => .stuck := id rfl
theorem pDel_ap {r : Nat} {po : P0p} {pi : P0} {ps : PEnv} : pDel r po pi ps = (po ps).toP ps fun q => (pi ps).toP ps fun ti => delP r q ti ps := id rfl
theorem delP_k {r : Nat} {q : Pth} {k : Zv} {ps : PEnv} : delP r q (.z k) ps = match atT ps r q with
  | some (.dct false kvs) => if keyZ k && hasZ k kvs then (match updR ps r q (.dct false (delZ kvs k)) with
    | some ps' => .ok .nx ps'
    | none => .stuck) else .stuck
  | _ => .stuck := by
  unfold delP
  cases atT ps r q with
  | none => rfl
  | some t => cases t with
    | dct b kvs => cases b <;> rfl
    | _ => rfl
end
end ZP

namespace Y
open PySem L2 Z ZP
def P_Network___init___b : PS := pSeq (pFS "sent" 0 (pPV 0) (up (pC (.int 0))))
      (pFS "_bag" 0 (pPV 0) (up (pDn false)))
def P_Network___init__ : PM := pfm 0 1 1 P_Network___init___b
theorem P_Network___init___ap {x0 : T} : P_Network___init__ [x0] = endM 0 (P_Network___init___b [some (.par x0)]) := id rfl
def P_law_stream_b : PS := pSeq (pAsg (up (pLst (pNil))) 2)
      (pSeq (pFor (pIt (pVx 0)) (pgN 3) (pSeq (pIf (up (pTB (pBin (geT) (pCall lenT (pCons (pV 2) (pNil))) (pV 1)))) (pBrk) (pNop))
      (pIf (up (pTB (pBin (geT) (pV 3) (pBin (powT) (pC (.int 10)) (pC (.int 18)))))) (pSeq (pAsg (up (pZ (pV 3))) 4)
      (pFor (pRng1 (pCons (pC (.int 60)) (pNil))) (pgN 5) (pIf (up (pTB (pBin (gtT) (pV 4) (pC (.int 0))))) (pSeq (pExpr (pBMM "list" 2 appT (pPV 2) (pCons (pBin (modT) (pCall intcT (pCons (pV 4) (pNil))) (pC (.int 5040))) (pNil))))
      (pAsg (up (pBin (fdivT) (pV 4) (pC (.int 5040)))) 4)) (pNop)))) (pSeq (pAsg (up (pBin (modT) (pCall intcT (pCons (pBin (addT) (pBin (addT) (pBin (mulT) (pV 3) (pC (.int 48271))) (pBin (mulT) (pCall lenT (pCons (pV 2) (pNil))) (pC (.int 69621)))) (pC (.int 11))) (pNil))) (pC (.int 2147483647)))) 6)
      (pFor (pRng1 (pCons (pC (.int 4)) (pNil))) (pgN 5) (pSeq (pAsg (up (pBin (modT) (pCall intcT (pCons (pBin (addT) (pBin (addT) (pBin (mulT) (pV 6) (pC (.int 69621))) (pBin (mulT) (pC (.int 7)) (pV 5))) (pC (.int 3))) (pNil))) (pC (.int 2147483629)))) 6)
      (pExpr (pBMM "list" 2 appT (pPV 2) (pCons (pBin (modT) (pCall intcT (pCons (pBin (fdivT) (pV 6) (pC (.int 7))) (pNil))) (pC (.int 5040))) (pNil))))))))))
      (pRet (pMv 2)))
def P_law_stream : PF := pfn 2 7 P_law_stream_b
theorem P_law_stream_ap {x0 x1 : T} : P_law_stream [x0, x1] = endP (P_law_stream_b [some (.ext x0), some (.ext x1), none, none, none, none, none]) := id rfl
def P_law_draw_b : PS := pSeq (pIf (up (pTB (pBin (ltT) (pV 1) (pCall lenT (pCons (pV 0) (pNil)))))) (pRet (up (pZ (pBin ixT (pV 0) (pV 1))))) (pNop))
      (pRet (up (pC (.int 0))))
def P_law_draw : PF := pfn 2 2 P_law_draw_b
theorem P_law_draw_ap {x0 x1 : T} : P_law_draw [x0, x1] = endP (P_law_draw_b [some (.ext x0), some (.ext x1)]) := id rfl
def P_law_message_b : PS := pSeq (pAsg (up (pFz (pBin (addT) (pC (.int 1)) (pBin (fdivT) (pV 0) (pC (.int 4)))))) 1)
      (pSeq (pAsg (up (pLst (pCons (pTup (pCons (pTup (pCons (pC (.str "client")) (pCons (pBin (modT) (pV 0) (pC (.int 3))) (pNil)))) (pCons (pTup (pCons (pC (.str "house")) (pCons (pBin (modT) (pV 0) (pC (.int 5))) (pNil)))) (pCons (pTup (pCons (pC (.str "fetch")) (pCons (pBin (modT) (pV 0) (pC (.int 7))) (pCons (pZ (pV 1)) (pCons (pC (.str "a")) (pNil)))))) (pNil))))) (pNil)))) 2)
      (pSeq (pExpr (pBMM "list" 2 appT (pPV 2) (pCons (pTup (pCons (pTup (pCons (pC (.str "house")) (pCons (pBin (modT) (pV 0) (pC (.int 5))) (pNil)))) (pCons (pTup (pCons (pC (.str "client")) (pCons (pBin (modT) (pV 0) (pC (.int 3))) (pNil)))) (pCons (pTup (pCons (pC (.str "stored")) (pCons (pBin (modT) (pV 0) (pC (.int 7))) (pCons (pZ (pV 1)) (pNil))))) (pNil))))) (pNil))))
      (pSeq (pExpr (pBMM "list" 2 appT (pPV 2) (pCons (pTup (pCons (pTup (pCons (pC (.str "house")) (pCons (pBin (modT) (pV 0) (pC (.int 5))) (pNil)))) (pCons (pTup (pCons (pC (.str "house")) (pCons (pBin (modT) (pV 0) (pC (.int 3))) (pNil)))) (pCons (pTup (pCons (pC (.str "seal")) (pCons (pZ (pV 0)) (pNil)))) (pNil))))) (pNil))))
      (pSeq (pExpr (pBMM "list" 2 appT (pPV 2) (pCons (pTup (pCons (pTup (pCons (pC (.str "house")) (pCons (pBin (modT) (pV 0) (pC (.int 5))) (pNil)))) (pCons (pTup (pCons (pC (.str "house")) (pCons (pBin (modT) (pV 0) (pC (.int 3))) (pNil)))) (pCons (pTup (pCons (pC (.str "told")) (pCons (pTup (pCons (pTup (pCons (pC (.str "a")) (pCons (pTup (pCons (pTup (pNil)) (pCons (pTup (pNil)) (pNil)))) (pNil)))) (pNil))) (pNil)))) (pNil))))) (pNil))))
      (pRet (up (pZ (pBin ixT (pV 2) (pBin (modT) (pBin (fdivT) (pV 0) (pC (.int 3))) (pC (.int 4)))))))))))
def P_law_message : PF := pfn 1 3 P_law_message_b
theorem P_law_message_ap {x0 : T} : P_law_message [x0] = endP (P_law_message_b [some (.ext x0), none, none]) := id rfl
def P_law_bad_b : PS := pSeq (pAsg (up (pFz (pLst (pCons (pC .non) (pCons (pTup (pNil)) (pCons (pTup (pCons (pC (.str "seal")) (pCons (pC (.int 0)) (pNil)))) (pCons (pTup (pCons (pTup (pCons (pC (.str "house")) (pCons (pC (.int 0)) (pNil)))) (pCons (pTup (pCons (pC (.str "client")) (pCons (pC (.int 0)) (pNil)))) (pCons (pTup (pCons (pC (.str "seal")) (pCons (pC (.int 0)) (pNil)))) (pNil))))) (pCons (pC (.int 7)) (pCons (pC (.str "told")) (pNil)))))))))) 1)
      (pRet (up (pZ (pBin ixT (pV 1) (pBin (modT) (pV 0) (pC (.int 6)))))))
def P_law_bad : PF := pfn 1 2 P_law_bad_b
theorem P_law_bad_ap {x0 : T} : P_law_bad [x0] = endP (P_law_bad_b [some (.ext x0), none]) := id rfl
def P_is_integer_b : PS := pRet (up (pAnd (pIsi "int" (pV 0)) (pAnd (pNot (pIsi "bool" (pV 0))) (pChain (leT) (leT) (pNeg (pC (.int (1000000000000)))) (pV 0) (pC (.int (1000000000000)))))))
def P_is_integer : PF := pfn 1 1 P_is_integer_b
theorem P_is_integer_ap {x0 : T} : P_is_integer [x0] = endP (P_is_integer_b [some (.ext x0)]) := id rfl
def P_is_number_b : PS := pRet (up (pAnd (pCall P_is_integer (pCons (pV 0) (pNil))) (pBin (geT) (pV 0) (pC (.int 0)))))
def P_is_number : PF := pfn 1 1 P_is_number_b
theorem P_is_number_ap {x0 : T} : P_is_number [x0] = endP (P_is_number_b [some (.ext x0)]) := id rfl
def P_is_end_b : PS := pSeq (pIf (up (pTOr (pTNot (pTru (pIsi "tuple" (pV 0)))) (pTOr (pTB (pBin (eqT true) (pCall lenT (pCons (pV 0) (pNil))) (pC (.int 2)))) (pTNot (pTru (pCall P_is_number (pCons (pBin ixT (pV 0) (pC (.int 1))) (pNil)))))))) (pRet (up (pC (.bl false)))) (pNop))
      (pRet (up (pAnd (pIsi "str" (pBin ixT (pV 0) (pC (.int 0)))) (pBin (inT false) (pBin ixT (pV 0) (pC (.int 0))) (pTup (pCons (pC (.str "client")) (pCons (pC (.str "house")) (pNil))))))))
def P_is_end : PF := pfn 1 1 P_is_end_b
theorem P_is_end_ap {x0 : T} : P_is_end [x0] = endP (P_is_end_b [some (.ext x0)]) := id rfl
def P_has_only_b : PS := pSeq (pFor (pIt (pVx 0)) (pgN 2) (pIf (up (pTB (pBin (inT true) (pV 2) (pV 1)))) (pRet (up (pC (.bl false)))) (pNop)))
      (pRet (up (pC (.bl true))))
def P_has_only : PF := pfn 2 3 P_has_only_b
theorem P_has_only_ap {x0 x1 : T} : P_has_only [x0, x1] = endP (P_has_only_b [some (.ext x0), some (.ext x1), none]) := id rfl
def P_is_text_b : PS := pRet (up (pAnd (pIsi "str" (pV 0)) (pAnd (pBin (leT) (pCall lenT (pCons (pV 0) (pNil))) (pC (.int 60))) (pCall P_has_only (pCons (pV 0) (pCons (pC (.str " !\"#$&'()*+,-./0123456789:;<=>?@ABCDEFGHIJKLMNOPQRSTUVWXYZ[\\]^_`abcdefghijklmnopqrstuvwxyz{|}~")) (pNil)))))))
def P_is_text : PF := pfn 1 1 P_is_text_b
theorem P_is_text_ap {x0 : T} : P_is_text [x0] = endP (P_is_text_b [some (.ext x0)]) := id rfl
def P_is_key_b : PS := pRet (up (pAnd (pCall P_is_text (pCons (pV 0) (pNil))) (pChain (leT) (leT) (pC (.int 1)) (pCall lenT (pCons (pV 0) (pNil))) (pC (.int 20)))))
def P_is_key : PF := pfn 1 1 P_is_key_b
theorem P_is_key_ap {x0 : T} : P_is_key [x0] = endP (P_is_key_b [some (.ext x0)]) := id rfl
def P_is_part_b : PS := pSeq (pIf (up (pTB (pBin (eqT false) (pV 0) (pC (.str "view"))))) (pRet (up (pCall P_is_number (pCons (pV 1) (pNil))))) (pNop))
      (pSeq (pIf (up (pTB (pBin (eqT false) (pV 0) (pC (.str "ticket"))))) (pRet (up (pAnd (pCall P_is_number (pCons (pV 1) (pNil))) (pBin (gtT) (pV 1) (pC (.int 0)))))) (pNop))
      (pSeq (pIf (up (pTB (pBin (eqT false) (pV 0) (pC (.str "key"))))) (pRet (up (pCall P_is_key (pCons (pV 1) (pNil))))) (pNop))
      (pRet (up (pIsi "tuple" (pV 1))))))
def P_is_part : PF := pfn 2 2 P_is_part_b
theorem P_is_part_ap {x0 x1 : T} : P_is_part [x0, x1] = endP (P_is_part_b [some (.ext x0), some (.ext x1)]) := id rfl
def partsT : List Str → List Zv → Rz Bool
  | k :: ks, x :: xs => (P_is_part [.z (.str k), .z x]).bind fun t => (match t with
    | .z (.bl b) => if b then partsT ks xs else .ok false
    | _ => .stuck)
  | _, _ => .ok true
def FORMR : List (Str × Str × Str × List Str) := [("store", "client", "house", ["view", "ticket", "key", "tuple"]), ("fetch", "client", "house", ["view", "ticket", "key"]), ("stored", "house", "client", ["view", "ticket"]), ("fetched", "house", "client", ["view", "ticket", "tuple"]), ("refused", "house", "client", ["view", "ticket"]), ("seal", "house", "house", ["view"]), ("sealed", "house", "house", ["view", "tuple"]), ("news", "house", "house", ["tuple"]), ("told", "house", "house", ["tuple"])]
def formIn (x : Str) : List (Str × Str × Str × List Str) → Option (Str × Str × List Str)
  | [] => none
  | r :: rs => if r.1 = x then some r.2 else formIn x rs
def bodyRow (s r : Str) (xs : List Zv) : Option (Str × Str × List Str) → Rz T
  | none => .ok (.z (.bl false))
  | some f => if !(PyData.strOk s && PyData.strOk r && PyData.strOk f.1 && PyData.strOk f.2.1) then .stuck else if decide (s = f.1) && (decide (r = f.2.1) && decide (xs.length = f.2.2.length)) then (partsT f.2.2 xs).bind fun b => .ok (.z (.bl b)) else .ok (.z (.bl false))
def noBody (v : Zv) : Rz T := match tyT (.z v) with
  | some _ => .ok (.z (.bl false))
  | none => .stuck
def bodyT (s r : Str) : Zv → Rz T
  | .tup (.str x :: xs) => bodyRow s r xs (formIn x FORMR)
  | .tup [] => .ok (.z (.bl false))
  | .tup (y :: _) => noBody y
  | v => noBody v
def P_is_body : PF := fun ts => match ts with
  | [.z (.str s), .z (.str r), .z v] => bodyT s r v
  | _ => .stuck
def P_is_message_b : PS := pSeq (pIf (up (pTOr (pTNot (pTru (pIsi "tuple" (pV 0)))) (pTOr (pTB (pBin (eqT true) (pCall lenT (pCons (pV 0) (pNil))) (pC (.int 3)))) (pTOr (pTNot (pTru (pCall P_is_end (pCons (pBin ixT (pV 0) (pC (.int 0))) (pNil))))) (pTNot (pTru (pCall P_is_end (pCons (pBin ixT (pV 0) (pC (.int 1))) (pNil))))))))) (pRet (up (pC (.bl false)))) (pNop))
      (pRet (up (pCall P_is_body (pCons (pBin ixT (pBin ixT (pV 0) (pC (.int 0))) (pC (.int 0))) (pCons (pBin ixT (pBin ixT (pV 0) (pC (.int 1))) (pC (.int 0))) (pCons (pBin ixT (pV 0) (pC (.int 2))) (pNil)))))))
def P_is_message : PF := pfn 1 1 P_is_message_b
theorem P_is_message_ap {x0 : T} : P_is_message [x0] = endP (P_is_message_b [some (.ext x0)]) := id rfl
def P_Network_send_b : PS := pSeq (pIf (up (pTNot (pTru (pCall P_is_message (pCons (pV 1) (pNil)))))) (pRaise "BadValue") (pNop))
      (pSeq (pFS "sent" 0 (pPV 0) (up (pBin (addT) (pFld "sent" (pV 0)) (pC (.int 1)))))
      (pSeq (pPutD 0 (pPF 0 "_bag" (pPV 0)) (pFld "sent" (pV 0)) (pZ (pV 1)))
      (pRet (up (pZ (pFld "sent" (pV 0)))))))
def P_Network_send : PM := pfm 0 2 2 P_Network_send_b
theorem P_Network_send_ap {x0 x1 : T} : P_Network_send [x0, x1] = endM 0 (P_Network_send_b [some (.par x0), some (.ext x1)]) := id rfl
def P_law_sent_b : PS := pTry 2 (pRet (p1Tup (p1Cons (up (pC (.str "sent"))) (p1Cons (p1Fz (pMM "send" 0 (("Network", P_Network_send) :: []) (pPV 0) (pCons (pV 1) (pNil)))) (p1Nil))))) [("BadValue", true), ("Busy", false), ("RingError", false), ("Unknown", false)] (uRet (uTup (uCons (uC (.str "refused")) (uCons (uAnd (uIs [("BadValue", true), ("Busy", true), ("RingError", true), ("Unknown", true)]) (uAnd (uIs [("BadValue", true), ("Busy", true), ("RingError", true), ("Unknown", true)]) (uNot (uIs2 [("BadValue", false), ("Busy", false), ("RingError", false), ("Unknown", true)] [("BadValue", false), ("Busy", true), ("RingError", false), ("Unknown", false)])))) (uNil)))))
def P_law_sent : PM := pfm 0 2 3 P_law_sent_b
theorem P_law_sent_ap {x0 x1 : T} : P_law_sent [x0, x1] = endM 0 (P_law_sent_b [some (.par x0), some (.ext x1), none]) := id rfl
def P_Network_message_b : PS := pSeq (pIf (up (pTB (pBin ((inDT true)) (pV 1) (pFld "_bag" (pV 0))))) (pRaise "Unknown") (pNop))
      (pRet (up (pZ (pIxD (pFld "_bag" (pV 0)) (pV 1)))))
def P_Network_message : PF := pfn 2 2 P_Network_message_b
theorem P_Network_message_ap {x0 x1 : T} : P_Network_message [x0, x1] = endP (P_Network_message_b [some (.ext x0), some (.ext x1)]) := id rfl
def P_Network_drop_b : PS := pSeq (pIf (up (pTB (pBin ((inDT true)) (pV 1) (pFld "_bag" (pV 0))))) (pRaise "Unknown") (pNop))
      (pDel 0 (pPF 0 "_bag" (pPV 0)) (pV 1))
def P_Network_drop : PM := pfm 0 2 2 P_Network_drop_b
theorem P_Network_drop_ap {x0 x1 : T} : P_Network_drop [x0, x1] = endM 0 (P_Network_drop_b [some (.par x0), some (.ext x1)]) := id rfl
def P_law_looked_b : PS := pTry 3 (pSeq (pIf (up (pTru (pV 2))) (pRet (p1Tup (p1Cons (up (pC (.str "told"))) (p1Cons (p1Fz (pMM "drop" 0 (("Network", P_Network_drop) :: []) (pPV 0) (pCons (pV 1) (pNil)))) (p1Nil))))) (pNop))
      (pRet (up (pTup (pCons (pC (.str "told")) (pCons (pFz (pMet "message" (("Network", P_Network_message) :: []) (pV 0) (pCons (pV 1) (pNil)))) (pNil))))))) [("BadValue", false), ("Busy", false), ("RingError", false), ("Unknown", true)] (uRet (uTup (uCons (uC (.str "refused")) (uCons (uAnd (uIs [("BadValue", true), ("Busy", true), ("RingError", true), ("Unknown", true)]) (uAnd (uIs [("BadValue", true), ("Busy", true), ("RingError", true), ("Unknown", true)]) (uNot (uIs [("BadValue", true), ("Busy", false), ("RingError", false), ("Unknown", false)])))) (uNil)))))
def P_law_looked : PM := pfm 0 3 4 P_law_looked_b
theorem P_law_looked_ap {x0 x1 x2 : T} : P_law_looked [x0, x1, x2] = endM 0 (P_law_looked_b [some (.par x0), some (.ext x1), some (.ext x2), none]) := id rfl
def P_Network___len___b : PS := pRet (up (pCall lenT (pCons (pFld "_bag" (pV 0)) (pNil))))
def P_Network___len__ : PF := pfn 1 1 P_Network___len___b
theorem P_Network___len___ap {x0 : T} : P_Network___len__ [x0] = endP (P_Network___len___b [some (.ext x0)]) := id rfl
def P_Network_numbers_b : PS := pRet (up (pCall lstdT (pCons (pFld "_bag" (pV 0)) (pNil))))
def P_Network_numbers : PF := pfn 1 1 P_Network_numbers_b
theorem P_Network_numbers_ap {x0 : T} : P_Network_numbers [x0] = endP (P_Network_numbers_b [some (.ext x0)]) := id rfl
def P_law_holds_b : PS := pSeq (pAsg (up (pMet "numbers" (("Network", P_Network_numbers) :: []) (pV 0) (pNil))) 3)
      (pSeq (pIf (up (pTOr (pTNot (pTru (pIsi "list" (pV 3)))) (pTOr (pTB (pBin (eqT true) (pV 3) (pCall sortT (pCons (pCall lstdT (pCons (pV 1) (pNil))) (pNil))))) (pTB (pBin (eqT true) (pKeysO "Network" "_bag" 4 (pV 0)) (pCall sortT (pCons (pCall lstdT (pCons (pV 1) (pNil))) (pNil)))))))) (pRet (up (pC (.bl false)))) (pNop))
      (pSeq (pIf (up (pTOr (pTB (pBin (eqT true) (pCall (ownLenT (("Network", P_Network___len__) :: [])) (pCons (pV 0) (pNil))) (pCall lenT (pCons (pV 1) (pNil))))) (pTOr (pTB (pBin (eqT true) (pFld "sent" (pV 0)) (pV 2))) (pTru (pIsi "bool" (pFld "sent" (pV 0))))))) (pRet (up (pC (.bl false)))) (pNop))
      (pSeq (pExpr (pBMM "list" 3 appT (pPV 3) (pCons (pC (.int 0)) (pNil))))
      (pRet (up (pBin (eqT false) (pMet "numbers" (("Network", P_Network_numbers) :: []) (pV 0) (pNil)) (pCall sortT (pCons (pCall lstdT (pCons (pV 1) (pNil))) (pNil)))))))))
def P_law_holds : PF := pfn 3 5 P_law_holds_b
theorem P_law_holds_ap {x0 x1 x2 : T} : P_law_holds [x0, x1, x2] = endP (P_law_holds_b [some (.ext x0), some (.ext x1), some (.ext x2), none, none]) := id rfl
def P_law_b : PS := pSeq (pAsg (up (pFz (pCall P_law_stream (pCons (pV 0) (pCons (pC (.int 100)) (pNil)))))) 1)
      (pSeq (pAsg (up (pNst (pnCons (pCall0 (pMake "Network" P_Network___init__)) (pnCons (pCall0 (pMake "Network" P_Network___init__)) (pnNil))))) 2)
      (pSeq (pAsg (up (pNst (pnCons (pDn false) (pnCons (pDn false) (pnNil))))) 3)
      (pSeq (pAsg (up (pLst (pCons (pC (.int 0)) (pCons (pC (.int 0)) (pNil))))) 4)
      (pSeq (pIf (up (pTNot (pTru (pCall P_law_holds (pCons (pBin ixT (pV 2) (pC (.int 0))) (pCons (pFz (pDn false)) (pCons (pC (.int 0)) (pNil)))))))) (pRet (up (pC (.bl false)))) (pNop))
      (pSeq (pFor (pRng1 (pCons (pCall min2T (pCons (pC (.int 50)) (pCons (pBin (fdivT) (pCall lenT (pCons (pV 1) (pNil))) (pC (.int 2))) (pNil)))) (pNil))) (pgN 5) (pSeq (pAsg (up (pFz (pCall P_law_draw (pCons (pV 1) (pCons (pBin (mulT) (pC (.int 2)) (pV 5)) (pNil)))))) 6)
      (pSeq (pAsg (up (pFz (pCall P_law_draw (pCons (pV 1) (pCons (pBin (addT) (pBin (mulT) (pC (.int 2)) (pV 5)) (pC (.int 1))) (pNil)))))) 7)
      (pSeq (pAsg (up (pBin (modT) (pV 6) (pC (.int 2)))) 8)
      (pSeq (pAlsM 9 3 (pPI 3 (pPV 3) (pV 8)) (pIf (up (pTB (pBin (ltT) (pBin (modT) (pBin (fdivT) (pV 6) (pC (.int 2))) (pC (.int 5))) (pC (.int 2))))) (pSeq (pAsg (up (pFz (pCall P_law_message (pCons (pV 7) (pNil))))) 10)
      (pSeq (pPut 4 (pPV 4) (pV 8) (pFz (pBin (addT) (pBin ixT (pV 4) (pV 8)) (pC (.int 1)))))
      (pSeq (pIf (p1TB (p1Bin (eqT true) (p1Fz (pM 2 P_law_sent (pA0 2 (pPI 2 (pPV 2) (pV 8)) (pCons (pV 10) (pNil))))) (up (pTup (pCons (pC (.str "sent")) (pCons (pZ (pBin ixT (pV 4) (pV 8))) (pNil))))))) (pRet (up (pC (.bl false)))) (pNop))
      (pPutD 9 (pPV 9) (pBin ixT (pV 4) (pV 8)) (pZ (pV 10)))))) (pIf (up (pTB (pBin (eqT false) (pBin (modT) (pBin (fdivT) (pV 6) (pC (.int 2))) (pC (.int 5))) (pC (.int 2))))) (pIf (p1TB (p1Bin (eqT true) (p1Fz (pM 2 P_law_sent (pA0 2 (pPI 2 (pPV 2) (pV 8)) (pCons (pCall P_law_bad (pCons (pV 7) (pNil))) (pNil))))) (up (pTup (pCons (pC (.str "refused")) (pCons (pC (.bl true)) (pNil))))))) (pRet (up (pC (.bl false)))) (pNop)) (pSeq (pAsg (up (pBin (subT) (pBin (modT) (pV 7) (pBin (addT) (pBin ixT (pV 4) (pV 8)) (pC (.int 3)))) (pC (.int 1)))) 11)
      (pSeq (pAsg (up (pBin (eqT false) (pBin (modT) (pBin (fdivT) (pV 6) (pC (.int 2))) (pC (.int 5))) (pC (.int 4)))) 12)
      (pSeq (pAsg (up (pTup (pCons (pC (.str "refused")) (pCons (pC (.bl true)) (pNil))))) 13)
      (pSeq (pIf (up (pTB (pBin ((inDT false)) (pV 11) (pV 9)))) (pSeq (pAsg (up (pTup (pCons (pC (.str "told")) (pCons (pZ (pBin ixT (pTup (pCons (pZ (pIxD (pV 9) (pV 11))) (pCons (pC .non) (pNil)))) (pCall intcT (pCons (pV 12) (pNil))))) (pNil))))) 13)
      (pIf (up (pTru (pV 12))) (pDpop 9 (pPV 9) (pV 11)) (pNop))) (pNop))
      (pIf (p1TB (p1Bin (eqT true) (p1Fz (pM 2 P_law_looked (pA0 2 (pPI 2 (pPV 2) (pV 8)) (pCons (pV 11) (pCons (pV 12) (pNil)))))) (up (pZ (pV 13))))) (pRet (up (pC (.bl false)))) (pNop)))))))))
      (pIf (up (pTOr (pTNot (pTru (pCall P_law_holds (pCons (pBin ixT (pV 2) (pC (.int 0))) (pCons (pIxD (pV 3) (pC (.int 0))) (pCons (pBin ixT (pV 4) (pC (.int 0))) (pNil))))))) (pTNot (pTru (pCall P_law_holds (pCons (pBin ixT (pV 2) (pC (.int 1))) (pCons (pIxD (pV 3) (pC (.int 1))) (pCons (pBin ixT (pV 4) (pC (.int 1))) (pNil))))))))) (pRet (up (pC (.bl false)))) (pNop)))))))
      (pSeq (pFrS 3 (pForD wKeys (pIxD (pV 3) (pC (.int 0))) (pgN 11) (pIf (p1TB (p1Bin (eqT true) (p1Fz (pM 2 P_law_looked (pA0 2 (pPI 2 (pPV 2) (pC (.int 0))) (pCons (pV 11) (pCons (pC (.bl false)) (pNil)))))) (up (pTup (pCons (pC (.str "told")) (pCons (pZ (pIxD (pIxD (pV 3) (pC (.int 0))) (pV 11))) (pNil))))))) (pRet (up (pC (.bl false)))) (pNop))))
      (pRet (up (pC (.bl true))))))))))
def P_law : PF := pfn 1 14 P_law_b
theorem P_law_ap {x0 : T} : P_law [x0] = endP (P_law_b [some (.ext x0), none, none, none, none, none, none, none, none, none, none, none, none, none]) := id rfl
end Y

namespace Y
open PySem L2 Z ZP
theorem j_Network___init__ : JM 0 F_Network___init__ P_Network___init__ := jm_fn (A := []) (js_seq (js_fld (by decide) (jp_v 0) (J0f.up (j_int)))
      (js_fld (by decide) (jp_v 0) (J0f.up (j_dn))))
theorem j__law_stream : JF F_law_stream P_law_stream := jf_fn (A := []) (js_seq (js_asg (by decide) (J0f.up (j_lst (j_nil))))
      (js_seq (js_for (j_it (j_vx 0)) (jg_n 3 (by decide)) (js_seq (js_if (J0t.up (j_tB ((j_bin (op_ge) ((j_call (jf_len) (j_cons (j_v 2) (j_nil))).b) (j_v 1)).b))) (js_brk) (js_nop))
      (js_if (J0t.up (j_tB ((j_bin (op_ge) (j_v 3) ((j_bin (op_pow) ((j_int).b) ((j_int).b)).b)).b))) (js_seq (js_asg (by decide) (J0f.up (j_z (j_v 3))))
      (js_for (j_rng1 (j_cons ((j_int).b) (j_nil))) (jg_n 5 (by decide)) (js_if (J0t.up (j_tB ((j_bin (op_gt) (j_v 4) ((j_int).b)).b))) (js_seq (js_expr (j_bmm (B := []) (by decide) (by decide) jm_app (jp_v 2) (j_cons ((j_bin (op_mod) ((j_call (jf_intc) (j_cons (j_v 4) (j_nil))).b) ((j_int).b)).b) (j_nil))))
      (js_asg (by decide) (J0f.up (j_bin (op_fdiv) (j_v 4) ((j_int).b))))) (js_nop)))) (js_seq (js_asg (by decide) (J0f.up (j_bin (op_mod) ((j_call (jf_intc) (j_cons ((j_bin (op_add) ((j_bin (op_add) ((j_bin (op_mul) (j_v 3) ((j_int).b)).b) ((j_bin (op_mul) ((j_call (jf_len) (j_cons (j_v 2) (j_nil))).b) ((j_int).b)).b)).b) ((j_int).b)).b) (j_nil))).b) ((j_int).b))))
      (js_for (j_rng1 (j_cons ((j_int).b) (j_nil))) (jg_n 5 (by decide)) (js_seq (js_asg (by decide) (J0f.up (j_bin (op_mod) ((j_call (jf_intc) (j_cons ((j_bin (op_add) ((j_bin (op_add) ((j_bin (op_mul) (j_v 6) ((j_int).b)).b) ((j_bin (op_mul) ((j_int).b) (j_v 5)).b)).b) ((j_int).b)).b) (j_nil))).b) ((j_int).b))))
      (js_expr (j_bmm (B := []) (by decide) (by decide) jm_app (jp_v 2) (j_cons ((j_bin (op_mod) ((j_call (jf_intc) (j_cons ((j_bin (op_fdiv) (j_v 6) ((j_int).b)).b) (j_nil))).b) ((j_int).b)).b) (j_nil))))))))))
      (js_ret (j_mv (i := 2) (by decide)))))
theorem j__law_draw : JF F_law_draw P_law_draw := jf_fn (A := []) (js_seq (js_if (J0t.up (j_tB ((j_bin (op_lt) (j_v 1) ((j_call (jf_len) (j_cons (j_v 0) (j_nil))).b)).b))) (js_ret (J0f.up (j_z (j_ix (j_v 0) (j_v 1))))) (js_nop))
      (js_ret (J0f.up (j_int))))
theorem j__law_message : JF F_law_message P_law_message := jf_fn (A := []) (js_seq (js_asg (by decide) (J0f.up (j_fz (j_bin (op_add) ((j_int).b) ((j_bin (op_fdiv) (j_v 0) ((j_int).b)).b)))))
      (js_seq (js_asg (by decide) (J0f.up (j_lst (j_cons ((j_tup (j_cons ((j_tup (j_cons ((j_str).b) (j_cons ((j_bin (op_mod) (j_v 0) ((j_int).b)).b) (j_nil)))).b) (j_cons ((j_tup (j_cons ((j_str).b) (j_cons ((j_bin (op_mod) (j_v 0) ((j_int).b)).b) (j_nil)))).b) (j_cons ((j_tup (j_cons ((j_str).b) (j_cons ((j_bin (op_mod) (j_v 0) ((j_int).b)).b) (j_cons ((j_z (j_v 1)).b) (j_cons ((j_str).b) (j_nil)))))).b) (j_nil))))).b) (j_nil)))))
      (js_seq (js_expr (j_bmm (B := []) (by decide) (by decide) jm_app (jp_v 2) (j_cons ((j_tup (j_cons ((j_tup (j_cons ((j_str).b) (j_cons ((j_bin (op_mod) (j_v 0) ((j_int).b)).b) (j_nil)))).b) (j_cons ((j_tup (j_cons ((j_str).b) (j_cons ((j_bin (op_mod) (j_v 0) ((j_int).b)).b) (j_nil)))).b) (j_cons ((j_tup (j_cons ((j_str).b) (j_cons ((j_bin (op_mod) (j_v 0) ((j_int).b)).b) (j_cons ((j_z (j_v 1)).b) (j_nil))))).b) (j_nil))))).b) (j_nil))))
      (js_seq (js_expr (j_bmm (B := []) (by decide) (by decide) jm_app (jp_v 2) (j_cons ((j_tup (j_cons ((j_tup (j_cons ((j_str).b) (j_cons ((j_bin (op_mod) (j_v 0) ((j_int).b)).b) (j_nil)))).b) (j_cons ((j_tup (j_cons ((j_str).b) (j_cons ((j_bin (op_mod) (j_v 0) ((j_int).b)).b) (j_nil)))).b) (j_cons ((j_tup (j_cons ((j_str).b) (j_cons ((j_z (j_v 0)).b) (j_nil)))).b) (j_nil))))).b) (j_nil))))
      (js_seq (js_expr (j_bmm (B := []) (by decide) (by decide) jm_app (jp_v 2) (j_cons ((j_tup (j_cons ((j_tup (j_cons ((j_str).b) (j_cons ((j_bin (op_mod) (j_v 0) ((j_int).b)).b) (j_nil)))).b) (j_cons ((j_tup (j_cons ((j_str).b) (j_cons ((j_bin (op_mod) (j_v 0) ((j_int).b)).b) (j_nil)))).b) (j_cons ((j_tup (j_cons ((j_str).b) (j_cons ((j_tup (j_cons ((j_tup (j_cons ((j_str).b) (j_cons ((j_tup (j_cons ((j_tup (j_nil)).b) (j_cons ((j_tup (j_nil)).b) (j_nil)))).b) (j_nil)))).b) (j_nil))).b) (j_nil)))).b) (j_nil))))).b) (j_nil))))
      (js_ret (J0f.up (j_z (j_ix (j_v 2) ((j_bin (op_mod) ((j_bin (op_fdiv) (j_v 0) ((j_int).b)).b) ((j_int).b)).b))))))))))
theorem j__law_bad : JF F_law_bad P_law_bad := jf_fn (A := []) (js_seq (js_asg (by decide) (J0f.up (j_fz (j_lst (j_cons ((j_non).b) (j_cons ((j_tup (j_nil)).b) (j_cons ((j_tup (j_cons ((j_str).b) (j_cons ((j_int).b) (j_nil)))).b) (j_cons ((j_tup (j_cons ((j_tup (j_cons ((j_str).b) (j_cons ((j_int).b) (j_nil)))).b) (j_cons ((j_tup (j_cons ((j_str).b) (j_cons ((j_int).b) (j_nil)))).b) (j_cons ((j_tup (j_cons ((j_str).b) (j_cons ((j_int).b) (j_nil)))).b) (j_nil))))).b) (j_cons ((j_int).b) (j_cons ((j_str).b) (j_nil)))))))))))
      (js_ret (J0f.up (j_z (j_ix (j_v 1) ((j_bin (op_mod) (j_v 0) ((j_int).b)).b))))))
theorem j_is_integer : JF F_is_integer P_is_integer := jf_fn (A := []) (js_ret (J0f.up (j_and ((j_isi (j_v 0)).b) (j_and ((j_not ((j_isi (j_v 0)).b)).b) (j_chain (op_le) (op_le) ((j_neg ((j_int).b)).b) (j_v 0) ((j_int).b))))))
theorem j_is_number : JF F_is_number P_is_number := jf_fn (A := []) (js_ret (J0f.up (j_and ((j_call (j_is_integer) (j_cons (j_v 0) (j_nil))).b) (j_bin (op_ge) (j_v 0) ((j_int).b)))))
theorem j_is_end : JF F_is_end P_is_end := jf_fn (A := []) (js_seq (js_if (J0t.up (j_tOr (j_tNot (j_tru ((j_isi (j_v 0)).b))) (j_tOr (j_tB ((j_bin (op_eq) ((j_call (jf_len) (j_cons (j_v 0) (j_nil))).b) ((j_int).b)).b)) (j_tNot (j_tru ((j_call (j_is_number) (j_cons (j_ix (j_v 0) ((j_int).b)) (j_nil))).b)))))) (js_ret (J0f.up (j_bl))) (js_nop))
      (js_ret (J0f.up (j_and ((j_isi (j_ix (j_v 0) ((j_int).b))).b) (j_bin (op_in) (j_ix (j_v 0) ((j_int).b)) ((j_tup (j_cons ((j_str).b) (j_cons ((j_str).b) (j_nil)))).b))))))
theorem j_has_only : JF F_has_only P_has_only := jf_fn (A := []) (js_seq (js_for (j_it (j_vx 0)) (jg_n 2 (by decide)) (js_if (J0t.up (j_tB ((j_bin (op_in) (j_v 2) (j_v 1)).b))) (js_ret (J0f.up (j_bl))) (js_nop)))
      (js_ret (J0f.up (j_bl))))
theorem j_is_text : JF F_is_text P_is_text := jf_fn (A := []) (js_ret (J0f.up (j_and ((j_isi (j_v 0)).b) (j_and ((j_bin (op_le) ((j_call (jf_len) (j_cons (j_v 0) (j_nil))).b) ((j_int).b)).b) (j_call (j_has_only) (j_cons (j_v 0) (j_cons ((j_str).b) (j_nil))))))))
theorem j_is_key : JF F_is_key P_is_key := jf_fn (A := []) (js_ret (J0f.up (j_and ((j_call (j_is_text) (j_cons (j_v 0) (j_nil))).b) (j_chain (op_le) (op_le) ((j_int).b) ((j_call (jf_len) (j_cons (j_v 0) (j_nil))).b) ((j_int).b)))))
theorem j_is_part : JF F_is_part P_is_part := jf_fn (A := []) (js_seq (js_if (J0t.up (j_tB ((j_bin (op_eq) (j_v 0) ((j_str).b)).b))) (js_ret (J0f.up (j_call (j_is_number) (j_cons (j_v 1) (j_nil))))) (js_nop))
      (js_seq (js_if (J0t.up (j_tB ((j_bin (op_eq) (j_v 0) ((j_str).b)).b))) (js_ret (J0f.up (j_and ((j_call (j_is_number) (j_cons (j_v 1) (j_nil))).b) (j_bin (op_gt) (j_v 1) ((j_int).b))))) (js_nop))
      (js_seq (js_if (J0t.up (j_tB ((j_bin (op_eq) (j_v 0) ((j_str).b)).b))) (js_ret (J0f.up (j_call (j_is_key) (j_cons (j_v 1) (j_nil))))) (js_nop))
      (js_ret (J0f.up (j_isi (j_v 1)))))))
theorem formIn_row (x : Str) : ∀ (rows : List (Str × Str × Str × List Str)), rowAt x (rows.map fun r => (r.1, W.kt [.str r.2.1, .str r.2.2.1, .kt (r.2.2.2.map W.str)])) = (formIn x rows).map fun f => W.kt [.str f.1, .str f.2.1, .kt (f.2.2.map W.str)]
  | [] => rfl
  | r :: rs => by
    rw [List.map_cons]
    unfold rowAt formIn
    by_cases c : r.1 = x
    · rw [if_pos c, if_pos c]; rfl
    · rw [if_neg c, if_neg c]; exact formIn_row x rs
theorem T_FORMS_rows : T_FORMS.rows = FORMR.map fun r => (r.1, W.kt [.str r.2.1, .str r.2.2.1, .kt (r.2.2.2.map W.str)]) := rfl
abbrev bodyLp : MS := sIf (tNotM (tTru (eCB F_is_part (aCons (eV 4) (aCons (eV 5) (aNil)))))) (sRet (eC (.bl false))) (sNop)
abbrev bodyG : MG := gT 2 (gsCons (gN 4) (gsCons (gN 5) (gsNil)))
abbrev bodyC1 : MT := tOrM (tNotM (tTru (isiW "tuple" (eV 2)))) (tOrM (tB (eBin (eqW false) (eCB lenW (aCons (eV 2) (aNil))) (eC (.int 0)))) (tOrM (tNotM (tTru (isiW "str" (eBin ixW (eV 2) (eC (.int 0)))))) (tB (eInKd true T_FORMS.rows (eBin ixW (eV 2) (eC (.int 0)))))))
abbrev bodyC2 : MT := tOrM (tB (eBin (eqW true) (eTup (aCons (eV 0) (aCons (eV 1) (aNil)))) (eSl 0 (eV 3) oNone (oSome (eC (.int 2)))))) (tB (eBin (eqW true) (eCB lenW (aCons (eV 2) (aNil))) (eBin (addW 0) (eCB lenW (aCons (eBin ixW (eV 3) (eC (.int 2))) (aNil))) (eC (.int 1)))))
abbrev bodyA : MS := sAsg (eIxKd T_FORMS.rows (eBin ixW (eV 2) (eC (.int 0)))) (gN 3)
abbrev bodyF : MS := sFor (iZipW (aCons (eBin ixW (eV 3) (eC (.int 2))) (aCons (eSl 0 (eV 2) (oSome (eC (.int 1))) oNone) (aNil)))) bodyG bodyLp
abbrev bodyI (c : MT) : MS := sIf c (sRet (eC (.bl false))) (sNop)
theorem body_b : F_is_body_b = sSeq (bodyI bodyC1) (sSeq bodyA (sSeq (bodyI bodyC2) (sSeq bodyF (sRet (eC (.bl true)))))) := rfl
def finB (r : RS) : Res W := match r with
  | .ok .nx _ h' => .ok .non h'
  | .ok (.rt w) _ h' => .ok w h'
  | .exc c _ h' => .exc c h'
  | _ => .stuck
theorem body_ap {a b c : W} {h : Hq} : F_is_body [a, b, c] h = finB (F_is_body_b [some a, some b, some c, none, none, none] h) := by
  unfold F_is_body fnB
  simp only [List.length_cons, List.length_nil, if_true, Nat.zero_add, Nat.reduceAdd, List.map_cons, List.map_nil, Nat.reduceSub, List.replicate, List.cons_append, List.nil_append]
  rfl
theorem ix0 {a b c d e : Option W} {y : W} {ys : List W} {h : Hq} : eBin ixW (eV 2) (eC (.int 0)) [a, b, some (.tup (y :: ys)), c, d, e] h = .ok y h := by
  show (match L2.atI (y :: ys) 0 with
    | some w => Res.ok w h
    | none => .stuck) = _
  rw [atI_k0]
theorem seq_nx {a b : MS} {ρ ρ' : Ev} {h h' : Hq} (e : a ρ h = .ok .nx ρ' h') : sSeq a b ρ h = b ρ' h' := by unfold sSeq thenS; rw [e]
theorem seq_rt {a b : MS} {ρ ρ' : Ev} {h h' : Hq} {w : W} (e : a ρ h = .ok (.rt w) ρ' h') : sSeq a b ρ h = .ok (.rt w) ρ' h' := by unfold sSeq thenS; rw [e]
theorem seq_exc {a b : MS} {ρ ρ' : Ev} {h h' : Hq} {c : Str} (e : a ρ h = .exc c ρ' h') : sSeq a b ρ h = .exc c ρ' h' := by unfold sSeq thenS; rw [e]
theorem bodyI_t {c : MT} {ρ : Ev} {h h' : Hq} (e : c ρ h = .ok true h') : bodyI c ρ h = .ok (.rt (.bl false)) ρ h' := by show (c ρ h).toS ρ _ = _; rw [e]; rfl
theorem bodyI_f {c : MT} {ρ : Ev} {h h' : Hq} (e : c ρ h = .ok false h') : bodyI c ρ h = .ok .nx ρ h' := by show (c ρ h).toS ρ _ = _; rw [e]; rfl
theorem parts_loop : ∀ (ks : List Str) (ws : List W) (xs : List Zv) (S : Cel) (h : Hq) (a b c d e f : Option W), Sb S h → A2 (DZ S h) ws xs → (match partsT ks xs with
    | .ok true => ∃ h' S' e' f', loopF (fun _ => true) bodyG bodyLp (zipL (ks.map W.str) ws) [a, b, c, d, e, f] h = .ok .nx [a, b, c, d, e', f'] h' ∧ Wx S S' h h' ∧ Sb S' h'
    | .ok false => ∃ h' S' ρ', loopF (fun _ => true) bodyG bodyLp (zipL (ks.map W.str) ws) [a, b, c, d, e, f] h = .ok (.rt (.bl false)) ρ' h' ∧ Wx S S' h h' ∧ Sb S' h'
    | .exc x => ∃ h' S' ρ', loopF (fun _ => true) bodyG bodyLp (zipL (ks.map W.str) ws) [a, b, c, d, e, f] h = .exc x ρ' h' ∧ Wx S S' h h' ∧ Sb S' h'
    | .stuck => True)
  | [], ws, xs, S, h, a, b, c, d, e, f, s, r => ⟨h, S, e, f, rfl, Wx.refl, s⟩
  | k :: ks, [], xs, S, h, a, b, c, d, e, f, s, r => by
    cases r
    exact ⟨h, S, e, f, rfl, Wx.refl, s⟩
  | k :: ks, w :: ws, xs, S, h, a, b, c, d, e, f, s, r => by
    cases r with
    | cons dx r =>
    rename_i x xs
    have ez : zipL ((k :: ks).map W.str) (w :: ws) = .tup [.str k, w] :: zipL (ks.map W.str) ws := rfl
    rw [ez]
    have j := j_is_part S h [.str k, w] [.z (.str k), .z x] s (.cons (Rdb.of_z dz_str) (.cons (Rdb.of_z dx) .nil))
    unfold partsT
    have el : loopF (fun _ => true) bodyG bodyLp (.tup [.str k, w] :: zipL (ks.map W.str) ws) [a, b, c, d, e, f] h = (match bodyLp [a, b, c, d, some (.str k), some w] h with
      | .ok .nx ρ2 h2 => loopF (fun _ => true) bodyG bodyLp (zipL (ks.map W.str) ws) ρ2 h2
      | .ok .ct ρ2 h2 => loopF (fun _ => true) bodyG bodyLp (zipL (ks.map W.str) ws) ρ2 h2
      | .ok .bk ρ2 h2 => .ok .nx ρ2 h2
      | r => r) := rfl
    rw [el]
    have eb : bodyLp [a, b, c, d, some (.str k), some w] h = ((((F_is_part [.str k, w] h).bind fun x h1 => match truW h1 x with
        | some b => Res.ok b h1
        | none => .stuck).bind fun k h1 => .ok (!k) h1).toS [a, b, c, d, some (.str k), some w] fun q h1 => if q then .ok (.rt (.bl false)) [a, b, c, d, some (.str k), some w] h1 else .ok .nx [a, b, c, d, some (.str k), some w] h1) := rfl
    rw [eb]
    revert j
    cases P_is_part [.z (.str k), .z x] with
    | stuck => intro _; trivial
    | exc cc =>
      rintro ⟨h1, S1, e1, a1, s1⟩
      rw [e1]
      exact ⟨h1, S1, _, rfl, a1, s1⟩
    | ok t =>
      rintro ⟨w1, h1, S1, e1, a1, s1, fr⟩
      rw [e1]
      cases t with
      | z v =>
        cases v with
        | bl bb =>
          obtain ⟨o, d1, _⟩ := fr
          cases dz_bl_iff.mp (D.z_iff.mp d1)
          cases bb with
          | false => exact ⟨h1, S1, _, rfl, a1, s1⟩
          | true =>
            have ih := parts_loop ks ws xs S1 h1 a b c d (some (.str k)) (some w) s1 (r.imp fun _ _ _ _ q => DZ.ext q a1 s)
            show (match partsT ks xs with
              | .ok true => _
              | .ok false => _
              | .exc x => _
              | .stuck => True)
            revert ih
            cases partsT ks xs with
            | stuck => intro _; trivial
            | exc x => rintro ⟨h2, S2, ρ2, q1, q2, q3⟩; exact ⟨h2, S2, ρ2, q1, a1.trans q2, q3⟩
            | ok bb =>
              cases bb with
              | true => rintro ⟨h2, S2, e2, f2, q1, q2, q3⟩; exact ⟨h2, S2, e2, f2, q1, a1.trans q2, q3⟩
              | false => rintro ⟨h2, S2, ρ2, q1, q2, q3⟩; exact ⟨h2, S2, ρ2, q1, a1.trans q2, q3⟩
        | _ => trivial
      | _ => trivial
theorem no_body {S : Cel} {h : Hq} {s r : Str} {w : W} {v : Zv} (d : DZ S h w v) (sb : Sb S h) (e : F_is_body [.str s, .str r, w] h = .ok (.bl false) h) : Po S h (F_is_body [.str s, .str r, w] h) (.ok (.z (.bl false))) fun w t S' h' => Fr S' h h' w t :=
  ⟨.bl false, h, S, e, Wx.refl, sb, Fr.z dz_bl⟩
theorem j_is_body : JF F_is_body P_is_body := fun S h ws ts sb a => by
  unfold P_is_body
  split
  · rename_i s r v
    cases a with | cons a0 a =>
    cases a with | cons a1 a =>
    cases a with | cons a2 a =>
    cases a
    cases dz_str_iff.mp a0.z
    cases dz_str_iff.mp a1.z
    have d := a2.z
    rename_i w2
    have notup : (∀ b, kitB "tuple" "tuple" = some b → b = true) := by decide
    have nb : ∀ k, tyW h w2 = some k → (∀ t, k = .inl t → kitB t "tuple" = some false) → F_is_body [.str s, .str r, w2] h = .ok (.bl false) h := fun k e z => by
      have : isiW "tuple" (eV 2) [some (.str s), some (.str r), some w2, none, none, none] h = .ok (.bl false) h := by
        show (match tyW h w2 with
          | some (.inl s) => match kitB s "tuple" with
            | some b => Res.ok (W.bl b) h
            | none => .stuck
          | some (.inr _) => if isiTs.contains "tuple" then .ok (.bl false) h else .stuck
          | none => .stuck) = _
        rw [e]
        cases k with
        | inl t => simp only [z t rfl]
        | inr c => rfl
      have c1 : bodyC1 [some (.str s), some (.str r), some w2, none, none, none] h = .ok true h := by
        show ((((isiW "tuple" (eV 2) [some (.str s), some (.str r), some w2, none, none, none] h).bind fun x h1 => match truW h1 x with
          | some b => Res.ok b h1
          | none => .stuck).bind fun k h1 => .ok (!k) h1).bind _) = _
        rw [this]
        rfl
      rw [body_ap, body_b, seq_rt (bodyI_t c1)]
      rfl
    have other : (∀ xs, v ≠ .tup xs) → Po S h (F_is_body [.str s, .str r, w2] h) (noBody v) fun w t S' h' => Fr S' h h' w t := fun hv => by
      unfold noBody
      cases e : tyT (.z v) with
      | none => trivial
      | some k =>
        refine no_body d sb (nb k (ty_w (Rdb.of_z d) e) fun t ht => ?_)
        subst ht
        cases v with
        | tup xs => exact absurd rfl (hv xs)
        | dct b kvs => cases b with | false => (cases e; decide) | true => cases e
        | ins c fs => cases e
        | exn _ _ => cases e
        | _ => cases e; decide
    cases v with
    | tup vs =>
      obtain ⟨ys, rfl, a⟩ := dz_tup_iff.mp d
      cases a with
      | nil => exact no_body d sb rfl
      | cons dx ax =>
        rename_i y x ys xs
        by_cases hx : ∃ z, x = .str z
        · obtain ⟨z, rfl⟩ := hx
          cases dz_str_iff.mp dx
          show Po S h (F_is_body [.str s, .str r, .tup (.str z :: ys)] h) (bodyRow s r xs (formIn z FORMR)) _
          have hr : rowAt z T_FORMS.rows = (formIn z FORMR).map fun f => W.kt [.str f.1, .str f.2.1, .kt (f.2.2.map W.str)] := by
            rw [T_FORMS_rows]; exact formIn_row z FORMR
          have e0 : bodyC1 [some (.str s), some (.str r), some (.tup (.str z :: ys)), none, none, none] h = .ok (xor true (rowAt z T_FORMS.rows).isSome) h := by
            have l0 : (tB (eBin (eqW false) (eCB lenW (aCons (eV 2) (aNil))) (eC (.int 0)))) [some (.str s), some (.str r), some (.tup (.str z :: ys)), none, none, none] h = .ok false h := by
              show Res.ok (xor false (decide (((ys.length + 1 : Nat) : Int) = 0))) h = _
              rw [decide_eq_false (by omega)]; rfl
            have l1 : (tNotM (tTru (isiW "tuple" (eV 2)))) [some (.str s), some (.str r), some (.tup (.str z :: ys)), none, none, none] h = .ok false h := rfl
            have l2 : (tNotM (tTru (isiW "str" (eBin ixW (eV 2) (eC (.int 0)))))) [some (.str s), some (.str r), some (.tup (.str z :: ys)), none, none, none] h = .ok false h := by
              show ((((eBin ixW (eV 2) (eC (.int 0)) [some (.str s), some (.str r), some (.tup (.str z :: ys)), none, none, none] h).bind fun x h1 => match tyW h1 x with
                | some (.inl s) => match kitB s "str" with
                  | some b => Res.ok (W.bl b) h1
                  | none => .stuck
                | some (.inr _) => if isiTs.contains "str" then .ok (.bl false) h1 else .stuck
                | none => .stuck).bind fun x h1 => match truW h1 x with
                | some b => Res.ok b h1
                | none => .stuck).bind fun k h1 => .ok (!k) h1) = _
              rw [ix0]
              rfl
            show ((tNotM (tTru (isiW "tuple" (eV 2)))) [some (.str s), some (.str r), some (.tup (.str z :: ys)), none, none, none] h).bind _ = _
            rw [l1]
            show ((tB (eBin (eqW false) (eCB lenW (aCons (eV 2) (aNil))) (eC (.int 0)))) [some (.str s), some (.str r), some (.tup (.str z :: ys)), none, none, none] h).bind _ = _
            rw [l0]
            show ((tNotM (tTru (isiW "str" (eBin ixW (eV 2) (eC (.int 0)))))) [some (.str s), some (.str r), some (.tup (.str z :: ys)), none, none, none] h).bind _ = _
            rw [l2]
            show (((eBin ixW (eV 2) (eC (.int 0)) [some (.str s), some (.str r), some (.tup (.str z :: ys)), none, none, none] h).bind fun x h1 => match x with
              | .str z => Res.ok (W.bl (xor true (rowAt z T_FORMS.rows).isSome)) h1
              | _ => .stuck).bind fun x h1 => match x with
              | .bl b => Res.ok b h1
              | _ => .stuck) = _
            rw [ix0]
            rfl
          cases ef : formIn z FORMR with
          | none =>
            rw [ef] at hr
            refine no_body d sb ?_
            rw [body_ap, body_b, seq_rt (bodyI_t (e0.trans (by rw [hr]; rfl)))]
            rfl
          | some f =>
            obtain ⟨fa, fb, fk⟩ := f
            unfold bodyRow
            dsimp only
            cases so : PyData.strOk s && PyData.strOk r && PyData.strOk fa && PyData.strOk fb with
            | false => trivial
            | true =>
            rw [Bool.not_true, if_neg (by decide)]
            simp only [Bool.and_eq_true] at so
            obtain ⟨⟨⟨so1, so2⟩, so3⟩, so4⟩ := so
            rw [ef] at hr
            have hr : rowAt z T_FORMS.rows = some (W.kt [.str fa, .str fb, .kt (fk.map W.str)]) := hr
            have hl := ax.length
            have c1 : cutL (W.str z :: ys) (some 1) none = ys := by
              have : HT.sIx (W.str z :: ys).length 0 (some 1) = 1 := by simp [HT.sIx]
              have t2 : HT.sIx (W.str z :: ys).length (W.str z :: ys).length none = (W.str z :: ys).length := rfl
              unfold cutL
              rw [this, t2]
              simp
            have e1 : bodyC2 [some (.str s), some (.str r), some (.tup (.str z :: ys)), some (W.kt [.str fa, .str fb, .kt (fk.map W.str)]), none, none] h = .ok (!(decide (s = fa) && (decide (r = fb) && decide (xs.length = fk.length)))) h := by
              have l1 : (tB (eBin (eqW true) (eTup (aCons (eV 0) (aCons (eV 1) (aNil)))) (eSl 0 (eV 3) oNone (oSome (eC (.int 2)))))) [some (.str s), some (.str r), some (.tup (.str z :: ys)), some (W.kt [.str fa, .str fb, .kt (fk.map W.str)]), none, none] h = .ok (!(decide (s = fa) && decide (r = fb))) h := by
                have s1 : eSl 0 (eV 3) oNone (oSome (eC (.int 2))) [some (.str s), some (.str r), some (.tup (.str z :: ys)), some (W.kt [.str fa, .str fb, .kt (fk.map W.str)]), none, none] h = .ok (.tup [.str fa, .str fb]) h := by
                  show slW 0 (W.kt [.str fa, .str fb, .kt (fk.map W.str)]) none (some 2) h = _
                  unfold slW
                  simp only [HT.sIx, List.length_cons, List.length_nil]
                  rfl
                have sh : ∀ a b : Str, PyData.strOk a = true → PyData.strOk b = true → SeqAt.shaped (.tuple [.str a, .str b]) = true := fun a b ha hb => by simp [ha, hb, SeqAt.shaped, PyData.canLay0, PyData.canLayAll0, PyData.depth, PyData.depthAll]
                have s2 : eqW true (.tup [.str s, .str r]) (.tup [.str fa, .str fb]) h = .ok (.bl (xor true (PyData.eqv (.tuple [.str s, .str r]) (.tuple [.str fa, .str fb])))) h := by
                  show (if SeqAt.shaped (.tuple [.str s, .str r]) && SeqAt.shaped (.tuple [.str fa, .str fb]) then Res.ok (W.bl (xor true (PyData.eqv (.tuple [.str s, .str r]) (.tuple [.str fa, .str fb])))) h else .stuck) = _
                  rw [sh s r so1 so2, sh fa fb so3 so4]; rfl
                show (((eSl 0 (eV 3) oNone (oSome (eC (.int 2))) [some (.str s), some (.str r), some (.tup (.str z :: ys)), some (W.kt [.str fa, .str fb, .kt (fk.map W.str)]), none, none] h).bind fun y h2 => eqW true (.tup [.str s, .str r]) y h2).bind fun x h1 => match x with
                  | .bl b => Res.ok b h1
                  | _ => .stuck) = _
                rw [s1]
                show ((eqW true (.tup [.str s, .str r]) (.tup [.str fa, .str fb]) h).bind fun x h1 => match x with
                  | .bl b => Res.ok b h1
                  | _ => .stuck) = _
                rw [s2]
                show Res.ok (xor true (PyData.eqv (.tuple [.str s, .str r]) (.tuple [.str fa, .str fb]))) h = _
                have : PyData.eqv (.tuple [.str s, .str r]) (.tuple [.str fa, .str fb]) = (decide (s = fa) && decide (r = fb)) := by
                  by_cases c1 : s = fa <;> by_cases c2 : r = fb <;> simp [PyData.eqv, PyData.eqvAll, c1, c2]
                rw [this]
                cases decide (s = fa) && decide (r = fb) <;> rfl
              have l2 : (tB (eBin (eqW true) (eCB lenW (aCons (eV 2) (aNil))) (eBin (addW 0) (eCB lenW (aCons (eBin ixW (eV 3) (eC (.int 2))) (aNil))) (eC (.int 1))))) [some (.str s), some (.str r), some (.tup (.str z :: ys)), some (W.kt [.str fa, .str fb, .kt (fk.map W.str)]), none, none] h = .ok (!decide (xs.length = fk.length)) h := by
                show Res.ok (xor true (decide (((ys.length + 1 : Nat) : Int) = ((((fk.map W.str).length : Nat) : Int) + 1)))) h = _
                rw [List.length_map, hl]
                by_cases c : xs.length = fk.length
                · rw [decide_eq_true c, decide_eq_true (by omega)]; rfl
                · rw [decide_eq_false c, decide_eq_false (by omega)]; rfl
              show ((tB (eBin (eqW true) (eTup (aCons (eV 0) (aCons (eV 1) (aNil)))) (eSl 0 (eV 3) oNone (oSome (eC (.int 2)))))) [some (.str s), some (.str r), some (.tup (.str z :: ys)), some (W.kt [.str fa, .str fb, .kt (fk.map W.str)]), none, none] h).bind _ = _
              rw [l1]
              show (if (!(decide (s = fa) && decide (r = fb))) then Res.ok true h else ((tB (eBin (eqW true) (eCB lenW (aCons (eV 2) (aNil))) (eBin (addW 0) (eCB lenW (aCons (eBin ixW (eV 3) (eC (.int 2))) (aNil))) (eC (.int 1))))) [some (.str s), some (.str r), some (.tup (.str z :: ys)), some (W.kt [.str fa, .str fb, .kt (fk.map W.str)]), none, none] h)) = _
              rw [l2]
              cases decide (s = fa) <;> cases decide (r = fb) <;> rfl
            have e3 : bodyA [some (.str s), some (.str r), some (.tup (.str z :: ys)), none, none, none] h = .ok .nx [some (.str s), some (.str r), some (.tup (.str z :: ys)), some (W.kt [.str fa, .str fb, .kt (fk.map W.str)]), none, none] h := by
              show (((eBin ixW (eV 2) (eC (.int 0)) [some (.str s), some (.str r), some (.tup (.str z :: ys)), none, none, none] h).bind fun x h1 => match x with
                | .str z => (match rowAt z T_FORMS.rows with
                  | some w => Res.ok w h1
                  | none => .stuck)
                | _ => .stuck).toS _ _) = _
              rw [ix0]
              show ((match rowAt z T_FORMS.rows with
                  | some w => Res.ok w h
                  | none => .stuck).toS _ _) = _
              rw [hr]
              rfl
            have ef : bodyF [some (.str s), some (.str r), some (.tup (.str z :: ys)), some (W.kt [.str fa, .str fb, .kt (fk.map W.str)]), none, none] h = loopF (fun _ => true) bodyG bodyLp (zipL (fk.map W.str) ys) [some (.str s), some (.str r), some (.tup (.str z :: ys)), some (W.kt [.str fa, .str fb, .kt (fk.map W.str)]), none, none] h := by
              show loopF (fun _ => true) bodyG bodyLp (zipL (fk.map W.str) (cutL (W.str z :: ys) (some 1) none)) _ h = _
              rw [c1]
            rw [body_ap, body_b, seq_nx (bodyI_f (e0.trans (by rw [hr]; rfl))), seq_nx e3]
            cases cc : decide (s = fa) && (decide (r = fb) && decide (xs.length = fk.length)) with
            | false =>
              rw [seq_rt (bodyI_t (e1.trans (by rw [cc]; rfl)))]
              exact ⟨.bl false, h, S, rfl, Wx.refl, sb, Fr.z dz_bl⟩
            | true =>
              rw [seq_nx (bodyI_f (e1.trans (by rw [cc]; rfl)))]
              have lp := parts_loop fk ys xs S h (some (.str s)) (some (.str r)) (some (.tup (.str z :: ys))) (some (W.kt [.str fa, .str fb, .kt (fk.map W.str)])) none none sb ax
              rw [if_pos rfl]
              revert lp
              cases partsT fk xs with
              | stuck => intro _; trivial
              | exc x =>
                rintro ⟨h1, S1, ρ1, q1, q2, q3⟩
                rw [seq_exc (ef.trans q1)]
                exact ⟨h1, S1, rfl, q2, q3⟩
              | ok bb =>
                cases bb with
                | true =>
                  rintro ⟨h1, S1, x1, x2, q1, q2, q3⟩
                  rw [seq_nx (ef.trans q1)]
                  exact ⟨.bl true, h1, S1, rfl, q2, q3, Fr.z dz_bl⟩
                | false =>
                  rintro ⟨h1, S1, ρ1, q1, q2, q3⟩
                  rw [seq_rt (ef.trans q1)]
                  exact ⟨.bl false, h1, S1, rfl, q2, q3, Fr.z dz_bl⟩
        · have : bodyT s r (.tup (x :: xs)) = noBody x := by
            cases x with
            | str z => exact absurd ⟨z, rfl⟩ hx
            | _ => rfl
          show Po S h _ (bodyT s r (.tup (x :: xs))) _
          rw [this]
          unfold noBody
          cases e : tyT (.z x) with
          | none => trivial
          | some k =>
            have ty := ty_w (Rdb.of_z dx) e
            have ek : ∀ t, k = .inl t → kitB t "str" = some false := fun t ht => by
              subst ht
              cases x with
              | str z => exact absurd ⟨z, rfl⟩ hx
              | dct b kvs => cases b with | false => (cases e; decide) | true => cases e
              | ins c fs => cases e
              | exn _ _ => cases e
              | _ => cases e; decide
            refine no_body d sb ?_
            have l0 : (tB (eBin (eqW false) (eCB lenW (aCons (eV 2) (aNil))) (eC (.int 0)))) [some (.str s), some (.str r), some (.tup (y :: ys)), none, none, none] h = .ok false h := by
              show Res.ok (xor false (decide (((ys.length + 1 : Nat) : Int) = 0))) h = _
              rw [decide_eq_false (by omega)]; rfl
            have l1 : (tNotM (tTru (isiW "tuple" (eV 2)))) [some (.str s), some (.str r), some (.tup (y :: ys)), none, none, none] h = .ok false h := rfl
            have l2 : isiW "str" (eBin ixW (eV 2) (eC (.int 0))) [some (.str s), some (.str r), some (.tup (y :: ys)), none, none, none] h = .ok (.bl false) h := by
              show ((eBin ixW (eV 2) (eC (.int 0)) [some (.str s), some (.str r), some (.tup (y :: ys)), none, none, none] h).bind fun x h1 => match tyW h1 x with
                | some (.inl s) => match kitB s "str" with
                  | some b => Res.ok (W.bl b) h1
                  | none => .stuck
                | some (.inr _) => if isiTs.contains "str" then .ok (.bl false) h1 else .stuck
                | none => .stuck) = _
              rw [ix0]
              show (match tyW h y with
                | some (.inl s) => match kitB s "str" with
                  | some b => Res.ok (W.bl b) h
                  | none => .stuck
                | some (.inr _) => if isiTs.contains "str" then .ok (.bl false) h else .stuck
                | none => .stuck) = _
              rw [ty]
              cases k with
              | inl t => simp only [ek t rfl]
              | inr c => rfl
            have c1 : bodyC1 [some (.str s), some (.str r), some (.tup (y :: ys)), none, none, none] h = .ok true h := by
              show ((tNotM (tTru (isiW "tuple" (eV 2)))) [some (.str s), some (.str r), some (.tup (y :: ys)), none, none, none] h).bind _ = _
              rw [l1]
              show ((tB (eBin (eqW false) (eCB lenW (aCons (eV 2) (aNil))) (eC (.int 0)))) [some (.str s), some (.str r), some (.tup (y :: ys)), none, none, none] h).bind _ = _
              rw [l0]
              show ((((isiW "str" (eBin ixW (eV 2) (eC (.int 0))) [some (.str s), some (.str r), some (.tup (y :: ys)), none, none, none] h).bind fun x h1 => match truW h1 x with
                | some b => Res.ok b h1
                | none => .stuck).bind fun k h1 => .ok (!k) h1).bind _) = _
              rw [l2]
              rfl
            rw [body_ap, body_b, seq_rt (bodyI_t c1)]
            rfl
    | _ => exact other fun _ z => by cases z
  · trivial
theorem j_is_message : JF F_is_message P_is_message := jf_fn (A := []) (js_seq (js_if (J0t.up (j_tOr (j_tNot (j_tru ((j_isi (j_v 0)).b))) (j_tOr (j_tB ((j_bin (op_eq) ((j_call (jf_len) (j_cons (j_v 0) (j_nil))).b) ((j_int).b)).b)) (j_tOr (j_tNot (j_tru ((j_call (j_is_end) (j_cons (j_ix (j_v 0) ((j_int).b)) (j_nil))).b))) (j_tNot (j_tru ((j_call (j_is_end) (j_cons (j_ix (j_v 0) ((j_int).b)) (j_nil))).b))))))) (js_ret (J0f.up (j_bl))) (js_nop))
      (js_ret (J0f.up (j_call (j_is_body) (j_cons (j_ix (j_ix (j_v 0) ((j_int).b)) ((j_int).b)) (j_cons (j_ix (j_ix (j_v 0) ((j_int).b)) ((j_int).b)) (j_cons (j_ix (j_v 0) ((j_int).b)) (j_nil))))))))
theorem j_Network_send : JM 0 F_Network_send P_Network_send := jm_fn (A := []) (js_seq (js_if (J0t.up (j_tNot (j_tru ((j_call (j_is_message) (j_cons (j_v 1) (j_nil))).b)))) (js_raise) (js_nop))
      (js_seq (js_fld (by decide) (jp_v 0) (J0f.up (j_bin (op_add) (j_fld (j_v 0)) ((j_int).b))))
      (js_seq (js_putD (by decide) (jp_f (jp_v 0)) (j_fld (j_v 0)) ((j_z (j_v 1)).b))
      (js_ret (J0f.up (j_z (j_fld (j_v 0))))))))
theorem j__law_sent : JM 0 F_law_sent P_law_sent := jm_fn (A := []) (js_try (i := 2) (by decide) (js_ret (j1_tup (j1_cons (J0f.up (j_str)) (j1_cons (j1_fz (j_mm (B := [1]) (by decide) (by decide) (.cons j_Network_send (TbMR.nil)) (jp_v 0) (j_cons (j_v 1) (j_nil)))) (j1_nil))))) (jus_ret (ju_tup (jua_cons (ju_c fun _ _ => dz_str) (jua_cons (ju_and (ju_is) (ju_and (ju_is) (ju_not (ju_is2)))) (jua_nil))))))
theorem j_Network_message : JF F_Network_message P_Network_message := jf_fn (A := []) (js_seq (js_if (J0t.up (j_tB ((j_bin (op_inD2) (j_v 1) (j_fld (j_v 0))).b))) (js_raise) (js_nop))
      (js_ret (J0f.up (j_z (j_ixD (j_fld (j_v 0)) (j_v 1))))))
theorem j_Network_drop : JM 0 F_Network_drop P_Network_drop := jm_fn (A := []) (js_seq (js_if (J0t.up (j_tB ((j_bin (op_inD2) (j_v 1) (j_fld (j_v 0))).b))) (js_raise) (js_nop))
      (js_del (by decide) (jp_f (jp_v 0)) (j_v 1)))
theorem j__law_looked : JM 0 F_law_looked P_law_looked := jm_fn (A := []) (js_try (i := 3) (by decide) (js_seq (js_if (J0t.up (j_tru (j_v 2))) (js_ret (j1_tup (j1_cons (J0f.up (j_str)) (j1_cons (j1_fz (j_mm (B := [1]) (by decide) (by decide) (.cons j_Network_drop (TbMR.nil)) (jp_v 0) (j_cons (j_v 1) (j_nil)))) (j1_nil))))) (js_nop))
      (js_ret (J0f.up (j_tup (j_cons ((j_str).b) (j_cons ((j_fz (j_met (.cons j_Network_message (TbR.nil)) (j_v 0) (j_cons (j_v 1) (j_nil)))).b) (j_nil))))))) (jus_ret (ju_tup (jua_cons (ju_c fun _ _ => dz_str) (jua_cons (ju_and (ju_is) (ju_and (ju_is) (ju_not (ju_is)))) (jua_nil))))))
theorem j_Network___len__ : JF F_Network___len__ P_Network___len__ := jf_fn (A := []) (js_ret (J0f.up (j_call (jf_len) (j_cons (j_fld (j_v 0)) (j_nil)))))
theorem j_Network_numbers : JF F_Network_numbers P_Network_numbers := jf_fn (A := []) (js_ret (J0f.up (j_call (jf_lstd) (j_cons (j_fld (j_v 0)) (j_nil)))))
theorem j__law_holds : JF F_law_holds P_law_holds := jf_fn (A := []) (js_seq (js_asg (by decide) (J0f.up (j_met (.cons j_Network_numbers (TbR.nil)) (j_v 0) (j_nil))))
      (js_seq (js_if (J0t.up (j_tOr (j_tNot (j_tru ((j_isi (j_v 3)).b))) (j_tOr (j_tB ((j_bin (op_eq) (j_v 3) ((j_call (jf_sort) (j_cons ((j_call (jf_lstd) (j_cons (j_v 1) (j_nil))).b) (j_nil))).b)).b)) (j_tB ((j_bin (op_eq) ((j_keysO still_v (j_v 0)).b) ((j_call (jf_sort) (j_cons ((j_call (jf_lstd) (j_cons (j_v 1) (j_nil))).b) (j_nil))).b)).b))))) (js_ret (J0f.up (j_bl))) (js_nop))
      (js_seq (js_if (J0t.up (j_tOr (j_tB ((j_bin (op_eq) ((j_call (jf_ownLen (.cons j_Network___len__ (TbR.nil))) (j_cons (j_v 0) (j_nil))).b) ((j_call (jf_len) (j_cons (j_v 1) (j_nil))).b)).b)) (j_tOr (j_tB ((j_bin (op_eq) (j_fld (j_v 0)) (j_v 2)).b)) (j_tru ((j_isi (j_fld (j_v 0))).b))))) (js_ret (J0f.up (j_bl))) (js_nop))
      (js_seq (js_expr (j_bmm (B := []) (by decide) (by decide) jm_app (jp_v 3) (j_cons ((j_int).b) (j_nil))))
      (js_ret (J0f.up (j_bin (op_eq) ((j_met (.cons j_Network_numbers (TbR.nil)) (j_v 0) (j_nil)).b) ((j_call (jf_sort) (j_cons ((j_call (jf_lstd) (j_cons (j_v 1) (j_nil))).b) (j_nil))).b))))))))
theorem j_law : JF F_law P_law := jf_fn (A := []) (js_seq (js_asg (by decide) (J0f.up (j_fz (j_call (j__law_stream) (j_cons (j_v 0) (j_cons ((j_int).b) (j_nil)))))))
      (js_seq (js_asg (by decide) (J0f.up (j_nst (jn_cons (j_call0 (jf_make j_Network___init__)) (jn_cons (j_call0 (jf_make j_Network___init__)) (jn_nil))))))
      (js_seq (js_asg (by decide) (J0f.up (j_nst (jn_cons (j_dn) (jn_cons (j_dn) (jn_nil))))))
      (js_seq (js_asg (by decide) (J0f.up (j_lst (j_cons ((j_int).b) (j_cons ((j_int).b) (j_nil))))))
      (js_seq (js_if (J0t.up (j_tNot (j_tru ((j_call (j__law_holds) (j_cons (j_ix (j_v 2) ((j_int).b)) (j_cons ((j_fz (j_dn)).b) (j_cons ((j_int).b) (j_nil))))).b)))) (js_ret (J0f.up (j_bl))) (js_nop))
      (js_seq (js_for (j_rng1 (j_cons ((j_call (jf_min2) (j_cons ((j_int).b) (j_cons ((j_bin (op_fdiv) ((j_call (jf_len) (j_cons (j_v 1) (j_nil))).b) ((j_int).b)).b) (j_nil)))).b) (j_nil))) (jg_n 5 (by decide)) (js_seq (js_asg (by decide) (J0f.up (j_fz (j_call (j__law_draw) (j_cons (j_v 1) (j_cons ((j_bin (op_mul) ((j_int).b) (j_v 5)).b) (j_nil)))))))
      (js_seq (js_asg (by decide) (J0f.up (j_fz (j_call (j__law_draw) (j_cons (j_v 1) (j_cons ((j_bin (op_add) ((j_bin (op_mul) ((j_int).b) (j_v 5)).b) ((j_int).b)).b) (j_nil)))))))
      (js_seq (js_asg (by decide) (J0f.up (j_bin (op_mod) (j_v 6) ((j_int).b))))
      (js_eq (js_seq (js_als (by decide) (by decide) (jp_i (jp_v 3) (j_v 8)) (js_if (J0t.up (j_tB ((j_bin (op_lt) ((j_bin (op_mod) ((j_bin (op_fdiv) (j_v 6) ((j_int).b)).b) ((j_int).b)).b) ((j_int).b)).b))) (js_seq (js_asg (by decide) (J0f.up (j_fz (j_call (j__law_message) (j_cons (j_v 7) (j_nil))))))
      (js_seq (js_put (by decide) (jp_v 4) (j_v 8) ((j_fz (j_bin (op_add) (j_ix (j_v 4) (j_v 8)) ((j_int).b))).b))
      (js_seq (js_if (j1_tB (j1_bin (op_eq) (j1_fz (j_m (by decide) j__law_sent (ja_0 (B := [10]) (by decide) (jp_i (jp_v 2) (j_v 8)) (j_cons (j_v 10) (j_nil))))) (J0f.up (j_tup (j_cons ((j_str).b) (j_cons ((j_z (j_ix (j_v 4) (j_v 8))).b) (j_nil))))))) (js_ret (J0f.up (j_bl))) (js_nop))
      (js_putD (by decide) (jp_v 9) (j_ix (j_v 4) (j_v 8)) ((j_z (j_v 10)).b))))) (js_if (J0t.up (j_tB ((j_bin (op_eq) ((j_bin (op_mod) ((j_bin (op_fdiv) (j_v 6) ((j_int).b)).b) ((j_int).b)).b) ((j_int).b)).b))) (js_if (j1_tB (j1_bin (op_eq) (j1_fz (j_m (by decide) j__law_sent (ja_0 (B := []) (by decide) (jp_i (jp_v 2) (j_v 8)) (j_cons ((j_call (j__law_bad) (j_cons (j_v 7) (j_nil))).b) (j_nil))))) (J0f.up (j_tup (j_cons ((j_str).b) (j_cons ((j_bl).b) (j_nil))))))) (js_ret (J0f.up (j_bl))) (js_nop)) (js_seq (js_asg (by decide) (J0f.up (j_bin (op_sub) ((j_bin (op_mod) (j_v 7) ((j_bin (op_add) (j_ix (j_v 4) (j_v 8)) ((j_int).b)).b)).b) ((j_int).b))))
      (js_seq (js_asg (by decide) (J0f.up (j_bin (op_eq) ((j_bin (op_mod) ((j_bin (op_fdiv) (j_v 6) ((j_int).b)).b) ((j_int).b)).b) ((j_int).b))))
      (js_seq (js_asg (by decide) (J0f.up (j_tup (j_cons ((j_str).b) (j_cons ((j_bl).b) (j_nil))))))
      (js_seq (js_if (J0t.up (j_tB ((j_bin (op_inD2) (j_v 11) (j_v 9)).b))) (js_seq (js_asg (by decide) (J0f.up (j_tup (j_cons ((j_str).b) (j_cons ((j_z (j_ix ((j_tup (j_cons ((j_z (j_ixD (j_v 9) (j_v 11))).b) (j_cons ((j_non).b) (j_nil)))).b) ((j_call (jf_intc) (j_cons (j_v 12) (j_nil))).b))).b) (j_nil))))))
      (js_if (J0t.up (j_tru (j_v 12))) (js_dpop (by decide) (jp_v 9) (j_v 11)) (js_nop))) (js_nop))
      (js_if (j1_tB (j1_bin (op_eq) (j1_fz (j_m (by decide) j__law_looked (ja_0 (B := [11, 12]) (by decide) (jp_i (jp_v 2) (j_v 8)) (j_cons (j_v 11) (j_cons (j_v 12) (j_nil)))))) (J0f.up (j_z (j_v 13))))) (js_ret (J0f.up (j_bl))) (js_nop)))))))) (by repeat (first | exact kp_nop | exact kp_retN | exact kp_raise | exact kp_expr | exact kp_ret | exact kp_put | exact kp_putD | exact kp_del | exact kp_asg (by decide) | refine kp_seq ?_ ?_ | refine kp_if ?_ ?_ | refine kp_for (by decide) ?_)))
      (js_if (J0t.up (j_tOr (j_tNot (j_tru ((j_call (j__law_holds) (j_cons (j_ix (j_v 2) ((j_int).b)) (j_cons (j_ixD (j_v 3) ((j_int).b)) (j_cons (j_ix (j_v 4) ((j_int).b)) (j_nil))))).b))) (j_tNot (j_tru ((j_call (j__law_holds) (j_cons (j_ix (j_v 2) ((j_int).b)) (j_cons (j_ixD (j_v 3) ((j_int).b)) (j_cons (j_ix (j_v 4) ((j_int).b)) (j_nil))))).b))))) (js_ret (J0f.up (j_bl))) (js_nop))) (by simp only [sSeq_assoc]))))))
      (js_seq (js_frS 3 (by decide) (js_forD wKeys (still_ixD still_v) (j_ixD (j_v 3) ((j_int).b)) (jg_n 11 (by decide)) (js_if (j1_tB (j1_bin (op_eq) (j1_fz (j_m (by decide) j__law_looked (ja_0 (B := [11]) (by decide) (jp_i (jp_v 2) ((j_int).b)) (j_cons (j_v 11) (j_cons ((j_bl).b) (j_nil)))))) (J0f.up (j_tup (j_cons ((j_str).b) (j_cons ((j_z (j_ixD (j_ixD (j_v 3) ((j_int).b)) (j_v 11))).b) (j_nil))))))) (js_ret (J0f.up (j_bl))) (js_nop))))
      (js_ret (J0f.up (j_bl))))))))))
end Y

namespace Y
open PySem L2 Z ZP
theorem i62_4 : i62 4 = true := by decide
theorem i62_60 : i62 60 = true := by decide
def okI (i : Int) : Bool := decide (-1000000000000 ≤ i) && decide (i ≤ 1000000000000)
def isIntT : T → Bool
  | .z (.int i) => okI i
  | _ => false
local macro_rules | `(tactic| walk_at "p") => `(tactic| try simp only [ZP.kitx_int_int, ZP.up_ap, ZP.pIsi_ap, ZP.pRet_ap, ZP.leT_ii, ZP.rz_bind_ok, ZP.pNeg_ap, ZP.rz_at_ok, ZP.pNot_ap, ZP.r1_toP_ok, ZP.pC_ap, ZP.endP_rt, ZP.tyT_i, ZP.pChain_ap, ZP.kitx_int_bool, ZP.isiT_ap, ZP.pAnd_ap, ZP.pV_ap, Int.reduceLT, Int.reduceLE, Int.reduceGT, Int.reduceGE, Int.reduceNeg, Int.reducePow, Int.reduceAdd, Int.reduceSub, Int.reduceMul, Int.reduceEq, Int.reduceToNat, Int.reduceMod, Int.reduceDiv, Nat.reduceLT, Nat.reduceLeDiff, Nat.reduceAdd, Nat.reduceSub, Nat.reduceEqDiff, Nat.reduceMul, Nat.reducePow, decide_true, decide_false, Bool.and_self, Bool.and_true, Bool.true_and, Bool.and_false, Bool.false_and, Bool.or_true, Bool.true_or, Bool.or_false, Bool.false_or, Bool.or_self, reduceCtorEq, sizeL, isSome_some, List.length_map, and_self, natAbs_10, natAbs_2, List.getElem?_cons_zero, List.getElem?_cons_succ, List.set_cons_zero, List.set_cons_succ, List.map_cons, List.map_nil, List.replicate, List.cons_append, List.nil_append, List.length_cons, List.length_nil, Bool.false_xor, Bool.true_xor, if_true, if_false, Bool.false_eq_true, Bool.not_true, Bool.not_false, Option.map_some, Option.map_none, Option.bind_some, Option.bind_none, List.append_nil, List.length_append, slen_one, Int.cast_ofNat_Int, eq_self])
theorem is_integer_i (i : Int) : P_is_integer [.z (.int i)] = .ok (.z (.bl (okI i))) := by
  rw [P_is_integer_ap]
  unfold P_is_integer_b okI
  walk_at "p"
  by_cases c : -1000000000000 ≤ i
  · simp only [decide_eq_true c]; walk_at "p"
  · simp only [decide_eq_false c]; walk_at "p"
theorem is_integer_n {t : T} {s : String} (h : tyT t = some (.inl s)) (h2 : kitB s "int" = some false) : P_is_integer [t] = .ok (.z (.bl false)) := by
  rw [P_is_integer_ap]
  unfold P_is_integer_b
  simp only [pRet_ap, up_ap, pAnd_ap, pIsi_ap, pV_ap, List.getElem?_cons_zero, rz_bind_ok, isiT_ap, h, h2, rz_at_ok, r1_toP_ok, endP_rt]
local macro_rules | `(tactic| walk_at "p") => `(tactic| try simp only [ZP.up_ap, ZP.kitx_bool_int, ZP.kitx_bool_bool, ZP.pIsi_ap, ZP.pRet_ap, ZP.rz_bind_ok, ZP.pNeg_ap, ZP.rz_at_ok, ZP.pNot_ap, ZP.r1_toP_ok, ZP.pC_ap, ZP.endP_rt, ZP.tyT_b, ZP.pChain_ap, ZP.isiT_ap, ZP.pAnd_ap, ZP.pV_ap, Int.reduceLT, Int.reduceLE, Int.reduceGT, Int.reduceGE, Int.reduceNeg, Int.reducePow, Int.reduceAdd, Int.reduceSub, Int.reduceMul, Int.reduceEq, Int.reduceToNat, Int.reduceMod, Int.reduceDiv, Nat.reduceLT, Nat.reduceLeDiff, Nat.reduceAdd, Nat.reduceSub, Nat.reduceEqDiff, Nat.reduceMul, Nat.reducePow, decide_true, decide_false, Bool.and_self, Bool.and_true, Bool.true_and, Bool.and_false, Bool.false_and, Bool.or_true, Bool.true_or, Bool.or_false, Bool.false_or, Bool.or_self, reduceCtorEq, sizeL, isSome_some, List.length_map, and_self, natAbs_10, natAbs_2, List.getElem?_cons_zero, List.getElem?_cons_succ, List.set_cons_zero, List.set_cons_succ, List.map_cons, List.map_nil, List.replicate, List.cons_append, List.nil_append, List.length_cons, List.length_nil, Bool.false_xor, Bool.true_xor, if_true, if_false, Bool.false_eq_true, Bool.not_true, Bool.not_false, Option.map_some, Option.map_none, Option.bind_some, Option.bind_none, List.append_nil, List.length_append, slen_one, Int.cast_ofNat_Int, eq_self])
theorem is_integer_b (b : Bool) : P_is_integer [.z (.bl b)] = .ok (.z (.bl false)) := by
  rw [P_is_integer_ap]
  unfold P_is_integer_b
  walk_at "p"
theorem is_integer_o {t : T} {c : Str} (h : tyT t = some (.inr c)) : P_is_integer [t] = .ok (.z (.bl false)) := by
  rw [P_is_integer_ap]
  unfold P_is_integer_b
  simp only [pRet_ap, up_ap, pAnd_ap, pIsi_ap, pV_ap, List.getElem?_cons_zero, rz_bind_ok, isiT_ap, h, rz_at_ok, r1_toP_ok, endP_rt, show isiTs.contains "int" = true by decide, if_true]
theorem is_integer {t : T} (h : tyT t ≠ none) : P_is_integer [t] = .ok (.z (.bl (isIntT t))) := by
  cases t with
  | z v =>
    cases v with
    | int i => exact is_integer_i i
    | bl b => exact is_integer_b b
    | non => exact is_integer_n rfl (by decide +kernel)
    | str _ => exact is_integer_n rfl (by decide +kernel)
    | tup _ => exact is_integer_n rfl (by decide +kernel)
    | frz _ => exact is_integer_n rfl (by decide +kernel)
    | lst _ => exact is_integer_n rfl (by decide +kernel)
    | dct k _ => cases k with | false => exact is_integer_n rfl (by decide +kernel) | true => exact absurd rfl h
    | ins _ _ => exact is_integer_o rfl
    | exn _ _ => exact absurd rfl h
  | lst _ => exact is_integer_n rfl (by decide +kernel)
  | nst _ => exact is_integer_n rfl (by decide +kernel)
  | dct _ _ => exact is_integer_n rfl (by decide +kernel)
  | ins _ _ => exact is_integer_o rfl
def okN (i : Int) : Bool := okI i && decide (0 ≤ i)
def isNumT : T → Bool
  | .z (.int i) => okN i
  | _ => false
local macro_rules | `(tactic| walk_at "p") => `(tactic| try simp only [ZP.up_ap, ZP.pCons_ap, ZP.pRet_ap, ZP.rz_bind_ok, ZP.rz_at_ok, ZP.r1_toP_ok, ZP.geT_ii, ZP.pC_ap, ZP.endP_rt, ZP.pCall_ap, ZP.pNil_ap, ZP.pBin_ap, ZP.pAnd_ap, ZP.pV_ap, Int.reduceLT, Int.reduceLE, Int.reduceGT, Int.reduceGE, Int.reduceNeg, Int.reducePow, Int.reduceAdd, Int.reduceSub, Int.reduceMul, Int.reduceEq, Int.reduceToNat, Int.reduceMod, Int.reduceDiv, Nat.reduceLT, Nat.reduceLeDiff, Nat.reduceAdd, Nat.reduceSub, Nat.reduceEqDiff, Nat.reduceMul, Nat.reducePow, decide_true, decide_false, Bool.and_self, Bool.and_true, Bool.true_and, Bool.and_false, Bool.false_and, Bool.or_true, Bool.true_or, Bool.or_false, Bool.false_or, Bool.or_self, reduceCtorEq, sizeL, isSome_some, List.length_map, and_self, natAbs_10, natAbs_2, List.getElem?_cons_zero, List.getElem?_cons_succ, List.set_cons_zero, List.set_cons_succ, List.map_cons, List.map_nil, List.replicate, List.cons_append, List.nil_append, List.length_cons, List.length_nil, Bool.false_xor, Bool.true_xor, if_true, if_false, Bool.false_eq_true, Bool.not_true, Bool.not_false, Option.map_some, Option.map_none, Option.bind_some, Option.bind_none, List.append_nil, List.length_append, slen_one, Int.cast_ofNat_Int, eq_self])
theorem is_number {t : T} (h : tyT t ≠ none) : P_is_number [t] = .ok (.z (.bl (isNumT t))) := by
  rw [P_is_number_ap]
  unfold P_is_number_b
  walk_at "p"
  rw [is_integer h]
  walk_at "p"
  cases t with
  | z v =>
    cases v with
    | int i =>
      simp only [isIntT, isNumT, okN]
      cases okI i <;> walk_at "p"
    | _ => simp only [isIntT, isNumT]; walk_at "p"
  | _ => simp only [isIntT, isNumT]; walk_at "p"
def Dr (M : Int) (ds : List Int) : Prop := ∀ d ∈ ds, 0 ≤ d ∧ d < M
theorem Dr.app {M : Int} {ds : List Int} (h : Dr M ds) {z : Int} (h0 : 0 ≤ z) (h1 : z < M) : Dr M (ds ++ [z]) := fun d hd => by
  rcases List.mem_append.mp hd with q | q
  · exact h d q
  · simp at q; subst q; exact ⟨h0, h1⟩
theorem Dr.get {M : Int} (hM : 0 < M) {ds : List Int} (h : Dr M ds) (k : Nat) : 0 ≤ ds.getD k 0 ∧ ds.getD k 0 < M := by
  by_cases c : k < ds.length
  · have : ds.getD k 0 = ds[k] := by simp [List.getD, c]
    rw [this]
    exact h _ (List.getElem_mem _)
  · have : ds.length ≤ k := by omega
    simp [List.getD, List.getElem?_eq_none this]; exact hM
local macro_rules | `(tactic| walk_at "p") => `(tactic| try simp only [ZP.mulT_l, ZP.pPV_ap, ZP.asZ_z, ZP.stp_bk, ZP.pFor_ap, ZP.pSeq_ap, ZP.pLst_ap, ZP.thenP_bk, ZP.up_ap, ZP.zsT_nil, ZP.getT_nil, ZP.modT_ii, Y.i62_60, ZP.pCons_ap, ZP.intcT_i, ZP.mulT_r, ZP.pRet_ap, ZP.pNop_ap, ZP.rz_z_ok, ZP.stp_nx, ZP.rz_bind_ok, ZP.tyBT_l, ZP.rz_at_ok, ZP.lenT_ap, ZP.r1_toP_ok, ZP.pIt_ap, ZP.asB_b, ZP.geT_ii, ZP.pAsg_ap, ZP.fdivT_ii, ZP.setT_nil, ZP.pC_ap, ZP.pBMM_ap, Y.i62_4, ZP.endP_rt, ZP.powT_ii, ZP.pMv_ap, ZP.pTB_ap, ZP.ownT_ap, ZP.addT_ii, ZP.pCall_ap, ZP.pRng1_ap, ZP.lenG_o, ZP.gtT_ii, ZP.pBrk_ap, ZP.pNil_ap, ZP.pBin_ap, ZP.pVx_ap, ZP.thenP_nx, ZP.atT_ap, ZP.pZ_ap, ZP.lstT_ap, ZP.itT_frz, ZP.updR_ap, ZP.small_ap, ZP.appT_ap, ZP.pExpr_ap, ZP.pV_ap, ZP.pIf_ap, Int.reduceLT, Int.reduceLE, Int.reduceGT, Int.reduceGE, Int.reduceNeg, Int.reducePow, Int.reduceAdd, Int.reduceSub, Int.reduceMul, Int.reduceEq, Int.reduceToNat, Int.reduceMod, Int.reduceDiv, Nat.reduceLT, Nat.reduceLeDiff, Nat.reduceAdd, Nat.reduceSub, Nat.reduceEqDiff, Nat.reduceMul, Nat.reducePow, decide_true, decide_false, Bool.and_self, Bool.and_true, Bool.true_and, Bool.and_false, Bool.false_and, Bool.or_true, Bool.true_or, Bool.or_false, Bool.false_or, Bool.or_self, reduceCtorEq, sizeL, isSome_some, List.length_map, and_self, natAbs_10, natAbs_2, List.getElem?_cons_zero, List.getElem?_cons_succ, List.set_cons_zero, List.set_cons_succ, List.map_cons, List.map_nil, List.replicate, List.cons_append, List.nil_append, List.length_cons, List.length_nil, Bool.false_xor, Bool.true_xor, if_true, if_false, Bool.false_eq_true, Bool.not_true, Bool.not_false, Option.map_some, Option.map_none, Option.bind_some, Option.bind_none, List.append_nil, List.length_append, slen_one, Int.cast_ofNat_Int, eq_self])
theorem law_stream {ms : List Int} {many : Int} (hl : ms.length ≤ 63) : ∃ ds, P_law_stream [.z (.frz (ms.map Zv.int)), .z (.int many)] = .ok (.lst (ds.map Zv.int)) ∧ Dr 5040 ds := by
  rw [P_law_stream_ap]
  unfold P_law_stream_b
  walk_at "p"
  refine pLoop_ind (Q := fun r => ∃ ds, endP (thenP r _) = .ok (.lst (ds.map Zv.int)) ∧ Dr 5040 ds)
    (fun i ps => ∃ ds v3 v4 v5 v6, ps = [some (.ext (.z (.frz (ms.map Zv.int)))), some (.ext (.z (.int many))), some (.own (.lst (ds.map Zv.int))), v3, v4, v5, v6] ∧ ds.length ≤ 60 * i ∧ Dr 5040 ds) _ ?_ ?_ ?_
  · exact ⟨[], _, _, _, _, rfl, by simp, fun d hd => by cases hd⟩
  · rintro i v ps hv ⟨ds, v3, v4, v5, v6, rfl, hlen, hD⟩
    obtain ⟨z, rfl, hz⟩ := mapI_get hv
    have hi : i < ms.length := (List.getElem?_eq_some_iff.mp hz).1
    refine ⟨_, rfl, ?_⟩
    walk_at "p"
    by_cases c1 : many ≤ (ds.length : Int)
    · simp only [decide_eq_true c1]
      walk_at "p"
      exact ⟨ds, rfl, hD⟩
    · simp only [decide_eq_false c1]
      walk_at "p"
      by_cases c2 : (1000000000000000000 : Int) ≤ z
      · simp only [decide_eq_true c2]
        walk_at "p"
        refine pLoop_ind (Q := stp _ _) (fun j ps => ∃ ds r v5 v6, ps = [some (.ext (.z (.frz (ms.map Zv.int)))), some (.ext (.z (.int many))), some (.own (.lst (ds.map Zv.int))), some (.own (.z (.int z))), some (.own (.z (.int r))), v5, v6] ∧ ds.length ≤ 60 * i + j ∧ Dr 5040 ds) _ ?_ ?_ ?_
        · exact ⟨ds, z, _, _, rfl, hlen, hD⟩
        · rintro j w ps hw ⟨ds, r, v5, v6, rfl, hlen, hD⟩
          obtain ⟨rfl, hj⟩ := rngZ_get hw
          have hj : j < 60 := hj
          refine ⟨_, rfl, ?_⟩
          walk_at "p"
          by_cases c3 : 0 < r
          · simp only [decide_eq_true c3]
            walk_at "p"
            rw [if_pos (by omega)]
            walk_at "p"
            exact ⟨ds ++ [r % 5040], _, _, _, by rw [map_app1], by rw [List.length_append]; simp only [List.length_singleton]; omega, hD.app (Int.emod_nonneg _ (by omega)) (Int.emod_lt_of_pos _ (by omega))⟩
          · simp only [decide_eq_false c3]
            walk_at "p"
            exact ⟨ds, _, _, _, rfl, by omega, hD⟩
        · rintro ps ⟨ds, r, v5, v6, rfl, hlen, hD⟩
          rw [rngZ_len] at hlen
          exact ⟨ds, _, _, _, _, rfl, by omega, hD⟩
      · simp only [decide_eq_false c2]
        walk_at "p"
        generalize (z * 48271 + (ds.length : Int) * 69621 + 11) % 2147483647 = r0
        refine pLoop_ind (Q := stp _ _) (fun j ps => ∃ ds r v4 v5, ps = [some (.ext (.z (.frz (ms.map Zv.int)))), some (.ext (.z (.int many))), some (.own (.lst (ds.map Zv.int))), some (.own (.z (.int z))), v4, v5, some (.own (.z (.int r)))] ∧ ds.length ≤ 60 * i + j ∧ Dr 5040 ds) _ ?_ ?_ ?_
        · exact ⟨ds, r0, _, _, rfl, hlen, hD⟩
        · rintro j w ps hw ⟨ds, r, v4, v5, rfl, hlen, hD⟩
          obtain ⟨rfl, hj⟩ := rngZ_get hw
          have hj : j < 4 := hj
          refine ⟨_, rfl, ?_⟩
          walk_at "p"
          rw [if_pos (by omega)]
          walk_at "p"
          exact ⟨ds ++ [_], _, _, _, by rw [map_app1], by rw [List.length_append]; simp only [List.length_singleton]; omega, hD.app (Int.emod_nonneg _ (by omega)) (Int.emod_lt_of_pos _ (by omega))⟩
        · rintro ps ⟨ds, r, v4, v5, rfl, hlen, hD⟩
          rw [rngZ_len] at hlen
          exact ⟨ds, _, _, _, _, rfl, by omega, hD⟩
  · rintro ps ⟨ds, v3, v4, v5, v6, rfl, hlen, hD⟩
    walk_at "p"
    exact ⟨ds, rfl, hD⟩
def onlyIn (cs s : Str) : Bool := s.cps.toList.all fun c => decide (c ∈ cs.cps.toList)
def okTy (v : Zv) : Prop := tyT (.z v) ≠ none
def lenOk : Zv → Prop
  | .str s => s.length ≤ 16777216
  | .tup xs => xs.length ≤ 16777216
  | _ => True
def okIt : Zv → Prop
  | .tup xs => ∀ x ∈ xs, okTy x ∧ lenOk x
  | _ => True
local macro_rules | `(tactic| walk_at "p") => `(tactic| try simp only [ZP.stp_rt, ZP.thenP_rt, ZP.pFor_ap, ZP.pSeq_ap, ZP.up_ap, ZP.pRet_ap, ZP.pNop_ap, ZP.stp_nx, ZP.rz_bind_ok, ZP.rz_at_ok, ZP.itT_str, ZP.inT_c, ZP.r1_toP_ok, ZP.pIt_ap, ZP.asB_b, ZP.pC_ap, ZP.endP_rt, ZP.pTB_ap, ZP.pBin_ap, ZP.pVx_ap, ZP.thenP_nx, ZP.pV_ap, ZP.pIf_ap, Int.reduceLT, Int.reduceLE, Int.reduceGT, Int.reduceGE, Int.reduceNeg, Int.reducePow, Int.reduceAdd, Int.reduceSub, Int.reduceMul, Int.reduceEq, Int.reduceToNat, Int.reduceMod, Int.reduceDiv, Nat.reduceLT, Nat.reduceLeDiff, Nat.reduceAdd, Nat.reduceSub, Nat.reduceEqDiff, Nat.reduceMul, Nat.reducePow, decide_true, decide_false, Bool.and_self, Bool.and_true, Bool.true_and, Bool.and_false, Bool.false_and, Bool.or_true, Bool.true_or, Bool.or_false, Bool.false_or, Bool.or_self, reduceCtorEq, sizeL, isSome_some, List.length_map, and_self, natAbs_10, natAbs_2, List.getElem?_cons_zero, List.getElem?_cons_succ, List.set_cons_zero, List.set_cons_succ, List.map_cons, List.map_nil, List.replicate, List.cons_append, List.nil_append, List.length_cons, List.length_nil, Bool.false_xor, Bool.true_xor, if_true, if_false, Bool.false_eq_true, Bool.not_true, Bool.not_false, Option.map_some, Option.map_none, Option.bind_some, Option.bind_none, List.append_nil, List.length_append, slen_one, Int.cast_ofNat_Int, eq_self])
theorem has_only {s cs : Str} : P_has_only [.z (.str s), .z (.str cs)] = .ok (.z (.bl (onlyIn cs s))) := by
  rw [P_has_only_ap]
  unfold P_has_only_b onlyIn
  walk_at "p"
  generalize s.cps.toList = l
  refine pLoop_map (Q := fun r => endP (thenP r _) = _) (fun c : Nat => Zv.str ⟨#[c]⟩) (fun pre ps => ∃ v2, ps = [some (.ext (.z (.str s))), some (.ext (.z (.str cs))), v2] ∧ pre.all (fun c => decide (c ∈ cs.cps.toList)) = true) l ⟨_, rfl, rfl⟩ ?_ ?_
  · rintro pre x post ps e ⟨v2, rfl, ha⟩
    refine ⟨_, rfl, ?_⟩
    walk_at "p"
    by_cases c : x ∈ cs.cps.toList
    · simp only [decide_eq_true c]
      walk_at "p"
      exact ⟨_, rfl, by rw [List.all_append, ha, List.all_cons, decide_eq_true c]; rfl⟩
    · simp only [decide_eq_false c]
      walk_at "p"
      rw [e, List.all_append, List.all_cons, ha, decide_eq_false c]
      rfl
  · rintro ps ⟨v2, rfl, ha⟩
    rw [ha]
    walk_at "p"
def chars95 : Str := " !\"#$&'()*+,-./0123456789:;<=>?@ABCDEFGHIJKLMNOPQRSTUVWXYZ[\\]^_`abcdefghijklmnopqrstuvwxyz{|}~"
def isTextZ : Zv → Bool
  | .str s => decide ((s.length : Int) ≤ 60) && onlyIn chars95 s
  | _ => false
theorem isTextZ_s {s : Str} : isTextZ (.str s) = (decide ((s.length : Int) ≤ 60) && onlyIn chars95 s) := rfl
local macro_rules | `(tactic| walk_at "p") => `(tactic| try simp only [ZP.up_ap, ZP.kitx_bool_str, ZP.pCons_ap, ZP.pIsi_ap, ZP.pRet_ap, ZP.leT_ii, ZP.rz_z_ok, ZP.kitx_list_str, ZP.rz_bind_ok, ZP.tyT_f, ZP.rz_at_ok, ZP.tyT_zins, ZP.lenT_ap, ZP.r1_toP_ok, ZP.lenG_l, ZP.tyT_n, ZP.lenG_s, ZP.kitx_str_str, ZP.pC_ap, ZP.tyT_t, ZP.endP_rt, ZP.lenG_t, ZP.tyT_i, ZP.tyT_s, ZP.pCall_ap, ZP.pNil_ap, ZP.pBin_ap, ZP.kitx_int_str, ZP.tyT_zd, ZP.tyT_b, ZP.kitx_NoneType_str, ZP.kitx_dict_str, ZP.kitx_tuple_str, ZP.isiT_ap, ZP.pAnd_ap, ZP.lenG_f, ZP.tyT_l, ZP.pV_ap, Int.reduceLT, Int.reduceLE, Int.reduceGT, Int.reduceGE, Int.reduceNeg, Int.reducePow, Int.reduceAdd, Int.reduceSub, Int.reduceMul, Int.reduceEq, Int.reduceToNat, Int.reduceMod, Int.reduceDiv, Nat.reduceLT, Nat.reduceLeDiff, Nat.reduceAdd, Nat.reduceSub, Nat.reduceEqDiff, Nat.reduceMul, Nat.reducePow, decide_true, decide_false, Bool.and_self, Bool.and_true, Bool.true_and, Bool.and_false, Bool.false_and, Bool.or_true, Bool.true_or, Bool.or_false, Bool.false_or, Bool.or_self, reduceCtorEq, sizeL, isSome_some, List.length_map, and_self, natAbs_10, natAbs_2, List.getElem?_cons_zero, List.getElem?_cons_succ, List.set_cons_zero, List.set_cons_succ, List.map_cons, List.map_nil, List.replicate, List.cons_append, List.nil_append, List.length_cons, List.length_nil, Bool.false_xor, Bool.true_xor, if_true, if_false, Bool.false_eq_true, Bool.not_true, Bool.not_false, Option.map_some, Option.map_none, Option.bind_some, Option.bind_none, List.append_nil, List.length_append, slen_one, Int.cast_ofNat_Int, eq_self])
theorem is_text {v : Zv} (h : okTy v) (l : lenOk v) : P_is_text [.z v] = .ok (.z (.bl (isTextZ v))) := by
  rw [P_is_text_ap]
  unfold P_is_text_b
  cases v with
  | str s =>
    have l : s.length ≤ 16777216 := l
    walk_at "p"
    rw [if_pos l, isTextZ_s]
    walk_at "p"
    cases decide ((s.length : Int) ≤ 60)
    · walk_at "p"
    · walk_at "p"
      rw [has_only]
      walk_at "p"
      rfl
  | exn _ _ => exact absurd rfl h
  | dct k _ => cases k with | false => (walk_at "p"; rfl) | true => exact absurd rfl h
  | _ => walk_at "p"; rfl
def isKeyZ : Zv → Bool
  | .str s => isTextZ (.str s) && (decide ((1 : Int) ≤ s.length) && decide ((s.length : Int) ≤ 20))
  | _ => false
theorem isKeyZ_s {s : Str} : isKeyZ (.str s) = (isTextZ (.str s) && (decide ((1 : Int) ≤ s.length) && decide ((s.length : Int) ≤ 20))) := rfl
local macro_rules | `(tactic| walk_at "p") => `(tactic| try simp only [ZP.up_ap, ZP.pCons_ap, ZP.pRet_ap, ZP.leT_ii, ZP.rz_z_ok, ZP.rz_bind_ok, ZP.rz_at_ok, ZP.lenT_ap, ZP.r1_toP_ok, ZP.lenG_l, ZP.lenG_s, ZP.pC_ap, ZP.endP_rt, ZP.lenG_t, ZP.pCall_ap, ZP.pNil_ap, ZP.pChain_ap, ZP.pAnd_ap, ZP.lenG_f, ZP.pV_ap, Int.reduceLT, Int.reduceLE, Int.reduceGT, Int.reduceGE, Int.reduceNeg, Int.reducePow, Int.reduceAdd, Int.reduceSub, Int.reduceMul, Int.reduceEq, Int.reduceToNat, Int.reduceMod, Int.reduceDiv, Nat.reduceLT, Nat.reduceLeDiff, Nat.reduceAdd, Nat.reduceSub, Nat.reduceEqDiff, Nat.reduceMul, Nat.reducePow, decide_true, decide_false, Bool.and_self, Bool.and_true, Bool.true_and, Bool.and_false, Bool.false_and, Bool.or_true, Bool.true_or, Bool.or_false, Bool.false_or, Bool.or_self, reduceCtorEq, sizeL, isSome_some, List.length_map, and_self, natAbs_10, natAbs_2, List.getElem?_cons_zero, List.getElem?_cons_succ, List.set_cons_zero, List.set_cons_succ, List.map_cons, List.map_nil, List.replicate, List.cons_append, List.nil_append, List.length_cons, List.length_nil, Bool.false_xor, Bool.true_xor, if_true, if_false, Bool.false_eq_true, Bool.not_true, Bool.not_false, Option.map_some, Option.map_none, Option.bind_some, Option.bind_none, List.append_nil, List.length_append, slen_one, Int.cast_ofNat_Int, eq_self])
theorem is_key {v : Zv} (h : okTy v) (l : lenOk v) : P_is_key [.z v] = .ok (.z (.bl (isKeyZ v))) := by
  rw [P_is_key_ap]
  unfold P_is_key_b
  walk_at "p"
  rw [is_text h l]
  cases v with
  | str s =>
    have l : s.length ≤ 16777216 := l
    rw [isKeyZ_s]
    cases isTextZ (.str s)
    · walk_at "p"
    · walk_at "p"
      rw [if_pos l]
      walk_at "p"
      cases decide ((1 : Int) ≤ s.length) <;> walk_at "p"
  | exn _ _ => exact absurd rfl h
  | dct k _ => cases k with | false => (rw [show isTextZ (.dct false _) = false from rfl]; walk_at "p"; rfl) | true => exact absurd rfl h
  | non => rw [show isTextZ .non = false from rfl]; walk_at "p"; rfl
  | bl _ => rw [show isTextZ (.bl _) = false from rfl]; walk_at "p"; rfl
  | int _ => rw [show isTextZ (.int _) = false from rfl]; walk_at "p"; rfl
  | tup _ => rw [show isTextZ (.tup _) = false from rfl]; walk_at "p"; rfl
  | frz _ => rw [show isTextZ (.frz _) = false from rfl]; walk_at "p"; rfl
  | lst _ => rw [show isTextZ (.lst _) = false from rfl]; walk_at "p"; rfl
  | ins _ _ => rw [show isTextZ (.ins _ _) = false from rfl]; walk_at "p"; rfl
def gt0 : Zv → Bool
  | .int n => decide (0 < n)
  | _ => false
def isTup : Zv → Bool
  | .tup _ => true
  | _ => false
def partB (k : Str) (v : Zv) : Bool := if k = "view" then isNumT (.z v) else if k = "ticket" then isNumT (.z v) && gt0 v else if k = "key" then isKeyZ v else isTup v
local macro_rules | `(tactic| walk_at "p") => `(tactic| try simp only [ZP.thenP_rt, ZP.kitx_int_tuple, ZP.pSeq_ap, ZP.up_ap, ZP.pCons_ap, ZP.pIsi_ap, ZP.pRet_ap, ZP.pNop_ap, ZP.rz_z_ok, ZP.rz_bind_ok, ZP.tyT_f, ZP.rz_at_ok, ZP.tyT_zins, ZP.kitx_dict_tuple, ZP.kitx_list_tuple, ZP.r1_toP_ok, ZP.asB_b, ZP.tyT_n, ZP.pC_ap, ZP.tyT_t, ZP.kitx_str_tuple, ZP.endP_rt, ZP.kitx_bool_tuple, ZP.kitx_NoneType_tuple, ZP.kitx_tuple_tuple, ZP.val_z, ZP.pTB_ap, ZP.tyT_i, ZP.eqT_ap, ZP.tyT_s, ZP.pCall_ap, ZP.eqZ_ss, ZP.gtT_ii, ZP.pNil_ap, ZP.pBin_ap, ZP.tyT_zd, ZP.thenP_nx, ZP.tyT_b, ZP.isiT_ap, ZP.pAnd_ap, ZP.tyT_l, ZP.pV_ap, ZP.pIf_ap, Int.reduceLT, Int.reduceLE, Int.reduceGT, Int.reduceGE, Int.reduceNeg, Int.reducePow, Int.reduceAdd, Int.reduceSub, Int.reduceMul, Int.reduceEq, Int.reduceToNat, Int.reduceMod, Int.reduceDiv, Nat.reduceLT, Nat.reduceLeDiff, Nat.reduceAdd, Nat.reduceSub, Nat.reduceEqDiff, Nat.reduceMul, Nat.reducePow, decide_true, decide_false, Bool.and_self, Bool.and_true, Bool.true_and, Bool.and_false, Bool.false_and, Bool.or_true, Bool.true_or, Bool.or_false, Bool.false_or, Bool.or_self, reduceCtorEq, sizeL, isSome_some, List.length_map, and_self, natAbs_10, natAbs_2, List.getElem?_cons_zero, List.getElem?_cons_succ, List.set_cons_zero, List.set_cons_succ, List.map_cons, List.map_nil, List.replicate, List.cons_append, List.nil_append, List.length_cons, List.length_nil, Bool.false_xor, Bool.true_xor, if_true, if_false, Bool.false_eq_true, Bool.not_true, Bool.not_false, Option.map_some, Option.map_none, Option.bind_some, Option.bind_none, List.append_nil, List.length_append, slen_one, Int.cast_ofNat_Int, eq_self])
theorem is_part {k : Str} {v : Zv} (h : okTy v) (l : lenOk v) : P_is_part [.z (.str k), .z v] = .ok (.z (.bl (partB k v))) := by
  rw [P_is_part_ap]
  unfold P_is_part_b partB
  walk_at "p"
  by_cases c1 : k = "view"
  · simp only [decide_eq_true c1, if_pos c1]
    walk_at "p"
    rw [is_number (t := .z v) h]
    walk_at "p"
  · simp only [decide_eq_false c1, if_neg c1]
    walk_at "p"
    by_cases c2 : k = "ticket"
    · simp only [decide_eq_true c2, if_pos c2]
      walk_at "p"
      rw [is_number (t := .z v) h]
      walk_at "p"
      cases v with
      | int n =>
        rw [show isNumT (.z (.int n)) = okN n from rfl]
        cases okN n <;> walk_at "p" <;> rfl
      | _ => rfl
    · simp only [decide_eq_false c2, if_neg c2]
      walk_at "p"
      by_cases c3 : k = "key"
      · simp only [decide_eq_true c3, if_pos c3]
        walk_at "p"
        rw [is_key h l]
        walk_at "p"
      · simp only [decide_eq_false c3, if_neg c3]
        walk_at "p"
        cases v with
        | exn _ _ => exact absurd rfl h
        | dct k _ => cases k with | false => (walk_at "p"; rfl) | true => exact absurd rfl h
        | _ => walk_at "p"; rfl
def partsB : List Str → List Zv → Bool
  | k :: ks, x :: xs => partB k x && partsB ks xs
  | _, _ => true
theorem parts_t : ∀ {ks : List Str} {xs : List Zv}, (∀ x ∈ xs, okTy x ∧ lenOk x) → partsT ks xs = .ok (partsB ks xs)
  | [], [], _ => rfl
  | [], _ :: _, _ => rfl
  | _ :: _, [], _ => rfl
  | k :: ks, x :: xs, h => by
    unfold partsT partsB
    rw [is_part (h x (by simp)).1 (h x (by simp)).2]
    show (if partB k x then partsT ks xs else .ok false) = _
    rw [parts_t fun y hy => h y (by simp [hy])]
    cases partB k x <;> rfl
def bodyRowB (s r : Str) (xs : List Zv) : Option (Str × Str × List Str) → Bool
  | none => false
  | some f => decide (s = f.1) && (decide (r = f.2.1) && (decide (xs.length = f.2.2.length) && partsB f.2.2 xs))
def bodyB (s r : Str) : Zv → Bool
  | .tup (.str x :: xs) => bodyRowB s r xs (formIn x FORMR)
  | _ => false
theorem forms_ok {x : Str} : ∀ {rows : List (Str × Str × Str × List Str)} {f}, (rows.all fun r => PyData.strOk r.2.1 && PyData.strOk r.2.2.1) = true → formIn x rows = some f → (PyData.strOk f.1 && PyData.strOk f.2.1) = true
  | [], _, _, e => by cases e
  | r :: rs, f, h, e => by
    rw [List.all_cons, Bool.and_eq_true] at h
    unfold formIn at e
    split at e
    · cases e; exact h.1
    · exact forms_ok h.2 e
theorem is_body {s r : Str} {v : Zv} (hs : PyData.strOk s = true) (hr : PyData.strOk r = true) (h : okTy v) (hi : okIt v) : P_is_body [.z (.str s), .z (.str r), .z v] = .ok (.z (.bl (bodyB s r v))) := by
  show bodyT s r v = _
  have nb : ∀ v : Zv, okTy v → noBody v = .ok (.z (.bl false)) := fun v h => by
    unfold noBody
    cases e : tyT (.z v) with
    | none => exact absurd e h
    | some k => rfl
  cases v with
  | tup xs =>
    have hi : ∀ x ∈ xs, okTy x ∧ lenOk x := hi
    cases xs with
    | nil => rfl
    | cons x xs =>
      cases x with
      | str z =>
        show bodyRow s r xs (formIn z FORMR) = .ok (.z (.bl (bodyRowB s r xs (formIn z FORMR))))
        cases e : formIn z FORMR with
        | none => rfl
        | some f =>
          have fo := forms_ok (by decide +kernel) e
          unfold bodyRow bodyRowB
          dsimp only
          rw [hs, hr, Bool.and_assoc (true && true), fo]
          simp only [Bool.and_self, Bool.not_true, Bool.false_eq_true, if_false]
          rw [parts_t fun y hy => hi y (by simp [hy])]
          cases decide (s = f.1) <;> cases decide (r = f.2.1) <;> cases decide (xs.length = f.2.2.length) <;> rfl
      | non => exact nb _ (hi _ (List.mem_cons_self ..)).1
      | bl _ => exact nb _ (hi _ (List.mem_cons_self ..)).1
      | int _ => exact nb _ (hi _ (List.mem_cons_self ..)).1
      | tup _ => exact nb _ (hi _ (List.mem_cons_self ..)).1
      | frz _ => exact nb _ (hi _ (List.mem_cons_self ..)).1
      | lst _ => exact nb _ (hi _ (List.mem_cons_self ..)).1
      | dct _ _ => exact nb _ (hi _ (List.mem_cons_self ..)).1
      | ins _ _ => exact nb _ (hi _ (List.mem_cons_self ..)).1
      | exn _ _ => exact nb _ (hi _ (List.mem_cons_self ..)).1
  | non => exact nb _ h
  | bl _ => exact nb _ h
  | int _ => exact nb _ h
  | str _ => exact nb _ h
  | frz _ => exact nb _ h
  | lst _ => exact nb _ h
  | dct _ _ => exact nb _ h
  | ins _ _ => exact nb _ h
  | exn _ _ => exact nb _ h
def endB : Zv → Bool
  | .tup [.str a, n] => isNumT (.z n) && decide (a ∈ ([("client" : Str), "house"]))
  | _ => false
local macro_rules | `(tactic| walk_at "p") => `(tactic| try simp only [ZP.thenP_rt, ZP.kitx_int_tuple, ZP.pSeq_ap, ZP.up_ap, ZP.kitx_bool_str, ZP.zsT_nil, ZP.pTru_ap, ZP.pTup_ap, ZP.atI_k0, ZP.rz_map_ok, ZP.pCons_ap, ZP.pIsi_ap, ZP.pRet_ap, ZP.pNop_ap, ZP.rz_z_ok, ZP.kitx_list_str, ZP.rz_bind_ok, ZP.eqZ_ii, ZP.tyT_f, ZP.rz_at_ok, ZP.tyT_zins, ZP.kitx_dict_tuple, ZP.tupT_ap, ZP.lenT_ap, ZP.kitx_list_tuple, ZP.r1_toP_ok, ZP.asB_b, ZP.lenG_l, ZP.ixT_s, ZP.pTNot_ap, ZP.tyT_n, ZP.lenG_s, ZP.kitx_str_str, ZP.pC_ap, ZP.tyT_t, ZP.kitx_str_tuple, ZP.endP_rt, ZP.kitx_bool_tuple, ZP.inT_s2, ZP.truT_b, ZP.kitx_NoneType_tuple, ZP.lenG_t, ZP.kitx_tuple_tuple, ZP.val_z, ZP.pTB_ap, ZP.tyT_i, ZP.eqT_ap, ZP.tyT_s, ZP.pCall_ap, ZP.atI_k1, ZP.pNil_ap, ZP.ixT_l, ZP.pBin_ap, ZP.kitx_int_str, ZP.ixT_t, ZP.tyT_zd, ZP.pTOr_ap, ZP.thenP_nx, ZP.tyT_b, ZP.kitx_NoneType_str, ZP.ixT_f, ZP.kitx_dict_str, ZP.kitx_tuple_str, ZP.isiT_ap, ZP.pAnd_ap, ZP.lenG_f, ZP.tyT_l, ZP.zsT_cons, ZP.pV_ap, ZP.pIf_ap, Int.reduceLT, Int.reduceLE, Int.reduceGT, Int.reduceGE, Int.reduceNeg, Int.reducePow, Int.reduceAdd, Int.reduceSub, Int.reduceMul, Int.reduceEq, Int.reduceToNat, Int.reduceMod, Int.reduceDiv, Nat.reduceLT, Nat.reduceLeDiff, Nat.reduceAdd, Nat.reduceSub, Nat.reduceEqDiff, Nat.reduceMul, Nat.reducePow, decide_true, decide_false, Bool.and_self, Bool.and_true, Bool.true_and, Bool.and_false, Bool.false_and, Bool.or_true, Bool.true_or, Bool.or_false, Bool.false_or, Bool.or_self, reduceCtorEq, sizeL, isSome_some, List.length_map, and_self, natAbs_10, natAbs_2, List.getElem?_cons_zero, List.getElem?_cons_succ, List.set_cons_zero, List.set_cons_succ, List.map_cons, List.map_nil, List.replicate, List.cons_append, List.nil_append, List.length_cons, List.length_nil, Bool.false_xor, Bool.true_xor, if_true, if_false, Bool.false_eq_true, Bool.not_true, Bool.not_false, Option.map_some, Option.map_none, Option.bind_some, Option.bind_none, List.append_nil, List.length_append, slen_one, Int.cast_ofNat_Int, eq_self])
theorem is_end {v : Zv} (h : okTy v) (hi : okIt v) : P_is_end [.z v] = .ok (.z (.bl (endB v))) := by
  rw [P_is_end_ap]
  unfold P_is_end_b
  cases v with
  | tup xs =>
    have hi : ∀ x ∈ xs, okTy x ∧ lenOk x := hi
    walk_at "p"
    match xs, hi with
    | [], _ => walk_at "p"; rfl
    | [a], _ => walk_at "p"; cases a <;> rfl
    | [a, b], hi =>
      walk_at "p"
      rw [is_number (t := .z b) (hi b (by simp)).1]
      walk_at "p"
      have ha := (hi a (by simp)).1
      cases hb : isNumT (.z b)
      · walk_at "p"
        cases a <;> simp [endB, hb]
      · walk_at "p"
        cases a with
        | str a =>
          walk_at "p"
          simp only [endB, hb, Bool.true_and]
        | exn _ _ => exact absurd rfl ha
        | dct k _ => cases k with | false => (walk_at "p"; rfl) | true => exact absurd rfl ha
        | _ => walk_at "p"; rfl
    | a :: b :: c :: r, _ =>
      walk_at "p"
      have n : ¬ (((r.length + 1 + 1 + 1 : Nat)) : Int) = 2 := by omega
      simp only [decide_eq_false n]
      walk_at "p"
      cases a <;> rfl
  | exn _ _ => exact absurd rfl h
  | dct k _ => cases k with | false => (walk_at "p"; rfl) | true => exact absurd rfl h
  | _ => walk_at "p"; rfl
theorem endB_inv {v : Zv} (h : endB v = true) : ∃ a n, v = .tup [.str a, n] ∧ PyData.strOk a = true := by
  cases v with
  | tup xs =>
    match xs, h with
    | [.str a, n], h =>
      refine ⟨a, n, rfl, ?_⟩
      have h : (isNumT (.z n) && decide (a ∈ ([("client" : Str), "house"]))) = true := h
      rw [Bool.and_eq_true] at h
      have h2 := of_decide_eq_true h.2
      rcases List.mem_cons.mp h2 with rfl | h2
      · decide +kernel
      · rcases List.mem_cons.mp h2 with rfl | h2
        · decide +kernel
        · cases h2
  | _ => cases h
def headS : Zv → Str
  | .tup (.str a :: _) => a
  | _ => ""
def msgB : Zv → Bool
  | .tup [a, b, c] => endB a && (endB b && bodyB (headS a) (headS b) c)
  | _ => false
def okMs : Zv → Prop
  | .tup xs => ∀ x ∈ xs, okTy x ∧ okIt x
  | _ => True
local macro_rules | `(tactic| walk_at "p") => `(tactic| try simp only [ZP.thenP_rt, ZP.kitx_int_tuple, ZP.atI_k2, ZP.pSeq_ap, ZP.up_ap, ZP.pTru_ap, ZP.atI_k0, ZP.rz_map_ok, ZP.pCons_ap, ZP.pIsi_ap, ZP.pRet_ap, ZP.pNop_ap, ZP.rz_z_ok, ZP.rz_bind_ok, ZP.eqZ_ii, ZP.tyT_f, ZP.rz_at_ok, ZP.tyT_zins, ZP.kitx_dict_tuple, ZP.lenT_ap, ZP.kitx_list_tuple, ZP.r1_toP_ok, ZP.asB_b, ZP.lenG_l, ZP.ixT_s, ZP.pTNot_ap, ZP.tyT_n, ZP.lenG_s, ZP.pC_ap, ZP.tyT_t, ZP.kitx_str_tuple, ZP.endP_rt, ZP.kitx_bool_tuple, ZP.truT_b, ZP.kitx_NoneType_tuple, ZP.lenG_t, ZP.kitx_tuple_tuple, ZP.val_z, ZP.pTB_ap, ZP.tyT_i, ZP.eqT_ap, ZP.tyT_s, ZP.pCall_ap, ZP.atI_k1, ZP.pNil_ap, ZP.ixT_l, ZP.pBin_ap, ZP.ixT_t, ZP.tyT_zd, ZP.pTOr_ap, ZP.thenP_nx, ZP.tyT_b, ZP.ixT_f, ZP.isiT_ap, ZP.lenG_f, ZP.tyT_l, ZP.pV_ap, ZP.pIf_ap, Int.reduceLT, Int.reduceLE, Int.reduceGT, Int.reduceGE, Int.reduceNeg, Int.reducePow, Int.reduceAdd, Int.reduceSub, Int.reduceMul, Int.reduceEq, Int.reduceToNat, Int.reduceMod, Int.reduceDiv, Nat.reduceLT, Nat.reduceLeDiff, Nat.reduceAdd, Nat.reduceSub, Nat.reduceEqDiff, Nat.reduceMul, Nat.reducePow, decide_true, decide_false, Bool.and_self, Bool.and_true, Bool.true_and, Bool.and_false, Bool.false_and, Bool.or_true, Bool.true_or, Bool.or_false, Bool.false_or, Bool.or_self, reduceCtorEq, sizeL, isSome_some, List.length_map, and_self, natAbs_10, natAbs_2, List.getElem?_cons_zero, List.getElem?_cons_succ, List.set_cons_zero, List.set_cons_succ, List.map_cons, List.map_nil, List.replicate, List.cons_append, List.nil_append, List.length_cons, List.length_nil, Bool.false_xor, Bool.true_xor, if_true, if_false, Bool.false_eq_true, Bool.not_true, Bool.not_false, Option.map_some, Option.map_none, Option.bind_some, Option.bind_none, List.append_nil, List.length_append, slen_one, Int.cast_ofNat_Int, eq_self])
theorem is_message {v : Zv} (h : okTy v) (hi : okMs v) : P_is_message [.z v] = .ok (.z (.bl (msgB v))) := by
  rw [P_is_message_ap]
  unfold P_is_message_b
  cases v with
  | tup xs =>
    have hi : ∀ x ∈ xs, okTy x ∧ okIt x := hi
    walk_at "p"
    match xs, hi with
    | [], _ => walk_at "p"; rfl
    | [a], _ => walk_at "p"; rfl
    | [a, b], _ => walk_at "p"; rfl
    | [a, b, c], hi =>
      walk_at "p"
      rw [is_end (hi a (by simp)).1 (hi a (by simp)).2]
      walk_at "p"
      have e : msgB (.tup [a, b, c]) = (endB a && (endB b && bodyB (headS a) (headS b) c)) := rfl
      rw [e]
      cases ha : endB a
      · walk_at "p"
      · walk_at "p"
        rw [is_end (hi b (by simp)).1 (hi b (by simp)).2]
        walk_at "p"
        cases hb : endB b
        · walk_at "p"
        · walk_at "p"
          obtain ⟨sa, na, rfl, oa⟩ := endB_inv ha
          obtain ⟨sb, nb, rfl, ob⟩ := endB_inv hb
          walk_at "p"
          rw [is_body oa ob (hi c (by simp)).1 (hi c (by simp)).2]
          walk_at "p"
          rfl
    | a :: b :: c :: d :: r, _ =>
      walk_at "p"
      have n : ¬ (((r.length + 1 + 1 + 1 + 1 : Nat)) : Int) = 3 := by omega
      simp only [decide_eq_false n]
      walk_at "p"
      rfl
  | exn _ _ => exact absurd rfl h
  | dct k _ => cases k with | false => (walk_at "p"; rfl) | true => exact absurd rfl h
  | _ => walk_at "p"; rfl
def LfV (v : Zv) : Prop := (∃ i, v = .int i) ∨ (∃ s, v = .str s ∧ PyData.strOk s = true) ∨ v = .non
def TmV : Nat → Zv → Prop
  | 0, v => LfV v
  | k + 1, v => LfV v ∨ ∃ xs, v = .tup xs ∧ xs.length ≤ 1000000 ∧ ∀ x ∈ xs, TmV k x
theorem TmV.cs {k : Nat} {v : Zv} (h : TmV k v) : LfV v ∨ ∃ xs, v = .tup xs ∧ xs.length ≤ 1000000 ∧ ∃ j, k = j + 1 ∧ ∀ x ∈ xs, TmV j x := by
  cases k with
  | zero => exact .inl h
  | succ j =>
    rcases h with h | ⟨xs, e, l, m⟩
    · exact .inl h
    · exact .inr ⟨xs, e, l, j, rfl, m⟩
theorem TmV.lf {k : Nat} {v : Zv} (h : LfV v) : TmV k v := by
  cases k with
  | zero => exact h
  | succ j => exact .inl h
theorem tm_i {k : Nat} {i : Int} : TmV k (.int i) := TmV.lf (.inl ⟨i, rfl⟩)
theorem tm_s {k : Nat} {s : Str} (h : PyData.strOk s = true) : TmV k (.str s) := TmV.lf (.inr (.inl ⟨s, rfl, h⟩))
theorem tm_t {k : Nat} {xs : List Zv} (l : xs.length ≤ 1000000) (h : ∀ x ∈ xs, TmV k x) : TmV (k + 1) (.tup xs) := .inr ⟨xs, rfl, l, h⟩
theorem tm_gd : ∀ (k : Nat) (v : Zv), TmV k v → gd k v = true ∧ nrm v = v := by
  have lf : ∀ k v, LfV v → gd k v = true ∧ nrm v = v := fun k v h => by
    rcases h with ⟨i, rfl⟩ | ⟨s, rfl, h⟩ | rfl
    · cases k <;> exact ⟨rfl, rfl⟩
    · cases k <;> exact ⟨h, rfl⟩
    · cases k <;> exact ⟨rfl, rfl⟩
  intro k
  induction k with
  | zero => intro v h; exact lf 0 v h
  | succ k ih =>
    intro v h
    rcases h with h | ⟨xs, rfl, _, h⟩
    · exact lf _ v h
    · refine ⟨List.all_eq_true.mpr fun x hx => (ih x (h x hx)).1, ?_⟩
      show Zv.tup (nrms xs) = _
      rw [nrms_map]
      congr 1
      exact (List.map_congr_left fun x hx => (ih x (h x hx)).2).trans (List.map_id _)
theorem eq_tm {neg : Bool} {k l : Nat} {v u : Zv} (hk : k ≤ 20) (hl : l ≤ 20) (hv : TmV k v) (hu : TmV l u) : ∃ b, eqZ neg v u = .ok (.bl (xor neg b)) ∧ (b = true ↔ v = u) := by
  obtain ⟨a1, a2⟩ := tm_gd k v hv
  obtain ⟨b1, b2⟩ := tm_gd l u hu
  obtain ⟨r, h1, h2⟩ := eqZ_gd (neg := neg) a1 b1 (by omega) (by omega)
  exact ⟨r, h1, by rw [h2, a2, b2]⟩
end Y

namespace Y
open PySem L2 Z ZP
def fNt (s : Int) (m : List (Int × Zv)) : List (Str × T) := [("sent", .z (.int s)), ("_bag", .dct false (dZ KI (fun v : Zv => v) m))]
def tNt (s : Int) (m : List (Int × Zv)) : T := .ins "Network" (fNt s m)
def delD (m : List (Int × Zv)) (k : Int) : List (Int × Zv) := m.filter fun p => !decide (p.1 = k)
theorem delZ_d {m : List (Int × Zv)} {k : Int} : delZ (dZ KI (fun v : Zv => v) m) (.int k) = dZ KI (fun v : Zv => v) (delD m k) := by
  unfold delZ dZ delD
  rw [List.filter_map]
  congr 1
local macro_rules | `(tactic| walk_at "p") => `(tactic| try simp only [ZP.pFS_ap, ZP.pPV_ap, ZP.pSeq_ap, ZP.up_ap, ZP.getT_nil, ZP.ne_sent__bag, ZP.fo_Network__bag, ZP.rz_at_ok, ZP.endM_nx, ZP.outM_ap, ZP.pMake_ap, ZP.pDn_ap, ZP.r1_toP_ok, ZP.putT_cons, ZP.setT_nil, ZP.pC_ap, ZP.mkR_ok, ZP.fo_Network_sent, ZP.ownT_ap, ZP.putT_nil, ZP.thenP_nx, ZP.atT_ap, ZP.updR_ap, Int.reduceLT, Int.reduceLE, Int.reduceGT, Int.reduceGE, Int.reduceNeg, Int.reducePow, Int.reduceAdd, Int.reduceSub, Int.reduceMul, Int.reduceEq, Int.reduceToNat, Int.reduceMod, Int.reduceDiv, Nat.reduceLT, Nat.reduceLeDiff, Nat.reduceAdd, Nat.reduceSub, Nat.reduceEqDiff, Nat.reduceMul, Nat.reducePow, decide_true, decide_false, Bool.and_self, Bool.and_true, Bool.true_and, Bool.and_false, Bool.false_and, Bool.or_true, Bool.true_or, Bool.or_false, Bool.false_or, Bool.or_self, reduceCtorEq, sizeL, isSome_some, List.length_map, and_self, natAbs_10, natAbs_2, List.getElem?_cons_zero, List.getElem?_cons_succ, List.set_cons_zero, List.set_cons_succ, List.map_cons, List.map_nil, List.replicate, List.cons_append, List.nil_append, List.length_cons, List.length_nil, Bool.false_xor, Bool.true_xor, if_true, if_false, Bool.false_eq_true, Bool.not_true, Bool.not_false, Option.map_some, Option.map_none, Option.bind_some, Option.bind_none, List.append_nil, List.length_append, slen_one, Int.cast_ofNat_Int, eq_self])
theorem nt_make : pMake "Network" P_Network___init__ [] = .ok (tNt 0 []) := by
  rw [pMake_ap, P_Network___init___ap]
  unfold P_Network___init___b
  walk_at "p"
  rfl
local macro_rules | `(tactic| walk_at "p") => `(tactic| try simp only [ZP.pFS_ap, ZP.pPV_ap, ZP.rz_toP_ok, ZP.asZ_z, ZP.pSeq_ap, ZP.up_ap, ZP.pTru_ap, ZP.getT_nil, ZP.pFld_ap, ZP.rz_map_ok, ZP.pCons_ap, ZP.ne__bag_sent, ZP.ne_sent__bag, ZP.pRet_ap, ZP.fo_Network__bag, ZP.pNop_ap, ZP.lkT_cons, ZP.endM_rt, ZP.rz_bind_ok, ZP.fldT_o, ZP.rz_at_ok, ZP.outM_ap, ZP.r1_toP_ok, ZP.putT_cons, ZP.pTNot_ap, ZP.setT_nil, ZP.pC_ap, ZP.ixF_cons, ZP.truT_b, ZP.putDD_d, ZP.pPutD_ap, ZP.fo_Network_sent, ZP.ownT_ap, ZP.addT_ii, ZP.putT_nil, ZP.pCall_ap, ZP.pRaise_ap, ZP.pNil_ap, ZP.pBin_ap, ZP.getT_ins, ZP.setT_ins, ZP.thenP_nx, ZP.atT_ap, ZP.pZ_ap, ZP.pPF_ap, ZP.updR_ap, ZP.pV_ap, ZP.pIf_ap, Int.reduceLT, Int.reduceLE, Int.reduceGT, Int.reduceGE, Int.reduceNeg, Int.reducePow, Int.reduceAdd, Int.reduceSub, Int.reduceMul, Int.reduceEq, Int.reduceToNat, Int.reduceMod, Int.reduceDiv, Nat.reduceLT, Nat.reduceLeDiff, Nat.reduceAdd, Nat.reduceSub, Nat.reduceEqDiff, Nat.reduceMul, Nat.reducePow, decide_true, decide_false, Bool.and_self, Bool.and_true, Bool.true_and, Bool.and_false, Bool.false_and, Bool.or_true, Bool.true_or, Bool.or_false, Bool.false_or, Bool.or_self, reduceCtorEq, sizeL, isSome_some, List.length_map, and_self, natAbs_10, natAbs_2, List.getElem?_cons_zero, List.getElem?_cons_succ, List.set_cons_zero, List.set_cons_succ, List.map_cons, List.map_nil, List.replicate, List.cons_append, List.nil_append, List.length_cons, List.length_nil, Bool.false_xor, Bool.true_xor, if_true, if_false, Bool.false_eq_true, Bool.not_true, Bool.not_false, Option.map_some, Option.map_none, Option.bind_some, Option.bind_none, List.append_nil, List.length_append, slen_one, Int.cast_ofNat_Int, eq_self])
theorem nt_send {s : Int} {m : List (Int × Zv)} {v : Zv} (h : P_is_message [.z v] = .ok (.z (.bl true))) (l : m.length < 16777216) : P_Network_send [tNt s m, .z v] = .ok (.z (.int (s + 1))) (tNt (s + 1) (putD m (s + 1) v)) := by
  rw [P_Network_send_ap]
  unfold P_Network_send_b tNt fNt
  walk_at "p"
  rw [h]
  walk_at "p"
  rw [show putDk 0 [1] false (dZ KI (fun v : Zv => v) m) (Zv.int (s + 1)) v _ = _ from putDk_d (K := KI) (f := fun v : Zv => v) (k := s + 1) (v := v) l]
  walk_at "p"
  rfl
local macro_rules | `(tactic| walk_at "p") => `(tactic| try simp only [ZP.pSeq_ap, ZP.endM_exc, ZP.up_ap, ZP.pTru_ap, ZP.rz_map_ok, ZP.pCons_ap, ZP.pNop_ap, ZP.rz_bind_ok, ZP.rz_at_ok, ZP.r1_toP_ok, ZP.pTNot_ap, ZP.truT_b, ZP.pCall_ap, ZP.thenP_exc, ZP.outX_ap, ZP.pRaise_ap, ZP.pNil_ap, ZP.pV_ap, ZP.pIf_ap, Int.reduceLT, Int.reduceLE, Int.reduceGT, Int.reduceGE, Int.reduceNeg, Int.reducePow, Int.reduceAdd, Int.reduceSub, Int.reduceMul, Int.reduceEq, Int.reduceToNat, Int.reduceMod, Int.reduceDiv, Nat.reduceLT, Nat.reduceLeDiff, Nat.reduceAdd, Nat.reduceSub, Nat.reduceEqDiff, Nat.reduceMul, Nat.reducePow, decide_true, decide_false, Bool.and_self, Bool.and_true, Bool.true_and, Bool.and_false, Bool.false_and, Bool.or_true, Bool.true_or, Bool.or_false, Bool.false_or, Bool.or_self, reduceCtorEq, sizeL, isSome_some, List.length_map, and_self, natAbs_10, natAbs_2, List.getElem?_cons_zero, List.getElem?_cons_succ, List.set_cons_zero, List.set_cons_succ, List.map_cons, List.map_nil, List.replicate, List.cons_append, List.nil_append, List.length_cons, List.length_nil, Bool.false_xor, Bool.true_xor, if_true, if_false, Bool.false_eq_true, Bool.not_true, Bool.not_false, Option.map_some, Option.map_none, Option.bind_some, Option.bind_none, List.append_nil, List.length_append, slen_one, Int.cast_ofNat_Int, eq_self])
theorem nt_send_bad {s : Int} {m : List (Int × Zv)} {v : Zv} (h : P_is_message [.z v] = .ok (.z (.bl false))) : P_Network_send [tNt s m, .z v] = .exc "BadValue" (tNt s m) := by
  rw [P_Network_send_ap]
  unfold P_Network_send_b tNt fNt
  walk_at "p"
  rw [h]
  walk_at "p"
local macro_rules | `(tactic| walk_at "p") => `(tactic| try simp only [ZP.asZ_z, ZP.pSeq_ap, ZP.up_ap, ZP.pFld_ap, ZP.ne_sent__bag, ZP.pRet_ap, ZP.fo_Network__bag, ZP.pNop_ap, ZP.lkT_cons, ZP.rz_bind_ok, ZP.fldT_o, ZP.rz_at_ok, ZP.r1_toP_ok, ZP.asB_b, ZP.inDT_d, ZP.endP_rt, ZP.pTB_ap, ZP.pIxD_ap, ZP.pRaise_ap, ZP.pBin_ap, ZP.thenP_nx, ZP.ixDT_d, ZP.pZ_ap, ZP.pV_ap, ZP.pIf_ap, Int.reduceLT, Int.reduceLE, Int.reduceGT, Int.reduceGE, Int.reduceNeg, Int.reducePow, Int.reduceAdd, Int.reduceSub, Int.reduceMul, Int.reduceEq, Int.reduceToNat, Int.reduceMod, Int.reduceDiv, Nat.reduceLT, Nat.reduceLeDiff, Nat.reduceAdd, Nat.reduceSub, Nat.reduceEqDiff, Nat.reduceMul, Nat.reducePow, decide_true, decide_false, Bool.and_self, Bool.and_true, Bool.true_and, Bool.and_false, Bool.false_and, Bool.or_true, Bool.true_or, Bool.or_false, Bool.false_or, Bool.or_self, reduceCtorEq, sizeL, isSome_some, List.length_map, and_self, natAbs_10, natAbs_2, List.getElem?_cons_zero, List.getElem?_cons_succ, List.set_cons_zero, List.set_cons_succ, List.map_cons, List.map_nil, List.replicate, List.cons_append, List.nil_append, List.length_cons, List.length_nil, Bool.false_xor, Bool.true_xor, if_true, if_false, Bool.false_eq_true, Bool.not_true, Bool.not_false, Option.map_some, Option.map_none, Option.bind_some, Option.bind_none, List.append_nil, List.length_append, slen_one, Int.cast_ofNat_Int, eq_self])
theorem nt_message {s k : Int} {m : List (Int × Zv)} {v : Zv} (h : lkD k m = some v) : P_Network_message [tNt s m, .z (.int k)] = .ok (.z v) := by
  rw [P_Network_message_ap]
  unfold P_Network_message_b tNt fNt
  walk_at "p"
  rw [show inDk true false (dZ KI (fun v : Zv => v) m) (Zv.int k) = _ from inDk_d (K := KI) (f := fun v : Zv => v) (neg := true) (k := k) (l := m), h]
  simp only [Option.isSome_some, Option.isSome_none, Bool.xor_false, Bool.xor_true, Bool.not_true, Bool.not_false, Bool.bne_true, Bool.bne_false]
  walk_at "p"
  rw [show dgk false (dZ KI (fun v : Zv => v) m) (Zv.int k) = _ from dgk_d (K := KI) (f := fun v : Zv => v) h]
  walk_at "p"
local macro_rules | `(tactic| walk_at "p") => `(tactic| try simp only [ZP.pSeq_ap, ZP.up_ap, ZP.pFld_ap, ZP.ne_sent__bag, ZP.fo_Network__bag, ZP.pNop_ap, ZP.lkT_cons, ZP.rz_bind_ok, ZP.fldT_o, ZP.rz_at_ok, ZP.endP_exc, ZP.r1_toP_ok, ZP.asB_b, ZP.inDT_d, ZP.pTB_ap, ZP.thenP_exc, ZP.pRaise_ap, ZP.pBin_ap, ZP.pV_ap, ZP.pIf_ap, Int.reduceLT, Int.reduceLE, Int.reduceGT, Int.reduceGE, Int.reduceNeg, Int.reducePow, Int.reduceAdd, Int.reduceSub, Int.reduceMul, Int.reduceEq, Int.reduceToNat, Int.reduceMod, Int.reduceDiv, Nat.reduceLT, Nat.reduceLeDiff, Nat.reduceAdd, Nat.reduceSub, Nat.reduceEqDiff, Nat.reduceMul, Nat.reducePow, decide_true, decide_false, Bool.and_self, Bool.and_true, Bool.true_and, Bool.and_false, Bool.false_and, Bool.or_true, Bool.true_or, Bool.or_false, Bool.false_or, Bool.or_self, reduceCtorEq, sizeL, isSome_some, List.length_map, and_self, natAbs_10, natAbs_2, List.getElem?_cons_zero, List.getElem?_cons_succ, List.set_cons_zero, List.set_cons_succ, List.map_cons, List.map_nil, List.replicate, List.cons_append, List.nil_append, List.length_cons, List.length_nil, Bool.false_xor, Bool.true_xor, if_true, if_false, Bool.false_eq_true, Bool.not_true, Bool.not_false, Option.map_some, Option.map_none, Option.bind_some, Option.bind_none, List.append_nil, List.length_append, slen_one, Int.cast_ofNat_Int, eq_self])
theorem nt_message_bad {s k : Int} {m : List (Int × Zv)} (h : lkD k m = none) : P_Network_message [tNt s m, .z (.int k)] = .exc "Unknown" := by
  rw [P_Network_message_ap]
  unfold P_Network_message_b tNt fNt
  walk_at "p"
  rw [show inDk true false (dZ KI (fun v : Zv => v) m) (Zv.int k) = _ from inDk_d (K := KI) (f := fun v : Zv => v) (neg := true) (k := k) (l := m), h]
  simp only [Option.isSome_some, Option.isSome_none, Bool.xor_false, Bool.xor_true, Bool.not_true, Bool.not_false, Bool.bne_true, Bool.bne_false]
  walk_at "p"
local macro_rules | `(tactic| walk_at "p") => `(tactic| try simp only [ZP.pPV_ap, ZP.rz_toP_ok, ZP.pSeq_ap, ZP.up_ap, ZP.getT_nil, ZP.pFld_ap, ZP.ne_sent__bag, ZP.fo_Network__bag, ZP.pNop_ap, ZP.lkT_cons, ZP.rz_bind_ok, ZP.fldT_o, ZP.rz_at_ok, ZP.pDel_ap, ZP.delP_k, ZP.r1_toP_ok, ZP.asB_b, ZP.inDT_d, ZP.setT_nil, ZP.ixF_cons, ZP.pTB_ap, ZP.ownT_ap, ZP.pRaise_ap, ZP.pBin_ap, ZP.getT_ins, ZP.setT_ins, ZP.thenP_nx, ZP.atT_ap, ZP.pPF_ap, ZP.updR_ap, ZP.pV_ap, ZP.pIf_ap, Int.reduceLT, Int.reduceLE, Int.reduceGT, Int.reduceGE, Int.reduceNeg, Int.reducePow, Int.reduceAdd, Int.reduceSub, Int.reduceMul, Int.reduceEq, Int.reduceToNat, Int.reduceMod, Int.reduceDiv, Nat.reduceLT, Nat.reduceLeDiff, Nat.reduceAdd, Nat.reduceSub, Nat.reduceEqDiff, Nat.reduceMul, Nat.reducePow, decide_true, decide_false, Bool.and_self, Bool.and_true, Bool.true_and, Bool.and_false, Bool.false_and, Bool.or_true, Bool.true_or, Bool.or_false, Bool.false_or, Bool.or_self, reduceCtorEq, sizeL, isSome_some, List.length_map, and_self, natAbs_10, natAbs_2, List.getElem?_cons_zero, List.getElem?_cons_succ, List.set_cons_zero, List.set_cons_succ, List.map_cons, List.map_nil, List.replicate, List.cons_append, List.nil_append, List.length_cons, List.length_nil, Bool.false_xor, Bool.true_xor, if_true, if_false, Bool.false_eq_true, Bool.not_true, Bool.not_false, Option.map_some, Option.map_none, Option.bind_some, Option.bind_none, List.append_nil, List.length_append, slen_one, Int.cast_ofNat_Int, eq_self])
theorem nt_drop {s k : Int} {m : List (Int × Zv)} {v : Zv} (h : lkD k m = some v) : P_Network_drop [tNt s m, .z (.int k)] = .ok (.z .non) (tNt s (delD m k)) := by
  rw [P_Network_drop_ap]
  unfold P_Network_drop_b tNt fNt
  walk_at "p"
  rw [show inDk true false (dZ KI (fun v : Zv => v) m) (Zv.int k) = _ from inDk_d (K := KI) (f := fun v : Zv => v) (neg := true) (k := k) (l := m), h]
  simp only [Option.isSome_some, Option.isSome_none, Bool.xor_false, Bool.xor_true, Bool.not_true, Bool.not_false, Bool.bne_true, Bool.bne_false]
  walk_at "p"
  rw [show hasZ (Zv.int k) (dZ KI (fun v : Zv => v) m) = _ from hasZ_d (K := KI) (f := fun v : Zv => v) k m, h, delZ_d]
  rfl
local macro_rules | `(tactic| walk_at "p") => `(tactic| try simp only [ZP.pSeq_ap, ZP.endM_exc, ZP.up_ap, ZP.pFld_ap, ZP.ne_sent__bag, ZP.fo_Network__bag, ZP.pNop_ap, ZP.lkT_cons, ZP.rz_bind_ok, ZP.fldT_o, ZP.rz_at_ok, ZP.r1_toP_ok, ZP.asB_b, ZP.inDT_d, ZP.pTB_ap, ZP.thenP_exc, ZP.outX_ap, ZP.pRaise_ap, ZP.pBin_ap, ZP.pV_ap, ZP.pIf_ap, Int.reduceLT, Int.reduceLE, Int.reduceGT, Int.reduceGE, Int.reduceNeg, Int.reducePow, Int.reduceAdd, Int.reduceSub, Int.reduceMul, Int.reduceEq, Int.reduceToNat, Int.reduceMod, Int.reduceDiv, Nat.reduceLT, Nat.reduceLeDiff, Nat.reduceAdd, Nat.reduceSub, Nat.reduceEqDiff, Nat.reduceMul, Nat.reducePow, decide_true, decide_false, Bool.and_self, Bool.and_true, Bool.true_and, Bool.and_false, Bool.false_and, Bool.or_true, Bool.true_or, Bool.or_false, Bool.false_or, Bool.or_self, reduceCtorEq, sizeL, isSome_some, List.length_map, and_self, natAbs_10, natAbs_2, List.getElem?_cons_zero, List.getElem?_cons_succ, List.set_cons_zero, List.set_cons_succ, List.map_cons, List.map_nil, List.replicate, List.cons_append, List.nil_append, List.length_cons, List.length_nil, Bool.false_xor, Bool.true_xor, if_true, if_false, Bool.false_eq_true, Bool.not_true, Bool.not_false, Option.map_some, Option.map_none, Option.bind_some, Option.bind_none, List.append_nil, List.length_append, slen_one, Int.cast_ofNat_Int, eq_self])
theorem nt_drop_bad {s k : Int} {m : List (Int × Zv)} (h : lkD k m = none) : P_Network_drop [tNt s m, .z (.int k)] = .exc "Unknown" (tNt s m) := by
  rw [P_Network_drop_ap]
  unfold P_Network_drop_b tNt fNt
  walk_at "p"
  rw [show inDk true false (dZ KI (fun v : Zv => v) m) (Zv.int k) = _ from inDk_d (K := KI) (f := fun v : Zv => v) (neg := true) (k := k) (l := m), h]
  simp only [Option.isSome_some, Option.isSome_none, Bool.xor_false, Bool.xor_true, Bool.not_true, Bool.not_false, Bool.bne_true, Bool.bne_false]
  walk_at "p"
local macro_rules | `(tactic| walk_at "p") => `(tactic| try simp only [ZP.up_ap, ZP.pFld_ap, ZP.pCons_ap, ZP.ne_sent__bag, ZP.pRet_ap, ZP.fo_Network__bag, ZP.lkT_cons, ZP.rz_bind_ok, ZP.fldT_o, ZP.rz_at_ok, ZP.r1_toP_ok, ZP.lstdT_d, ZP.endP_rt, ZP.pCall_ap, ZP.pNil_ap, ZP.pV_ap, Int.reduceLT, Int.reduceLE, Int.reduceGT, Int.reduceGE, Int.reduceNeg, Int.reducePow, Int.reduceAdd, Int.reduceSub, Int.reduceMul, Int.reduceEq, Int.reduceToNat, Int.reduceMod, Int.reduceDiv, Nat.reduceLT, Nat.reduceLeDiff, Nat.reduceAdd, Nat.reduceSub, Nat.reduceEqDiff, Nat.reduceMul, Nat.reducePow, decide_true, decide_false, Bool.and_self, Bool.and_true, Bool.true_and, Bool.and_false, Bool.false_and, Bool.or_true, Bool.true_or, Bool.or_false, Bool.false_or, Bool.or_self, reduceCtorEq, sizeL, isSome_some, List.length_map, and_self, natAbs_10, natAbs_2, List.getElem?_cons_zero, List.getElem?_cons_succ, List.set_cons_zero, List.set_cons_succ, List.map_cons, List.map_nil, List.replicate, List.cons_append, List.nil_append, List.length_cons, List.length_nil, Bool.false_xor, Bool.true_xor, if_true, if_false, Bool.false_eq_true, Bool.not_true, Bool.not_false, Option.map_some, Option.map_none, Option.bind_some, Option.bind_none, List.append_nil, List.length_append, slen_one, Int.cast_ofNat_Int, eq_self])
theorem nt_numbers {s : Int} {m : List (Int × Zv)} (l : m.length ≤ 10000) : P_Network_numbers [tNt s m] = .ok (.lst ((m.map Prod.fst).map Zv.int)) := by
  rw [P_Network_numbers_ap]
  unfold P_Network_numbers_b tNt fNt
  walk_at "p"
  unfold dZ
  rw [List.map_map, List.map_map]
  rfl
local macro_rules | `(tactic| walk_at "p") => `(tactic| try simp only [ZP.up_ap, ZP.pFld_ap, ZP.pCons_ap, ZP.ne_sent__bag, ZP.pRet_ap, ZP.fo_Network__bag, ZP.lkT_cons, ZP.rz_z_ok, ZP.rz_bind_ok, ZP.fldT_o, ZP.rz_at_ok, ZP.lenT_ap, ZP.r1_toP_ok, ZP.endP_rt, ZP.pCall_ap, ZP.pNil_ap, ZP.pV_ap, Int.reduceLT, Int.reduceLE, Int.reduceGT, Int.reduceGE, Int.reduceNeg, Int.reducePow, Int.reduceAdd, Int.reduceSub, Int.reduceMul, Int.reduceEq, Int.reduceToNat, Int.reduceMod, Int.reduceDiv, Nat.reduceLT, Nat.reduceLeDiff, Nat.reduceAdd, Nat.reduceSub, Nat.reduceEqDiff, Nat.reduceMul, Nat.reducePow, decide_true, decide_false, Bool.and_self, Bool.and_true, Bool.true_and, Bool.and_false, Bool.false_and, Bool.or_true, Bool.true_or, Bool.or_false, Bool.false_or, Bool.or_self, reduceCtorEq, sizeL, isSome_some, List.length_map, and_self, natAbs_10, natAbs_2, List.getElem?_cons_zero, List.getElem?_cons_succ, List.set_cons_zero, List.set_cons_succ, List.map_cons, List.map_nil, List.replicate, List.cons_append, List.nil_append, List.length_cons, List.length_nil, Bool.false_xor, Bool.true_xor, if_true, if_false, Bool.false_eq_true, Bool.not_true, Bool.not_false, Option.map_some, Option.map_none, Option.bind_some, Option.bind_none, List.append_nil, List.length_append, slen_one, Int.cast_ofNat_Int, eq_self])
theorem nt_len {s : Int} {m : List (Int × Zv)} : P_Network___len__ [tNt s m] = .ok (.z (.int m.length)) := by
  rw [P_Network___len___ap]
  unfold P_Network___len___b tNt fNt
  walk_at "p"
  rw [show lenG (.dct false (dZ KI (fun v : Zv => v) m)) = .ok (.int (dZ KI (fun v : Zv => v) m).length) from rfl, dZ_len]
  walk_at "p"
end Y

namespace Y
open PySem L2 Z ZP
local macro_rules | `(tactic| walk_at "p") => `(tactic| try simp only [ZP.thenP_rt, ZP.asZ_z, ZP.pSeq_ap, ZP.up_ap, ZP.ltT_ii, ZP.pCons_ap, ZP.pRet_ap, ZP.pNop_ap, ZP.rz_z_ok, ZP.rz_bind_ok, ZP.rz_at_ok, ZP.lenT_ap, ZP.r1_toP_ok, ZP.asB_b, ZP.lenG_l, ZP.pC_ap, ZP.endP_rt, ZP.pTB_ap, ZP.pCall_ap, ZP.pNil_ap, ZP.ixT_l, ZP.pBin_ap, ZP.thenP_nx, ZP.pZ_ap, ZP.pV_ap, ZP.pIf_ap, Int.reduceLT, Int.reduceLE, Int.reduceGT, Int.reduceGE, Int.reduceNeg, Int.reducePow, Int.reduceAdd, Int.reduceSub, Int.reduceMul, Int.reduceEq, Int.reduceToNat, Int.reduceMod, Int.reduceDiv, Nat.reduceLT, Nat.reduceLeDiff, Nat.reduceAdd, Nat.reduceSub, Nat.reduceEqDiff, Nat.reduceMul, Nat.reducePow, decide_true, decide_false, Bool.and_self, Bool.and_true, Bool.true_and, Bool.and_false, Bool.false_and, Bool.or_true, Bool.true_or, Bool.or_false, Bool.false_or, Bool.or_self, reduceCtorEq, sizeL, isSome_some, List.length_map, and_self, natAbs_10, natAbs_2, List.getElem?_cons_zero, List.getElem?_cons_succ, List.set_cons_zero, List.set_cons_succ, List.map_cons, List.map_nil, List.replicate, List.cons_append, List.nil_append, List.length_cons, List.length_nil, Bool.false_xor, Bool.true_xor, if_true, if_false, Bool.false_eq_true, Bool.not_true, Bool.not_false, Option.map_some, Option.map_none, Option.bind_some, Option.bind_none, List.append_nil, List.length_append, slen_one, Int.cast_ofNat_Int, eq_self])
theorem law_draw {ds : List Int} (hd : Dr 5040 ds) {k : Int} (hk : 0 ≤ k) : ∃ d, P_law_draw [.z (.lst (ds.map Zv.int)), .z (.int k)] = .ok (.z (.int d)) ∧ 0 ≤ d ∧ d < 5040 := by
  rw [P_law_draw_ap]
  unfold P_law_draw_b
  walk_at "p"
  by_cases c : k < (ds.length : Int)
  · simp only [decide_eq_true c]
    walk_at "p"
    have e : L2.atI (ds.map Zv.int) k = some (Zv.int (ds.getD k.toNat 0)) := by
      rw [atI_nat' hk (by simpa using c), List.getElem?_map]
      have : k.toNat < ds.length := by omega
      simp [List.getD, this]
    rw [e]
    walk_at "p"
    exact ⟨_, rfl, hd.get (by decide) _⟩
  · simp only [decide_eq_false c]
    walk_at "p"
    exact ⟨0, rfl, by decide, by decide⟩
structure MsOk (v : Zv) : Prop where
  ok : P_is_message [.z v] = .ok (.z (.bl true))
  tm : TmV 8 v
theorem tm0 {k : Nat} : TmV (k + 1) (.tup []) := tm_t (by simp) (fun x hx => by cases hx)
theorem tm1 {k : Nat} {a : Zv} (ha : TmV k a) : TmV (k + 1) (.tup [a]) := tm_t (by simp) (fun x hx => by simp at hx; subst hx; exact ha)
theorem tm2 {k : Nat} {a b : Zv} (ha : TmV k a) (hb : TmV k b) : TmV (k + 1) (.tup [a, b]) := tm_t (by simp) (fun x hx => by
  simp at hx; rcases hx with rfl | rfl <;> assumption)
theorem tm3 {k : Nat} {a b c : Zv} (ha : TmV k a) (hb : TmV k b) (hc : TmV k c) : TmV (k + 1) (.tup [a, b, c]) := tm_t (by simp) (fun x hx => by
  simp at hx; rcases hx with rfl | rfl | rfl <;> assumption)
theorem tm4 {k : Nat} {a b c d : Zv} (ha : TmV k a) (hb : TmV k b) (hc : TmV k c) (hd : TmV k d) : TmV (k + 1) (.tup [a, b, c, d]) := tm_t (by simp) (fun x hx => by
  simp at hx; rcases hx with rfl | rfl | rfl | rfl <;> assumption)
theorem num_t {n : Int} (h0 : 0 ≤ n) (h1 : n ≤ 1000000000000) : isNumT (.z (.int n)) = true := by
  show okN n = true
  unfold okN okI
  simp only [Bool.and_eq_true, decide_eq_true_eq]
  omega
def ms0 (d : Int) : Zv := .tup [.tup [.str "client", .int (d % 3)], .tup [.str "house", .int (d % 5)], .tup [.str "fetch", .int (d % 7), .int (1 + d / 4), .str "a"]]
def ms1 (d : Int) : Zv := .tup [.tup [.str "house", .int (d % 5)], .tup [.str "client", .int (d % 3)], .tup [.str "stored", .int (d % 7), .int (1 + d / 4)]]
def ms2 (d : Int) : Zv := .tup [.tup [.str "house", .int (d % 5)], .tup [.str "house", .int (d % 3)], .tup [.str "seal", .int d]]
def ms3 (d : Int) : Zv := .tup [.tup [.str "house", .int (d % 5)], .tup [.str "house", .int (d % 3)], .tup [.str "told", .tup [.tup [.str "a", .tup [.tup [], .tup []]]]]]
theorem okT_i {i : Int} : okTy (.int i) := fun z => by cases z
theorem okT_s {s : Str} : okTy (.str s) := fun z => by cases z
theorem okT_t {s : List Zv} : okTy (.tup s) := fun z => by cases z
theorem tyI {i : Int} : okTy (.int i) ∧ lenOk (.int i) := ⟨okT_i, trivial⟩
theorem ends {a : Str} {n : Int} (l : a.length ≤ 16777216) : okTy (.tup [.str a, .int n]) ∧ okIt (.tup [.str a, .int n]) := ⟨okT_t, by
  intro x hx
  simp at hx
  rcases hx with rfl | rfl
  · exact ⟨okT_s, l⟩
  · exact tyI⟩
theorem ms_ok {d : Int} (d0 : 0 ≤ d) (d1 : d < 5040) : MsOk (ms0 d) ∧ MsOk (ms1 d) ∧ MsOk (ms2 d) ∧ MsOk (ms3 d) := by
  have n3 := num_t (n := d % 3) (by omega) (by omega)
  have n5 := num_t (n := d % 5) (by omega) (by omega)
  have n7 := num_t (n := d % 7) (by omega) (by omega)
  have nt := num_t (n := 1 + d / 4) (by omega) (by omega)
  have nd := num_t (n := d) (by omega) (by omega)
  have g0 : gt0 (.int (1 + d / 4)) = true := by unfold gt0; simp; omega
  have sc : (("client" : Str)).length ≤ 16777216 := by decide
  have sh : (("house" : Str)).length ≤ 16777216 := by decide
  refine ⟨⟨?_, ?_⟩, ⟨?_, ?_⟩, ⟨?_, ?_⟩, ⟨?_, ?_⟩⟩
  · rw [is_message (v := ms0 d) okT_t (by
      intro x hx
      simp at hx
      rcases hx with rfl | rfl | rfl
      · exact ends sc
      · exact ends sh
      · refine ⟨okT_t, ?_⟩
        intro x hx
        simp at hx
        rcases hx with rfl | rfl | rfl | rfl
        · exact ⟨okT_s, by show (("fetch" : Str)).length ≤ 16777216; decide⟩
        · exact tyI
        · exact tyI
        · exact ⟨okT_s, by show (("a" : Str)).length ≤ 16777216; decide⟩)]
    have e : msgB (ms0 d) = ((isNumT (.z (.int (d % 3))) && true) && ((isNumT (.z (.int (d % 5))) && true) && (true && (true && (true && (isNumT (.z (.int (d % 7))) && ((isNumT (.z (.int (1 + d / 4))) && gt0 (.int (1 + d / 4))) && (isKeyZ (.str "a") && true)))))))) := by kernel_rfl
    rw [e, n3, n5, n7, nt, g0, show isKeyZ (.str "a") = true by decide +kernel]
    rfl
  · exact tm3 (tm2 (tm_s (by decide +kernel)) tm_i) (tm2 (tm_s (by decide +kernel)) tm_i) (tm4 (tm_s (by decide +kernel)) tm_i tm_i (tm_s (by decide +kernel)))
  · rw [is_message (v := ms1 d) okT_t (by
      intro x hx
      simp at hx
      rcases hx with rfl | rfl | rfl
      · exact ends sh
      · exact ends sc
      · refine ⟨okT_t, ?_⟩
        intro x hx
        simp at hx
        rcases hx with rfl | rfl | rfl
        · exact ⟨okT_s, by show (("stored" : Str)).length ≤ 16777216; decide⟩
        · exact tyI
        · exact tyI)]
    have e : msgB (ms1 d) = ((isNumT (.z (.int (d % 5))) && true) && ((isNumT (.z (.int (d % 3))) && true) && (true && (true && (true && (isNumT (.z (.int (d % 7))) && ((isNumT (.z (.int (1 + d / 4))) && gt0 (.int (1 + d / 4))) && true))))))) := by kernel_rfl
    rw [e, n3, n5, n7, nt, g0]
    rfl
  · exact tm3 (tm2 (tm_s (by decide +kernel)) tm_i) (tm2 (tm_s (by decide +kernel)) tm_i) (tm3 (tm_s (by decide +kernel)) tm_i tm_i)
  · rw [is_message (v := ms2 d) okT_t (by
      intro x hx
      simp at hx
      rcases hx with rfl | rfl | rfl
      · exact ends sh
      · exact ends sh
      · refine ⟨okT_t, ?_⟩
        intro x hx
        simp at hx
        rcases hx with rfl | rfl
        · exact ⟨okT_s, by show (("seal" : Str)).length ≤ 16777216; decide⟩
        · exact tyI)]
    have e : msgB (ms2 d) = ((isNumT (.z (.int (d % 5))) && true) && ((isNumT (.z (.int (d % 3))) && true) && (true && (true && (true && (isNumT (.z (.int d)) && true)))))) := by kernel_rfl
    rw [e, n3, n5, nd]
    rfl
  · exact tm3 (tm2 (tm_s (by decide +kernel)) tm_i) (tm2 (tm_s (by decide +kernel)) tm_i) (tm2 (tm_s (by decide +kernel)) tm_i)
  · rw [is_message (v := ms3 d) okT_t (by
      intro x hx
      simp at hx
      rcases hx with rfl | rfl | rfl
      · exact ends sh
      · exact ends sh
      · refine ⟨okT_t, ?_⟩
        intro x hx
        simp at hx
        rcases hx with rfl | rfl
        · exact ⟨okT_s, by show (("told" : Str)).length ≤ 16777216; decide⟩
        · exact ⟨okT_t, by show 1 ≤ 16777216; decide⟩)]
    have e : msgB (ms3 d) = ((isNumT (.z (.int (d % 5))) && true) && ((isNumT (.z (.int (d % 3))) && true) && (true && (true && (true && (true && true)))))) := by kernel_rfl
    rw [e, n3, n5]
    rfl
  · exact tm3 (tm2 (tm_s (by decide +kernel)) tm_i) (tm2 (tm_s (by decide +kernel)) tm_i) (tm2 (tm_s (by decide +kernel)) (tm1 (tm2 (tm_s (by decide +kernel)) (tm2 tm0 tm0))))
local macro_rules | `(tactic| walk_at "p") => `(tactic| try simp only [ZP.pPV_ap, ZP.asZ_z, ZP.pSeq_ap, ZP.pLst_ap, ZP.up_ap, ZP.zsT_nil, ZP.pTup_ap, ZP.getT_nil, ZP.modT_ii, ZP.rz_map_ok, ZP.pCons_ap, ZP.ixT_o, ZP.pRet_ap, ZP.rz_bind_ok, ZP.tyBT_l, ZP.rz_at_ok, ZP.tupT_ap, ZP.r1_toP_ok, ZP.pAsg_ap, ZP.fdivT_ii, ZP.setT_nil, ZP.pC_ap, ZP.pBMM_ap, ZP.endP_rt, ZP.ownT_ap, ZP.addT_ii, ZP.pNil_ap, ZP.pBin_ap, ZP.toZ_z, ZP.thenP_nx, ZP.atT_ap, ZP.pZ_ap, ZP.lstT_ap, ZP.updR_ap, ZP.appT_ap, ZP.pExpr_ap, ZP.pFz_ap, ZP.zsT_cons, ZP.pV_ap, Int.reduceLT, Int.reduceLE, Int.reduceGT, Int.reduceGE, Int.reduceNeg, Int.reducePow, Int.reduceAdd, Int.reduceSub, Int.reduceMul, Int.reduceEq, Int.reduceToNat, Int.reduceMod, Int.reduceDiv, Nat.reduceLT, Nat.reduceLeDiff, Nat.reduceAdd, Nat.reduceSub, Nat.reduceEqDiff, Nat.reduceMul, Nat.reducePow, decide_true, decide_false, Bool.and_self, Bool.and_true, Bool.true_and, Bool.and_false, Bool.false_and, Bool.or_true, Bool.true_or, Bool.or_false, Bool.false_or, Bool.or_self, reduceCtorEq, sizeL, isSome_some, List.length_map, and_self, natAbs_10, natAbs_2, List.getElem?_cons_zero, List.getElem?_cons_succ, List.set_cons_zero, List.set_cons_succ, List.map_cons, List.map_nil, List.replicate, List.cons_append, List.nil_append, List.length_cons, List.length_nil, Bool.false_xor, Bool.true_xor, if_true, if_false, Bool.false_eq_true, Bool.not_true, Bool.not_false, Option.map_some, Option.map_none, Option.bind_some, Option.bind_none, List.append_nil, List.length_append, slen_one, Int.cast_ofNat_Int, eq_self])
theorem law_message {d : Int} (d0 : 0 ≤ d) (d1 : d < 5040) : ∃ v, P_law_message [.z (.int d)] = .ok (.z v) ∧ MsOk v := by
  have ex : ∃ v, L2.atI [ms0 d, ms1 d, ms2 d, ms3 d] (d / 3 % 4) = some v ∧ MsOk v := by
    obtain ⟨h0, h1, h2, h3⟩ := ms_ok d0 d1
    have h : d / 3 % 4 = 0 ∨ d / 3 % 4 = 1 ∨ d / 3 % 4 = 2 ∨ d / 3 % 4 = 3 := by omega
    rcases h with h | h | h | h <;> rw [h] <;> exact ⟨_, rfl, by assumption⟩
  obtain ⟨v, e, hv⟩ := ex
  refine ⟨v, ?_, hv⟩
  rw [P_law_message_ap]
  unfold P_law_message_b
  walk_at "p"
  have e : L2.atI [Zv.tup [.tup [.str "client", .int (d % 3)], .tup [.str "house", .int (d % 5)], .tup [.str "fetch", .int (d % 7), .int (1 + d / 4), .str "a"]],
    .tup [.tup [.str "house", .int (d % 5)], .tup [.str "client", .int (d % 3)], .tup [.str "stored", .int (d % 7), .int (1 + d / 4)]],
    .tup [.tup [.str "house", .int (d % 5)], .tup [.str "house", .int (d % 3)], .tup [.str "seal", .int d]],
    .tup [.tup [.str "house", .int (d % 5)], .tup [.str "house", .int (d % 3)], .tup [.str "told", .tup [.tup [.str "a", .tup [.tup [], .tup []]]]]]] (d / 3 % 4) = some v := e
  rw [e]
  walk_at "p"
local macro_rules | `(tactic| walk_at "p") => `(tactic| try simp only [ZP.asZ_z, ZP.pSeq_ap, ZP.pLst_ap, ZP.up_ap, ZP.zsT_nil, ZP.pTup_ap, ZP.modT_ii, ZP.rz_map_ok, ZP.pCons_ap, ZP.pRet_ap, ZP.rz_bind_ok, ZP.toZ_lst, ZP.rz_at_ok, ZP.tupT_ap, ZP.r1_toP_ok, ZP.pAsg_ap, ZP.pC_ap, ZP.endP_rt, ZP.pNil_ap, ZP.ixT_l, ZP.pBin_ap, ZP.thenP_nx, ZP.pZ_ap, ZP.lstT_ap, ZP.pFz_ap, ZP.zsT_cons, ZP.pV_ap, Int.reduceLT, Int.reduceLE, Int.reduceGT, Int.reduceGE, Int.reduceNeg, Int.reducePow, Int.reduceAdd, Int.reduceSub, Int.reduceMul, Int.reduceEq, Int.reduceToNat, Int.reduceMod, Int.reduceDiv, Nat.reduceLT, Nat.reduceLeDiff, Nat.reduceAdd, Nat.reduceSub, Nat.reduceEqDiff, Nat.reduceMul, Nat.reducePow, decide_true, decide_false, Bool.and_self, Bool.and_true, Bool.true_and, Bool.and_false, Bool.false_and, Bool.or_true, Bool.true_or, Bool.or_false, Bool.false_or, Bool.or_self, reduceCtorEq, sizeL, isSome_some, List.length_map, and_self, natAbs_10, natAbs_2, List.getElem?_cons_zero, List.getElem?_cons_succ, List.set_cons_zero, List.set_cons_succ, List.map_cons, List.map_nil, List.replicate, List.cons_append, List.nil_append, List.length_cons, List.length_nil, Bool.false_xor, Bool.true_xor, if_true, if_false, Bool.false_eq_true, Bool.not_true, Bool.not_false, Option.map_some, Option.map_none, Option.bind_some, Option.bind_none, List.append_nil, List.length_append, slen_one, Int.cast_ofNat_Int, eq_self])
theorem law_bad {d : Int} (d0 : 0 ≤ d) : ∃ v, P_law_bad [.z (.int d)] = .ok (.z v) ∧ P_is_message [.z v] = .ok (.z (.bl false)) := by
  have ex : ∃ v, L2.atI [Zv.non, .tup [], .tup [.str "seal", .int 0], .tup [.tup [.str "house", .int 0], .tup [.str "client", .int 0], .tup [.str "seal", .int 0]], .int 7, .str "told"] (d % 6) = some v ∧ P_is_message [.z v] = .ok (.z (.bl false)) := by
    have h : d % 6 = 0 ∨ d % 6 = 1 ∨ d % 6 = 2 ∨ d % 6 = 3 ∨ d % 6 = 4 ∨ d % 6 = 5 := by omega
    rcases h with h | h | h | h | h | h <;> rw [h] <;> exact ⟨_, rfl, by kernel_rfl⟩
  obtain ⟨v, e, hv⟩ := ex
  refine ⟨v, ?_, hv⟩
  rw [P_law_bad_ap]
  unfold P_law_bad_b
  walk_at "p"
  rw [e]
  walk_at "p"
end Y

namespace Y
open PySem L2 Z ZP
local macro_rules | `(tactic| walk_at "p") => `(tactic| try simp only [ZP.pPV_ap, ZP.up_ap, ZP.getT_nil, ZP.pCons_ap, ZP.p1Cons_ap, ZP.pRet_ap, ZP.consT1_z, ZP.endM_rt, ZP.rz_bind_ok, ZP.rz_at_ok, ZP.outM_ap, ZP.r1_bind_ok, ZP.r1_toP_ok, ZP.setT_nil, ZP.pC_ap, ZP.pTry_ap, ZP.pMM_ap, ZP.ownT_ap, ZP.p1Tup_ap, ZP.str_beq, ZP.p1Nil_ap, ZP.lk_nil, ZP.pNil_ap, ZP.toZ_z, ZP.atT_ap, ZP.lk_cons, ZP.updR_ap, ZP.tryA_ok, ZP.p1Fz_ap, ZP.pV_ap, Int.reduceLT, Int.reduceLE, Int.reduceGT, Int.reduceGE, Int.reduceNeg, Int.reducePow, Int.reduceAdd, Int.reduceSub, Int.reduceMul, Int.reduceEq, Int.reduceToNat, Int.reduceMod, Int.reduceDiv, Nat.reduceLT, Nat.reduceLeDiff, Nat.reduceAdd, Nat.reduceSub, Nat.reduceEqDiff, Nat.reduceMul, Nat.reducePow, decide_true, decide_false, Bool.and_self, Bool.and_true, Bool.true_and, Bool.and_false, Bool.false_and, Bool.or_true, Bool.true_or, Bool.or_false, Bool.false_or, Bool.or_self, reduceCtorEq, sizeL, isSome_some, List.length_map, and_self, natAbs_10, natAbs_2, List.getElem?_cons_zero, List.getElem?_cons_succ, List.set_cons_zero, List.set_cons_succ, List.map_cons, List.map_nil, List.replicate, List.cons_append, List.nil_append, List.length_cons, List.length_nil, Bool.false_xor, Bool.true_xor, if_true, if_false, Bool.false_eq_true, Bool.not_true, Bool.not_false, Option.map_some, Option.map_none, Option.bind_some, Option.bind_none, List.append_nil, List.length_append, slen_one, Int.cast_ofNat_Int, eq_self])
theorem law_sent {s : Int} {m : List (Int × Zv)} {v : Zv} (h : P_is_message [.z v] = .ok (.z (.bl true))) (l : m.length < 16777216) : P_law_sent [tNt s m, .z v] = .ok (.z (.tup [.str "sent", .int (s + 1)])) (tNt (s + 1) (putD m (s + 1) v)) := by
  rw [P_law_sent_ap]
  unfold P_law_sent_b
  have hs := nt_send (s := s) h l
  generalize hx : tNt s m = x at *
  walk_at "p"
  rw [show clsT (Str.ofString "send") x = some (Str.ofString "Network") by rw [← hx]; kernel_rfl]
  walk_at "p"
  rw [hs]
  walk_at "p"
local macro_rules | `(tactic| walk_at "p") => `(tactic| try simp only [ZP.pPV_ap, ZP.up_ap, ZP.getT_nil, ZP.pCons_ap, ZP.p1Cons_ap, ZP.pRet_ap, ZP.consT1_z, ZP.rz_bind_ok, ZP.rz_at_ok, ZP.r1_bind_ok, ZP.r1_bind_exc, ZP.setT_nil, ZP.pC_ap, ZP.pTry_ap, ZP.r1_toP_exc, ZP.pMM_ap, ZP.ownT_ap, ZP.p1Tup_ap, ZP.str_beq, ZP.p1Nil_ap, ZP.lk_nil, ZP.pNil_ap, ZP.atT_ap, ZP.lk_cons, ZP.updR_ap, ZP.p1Fz_ap, ZP.pV_ap, Int.reduceLT, Int.reduceLE, Int.reduceGT, Int.reduceGE, Int.reduceNeg, Int.reducePow, Int.reduceAdd, Int.reduceSub, Int.reduceMul, Int.reduceEq, Int.reduceToNat, Int.reduceMod, Int.reduceDiv, Nat.reduceLT, Nat.reduceLeDiff, Nat.reduceAdd, Nat.reduceSub, Nat.reduceEqDiff, Nat.reduceMul, Nat.reducePow, decide_true, decide_false, Bool.and_self, Bool.and_true, Bool.true_and, Bool.and_false, Bool.false_and, Bool.or_true, Bool.true_or, Bool.or_false, Bool.false_or, Bool.or_self, reduceCtorEq, sizeL, isSome_some, List.length_map, and_self, natAbs_10, natAbs_2, List.getElem?_cons_zero, List.getElem?_cons_succ, List.set_cons_zero, List.set_cons_succ, List.map_cons, List.map_nil, List.replicate, List.cons_append, List.nil_append, List.length_cons, List.length_nil, Bool.false_xor, Bool.true_xor, if_true, if_false, Bool.false_eq_true, Bool.not_true, Bool.not_false, Option.map_some, Option.map_none, Option.bind_some, Option.bind_none, List.append_nil, List.length_append, slen_one, Int.cast_ofNat_Int, eq_self])
theorem law_sent_bad {s : Int} {m : List (Int × Zv)} {v : Zv} (h : P_is_message [.z v] = .ok (.z (.bl false))) : P_law_sent [tNt s m, .z v] = .ok (.z (.tup [.str "refused", .bl true])) (tNt s m) := by
  rw [P_law_sent_ap]
  unfold P_law_sent_b
  have hs := nt_send_bad (s := s) (m := m) h
  generalize hx : tNt s m = x at *
  walk_at "p"
  rw [show clsT (Str.ofString "send") x = some (Str.ofString "Network") by rw [← hx]; kernel_rfl]
  walk_at "p"
  rw [hs]
  walk_at "p"
  rfl
local macro_rules | `(tactic| walk_at "p") => `(tactic| try simp only [ZP.pPV_ap, ZP.thenP_rt, ZP.pSeq_ap, ZP.up_ap, ZP.pTru_ap, ZP.getT_nil, ZP.pCons_ap, ZP.p1Cons_ap, ZP.pRet_ap, ZP.pNop_ap, ZP.consT1_z, ZP.endM_rt, ZP.rz_bind_ok, ZP.rz_at_ok, ZP.outM_ap, ZP.r1_bind_ok, ZP.r1_toP_ok, ZP.setT_nil, ZP.pC_ap, ZP.pTry_ap, ZP.pMM_ap, ZP.truT_b, ZP.ownT_ap, ZP.p1Tup_ap, ZP.str_beq, ZP.p1Nil_ap, ZP.lk_nil, ZP.pNil_ap, ZP.toZ_z, ZP.atT_ap, ZP.lk_cons, ZP.updR_ap, ZP.tryA_ok, ZP.p1Fz_ap, ZP.pV_ap, ZP.pIf_ap, Int.reduceLT, Int.reduceLE, Int.reduceGT, Int.reduceGE, Int.reduceNeg, Int.reducePow, Int.reduceAdd, Int.reduceSub, Int.reduceMul, Int.reduceEq, Int.reduceToNat, Int.reduceMod, Int.reduceDiv, Nat.reduceLT, Nat.reduceLeDiff, Nat.reduceAdd, Nat.reduceSub, Nat.reduceEqDiff, Nat.reduceMul, Nat.reducePow, decide_true, decide_false, Bool.and_self, Bool.and_true, Bool.true_and, Bool.and_false, Bool.false_and, Bool.or_true, Bool.true_or, Bool.or_false, Bool.false_or, Bool.or_self, reduceCtorEq, sizeL, isSome_some, List.length_map, and_self, natAbs_10, natAbs_2, List.getElem?_cons_zero, List.getElem?_cons_succ, List.set_cons_zero, List.set_cons_succ, List.map_cons, List.map_nil, List.replicate, List.cons_append, List.nil_append, List.length_cons, List.length_nil, Bool.false_xor, Bool.true_xor, if_true, if_false, Bool.false_eq_true, Bool.not_true, Bool.not_false, Option.map_some, Option.map_none, Option.bind_some, Option.bind_none, List.append_nil, List.length_append, slen_one, Int.cast_ofNat_Int, eq_self])
theorem looked_drop {s k : Int} {m : List (Int × Zv)} {v : Zv} (h : lkD k m = some v) : P_law_looked [tNt s m, .z (.int k), .z (.bl true)] = .ok (.z (.tup [.str "told", .non])) (tNt s (delD m k)) := by
  rw [P_law_looked_ap]
  unfold P_law_looked_b
  have hs := nt_drop (s := s) h
  generalize hx : tNt s m = x at *
  walk_at "p"
  rw [show clsT (Str.ofString "drop") x = some (Str.ofString "Network") by rw [← hx]; kernel_rfl]
  walk_at "p"
  rw [hs]
  walk_at "p"
local macro_rules | `(tactic| walk_at "p") => `(tactic| try simp only [ZP.pPV_ap, ZP.pSeq_ap, ZP.up_ap, ZP.pTru_ap, ZP.getT_nil, ZP.pCons_ap, ZP.p1Cons_ap, ZP.pRet_ap, ZP.pNop_ap, ZP.consT1_z, ZP.rz_bind_ok, ZP.rz_at_ok, ZP.r1_bind_ok, ZP.r1_toP_ok, ZP.r1_bind_exc, ZP.setT_nil, ZP.pC_ap, ZP.pTry_ap, ZP.r1_toP_exc, ZP.pMM_ap, ZP.truT_b, ZP.ownT_ap, ZP.p1Tup_ap, ZP.thenP_exc, ZP.str_beq, ZP.p1Nil_ap, ZP.lk_nil, ZP.pNil_ap, ZP.atT_ap, ZP.lk_cons, ZP.updR_ap, ZP.p1Fz_ap, ZP.pV_ap, ZP.pIf_ap, Int.reduceLT, Int.reduceLE, Int.reduceGT, Int.reduceGE, Int.reduceNeg, Int.reducePow, Int.reduceAdd, Int.reduceSub, Int.reduceMul, Int.reduceEq, Int.reduceToNat, Int.reduceMod, Int.reduceDiv, Nat.reduceLT, Nat.reduceLeDiff, Nat.reduceAdd, Nat.reduceSub, Nat.reduceEqDiff, Nat.reduceMul, Nat.reducePow, decide_true, decide_false, Bool.and_self, Bool.and_true, Bool.true_and, Bool.and_false, Bool.false_and, Bool.or_true, Bool.true_or, Bool.or_false, Bool.false_or, Bool.or_self, reduceCtorEq, sizeL, isSome_some, List.length_map, and_self, natAbs_10, natAbs_2, List.getElem?_cons_zero, List.getElem?_cons_succ, List.set_cons_zero, List.set_cons_succ, List.map_cons, List.map_nil, List.replicate, List.cons_append, List.nil_append, List.length_cons, List.length_nil, Bool.false_xor, Bool.true_xor, if_true, if_false, Bool.false_eq_true, Bool.not_true, Bool.not_false, Option.map_some, Option.map_none, Option.bind_some, Option.bind_none, List.append_nil, List.length_append, slen_one, Int.cast_ofNat_Int, eq_self])
theorem looked_drop_bad {s k : Int} {m : List (Int × Zv)} (h : lkD k m = none) : P_law_looked [tNt s m, .z (.int k), .z (.bl true)] = .ok (.z (.tup [.str "refused", .bl true])) (tNt s m) := by
  rw [P_law_looked_ap]
  unfold P_law_looked_b
  have hs := nt_drop_bad (s := s) h
  generalize hx : tNt s m = x at *
  walk_at "p"
  rw [show clsT (Str.ofString "drop") x = some (Str.ofString "Network") by rw [← hx]; kernel_rfl]
  walk_at "p"
  rw [hs]
  walk_at "p"
  rfl
local macro_rules | `(tactic| walk_at "p") => `(tactic| try simp only [ZP.pPV_ap, ZP.pSeq_ap, ZP.up_ap, ZP.zsT_nil, ZP.pTru_ap, ZP.pTup_ap, ZP.getT_nil, ZP.rz_map_ok, ZP.pCons_ap, ZP.p1Cons_ap, ZP.pRet_ap, ZP.pNop_ap, ZP.consT1_z, ZP.endM_rt, ZP.rz_bind_ok, ZP.rz_at_ok, ZP.pMet_ap, ZP.outM_ap, ZP.tupT_ap, ZP.r1_bind_ok, ZP.r1_toP_ok, ZP.setT_nil, ZP.pC_ap, ZP.pTry_ap, ZP.pMM_ap, ZP.truT_b, ZP.ownT_ap, ZP.p1Tup_ap, ZP.str_beq, ZP.p1Nil_ap, ZP.lk_nil, ZP.pNil_ap, ZP.toZ_z, ZP.thenP_nx, ZP.atT_ap, ZP.lk_cons, ZP.updR_ap, ZP.tryA_ok, ZP.pFz_ap, ZP.zsT_cons, ZP.p1Fz_ap, ZP.pV_ap, ZP.pIf_ap, Int.reduceLT, Int.reduceLE, Int.reduceGT, Int.reduceGE, Int.reduceNeg, Int.reducePow, Int.reduceAdd, Int.reduceSub, Int.reduceMul, Int.reduceEq, Int.reduceToNat, Int.reduceMod, Int.reduceDiv, Nat.reduceLT, Nat.reduceLeDiff, Nat.reduceAdd, Nat.reduceSub, Nat.reduceEqDiff, Nat.reduceMul, Nat.reducePow, decide_true, decide_false, Bool.and_self, Bool.and_true, Bool.true_and, Bool.and_false, Bool.false_and, Bool.or_true, Bool.true_or, Bool.or_false, Bool.false_or, Bool.or_self, reduceCtorEq, sizeL, isSome_some, List.length_map, and_self, natAbs_10, natAbs_2, List.getElem?_cons_zero, List.getElem?_cons_succ, List.set_cons_zero, List.set_cons_succ, List.map_cons, List.map_nil, List.replicate, List.cons_append, List.nil_append, List.length_cons, List.length_nil, Bool.false_xor, Bool.true_xor, if_true, if_false, Bool.false_eq_true, Bool.not_true, Bool.not_false, Option.map_some, Option.map_none, Option.bind_some, Option.bind_none, List.append_nil, List.length_append, slen_one, Int.cast_ofNat_Int, eq_self])
theorem looked {s k : Int} {m : List (Int × Zv)} {v : Zv} (h : lkD k m = some v) : P_law_looked [tNt s m, .z (.int k), .z (.bl false)] = .ok (.z (.tup [.str "told", v])) (tNt s m) := by
  rw [P_law_looked_ap]
  unfold P_law_looked_b
  have hs := nt_message (s := s) h
  generalize hx : tNt s m = x at *
  walk_at "p"
  rw [show clsT (Str.ofString "message") x = some (Str.ofString "Network") by rw [← hx]; kernel_rfl]
  walk_at "p"
  rw [hs]
  walk_at "p"
local macro_rules | `(tactic| walk_at "p") => `(tactic| try simp only [ZP.pPV_ap, ZP.pSeq_ap, ZP.up_ap, ZP.pTru_ap, ZP.pTup_ap, ZP.getT_nil, ZP.pCons_ap, ZP.p1Cons_ap, ZP.pRet_ap, ZP.pNop_ap, ZP.consT1_z, ZP.rz_bind_ok, ZP.rz_at_ok, ZP.pMet_ap, ZP.r1_bind_ok, ZP.r1_toP_ok, ZP.setT_nil, ZP.pC_ap, ZP.pTry_ap, ZP.r1_toP_exc, ZP.rz_map_exc, ZP.pMM_ap, ZP.truT_b, ZP.rz_at_exc, ZP.ownT_ap, ZP.p1Tup_ap, ZP.str_beq, ZP.rz_bind_exc, ZP.p1Nil_ap, ZP.lk_nil, ZP.pNil_ap, ZP.thenP_nx, ZP.atT_ap, ZP.lk_cons, ZP.updR_ap, ZP.pFz_ap, ZP.p1Fz_ap, ZP.pV_ap, ZP.pIf_ap, Int.reduceLT, Int.reduceLE, Int.reduceGT, Int.reduceGE, Int.reduceNeg, Int.reducePow, Int.reduceAdd, Int.reduceSub, Int.reduceMul, Int.reduceEq, Int.reduceToNat, Int.reduceMod, Int.reduceDiv, Nat.reduceLT, Nat.reduceLeDiff, Nat.reduceAdd, Nat.reduceSub, Nat.reduceEqDiff, Nat.reduceMul, Nat.reducePow, decide_true, decide_false, Bool.and_self, Bool.and_true, Bool.true_and, Bool.and_false, Bool.false_and, Bool.or_true, Bool.true_or, Bool.or_false, Bool.false_or, Bool.or_self, reduceCtorEq, sizeL, isSome_some, List.length_map, and_self, natAbs_10, natAbs_2, List.getElem?_cons_zero, List.getElem?_cons_succ, List.set_cons_zero, List.set_cons_succ, List.map_cons, List.map_nil, List.replicate, List.cons_append, List.nil_append, List.length_cons, List.length_nil, Bool.false_xor, Bool.true_xor, if_true, if_false, Bool.false_eq_true, Bool.not_true, Bool.not_false, Option.map_some, Option.map_none, Option.bind_some, Option.bind_none, List.append_nil, List.length_append, slen_one, Int.cast_ofNat_Int, eq_self])
theorem looked_bad {s k : Int} {m : List (Int × Zv)} (h : lkD k m = none) : P_law_looked [tNt s m, .z (.int k), .z (.bl false)] = .ok (.z (.tup [.str "refused", .bl true])) (tNt s m) := by
  rw [P_law_looked_ap]
  unfold P_law_looked_b
  have hs := nt_message_bad (s := s) h
  generalize hx : tNt s m = x at *
  walk_at "p"
  rw [show clsT (Str.ofString "message") x = some (Str.ofString "Network") by rw [← hx]; kernel_rfl]
  walk_at "p"
  rw [hs]
  walk_at "p"
  rfl
theorem bag_keys {m : List (Int × Zv)} : (dZ KI (fun v : Zv => v) m).map Prod.fst = (m.map Prod.fst).map Zv.int := by
  unfold dZ
  rw [List.map_map, List.map_map]
  rfl
theorem asc_sort {xs : List Int} (h : xs.Pairwise (· < ·)) : sortI xs = xs := (sortI_uniq (List.Perm.refl xs) (h.imp fun {a b} z => Int.le_of_lt z)).symm
theorem sortT_I {ns : List Int} : sortT [.lst (ns.map Zv.int)] = .ok (.lst ((sortI ns).map Zv.int)) := by
  show (match sortZ (ns.map Zv.int) with
      | some ys => Rz.ok (T.lst ys)
      | none => .stuck) = _
  unfold sortZ
  rw [intsZ_map]
theorem eqZ_I {neg : Bool} {xs ys : List Int} : eqZ neg (.lst (xs.map Zv.int)) (.lst (ys.map Zv.int)) = .ok (.bl (xor neg (decide (xs = ys)))) := eInt.lst.eq (by decide) neg xs ys
theorem keys_o {s : Int} {m : List (Int × Zv)} (l : m.length ≤ 10000) : keysO "Network" "_bag" 5 4 (tNt s m) = .ok (.lst ((m.map Prod.fst).map Zv.int)) := by
  show (if (Z.fieldsOf "Network").contains "_bag" then keysU 5 4 (.dct false (dZ KI (fun v : Zv => v) m)) else .stuck) = _
  rw [if_pos (by decide +kernel)]
  show (if ((dZ KI (fun v : Zv => v) m).map Prod.fst).length ≤ sizeLine ∧ 4 < 5 then Rz.ok (T.lst ((dZ KI (fun v : Zv => v) m).map Prod.fst)) else .stuck) = _
  rw [if_pos ⟨by rw [List.length_map, dZ_len, sizeLine_eq]; omega, by decide⟩, bag_keys]
theorem bag_lst {m : List (Int × Zv)} {b : T} (hb : b = .dct false (dZ KI (fun v : Zv => v) m) ∨ b = .z (.dct false (dZ KI (fun v : Zv => v) m))) : lstdT [b] = .ok (.lst ((m.map Prod.fst).map Zv.int)) := by
  rw [← bag_keys]
  rcases hb with rfl | rfl <;> rfl
theorem bag_len {m : List (Int × Zv)} {b : T} (hb : b = .dct false (dZ KI (fun v : Zv => v) m) ∨ b = .z (.dct false (dZ KI (fun v : Zv => v) m))) : lenG b = .ok (.int m.length) := by
  rw [← dZ_len (K := KI) (f := fun v : Zv => v)]
  rcases hb with rfl | rfl <;> rfl
local macro_rules | `(tactic| walk_at "p") => `(tactic| try simp only [ZP.pPV_ap, ZP.pSeq_ap, ZP.up_ap, ZP.pTru_ap, ZP.getT_nil, ZP.kitx_list_list, ZP.pFld_ap, ZP.rz_map_ok, ZP.pCons_ap, ZP.pIsi_ap, ZP.pRet_ap, ZP.pNop_ap, ZP.rz_z_ok, ZP.rz_bind_ok, ZP.tyBT_l, ZP.eqZ_ii, ZP.rz_at_ok, ZP.pMet_ap, ZP.tyT_o, ZP.pKeysO_ap, ZP.lenT_ap, ZP.r1_toP_ok, ZP.asB_b, ZP.pAsg_ap, ZP.pTNot_ap, ZP.setT_nil, ZP.pC_ap, ZP.pBMM_ap, ZP.endP_rt, ZP.val_l, ZP.truT_b, ZP.val_z, ZP.pTB_ap, ZP.ownT_ap, ZP.tyT_i, ZP.eqT_ap, ZP.pCall_ap, ZP.str_beq, ZP.lk_nil, ZP.pNil_ap, ZP.pBin_ap, ZP.pTOr_ap, ZP.thenP_nx, ZP.atT_ap, ZP.kitx_int_bool, ZP.lk_cons, ZP.updR_ap, ZP.appT_ap, ZP.isiT_ap, ZP.pExpr_ap, ZP.pV_ap, ZP.pIf_ap, Int.reduceLT, Int.reduceLE, Int.reduceGT, Int.reduceGE, Int.reduceNeg, Int.reducePow, Int.reduceAdd, Int.reduceSub, Int.reduceMul, Int.reduceEq, Int.reduceToNat, Int.reduceMod, Int.reduceDiv, Nat.reduceLT, Nat.reduceLeDiff, Nat.reduceAdd, Nat.reduceSub, Nat.reduceEqDiff, Nat.reduceMul, Nat.reducePow, decide_true, decide_false, Bool.and_self, Bool.and_true, Bool.true_and, Bool.and_false, Bool.false_and, Bool.or_true, Bool.true_or, Bool.or_false, Bool.false_or, Bool.or_self, reduceCtorEq, sizeL, isSome_some, List.length_map, and_self, natAbs_10, natAbs_2, List.getElem?_cons_zero, List.getElem?_cons_succ, List.set_cons_zero, List.set_cons_succ, List.map_cons, List.map_nil, List.replicate, List.cons_append, List.nil_append, List.length_cons, List.length_nil, Bool.false_xor, Bool.true_xor, if_true, if_false, Bool.false_eq_true, Bool.not_true, Bool.not_false, Option.map_some, Option.map_none, Option.bind_some, Option.bind_none, List.append_nil, List.length_append, slen_one, Int.cast_ofNat_Int, eq_self])
theorem law_holds {s : Int} {m : List (Int × Zv)} {b : T} (hb : b = .dct false (dZ KI (fun v : Zv => v) m) ∨ b = .z (.dct false (dZ KI (fun v : Zv => v) m))) (h : (m.map Prod.fst).Pairwise (· < ·)) (l : m.length ≤ 10000) : P_law_holds [tNt s m, b, .z (.int s)] = .ok (.z (.bl true)) := by
  rw [P_law_holds_ap]
  unfold P_law_holds_b
  have e1 := nt_numbers (s := s) (m := m) l
  have e2 := nt_len (s := s) (m := m)
  walk_at "p"
  rw [show clsT (Str.ofString "numbers") (tNt s m) = some (Str.ofString "Network") by kernel_rfl]
  walk_at "p"
  rw [e1]
  walk_at "p"
  rw [bag_lst hb, keys_o l]
  walk_at "p"
  rw [sortT_I, asc_sort h]
  walk_at "p"
  rw [eqZ_I]
  walk_at "p"
  have e3 : ownLenT [(Str.ofString "Network", P_Network___len__)] [tNt s m] = .ok (.z (.int m.length)) := by
    show (match [(Str.ofString "Network", P_Network___len__)].lookup (Str.ofString "Network") with
      | some P => (match P [tNt s m] with
        | .ok (.z (.int n)) => if decide (0 ≤ n) && i62 n then Rz.ok (T.z (.int n)) else .stuck
        | _ => .stuck)
      | none => .stuck) = _
    rw [show [(Str.ofString "Network", P_Network___len__)].lookup (Str.ofString "Network") = some P_Network___len__ from rfl]
    dsimp only
    rw [e2]
    dsimp only
    rw [if_pos]
    rw [i62_of (by omega) (by omega), Bool.and_true, decide_eq_true_eq]
    omega
  rw [e3, bag_len hb, show fldT (Str.ofString "sent") (tNt s m) = .ok (.z (.int s)) from rfl]
  walk_at "p"
  rw [if_pos (by omega)]
  walk_at "p"
  rw [show clsT (Str.ofString "numbers") (tNt s m) = some (Str.ofString "Network") by kernel_rfl]
  walk_at "p"
  rw [e1, bag_lst hb]
  walk_at "p"
  rw [sortT_I, asc_sort h]
  walk_at "p"
  rw [eqZ_I]
  walk_at "p"
theorem pPI_v {ps : PEnv} {r n : Nat} {pi : P0} {ts : List T} {j : Int} (h1 : ownT ps r = some (.nst ts)) (h2 : pi ps = .ok (.z (.int j))) (h3 : L2.ixN ts.length j = some n) : pPI r (pPV r) pi ps = .ok [n] := by
  unfold pPI pPV
  rw [h1]
  show (pi ps).bind _ = _
  rw [h2]
  show (match atT ps r [], (T.z (.int j)) with
    | some (.nst ts), .z (.int j) => (match L2.ixN ts.length j with
      | some n => Rz.ok ([] ++ [n])
      | none => .stuck)
    | _, _ => .stuck) = _
  have : atT ps r [] = some (.nst ts) := by unfold atT; rw [h1]; rfl
  rw [this]
  dsimp only
  rw [h3]
  rfl
end Y

namespace Y
open PySem L2 Z ZP
def P_law_LH : PS := (pIf (up (pTOr (pTNot (pTru (pCall P_law_holds (pCons (pBin ixT (pV 2) (pC (.int 0))) (pCons (pIxD (pV 3) (pC (.int 0))) (pCons (pBin ixT (pV 4) (pC (.int 0))) (pNil))))))) (pTNot (pTru (pCall P_law_holds (pCons (pBin ixT (pV 2) (pC (.int 1))) (pCons (pIxD (pV 3) (pC (.int 1))) (pCons (pBin ixT (pV 4) (pC (.int 1))) (pNil))))))))) (pRet (up (pC (.bl false)))) (pNop))
def P_law_LA : PS := (pIf (up (pTB (pBin (ltT) (pBin (modT) (pBin (fdivT) (pV 6) (pC (.int 2))) (pC (.int 5))) (pC (.int 2))))) (pSeq (pAsg (up (pFz (pCall P_law_message (pCons (pV 7) (pNil))))) 10) (pSeq (pPut 4 (pPV 4) (pV 8) (pFz (pBin (addT) (pBin ixT (pV 4) (pV 8)) (pC (.int 1))))) (pSeq (pIf (p1TB (p1Bin (eqT true) (p1Fz (pM 2 P_law_sent (pA0 2 (pPI 2 (pPV 2) (pV 8)) (pCons (pV 10) (pNil))))) (up (pTup (pCons (pC (.str "sent")) (pCons (pZ (pBin ixT (pV 4) (pV 8))) (pNil))))))) (pRet (up (pC (.bl false)))) (pNop)) (pPutD 9 (pPV 9) (pBin ixT (pV 4) (pV 8)) (pZ (pV 10)))))) (pIf (up (pTB (pBin (eqT false) (pBin (modT) (pBin (fdivT) (pV 6) (pC (.int 2))) (pC (.int 5))) (pC (.int 2))))) (pIf (p1TB (p1Bin (eqT true) (p1Fz (pM 2 P_law_sent (pA0 2 (pPI 2 (pPV 2) (pV 8)) (pCons (pCall P_law_bad (pCons (pV 7) (pNil))) (pNil))))) (up (pTup (pCons (pC (.str "refused")) (pCons (pC (.bl true)) (pNil))))))) (pRet (up (pC (.bl false)))) (pNop)) (pSeq (pAsg (up (pBin (subT) (pBin (modT) (pV 7) (pBin (addT) (pBin ixT (pV 4) (pV 8)) (pC (.int 3)))) (pC (.int 1)))) 11) (pSeq (pAsg (up (pBin (eqT false) (pBin (modT) (pBin (fdivT) (pV 6) (pC (.int 2))) (pC (.int 5))) (pC (.int 4)))) 12) (pSeq (pAsg (up (pTup (pCons (pC (.str "refused")) (pCons (pC (.bl true)) (pNil))))) 13) (pSeq (pIf (up (pTB (pBin ((inDT false)) (pV 11) (pV 9)))) (pSeq (pAsg (up (pTup (pCons (pC (.str "told")) (pCons (pZ (pBin ixT (pTup (pCons (pZ (pIxD (pV 9) (pV 11))) (pCons (pC .non) (pNil)))) (pCall intcT (pCons (pV 12) (pNil))))) (pNil))))) 13) (pIf (up (pTru (pV 12))) (pDpop 9 (pPV 9) (pV 11)) (pNop))) (pNop)) (pIf (p1TB (p1Bin (eqT true) (p1Fz (pM 2 P_law_looked (pA0 2 (pPI 2 (pPV 2) (pV 8)) (pCons (pV 11) (pCons (pV 12) (pNil)))))) (up (pZ (pV 13))))) (pRet (up (pC (.bl false)))) (pNop))))))))
def P_law_L5 : PS := (pSeq (pAsg (up (pFz (pCall P_law_draw (pCons (pV 1) (pCons (pBin (mulT) (pC (.int 2)) (pV 5)) (pNil)))))) 6) (pSeq (pAsg (up (pFz (pCall P_law_draw (pCons (pV 1) (pCons (pBin (addT) (pBin (mulT) (pC (.int 2)) (pV 5)) (pC (.int 1))) (pNil)))))) 7) (pSeq (pAsg (up (pBin (modT) (pV 6) (pC (.int 2)))) 8) (pSeq (pAlsM 9 3 (pPI 3 (pPV 3) (pV 8)) P_law_LA) P_law_LH))))
def P_law_C6 : PS := (pSeq (pFrS 3 (pForD wKeys (pIxD (pV 3) (pC (.int 0))) (pgN 11) (pIf (p1TB (p1Bin (eqT true) (p1Fz (pM 2 P_law_looked (pA0 2 (pPI 2 (pPV 2) (pC (.int 0))) (pCons (pV 11) (pCons (pC (.bl false)) (pNil)))))) (up (pTup (pCons (pC (.str "told")) (pCons (pZ (pIxD (pIxD (pV 3) (pC (.int 0))) (pV 11))) (pNil))))))) (pRet (up (pC (.bl false)))) (pNop)))) (pRet (up (pC (.bl true)))))
def P_law_C5 : PS := (pSeq (pFor (pRng1 (pCons (pCall min2T (pCons (pC (.int 50)) (pCons (pBin (fdivT) (pCall lenT (pCons (pV 1) (pNil))) (pC (.int 2))) (pNil)))) (pNil))) (pgN 5) P_law_L5) P_law_C6)
theorem P_law_b0 : P_law_b = (pSeq (pAsg (up (pFz (pCall P_law_stream (pCons (pV 0) (pCons (pC (.int 100)) (pNil)))))) 1) (pSeq (pAsg (up (pNst (pnCons (pCall0 (pMake "Network" P_Network___init__)) (pnCons (pCall0 (pMake "Network" P_Network___init__)) (pnNil))))) 2) (pSeq (pAsg (up (pNst (pnCons (pDn false) (pnCons (pDn false) (pnNil))))) 3) (pSeq (pAsg (up (pLst (pCons (pC (.int 0)) (pCons (pC (.int 0)) (pNil))))) 4) (pSeq (pIf (up (pTNot (pTru (pCall P_law_holds (pCons (pBin ixT (pV 2) (pC (.int 0))) (pCons (pFz (pDn false)) (pCons (pC (.int 0)) (pNil)))))))) (pRet (up (pC (.bl false)))) (pNop)) P_law_C5))))) := id rfl
structure Nt (N : Nat) (s : Int) (m : List (Int × Zv)) : Prop where
  s0 : 0 ≤ s
  sN : s ≤ N
  asc : (m.map Prod.fst).Pairwise (· < ·)
  le : ∀ p ∈ m, p.1 ≤ s
  ms : ∀ p ∈ m, MsOk p.2
  len : m.length ≤ N
abbrev dM (m : List (Int × Zv)) : List (Zv × Zv) := dZ KI (fun v : Zv => v) m
theorem lk_none {k : Int} : ∀ {m : List (Int × Zv)}, (∀ p ∈ m, p.1 ≠ k) → lkD k m = none
  | [], _ => rfl
  | p :: m, h => by
    unfold lkD
    rw [if_neg (h p (by simp))]
    exact lk_none fun q hq => h q (by simp [hq])
theorem lk_mem {k : Int} {v : Zv} : ∀ {m : List (Int × Zv)}, lkD k m = some v → (k, v) ∈ m
  | p :: m, h => by
    unfold lkD at h
    split at h
    · rename_i c
      cases h
      obtain ⟨a, b⟩ := p
      have c : a = k := c
      subst c
      simp
    · exact List.mem_cons_of_mem _ (lk_mem h)
theorem Nt.put {N : Nat} {s : Int} {m : List (Int × Zv)} {v : Zv} (h : Nt N s m) (hv : MsOk v) : putD m (s + 1) v = m ++ [(s + 1, v)] ∧ Nt (N + 1) (s + 1) (m ++ [(s + 1, v)]) := by
  have hn : lkD (s + 1) m = none := lk_none fun p hp e => by have := h.le p hp; omega
  refine ⟨by unfold putD; rw [hn]; rfl, ⟨by have := h.s0; omega, by have := h.sN; omega, ?_, fun p hp => ?_, fun p hp => ?_, by have := h.len; simp; omega⟩⟩
  · rw [List.map_append, List.pairwise_append]
    refine ⟨h.asc, by simp, fun a ha b hb => ?_⟩
    simp at hb
    subst hb
    obtain ⟨p, hp, rfl⟩ := List.mem_map.mp ha
    have := h.le p hp
    omega
  · rcases List.mem_append.mp hp with q | q
    · have := h.le p q; omega
    · simp at q; subst q; exact Int.le_refl _
  · rcases List.mem_append.mp hp with q | q
    · exact h.ms p q
    · simp at q; subst q; exact hv
theorem Nt.del {N : Nat} {s : Int} {m : List (Int × Zv)} (h : Nt N s m) (k : Int) : Nt N s (delD m k) :=
  ⟨h.s0, h.sN, h.asc.sublist (List.Sublist.map _ List.filter_sublist), fun p hp => h.le p (List.mem_filter.mp hp).1, fun p hp => h.ms p (List.mem_filter.mp hp).1, Nat.le_trans (List.length_filter_le _ _) h.len⟩
theorem Nt.up {N : Nat} {s : Int} {m : List (Int × Zv)} (h : Nt N s m) : Nt (N + 1) s m := ⟨h.s0, by have := h.sN; omega, h.asc, h.le, h.ms, by have := h.len; omega⟩
theorem eq_rr : eqZ true (.tup [.str "refused", .bl true]) (.tup [.str "refused", .bl true]) = .ok (.bl false) := by kernel_rfl
theorem eq_tn : eqZ true (.tup [.str "told", .non]) (.tup [.str "told", .non]) = .ok (.bl false) := by kernel_rfl
theorem eq_rf {k : Nat} {v : Zv} (hk : k ≤ 20) (h : TmV k v) : eqZ true v v = .ok (.bl false) := by
  obtain ⟨b, e, hb⟩ := eq_tm (neg := true) hk hk h h
  rw [e, hb.mpr rfl]; rfl
local macro_rules | `(tactic| walk_at "p") => `(tactic| try simp only [ZP.pPV_ap, ZP.rz_toP_ok, ZP.asZ_z, ZP.pSeq_ap, ZP.getT_nst, ZP.up_ap, ZP.zsT_nil, ZP.pTru_ap, ZP.pTup_ap, ZP.getT_nil, ZP.modT_ii, ZP.atI_k0, ZP.ltT_ii, ZP.rz_map_ok, ZP.pCons_ap, ZP.ixN_20, ZP.pA0_ap, ZP.p1TB_ap, ZP.pPut_ap, ZP.ixT_o, ZP.putQ_l, ZP.pRet_ap, ZP.pNop_ap, ZP.rz_z_ok, ZP.rz_bind_ok, ZP.pDpop_ap, ZP.eqZ_ii, ZP.rz_at_ok, ZP.intcT_b, ZP.delP_k, ZP.tupT_ap, ZP.r1_bind_ok, ZP.r1_toP_ok, ZP.asB_b, ZP.subT_ii, ZP.pAsg_ap, ZP.fdivT_ii, ZP.inDT_d, ZP.pM_ap, ZP.setT_nil, ZP.pC_ap, ZP.truT_b, ZP.putDD_d, ZP.pPutD_ap, ZP.val_z, ZP.pTB_ap, ZP.ownT_ap, ZP.p1Bin_ap, ZP.eqT_ap, ZP.addT_ii, ZP.setT_nst, ZP.z2_z, ZP.putP_ap, ZP.pCall_ap, ZP.atI_k1, ZP.pIxD_ap, ZP.pNil_ap, ZP.pBin_ap, ZP.ixT_t, ZP.toZ_z, ZP.thenP_nx, ZP.ixDT_d, ZP.atT_ap, ZP.pZ_ap, ZP.updR_ap, ZP.pFz_ap, ZP.zsT_cons, ZP.p1Fz_ap, ZP.pV_ap, ZP.pIf_ap, Int.reduceLT, Int.reduceLE, Int.reduceGT, Int.reduceGE, Int.reduceNeg, Int.reducePow, Int.reduceAdd, Int.reduceSub, Int.reduceMul, Int.reduceEq, Int.reduceToNat, Int.reduceMod, Int.reduceDiv, Nat.reduceLT, Nat.reduceLeDiff, Nat.reduceAdd, Nat.reduceSub, Nat.reduceEqDiff, Nat.reduceMul, Nat.reducePow, decide_true, decide_false, Bool.and_self, Bool.and_true, Bool.true_and, Bool.and_false, Bool.false_and, Bool.or_true, Bool.true_or, Bool.or_false, Bool.false_or, Bool.or_self, reduceCtorEq, sizeL, isSome_some, List.length_map, and_self, natAbs_10, natAbs_2, List.getElem?_cons_zero, List.getElem?_cons_succ, List.set_cons_zero, List.set_cons_succ, List.map_cons, List.map_nil, List.replicate, List.cons_append, List.nil_append, List.length_cons, List.length_nil, Bool.false_xor, Bool.true_xor, if_true, if_false, Bool.false_eq_true, Bool.not_true, Bool.not_false, Option.map_some, Option.map_none, Option.bind_some, Option.bind_none, List.append_nil, List.length_append, slen_one, Int.cast_ofNat_Int, eq_self])
theorem law_LA0 {N : Nat} {s d mo : Int} {m : List (Int × Zv)} {ds : List Zv} {so : Zv} {o : T} {scr e5 e10 e11 e12 e13 : Option En} (hN : N ≤ 50) (h : Nt N s m) (d0 : 0 ≤ d) (d1 : d < 5040) (m0 : 0 ≤ mo) (m1 : mo < 5040) :
    ∃ s' m' f10 f11 f12 f13, Nt (N + 1) s' m' ∧ P_law_LA [scr, some (.own (.z (.lst ds))), some (.own (.nst [tNt s m, o])), none, some (.own (.lst [.int s, so])), e5, some (.own (.z (.int d))), some (.own (.z (.int mo))), some (.own (.z (.int 0))), some (.par (.dct false (dM m))), e10, e11, e12, e13] = .ok .nx [scr, some (.own (.z (.lst ds))), some (.own (.nst [tNt s' m', o])), none, some (.own (.lst [.int s', so])), e5, some (.own (.z (.int d))), some (.own (.z (.int mo))), some (.own (.z (.int 0))), some (.par (.dct false (dM m'))), f10, f11, f12, f13] := by
  have hs := h.s0
  have hl := h.len
  unfold P_law_LA
  walk_at "p"
  by_cases c1 : d / 2 % 5 < 2
  · simp only [decide_eq_true c1]
    walk_at "p"
    obtain ⟨v, ev, hv⟩ := law_message m0 m1
    rw [ev]
    obtain ⟨ep, hp⟩ := h.put hv
    walk_at "p"
    rw [pPI_v (r := 2) (n := 0) (j := 0) (ts := [tNt s m, o]) rfl rfl rfl]
    walk_at "p"
    rw [law_sent hv.ok (by omega), ep]
    walk_at "p"
    rw [eq_rf (k := 9) (by decide) (tm2 (tm_s (by decide +kernel)) tm_i)]
    walk_at "p"
    rw [show putDk 9 [] false (dM m) (Zv.int (s + 1)) v _ = _ from putDk_d (K := KI) (f := fun v : Zv => v) (k := s + 1) (v := v) (by omega), ep]
    exact ⟨s + 1, _, _, _, _, _, hp, rfl⟩
  · simp only [decide_eq_false c1]
    walk_at "p"
    by_cases c2 : d / 2 % 5 = 2
    · simp only [decide_eq_true c2]
      walk_at "p"
      obtain ⟨v, ev, hv⟩ := law_bad (d := mo) m0
      rw [ev]
      walk_at "p"
      rw [pPI_v (r := 2) (n := 0) (j := 0) (ts := [tNt s m, o]) rfl rfl rfl]
      walk_at "p"
      rw [law_sent_bad hv]
      walk_at "p"
      rw [eq_rr]
      walk_at "p"
      exact ⟨s, m, _, _, _, _, h.up, rfl⟩
    · simp only [decide_eq_false c2]
      walk_at "p"
      rw [modT_ii (show 0 < s + 3 by omega)]
      walk_at "p"
      generalize mo % (s + 3) - 1 = k
      have ind := inDk_d (K := KI) (f := fun v : Zv => v) (neg := false) (k := k) (l := m)
      by_cases c3 : d / 2 % 5 = 4
      · simp only [decide_eq_true c3]
        walk_at "p"
        rw [show inDk false false (dM m) (Zv.int k) = _ from ind]
        cases hk : lkD k m with
        | none =>
          simp only [Option.isSome_none, Bool.xor_false]
          walk_at "p"
          rw [pPI_v (r := 2) (n := 0) (j := 0) (ts := [tNt s m, o]) rfl rfl rfl]
          walk_at "p"
          rw [looked_drop_bad hk]
          walk_at "p"
          rw [eq_rr]
          walk_at "p"
          exact ⟨s, m, _, _, _, _, h.up, rfl⟩
        | some v =>
          simp only [Option.isSome_some, Bool.xor_false, Bool.false_bne]
          walk_at "p"
          rw [show dgk false (dM m) (Zv.int k) = _ from dgk_d (K := KI) (f := fun v : Zv => v) hk]
          walk_at "p"
          rw [show hasZ (Zv.int k) (dM m) = true by rw [show hasZ (Zv.int k) (dM m) = _ from hasZ_d (K := KI) (f := fun v : Zv => v) k m, hk]; rfl, show delZ (dM m) (Zv.int k) = dM (delD m k) from delZ_d]
          rw [if_pos (show (keyZ (Zv.int k) && true) = true from rfl)]
          walk_at "p"
          rw [pPI_v (r := 2) (n := 0) (j := 0) (ts := [tNt s m, o]) rfl rfl rfl]
          walk_at "p"
          rw [looked_drop hk]
          walk_at "p"
          rw [eq_tn]
          walk_at "p"
          exact ⟨s, delD m k, _, _, _, _, (h.del k).up, rfl⟩
      · simp only [decide_eq_false c3]
        walk_at "p"
        rw [show inDk false false (dM m) (Zv.int k) = _ from ind]
        cases hk : lkD k m with
        | none =>
          simp only [Option.isSome_none, Bool.xor_false]
          walk_at "p"
          rw [pPI_v (r := 2) (n := 0) (j := 0) (ts := [tNt s m, o]) rfl rfl rfl]
          walk_at "p"
          rw [looked_bad hk]
          walk_at "p"
          rw [eq_rr]
          walk_at "p"
          exact ⟨s, m, _, _, _, _, h.up, rfl⟩
        | some v =>
          simp only [Option.isSome_some, Bool.xor_false, Bool.false_bne]
          walk_at "p"
          rw [show dgk false (dM m) (Zv.int k) = _ from dgk_d (K := KI) (f := fun v : Zv => v) hk]
          walk_at "p"
          rw [pPI_v (r := 2) (n := 0) (j := 0) (ts := [tNt s m, o]) rfl rfl rfl]
          walk_at "p"
          rw [looked hk]
          walk_at "p"
          rw [eq_rf (k := 9) (by decide) (tm2 (tm_s (by decide +kernel)) (h.ms _ (lk_mem hk)).tm)]
          walk_at "p"
          exact ⟨s, m, _, _, _, _, h.up, rfl⟩
local macro_rules | `(tactic| walk_at "p") => `(tactic| try simp only [ZP.pPV_ap, ZP.rz_toP_ok, ZP.asZ_z, ZP.pSeq_ap, ZP.getT_nst, ZP.up_ap, ZP.zsT_nil, ZP.pTru_ap, ZP.pTup_ap, ZP.getT_nil, ZP.modT_ii, ZP.atI_k0, ZP.ltT_ii, ZP.rz_map_ok, ZP.pCons_ap, ZP.pA0_ap, ZP.p1TB_ap, ZP.pPut_ap, ZP.ixT_o, ZP.putQ_l, ZP.pRet_ap, ZP.pNop_ap, ZP.rz_z_ok, ZP.rz_bind_ok, ZP.pDpop_ap, ZP.eqZ_ii, ZP.rz_at_ok, ZP.intcT_b, ZP.delP_k, ZP.tupT_ap, ZP.r1_bind_ok, ZP.r1_toP_ok, ZP.asB_b, ZP.subT_ii, ZP.pAsg_ap, ZP.fdivT_ii, ZP.inDT_d, ZP.pM_ap, ZP.setT_nil, ZP.pC_ap, ZP.truT_b, ZP.putDD_d, ZP.pPutD_ap, ZP.val_z, ZP.pTB_ap, ZP.ownT_ap, ZP.p1Bin_ap, ZP.eqT_ap, ZP.addT_ii, ZP.setT_nst, ZP.z2_z, ZP.putP_ap, ZP.pCall_ap, ZP.atI_k1, ZP.pIxD_ap, ZP.pNil_ap, ZP.pBin_ap, ZP.ixT_t, ZP.toZ_z, ZP.thenP_nx, ZP.ixDT_d, ZP.ixN_21, ZP.atT_ap, ZP.pZ_ap, ZP.updR_ap, ZP.pFz_ap, ZP.zsT_cons, ZP.p1Fz_ap, ZP.pV_ap, ZP.pIf_ap, Int.reduceLT, Int.reduceLE, Int.reduceGT, Int.reduceGE, Int.reduceNeg, Int.reducePow, Int.reduceAdd, Int.reduceSub, Int.reduceMul, Int.reduceEq, Int.reduceToNat, Int.reduceMod, Int.reduceDiv, Nat.reduceLT, Nat.reduceLeDiff, Nat.reduceAdd, Nat.reduceSub, Nat.reduceEqDiff, Nat.reduceMul, Nat.reducePow, decide_true, decide_false, Bool.and_self, Bool.and_true, Bool.true_and, Bool.and_false, Bool.false_and, Bool.or_true, Bool.true_or, Bool.or_false, Bool.false_or, Bool.or_self, reduceCtorEq, sizeL, isSome_some, List.length_map, and_self, natAbs_10, natAbs_2, List.getElem?_cons_zero, List.getElem?_cons_succ, List.set_cons_zero, List.set_cons_succ, List.map_cons, List.map_nil, List.replicate, List.cons_append, List.nil_append, List.length_cons, List.length_nil, Bool.false_xor, Bool.true_xor, if_true, if_false, Bool.false_eq_true, Bool.not_true, Bool.not_false, Option.map_some, Option.map_none, Option.bind_some, Option.bind_none, List.append_nil, List.length_append, slen_one, Int.cast_ofNat_Int, eq_self])
theorem law_LA1 {N : Nat} {s d mo : Int} {m : List (Int × Zv)} {ds : List Zv} {so : Zv} {o : T} {scr e5 e10 e11 e12 e13 : Option En} (hN : N ≤ 50) (h : Nt N s m) (d0 : 0 ≤ d) (d1 : d < 5040) (m0 : 0 ≤ mo) (m1 : mo < 5040) :
    ∃ s' m' f10 f11 f12 f13, Nt (N + 1) s' m' ∧ P_law_LA [scr, some (.own (.z (.lst ds))), some (.own (.nst [o, tNt s m])), none, some (.own (.lst [so, .int s])), e5, some (.own (.z (.int d))), some (.own (.z (.int mo))), some (.own (.z (.int 1))), some (.par (.dct false (dM m))), e10, e11, e12, e13] = .ok .nx [scr, some (.own (.z (.lst ds))), some (.own (.nst [o, tNt s' m'])), none, some (.own (.lst [so, .int s'])), e5, some (.own (.z (.int d))), some (.own (.z (.int mo))), some (.own (.z (.int 1))), some (.par (.dct false (dM m'))), f10, f11, f12, f13] := by
  have hs := h.s0
  have hl := h.len
  unfold P_law_LA
  walk_at "p"
  by_cases c1 : d / 2 % 5 < 2
  · simp only [decide_eq_true c1]
    walk_at "p"
    obtain ⟨v, ev, hv⟩ := law_message m0 m1
    rw [ev]
    obtain ⟨ep, hp⟩ := h.put hv
    walk_at "p"
    rw [pPI_v (r := 2) (n := 1) (j := 1) (ts := [o, tNt s m]) rfl rfl rfl]
    walk_at "p"
    rw [law_sent hv.ok (by omega), ep]
    walk_at "p"
    rw [eq_rf (k := 9) (by decide) (tm2 (tm_s (by decide +kernel)) tm_i)]
    walk_at "p"
    rw [show putDk 9 [] false (dM m) (Zv.int (s + 1)) v _ = _ from putDk_d (K := KI) (f := fun v : Zv => v) (k := s + 1) (v := v) (by omega), ep]
    exact ⟨s + 1, _, _, _, _, _, hp, rfl⟩
  · simp only [decide_eq_false c1]
    walk_at "p"
    by_cases c2 : d / 2 % 5 = 2
    · simp only [decide_eq_true c2]
      walk_at "p"
      obtain ⟨v, ev, hv⟩ := law_bad (d := mo) m0
      rw [ev]
      walk_at "p"
      rw [pPI_v (r := 2) (n := 1) (j := 1) (ts := [o, tNt s m]) rfl rfl rfl]
      walk_at "p"
      rw [law_sent_bad hv]
      walk_at "p"
      rw [eq_rr]
      walk_at "p"
      exact ⟨s, m, _, _, _, _, h.up, rfl⟩
    · simp only [decide_eq_false c2]
      walk_at "p"
      rw [modT_ii (show 0 < s + 3 by omega)]
      walk_at "p"
      generalize mo % (s + 3) - 1 = k
      have ind := inDk_d (K := KI) (f := fun v : Zv => v) (neg := false) (k := k) (l := m)
      by_cases c3 : d / 2 % 5 = 4
      · simp only [decide_eq_true c3]
        walk_at "p"
        rw [show inDk false false (dM m) (Zv.int k) = _ from ind]
        cases hk : lkD k m with
        | none =>
          simp only [Option.isSome_none, Bool.xor_false]
          walk_at "p"
          rw [pPI_v (r := 2) (n := 1) (j := 1) (ts := [o, tNt s m]) rfl rfl rfl]
          walk_at "p"
          rw [looked_drop_bad hk]
          walk_at "p"
          rw [eq_rr]
          walk_at "p"
          exact ⟨s, m, _, _, _, _, h.up, rfl⟩
        | some v =>
          simp only [Option.isSome_some, Bool.xor_false, Bool.false_bne]
          walk_at "p"
          rw [show dgk false (dM m) (Zv.int k) = _ from dgk_d (K := KI) (f := fun v : Zv => v) hk]
          walk_at "p"
          rw [show hasZ (Zv.int k) (dM m) = true by rw [show hasZ (Zv.int k) (dM m) = _ from hasZ_d (K := KI) (f := fun v : Zv => v) k m, hk]; rfl, show delZ (dM m) (Zv.int k) = dM (delD m k) from delZ_d]
          rw [if_pos (show (keyZ (Zv.int k) && true) = true from rfl)]
          walk_at "p"
          rw [pPI_v (r := 2) (n := 1) (j := 1) (ts := [o, tNt s m]) rfl rfl rfl]
          walk_at "p"
          rw [looked_drop hk]
          walk_at "p"
          rw [eq_tn]
          walk_at "p"
          exact ⟨s, delD m k, _, _, _, _, (h.del k).up, rfl⟩
      · simp only [decide_eq_false c3]
        walk_at "p"
        rw [show inDk false false (dM m) (Zv.int k) = _ from ind]
        cases hk : lkD k m with
        | none =>
          simp only [Option.isSome_none, Bool.xor_false]
          walk_at "p"
          rw [pPI_v (r := 2) (n := 1) (j := 1) (ts := [o, tNt s m]) rfl rfl rfl]
          walk_at "p"
          rw [looked_bad hk]
          walk_at "p"
          rw [eq_rr]
          walk_at "p"
          exact ⟨s, m, _, _, _, _, h.up, rfl⟩
        | some v =>
          simp only [Option.isSome_some, Bool.xor_false, Bool.false_bne]
          walk_at "p"
          rw [show dgk false (dM m) (Zv.int k) = _ from dgk_d (K := KI) (f := fun v : Zv => v) hk]
          walk_at "p"
          rw [pPI_v (r := 2) (n := 1) (j := 1) (ts := [o, tNt s m]) rfl rfl rfl]
          walk_at "p"
          rw [looked hk]
          walk_at "p"
          rw [eq_rf (k := 9) (by decide) (tm2 (tm_s (by decide +kernel)) (h.ms _ (lk_mem hk)).tm)]
          walk_at "p"
          exact ⟨s, m, _, _, _, _, h.up, rfl⟩
local macro_rules | `(tactic| walk_at "p") => `(tactic| try simp only [ZP.up_ap, ZP.pTru_ap, ZP.atI_k0, ZP.rz_map_ok, ZP.pCons_ap, ZP.ixDT_n, ZP.ixT_o, ZP.pRet_ap, ZP.pNop_ap, ZP.rz_bind_ok, ZP.rz_at_ok, ZP.r1_toP_ok, ZP.ixT_n, ZP.pTNot_ap, ZP.pC_ap, ZP.truT_b, ZP.pCall_ap, ZP.atI_k1, ZP.pIxD_ap, ZP.pNil_ap, ZP.pBin_ap, ZP.pTOr_ap, ZP.pV_ap, ZP.pIf_ap, Int.reduceLT, Int.reduceLE, Int.reduceGT, Int.reduceGE, Int.reduceNeg, Int.reducePow, Int.reduceAdd, Int.reduceSub, Int.reduceMul, Int.reduceEq, Int.reduceToNat, Int.reduceMod, Int.reduceDiv, Nat.reduceLT, Nat.reduceLeDiff, Nat.reduceAdd, Nat.reduceSub, Nat.reduceEqDiff, Nat.reduceMul, Nat.reducePow, decide_true, decide_false, Bool.and_self, Bool.and_true, Bool.true_and, Bool.and_false, Bool.false_and, Bool.or_true, Bool.true_or, Bool.or_false, Bool.false_or, Bool.or_self, reduceCtorEq, sizeL, isSome_some, List.length_map, and_self, natAbs_10, natAbs_2, List.getElem?_cons_zero, List.getElem?_cons_succ, List.set_cons_zero, List.set_cons_succ, List.map_cons, List.map_nil, List.replicate, List.cons_append, List.nil_append, List.length_cons, List.length_nil, Bool.false_xor, Bool.true_xor, if_true, if_false, Bool.false_eq_true, Bool.not_true, Bool.not_false, Option.map_some, Option.map_none, Option.bind_some, Option.bind_none, List.append_nil, List.length_append, slen_one, Int.cast_ofNat_Int, eq_self])
theorem law_LH {N : Nat} {s0 s1 : Int} {m0 m1 : List (Int × Zv)} {e0 e1 e5 e6 e7 e8 e9 e10 e11 e12 e13 : Option En} (hN : N ≤ 60) (h0 : Nt N s0 m0) (h1 : Nt N s1 m1) :
    P_law_LH [e0, e1, some (.own (.nst [tNt s0 m0, tNt s1 m1])), some (.own (.nst [.dct false (dM m0), .dct false (dM m1)])), some (.own (.lst [.int s0, .int s1])), e5, e6, e7, e8, e9, e10, e11, e12, e13] = .ok .nx [e0, e1, some (.own (.nst [tNt s0 m0, tNt s1 m1])), some (.own (.nst [.dct false (dM m0), .dct false (dM m1)])), some (.own (.lst [.int s0, .int s1])), e5, e6, e7, e8, e9, e10, e11, e12, e13] := by
  have l0 := h0.len
  have l1 := h1.len
  unfold P_law_LH
  walk_at "p"
  rw [law_holds (.inl rfl) h0.asc (by omega), law_holds (.inl rfl) h1.asc (by omega)]
  walk_at "p"
structure Na4 (a b c d : Option En) : Prop where
  a : notAl 3 a = true
  b : notAl 3 b = true
  c : notAl 3 c = true
  d : notAl 3 d = true
theorem na_mid {e : Option En} {r : Nat} : notAl r (midE e) = true := by
  rcases e with _ | e
  · rfl
  · cases e with
    | ext t => cases t <;> rfl
    | _ => rfl
local macro_rules | `(tactic| walk_at "p") => `(tactic| try simp only [ZP.mulT_l, ZP.pSeq_ap, ZP.getT_nst, ZP.backM_ap, ZP.up_ap, ZP.getT_nil, ZP.midE_p, ZP.modT_ii, ZP.midE_o, ZP.rz_map_ok, ZP.pCons_ap, ZP.focMQ_s, ZP.isAl_s, ZP.rz_bind_ok, ZP.focMG_ap, ZP.rz_at_ok, ZP.allNA_cons, ZP.midE_z, ZP.notAl_o, ZP.backMP_ok, ZP.pAlsM_ap, ZP.r1_toP_ok, ZP.pAsg_ap, ZP.focM_ap, ZP.midsP_nil, ZP.notAl_n, ZP.setT_nil, ZP.pC_ap, ZP.notAl_e, ZP.addT_ii, ZP.setT_nst, ZP.pCall_ap, ZP.midE_n, ZP.pNil_ap, ZP.pBin_ap, ZP.toZ_z, ZP.thenP_nx, ZP.allNA_nil, ZP.midsP_cons, ZP.small_ap, ZP.pFz_ap, ZP.pV_ap, Int.reduceLT, Int.reduceLE, Int.reduceGT, Int.reduceGE, Int.reduceNeg, Int.reducePow, Int.reduceAdd, Int.reduceSub, Int.reduceMul, Int.reduceEq, Int.reduceToNat, Int.reduceMod, Int.reduceDiv, Nat.reduceLT, Nat.reduceLeDiff, Nat.reduceAdd, Nat.reduceSub, Nat.reduceEqDiff, Nat.reduceMul, Nat.reducePow, decide_true, decide_false, Bool.and_self, Bool.and_true, Bool.true_and, Bool.and_false, Bool.false_and, Bool.or_true, Bool.true_or, Bool.or_false, Bool.false_or, Bool.or_self, reduceCtorEq, sizeL, isSome_some, List.length_map, and_self, natAbs_10, natAbs_2, List.getElem?_cons_zero, List.getElem?_cons_succ, List.set_cons_zero, List.set_cons_succ, List.map_cons, List.map_nil, List.replicate, List.cons_append, List.nil_append, List.length_cons, List.length_nil, Bool.false_xor, Bool.true_xor, if_true, if_false, Bool.false_eq_true, Bool.not_true, Bool.not_false, Option.map_some, Option.map_none, Option.bind_some, Option.bind_none, List.append_nil, List.length_append, slen_one, Int.cast_ofNat_Int, eq_self])
theorem law_L5 {N : Nat} {s0 s1 : Int} {m0 m1 : List (Int × Zv)} {ds : List Int} {ns : List Int} {i : Int} {e6 e7 e8 e9 e10 e11 e12 e13 : Option En} (hN : N ≤ 50) (h0 : Nt N s0 m0) (h1 : Nt N s1 m1) (g : Na4 e10 e11 e12 e13) (hd : Dr 5040 ds) (hi : 0 ≤ i) :
    ∃ s0' m0' s1' m1' f6 f7 f8 f9 f10 f11 f12 f13, Nt (N + 1) s0' m0' ∧ Nt (N + 1) s1' m1' ∧ Na4 f10 f11 f12 f13 ∧
    P_law_L5 [some (.ext (.z (.frz (ns.map Zv.int)))), some (.own (.z (.lst (ds.map Zv.int)))), some (.own (.nst [tNt s0 m0, tNt s1 m1])), some (.own (.nst [.dct false (dM m0), .dct false (dM m1)])), some (.own (.lst [.int s0, .int s1])), some (.own (.z (.int i))), e6, e7, e8, e9, e10, e11, e12, e13] = .ok .nx [some (.ext (.z (.frz (ns.map Zv.int)))), some (.own (.z (.lst (ds.map Zv.int)))), some (.own (.nst [tNt s0' m0', tNt s1' m1'])), some (.own (.nst [.dct false (dM m0'), .dct false (dM m1')])), some (.own (.lst [.int s0', .int s1'])), some (.own (.z (.int i))), f6, f7, f8, f9, f10, f11, f12, f13] := by
  unfold P_law_L5
  walk_at "p"
  obtain ⟨d, ed, d0, d1⟩ := law_draw hd (k := 2 * i) (by omega)
  obtain ⟨mo, em, q0, q1⟩ := law_draw hd (k := 2 * i + 1) (by omega)
  rw [ed]
  walk_at "p"
  rw [em]
  walk_at "p"
  have hw : d % 2 = 0 ∨ d % 2 = 1 := by omega
  rcases hw with hw | hw
  · rw [hw]
    walk_at "p"
    rw [pPI_v (r := 3) (n := 0) (j := 0) (ts := [.dct false (dM m0), .dct false (dM m1)]) rfl rfl rfl]
    walk_at "p"
    rw [g.a, g.b, g.c, g.d]
    walk_at "p"
    obtain ⟨s', m', f10, f11, f12, f13, hn, e⟩ := law_LA0 (N := N) (s := s0) (m := m0) (ds := ds.map Zv.int) (so := .int s1) (o := tNt s1 m1) (scr := some (.ext (.z (.frz (ns.map Zv.int))))) (e5 := some (.own (.z (.int i)))) (e10 := e10) (e11 := e11) (e12 := e12) (e13 := e13) hN h0 d0 d1 q0 q1
    rw [e]
    walk_at "p"
    rw [law_LH (N := N + 1) (by omega) hn h1.up]
    exact ⟨s', m', s1, m1, _, _, _, _, _, _, _, _, hn, h1.up, ⟨na_mid, na_mid, na_mid, na_mid⟩, rfl⟩
  · rw [hw]
    walk_at "p"
    rw [pPI_v (r := 3) (n := 1) (j := 1) (ts := [.dct false (dM m0), .dct false (dM m1)]) rfl rfl rfl]
    walk_at "p"
    rw [g.a, g.b, g.c, g.d]
    walk_at "p"
    obtain ⟨s', m', f10, f11, f12, f13, hn, e⟩ := law_LA1 (N := N) (s := s1) (m := m1) (ds := ds.map Zv.int) (so := .int s0) (o := tNt s0 m0) (scr := some (.ext (.z (.frz (ns.map Zv.int))))) (e5 := some (.own (.z (.int i)))) (e10 := e10) (e11 := e11) (e12 := e12) (e13 := e13) hN h1 d0 d1 q0 q1
    rw [e]
    walk_at "p"
    rw [law_LH (N := N + 1) (by omega) h0.up hn]
    exact ⟨s0, m0, s', m', _, _, _, _, _, _, _, _, h0.up, hn, ⟨na_mid, na_mid, na_mid, na_mid⟩, rfl⟩
theorem bag_has {c : Int} : ∀ {m : List (Int × Zv)}, c ∈ m.map Prod.fst → ∃ v, lkD c m = some v
  | p :: m, h => by
    unfold lkD
    by_cases e : p.1 = c
    · rw [if_pos e]; exact ⟨_, rfl⟩
    · rw [if_neg e]
      simp at h
      rcases h with h | ⟨v, h⟩
      · exact absurd h.symm e
      · exact bag_has (List.mem_map.mpr ⟨_, h, rfl⟩)
local macro_rules | `(tactic| walk_at "p") => `(tactic| try simp only [ZP.asZ_z, ZP.pSeq_ap, ZP.getT_nst, ZP.up_ap, ZP.noXp_ok, ZP.zsT_nil, ZP.pTup_ap, ZP.getT_nil, ZP.atI_k0, ZP.pCons_ap, ZP.pA0_ap, ZP.p1TB_ap, ZP.pRet_ap, ZP.pNop_ap, ZP.rz_z_ok, ZP.stp_nx, ZP.heldZ_ap, ZP.rz_bind_ok, ZP.rz_at_ok, ZP.tupT_ap, ZP.pFv_ap, ZP.r1_bind_ok, ZP.r1_toP_ok, ZP.asB_b, ZP.heldR_k, ZP.pM_ap, ZP.setT_nil, ZP.pC_ap, ZP.endP_rt, ZP.val_z, ZP.ixDT_zl, ZP.ownT_ap, ZP.p1Bin_ap, ZP.eqT_ap, ZP.setT_nst, ZP.z2_z, ZP.pIxD_ap, ZP.pForD_ap, ZP.pNil_ap, ZP.ixT_l, ZP.pFrS_ap, ZP.toZ_z, ZP.thenP_nx, ZP.atT_ap, ZP.pZ_ap, ZP.updR_ap, ZP.ixDT_zd, ZP.zsT_cons, ZP.p1Fz_ap, ZP.pV_ap, ZP.pIf_ap, Int.reduceLT, Int.reduceLE, Int.reduceGT, Int.reduceGE, Int.reduceNeg, Int.reducePow, Int.reduceAdd, Int.reduceSub, Int.reduceMul, Int.reduceEq, Int.reduceToNat, Int.reduceMod, Int.reduceDiv, Nat.reduceLT, Nat.reduceLeDiff, Nat.reduceAdd, Nat.reduceSub, Nat.reduceEqDiff, Nat.reduceMul, Nat.reducePow, decide_true, decide_false, Bool.and_self, Bool.and_true, Bool.true_and, Bool.and_false, Bool.false_and, Bool.or_true, Bool.true_or, Bool.or_false, Bool.false_or, Bool.or_self, reduceCtorEq, sizeL, isSome_some, List.length_map, and_self, natAbs_10, natAbs_2, List.getElem?_cons_zero, List.getElem?_cons_succ, List.set_cons_zero, List.set_cons_succ, List.map_cons, List.map_nil, List.replicate, List.cons_append, List.nil_append, List.length_cons, List.length_nil, Bool.false_xor, Bool.true_xor, if_true, if_false, Bool.false_eq_true, Bool.not_true, Bool.not_false, Option.map_some, Option.map_none, Option.bind_some, Option.bind_none, List.append_nil, List.length_append, slen_one, Int.cast_ofNat_Int, eq_self])
theorem law_C6 {N : Nat} {s0 : Int} {m0 : List (Int × Zv)} {o : T} {b1 : List (Zv × Zv)} {e0 e1 e4 e5 e6 e7 e8 e9 e10 e11 e12 e13 : Option En} (hN : N ≤ 60) (h0 : Nt N s0 m0) :
    endP (P_law_C6 [e0, e1, some (.own (.nst [tNt s0 m0, o])), some (.own (.nst [.dct false (dM m0), .dct false b1])), e4, e5, e6, e7, e8, e9, e10, e11, e12, e13]) = .ok (.z (.bl true)) := by
  have hl := h0.len
  unfold P_law_C6
  walk_at "p"
  rw [show ixDT (T.z (T.nst [T.dct false (dM m0), T.dct false b1]).toZ) (T.z (Zv.int 0)) = .ok (.z (.dct false (dM m0))) from rfl]
  walk_at "p"
  rw [bag_keys]
  refine pLoop_map (Q := fun q => endP (thenP (noXp q) _) = _) Zv.int (fun pre ps => ∃ e11 : Option En, ps = [e0, e1, some (.own (.nst [tNt s0 m0, o])), some (.own (.z (.lst [.dct false (dM m0), .dct false b1]))), e4, e5, e6, e7, e8, e9, e10, e11, e12, e13]) (m0.map Prod.fst) ⟨_, rfl⟩ ?_ ?_
  · rintro pre c post ps e ⟨e11, rfl⟩
    refine ⟨_, rfl, ?_⟩
    have hc : c ∈ m0.map Prod.fst := by rw [e]; simp
    obtain ⟨v, hv⟩ := bag_has hc
    walk_at "p"
    rw [pPI_v (r := 2) (n := 0) (j := 0) (ts := [tNt s0 m0, o]) rfl rfl rfl]
    walk_at "p"
    rw [looked hv]
    walk_at "p"
    rw [show dgk false (dM m0) (Zv.int c) = .ok (.z v) from dgk_d (K := KI) (f := fun v : Zv => v) hv]
    walk_at "p"
    rw [eq_rf (k := 9) (by decide) (tm2 (tm_s (by decide +kernel)) (h0.ms _ (lk_mem hv)).tm)]
    walk_at "p"
    exact ⟨_, rfl⟩
  · rintro ps ⟨e11, rfl⟩
    walk_at "p"
theorem nt0 : Nt 0 0 [] := { s0 := by decide, sN := by decide, asc := .nil, le := (fun p hp => by cases hp), ms := (fun p hp => by cases hp), len := by decide }
local macro_rules | `(tactic| walk_at "p") => `(tactic| try simp only [ZP.pFor_ap, ZP.pSeq_ap, ZP.up_ap, ZP.pCons_ap, ZP.rz_z_ok, ZP.rz_bind_ok, ZP.rz_at_ok, ZP.lenT_ap, ZP.r1_toP_ok, ZP.lenG_l, ZP.fdivT_ii, ZP.pC_ap, ZP.pCall_ap, ZP.pRng1_ap, ZP.pNil_ap, ZP.pBin_ap, ZP.thenP_nx, ZP.min2T_i, ZP.pV_ap, Int.reduceLT, Int.reduceLE, Int.reduceGT, Int.reduceGE, Int.reduceNeg, Int.reducePow, Int.reduceAdd, Int.reduceSub, Int.reduceMul, Int.reduceEq, Int.reduceToNat, Int.reduceMod, Int.reduceDiv, Nat.reduceLT, Nat.reduceLeDiff, Nat.reduceAdd, Nat.reduceSub, Nat.reduceEqDiff, Nat.reduceMul, Nat.reducePow, decide_true, decide_false, Bool.and_self, Bool.and_true, Bool.true_and, Bool.and_false, Bool.false_and, Bool.or_true, Bool.true_or, Bool.or_false, Bool.false_or, Bool.or_self, reduceCtorEq, sizeL, isSome_some, List.length_map, and_self, natAbs_10, natAbs_2, List.getElem?_cons_zero, List.getElem?_cons_succ, List.set_cons_zero, List.set_cons_succ, List.map_cons, List.map_nil, List.replicate, List.cons_append, List.nil_append, List.length_cons, List.length_nil, Bool.false_xor, Bool.true_xor, if_true, if_false, Bool.false_eq_true, Bool.not_true, Bool.not_false, Option.map_some, Option.map_none, Option.bind_some, Option.bind_none, List.append_nil, List.length_append, slen_one, Int.cast_ofNat_Int, eq_self])
theorem law_C5 {ds ns : List Int} (hd : Dr 5040 ds) : endP (P_law_C5 [some (.ext (.z (.frz (ns.map Zv.int)))), some (.own (.z (.lst (ds.map Zv.int)))), some (.own (.nst [tNt 0 [], tNt 0 []])), some (.own (.nst [.dct false [], .dct false []])), some (.own (.lst [.int 0, .int 0])), none, none, none, none, none, none, none, none, none]) = .ok (.z (.bl true)) := by
  unfold P_law_C5
  walk_at "p"
  have h50 : ∃ q : Nat, (if (ds.length : Int) / 2 < 50 then (ds.length : Int) / 2 else 50) = (q : Int) ∧ q ≤ 50 := by
    split
    · exact ⟨ds.length / 2, by omega, by omega⟩
    · exact ⟨50, rfl, Nat.le_refl _⟩
  obtain ⟨q, eq, hq⟩ := h50
  rw [eq, if_pos (i62_of (by omega) (by omega)), Int.toNat_natCast]
  walk_at "p"
  refine pLoop_rng (Q := fun r => endP (thenP r _) = _) (fun j ps => ∃ s0 m0 s1 m1 f5 f6 f7 f8 f9 f10 f11 f12 f13, Nt j s0 m0 ∧ Nt j s1 m1 ∧ Na4 f10 f11 f12 f13 ∧ ps = [some (.ext (.z (.frz (ns.map Zv.int)))), some (.own (.z (.lst (ds.map Zv.int)))), some (.own (.nst [tNt s0 m0, tNt s1 m1])), some (.own (.nst [.dct false (dM m0), .dct false (dM m1)])), some (.own (.lst [.int s0, .int s1])), f5, f6, f7, f8, f9, f10, f11, f12, f13]) ⟨_, _, _, _, _, _, _, _, _, _, _, _, _, nt0, nt0, ⟨rfl, rfl, rfl, rfl⟩, rfl⟩ ?_ ?_
  · rintro k ps hk ⟨s0, m0, s1, m1, f5, f6, f7, f8, f9, f10, f11, f12, f13, h0, h1, g, rfl⟩
    refine ⟨_, rfl, ?_⟩
    walk_at "p"
    obtain ⟨s0', m0', s1', m1', g6, g7, g8, g9, g10, g11, g12, g13, a0, a1, ga, e⟩ := law_L5 (N := k) (ns := ns) (i := 0 + (k : Int)) (e6 := f6) (e7 := f7) (e8 := f8) (e9 := f9) (by omega) h0 h1 g hd (by omega)
    rw [e]
    exact ⟨s0', m0', s1', m1', _, _, _, _, _, _, _, _, _, a0, a1, ga, rfl⟩
  · rintro ps ⟨s0, m0, s1, m1, f5, f6, f7, f8, f9, f10, f11, f12, f13, h0, h1, g, rfl⟩
    rw [ZP.thenP_nx]
    exact law_C6 (N := q) (by omega) h0
local macro_rules | `(tactic| walk_at "p") => `(tactic| try simp only [ZP.pSeq_ap, ZP.pLst_ap, ZP.up_ap, ZP.zsT_nil, ZP.pTru_ap, ZP.atI_k0, ZP.rz_map_ok, ZP.pCons_ap, ZP.pRet_ap, ZP.pNop_ap, ZP.rz_bind_ok, ZP.toZ_lst, ZP.rz_at_ok, ZP.pMake_ap, ZP.pDn_ap, ZP.r1_toP_ok, ZP.ixT_n, ZP.pnCons_ap, ZP.pAsg_ap, ZP.pTNot_ap, ZP.pC_ap, ZP.truT_b, ZP.pNst_ap, ZP.pCall_ap, ZP.pNil_ap, ZP.pBin_ap, ZP.thenP_nx, ZP.lstT_ap, ZP.pCall0_ap, ZP.pnNil_ap, ZP.pFz_ap, ZP.zsT_cons, ZP.toZ_dct, ZP.pV_ap, ZP.pIf_ap, Int.reduceLT, Int.reduceLE, Int.reduceGT, Int.reduceGE, Int.reduceNeg, Int.reducePow, Int.reduceAdd, Int.reduceSub, Int.reduceMul, Int.reduceEq, Int.reduceToNat, Int.reduceMod, Int.reduceDiv, Nat.reduceLT, Nat.reduceLeDiff, Nat.reduceAdd, Nat.reduceSub, Nat.reduceEqDiff, Nat.reduceMul, Nat.reducePow, decide_true, decide_false, Bool.and_self, Bool.and_true, Bool.true_and, Bool.and_false, Bool.false_and, Bool.or_true, Bool.true_or, Bool.or_false, Bool.false_or, Bool.or_self, reduceCtorEq, sizeL, isSome_some, List.length_map, and_self, natAbs_10, natAbs_2, List.getElem?_cons_zero, List.getElem?_cons_succ, List.set_cons_zero, List.set_cons_succ, List.map_cons, List.map_nil, List.replicate, List.cons_append, List.nil_append, List.length_cons, List.length_nil, Bool.false_xor, Bool.true_xor, if_true, if_false, Bool.false_eq_true, Bool.not_true, Bool.not_false, Option.map_some, Option.map_none, Option.bind_some, Option.bind_none, List.append_nil, List.length_append, slen_one, Int.cast_ofNat_Int, eq_self])
theorem law_tree {ns : List Int} (hl : ns.length ≤ 63) : P_law [.z (.frz (ns.map .int))] = .ok (.z (.bl true)) := by
  obtain ⟨ds, es, hd⟩ := law_stream (many := 100) hl
  have mk : mkR (P_Network___init__ [T.ins (Str.ofString "Network") []]) = .ok (tNt 0 []) := nt_make
  rw [P_law_ap, P_law_b0]
  walk_at "p"
  rw [es]
  walk_at "p"
  rw [mk]
  walk_at "p"
  rw [show P_law_holds [tNt 0 [], T.z (Zv.dct false []), T.z (Zv.int 0)] = _ from law_holds (s := 0) (m := []) (.inr rfl) .nil (by decide)]
  walk_at "p"
  exact law_C5 hd
theorem law_true (ns : List Int) (hl : ns.length ≤ 63) (hb : ∀ z ∈ ns, Builtin.Int.intBits z ≤ 1048576) : ∃ h', F_law [.frz (ns.map W.int)] [] = .ok (.bl true) h' := law_of j_law (law_tree hl)
end Y


open PySem PySem.W PySem.Calls PyProof.Rows in
set_option maxHeartbeats 0 in
theorem PySem.Challenge.cw_ringheld_k51_network_keeps_messages_holds : PySem.Challenge.rw_ringheld_k51_network_keeps_messages.Holds := by
  w_on; o_law
  refine HandSHeadRun.head_any (r := OpenLaw.row PySem.Challenge.rw_ringheld_k51_network_keeps_messages) (q := view (OpenLaw.row PySem.Challenge.rw_ringheld_k51_network_keeps_messages).prog [29]) (H := Y.hk) (ob := Y.ob) (M := 4000) (loose := Y.looseN) (d := HandSHeadRun.topDef (OpenLaw.row PySem.Challenge.rw_ringheld_k51_network_keeps_messages).prog 29) (kwd := []) Y.ob_eq
    (by kernel_rfl) (fun s => by kernel_rfl) Y.run (by kernel_rfl) (by kernel_rfl) (by kernel_rfl) (by rfl) (by first | assumption | decide +kernel) (by decide +kernel) ⟨rfl, rfl, rfl, rfl, rfl, by decide +kernel⟩ ?hw ?hc
  case hw => w_witness2
  case hc =>
    refine Z.law_end (l := PySem.Challenge.rw_ringheld_k51_network_keeps_messages) (n := 63) (k := 9) (x := "_law_script") (g := Y.F_law) rfl (by decide) (by kernel_rfl) ⟨rfl, by decide, by decide⟩ ?F Y.law_true
    intro w mg fa h Yy G hmg0
    obtain ⟨K, KX, c⟩ := Yy
    have hmg : mg ("law" : PySem.Str) = some (.ref fa) := by
      have e : (HandSHeadRun.topDef (OpenLaw.row PySem.Challenge.rw_ringheld_k51_network_keeps_messages).prog 29).name = ("law" : PySem.Str) := by kernel_rfl
      rw [← e]
      exact hmg0
    exact Y.law_fn ⟨c, h, rfl, KX, G⟩ hmg
