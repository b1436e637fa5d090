import PyProof.Rows.All
import Wide.All
import OpenK.AllK
import Wide.FinOn
import HandS.ForMost
import HandS.ForExc
import HandS.TupAny
import HandS.Walk
import HandS.IsInst
import HandS.FStr
import HandS.SortKw
import HandS.Zip
import KE.KUnpackStar
import KE.GoesEnum
import KE.KDictZip
import HandS.More
import HandS.Conv
import HandS.DictComp
import HandS.Style
import HandS.SetFor
import HandS.Strs
import HandS.SortOrd
import HandS.Deep
import KE.DataCmp
import PySem.Challenge.RW_trialmill_k61_programs_parted
set_option Elab.async false
set_option linter.all false
set_option maxRecDepth 100000
set_option maxHeartbeats 4000000
namespace Sm
open PySem L2

/-- data: tuples by value, what changes by its number in the store -/
inductive Dv where
  | non | bl (b : Bool) | int (i : Int) | str (x : Str) | tup (ds : List Dv) | ref (l : Nat) | frl (ds : List Dv) | ty (n : String) | con (n : Nat)
/-- what stands in the store -/
inductive Ob where
  | lst (ds : List Dv)
  | dct (kvs : List (Key × Dv))
abbrev Store := List Ob

/-- the fixed things: the written part, the addresses of what stands in it (classes, tables) by their numbers -/
structure Gx where
  K : PySem.W.Frag
  ct : Nat → Addr
/-- a tuple that stays -/
def TupAt (K : PySem.W.Frag) (H : Hp) (a : Addr) (xs : List V) : Prop :=
  H a = some (.tup xs) ∨ ∃ (o : Obj) (its : Array Value) (n : Nat), K.lookup a = some o ∧ o.cls = .type "tuple" ∧ o.data = .seq its n ∧ its.size ≤ sizeLine ∧ Vals xs its.toList
theorem TupAt.sq {K : PySem.W.Frag} {H : Hp} {a : Addr} {xs : List V} (h : TupAt K H a xs) : SqT K H a xs := h.elim (fun h => .inl (.inl h)) .inr
/-- a list that nobody changes -/
def FrlAt (K : PySem.W.Frag) (H : Hp) (a : Addr) (xs : List V) : Prop := (∃ o, H a = some (.frz o (.lst xs))) ∨
  ∃ (o : Obj) (its : Array Value) (n : Nat), K.lookup a = some o ∧ o.cls = .type "list" ∧ o.dict = none ∧ o.data = .seq its n ∧ its.size ≤ sizeLine ∧ Vals xs its.toList
theorem FrlAt.sq {K : PySem.W.Frag} {H : Hp} {a : Addr} {xs : List V} (h : FrlAt K H a xs) : SqL K H a xs := h.elim (fun h => .inl (.inr h)) .inr

/-- the heap grows: the store's addresses, the tuples, the frozen lists stay -/
structure Ext (ρ : List Addr) (H : Hp) (ρ' : List Addr) (H' : Hp) : Prop where
  pre : ∃ more, ρ' = ρ ++ more
  tup : ∀ a xs, H a = some (.tup xs) → H' a = some (.tup xs)
  frz : ∀ a o xs, H a = some (.frz o (.lst xs)) → H' a = some (.frz o (.lst xs))
theorem Ext.refl (ρ : List Addr) (H : Hp) : Ext ρ H ρ H := ⟨⟨[], by simp⟩, fun _ _ h => h, fun _ _ _ h => h⟩
theorem Ext.trans {ρ ρ1 ρ2 : List Addr} {H H1 H2 : Hp} (a : Ext ρ H ρ1 H1) (b : Ext ρ1 H1 ρ2 H2) : Ext ρ H ρ2 H2 :=
  ⟨by obtain ⟨m, rfl⟩ := a.pre; obtain ⟨n, rfl⟩ := b.pre; exact ⟨m ++ n, by simp⟩, fun x xs h => b.tup x xs (a.tup x xs h), fun x o xs h => b.frz x o xs (a.frz x o xs h)⟩
theorem Ext.at {ρ ρ' : List Addr} {H H' : Hp} (e : Ext ρ H ρ' H') {l : Nat} {a : Addr} (h : ρ[l]? = some a) : ρ'[l]? = some a := by
  obtain ⟨m, rfl⟩ := e.pre
  have hl : l < ρ.length := (List.getElem?_eq_some_iff.mp h).1
  rw [List.getElem?_append_left hl]; exact h
theorem TupAt.mono {K : PySem.W.Frag} {ρ ρ' : List Addr} {H H' : Hp} {a : Addr} {xs : List V} (e : Ext ρ H ρ' H') (h : TupAt K H a xs) : TupAt K H' a xs := h.elim (fun h => .inl (e.tup _ _ h)) .inr
theorem FrlAt.mono {K : PySem.W.Frag} {ρ ρ' : List Addr} {H H' : Hp} {a : Addr} {xs : List V} (e : Ext ρ H ρ' H') (h : FrlAt K H a xs) : FrlAt K H' a xs := h.elim (fun ⟨o, q⟩ => .inl ⟨o, e.frz _ _ _ q⟩) .inr
theorem Ext.new {ρ : List Addr} {H : Hp} {p : Addr} {o : HO} {more : List Addr} (h : H p = none) : Ext ρ H (ρ ++ more) (upd H p o) :=
  ⟨⟨_, rfl⟩, fun a xs e => by rw [upd_ne (ne_of_none e h)]; exact e, fun a u xs e => by rw [upd_ne (ne_of_none e h)]; exact e⟩
theorem Ext.new0 {ρ : List Addr} {H : Hp} {p : Addr} {o : HO} (h : H p = none) : Ext ρ H ρ (upd H p o) := by
  have := Ext.new (ρ := ρ) (o := o) (more := []) h
  rwa [List.append_nil] at this

mutual
/-- a value, as data -/
inductive VR (G : Gx) (ρ : List Addr) (H : Hp) : Dv → V → Prop
  | non : VR G ρ H .non .non
  | bl (b : Bool) : VR G ρ H (.bl b) (.bl b)
  | int (i : Int) : VR G ρ H (.int i) (.int i)
  | str (x : Str) : VR G ρ H (.str x) (.str x)
  | tup {a : Addr} {vs : List V} {ds : List Dv} : TupAt G.K H a vs → VRs G ρ H ds vs → VR G ρ H (.tup ds) (.ref a)
  | ref {l : Nat} {a : Addr} : ρ[l]? = some a → VR G ρ H (.ref l) (.ref a)
  | frl {a : Addr} {vs : List V} {ds : List Dv} : FrlAt G.K H a vs → VRs G ρ H ds vs → VR G ρ H (.frl ds) (.ref a)
  | ty (n : String) : VR G ρ H (.ty n) (.ty n)
  | con (n : Nat) : VR G ρ H (.con n) (.ref (G.ct n))
inductive VRs (G : Gx) (ρ : List Addr) (H : Hp) : List Dv → List V → Prop
  | nil : VRs G ρ H [] []
  | cons {d : Dv} {v : V} {ds : List Dv} {vs : List V} : VR G ρ H d v → VRs G ρ H ds vs → VRs G ρ H (d :: ds) (v :: vs)
end
section
variable {G : Gx} {ρ ρ' : List Addr} {H H' : Hp}
mutual
theorem VR.mono (e : Ext ρ H ρ' H') : ∀ {d : Dv} {v : V}, VR G ρ H d v → VR G ρ' H' d v
  | _, _, .non => .non
  | _, _, .bl b => .bl b
  | _, _, .int i => .int i
  | _, _, .str x => .str x
  | _, _, .tup h hs => .tup (h.mono e) (VRs.mono e hs)
  | _, _, .ref h => .ref (e.at h)
  | _, _, .frl h hs => .frl (h.mono e) (VRs.mono e hs)
  | _, _, .ty n => .ty n
  | _, _, .con n => .con n
theorem VRs.mono (e : Ext ρ H ρ' H') : ∀ {ds : List Dv} {vs : List V}, VRs G ρ H ds vs → VRs G ρ' H' ds vs
  | _, _, .nil => .nil
  | _, _, .cons h hs => .cons (VR.mono e h) (VRs.mono e hs)
end
theorem VRs.length : ∀ {ds : List Dv} {vs : List V}, VRs G ρ H ds vs → ds.length = vs.length
  | _, _, .nil => rfl
  | _, _, .cons _ hs => by rw [List.length_cons, List.length_cons, hs.length]
theorem VRs.get : ∀ {ds : List Dv} {vs : List V} {i : Nat} {d : Dv}, VRs G ρ H ds vs → ds[i]? = some d → ∃ v, vs[i]? = some v ∧ VR G ρ H d v
  | _, _, i, _, .nil, e => by simp at e
  | _, _, 0, _, .cons h _, e => by
    rw [List.getElem?_cons_zero] at e; cases e; exact ⟨_, rfl, h⟩
  | _, _, i + 1, _, .cons _ hs, e => by
    rw [List.getElem?_cons_succ] at e
    obtain ⟨v, q, r⟩ := hs.get e
    exact ⟨v, by rw [List.getElem?_cons_succ]; exact q, r⟩
theorem VRs.get' : ∀ {ds : List Dv} {vs : List V} {i : Nat} {v : V}, VRs G ρ H ds vs → vs[i]? = some v → ∃ d, ds[i]? = some d ∧ VR G ρ H d v
  | _, _, i, _, .nil, e => by simp at e
  | _, _, 0, _, .cons h _, e => by
    rw [List.getElem?_cons_zero] at e; cases e; exact ⟨_, rfl, h⟩
  | _, _, i + 1, _, .cons _ hs, e => by
    rw [List.getElem?_cons_succ] at e
    obtain ⟨v, q, r⟩ := hs.get' e
    exact ⟨v, by rw [List.getElem?_cons_succ]; exact q, r⟩
theorem VRs.append : ∀ {ds : List Dv} {vs : List V} {es : List Dv} {us : List V}, VRs G ρ H ds vs → VRs G ρ H es us → VRs G ρ H (ds ++ es) (vs ++ us)
  | _, _, _, _, .nil, h => h
  | _, _, _, _, .cons h hs, q => .cons h (hs.append q)
theorem VRs.take : ∀ {ds : List Dv} {vs : List V} (n : Nat), VRs G ρ H ds vs → VRs G ρ H (ds.take n) (vs.take n)
  | _, _, 0, _ => .nil
  | _, _, n + 1, .nil => .nil
  | _, _, n + 1, .cons h hs => .cons h (hs.take n)
theorem VRs.drop : ∀ {ds : List Dv} {vs : List V} (n : Nat), VRs G ρ H ds vs → VRs G ρ H (ds.drop n) (vs.drop n)
  | _, _, 0, h => h
  | _, _, n + 1, .nil => .nil
  | _, _, n + 1, .cons h hs => hs.drop n
theorem VRs.set {d : Dv} {v : V} (r : VR G ρ H d v) : ∀ {ds : List Dv} {vs : List V} (i : Nat), VRs G ρ H ds vs → VRs G ρ H (ds.set i d) (vs.set i v)
  | _, _, _, .nil => .nil
  | _, _, 0, .cons _ hs => .cons r hs
  | _, _, i + 1, .cons h hs => .cons h (VRs.set r i hs)
theorem VRs.ints : ∀ {ns : List Int} {vs : List V}, VRs G ρ H (ns.map Dv.int) vs → vs = ns.map V.int
  | [], _, .nil => rfl
  | n :: ns, _, .cons h hs => by cases h; rw [VRs.ints hs]; rfl
theorem VRs.strs : ∀ {ns : List Str} {vs : List V}, VRs G ρ H (ns.map Dv.str) vs → vs = ns.map V.str
  | [], _, .nil => rfl
  | n :: ns, _, .cons h hs => by cases h; rw [VRs.strs hs]; rfl
theorem VRs.of_strs : ∀ ns : List Str, VRs G ρ H (ns.map Dv.str) (ns.map V.str)
  | [] => .nil
  | n :: ns => .cons (.str n) (VRs.of_strs ns)
theorem VRs.of_ints : ∀ ns : List Int, VRs G ρ H (ns.map Dv.int) (ns.map V.int)
  | [] => .nil
  | n :: ns => .cons (.int n) (VRs.of_ints ns)
end

/-- a dict's pairs -/
abbrev KVR (G : Gx) (ρ : List Addr) (H : Hp) : List (Key × Dv) → List (Key × V) → Prop := Paired fun p q => p.1 = q.1 ∧ VR G ρ H p.2 q.2
theorem KVR.mono {G : Gx} {ρ ρ' : List Addr} {H H' : Hp} (e : Ext ρ H ρ' H') : ∀ {xs : List (Key × Dv)} {ys : List (Key × V)}, KVR G ρ H xs ys → KVR G ρ' H' xs ys
  | _, _, .nil => .nil
  | _, _, .cons h hs => .cons ⟨h.1, h.2.mono e⟩ (KVR.mono e hs)

inductive OR (G : Gx) (ρ : List Addr) (H : Hp) : Ob → HO → Prop
  | lst {ds : List Dv} {vs : List V} : VRs G ρ H ds vs → OR G ρ H (.lst ds) (.lst vs)
  | dct {kvs : List (Key × Dv)} {ws : List (Key × V)} : KVR G ρ H kvs ws → OR G ρ H (.dct kvs) (.dK ws)
theorem OR.mono {G : Gx} {ρ ρ' : List Addr} {H H' : Hp} {o : Ob} {u : HO} (e : Ext ρ H ρ' H') : OR G ρ H o u → OR G ρ' H' o u
  | .lst h => .lst (h.mono e)
  | .dct h => .dct (h.mono e)
/-- the store, in the heap -/
structure RH (G : Gx) (ρ : List Addr) (S : Store) (H : Hp) : Prop where
  len : ρ.length = S.length
  nd : ρ.Nodup
  obj : ∀ (l : Nat) (o : Ob), S[l]? = some o → ∃ a u, ρ[l]? = some a ∧ H a = some u ∧ OR G ρ H o u
section
variable {G : Gx} {ρ ρ' : List Addr} {H H' : Hp} {S S' : Store} {l : Nat} {o o' : Ob} {a p : Addr} {u : HO}
theorem RH.at (R : RH G ρ S H) (h : S[l]? = some o) (ha : ρ[l]? = some a) : ∃ u, H a = some u ∧ OR G ρ H o u := by
  obtain ⟨b, u, e, q, r⟩ := R.obj l o h
  rw [ha] at e; cases e
  exact ⟨u, q, r⟩
theorem RH.lst (R : RH G ρ S H) {ds : List Dv} (h : S[l]? = some (.lst ds)) (ha : ρ[l]? = some a) : ∃ vs, H a = some (.lst vs) ∧ VRs G ρ H ds vs := by
  obtain ⟨u, q, r⟩ := R.at h ha
  cases r with
  | lst r => exact ⟨_, q, r⟩
theorem RH.dct (R : RH G ρ S H) {ds : List (Key × Dv)} (h : S[l]? = some (.dct ds)) (ha : ρ[l]? = some a) : ∃ vs, H a = some (.dK vs) ∧ KVR G ρ H ds vs := by
  obtain ⟨u, q, r⟩ := R.at h ha
  cases r with
  | dct r => exact ⟨_, q, r⟩
/-- tuples made, nothing else -/
theorem RH.mono (R : RH G ρ S H) (e : Ext ρ H ρ H') (k : ∀ a ∈ ρ, ∀ u, H a = some u → H' a = some u) : RH G ρ S H' :=
  ⟨R.len, R.nd, fun l o h => let ⟨a, u, q1, q2, q3⟩ := R.obj l o h; ⟨a, u, q1, k a (List.mem_of_getElem? q1) u q2, q3.mono e⟩⟩
theorem RH.tracked (R : RH G ρ S H) (h : a ∈ ρ) : ∃ u, H a = some u := by
  obtain ⟨l, hl, e⟩ := List.mem_iff_getElem.mp h
  have h1 : l < S.length := by rw [← R.len]; exact hl
  obtain ⟨b, u, e1, e2, _⟩ := R.obj l S[l] (by simp [h1])
  rw [List.getElem?_eq_getElem hl, e] at e1
  cases e1
  exact ⟨u, e2⟩
theorem RH.new (R : RH G ρ S H) (h : H p = none) : RH G ρ S (upd H p u) :=
  R.mono (.new0 h) fun b hb w e => by rw [upd_ne (ne_of_none e h)]; exact e
theorem RH.alloc (R : RH G ρ S H) (h : H p = none) (r : OR G ρ H o u) : RH G (ρ ++ [p]) (S ++ [o]) (upd H p u) := by
  have e : Ext ρ H (ρ ++ [p]) (upd H p u) := .new h
  have np : p ∉ ρ := fun z => by obtain ⟨w, q⟩ := R.tracked z; rw [h] at q; cases q
  refine ⟨by simp [R.len], ?_, fun l o' hl => ?_⟩
  · rw [List.nodup_append]
    refine ⟨R.nd, by simp, fun x hx y hy => ?_⟩
    rw [List.mem_singleton] at hy
    subst hy
    exact fun z => np (z ▸ hx)
  · by_cases hlt : l < S.length
    · rw [List.getElem?_append_left hlt] at hl
      obtain ⟨b, w, q1, q2, q3⟩ := R.obj l o' hl
      exact ⟨b, w, e.at q1, by rw [upd_ne (ne_of_none q2 h)]; exact q2, q3.mono e⟩
    · have hl2 : l = S.length := by
        have := (List.getElem?_eq_some_iff.mp hl).1
        rw [List.length_append, List.length_singleton] at this
        omega
      subst hl2
      rw [List.getElem?_append_right (Nat.le_refl _), Nat.sub_self] at hl
      cases hl
      refine ⟨p, u, ?_, upd_same, r.mono e⟩
      rw [List.getElem?_append_right (by rw [R.len]; exact Nat.le_refl _), R.len, Nat.sub_self]
      rfl
theorem Ext.wr {w : HO} (h : H a = some w) (n1 : ∀ xs, w ≠ .tup xs) (n2 : ∀ o xs, w ≠ .frz o xs) : Ext ρ H ρ (upd H a u) :=
  ⟨⟨[], by simp⟩, fun b xs e => by rw [upd_ne (ne_of e h (fun z => n1 xs z.symm))]; exact e, fun b o xs e => by rw [upd_ne (ne_of e h (fun z => n2 _ _ z.symm))]; exact e⟩
theorem OR.ext {w : HO} (h : H a = some w) (r : OR G ρ H o w) : Ext ρ H ρ (upd H a u) := by
  cases r with
  | lst _ => exact .wr h (fun _ z => by cases z) (fun _ _ z => by cases z)
  | dct _ => exact .wr h (fun _ z => by cases z) (fun _ _ z => by cases z)
theorem RH.wext (R : RH G ρ S H) (hl : S[l]? = some o) (ha : ρ[l]? = some a) : Ext ρ H ρ (upd H a u) := by
  obtain ⟨w, q, r⟩ := R.at hl ha
  exact r.ext q
theorem RH.write (R : RH G ρ S H) (hl : S[l]? = some o) (ha : ρ[l]? = some a) (r : OR G ρ H o' u) : RH G ρ (S.set l o') (upd H a u) := by
  have e : Ext ρ H ρ (upd H a u) := R.wext hl ha
  refine ⟨by simp [R.len], R.nd, fun j oj hj => ?_⟩
  by_cases hjl : j = l
  · subst hjl
    have hlt : j < S.length := (List.getElem?_eq_some_iff.mp hl).1
    rw [List.getElem?_set_self hlt] at hj
    cases hj
    exact ⟨a, u, ha, upd_same, r.mono e⟩
  · rw [List.getElem?_set_ne (Ne.symm hjl)] at hj
    obtain ⟨b, w, q1, q2, q3⟩ := R.obj j oj hj
    have hba : b ≠ a := fun z => by
      subst z
      obtain ⟨h1, e1⟩ := List.getElem?_eq_some_iff.mp q1
      obtain ⟨h2, e2⟩ := List.getElem?_eq_some_iff.mp ha
      exact hjl ((List.getElem_inj R.nd).mp (e1.trans e2.symm))
    exact ⟨b, w, q1, by rw [upd_ne hba]; exact q2, q3.mono e⟩
end

/-! ### outcomes -/
/-- an exception: its class's number, its fields -/
structure Exn where
  c : Nat
  fs : List (Str × Dv)
inductive Res (α : Type) where
  | ok (a : α) (S : Store)
  | ex (e : Exn) (S : Store)
  | bad
def Res.bind {α β : Type} (r : Res α) (k : α → Store → Res β) : Res β := match r with
  | .ok a S => k a S
  | .ex e S => .ex e S
  | .bad => .bad
abbrev Env' := List (Option Dv)
abbrev CE := Env' → Store → Res Dv
abbrev CT := Env' → Store → Res Bool
abbrev CA := Env' → Store → Res (List Dv)
inductive Fl where
  | nx (δ : Env') | rt (d : Dv) | bk (δ : Env') | ct (δ : Env')
abbrev CS := Env' → Store → Res Fl

/-- an exception that lies as E asks -/
def XR (G : Gx) (ρ : List Addr) (H : Hp) (e : Exn) (cls : Value) (d : Option Addr) : Prop :=
  cls = .ref (G.ct e.c) ∧ ((e.fs = [] ∧ d = none) ∨ ∃ (x : Addr) (fs : List (Str × V)), e.fs ≠ [] ∧ d = some x ∧ H x = some (.xd fs) ∧ Paired (fun p q => p.1 = q.1 ∧ VR G ρ H p.2 q.2) e.fs fs)
/-- what follows an outcome -/
def Po (G : Gx) (E : XK) {α β : Type} (rel : List Addr → Hp → α → β → Prop) (ρ : List Addr) (H : Hp) (r : Res α) (Q : β → Hp → Prop) : Prop :=
  match r with
  | .ok a S => ∀ ρ' H' b, Ext ρ H ρ' H' → RH G ρ' S H' → rel ρ' H' a b → Q b H'
  | .ex e S => ∀ ρ' H' cls d, Ext ρ H ρ' H' → RH G ρ' S H' → XR G ρ' H' e cls d → E cls d H'
  | .bad => False
abbrev rV (G : Gx) : List Addr → Hp → Dv → V → Prop := fun ρ H d v => VR G ρ H d v
abbrev rVs (G : Gx) : List Addr → Hp → List Dv → List V → Prop := fun ρ H d v => VRs G ρ H d v
abbrev rB : List Addr → Hp → Bool → Bool → Prop := fun _ _ a b => a = b
theorem Po.mono {G : Gx} {E : XK} {α β : Type} {rel : List Addr → Hp → α → β → Prop} {ρ ρ1 : List Addr} {H H1 : Hp} {r : Res α} {Q : β → Hp → Prop} (h : Po G E rel ρ H r Q) (e : Ext ρ H ρ1 H1) : Po G E rel ρ1 H1 r Q := by
  cases r with
  | ok a S => exact fun ρ' H' b e' => h ρ' H' b (e.trans e')
  | ex a S => exact fun ρ' H' c d e' => h ρ' H' c d (e.trans e')
  | bad => exact h
theorem Po.imp {G : Gx} {E : XK} {α β : Type} {rel : List Addr → Hp → α → β → Prop} {ρ : List Addr} {H : Hp} {r : Res α} {Q Q' : β → Hp → Prop} (h : Po G E rel ρ H r Q) (q : ∀ b H', Q b H' → Q' b H') : Po G E rel ρ H r Q' := by
  cases r with
  | ok a S => exact fun ρ' H' b e1 e2 e3 => q _ _ (h ρ' H' b e1 e2 e3)
  | ex a S => exact h
  | bad => exact h
/-- one thing, then another -/
theorem Po.bnd {G : Gx} {E : XK} {α β γ δ : Type} {rel1 : List Addr → Hp → α → γ → Prop} {rel2 : List Addr → Hp → β → δ → Prop} {ρ : List Addr} {H : Hp} {r : Res α} {k : α → Store → Res β} {Q : δ → Hp → Prop} {R : γ → Hp → Prop}
    (h : Po G E rel2 ρ H (r.bind k) Q) (step : ∀ a S1, r = .ok a S1 → ∀ ρ1 H1 b, Ext ρ H ρ1 H1 → RH G ρ1 S1 H1 → rel1 ρ1 H1 a b → Po G E rel2 ρ1 H1 (k a S1) Q → R b H1) : Po G E rel1 ρ H r R := by
  cases r with
  | ok a S => exact fun ρ' H' b e1 e2 e3 => step a S rfl ρ' H' b e1 e2 e3 (Po.mono h e1)
  | ex a S => exact h
  | bad => exact h

/-! ### the frame -/
def FR (G : Gx) (ρ : List Addr) (H : Hp) (δ : Env') (σ : St) : Prop := δ.length = σ.length ∧ ∀ (i : Nat) (d : Dv), δ[i]? = some (some d) → ∃ v, σ[i]? = some (some v) ∧ VR G ρ H d v
theorem FR.mono {G : Gx} {ρ ρ' : List Addr} {H H' : Hp} {δ : Env'} {σ : St} (h : FR G ρ H δ σ) (e : Ext ρ H ρ' H') : FR G ρ' H' δ σ :=
  ⟨h.1, fun i d q => let ⟨v, a, b⟩ := h.2 i d q; ⟨v, a, b.mono e⟩⟩
theorem FR.set {G : Gx} {ρ : List Addr} {H : Hp} {δ : Env'} {σ : St} {d : Dv} {v : V} (h : FR G ρ H δ σ) (i : Nat) (r : VR G ρ H d v) : FR G ρ H (δ.set i (some d)) (σ.set i (some v)) := by
  refine ⟨by simp [h.1], fun j d' q => ?_⟩
  by_cases hj : i = j
  · subst hj
    have hlt : i < δ.length := by
      have := (List.getElem?_eq_some_iff.mp q).1
      rwa [List.length_set] at this
    rw [List.getElem?_set_self hlt] at q
    cases q
    exact ⟨v, by rw [List.getElem?_set_self (by rw [← h.1]; exact hlt)], r⟩
  · rw [List.getElem?_set_ne hj] at q
    obtain ⟨v', a, b⟩ := h.2 j d' q
    exact ⟨v', by rw [List.getElem?_set_ne hj]; exact a, b⟩
/-- the slots at is forgotten -/
def wipeE (δ : Env') : List Nat → Env'
  | [] => δ
  | v :: vs => (wipeE δ vs).set v none
theorem FR.wipe {G : Gx} {ρ : List Addr} {H : Hp} {δ : Env'} {σ : St} (h : FR G ρ H δ σ) : ∀ vs : List Nat, FR G ρ H (wipeE δ vs) (wipe σ vs)
  | [] => h
  | v :: vs => by
    have ih := FR.wipe h vs
    refine ⟨by simp [wipeE, L2.wipe, ih.1], fun j d' q => ?_⟩
    by_cases hj : v = j
    · subst hj
      unfold wipeE at q
      by_cases hlt : v < (wipeE δ vs).length
      · rw [List.getElem?_set_self hlt] at q; cases q
      · rw [List.getElem?_eq_none (by rw [List.length_set]; omega)] at q; cases q
    · unfold wipeE at q
      rw [List.getElem?_set_ne hj] at q
      obtain ⟨v', a, b⟩ := ih.2 j d' q
      exact ⟨v', by unfold L2.wipe; rw [List.getElem?_set_ne hj]; exact a, b⟩

/-! ### readings -/
def tE (G : Gx) (E : XK) (c : CE) : TE := fun σ H Q => ∃ ρ δ S, RH G ρ S H ∧ FR G ρ H δ σ ∧ Po G E (rV G) ρ H (c δ S) Q
def tT (G : Gx) (E : XK) (c : CT) : TT := fun σ H Q => ∃ ρ δ S, RH G ρ S H ∧ FR G ρ H δ σ ∧ Po G E rB ρ H (c δ S) Q
def tA (G : Gx) (E : XK) (c : CA) : TA := fun σ H Q => ∃ ρ δ S, RH G ρ S H ∧ FR G ρ H δ σ ∧ Po G E (rVs G) ρ H (c δ S) Q
def PoS (G : Gx) (E : XK) (ρ : List Addr) (H : Hp) (r : Res Fl) (D : Ends) : Prop :=
  match r with
  | .ok (.nx δ) S => ∀ ρ' H' σ', Ext ρ H ρ' H' → RH G ρ' S H' → FR G ρ' H' δ σ' → D.nx σ' H'
  | .ok (.rt d) S => ∀ ρ' H' v, Ext ρ H ρ' H' → RH G ρ' S H' → VR G ρ' H' d v → D.rt v H'
  | .ok (.bk δ) S => ∀ ρ' H' σ', Ext ρ H ρ' H' → RH G ρ' S H' → FR G ρ' H' δ σ' → D.bk σ' H'
  | .ok (.ct δ) S => ∀ ρ' H' σ', Ext ρ H ρ' H' → RH G ρ' S H' → FR G ρ' H' δ σ' → D.ct σ' H'
  | .ex e S => ∀ ρ' H' cls d, Ext ρ H ρ' H' → RH G ρ' S H' → XR G ρ' H' e cls d → E cls d H'
  | .bad => False
theorem PoS.mono {G : Gx} {E : XK} {ρ ρ1 : List Addr} {H H1 : Hp} {r : Res Fl} {D : Ends} (h : PoS G E ρ H r D) (e : Ext ρ H ρ1 H1) : PoS G E ρ1 H1 r D := by
  cases r with
  | ok f S => cases f with
    | nx δ => exact fun ρ' H' b e' => h ρ' H' b (e.trans e')
    | rt δ => exact fun ρ' H' b e' => h ρ' H' b (e.trans e')
    | bk δ => exact fun ρ' H' b e' => h ρ' H' b (e.trans e')
    | ct δ => exact fun ρ' H' b e' => h ρ' H' b (e.trans e')
  | ex a S => exact fun ρ' H' c d e' => h ρ' H' c d (e.trans e')
  | bad => exact h
def tS (G : Gx) (E : XK) (c : CS) : TS := fun D σ H => ∃ ρ δ S, RH G ρ S H ∧ FR G ρ H δ σ ∧ PoS G E ρ H (c δ S) D
/-- an expression's value, then a statement's end -/
theorem Po.bndS {G : Gx} {E : XK} {α γ : Type} {rel1 : List Addr → Hp → α → γ → Prop} {ρ : List Addr} {H : Hp} {r : Res α} {k : α → Store → Res Fl} {D : Ends} {R : γ → Hp → Prop}
    (h : PoS G E ρ H (r.bind k) D) (step : ∀ a S1, r = .ok a S1 → ∀ ρ1 H1 b, Ext ρ H ρ1 H1 → RH G ρ1 S1 H1 → rel1 ρ1 H1 a b → PoS G E ρ1 H1 (k a S1) D → R b H1) : Po G E rel1 ρ H r R := by
  cases r with
  | ok a S => exact fun ρ' H' b e1 e2 e3 => step a S rfl ρ' H' b e1 e2 e3 (PoS.mono h e1)
  | ex a S => exact h
  | bad => exact h

theorem PE.weak {C : Cx} {e : Expr} {t t' : TE} (h : PE C e t) (w : ∀ σ H Q, t' σ H Q → t σ H Q) : PE C e t' := ⟨fun pins s σ H Q I q => h.run pins s σ H Q I (w σ H Q q)⟩
theorem PT.weak {C : Cx} {e : Expr} {t t' : TT} (h : PT C e t) (w : ∀ σ H Q, t' σ H Q → t σ H Q) : PT C e t' := ⟨fun pins s σ H Q I q => h.run pins s σ H Q I (w σ H Q q)⟩
theorem PW.weak {C : Cx} {e : Expr} {t t' : TT} (h : PW C e t) (w : ∀ σ H Q, t' σ H Q → t σ H Q) : PW C e t' := ⟨fun wh pins s σ H Q I q => h.run wh pins s σ H Q I (w σ H Q q)⟩
theorem PA.weak {C : Cx} {e : List Expr} {t t' : TA} (h : PA C e t) (w : ∀ σ H Q, t' σ H Q → t σ H Q) : PA C e t' := ⟨fun pos pins s σ H Q I q => h.run pos pins s σ H Q I (w σ H Q q)⟩
theorem PS.weak {C : Cx} {e : Stmt} {t t' : TS} (h : PS C e t) (w : ∀ D σ H, t' D σ H → t D σ H) : PS C e t' := ⟨fun pins s σ H D I q => h.run pins s σ H D I (w D σ H q)⟩
theorem PSs.weak {C : Cx} {e : List Stmt} {t t' : TS} (h : PSs C e t) (w : ∀ D σ H, t' D σ H → t D σ H) : PSs C e t' := ⟨fun pins s σ H D I q => h.run pins s σ H D I (w D σ H q)⟩
end Sm

namespace Sm
open PySem L2
open PyProof.Rows (tail_any)
abbrev gx (C : Cx) (ct : Nat → Addr) : Gx := ⟨C.K, ct⟩

/-! ### names and constants -/
def cVar (i : Nat) : CE := fun δ S => match δ[i]? with
  | some (some d) => .ok d S
  | _ => .bad
def cC (d : Dv) : CE := fun _ S => .ok d S
section
variable {C : Cx} {ct : Nat → Addr} {E : XK} {G : Gx} {ρ : List Addr} {H : Hp} {σ : St} {δ : Env'} {S : Store}
theorem tE.mk {c : CE} {Q : VK} (hR : RH G ρ S H) (hF : FR G ρ H δ σ) (h : Po G E (rV G) ρ H (c δ S) Q) : tE G E c σ H Q := ⟨ρ, δ, S, hR, hF, h⟩
theorem tT.mk {c : CT} {Q : Bool → Hp → Prop} (hR : RH G ρ S H) (hF : FR G ρ H δ σ) (h : Po G E rB ρ H (c δ S) Q) : tT G E c σ H Q := ⟨ρ, δ, S, hR, hF, h⟩
theorem tA.mk {c : CA} {Q : List V → Hp → Prop} (hR : RH G ρ S H) (hF : FR G ρ H δ σ) (h : Po G E (rVs G) ρ H (c δ S) Q) : tA G E c σ H Q := ⟨ρ, δ, S, hR, hF, h⟩
theorem tS.mk {c : CS} {D : Ends} (hR : RH G ρ S H) (hF : FR G ρ H δ σ) (h : PoS G E ρ H (c δ S) D) : tS G E c D σ H := ⟨ρ, δ, S, hR, hF, h⟩
/-- an outcome that is there -/
theorem Po.ret {α β : Type} {rel : List Addr → Hp → α → β → Prop} {a : α} {b : β} {Q : β → Hp → Prop} (h : Po G E rel ρ H (.ok a S) Q) (hR : RH G ρ S H) (r : rel ρ H a b) : Q b H := h ρ H b (.refl _ _) hR r
theorem Po.retX {α β : Type} {rel : List Addr → Hp → α → β → Prop} {a : α} {b : β} {ρ' : List Addr} {H' : Hp} {Q : β → Hp → Prop} (h : Po G E rel ρ H (.ok a S) Q) (e : Ext ρ H ρ' H') (hR : RH G ρ' S H') (r : rel ρ' H' a b) : Q b H' := h ρ' H' b e hR r

theorem q_var {i : Nat} {x : Str} {pos : Pos} (hN : C.N[i]? = some x) (hv : Vis C.env.scope x) (hd : (x == ("__debug__" : Str)) = false := by decide) (hcd : (x == ("__classdict__" : Str)) = false := by decide) : PE C (.Name x pos) (tE (gx C ct) E (cVar i)) :=
  PE.weak (pe_var hN hv hd hcd) fun σ H Q ⟨ρ, δ, S, hR, hF, h⟩ => by
    unfold cVar at h
    cases e : δ[i]? with
    | none => rw [e] at h; exact h.elim
    | some o => cases o with
      | none => rw [e] at h; exact h.elim
      | some d =>
        rw [e] at h
        obtain ⟨v, hv, r⟩ := hF.2 i d e
        exact ⟨v, hv, h.ret hR r⟩
theorem q_c {e : Expr} {v : V} {d : Dv} (he : PE C e (tC v)) (r : ∀ ρ H, VR (gx C ct) ρ H d v) : PE C e (tE (gx C ct) E (cC d)) :=
  PE.weak he fun σ H Q ⟨ρ, δ, S, hR, hF, h⟩ => h.ret hR (r ρ H)
theorem q_int {i j pos} : PE C (.Constant (.int i) j pos) (tE (gx C ct) E (cC (.int i))) := q_c pe_int fun _ _ => .int i
theorem q_bl {b j pos} : PE C (.Constant (.bool b) j pos) (tE (gx C ct) E (cC (.bl b))) := q_c pe_bl fun _ _ => .bl b
theorem q_non {j pos} : PE C (.Constant .none j pos) (tE (gx C ct) E (cC .non)) := q_c pe_non fun _ _ => .non
theorem q_str {x j pos} : PE C (.Constant (.str x) j pos) (tE (gx C ct) E (cC (.str x))) := q_c pe_str fun _ _ => .str x
/-- a built-in class's name as a value -/
theorem q_ty {x : Str} {n : String} {pos : Pos} (hg : Gl C x) (hm : C.mg x = none) (hv : bootBuiltins x = some (.type n)) (hn : x ≠ "__name__" := by decide) (hd : (x == ("__debug__" : Str)) = false := by decide) : PE C (.Name x pos) (tE (gx C ct) E (cC (.ty n))) :=
  q_c (pe_bltn (v := .ty n) hg hm hv rfl hn hd) fun _ _ => .ty n
/-- a thing of the top -/
theorem q_con {x : Str} {n : Nat} {pos : Pos} (hg : Gl C x) (hm : C.mg x = some (.ref (ct n))) (hd : (x == ("__debug__" : Str)) = false := by decide) : PE C (.Name x pos) (tE (gx C ct) E (cC (.con n))) :=
  q_c (pe_glob (v := .ref (ct n)) hg hm rfl hd) fun _ _ => .con n
theorem q_gint {x : Str} {i : Int} {t : Tok} {pos : Pos} (hg : Gl C x) (hm : C.mg x = some (.int i t)) (hd : (x == ("__debug__" : Str)) = false := by decide) : PE C (.Name x pos) (tE (gx C ct) E (cC (.int i))) :=
  q_c (pe_glob (v := .int i) hg hm ⟨t, rfl⟩ hd) fun _ _ => .int i

/-! ### arguments, displays -/
def cNil : CA := fun _ S => .ok [] S
def cCons (c : CE) (a : CA) : CA := fun δ S => (c δ S).bind fun d S1 => (a δ S1).bind fun ds S2 => .ok (d :: ds) S2
def few (ds : List Dv) : Bool := decide (ds.length ≤ 1000)
def cTup (a : CA) : CE := fun δ S => (a δ S).bind fun ds S1 => if few ds then .ok (.tup ds) S1 else .bad
def cLst (a : CA) : CE := fun δ S => (a δ S).bind fun ds S1 => if few ds then .ok (.ref S1.length) (S1 ++ [.lst ds]) else .bad
theorem qa_nil : PA C [] (tA (gx C ct) E cNil) := PA.weak pa_nil fun σ H Q ⟨ρ, δ, S, hR, hF, h⟩ => h.ret hR .nil
theorem qa_cons {e : Expr} {es : List Expr} {c : CE} {a : CA} (he : PE C e (tE (gx C ct) E c)) (hes : PA C es (tA (gx C ct) E a)) (hs : starEach (e :: es) C.env = (false, eval e C.env) :: starEach es C.env := by rfl) : PA C (e :: es) (tA (gx C ct) E (cCons c a)) :=
  PA.weak (pa_cons he hes hs) fun σ H Q ⟨ρ, δ, S, hR, hF, h⟩ =>
    tE.mk hR hF (Po.bnd h fun d S1 _ ρ1 H1 v e1 R1 rv h1 => tA.mk R1 (hF.mono e1) (Po.bnd h1 fun ds S2 _ ρ2 H2 vs e2 R2 rvs h2 => h2.ret R2 (.cons (rv.mono e2) rvs)))
theorem few_line {ds : List Dv} (h : few ds = true) : ds.length ≤ sizeLine := by
  have := of_decide_eq_true h
  rw [sizeLine_eq]; omega
theorem q_tup {es : List Expr} {x1} {a : CA} {pos : Pos} (hes : PA C es (tA (gx C ct) E a)) : PE C (.Tuple es x1 pos) (tE (gx C ct) E (cTup a)) :=
  PE.weak (pe_tup hes) fun σ H Q ⟨ρ, δ, S, hR, hF, h⟩ => tA.mk hR hF (Po.bnd h fun ds S1 _ ρ1 H1 vs e1 R1 rvs h1 => by
    by_cases hf : few ds = true
    · rw [if_pos hf] at h1
      refine ⟨by rw [← rvs.length]; exact few_line hf, fun p hp => ?_⟩
      exact h1.retX (.new0 hp) (R1.new hp) (.tup (.inl upd_same) (rvs.mono (.new0 hp)))
    · rw [if_neg hf] at h1; exact h1.elim)
theorem q_lst {es : List Expr} {a : CA} {pos : Pos} (hes : PA C es (tA (gx C ct) E a)) : PE C (.List es pos) (tE (gx C ct) E (cLst a)) :=
  PE.weak (pe_lst hes) fun σ H Q ⟨ρ, δ, S, hR, hF, h⟩ => tA.mk hR hF (Po.bnd h fun ds S1 _ ρ1 H1 vs e1 R1 rvs h1 => by
    by_cases hf : few ds = true
    · rw [if_pos hf] at h1
      refine ⟨by rw [← rvs.length]; exact few_line hf, fun p hp => ?_⟩
      exact h1.retX (.new hp) (R1.alloc hp (.lst rvs)) (.ref (by rw [← R1.len]; simp))
    · rw [if_neg hf] at h1; exact h1.elim)

/-! ### two-place operations -/
/-- the rule r of values does what f does of data -/
def Op2 (G : Gx) (E : XK) (r : R2) (f : Dv → Dv → Store → Res Dv) : Prop := ∀ (ρ : List Addr) (S : Store) (H : Hp) (dx dy : Dv) (x y : V) (Q : VK), RH G ρ S H → VR G ρ H dx x → VR G ρ H dy y → Po G E (rV G) ρ H (f dx dy S) Q → r x y H Q
def cBin (f : Dv → Dv → Store → Res Dv) (a b : CE) : CE := fun δ S => (a δ S).bind fun x S1 => (b δ S1).bind fun y S2 => f x y S2
theorem bin_step {r : R2} {f : Dv → Dv → Store → Res Dv} {ca cb : CE} (o : Op2 G E r f) {Q : VK} (hq : tE G E (cBin f ca cb) σ H Q) : tOp r (tE G E ca) (tE G E cb) σ H Q := by
  obtain ⟨ρ, δ, S, hR, hF, h⟩ := hq
  exact tE.mk hR hF (Po.bnd h fun dx S1 _ ρ1 H1 x e1 R1 vx h1 => tE.mk R1 (hF.mono e1) (Po.bnd h1 fun dy S2 _ ρ2 H2 y e2 R2 vy h2 => o ρ2 S2 H2 dx dy x y Q R2 (vx.mono e2) vy h2))
theorem q_op {op : Operator} {r : R2} {f : Dv → Dv → Store → Res Dv} {a b : Expr} {ca cb : CE} {pos : Pos} (ho : OpR C (binaryOp op) r) (o : Op2 (gx C ct) E r f) (ha : PE C a (tE (gx C ct) E ca)) (hb : PE C b (tE (gx C ct) E cb)) : PE C (.BinOp a op b pos) (tE (gx C ct) E (cBin f ca cb)) :=
  PE.weak (pe_op ho ha hb) fun σ H Q h => bin_step o h
theorem q_cmp {op : CmpOp} {r : R2} {f : Dv → Dv → Store → Res Dv} {a b : Expr} {ca cb : CE} {pos : Pos} (ho : OpR C (compareOp op) r) (o : Op2 (gx C ct) E r f) (ha : PE C a (tE (gx C ct) E ca)) (hb : PE C b (tE (gx C ct) E cb)) (hm : behindInMarks op b = false) : PE C (.Compare a [op] [b] pos) (tE (gx C ct) E (cBin f ca cb)) :=
  PE.weak (pe_cmpR ho ha hb hm) fun σ H Q h => bin_step o h
/-- a value as a test: a truth -/
def asB : Dv → Store → Res Bool
  | .bl b, S => .ok b S
  | _, _ => .bad
def cTst (c : CE) : CT := fun δ S => (c δ S).bind asB
theorem tst_step {c : CE} {Q : Bool → Hp → Prop} (hq : tT G E (cTst c) σ H Q) : tE G E c σ H fun x H' => ∃ k, x = .bl k ∧ Q k H' := by
  obtain ⟨ρ, δ, S, hR, hF, h⟩ := hq
  exact tE.mk hR hF (Po.bnd h fun d S1 _ ρ1 H1 v e1 R1 rv h1 => by
    cases rv with
    | bl b => exact ⟨b, rfl, h1.ret R1 rfl⟩
    | _ => exact h1.elim)
theorem qt_cmp {op : CmpOp} {r : R2} {f : Dv → Dv → Store → Res Dv} {a b : Expr} {ca cb : CE} {pos : Pos} (ho : OpR C (compareOp op) r) (o : Op2 (gx C ct) E r f) (ha : PE C a (tE (gx C ct) E ca)) (hb : PE C b (tE (gx C ct) E cb)) (hm : behindInMarks op b = false) : PT C (.Compare a [op] [b] pos) (tT (gx C ct) E (cTst (cBin f ca cb))) :=
  PT.weak (pt_cmpR ho ha hb hm) fun σ H Q h => bin_step o (tst_step h)
/-- an expression's value, a truth, as a test -/
theorem qt_val {e : Expr} {c : CE} (he : PE C e (tE (gx C ct) E c)) (hs : ∀ whole, isTrue e C.env whole = (do let v ← whole; standAt e.pos; holding [v] (truthy v)) := by intro _; rfl) : PT C e (tT (gx C ct) E (cTst c)) :=
  PT.weak (pt_val he hs) fun σ H Q h => tst_step h

/-! ### and, or, not, if .. else -/
def cAnd (a b : CT) : CT := fun δ S => (a δ S).bind fun k S1 => if k then b δ S1 else .ok false S1
def cOr (a b : CT) : CT := fun δ S => (a δ S).bind fun k S1 => if k then .ok true S1 else b δ S1
def cNot (a : CT) : CT := fun δ S => (a δ S).bind fun k S1 => .ok (!k) S1
def cIfE (t : CT) (a b : CE) : CE := fun δ S => (t δ S).bind fun k S1 => if k then a δ S1 else b δ S1
/-- a test as a value -/
def cB (t : CT) : CE := fun δ S => (t δ S).bind fun k S1 => .ok (.bl k) S1
theorem qw_and1 {a : Expr} {ta : CT} {pos : Pos} (ha : PT C a (tT (gx C ct) E ta)) : PW C (.BoolOp .And [a] pos) (tT (gx C ct) E ta) := pw_and1 ha
theorem qw_or1 {a : Expr} {ta : CT} {pos : Pos} (ha : PT C a (tT (gx C ct) E ta)) : PW C (.BoolOp .Or [a] pos) (tT (gx C ct) E ta) := pw_or1 ha
theorem qw_and {a b : Expr} {rest : List Expr} {ta tb : CT} {pos : Pos} (ha : PT C a (tT (gx C ct) E ta)) (hb : PW C (.BoolOp .And (b :: rest) pos) (tT (gx C ct) E tb)) : PW C (.BoolOp .And (a :: b :: rest) pos) (tT (gx C ct) E (cAnd ta tb)) :=
  PW.weak (pw_and ha hb) fun σ H Q ⟨ρ, δ, S, hR, hF, h⟩ => tT.mk hR hF (Po.bnd h fun k S1 _ ρ1 H1 k' e1 R1 r h1 => by
    cases r
    cases k with
    | true => exact tT.mk R1 (hF.mono e1) h1
    | false => exact h1.ret R1 rfl)
theorem qw_or {a b : Expr} {rest : List Expr} {ta tb : CT} {pos : Pos} (ha : PT C a (tT (gx C ct) E ta)) (hb : PW C (.BoolOp .Or (b :: rest) pos) (tT (gx C ct) E tb)) : PW C (.BoolOp .Or (a :: b :: rest) pos) (tT (gx C ct) E (cOr ta tb)) :=
  PW.weak (pw_or ha hb) fun σ H Q ⟨ρ, δ, S, hR, hF, h⟩ => tT.mk hR hF (Po.bnd h fun k S1 _ ρ1 H1 k' e1 R1 r h1 => by
    cases r
    cases k with
    | true => exact h1.ret R1 rfl
    | false => exact tT.mk R1 (hF.mono e1) h1)
theorem qt_w {e : Expr} {t : CT} (h : PW C e (tT (gx C ct) E t)) : PT C e (tT (gx C ct) E t) := h.pt
theorem qt_not {a : Expr} {ta : CT} {pos : Pos} (ha : PT C a (tT (gx C ct) E ta)) : PT C (.UnaryOp .Not a pos) (tT (gx C ct) E (cNot ta)) :=
  PT.weak (pt_not ha) fun σ H Q ⟨ρ, δ, S, hR, hF, h⟩ => tT.mk hR hF (Po.bnd h fun k S1 _ ρ1 H1 k' e1 R1 r h1 => by
    cases r
    exact h1.ret R1 rfl)
theorem q_ifE {t a b : Expr} {tt : CT} {ca cb : CE} {pos : Pos} (ht : PT C t (tT (gx C ct) E tt)) (ha : PE C a (tE (gx C ct) E ca)) (hb : PE C b (tE (gx C ct) E cb)) : PE C (.IfExp t a b pos) (tE (gx C ct) E (cIfE tt ca cb)) :=
  PE.weak (pe_ifExp ht ha hb) fun σ H Q ⟨ρ, δ, S, hR, hF, h⟩ => tT.mk hR hF (Po.bnd h fun k S1 _ ρ1 H1 k' e1 R1 r h1 => by
    cases r
    cases k with
    | true => exact tE.mk R1 (hF.mono e1) h1
    | false => exact tE.mk R1 (hF.mono e1) h1)
/-! truths as values: and, or of truths -/
def cAndV (a b : CE) : CE := fun δ S => (a δ S).bind fun x S1 => match x with
  | .bl true => b δ S1
  | .bl false => .ok (.bl false) S1
  | _ => .bad
def cOrV (a b : CE) : CE := fun δ S => (a δ S).bind fun x S1 => match x with
  | .bl true => .ok (.bl true) S1
  | .bl false => b δ S1
  | _ => .bad
def cNotV (a : CE) : CE := fun δ S => (a δ S).bind fun x S1 => match x with
  | .bl b => .ok (.bl (!b)) S1
  | _ => .bad
theorem q_one {op} {a : Expr} {ca : CE} {pos : Pos} (ha : PE C a (tE (gx C ct) E ca)) : PE C (.BoolOp op [a] pos) (tE (gx C ct) E ca) := pe_one ha
theorem q_and {a b : Expr} {rest : List Expr} {ca cb : CE} {pos : Pos} (ha : PE C a (tE (gx C ct) E ca)) (hb : PE C (.BoolOp .And (b :: rest) pos) (tE (gx C ct) E cb)) : PE C (.BoolOp .And (a :: b :: rest) pos) (tE (gx C ct) E (cAndV ca cb)) :=
  PE.weak (pe_and ha hb) fun σ H Q ⟨ρ, δ, S, hR, hF, h⟩ => tE.mk hR hF (Po.bnd h fun d S1 _ ρ1 H1 v e1 R1 rv h1 => by
    cases rv with
    | bl k => cases k with
      | true => exact ⟨true, rfl, tE.mk R1 (hF.mono e1) h1⟩
      | false => exact ⟨false, rfl, h1.ret R1 (.bl false)⟩
    | _ => exact h1.elim)
theorem q_or {a b : Expr} {rest : List Expr} {ca cb : CE} {pos : Pos} (ha : PE C a (tE (gx C ct) E ca)) (hb : PE C (.BoolOp .Or (b :: rest) pos) (tE (gx C ct) E cb)) : PE C (.BoolOp .Or (a :: b :: rest) pos) (tE (gx C ct) E (cOrV ca cb)) :=
  PE.weak (pe_or ha hb) fun σ H Q ⟨ρ, δ, S, hR, hF, h⟩ => tE.mk hR hF (Po.bnd h fun d S1 _ ρ1 H1 v e1 R1 rv h1 => by
    cases rv with
    | bl k => cases k with
      | true => exact ⟨true, rfl, h1.ret R1 (.bl true)⟩
      | false => exact ⟨false, rfl, tE.mk R1 (hF.mono e1) h1⟩
    | _ => exact h1.elim)
theorem q_not {a : Expr} {ca : CE} {pos : Pos} (ha : PE C a (tE (gx C ct) E ca)) : PE C (.UnaryOp .Not a pos) (tE (gx C ct) E (cNotV ca)) :=
  PE.weak (pe_not ha) fun σ H Q ⟨ρ, δ, S, hR, hF, h⟩ => tE.mk hR hF (Po.bnd h fun d S1 _ ρ1 H1 v e1 R1 rv h1 => by
    cases rv with
    | bl k => exact ⟨k, rfl, h1.ret R1 (.bl _)⟩
    | _ => exact h1.elim)

/-! ### whole numbers -/
def dI2 (g : Int → Int → Dv) : Dv → Dv → Store → Res Dv
  | .int i, .int j, S => .ok (g i j) S
  | _, _, _ => .bad
def dI2c (c : Int → Int → Bool) (g : Int → Int → Dv) : Dv → Dv → Store → Res Dv
  | .int i, .int j, S => if c i j then .ok (g i j) S else .bad
  | _, _, _ => .bad
theorem o_I0 {g : Int → Int → V} {g' : Int → Int → Dv} (h : ∀ i j ρ H, VR G ρ H (g' i j) (g i j)) : Op2 G E (rI0 g) (dI2 g') := by
  intro ρ S H dx dy x y Q R rx ry h1
  cases rx with
  | int i => cases ry with
    | int j => exact ⟨i, j, rfl, rfl, h1.ret R (h i j ρ H)⟩
    | _ => exact h1.elim
  | _ => exact h1.elim
theorem o_I {P : Int → Int → Prop} {c : Int → Int → Bool} {g : Int → Int → V} {g' : Int → Int → Dv} (hc : ∀ i j, c i j = true → P i j) (h : ∀ i j ρ H, VR G ρ H (g' i j) (g i j)) : Op2 G E (rI P g) (dI2c c g') := by
  intro ρ S H dx dy x y Q R rx ry h1
  cases rx with
  | int i => cases ry with
    | int j =>
      have h1 : Po G E (rV G) ρ H (if c i j = true then .ok (g' i j) S else .bad) Q := h1
      by_cases q : c i j = true
      · rw [if_pos q] at h1
        exact ⟨i, j, rfl, rfl, hc i j q, h1.ret R (h i j ρ H)⟩
      · rw [if_neg q] at h1; exact h1.elim
    | _ => exact h1.elim
  | _ => exact h1.elim
/-- two rules of one operation: by what the data are -/
theorem o_or {r r' : R2} {f f1 f2 : Dv → Dv → Store → Res Dv} (h1 : Op2 G E r f1) (h2 : Op2 G E r' f2) (hf : ∀ x y S, f x y S = f1 x y S ∨ f x y S = f2 x y S) : Op2 G E (fun x y H Q => r x y H Q ∨ r' x y H Q) f := by
  intro ρ S H dx dy x y Q R rx ry h
  rcases hf dx dy S with q | q
  · rw [q] at h; exact .inl (h1 ρ S H dx dy x y Q R rx ry h)
  · rw [q] at h; exact .inr (h2 ρ S H dx dy x y Q R rx ry h)
def dSub := dI2 fun i j => .int (i - j)
def mulOk (i j : Int) : Bool := decide ((-(2 ^ 64) < i ∧ i < 2 ^ 64) ∨ (-(2 ^ 64) < j ∧ j < 2 ^ 64))
def dMul := dI2c mulOk fun i j => .int (i * j)
def dMod := dI2c (fun _ j => decide (0 < j)) fun i j => .int (i % j)
def dDiv := dI2c (fun _ j => decide (0 < j ∧ j < 1073741824)) fun i j => .int (i / j)
def powOk (i j : Int) : Bool := decide (0 ≤ j ∧ j ≤ 1000000 ∧ i.natAbs < 2 ^ 64)
def dPow := dI2c powOk fun i j => .int (i ^ j.toNat)
def dLt := dI2 fun i j => .bl (decide (i < j))
def dLe := dI2 fun i j => .bl (decide (i ≤ j))
def dGt := dI2 fun i j => .bl (decide (j < i))
def dGe := dI2 fun i j => .bl (decide (j ≤ i))
theorem q_sub {a b : Expr} {ca cb : CE} {pos : Pos} (ha : PE C a (tE (gx C ct) E ca)) (hb : PE C b (tE (gx C ct) E cb)) : PE C (.BinOp a .Sub b pos) (tE (gx C ct) E (cBin dSub ca cb)) := q_op op_sub (o_I0 fun _ _ _ _ => .int _) ha hb
theorem q_mul {a b : Expr} {ca cb : CE} {pos : Pos} (ha : PE C a (tE (gx C ct) E ca)) (hb : PE C b (tE (gx C ct) E cb)) : PE C (.BinOp a .Mult b pos) (tE (gx C ct) E (cBin dMul ca cb)) := q_op op_mul (o_I (fun i j h => by simpa [mulOk, CMul] using h) fun _ _ _ _ => .int _) ha hb
theorem q_mod {a b : Expr} {ca cb : CE} {pos : Pos} (ha : PE C a (tE (gx C ct) E ca)) (hb : PE C b (tE (gx C ct) E cb)) : PE C (.BinOp a .Mod b pos) (tE (gx C ct) E (cBin dMod ca cb)) := q_op op_mod (o_I (fun i j h => of_decide_eq_true h) fun _ _ _ _ => .int _) ha hb
theorem q_div {a b : Expr} {ca cb : CE} {pos : Pos} (ha : PE C a (tE (gx C ct) E ca)) (hb : PE C b (tE (gx C ct) E cb)) : PE C (.BinOp a .FloorDiv b pos) (tE (gx C ct) E (cBin dDiv ca cb)) := q_op op_fdiv (o_I (fun i j h => by simpa [CDiv] using h) fun _ _ _ _ => .int _) ha hb
theorem q_pow {a b : Expr} {ca cb : CE} {pos : Pos} (ha : PE C a (tE (gx C ct) E ca)) (hb : PE C b (tE (gx C ct) E cb)) : PE C (.BinOp a .Pow b pos) (tE (gx C ct) E (cBin dPow ca cb)) := q_op op_pow (o_I (fun i j h => by simpa [powOk, CPow] using h) fun _ _ _ _ => .int _) ha hb
theorem o_lt : Op2 G E (rI0 fun i j => .bl (decide (i < j))) dLt := o_I0 fun _ _ _ _ => .bl _
theorem o_le : Op2 G E (rI0 fun i j => .bl (decide (i ≤ j))) dLe := o_I0 fun _ _ _ _ => .bl _
theorem o_gt : Op2 G E (rI0 fun i j => .bl (decide (j < i))) dGt := o_I0 fun _ _ _ _ => .bl _
theorem o_ge : Op2 G E (rI0 fun i j => .bl (decide (j ≤ i))) dGe := o_I0 fun _ _ _ _ => .bl _

/-! ### what is a row of items -/
def lsAt (S : Store) (l : Nat) : Option (List Dv) := match S[l]? with
  | some (.lst ds) => some ds
  | _ => none
theorem lsAt_iff {l : Nat} {ds : List Dv} : lsAt S l = some ds ↔ S[l]? = some (.lst ds) := by
  unfold lsAt
  split
  · rename_i es e
    rw [e]
    constructor
    · intro h; cases h; rfl
    · intro h; cases h; rfl
  · rename_i n
    constructor
    · intro h; cases h
    · intro h; exact (n ds h).elim
def dcAt (S : Store) (l : Nat) : Option (List (Key × Dv)) := match S[l]? with
  | some (.dct ds) => some ds
  | _ => none
theorem dcAt_iff {l : Nat} {ds : List (Key × Dv)} : dcAt S l = some ds ↔ S[l]? = some (.dct ds) := by
  unfold dcAt
  split
  · rename_i es e
    rw [e]
    constructor
    · intro h; cases h; rfl
    · intro h; cases h; rfl
  · rename_i n
    constructor
    · intro h; cases h
    · intro h; exact (n ds h).elim
def seqOf (S : Store) : Dv → Option (List Dv)
  | .tup ds => some ds
  | .frl ds => some ds
  | .ref l => lsAt S l
  | _ => none
theorem seq_at {d : Dv} {v : V} {ds : List Dv} (R : RH G ρ S H) (r : VR G ρ H d v) (h : seqOf S d = some ds) : ∃ a vs, v = .ref a ∧ (SqL G.K H a vs ∨ SqT G.K H a vs) ∧ VRs G ρ H ds vs := by
  cases r with
  | @tup a vs es ht hs => cases h; exact ⟨a, vs, rfl, .inr ht.sq, hs⟩
  | @frl a vs es ht hs => cases h; exact ⟨a, vs, rfl, .inl ht.sq, hs⟩
  | @ref l a ha =>
    obtain ⟨vs, q, hs⟩ := R.lst (lsAt_iff.mp h) ha
    exact ⟨a, vs, rfl, .inl (.of q), hs⟩
  | _ => cases h
/-- a list, that changes or is frozen -/
def lstOf (S : Store) : Dv → Option (List Dv)
  | .frl ds => some ds
  | .ref l => lsAt S l
  | _ => none
theorem lst_at {d : Dv} {v : V} {ds : List Dv} (R : RH G ρ S H) (r : VR G ρ H d v) (h : lstOf S d = some ds) : ∃ a vs, v = .ref a ∧ SqL G.K H a vs ∧ VRs G ρ H ds vs := by
  cases r with
  | @frl a vs es ht hs => cases h; exact ⟨a, vs, rfl, ht.sq, hs⟩
  | @ref l a ha =>
    obtain ⟨vs, q, hs⟩ := R.lst (lsAt_iff.mp h) ha
    exact ⟨a, vs, rfl, .of q, hs⟩
  | _ => cases h

/-! ### + of numbers, texts, lists, tuples -/
/-- list + list, whatever may be read -/
def rCatR (K : PySem.W.Frag) : R2 := fun x y H Q => ∃ l b xs zs, x = .ref l ∧ y = .ref b ∧ SqL K H l xs ∧ SqL K H b zs ∧ xs.length + zs.length ≤ sizeLine ∧ ∀ p, H p = none → Q (.ref p) (upd H p (.lst (xs ++ zs)))
theorem op_catR : OpR C (binaryOp .Add) (rCatR C.K) := by
  intro pins s σ H x y v u Q I rx ry h
  obtain ⟨l, b, xs, zs, rfl, rfl, hH, hB, hz, q⟩ := h
  cases rx
  cases ry
  obtain ⟨its, r, ⟨⟨cls, dd, data, sl⟩, n, ho, hc, hd0, hd⟩, _⟩ := I.list hH
  obtain ⟨its2, r2, ⟨⟨cls2, dd2, data2, sl2⟩, n2, ho2, hc2, hd02, hd2⟩, _⟩ := I.list hB
  simp only at hc hd hc2 hd2
  subst hc hd hc2 hd2
  have h1 := r.length
  have h2 := r2.length
  have e : its.toArray ++ its2.toArray = (its ++ its2).toArray := by simp
  refine concat_meets ⟨_, ho, rfl⟩ ⟨_, ho2, rfl⟩ noFill_list_add seq_list_add PySem.F.slot_list_add PySem.F.entry_list_add (PySem.F.args_list_add_2 _ _) (PyProof.Rows.list_addW l b its.toArray its2.toArray n n2 dd dd2 sl sl2 (by simp only [List.size_toArray]; omega)) ⟨ho, ho2, ?_⟩
  rw [e]
  exact ⟨.ref _, _, I.lnew (t' := s.toks) (r.append r2) (by rw [List.length_append]; omega), rfl, q _ I.fresh⟩
def lineOk (n : Nat) : Bool := decide (n ≤ 16777216)
theorem line_of {n : Nat} (h : lineOk n = true) : n ≤ sizeLine := by
  have := of_decide_eq_true h
  rw [sizeLine_eq]; exact this
def dAddL : Dv → Dv → Store → Res Dv := fun x y S => match lstOf S x, lstOf S y with
    | some a, some b => if lineOk (a.length + b.length) then .ok (.ref S.length) (S ++ [.lst (a ++ b)]) else .bad
    | _, _ => .bad
theorem o_catR : Op2 G E (rCatR G.K) dAddL := by
  intro ρ S H dx dy x y Q R rx ry h
  unfold dAddL at h
  split at h
  · rename_i a b e1 e2
    by_cases hl : lineOk (a.length + b.length) = true
    · rw [if_pos hl] at h
      obtain ⟨l, xs, rfl, q1, s1⟩ := lst_at R rx e1
      obtain ⟨m, ys, rfl, q2, s2⟩ := lst_at R ry e2
      refine ⟨l, m, xs, ys, rfl, rfl, q1, q2, by rw [← s1.length, ← s2.length]; exact line_of hl, fun p hp => ?_⟩
      exact h.retX (.new hp) (R.alloc hp (.lst (s1.append s2))) (.ref (by rw [← R.len]; simp))
    · rw [if_neg hl] at h; exact h.elim
  · exact h.elim
def dAddS : Dv → Dv → Store → Res Dv
  | .str a, .str b, S => if lineOk (a.length + b.length) then .ok (.str (a ++ b)) S else .bad
  | _, _, _ => .bad
theorem o_addS : Op2 G E (fun x y H Q => ∃ i j, x = .str i ∧ y = .str j ∧ i.length + j.length ≤ sizeLine ∧ Q (.str (i ++ j)) H) dAddS := by
  intro ρ S H dx dy x y Q R rx ry h
  cases rx with
  | str i => cases ry with
    | str j =>
      have h : Po G E (rV G) ρ H (if lineOk (i.length + j.length) then .ok (.str (i ++ j)) S else .bad) Q := h
      by_cases q : lineOk (i.length + j.length) = true
      · rw [if_pos q] at h
        exact ⟨i, j, rfl, rfl, line_of q, h.ret R (.str _)⟩
      · rw [if_neg q] at h; exact h.elim
    | _ => exact h.elim
  | _ => exact h.elim
def dAddT : Dv → Dv → Store → Res Dv
  | .tup a, .tup b, S => if lineOk (a.length + b.length) then .ok (.tup (a ++ b)) S else .bad
  | _, _, _ => .bad
theorem o_addT : Op2 G E (rCatA G.K) dAddT := by
  intro ρ S H dx dy x y Q R rx ry h
  cases rx with
  | @tup a vs ds ha hs => cases ry with
    | @tup b us es hb hs2 =>
      have h : Po G E (rV G) ρ H (if lineOk (ds.length + es.length) then .ok (.tup (ds ++ es)) S else .bad) Q := h
      by_cases q : lineOk (ds.length + es.length) = true
      · rw [if_pos q] at h
        refine ⟨a, b, vs, us, rfl, rfl, ha.sq, hb.sq, by rw [← hs.length, ← hs2.length]; exact line_of q, fun e => ?_, fun e1 e2 => ?_, fun e1 e2 p hp => ?_⟩
        · subst e
          cases hs
          exact h.ret R (.tup hb hs2)
        · subst e2
          cases hs2
          exact h.ret R (.tup ha (by rw [List.append_nil]; exact hs))
        · exact h.retX (.new0 hp) (R.new hp) (.tup (.inl upd_same) ((hs.append hs2).mono (.new0 hp)))
      · rw [if_neg q] at h; exact h.elim
    | _ => exact h.elim
  | _ => exact h.elim
def dAddI := dI2 fun i j => .int (i + j)
def dAdd (x y : Dv) (S : Store) : Res Dv := match x, y with
  | .int _, .int _ => dAddI x y S
  | .str _, .str _ => dAddS x y S
  | .tup _, .tup _ => dAddT x y S
  | _, _ => dAddL x y S
theorem q_add {a b : Expr} {ca cb : CE} {pos : Pos} (ha : PE C a (tE (gx C ct) E ca)) (hb : PE C b (tE (gx C ct) E cb)) : PE C (.BinOp a .Add b pos) (tE (gx C ct) E (cBin dAdd ca cb)) := by
  refine q_op (op_add.or (op_add_str.or (op_catA.or op_catR))) (fun ρ S H dx dy x y Q R rx ry h => ?_) ha hb
  unfold dAdd at h
  split at h
  · exact .inl (o_I0 (g' := fun i j => .int (i + j)) (fun _ _ _ _ => .int _) ρ S H _ _ x y Q R rx ry h)
  · exact .inr (.inl (o_addS ρ S H _ _ x y Q R rx ry h))
  · exact .inr (.inr (.inl (o_addT ρ S H _ _ x y Q R rx ry h)))
  · exact .inr (.inr (.inr (o_catR ρ S H _ _ x y Q R rx ry h)))

/-! ### == of data -/
mutual
def toPyW (r : Nat → Option PyData) : Dv → Option PyData
  | .non => some .none
  | .bl b => some (.bool b)
  | .int i => some (.int i)
  | .str x => some (.str x)
  | .tup ds => (toPysW r ds).map PyData.tuple
  | .frl ds => (toPysW r ds).map PyData.list
  | .ref l => r l
  | .ty _ => none
  | .con _ => none
def toPysW (r : Nat → Option PyData) : List Dv → Option (List PyData)
  | [] => some []
  | d :: ds => match toPyW r d, toPysW r ds with
    | some a, some b => some (a :: b)
    | _, _ => none
end
def rdr (S : Store) : Nat → Nat → Option PyData
  | 0, _ => none
  | n + 1, l => (lsAt S l).bind fun ds => (toPysW (rdr S n) ds).map PyData.list
def toPy (S : Store) (d : Dv) : Option PyData := toPyW (rdr S 3) d
mutual
theorem toPyW_dp {r : Nat → Option PyData} (hr : ∀ l p a, r l = some p → ρ[l]? = some a → Dp G.K H (.ref a) p) : ∀ {d : Dv} {v : V} {p : PyData}, VR G ρ H d v → toPyW r d = some p → Dp G.K H v p
  | _, _, _, .non, e => by unfold toPyW at e; cases e; exact .non
  | _, _, _, .bl b, e => by unfold toPyW at e; cases e; exact .bl b
  | _, _, _, .int b, e => by unfold toPyW at e; cases e; exact .int b
  | _, _, _, .str b, e => by unfold toPyW at e; cases e; exact .str b
  | _, _, _, .tup (ds := ds) ht hs, e => by
    unfold toPyW at e
    obtain ⟨ps, q, rfl⟩ := Option.map_eq_some_iff.mp e
    exact .tup ht.sq (toPysW_dp hr hs q)
  | _, _, _, .frl (ds := ds) ht hs, e => by
    unfold toPyW at e
    obtain ⟨ps, q, rfl⟩ := Option.map_eq_some_iff.mp e
    exact .lst ht.sq (toPysW_dp hr hs q)
  | _, _, _, .ref h, e => by unfold toPyW at e; exact hr _ _ _ e h
  | _, _, _, .ty _, e => by unfold toPyW at e; cases e
  | _, _, _, .con _, e => by unfold toPyW at e; cases e
theorem toPysW_dp {r : Nat → Option PyData} (hr : ∀ l p a, r l = some p → ρ[l]? = some a → Dp G.K H (.ref a) p) : ∀ {ds : List Dv} {vs : List V} {ps : List PyData}, VRs G ρ H ds vs → toPysW r ds = some ps → DpAll G.K H vs ps
  | _, _, _, .nil, e => by unfold toPysW at e; cases e; exact .nil
  | _, _, _, .cons h hs, e => by
    unfold toPysW at e
    split at e
    · rename_i a b e1 e2
      cases e
      exact .cons (toPyW_dp hr h e1) (toPysW_dp hr hs e2)
    · cases e
end
theorem rdr_dp (R : RH G ρ S H) : ∀ (n l : Nat) (p : PyData) (a : Addr), rdr S n l = some p → ρ[l]? = some a → Dp G.K H (.ref a) p
  | 0, _, _, _, e, _ => by cases e
  | n + 1, l, p, a, e, ha => by
    obtain ⟨ds, e1, e2⟩ := Option.bind_eq_some_iff.mp e
    obtain ⟨ps, e3, rfl⟩ := Option.map_eq_some_iff.mp e2
    obtain ⟨vs, q, hs⟩ := R.lst (lsAt_iff.mp e1) ha
    exact .lst (.of q) (toPysW_dp (fun l p a h1 h2 => rdr_dp R n l p a h1 h2) hs e3)
theorem toPy_dp (R : RH G ρ S H) {d : Dv} {v : V} {p : PyData} (r : VR G ρ H d v) (e : toPy S d = some p) : Dp G.K H v p := toPyW_dp (fun l p a h1 h2 => rdr_dp R 3 l p a h1 h2) r e
/-- what == is asked of -/
def eqOk (p : PyData) : Bool := SeqAt.shaped p
/-- plain things side by side -/
def scEq : Dv → Dv → Option Bool
  | .str a, .str b => some (decide (a = b))
  | .int a, .int b => some (decide (a = b))
  | .bl a, .bl b => some (decide (a = b))
  | .non, .non => some true
  | .str _, .int _ => some false
  | .int _, .str _ => some false
  | .str _, .non => some false
  | .non, .str _ => some false
  | .int _, .non => some false
  | .non, .int _ => some false
  | .bl _, .non => some false
  | .non, .bl _ => some false
  | .bl _, .str _ => some false
  | .str _, .bl _ => some false
  | _, _ => none
theorem scEq_of {d e : Dv} {x y : V} {b : Bool} (r : VR G ρ H d x) (q : VR G ρ H e y) (h : scEq d e = some b) : rEq x y H (fun z _ => z = .bl b) ∧ rNe x y H (fun z _ => z = .bl (!b)) := by
  cases r <;> first
    | (cases h; done)
    | (cases q <;> first
        | (cases h; done)
        | (cases h; exact ⟨⟨rfl, by simp⟩, ⟨rfl, by simp⟩⟩))
theorem rEq.imp {x y : V} {P P' : VK} (h : rEq x y H P) (k : ∀ z, P z H → P' z H) : rEq x y H P' := ⟨h.1, k _ h.2⟩
theorem rNe.imp {x y : V} {P P' : VK} (h : rNe x y H P) (k : ∀ z, P z H → P' z H) : rNe x y H P' := ⟨h.1, k _ h.2⟩
def dEq (x y : Dv) (S : Store) : Res Dv := match scEq x y with
  | some b => .ok (.bl b) S
  | none => (match toPy S x, toPy S y with
    | some p, some q => if eqOk p && eqOk q then .ok (.bl (PyData.eqv p q)) S else .bad
    | _, _ => .bad)
def dNe (x y : Dv) (S : Store) : Res Dv := match scEq x y with
  | some b => .ok (.bl (!b)) S
  | none => (match toPy S x, toPy S y with
    | some p, some q => if eqOk p && eqOk q then .ok (.bl (!PyData.eqv p q)) S else .bad
    | _, _ => .bad)
theorem o_eq : Op2 G E (fun x y H Q => rEq x y H Q ∨ rEqD G.K x y H Q) dEq := by
  intro ρ S H dx dy x y Q R rx ry h
  unfold dEq at h
  split at h
  · rename_i b e
    exact .inl (rEq.imp (scEq_of rx ry e).1 fun z hz => by subst hz; exact h.ret R (.bl _))
  · split at h
    · rename_i p q e1 e2
      by_cases hs : (eqOk p && eqOk q) = true
      · rw [if_pos hs] at h
        obtain ⟨s1, s2⟩ := Bool.and_eq_true_iff.mp hs
        exact .inr ⟨p, q, toPy_dp R rx e1, toPy_dp R ry e2, s1, s2, h.ret R (.bl _)⟩
      · rw [if_neg hs] at h; exact h.elim
    · exact h.elim
theorem o_ne : Op2 G E (fun x y H Q => rNe x y H Q ∨ rNeD G.K x y H Q) dNe := by
  intro ρ S H dx dy x y Q R rx ry h
  unfold dNe at h
  split at h
  · rename_i b e
    exact .inl (rNe.imp (scEq_of rx ry e).2 fun z hz => by subst hz; exact h.ret R (.bl _))
  · split at h
    · rename_i p q e1 e2
      by_cases hs : (eqOk p && eqOk q) = true
      · rw [if_pos hs] at h
        obtain ⟨s1, s2⟩ := Bool.and_eq_true_iff.mp hs
        exact .inr ⟨p, q, toPy_dp R rx e1, toPy_dp R ry e2, s1, s2, h.ret R (.bl _)⟩
      · rw [if_neg hs] at h; exact h.elim
    · exact h.elim

/-! ### in, not in: flat data in a row -/
def flatD : Dv → Bool
  | .non => true
  | .bl _ => true
  | .int _ => true
  | .str _ => true
  | _ => false
def eqD : Dv → Dv → Bool
  | .non, .non => true
  | .bl a, .bl b => a == b
  | .bl a, .int b => (if a then 1 else 0) == b
  | .int a, .bl b => a == (if b then 1 else 0)
  | .int a, .int b => a == b
  | .str a, .str b => a == b
  | _, _ => false
theorem flat_of {d : Dv} {v : V} (r : VR G ρ H d v) (h : flatD d = true) : flatV v = true := by
  cases r <;> first
    | rfl
    | cases h
theorem eqD_of {d e : Dv} {v u : V} (r : VR G ρ H d v) (q : VR G ρ H e u) (h : flatD d = true) (h2 : flatD e = true) : eqV v u = eqD d e := by
  cases r <;> first
    | (cases h; done)
    | (cases q <;> first
        | (cases h2; done)
        | rfl)
theorem flats_of : ∀ {ds : List Dv} {vs : List V}, VRs G ρ H ds vs → ds.all flatD = true → vs.all flatV = true
  | _, _, .nil, _ => rfl
  | _, _, .cons r hs, h => by
    rw [List.all_cons, Bool.and_eq_true] at h
    rw [List.all_cons, flat_of r h.1, flats_of hs h.2]
    rfl
theorem inD_of {d : Dv} {v : V} (r : VR G ρ H d v) (h : flatD d = true) : ∀ {ds : List Dv} {vs : List V}, VRs G ρ H ds vs → ds.all flatD = true → inV v vs = ds.any fun y => eqD y d
  | _, _, .nil, _ => rfl
  | _, _, .cons r2 hs, h2 => by
    rw [List.all_cons, Bool.and_eq_true] at h2
    have ih := inD_of r h hs h2.2
    unfold inV at ih ⊢
    rw [List.any_cons, List.any_cons, eqD_of r2 r h2.1 h, ih]
def dIn (neg : Bool) (x y : Dv) (S : Store) : Res Dv := match seqOf S y with
  | some ds => if flatD x && ds.all flatD then .ok (.bl (if neg then !(ds.any fun y => eqD y x) else ds.any fun y => eqD y x)) S else .bad
  | none => .bad
theorem o_in {neg : Bool} : Op2 G E (rIn G.K neg) (dIn neg) := by
  intro ρ S H dx dy x y Q R rx ry h
  unfold dIn at h
  split at h
  · rename_i ds e
    by_cases hs : (flatD dx && ds.all flatD) = true
    · rw [if_pos hs] at h
      obtain ⟨h1, h2⟩ := Bool.and_eq_true_iff.mp hs
      obtain ⟨a, vs, rfl, q, s⟩ := seq_at R ry e
      refine ⟨a, vs, rfl, q, flat_of rx h1, flats_of s h2, ?_⟩
      rw [inD_of rx h1 s h2]
      exact h.ret R (.bl _)
    · rw [if_neg hs] at h; exact h.elim
  · exact h.elim

/-! ### subscripts -/
/-- what a dict holds -/
def valD (kvs : List (Key × Dv)) (k : Key) : Option Dv := (kvs.find? fun kv => decide (kv.1 = k)).map (·.2)
def putD (kvs : List (Key × Dv)) (k : Key) (v : Dv) : List (Key × Dv) :=
  if kvs.any (fun kv => decide (kv.1 = k)) then kvs.map (fun kv => if kv.1 = k then (kv.1, v) else kv) else kvs ++ [(k, v)]
def keyD : Dv → Option Key
  | .int i => some (.inl i)
  | .str x => some (.inr x)
  | _ => none
theorem key_at {d : Dv} {v : V} {k : Key} (r : VR G ρ H d v) (h : keyD d = some k) : v = kV k := by
  cases r <;> first
    | (cases h; done)
    | (cases h; rfl)
theorem KVR.val : ∀ {xs : List (Key × Dv)} {ys : List (Key × V)} (k : Key), KVR G ρ H xs ys → (valD xs k = none ∧ valV ys k = none) ∨ ∃ d v, valD xs k = some d ∧ valV ys k = some v ∧ VR G ρ H d v
  | _, _, _, .nil => .inl ⟨rfl, rfl⟩
  | (k1, d) :: xs, (k2, v) :: ys, k, .cons h hs => by
    obtain ⟨h1, h2⟩ := h
    have h1 : k1 = k2 := h1
    subst h1
    by_cases e : k1 = k
    · refine .inr ⟨d, v, ?_, ?_, h2⟩
      · simp [valD, List.find?_cons, e]
      · simp [valV, List.find?_cons, e]
    · have ih := KVR.val k hs
      have e1 : valD ((k1, d) :: xs) k = valD xs k := by simp [valD, List.find?_cons, e]
      have e2 : valV ((k1, v) :: ys) k = valV ys k := by simp [valV, List.find?_cons, e]
      rw [e1, e2]
      exact ih
def ixL (ds : List Dv) (k : Dv) (S : Store) : Res Dv := match k with
  | .int i => (match atI ds i with
    | some d => .ok d S
    | none => .bad)
  | _ => .bad
def ixK (kvs : List (Key × Dv)) (k : Dv) (S : Store) : Res Dv := match (keyD k).bind (valD kvs) with
  | some d => .ok d S
  | none => .bad
def ixS (z : Str) (k : Dv) (S : Store) : Res Dv := match k with
  | .int i => if lineOk z.length then (match atI z.cps.toList i with
    | some c => .ok (.str ⟨#[c]⟩) S
    | none => .bad) else .bad
  | _ => .bad
def dIx (x y : Dv) (S : Store) : Res Dv := match x with
  | .str z => ixS z y S
  | .ref l => (match lsAt S l with
    | some ds => ixL ds y S
    | none => (match dcAt S l with
      | some kvs => ixK kvs y S
      | none => .bad))
  | .tup ds => ixL ds y S
  | .frl ds => ixL ds y S
  | _ => .bad
theorem atI_rel {ds : List Dv} {vs : List V} {i : Int} {d : Dv} (hs : VRs G ρ H ds vs) (e : atI ds i = some d) : ∃ v, atI vs i = some v ∧ VR G ρ H d v := by
  unfold atI at e ⊢
  obtain ⟨j, e1, e2⟩ := Option.bind_eq_some_iff.mp e
  obtain ⟨v, q, r⟩ := hs.get e2
  refine ⟨v, ?_, r⟩
  rw [← hs.length, e1]
  exact q
/-- d[k] of a tracked dict, as a subscript's rule -/
def rIxDt : R2 := fun x y H Q => ∃ a v, x = .ref a ∧ DGet H a y (some v) ∧ Q v H
theorem ix_dict (hu : C.A.units + 1 < cLine) : IxR C rIxDt := by
  intro value slice pins s σ H x y v u Q I rx ry h hs
  obtain ⟨a, w, rfl, g, q⟩ := h
  cases rx
  exact tail_any (dict_typeIs I g) PySem.F.slot_dict_getitem.lookup (d_getItem hu I g ry fun w' s' I' rw' => ⟨w, H, I', rw', q⟩) hs
theorem ixL_of {ds : List Dv} {vs : List V} {dy : Dv} {y : V} {Q : VK} (R : RH G ρ S H) (hs : VRs G ρ H ds vs) (ry : VR G ρ H dy y) (h : Po G E (rV G) ρ H (ixL ds dy S) Q) : ∃ i v, y = .int i ∧ atI vs i = some v ∧ Q v H := by
  cases ry with
  | int i =>
    unfold ixL at h
    dsimp only at h
    cases e : atI ds i with
    | none => rw [e] at h; exact h.elim
    | some d =>
      rw [e] at h
      obtain ⟨v, e1, r⟩ := atI_rel hs e
      exact ⟨i, v, rfl, e1, h.ret R r⟩
  | _ => exact h.elim
theorem o_ix : Op2 G E (fun x y H Q => rIx G.K x y H Q ∨ rIxDt x y H Q) dIx := by
  intro ρ S H dx dy x y Q R rx ry h
  cases rx with
  | str z =>
    have h : Po G E (rV G) ρ H (ixS z dy S) Q := h
    cases ry with
    | int i =>
      unfold ixS at h
      dsimp only at h
      by_cases q : lineOk z.length = true
      · rw [if_pos q] at h
        cases e : atI z.cps.toList i with
        | none => rw [e] at h; exact h.elim
        | some c => rw [e] at h; exact .inl (.inr (.inr ⟨z, i, c, rfl, rfl, line_of q, e, h.ret R (.str _)⟩))
      · rw [if_neg q] at h; exact h.elim
    | _ => exact h.elim
  | @tup a vs ds ha hs =>
    obtain ⟨i, v, e0, e1, q⟩ := ixL_of R hs ry (show Po G E (rV G) ρ H (ixL ds dy S) Q from h)
    exact .inl (.inr (.inl ⟨a, vs, i, v, rfl, e0, ha.sq, e1, q⟩))
  | @frl a vs ds ha hs =>
    obtain ⟨i, v, e0, e1, q⟩ := ixL_of R hs ry (show Po G E (rV G) ρ H (ixL ds dy S) Q from h)
    exact .inl (.inl ⟨a, vs, i, v, rfl, e0, ha.sq, e1, q⟩)
  | @ref l a ha =>
    unfold dIx at h
    dsimp only at h
    cases e1 : lsAt S l with
    | some ds =>
      rw [e1] at h
      obtain ⟨vs, q, hs⟩ := R.lst (lsAt_iff.mp e1) ha
      obtain ⟨i, v, e0, e1, q2⟩ := ixL_of R hs ry h
      exact .inl (.inl ⟨a, vs, i, v, rfl, e0, .of q, e1, q2⟩)
    | none =>
      rw [e1] at h
      dsimp only at h
      cases e2 : dcAt S l with
      | none => rw [e2] at h; exact h.elim
      | some kvs =>
        rw [e2] at h
        dsimp only at h
        unfold ixK at h
        obtain ⟨ws, q, hs⟩ := R.dct (dcAt_iff.mp e2) ha
        cases e : (keyD dy).bind (valD kvs) with
        | none => rw [e] at h; exact h.elim
        | some d =>
          rw [e] at h
          obtain ⟨k, e2, e3⟩ := Option.bind_eq_some_iff.mp e
          rw [key_at ry e2]
          rcases hs.val k with ⟨z, _⟩ | ⟨d', v, z1, z2, r⟩
          · rw [z] at e3; cases e3
          · rw [z1] at e3
            cases e3
            refine .inr ⟨a, v, rfl, ?_, h.ret R r⟩
            rw [← z2]
            exact .k q
  | _ => exact h.elim
theorem q_ix {a b : Expr} {ca cb : CE} {pos : Pos} (hu : C.A.units + 1 < cLine) (ha : PE C a (tE (gx C ct) E ca)) (hb : PE C b (tE (gx C ct) E cb)) (hs : PlainIx b := by intro _ _; rfl) : PE C (.Subscript a b pos) (tE (gx C ct) E (cBin dIx ca cb)) :=
  PE.weak (pe_ix (ix_seq.or (ix_dict hu)) ha hb hs) fun σ H Q h => bin_step o_ix h
end
end Sm

namespace Sm
open PySem L2
section
variable {C : Cx} {ct : Nat → Addr} {E : XK} {G : Gx} {ρ : List Addr} {H : Hp} {σ : St} {δ : Env'} {S : Store}

/-! ### slices -/
abbrev CO := Env' → Store → Res (Option Int)
abbrev rO : List Addr → Hp → Option Int → Option Int → Prop := fun _ _ a b => a = b
def tOo (G : Gx) (E : XK) (c : CO) : TO := fun σ H Q => ∃ ρ δ S, RH G ρ S H ∧ FR G ρ H δ σ ∧ Po G E rO ρ H (c δ S) Q
theorem tOo.mk {c : CO} {Q : Option Int → Hp → Prop} (hR : RH G ρ S H) (hF : FR G ρ H δ σ) (h : Po G E rO ρ H (c δ S) Q) : tOo G E c σ H Q := ⟨ρ, δ, S, hR, hF, h⟩
theorem PO.weak {C : Cx} {e : Option Expr} {t t' : TO} (h : PO C e t) (w : ∀ σ H Q, t' σ H Q → t σ H Q) : PO C e t' := ⟨fun pins s σ H Q I q => h.run pins s σ H Q I (w σ H Q q)⟩
def cNo : CO := fun _ S => .ok none S
def asI : Dv → Store → Res (Option Int)
  | .int i, S => .ok (some i) S
  | _, _ => .bad
def cPt (c : CE) : CO := fun δ S => (c δ S).bind asI
theorem qo_none : PO C none (tOo (gx C ct) E cNo) := PO.weak po_none fun σ H Q ⟨ρ, δ, S, hR, hF, h⟩ => h.ret hR rfl
theorem qo_some {e : Expr} {c : CE} (he : PE C e (tE (gx C ct) E c)) : PO C (some e) (tOo (gx C ct) E (cPt c)) :=
  PO.weak (po_some he) fun σ H Q ⟨ρ, δ, S, hR, hF, h⟩ => tE.mk hR hF (Po.bnd h fun d S1 _ ρ1 H1 v e1 R1 rv h1 => by
    cases rv with
    | int i => exact ⟨i, rfl, h1.ret R1 rfl⟩
    | _ => exact h1.elim)
def cutG {α : Type} (xs : List α) (lo hi : Option Int) : List α := (xs.drop (HT.sIx xs.length 0 lo)).take (HT.sIx xs.length xs.length hi - HT.sIx xs.length 0 lo)
theorem cut_rel {ds : List Dv} {vs : List V} (hs : VRs G ρ H ds vs) (lo hi : Option Int) : VRs G ρ H (cutG ds lo hi) (cutV vs lo hi) := by
  unfold cutG cutV
  rw [hs.length]
  exact (hs.drop _).take _
def dSl (x : Dv) (lo hi : Option Int) (S : Store) : Res Dv := match x with
  | .str z => if lineOk z.length then .ok (.str (cutS z lo hi)) S else .bad
  | .tup ds => .ok (.tup (cutG ds lo hi)) S
  | .frl ds => .ok (.ref S.length) (S ++ [.lst (cutG ds lo hi)])
  | .ref l => (match lsAt S l with
    | some ds => .ok (.ref S.length) (S ++ [.lst (cutG ds lo hi)])
    | none => .bad)
  | _ => .bad
def cSl (c : CE) (lo hi : CO) : CE := fun δ S => (c δ S).bind fun x S1 => (lo δ S1).bind fun l S2 => (hi δ S2).bind fun h S3 => dSl x l h S3
theorem q_sl {e : Expr} {lo hi : Option Expr} {c : CE} {cl ch : CO} {p2 pos : Pos} (he : PE C e (tE (gx C ct) E c)) (hl : PO C lo (tOo (gx C ct) E cl)) (hh : PO C hi (tOo (gx C ct) E ch)) : PE C (.Subscript e (.Slice lo hi none p2) pos) (tE (gx C ct) E (cSl c cl ch)) :=
  PE.weak (pe_slice (sl_str.or (sl_tupA.or sl_list)) he hl hh) fun σ H Q ⟨ρ, δ, S, hR, hF, h⟩ => tE.mk hR hF (Po.bnd h fun d S1 _ ρ1 H1 v e1 R1 rv h1 =>
    tOo.mk R1 (hF.mono e1) (Po.bnd h1 fun l S2 _ ρ2 H2 l' e2 R2 rl h2 => tOo.mk R2 ((hF.mono e1).mono e2) (Po.bnd h2 fun u S3 _ ρ3 H3 u' e3 R3 ru h3 => by
      cases rl
      cases ru
      have rv := (rv.mono e2).mono e3
      clear h h1 h2
      have lst : ∀ {a : Addr} {vs : List V} {ds : List Dv}, SqL C.K H3 a vs → VRs (gx C ct) ρ3 H3 ds vs → Po (gx C ct) E (rV (gx C ct)) ρ3 H3 (.ok (.ref S3.length) (S3 ++ [.lst (cutG ds l u)])) Q → rSlL C.K (.ref a) l u H3 Q := fun {a vs ds} hq hs h => ⟨a, vs, rfl, hq, fun p hp => h.retX (.new hp) (R3.alloc hp (.lst (cut_rel hs l u))) (.ref (by rw [← R3.len]; simp))⟩
      cases rv with
      | str z =>
        have h3 : Po (gx C ct) E (rV (gx C ct)) ρ3 H3 (if lineOk z.length then .ok (.str (cutS z l u)) S3 else .bad) Q := h3
        by_cases q : lineOk z.length = true
        · rw [if_pos q] at h3
          exact .inl ⟨z, rfl, line_of q, h3.ret R3 (.str _)⟩
        · rw [if_neg q] at h3; exact h3.elim
      | @tup a vs ds ht hs =>
        have h3 : Po (gx C ct) E (rV (gx C ct)) ρ3 H3 (.ok (.tup (cutG ds l u)) S3) Q := h3
        refine .inr (.inl ⟨a, vs, rfl, ht.sq, fun ⟨w1, w2⟩ => ?_, fun hw p hp => ?_⟩)
        · have ew : cutV vs l u = vs := by
            unfold cutV
            rw [w1, w2, List.drop_zero, Nat.sub_zero, List.take_length]
          refine h3.ret R3 (.tup ht ?_)
          have := cut_rel hs l u
          rw [ew] at this
          exact this
        · exact h3.retX (.new0 hp) (R3.new hp) (.tup (.inl upd_same) ((cut_rel hs l u).mono (.new0 hp)))
      | @frl a vs ds ht hs => exact .inr (.inr (lst ht.sq hs h3))
      | @ref i a ha =>
        unfold dSl at h3
        dsimp only at h3
        cases e : lsAt S3 i with
        | none => rw [e] at h3; exact h3.elim
        | some ds =>
          rw [e] at h3
          obtain ⟨vs, q, hs⟩ := R3.lst (lsAt_iff.mp e) ha
          exact .inr (.inr (lst (.of q) hs h3))
      | _ => exact h3.elim)))

/-! ### calls by values -/
/-- the rule r of values does what f does of data -/
def OpL (G : Gx) (E : XK) (r : List V → Hp → VK → Prop) (f : List Dv → Store → Res Dv) : Prop := ∀ (ρ : List Addr) (S : Store) (H : Hp) (ds : List Dv) (vs : List V) (Q : VK), RH G ρ S H → VRs G ρ H ds vs → Po G E (rV G) ρ H (f ds S) Q → r vs H Q
def cApp (f : List Dv → Store → Res Dv) (a : CA) : CE := fun δ S => (a δ S).bind f
theorem q_callB {x : Str} {p pos : Pos} {e : Expr} {es : List Expr} {id : String} {r : List V → Hp → VK → Prop} {f : List Dv → Store → Res Dv} {a : CA} (hc : CallR C (.builtin id) r) (o : OpL (gx C ct) E r f) (hg : Gl C x) (hm : C.mg x = none) (hv : bootBuiltins x = some (.builtin id)) (ha : PA C (e :: es) (tA (gx C ct) E a)) (hn : x ≠ "__name__" := by decide) (hdb : (x == ("__debug__" : Str)) = false := by decide)
    (he : starEach (e :: es) C.env = (false, eval e C.env) :: starEach es C.env := by rfl) (hpl : (backTo pos (starEach es C.env)).any (·.1) = false := by rfl) : PE C (.Call (.Name x p) (e :: es) [] pos) (tE (gx C ct) E (cApp f a)) :=
  PE.weak (pe_callB hc hg hm hv ha hn hdb he hpl) fun σ H Q ⟨ρ, δ, S, hR, hF, h⟩ => tA.mk hR hF (Po.bnd h fun ds S1 _ ρ1 H1 vs e1 R1 rvs h1 => o ρ1 S1 H1 ds vs Q R1 rvs h1)
theorem q_callTy {x : Str} {p pos : Pos} {e : Expr} {es : List Expr} {T : String} {r : List V → Hp → VK → Prop} {f : List Dv → Store → Res Dv} {a : CA} (hc : CallR C (.type T) r) (o : OpL (gx C ct) E r f) (hg : Gl C x) (hm : C.mg x = none) (hv : bootBuiltins x = some (.type T)) (ha : PA C (e :: es) (tA (gx C ct) E a)) (hn : x ≠ "__name__" := by decide) (hdb : (x == ("__debug__" : Str)) = false := by decide)
    (he : starEach (e :: es) C.env = (false, eval e C.env) :: starEach es C.env := by rfl) (hpl : (backTo pos (starEach es C.env)).any (·.1) = false := by rfl) : PE C (.Call (.Name x p) (e :: es) [] pos) (tE (gx C ct) E (cApp f a)) :=
  PE.weak (pe_callTy hc hg hm hv ha hn hdb he hpl) fun σ H Q ⟨ρ, δ, S, hR, hF, h⟩ => tA.mk hR hF (Po.bnd h fun ds S1 _ ρ1 H1 vs e1 R1 rvs h1 => o ρ1 S1 H1 ds vs Q R1 rvs h1)

/-- len -/
def lenOf (S : Store) (x : Dv) : Option Nat := match x with
  | .str z => if lineOk z.length then some z.length else none
  | .tup ds => some ds.length
  | .frl ds => some ds.length
  | .ref l => (match lsAt S l with
    | some ds => some ds.length
    | none => (dcAt S l).map List.length)
  | _ => none
def bLen (ds : List Dv) (S : Store) : Res Dv := match ds with
  | [x] => (match lenOf S x with
    | some n => .ok (.int (n : Int)) S
    | none => .bad)
  | _ => .bad
def rLenA (K : PySem.W.Frag) : List V → Hp → VK → Prop := fun xs H Q => (∃ p ys, xs = [.ref p] ∧ (SqL K H p ys ∨ SqT K H p ys) ∧ Q (.int ys.length) H) ∨ (∃ z, xs = [.str z] ∧ z.length ≤ sizeLine ∧ Q (.int z.length) H) ∨ (∃ a kvs, xs = [V.ref a] ∧ H a = some (.dK kvs) ∧ Q (.int kvs.length) H)
theorem call_lenA : CallR C (.builtin "len") (rLenA C.K) := call_len_seq.or (call_len_str.or call_lenD)
theorem VRs.one {d : Dv} {vs : List V} (h : VRs G ρ H [d] vs) : ∃ v, vs = [v] ∧ VR G ρ H d v := by
  cases h with
  | cons h hs => cases hs; exact ⟨_, rfl, h⟩
theorem VRs.two {d e : Dv} {vs : List V} (h : VRs G ρ H [d, e] vs) : ∃ v u, vs = [v, u] ∧ VR G ρ H d v ∧ VR G ρ H e u := by
  cases h with
  | cons h hs =>
    obtain ⟨u, rfl, h2⟩ := hs.one
    exact ⟨_, _, rfl, h, h2⟩
theorem KVR.length {xs : List (Key × Dv)} {ys : List (Key × V)} (h : KVR G ρ H xs ys) : xs.length = ys.length := Paired.length h
theorem o_len : OpL G E (rLenA G.K) bLen := by
  intro ρ S H ds vs Q R rs h
  unfold bLen at h
  split at h
  · rename_i d
    obtain ⟨v, rfl, rv⟩ := rs.one
    cases e : lenOf S d with
    | none => rw [e] at h; exact h.elim
    | some n =>
      rw [e] at h
      have q := h.ret R (.int _)
      cases rv with
      | str z =>
        unfold lenOf at e
        dsimp only at e
        by_cases hz : lineOk z.length = true
        · rw [if_pos hz] at e; cases e; exact .inr (.inl ⟨z, rfl, line_of hz, q⟩)
        · rw [if_neg hz] at e; cases e
      | @tup a vs ds ht hs => cases e; exact .inl ⟨a, vs, rfl, .inr ht.sq, by rw [← hs.length]; exact q⟩
      | @frl a vs ds ht hs => cases e; exact .inl ⟨a, vs, rfl, .inl ht.sq, by rw [← hs.length]; exact q⟩
      | @ref l a ha =>
        unfold lenOf at e
        dsimp only at e
        cases e1 : lsAt S l with
        | some ds =>
          rw [e1] at e
          cases e
          obtain ⟨vs, q2, hs⟩ := R.lst (lsAt_iff.mp e1) ha
          exact .inl ⟨a, vs, rfl, .inl (.of q2), by rw [← hs.length]; exact q⟩
        | none =>
          rw [e1] at e
          dsimp only at e
          obtain ⟨kvs, e2, rfl⟩ := Option.map_eq_some_iff.mp e
          obtain ⟨ws, q2, hs⟩ := R.dct (dcAt_iff.mp e2) ha
          exact .inr (.inr ⟨a, ws, rfl, q2, by rw [← hs.length]; exact q⟩)
      | _ => cases e
  · exact h.elim
/-- list(..), tuple(..) of a row -/
def bList (ds : List Dv) (S : Store) : Res Dv := match ds with
  | [x] => (match seqOf S x with
    | some ds => .ok (.ref S.length) (S ++ [.lst ds])
    | none => .bad)
  | _ => .bad
def bTuple (ds : List Dv) (S : Store) : Res Dv := match ds with
  | [x] => (match seqOf S x with
    | some ds => .ok (.tup ds) S
    | none => .bad)
  | _ => .bad
theorem o_list : OpL G E (fun xs H Q => ∃ p ys, xs = [.ref p] ∧ (SqL G.K H p ys ∨ SqT G.K H p ys) ∧ ∀ l, H l = none → Q (.ref l) (upd H l (.lst ys))) bList := by
  intro ρ S H ds vs Q R rs h
  unfold bList at h
  split at h
  · rename_i d
    obtain ⟨v, rfl, rv⟩ := rs.one
    cases e : seqOf S d with
    | none => rw [e] at h; exact h.elim
    | some es =>
      rw [e] at h
      obtain ⟨a, us, rfl, q, hs⟩ := seq_at R rv e
      exact ⟨a, us, rfl, q, fun p hp => h.retX (.new hp) (R.alloc hp (.lst hs)) (.ref (by rw [← R.len]; simp))⟩
  · exact h.elim
theorem o_tuple : OpL G E (fun xs H Q => ∃ p ys, xs = [.ref p] ∧ ((SqL G.K H p ys ∧ ∀ l, H l = none → Q (.ref l) (upd H l (.tup ys))) ∨ (SqT G.K H p ys ∧ Q (.ref p) H))) bTuple := by
  intro ρ S H ds vs Q R rs h
  unfold bTuple at h
  split at h
  · rename_i d
    obtain ⟨v, rfl, rv⟩ := rs.one
    cases e : seqOf S d with
    | none => rw [e] at h; exact h.elim
    | some es =>
      rw [e] at h
      have new : ∀ {a : Addr} {us : List V}, SqL G.K H a us → VRs G ρ H es us → ∃ p ys, [V.ref a] = [.ref p] ∧ ((SqL G.K H p ys ∧ ∀ l, H l = none → Q (.ref l) (upd H l (.tup ys))) ∨ (SqT G.K H p ys ∧ Q (.ref p) H)) := fun {a us} q hs =>
        ⟨a, us, rfl, .inl ⟨q, fun p hp => h.retX (.new0 hp) (R.new hp) (.tup (.inl upd_same) (hs.mono (.new0 hp)))⟩⟩
      cases rv with
      | @tup a us ds ht hs => cases e; exact ⟨a, us, rfl, .inr ⟨ht.sq, h.ret R (.tup ht hs)⟩⟩
      | @frl a us ds ht hs => cases e; exact new ht.sq hs
      | @ref l a ha =>
        obtain ⟨us, q, hs⟩ := R.lst (lsAt_iff.mp e) ha
        exact new (.of q) hs
      | _ => cases e
  · exact h.elim
/-- int(..) of a number or a truth; str(..) of a number -/
def bInt (ds : List Dv) (S : Store) : Res Dv := match ds with
  | [.int i] => .ok (.int i) S
  | [.bl b] => .ok (.int (if b then 1 else 0)) S
  | _ => .bad
theorem o_int : OpL G E (fun xs H Q => (∃ i, xs = [.int i] ∧ Q (.int i) H) ∨ ∃ k, xs = [.bl k] ∧ Q (.int (if k then 1 else 0)) H) bInt := by
  intro ρ S H ds vs Q R rs h
  unfold bInt at h
  split at h
  · rename_i i
    obtain ⟨v, rfl, rv⟩ := rs.one
    cases rv
    exact .inl ⟨i, rfl, h.ret R (.int _)⟩
  · rename_i b
    obtain ⟨v, rfl, rv⟩ := rs.one
    cases rv
    exact .inr ⟨b, rfl, h.ret R (.int _)⟩
  · exact h.elim
def strOk (i : Int) : Bool := decide (i.natAbs.log2 < 1920)
def showI (i : Int) : Str := toString i
def bStr (ds : List Dv) (S : Store) : Res Dv := match ds with
  | [.int i] => if strOk i then .ok (.str (showI i)) S else .bad
  | _ => .bad
theorem o_str : OpL G E (fun xs H Q => ∃ i, xs = [.int i] ∧ i.natAbs.log2 < 1920 ∧ Q (.str (toString i)) H) bStr := by
  intro ρ S H ds vs Q R rs h
  unfold bStr at h
  split at h
  · rename_i i
    obtain ⟨v, rfl, rv⟩ := rs.one
    cases rv
    by_cases hz : strOk i = true
    · rw [if_pos hz] at h
      exact ⟨i, rfl, of_decide_eq_true hz, h.ret R (.str _)⟩
    · rw [if_neg hz] at h; exact h.elim
  · exact h.elim

/-! ### isinstance -/
inductive Ty where
  | none | bool | int | str | tuple | list | dict
  deriving DecidableEq
def Ty.name : Ty → String
  | .none => "NoneType" | .bool => "bool" | .int => "int" | .str => "str" | .tuple => "tuple" | .list => "list" | .dict => "dict"
def Ty.of (n : String) : Option Ty := if n = "bool" then some .bool else if n = "int" then some .int else if n = "str" then some .str else if n = "tuple" then some .tuple else if n = "list" then some .list else if n = "dict" then some .dict else Option.none
def tyOf (S : Store) : Dv → Option Ty
  | .non => some .none
  | .bl _ => some .bool
  | .int _ => some .int
  | .str _ => some .str
  | .tup _ => some .tuple
  | .frl _ => some .list
  | .ref l => match S[l]? with
    | some (.lst _) => some .list
    | some (.dct _) => some .dict
    | _ => Option.none
  | _ => Option.none
def isA (a T : Ty) : Bool := decide (a = T) || (decide (a = .bool) && decide (T = .int))
theorem isA_kit : ∀ a T : Ty, kitB a.name T.name = some (isA a T) := by
  intro a T
  cases a <;> cases T <;> decide +kernel
theorem Ty.of_name {n : String} {T : Ty} (h : Ty.of n = some T) : T.name = n := by
  unfold Ty.of at h
  split at h
  · rename_i e; cases h; exact e.symm
  · split at h
    · rename_i e; cases h; exact e.symm
    · split at h
      · rename_i e; cases h; exact e.symm
      · split at h
        · rename_i e; cases h; exact e.symm
        · split at h
          · rename_i e; cases h; exact e.symm
          · split at h
            · rename_i e; cases h; exact e.symm
            · cases h
theorem ty_at {d : Dv} {v : V} {T : Ty} (R : RH G ρ S H) (r : VR G ρ H d v) (h : tyOf S d = some T) : TyX G.K H v (.type T.name) := by
  cases r with
  | non => cases h; exact .base .non
  | bl b => cases h; exact .base (.bl b)
  | int i => cases h; exact .base (.int i)
  | str x => cases h; exact .base (.str x)
  | tup ht hs =>
    cases h
    rcases ht with ht | ⟨o, its, n, k, c, _⟩
    · exact .base (.tup ht)
    · exact .kTuple k c
  | frl ht hs => 
    cases h
    rcases ht with ⟨o, q⟩ | ⟨o, its, n, k, c, _⟩
    · exact .base (.frz q)
    · exact .kList k c
  | @ref l a ha =>
    unfold tyOf at h
    dsimp only at h
    split at h
    · rename_i ds e
      cases h
      obtain ⟨vs, q, _⟩ := R.lst e ha
      exact .base (.lst q)
    · rename_i ds e
      cases h
      obtain ⟨vs, q, _⟩ := R.dct e ha
      exact .base (.dK q)
    · cases h
  | _ => cases h
def bIsi (ds : List Dv) (S : Store) : Res Dv := match ds with
  | [x, .ty n] => (match tyOf S x, Ty.of n with
    | some a, some T => .ok (.bl (isA a T)) S
    | _, _ => .bad)
  | _ => .bad
theorem o_isi : OpL G E (rIsi G.K) bIsi := by
  intro ρ S H ds vs Q R rs h
  unfold bIsi at h
  split at h
  · rename_i d n
    obtain ⟨v, u, rfl, rv, ru⟩ := rs.two
    cases ru
    split at h
    · rename_i a T e1 e2
      refine ⟨v, .ty n, _, .type n, isA a T, rfl, .ty n, ty_at R rv e1, ?_, h.ret R (.bl _)⟩
      rw [← Ty.of_name e2]
      exact kit_ty (isA_kit a T)
    · exact h.elim
  · exact h.elim

/-! ### methods of built-in things -/
def isTy (T : String) (S : Store) (x : Dv) : Bool := match x with
  | .str _ => decide (T = "str")
  | .frl _ => decide (T = "list")
  | .ref l => (match S[l]? with
    | some (.lst _) => decide (T = "list")
    | some (.dct _) => decide (T = "dict")
    | _ => false)
  | _ => false
theorem isTy_at {d : Dv} {v : V} {T : String} (R : RH G ρ S H) (r : VR G ρ H d v) (h : isTy T S d = true) : tyV G.K T v H := by
  cases r with
  | str x => exact (of_decide_eq_true (p := T = "str") h)
  | frl ht hs => exact .inl ⟨of_decide_eq_true h, _, ht.sq⟩
  | @ref l a ha =>
    unfold isTy at h
    dsimp only at h
    split at h
    · rename_i ds e
      obtain ⟨vs, q, _⟩ := R.lst e ha
      exact .inl ⟨of_decide_eq_true h, vs, .of q⟩
    · rename_i ds e
      obtain ⟨vs, q, _⟩ := R.dct e ha
      exact .inr (.inr (.inl ⟨of_decide_eq_true h, .inl ⟨vs, q⟩⟩))
    · cases h
  | _ => cases h
def OpM (G : Gx) (E : XK) (r : V → List V → Hp → VK → Prop) (f : Dv → List Dv → Store → Res Dv) : Prop := ∀ (ρ : List Addr) (S : Store) (H : Hp) (d : Dv) (v : V) (ds : List Dv) (vs : List V) (Q : VK), RH G ρ S H → VR G ρ H d v → VRs G ρ H ds vs → Po G E (rV G) ρ H (f d ds S) Q → r v vs H Q
def cMt (T : String) (f : Dv → List Dv → Store → Res Dv) (c : CE) (a : CA) : CE := fun δ S => (c δ S).bind fun x S1 => if isTy T S1 x then (a δ S1).bind fun xs S2 => f x xs S2 else .bad
theorem q_bm {o e : Expr} {es : List Expr} {name : Str} {apos cpos : Pos} {T id : String} {r : V → List V → Hp → VK → Prop} {f : Dv → List Dv → Store → Res Dv} {c : CE} {a : CA} (pa : PlainAttrs T) (slot : Slot T name id) (hty : typeOf (.builtin id) = pure (.type "method_descriptor")) (hm : MtR C id r) (om : OpM (gx C ct) E r f) (ho : PE C o (tE (gx C ct) E c)) (ha : PA C (e :: es) (tA (gx C ct) E a))
    (hbase : attributeBase o name C.env (eval o C.env) = eval o C.env := by rfl)
    (hfew : ((backTo cpos (starEach (e :: es) C.env)).all (fun x => !x.1) && (backToKw cpos (keywordEach [] C.env)).all (fun x => x.1.isSome)
      && decide ((e :: es).length + ([] : List Keyword).length + (if ([] : List Keyword).isEmpty then 0 else 1) < 30)) = true := by rfl)
    (hline : (apos.endLine == cpos.line) = true := by rfl) (hs : starEach (e :: es) C.env = (false, eval e C.env) :: starEach es C.env := by rfl) (hplain : (backTo cpos (starEach es C.env)).any (·.1) = false := by rfl) :
    PE C (.Call (.Attribute o name apos) (e :: es) [] cpos) (tE (gx C ct) E (cMt T f c a)) :=
  PE.weak (pe_bm pa slot hty hm ho ha hbase hfew hline hs hplain) fun σ H Q ⟨ρ, δ, S, hR, hF, h⟩ => tE.mk hR hF (Po.bnd h fun d S1 _ ρ1 H1 v e1 R1 rv h1 => by
    by_cases ht : isTy T S1 d = true
    · rw [if_pos ht] at h1
      exact ⟨isTy_at R1 rv ht, tA.mk R1 (hF.mono e1) (Po.bnd h1 fun ds S2 _ ρ2 H2 vs e2 R2 rvs h2 => om ρ2 S2 H2 d v ds vs Q R2 (rv.mono e2) rvs h2)⟩
    · rw [if_neg ht] at h1; exact h1.elim)
def cMt0 (T : String) (f : Dv → List Dv → Store → Res Dv) (c : CE) : CE := fun δ S => (c δ S).bind fun x S1 => if isTy T S1 x then f x [] S1 else .bad
theorem q_bm0 {o : Expr} {name : Str} {apos cpos : Pos} {T id : String} {r : V → List V → Hp → VK → Prop} {f : Dv → List Dv → Store → Res Dv} {c : CE} (pa : PlainAttrs T) (slot : Slot T name id) (hty : typeOf (.builtin id) = pure (.type "method_descriptor")) (hm : MtR C id r) (om : OpM (gx C ct) E r f) (ho : PE C o (tE (gx C ct) E c))
    (hbase : attributeBase o name C.env (eval o C.env) = eval o C.env := by rfl) (hline : (apos.endLine == cpos.line) = true := by rfl) : PE C (.Call (.Attribute o name apos) [] [] cpos) (tE (gx C ct) E (cMt0 T f c)) :=
  PE.weak (pe_bm0 pa slot hty hm ho hbase hline) fun σ H Q ⟨ρ, δ, S, hR, hF, h⟩ => tE.mk hR hF (Po.bnd h fun d S1 _ ρ1 H1 v e1 R1 rv h1 => by
    by_cases ht : isTy T S1 d = true
    · rw [if_pos ht] at h1
      exact ⟨isTy_at R1 rv ht, om ρ1 S1 H1 d v [] [] Q R1 rv .nil h1⟩
    · rw [if_neg ht] at h1; exact h1.elim)
/-- sep.join(a row of texts) -/
def strsOf : List Dv → Option (List Str)
  | [] => some []
  | .str x :: r => (strsOf r).map (x :: ·)
  | _ => none
theorem strsOf_map : ∀ {ds : List Dv} {ys : List Str}, strsOf ds = some ys → ds = ys.map Dv.str
  | [], _, h => by cases h; rfl
  | .str x :: r, _, h => by
    unfold strsOf at h
    obtain ⟨zs, e, rfl⟩ := Option.map_eq_some_iff.mp h
    rw [strsOf_map e]
    rfl
def joinOk (a : Str) (ys : List Str) : Bool := decide ((ys.map (·.length)).sum + ys.length * a.length ≤ 16777216)
def mJoin (x : Dv) (as : List Dv) (S : Store) : Res Dv := match x, as with
  | .str a, [y] => (match (seqOf S y).bind strsOf with
    | some ys => if joinOk a ys then .ok (.str (Str.join a ys)) S else .bad
    | none => .bad)
  | _, _ => .bad
theorem o_join : OpM G E (fun x xs H Q => ∃ a p, ∃ ys : List Str, x = .str a ∧ xs = [.ref p] ∧ (SqL G.K H p (ys.map V.str) ∨ SqT G.K H p (ys.map V.str)) ∧
    (ys.map (·.length)).sum + ys.length * a.length ≤ 16777216 ∧ Q (.str (Txt.join a ys)) H) mJoin := by
  intro ρ S H d v ds vs Q R rv rs h
  unfold mJoin at h
  split at h
  · rename_i a y
    cases rv
    obtain ⟨u, rfl, ru⟩ := rs.one
    split at h
    · rename_i ys e
      obtain ⟨es, e1, e2⟩ := Option.bind_eq_some_iff.mp e
      obtain ⟨p, us, rfl, q, hs⟩ := seq_at R ru e1
      rw [strsOf_map e2] at hs
      rw [hs.strs] at q
      by_cases hz : joinOk a ys = true
      · rw [if_pos hz] at h
        refine ⟨a, p, ys, rfl, rfl, q, of_decide_eq_true hz, ?_⟩
        rw [TL.join_eq]
        exact h.ret R (.str _)
      · rw [if_neg hz] at h; exact h.elim
    · exact h.elim
  · exact h.elim
/-- xs.append(y) -/
def mApp (x : Dv) (as : List Dv) (S : Store) : Res Dv := match x, as with
  | .ref l, [y] => (match lsAt S l with
    | some ds => if decide (ds.length < 16777216) then .ok .non (S.set l (.lst (ds ++ [y]))) else .bad
    | none => .bad)
  | _, _ => .bad
theorem o_app : OpM G E rAppend mApp := by
  intro ρ S H d v ds vs Q R rv rs h
  unfold mApp at h
  split at h
  · rename_i l y
    obtain ⟨u, rfl, ru⟩ := rs.one
    cases rv with
    | @ref _ a ha =>
      cases e : lsAt S l with
      | none => rw [e] at h; exact h.elim
      | some es =>
        rw [e] at h
        dsimp only at h
        obtain ⟨us, q, hs⟩ := R.lst (lsAt_iff.mp e) ha
        by_cases hz : decide (es.length < 16777216) = true
        · rw [if_pos hz] at h
          refine ⟨a, us, u, rfl, rfl, q, by rw [← hs.length, sizeLine_eq]; exact of_decide_eq_true hz, ?_⟩
          have ex : Ext ρ H ρ (upd H a (.lst (us ++ [u]))) := R.wext (lsAt_iff.mp e) ha
          exact h.retX ex (R.write (lsAt_iff.mp e) ha (.lst (hs.append (.cons ru .nil)))) .non
        · rw [if_neg hz] at h; exact h.elim
  · exact h.elim

/-! ### calls of defs -/
/-- a def does what f does -/
def spOf (G : Gx) (f : List Dv → Store → Res Dv) (np : Nat) : Sp := fun vs H Q E => vs.length = np ∧ ∃ ρ S ds, RH G ρ S H ∧ VRs G ρ H ds vs ∧ Po G E (rV G) ρ H (f ds S) Q
def cCall (f : List Dv → Store → Res Dv) (np : Nat) (a : CA) : CE := fun δ S => (a δ S).bind fun ds S1 => if ds.length == np then f ds S1 else .bad
theorem q_call {CX : CXT} {k np : Nat} {f : Addr} {fd : FuncData} {ps : List Str} {x : Str} {p pos : Pos} {e : Expr} {es : List Expr} {fn : List Dv → Store → Res Dv} {a : CA} (F : FnOk C.prog C.w C.K C.mg C.base CX k f fd ps (spOf (gx C ct) fn np)) (hr : Room k C.A) (hg : Gl C x) (hm : C.mg x = some (.ref f)) (hk : PySem.W.keepIn C.K (.ref f) = true) (hb : Binds C.K fd ps []) (hx : Passes CX C E)
    (ha : PA C (e :: es) (tA (gx C ct) E a)) (hdb : (x == ("__debug__" : Str)) = false := by decide) (he : starEach (e :: es) C.env = (false, eval e C.env) :: starEach es C.env := by rfl) (hpl : (backTo pos (starEach es C.env)).any (·.1) = false := by rfl) :
    PE C (.Call (.Name x p) (e :: es) [] pos) (tE (gx C ct) E (cCall fn np a)) :=
  PE.weak (pe_call F hr hg hm hk hb .nil hx ha hdb he hpl) fun σ H Q ⟨ρ, δ, S, hR, hF, h⟩ => tA.mk hR hF (Po.bnd h fun ds S1 _ ρ1 H1 vs e1 R1 rvs h1 => by
    by_cases hn : (ds.length == np) = true
    · rw [if_pos hn] at h1
      show spOf (gx C ct) fn np (vs ++ []) H1 Q E
      rw [List.append_nil]
      exact ⟨by rw [← rvs.length]; exact beq_iff_eq.mp hn, ρ1, S1, ds, R1, rvs, h1⟩
    · rw [if_neg hn] at h1; exact h1.elim)
theorem q_call0 {CX : CXT} {k : Nat} {f : Addr} {fd : FuncData} {ps : List Str} {x : Str} {p pos : Pos} {fn : List Dv → Store → Res Dv} (F : FnOk C.prog C.w C.K C.mg C.base CX k f fd ps (spOf (gx C ct) fn 0)) (hr : Room k C.A) (hg : Gl C x) (hm : C.mg x = some (.ref f)) (hk : PySem.W.keepIn C.K (.ref f) = true) (hb : Binds C.K fd ps []) (hx : Passes CX C E)
    (hdb : (x == ("__debug__" : Str)) = false := by decide) : PE C (.Call (.Name x p) [] [] pos) (tE (gx C ct) E (cCall fn 0 cNil)) :=
  PE.weak (pe_call0 F hr hg hm hk hb .nil hx hdb) fun σ H Q ⟨ρ, δ, S, hR, hF, h⟩ => ⟨rfl, ρ, S, [], hR, .nil, h⟩
end
end Sm

namespace Sm
open PySem L2
section
variable {C : Cx} {ct : Nat → Addr} {E : XK} {G : Gx} {ρ : List Addr} {H : Hp} {σ : St} {δ : Env'} {S : Store}

/-! ### dicts -/
theorem KVR.any {xs : List (Key × Dv)} {ys : List (Key × V)} (h : KVR G ρ H xs ys) (k : Key) : (xs.any fun kv => decide (kv.1 = k)) = ys.any fun kv => decide (kv.1 = k) := by
  induction h with
  | nil => rfl
  | cons h t ih =>
    rw [List.any_cons, List.any_cons, ih, h.1]
theorem KVR.map {xs : List (Key × Dv)} {ys : List (Key × V)} {d : Dv} {v : V} (h : KVR G ρ H xs ys) (r : VR G ρ H d v) (k : Key) : KVR G ρ H (xs.map fun kv => if kv.1 = k then (kv.1, d) else kv) (ys.map fun kv => if kv.1 = k then (kv.1, v) else kv) := by
  induction h with
  | nil => exact .nil
  | @cons p q ps qs h t ih =>
    obtain ⟨h1, h2⟩ := h
    rw [List.map_cons, List.map_cons]
    by_cases e : p.1 = k
    · rw [if_pos e, if_pos (h1 ▸ e)]
      exact .cons ⟨h1, r⟩ ih
    · rw [if_neg e, if_neg (fun z => e (h1 ▸ z))]
      exact .cons ⟨h1, h2⟩ ih
theorem KVR.app {xs : List (Key × Dv)} {ys : List (Key × V)} {d : Dv} {v : V} (h : KVR G ρ H xs ys) (r : VR G ρ H d v) (k : Key) : KVR G ρ H (xs ++ [(k, d)]) (ys ++ [(k, v)]) := by
  induction h with
  | nil => exact .cons ⟨rfl, r⟩ .nil
  | cons h t ih => exact .cons h ih
theorem KVR.put {xs : List (Key × Dv)} {ys : List (Key × V)} {d : Dv} {v : V} (h : KVR G ρ H xs ys) (r : VR G ρ H d v) (k : Key) : KVR G ρ H (putD xs k d) (putK ys k v) := by
  unfold putD putK
  rw [h.any k]
  split
  · exact h.map r k
  · exact h.app r k
def mergeD (kvs more : List (Key × Dv)) : List (Key × Dv) := more.foldl (fun acc kv => putD acc kv.1 kv.2) kvs
theorem KVR.merge {more : List (Key × Dv)} {ws : List (Key × V)} (h : KVR G ρ H more ws) : ∀ {xs : List (Key × Dv)} {ys : List (Key × V)}, KVR G ρ H xs ys → KVR G ρ H (mergeD xs more) (mergeK ys ws) := by
  induction h with
  | nil => exact fun q => q
  | @cons p w ps qs h t ih =>
    intro xs ys q
    have e : KVR G ρ H (putD xs p.1 p.2) (putK ys w.1 w.2) := by
      have := q.put h.2 p.1
      rw [← h.1]; exact this
    exact ih e
/-- the pairs of a display -/
def cPairs : List (CE × CE) → Env' → Store → Res (List (Key × Dv))
  | [], _, S => .ok [] S
  | (k, v) :: r, δ, S => (k δ S).bind fun x S1 => (v δ S1).bind fun y S2 => match keyD x with
    | some kk => (cPairs r δ S2).bind fun ps S3 => .ok ((kk, y) :: ps) S3
    | none => .bad
abbrev rKV (G : Gx) : List Addr → Hp → List (Key × Dv) → List (V × V) → Prop := fun ρ H kvs ps => ∃ ws : List (Key × V), ps = ws.map (fun kv => (kV kv.1, kv.2)) ∧ KVR G ρ H kvs ws
theorem pairs_step : ∀ (prs : List (CE × CE)) {ρ : List Addr} {δ : Env'} {S : Store} {H : Hp} {σ : St} {Q : List (V × V) → Hp → Prop}, RH G ρ S H → FR G ρ H δ σ → Po G E (rKV G) ρ H (cPairs prs δ S) Q → tPairs (prs.map fun p => (tE G E p.1, tE G E p.2)) σ H Q
  | [], _, _, _, _, _, _, hR, hF, h => h.ret hR ⟨[], rfl, .nil⟩
  | (k, v) :: r, ρ, δ, S, H, σ, Q, hR, hF, h => by
    show tE G E k σ H fun x H1 => tE G E v σ H1 fun y H2 => tPairs (r.map fun p => (tE G E p.1, tE G E p.2)) σ H2 fun ps H3 => Q ((x, y) :: ps) H3
    refine tE.mk hR hF (Po.bnd h fun x S1 _ ρ1 H1 xv e1 R1 rx h1 => tE.mk R1 (hF.mono e1) (Po.bnd h1 fun y S2 _ ρ2 H2 yv e2 R2 ry h2 => ?_))
    cases e : keyD x with
    | none => rw [e] at h2; exact h2.elim
    | some kk =>
      rw [e] at h2
      refine pairs_step r R2 ((hF.mono e1).mono e2) (Po.bnd h2 fun ps S3 _ ρ3 H3 psv e3 R3 ⟨ws, hw, rk⟩ h3 => h3.ret R3 ⟨(kk, yv) :: ws, ?_, .cons ⟨rfl, ry.mono e3⟩ rk⟩)
      rw [key_at rx e, hw]
      rfl
def cDisp (prs : List (CE × CE)) : CE := fun δ S => (cPairs prs δ (S ++ [.dct []])).bind fun ps S1 => match dcAt S1 S.length with
  | some [] => if decide (ps.length ≤ 15) then .ok (.ref S.length) (S1.set S.length (.dct (mergeD [] ps))) else .bad
  | _ => .bad
inductive QPs (C : Cx) (ct : Nat → Addr) (E : XK) (pos : Pos) : List (Option Expr) → List Expr → List (CE × CE) → Prop
  | nil : QPs C ct E pos [] [] []
  | cons {k v : Expr} {ks : List (Option Expr)} {vs : List Expr} {ck cv : CE} {r : List (CE × CE)} : PE C k (tE (gx C ct) E ck) → PE C v (tE (gx C ct) E cv) → QPs C ct E pos ks vs r → QPs C ct E pos (some k :: ks) (v :: vs) ((ck, cv) :: r)
theorem QPs.pps {pos : Pos} {ks : List (Option Expr)} {vs : List Expr} {r : List (CE × CE)} (h : QPs C ct E pos ks vs r) : PPs C pos ks vs (r.map fun p => (tE (gx C ct) E p.1, tE (gx C ct) E p.2)) := by
  induction h with
  | nil => exact pps_nil
  | cons h1 h2 _ ih => exact pps_cons h1 h2 ih
theorem q_disp {pos : Pos} {keys : List (Option Expr)} {values : List Expr} {prs : List (CE × CE)} (h : QPs C ct E pos keys values prs) (hall : keys.all (·.isSome) = true := by rfl) (hl : keys.length = values.length := by rfl) (h0 : keys ≠ [] := by exact fun z => by cases z) (h15 : keys.length ≤ 15 := by decide) : PE C (.Dict keys values pos) (tE (gx C ct) E (cDisp prs)) :=
  PE.weak (pe_disp h.pps hall hl h0 h15) fun σ H Q ⟨ρ, δ, S, hR, hF, h⟩ p hp => by
    have e0 : Ext ρ H (ρ ++ [p]) (upd H p (.dK [])) := .new hp
    have R0 := hR.alloc hp (o := .dct []) (.dct .nil)
    refine pairs_step prs R0 (hF.mono e0) (Po.bnd (Po.mono h e0) fun ps S1 _ ρ1 H1 psv e1 R1 ⟨ws, hw, rk⟩ h1 => ?_)
    split at h1
    · rename_i e2
      have hρ : ρ1[S.length]? = some p := e1.at (by rw [← hR.len]; simp)
      obtain ⟨us, q, hs⟩ := R1.dct (dcAt_iff.mp e2) hρ
      cases hs
      by_cases hz : decide (ps.length ≤ 15) = true
      · rw [if_pos hz] at h1
        refine ⟨q, ws, hw, by rw [← rk.length]; exact of_decide_eq_true hz, ?_⟩
        have ex : Ext ρ1 H1 ρ1 (upd H1 p (.dK (mergeK [] ws))) := R1.wext (dcAt_iff.mp e2) hρ
        exact h1.retX ex (R1.write (dcAt_iff.mp e2) hρ (.dct (rk.merge .nil))) (.ref hρ)
      · rw [if_neg hz] at h1; exact h1.elim
    · exact h1.elim
def cDNew : CE := fun _ S => .ok (.ref S.length) (S ++ [.dct []])
theorem q_dnew {pos : Pos} : PE C (.Dict [] [] pos) (tE (gx C ct) E cDNew) := PE.weak pe_dnewK fun σ H Q ⟨ρ, δ, S, hR, hF, h⟩ p hp => h.retX (.new hp) (hR.alloc hp (.dct .nil)) (.ref (by rw [← hR.len]; simp))
/-- d.get(k, x) -/
def cGet2 (c k x : CE) : CE := fun δ S => (c δ S).bind fun d S1 => if isTy "dict" S1 d then (k δ S1).bind fun kk S2 => (x δ S2).bind fun y S3 => match d, keyD kk with
    | .ref l, some key => (match dcAt S3 l with
      | some kvs => .ok ((valD kvs key).getD y) S3
      | none => .bad)
    | _, _ => .bad
  else .bad
theorem KVR.dget {xs : List (Key × Dv)} {ys : List (Key × V)} {d : Dv} {v : V} (h : KVR G ρ H xs ys) (r : VR G ρ H d v) (k : Key) : VR G ρ H ((valD xs k).getD d) ((valV ys k).getD v) := by
  rcases h.val k with ⟨z1, z2⟩ | ⟨d', v', z1, z2, r'⟩
  · rw [z1, z2]; exact r
  · rw [z1, z2]; exact r'
theorem q_get2 {o e f : Expr} {apos cpos : Pos} {c k x : CE} (hu : C.A.units + 1 < cLine) (ho : PE C o (tE (gx C ct) E c)) (he : PE C e (tE (gx C ct) E k)) (hf : PE C f (tE (gx C ct) E x)) (m : M2 C o "get" apos e f cpos := by exact ⟨rfl, rfl, rfl, rfl⟩) : PE C (.Call (.Attribute o "get" apos) [e, f] [] cpos) (tE (gx C ct) E (cGet2 c k x)) :=
  PE.weak (pe_dget2 hu ho he hf m) fun σ H Q ⟨ρ, δ, S, hR, hF, h⟩ => tE.mk hR hF (Po.bnd h fun d S1 _ ρ1 H1 v e1 R1 rv h1 => by
    by_cases ht : isTy "dict" S1 d = true
    · rw [if_pos ht] at h1
      cases rv with
      | @ref l a ha =>
        obtain ⟨kvs0, e0⟩ : ∃ kvs, S1[l]? = some (.dct kvs) := by
          unfold isTy at ht
          dsimp only at ht
          split at ht
          · exact absurd (of_decide_eq_true ht) (by decide)
          · rename_i kvs e; exact ⟨kvs, e⟩
          · cases ht
        obtain ⟨ws0, q0, _⟩ := R1.dct e0 ha
        refine ⟨a, rfl, .inl ⟨ws0, .inl q0⟩, tE.mk R1 (hF.mono e1) (Po.bnd h1 fun kk S2 _ ρ2 H2 kv e2 R2 rk h2 => tE.mk R2 ((hF.mono e1).mono e2) (Po.bnd h2 fun y S3 _ ρ3 H3 yv e3 R3 ry h3 => ?_))⟩
        cases ek : keyD kk with
        | none => rw [ek] at h3; exact h3.elim
        | some key =>
          rw [ek] at h3
          dsimp only at h3
          cases ed : dcAt S3 l with
          | none => rw [ed] at h3; exact h3.elim
          | some kvs =>
            rw [ed] at h3
            obtain ⟨ws, q, hs⟩ := R3.dct (dcAt_iff.mp ed) (e3.at (e2.at ha))
            rw [key_at rk ek]
            exact ⟨valV ws key, .k q, h3.ret R3 (hs.dget ry key)⟩
      | str x => exact absurd (of_decide_eq_true (p := "dict" = "str") ht) (by decide)
      | frl _ _ => exact absurd (of_decide_eq_true (p := "dict" = "list") ht) (by decide)
      | _ => cases ht
    · rw [if_neg ht] at h1; exact h1.elim)

/-! ### targets -/
abbrev CG := Dv → Env' → Store → Res Env'
def SameOut (own : List Nat) (σ σ' : St) : Prop := σ.length = σ'.length ∧ ∀ i, i ∉ own → σ[i]? = σ'[i]?
theorem SameOut.refl {own : List Nat} : SameOut own σ σ := ⟨rfl, fun _ _ => rfl⟩
theorem SameOut.trans {own : List Nat} {σ1 σ2 σ3 : St} (a : SameOut own σ1 σ2) (b : SameOut own σ2 σ3) : SameOut own σ1 σ3 := ⟨a.1.trans b.1, fun i h => (a.2 i h).trans (b.2 i h)⟩
theorem wipe_at (σ : St) : ∀ (vs : List Nat) (i : Nat), i ∉ vs → (L2.wipe σ vs)[i]? = σ[i]?
  | [], _, _ => rfl
  | v :: vs, i, h => by
    unfold L2.wipe
    rw [List.getElem?_set_ne (fun z : v = i => h (by rw [z]; exact List.mem_cons_self)), wipe_at σ vs i fun z => h (List.mem_cons_of_mem _ z)]
theorem wipe_in (σ : St) : ∀ (vs : List Nat) (i : Nat), i ∈ vs → i < σ.length → (L2.wipe σ vs)[i]? = some none
  | v :: vs, i, h, hl => by
    unfold L2.wipe
    by_cases e : v = i
    · subst e
      rw [List.getElem?_set_self (by rw [wipe_length]; exact hl)]
    · rw [List.getElem?_set_ne e]
      rcases List.mem_cons.mp h with z | z
      · exact (e z.symm).elim
      · exact wipe_in σ vs i z hl
theorem SameOut.wipe {own : List Nat} {σ σ' : St} (h : SameOut own (L2.wipe σ own) σ') : L2.wipe σ' own = L2.wipe σ own := by
  have hl : σ.length = σ'.length := by rw [← h.1, wipe_length]
  refine List.ext_getElem? fun i => ?_
  by_cases hm : i ∈ own
  · by_cases hi : i < σ.length
    · rw [wipe_in σ' own i hm (by rw [← hl]; exact hi), wipe_in σ own i hm hi]
    · rw [List.getElem?_eq_none (by rw [wipe_length]; omega), List.getElem?_eq_none (by rw [wipe_length]; omega)]
  · rw [wipe_at σ' own i hm, ← h.2 i hm]
def PoG (G : Gx) (E : XK) (own : List Nat) (ρ : List Addr) (H : Hp) (σ : St) (r : Res Env') (Q : St → Hp → Prop) : Prop :=
  match r with
  | .ok δ S => ∀ ρ' H' σ', Ext ρ H ρ' H' → RH G ρ' S H' → FR G ρ' H' δ σ' → SameOut own σ σ' → Q σ' H'
  | .ex e S => ∀ ρ' H' cls d, Ext ρ H ρ' H' → RH G ρ' S H' → XR G ρ' H' e cls d → E cls d H'
  | .bad => False
theorem PoG.mono {own : List Nat} {ρ1 : List Addr} {H1 : Hp} {σ1 : St} {r : Res Env'} {Q : St → Hp → Prop} (h : PoG G E own ρ H σ r Q) (e : Ext ρ H ρ1 H1) (s : SameOut own σ σ1) : PoG G E own ρ1 H1 σ1 r Q := by
  cases r with
  | ok a S => exact fun ρ' H' σ' e' r f s' => h ρ' H' σ' (e.trans e') r f (s.trans s')
  | ex a S => exact fun ρ' H' c d e' => h ρ' H' c d (e.trans e')
  | bad => exact h
def tG (G : Gx) (E : XK) (own : List Nat) (g : CG) : TG := fun v σ H Q => ∃ ρ δ S d, RH G ρ S H ∧ FR G ρ H δ σ ∧ VR G ρ H d v ∧ PoG G E own ρ H σ (g d δ S) Q
def tGs (G : Gx) (E : XK) (own : List Nat) (g : List Dv → Env' → Store → Res Env') : TGs := fun vs σ H Q => ∃ ρ δ S ds, RH G ρ S H ∧ FR G ρ H δ σ ∧ VRs G ρ H ds vs ∧ PoG G E own ρ H σ (g ds δ S) Q
theorem PG.weak {e : Expr} {t t' : TG} (h : PG C e t) (w : ∀ v σ H Q, t' v σ H Q → t v σ H Q) : PG C e t' := ⟨fun pins s σ H v u Q I r q => h.run pins s σ H v u Q I r (w v σ H Q q)⟩
theorem PGs.weak {e : List Expr} {t t' : TGs} (h : PGs C e t) (w : ∀ v σ H Q, t' v σ H Q → t v σ H Q) : PGs C e t' := ⟨fun pins s σ H v u Q I r q => h.run pins s σ H v u Q I r (w v σ H Q q)⟩
def gN (i : Nat) : CG := fun d δ S => .ok (δ.set i (some d)) S
theorem qg_name {i : Nat} {x : Str} {pos : Pos} {own : List Nat} (hN : C.N.Nodup) (hi : C.N[i]? = some x) (hx : Loc C.env.scope x) (ho : i ∈ own) (hf : C.fn x = true ∨ C.env.scope.names.lookup x = some .local := by first | exact .inl rfl | exact .inr rfl | assumption) : PG C (.Name x pos) (tG (gx C ct) E own (gN i)) :=
  PG.weak (pg_name hN hi hx hf) fun v σ H Q ⟨ρ, δ, S, d, hR, hF, rv, h⟩ => h ρ H _ (.refl _ _) hR (hF.set i rv) ⟨by simp, fun j hj => by rw [List.getElem?_set_ne (fun z : i = j => hj (by rw [← z]; exact ho))]⟩
def gNil' : List Dv → Env' → Store → Res Env'
  | [], δ, S => .ok δ S
  | _, _, _ => .bad
def gCons' (g : CG) (gs : List Dv → Env' → Store → Res Env') : List Dv → Env' → Store → Res Env'
  | d :: ds, δ, S => (g d δ S).bind fun δ1 S1 => gs ds δ1 S1
  | [], _, _ => .bad
def gT (n : Nat) (gs : List Dv → Env' → Store → Res Env') : CG := fun d δ S => match d with
  | .tup ds => if ds.length == n then gs ds δ S else .bad
  | _ => .bad
theorem qgs_nil {own : List Nat} : PGs C [] (tGs (gx C ct) E own gNil') := PGs.weak pgs_nil fun vs σ H Q ⟨ρ, δ, S, ds, hR, hF, rv, h⟩ => by
  cases rv with
  | nil => exact ⟨rfl, h ρ H _ (.refl _ _) hR hF .refl⟩
  | cons _ _ => exact h.elim
theorem qgs_cons {e : Expr} {es : List Expr} {own : List Nat} {g : CG} {gs : List Dv → Env' → Store → Res Env'} (h1 : PG C e (tG (gx C ct) E own g)) (h2 : PGs C es (tGs (gx C ct) E own gs)) (hs : (assignEach (e :: es) C.env).map (·.2) = assign e C.env :: (assignEach es C.env).map (·.2) := by rfl) : PGs C (e :: es) (tGs (gx C ct) E own (gCons' g gs)) :=
  PGs.weak (pgs_cons h1 h2 hs) fun vs σ H Q ⟨ρ, δ, S, ds, hR, hF, rv, h⟩ => by
    cases rv with
    | nil => exact h.elim
    | @cons d v ds vs r rs =>
      refine ⟨v, vs, rfl, ρ, δ, S, d, hR, hF, r, ?_⟩
      have h : PoG (gx C ct) E own ρ H σ ((g d δ S).bind fun δ1 S1 => gs ds δ1 S1) Q := h
      cases e1 : g d δ S with
      | ok δ1 S1 =>
        rw [e1] at h
        exact fun ρ' H' σ' e R F s => ⟨ρ', δ1, S1, ds, R, F, rs.mono e, PoG.mono h e s⟩
      | ex e S1 => rw [e1] at h; exact h
      | bad => rw [e1] at h; exact h
theorem qg_tup {es : List Expr} {k : Nat} {pos : Pos} {own : List Nat} {gs : List Dv → Env' → Store → Res Env'} {n : Nat} (hc : C.calm = true) (h : PGs C es (tGs (gx C ct) E own gs)) (hn : (assignEach es C.env).length = n := by rfl) (hst : (assignEach es C.env).findIdx? (·.1) = none := by rfl) : PG C (.Tuple es k pos) (tG (gx C ct) E own (gT n gs)) :=
  PG.weak (pg_tup hc h hn hst) fun v σ H Q ⟨ρ, δ, S, d, hR, hF, rv, h⟩ => by
    cases rv with
    | @tup a vs ds ht hs =>
      have h : PoG (gx C ct) E own ρ H σ (if ds.length == n then gs ds δ S else .bad) Q := h
      by_cases hl : (ds.length == n) = true
      · rw [if_pos hl] at h
        exact ⟨a, vs, rfl, ht.sq, by rw [← hs.length]; exact beq_iff_eq.mp hl, ρ, δ, S, ds, hR, hF, hs, h⟩
      · rw [if_neg hl] at h; exact h.elim
    | _ => exact h.elim
/-- o[i] = v: a list's place, a dict's key -/
def setIx (x k v : Dv) (S : Store) : Res Unit := match x with
  | .ref l => (match lsAt S l with
    | some ds => (match k with
      | .int i => (match ixN ds.length i with
        | some j => .ok () (S.set l (.lst (ds.set j v)))
        | none => .bad)
      | _ => .bad)
    | none => (match dcAt S l with
      | some kvs => (match keyD k with
        | some key => if decide (kvs.length < 16777216) then .ok () (S.set l (.dct (putD kvs key v))) else .bad
        | none => .bad)
      | none => .bad))
  | _ => .bad
def rSetD : V → V → V → Hp → (Hp → Prop) → Prop := fun o i v H Q => ∃ a H', o = .ref a ∧ DPut H a i v H' ∧ Q H'
theorem set_dict (hu : C.A.units + 1 < cLine) : PSet C rSetD := by
  intro pins s σ H o i v ov iv u Q I ro ri rv h
  obtain ⟨a, H', rfl, g, q⟩ := h
  cases ro
  exact d_setItem hu I g ri rv fun s' I' => ⟨H', I', q⟩
theorem set_any (hu : C.A.units + 1 < cLine) : PSet C (fun o i v H Q => rSetL o i v H Q ∨ rSetD o i v H Q) := by
  intro pins s σ H o i v ov iv u Q I ro ri rv h
  rcases h with h | h
  · exact set_list pins s σ H o i v ov iv u Q I ro ri rv h
  · exact set_dict hu pins s σ H o i v ov iv u Q I ro ri rv h
abbrev rU : List Addr → Hp → Unit → Unit → Prop := fun _ _ _ _ => True
theorem setIx_at {x k v : Dv} {xv kv vv : V} {Q : Hp → Prop} (R : RH G ρ S H) (rx : VR G ρ H x xv) (rk : VR G ρ H k kv) (rv : VR G ρ H v vv) (h : Po G E rU ρ H (setIx x k v S) fun _ H' => Q H') : rSetL xv kv vv H Q ∨ rSetD xv kv vv H Q := by
  cases rx with
  | @ref l a ha =>
    unfold setIx at h
    dsimp only at h
    cases e1 : lsAt S l with
    | some ds =>
      rw [e1] at h
      dsimp only at h
      obtain ⟨vs, q, hs⟩ := R.lst (lsAt_iff.mp e1) ha
      cases rk with
      | int i =>
        dsimp only at h
        cases e2 : ixN ds.length i with
        | none => rw [e2] at h; exact h.elim
        | some j =>
          rw [e2] at h
          refine .inl ⟨a, vs, i, j, rfl, rfl, q, by rw [← hs.length]; exact e2, ?_⟩
          exact h ρ _ () (R.wext (lsAt_iff.mp e1) ha) (R.write (lsAt_iff.mp e1) ha (.lst (hs.set rv j))) trivial
      | _ => exact h.elim
    | none =>
      rw [e1] at h
      dsimp only at h
      cases e2 : dcAt S l with
      | none => rw [e2] at h; exact h.elim
      | some kvs =>
        rw [e2] at h
        dsimp only at h
        obtain ⟨ws, q, hs⟩ := R.dct (dcAt_iff.mp e2) ha
        cases e3 : keyD k with
        | none => rw [e3] at h; exact h.elim
        | some key =>
          rw [e3] at h
          dsimp only at h
          by_cases hz : decide (kvs.length < 16777216) = true
          · rw [if_pos hz] at h
            rw [key_at rk e3]
            refine .inr ⟨a, _, rfl, .k q (by rw [← hs.length, sizeLine_eq]; exact of_decide_eq_true hz), ?_⟩
            exact h ρ _ () (R.wext (dcAt_iff.mp e2) ha) (R.write (dcAt_iff.mp e2) ha (.dct (hs.put rv key))) trivial
          · rw [if_neg hz] at h; exact h.elim
  | _ => exact h.elim
def gS (o i : CE) : CG := fun d δ S => (o δ S).bind fun x S1 => (i δ S1).bind fun k S2 => (setIx x k d S2).bind fun _ S3 => .ok δ S3
theorem qg_sub {o i : Expr} {co ci : CE} {pos : Pos} {own : List Nat} (hu : C.A.units + 1 < cLine) (ho : PE C o (tE (gx C ct) E co)) (hi : PE C i (tE (gx C ct) E ci))
    (ha : ∀ v, assign (.Subscript o i pos) C.env v = (do
      let ov ← holding [v] (eval o C.env)
      let iv ← holding [v, ov] (eval i C.env)
      standAt pos
      holding [v, ov, iv] (setItem ov iv v)
      release [v, ov, iv] []) := by intro _; rfl) : PG C (.Subscript o i pos) (tG (gx C ct) E own (gS co ci)) :=
  PG.weak (pg_sub ho hi (set_any hu) ha) fun v σ H Q ⟨ρ, δ, S, d, hR, hF, rv, h⟩ => by
    have h : PoG (gx C ct) E own ρ H σ ((co δ S).bind fun x S1 => (ci δ S1).bind fun k S2 => (setIx x k d S2).bind fun _ S3 => .ok δ S3) Q := h
    refine tE.mk hR hF ?_
    cases e1 : co δ S with
    | bad => rw [e1] at h; exact h
    | ex e S1 => rw [e1] at h; exact h
    | ok x S1 =>
      rw [e1] at h
      refine fun ρ1 H1 xv x1 R1 rx => tE.mk R1 (hF.mono x1) ?_
      have h := PoG.mono h x1 (σ1 := σ) .refl
      dsimp only [Res.bind] at h
      cases e2 : ci δ S1 with
      | bad => rw [e2] at h; exact h
      | ex e S2 => rw [e2] at h; exact h
      | ok k S2 =>
        rw [e2] at h
        refine fun ρ2 H2 kv x2 R2 rk => ?_
        have h := PoG.mono h x2 (σ1 := σ) .refl
        dsimp only at h
        refine setIx_at (E := E) (G := gx C ct) R2 (rx.mono x2) rk ((rv.mono x1).mono x2) ?_
        cases e3 : setIx x k d S2 with
        | bad => rw [e3] at h; exact h
        | ex e S3 => rw [e3] at h; exact h
        | ok u S3 =>
          rw [e3] at h
          exact fun ρ3 H3 _ x3 R3 _ => h ρ3 H3 σ x3 R3 (((hF.mono x1).mono x2).mono x3) .refl

/-! ### statements -/
def cNx : CS := fun δ S => .ok (.nx δ) S
def cSeq (a b : CS) : CS := fun δ S => match a δ S with
  | .ok (.nx δ1) S1 => b δ1 S1
  | r => r
def cRet (c : CE) : CS := fun δ S => (c δ S).bind fun d S1 => .ok (.rt d) S1
def cRetN : CS := fun _ S => .ok (.rt .non) S
def cDrop (c : CE) : CS := fun δ S => (c δ S).bind fun _ S1 => .ok (.nx δ) S1
def cIf (t : CT) (a b : CS) : CS := fun δ S => (t δ S).bind fun k S1 => if k then a δ S1 else b δ S1
def cSet (i : Nat) (c : CE) : CS := fun δ S => (c δ S).bind fun d S1 => .ok (.nx (δ.set i (some d))) S1
def cAsg (c : CE) (g : CG) : CS := fun δ S => (c δ S).bind fun d S1 => (g d δ S1).bind fun δ1 S2 => .ok (.nx δ1) S2
theorem qs_nil : PSs C [] (tS (gx C ct) E cNx) := PSs.weak pss_nil fun D σ H ⟨ρ, δ, S, hR, hF, h⟩ => h ρ H σ (.refl _ _) hR hF
theorem qs_cons {st : Stmt} {rest : List Stmt} {a b : CS} (h1 : PS C st (tS (gx C ct) E a)) (h2 : PSs C rest (tS (gx C ct) E b)) : PSs C (st :: rest) (tS (gx C ct) E (cSeq a b)) :=
  PSs.weak (pss_cons h1 h2) fun D σ H ⟨ρ, δ, S, hR, hF, h⟩ => by
    refine ⟨ρ, δ, S, hR, hF, ?_⟩
    unfold cSeq at h
    cases e : a δ S with
    | bad => rw [e] at h; exact h
    | ex e S1 => rw [e] at h; exact h
    | ok f S1 =>
      rw [e] at h
      cases f with
      | nx δ1 => exact fun ρ' H' σ' x R F => ⟨ρ', δ1, S1, R, F, PoS.mono h x⟩
      | rt d => exact h
      | bk δ1 => exact h
      | ct δ1 => exact h
theorem qs_one {st : Stmt} {a : CS} (h1 : PS C st (tS (gx C ct) E a)) : PSs C [st] (tS (gx C ct) E a) := pss_one h1
theorem q_ret {e : Expr} {c : CE} {pos : Pos} (he : PE C e (tE (gx C ct) E c)) : PS C (.Return (some e) pos) (tS (gx C ct) E (cRet c)) :=
  PS.weak (ps_ret he) fun D σ H ⟨ρ, δ, S, hR, hF, h⟩ => tE.mk hR hF (Po.bndS h fun d S1 _ ρ1 H1 v e1 R1 rv h1 => h1 ρ1 H1 v (.refl _ _) R1 rv)
theorem q_retN {pos : Pos} : PS C (.Return none pos) (tS (gx C ct) E cRetN) := PS.weak ps_retN fun D σ H ⟨ρ, δ, S, hR, hF, h⟩ => h ρ H .non (.refl _ _) hR .non
theorem q_drop {e : Expr} {c : CE} {pos : Pos} (he : PE C e (tE (gx C ct) E c)) (hs : swapsWith e none pos.line C.env = pure false := by rfl) : PS C (.Expr e pos) (tS (gx C ct) E (cDrop c)) :=
  PS.weak (ps_expr he hs) fun D σ H ⟨ρ, δ, S, hR, hF, h⟩ => tE.mk hR hF (Po.bndS h fun d S1 _ ρ1 H1 v e1 R1 rv h1 => h1 ρ1 H1 σ (.refl _ _) R1 (hF.mono e1))
theorem q_if {c : Expr} {a b : List Stmt} {t : CT} {ca cb : CS} {pos : Pos} (hc : PT C c (tT (gx C ct) E t)) (ha : PSs C a (tS (gx C ct) E ca)) (hb : PSs C b (tS (gx C ct) E cb)) : PS C (.If c a b pos) (tS (gx C ct) E (cIf t ca cb)) :=
  PS.weak (ps_if hc ha hb) fun D σ H ⟨ρ, δ, S, hR, hF, h⟩ => tT.mk hR hF (Po.bndS h fun k S1 _ ρ1 H1 k' e1 R1 r h1 => by
    cases r
    cases k with
    | true => exact tS.mk R1 (hF.mono e1) h1
    | false => exact tS.mk R1 (hF.mono e1) h1)
theorem q_set {i : Nat} {x : Str} {e : Expr} {c : CE} {pos pos' : Pos} (hN : C.N.Nodup) (hi : C.N[i]? = some x) (hx : Loc C.env.scope x) (he : PE C e (tE (gx C ct) E c)) (hs : swapsWith e (some (.Name x pos')) pos.line C.env = pure false := by rfl) (hf : C.fn x = true ∨ C.env.scope.names.lookup x = some .local := by first | exact .inl rfl | exact .inr rfl | assumption) : PS C (.Assign [.Name x pos'] e pos) (tS (gx C ct) E (cSet i c)) :=
  PS.weak (ps_set hN hi hx he hs hf) fun D σ H ⟨ρ, δ, S, hR, hF, h⟩ => tE.mk hR hF (Po.bndS h fun d S1 _ ρ1 H1 v e1 R1 rv h1 => h1 ρ1 H1 _ (.refl _ _) R1 ((hF.mono e1).set i rv))
theorem q_asg {tg e : Expr} {c : CE} {g : CG} {own : List Nat} {pos : Pos} (he : PE C e (tE (gx C ct) E c)) (hg : PG C tg (tG (gx C ct) E own g)) (hs : swapsWithSole [tg] e pos.line C.env = pure false := by rfl) (hw : swappedStores [tg] e C.env = pure none := by rfl)
    (h1 : (assignEach [tg] C.env).map (·.2) = [assign tg C.env] := by rfl) : PS C (.Assign [tg] e pos) (tS (gx C ct) E (cAsg c g)) :=
  PS.weak (ps_asg he hg hs hw h1) fun D σ H ⟨ρ, δ, S, hR, hF, h⟩ => tE.mk hR hF (Po.bndS h fun d S1 _ ρ1 H1 v e1 R1 rv h1 => by
    refine ⟨ρ1, δ, S1, d, R1, hF.mono e1, rv, ?_⟩
    cases e2 : g d δ S1 with
    | bad => rw [e2] at h1; exact h1
    | ex e S2 => rw [e2] at h1; exact h1
    | ok δ1 S2 => rw [e2] at h1; exact fun ρ' H' σ' x R F _ => h1 ρ' H' σ' x R F)
end
end Sm

namespace Sm
open PySem L2
section
variable {C : Cx} {ct : Nat → Addr} {E : XK} {G : Gx} {ρ : List Addr} {H : Hp} {σ : St} {δ : Env'} {S : Store}

/-! ### what is walked -/
/-- at most n turns; the i-th item in a store, or the end, or nothing known -/
structure IT where
  n : Nat
  f : Nat → Store → Option (Option Dv)
abbrev CI := Env' → Store → Res IT
def ISim (G : Gx) (ρ0 : List Addr) (H0 : Hp) (f : Nat → Store → Option (Option Dv)) (J : It) : Prop := ∀ (i : Nat) (ρ : List Addr) (S : Store) (H : Hp), Ext ρ0 H0 ρ H → RH G ρ S H →
  (∀ d, f i S = some (some d) → J.go i H ∧ ∀ x H', J.yld i H x H' → Ext ρ H ρ H' ∧ RH G ρ S H' ∧ VR G ρ H' d x) ∧ (f i S = some none → J.stop i H)
theorem ISim.mono {f : Nat → Store → Option (Option Dv)} {J : It} {ρ1 : List Addr} {H1 : Hp} (h : ISim G ρ H f J) (e : Ext ρ H ρ1 H1) : ISim G ρ1 H1 f J := fun i ρ' S' H' e' R => h i ρ' S' H' (e.trans e') R
abbrev rI (G : Gx) : List Addr → Hp → IT → It → Prop := fun ρ H it J => ISim G ρ H it.f J
def tI (G : Gx) (E : XK) (c : CI) : TI := fun σ H R => ∃ ρ δ S, RH G ρ S H ∧ FR G ρ H δ σ ∧ Po G E (rI G) ρ H (c δ S) R
theorem PI.weak {tg e : Expr} {t t' : TI} (h : PI C tg e t) (w : ∀ σ H Q, t' σ H Q → t σ H Q) : PI C tg e t' := ⟨fun pins s σ H Q I q => h.run pins s σ H Q I (w σ H Q q)⟩
theorem PI_or {tg e : Expr} {t t' : TI} (h : PI C tg e t) (h' : PI C tg e t') : PI C tg e (fun σ H R => t σ H R ∨ t' σ H R) := ⟨fun pins s σ H Q I q => q.elim (h.run pins s σ H Q I) (h'.run pins s σ H Q I)⟩
def itOf (S : Store) (d : Dv) : Option IT := match d with
  | .tup ds => some ⟨ds.length, fun i _ => some ds[i]?⟩
  | .frl ds => some ⟨ds.length, fun i _ => some ds[i]?⟩
  | .str z => some ⟨z.cps.size, fun i _ => some (z.cps[i]?.map fun c => .str ⟨#[c]⟩)⟩
  | .ref l => (lsAt S l).map fun ds => ⟨ds.length, fun i S => (lsAt S l).map fun ds => ds[i]?⟩
  | _ => none
def asIt (d : Dv) (S : Store) : Res IT := match itOf S d with
  | some it => .ok it S
  | none => .bad
def cIt (c : CE) : CI := fun δ S => (c δ S).bind asIt
theorem sim_list {a : Addr} {l : Nat} (ha : ρ[l]? = some a) : ISim G ρ H (fun i S => (lsAt S l).map fun ds => ds[i]?) (Itl G.K a) := fun i ρ' S' H' e R => by
  refine ⟨fun d h => ?_, fun h => ?_⟩
  · obtain ⟨ds, e1, e2⟩ := Option.map_eq_some_iff.mp h
    obtain ⟨vs, q, hs⟩ := R.lst (lsAt_iff.mp e1) (e.at ha)
    obtain ⟨v, e3, r⟩ := hs.get e2
    refine ⟨⟨vs, v, .of q, e3⟩, fun x H1 y => ?_⟩
    obtain ⟨rfl, y⟩ := y
    have := y vs (.of q)
    rw [e3] at this
    cases this
    exact ⟨.refl _ _, R, r⟩
  · obtain ⟨ds, e1, e2⟩ := Option.map_eq_some_iff.mp h
    obtain ⟨vs, q, hs⟩ := R.lst (lsAt_iff.mp e1) (e.at ha)
    exact ⟨vs, .of q, by rw [← hs.length]; exact List.getElem?_eq_none_iff.mp e2⟩
theorem sim_frl {a : Addr} {vs : List V} {ds : List Dv} (hq : FrlAt G.K H a vs) (hs : VRs G ρ H ds vs) : ISim G ρ H (fun i _ => some ds[i]?) (Itl G.K a) := fun i ρ' S' H' e R => by
  have q : SqL G.K H' a vs := (hq.mono e).sq
  have hs := hs.mono e
  refine ⟨fun d h => ?_, fun h => ?_⟩
  · obtain ⟨v, e3, r⟩ := hs.get (Option.some.inj h)
    refine ⟨⟨vs, v, q, e3⟩, fun x H1 y => ?_⟩
    obtain ⟨rfl, y⟩ := y
    have := y vs q
    rw [e3] at this
    cases this
    exact ⟨.refl _ _, R, r⟩
  · exact ⟨vs, q, by rw [← hs.length]; exact List.getElem?_eq_none_iff.mp (Option.some.inj h)⟩
theorem sim_tup {a : Addr} {vs : List V} {ds : List Dv} (hq : TupAt G.K H a vs) (hs : VRs G ρ H ds vs) : ISim G ρ H (fun i _ => some ds[i]?) (Itt G.K a) := fun i ρ' S' H' e R => by
  have q : SqT G.K H' a vs := (hq.mono e).sq
  have hs := hs.mono e
  refine ⟨fun d h => ?_, fun h => ?_⟩
  · obtain ⟨v, e3, r⟩ := hs.get (Option.some.inj h)
    refine ⟨⟨vs, v, q, e3⟩, fun x H1 y => ?_⟩
    obtain ⟨rfl, y⟩ := y
    have := y vs q
    rw [e3] at this
    cases this
    exact ⟨.refl _ _, R, r⟩
  · exact ⟨vs, q, by rw [← hs.length]; exact List.getElem?_eq_none_iff.mp (Option.some.inj h)⟩
theorem sim_str (z : Str) : ISim G ρ H (fun i _ => some (z.cps[i]?.map fun c => Dv.str ⟨#[c]⟩)) (Its z) := fun i ρ' S' H' e R => by
  refine ⟨fun d h => ?_, fun h => ?_⟩
  · obtain ⟨c, e1, rfl⟩ := Option.map_eq_some_iff.mp (Option.some.inj h)
    refine ⟨(Array.getElem?_eq_some_iff.mp e1).1, fun x H1 y => ?_⟩
    obtain ⟨rfl, c', e2, rfl⟩ := y
    rw [e1] at e2
    cases e2
    exact ⟨.refl _ _, R, .str _⟩
  · have := Option.map_eq_none_iff.mp (Option.some.inj h)
    exact Array.getElem?_eq_none_iff.mp this
theorem qi_seq {tg e : Expr} {c : CE} (he : PE C e (tE (gx C ct) E c)) : PI C tg e (tI (gx C ct) E (cIt c)) :=
  PI.weak (PI_or (pi_list he) (PI_or (pi_tup he) (pi_str he))) fun σ H R ⟨ρ, δ, S, hR, hF, h⟩ => by
    have go : ∀ {W : It → Hp → Prop} {X : V → Hp → Prop}, (∀ d S1, c δ S = .ok d S1 → ∀ ρ1 H1 v, Ext ρ H ρ1 H1 → RH (gx C ct) ρ1 S1 H1 → VR (gx C ct) ρ1 H1 d v → Po (gx C ct) E (rI (gx C ct)) ρ1 H1 (asIt d S1) R → X v H1) → tE (gx C ct) E c σ H X := fun {W X} k => tE.mk hR hF (Po.bnd h fun d S1 e ρ1 H1 v e1 R1 rv h1 => k d S1 e ρ1 H1 v e1 R1 rv h1)
    cases ec : c δ S with
    | bad => unfold cIt at h; rw [ec] at h; exact h.elim
    | ex e S1 => exact .inl (go (W := R) fun d S1 e => by rw [ec] at e; cases e)
    | ok d S1 =>
      cases d with
      | str z =>
        refine .inr (.inr (go (W := R) fun d S1' e ρ1 H1 v e1 R1 rv h1 => ?_))
        rw [ec] at e
        cases e
        cases rv
        exact ⟨z, rfl, h1.ret R1 (sim_str z)⟩
      | tup ds =>
        refine .inr (.inl (go (W := R) fun d S1' e ρ1 H1 v e1 R1 rv h1 => ?_))
        rw [ec] at e
        cases e
        cases rv with
        | @tup a vs _ ht hs => exact ⟨a, rfl, ⟨vs, ht.sq⟩, h1.ret R1 (sim_tup (G := gx C ct) ht hs)⟩
      | frl ds =>
        refine .inl (go (W := R) fun d S1' e ρ1 H1 v e1 R1 rv h1 => ?_)
        rw [ec] at e
        cases e
        cases rv with
        | @frl a vs _ ht hs => exact ⟨a, rfl, ⟨vs, ht.sq⟩, h1.ret R1 (sim_frl (G := gx C ct) ht hs)⟩
      | ref l =>
        refine .inl (go (W := R) fun d S1' e ρ1 H1 v e1 R1 rv h1 => ?_)
        rw [ec] at e
        cases e
        cases rv with
        | @ref _ a ha =>
          unfold asIt itOf at h1
          dsimp only at h1
          cases e2 : lsAt S1 l with
          | none => rw [e2] at h1; exact h1.elim
          | some ds =>
            rw [e2] at h1
            obtain ⟨vs, q, hs⟩ := R1.lst (lsAt_iff.mp e2) ha
            exact ⟨a, rfl, ⟨vs, .of q⟩, h1.ret R1 (sim_list (G := gx C ct) ha)⟩
      | _ => unfold cIt at h; rw [ec] at h; exact h.elim
/-- range(n) -/
def rngOk (j : Int) : Bool := decide (-(2 ^ 62) ≤ j ∧ j < 2 ^ 62)
def cRng1 (a : CE) : CI := fun δ S => (a δ S).bind fun d S1 => match d with
  | .int j => if rngOk j then .ok ⟨j.toNat, fun i _ => some (if i < j.toNat then some (.int (i : Int)) else none)⟩ S1 else .bad
  | _ => .bad
def cRng2 (a b : CE) : CI := fun δ S => (a δ S).bind fun d S1 => (b δ S1).bind fun e S2 => match d, e with
  | .int lo, .int j => if rngOk lo && rngOk j then .ok ⟨(j - lo).toNat, fun i _ => some (if i < (j - lo).toNat then some (.int (lo + i)) else none)⟩ S2 else .bad
  | _, _ => .bad
theorem sim_rng (lo : Int) (n : Nat) : ISim G ρ H (fun i _ => some (if i < n then some (Dv.int (lo + i)) else none)) (Itr lo n) := fun i ρ' S' H' e R => by
  refine ⟨fun d h => ?_, fun h => ?_⟩
  all_goals dsimp only at h
  · by_cases hi : i < n
    · rw [if_pos hi] at h
      cases h
      refine ⟨hi, fun x H1 y => ?_⟩
      obtain ⟨rfl, rfl⟩ := y
      exact ⟨.refl _ _, R, .int _⟩
    · rw [if_neg hi] at h; cases h
  · by_cases hi : i < n
    · rw [if_pos hi] at h; cases h
    · exact Nat.le_of_not_lt hi
theorem qi_rng1 {tg a : Expr} {ca : CE} {p pos : Pos} (hg : Gl C "range") (hm : C.mg "range" = none) (ha : PE C a (tE (gx C ct) E ca)) (hs : starEach [a] C.env = [(false, eval a C.env)] := by rfl) : PI C tg (.Call (.Name "range" p) [a] [] pos) (tI (gx C ct) E (cRng1 ca)) :=
  PI.weak (pi_range1 hg hm (pa_cons ha pa_nil hs) hs) fun σ H R ⟨ρ, δ, S, hR, hF, h⟩ => tE.mk hR hF (Po.bnd h fun d S1 _ ρ1 H1 v e1 R1 rv h1 => by
    cases rv with
    | int j =>
      have h1 : Po (gx C ct) E (rI (gx C ct)) ρ1 H1 (if rngOk j then .ok ⟨j.toNat, fun i _ => some (if i < j.toNat then some (.int (i : Int)) else none)⟩ S1 else .bad) R := h1
      by_cases hj : rngOk j = true
      · rw [if_pos hj] at h1
        have hj := of_decide_eq_true hj
        refine ⟨j, rfl, hj.1, hj.2, h1.ret R1 ?_⟩
        have := sim_rng (G := gx C ct) (ρ := ρ1) (H := H1) 0 j.toNat
        simpa using this
      · rw [if_neg hj] at h1; exact h1.elim
    | _ => exact h1.elim)
theorem qi_rng2 {tg a b : Expr} {ca cb : CE} {p pos : Pos} (hg : Gl C "range") (hm : C.mg "range" = none) (ha : PE C a (tE (gx C ct) E ca)) (hb : PE C b (tE (gx C ct) E cb)) (hs : starEach [a, b] C.env = [(false, eval a C.env), (false, eval b C.env)] := by rfl) (hs2 : starEach [b] C.env = [(false, eval b C.env)] := by rfl) : PI C tg (.Call (.Name "range" p) [a, b] [] pos) (tI (gx C ct) E (cRng2 ca cb)) :=
  PI.weak (pi_range2 hg hm (pa_cons ha (pa_cons hb pa_nil hs2) (by rw [hs, hs2])) hs hs2) fun σ H R ⟨ρ, δ, S, hR, hF, h⟩ => tE.mk hR hF (Po.bnd h fun d S1 _ ρ1 H1 v e1 R1 rv h1 => tE.mk R1 (hF.mono e1) (Po.bnd h1 fun d2 S2 _ ρ2 H2 v2 e2 R2 rv2 h2 => by
    cases rv with
    | int i =>
      cases rv2 with
      | int j =>
        have h2 : Po (gx C ct) E (rI (gx C ct)) ρ2 H2 (if rngOk i && rngOk j then .ok ⟨(j - i).toNat, fun k _ => some (if k < (j - i).toNat then some (.int (i + k)) else none)⟩ S2 else .bad) R := h2
        by_cases hj : (rngOk i && rngOk j) = true
        · rw [if_pos hj] at h2
          obtain ⟨h3, h4⟩ := Bool.and_eq_true_iff.mp hj
          have h3 := of_decide_eq_true h3
          have h4 := of_decide_eq_true h4
          exact ⟨i, j, rfl, ⟨h3.1, h3.2, h4.1, h4.2⟩, h2.ret R2 (sim_rng i (j - i).toNat)⟩
        · rw [if_neg hj] at h2; exact h2.elim
      | _ => exact h2.elim
    | _ => exact h2.elim))

/-! ### for, while -/
def loopF (f : Nat → Store → Option (Option Dv)) (g : CG) (b : CS) : Nat → Nat → Env' → Store → Res Fl
  | n, i, δ, S => match f i S with
    | none => .bad
    | some none => .ok (.nx δ) S
    | some (some d) => match n with
      | 0 => .bad
      | n + 1 => match g d δ S with
        | .ok δ1 S1 => (match b δ1 S1 with
          | .ok (.nx δ2) S2 => loopF f g b n (i + 1) δ2 S2
          | .ok (.ct δ2) S2 => loopF f g b n (i + 1) δ2 S2
          | .ok (.bk δ2) S2 => .ok (.nx δ2) S2
          | r => r)
        | .ex e S1 => .ex e S1
        | .bad => .bad
def cFor (ci : CI) (g : CG) (b : CS) : CS := fun δ S => (ci δ S).bind fun it S1 => loopF it.f g b it.n 0 δ S1
theorem q_for {tg iter : Expr} {body : List Stmt} {ci : CI} {g : CG} {own : List Nat} {b : CS} {pos : Pos} (hp : PassesOwn (model C.prog C.w) C.A C.env C.xe) (hc : C.calm = true) (hi : PI C tg iter (tI (gx C ct) E ci)) (hg : PG C tg (tG (gx C ct) E own g)) (hb : PSs C body (tS (gx C ct) E b))
    (hs : ∀ x, foldedSetIterable iter C.env x = pure x := by intro _; rfl) : PS C (.For tg iter body [] pos) (tS (gx C ct) E (cFor ci g b)) :=
  PS.weak (ps_for hp hc hi hg hb hs) fun D σ H ⟨ρ, δ, S, hR, hF, h⟩ => ⟨ρ, δ, S, hR, hF, Po.bndS h fun it S1 _ ρ1 H1 J e1 R1 sim h1 => by
    refine ⟨fun i m σ H => ∃ ρ δ S, Ext ρ1 H1 ρ H ∧ RH (gx C ct) ρ S H ∧ FR (gx C ct) ρ H δ σ ∧ PoS (gx C ct) E ρ H (loopF it.f g b m i δ S) D, ⟨it.n, ρ1, δ, S1, .refl _ _, R1, hF.mono e1, h1⟩, ?_⟩
    rintro i m σ H ⟨ρ, δ, S, ex, R, F, h⟩
    obtain ⟨s1, s2⟩ := sim i ρ S H ex R
    unfold loopF at h
    cases ef : it.f i S with
    | none => rw [ef] at h; exact h.elim
    | some o =>
      rw [ef] at h
      cases o with
      | none => exact .inl ⟨s2 ef, h ρ H σ (.refl _ _) R F⟩
      | some d =>
        dsimp only at h
        cases m with
        | zero => exact h.elim
        | succ m =>
          dsimp only at h
          obtain ⟨go, yl⟩ := s1 d ef
          refine .inr ⟨go, fun σ' H' => ∃ ρ' δ' S', Ext ρ1 H1 ρ' H' ∧ RH (gx C ct) ρ' S' H' ∧ FR (gx C ct) ρ' H' δ' σ' ∧ PoS (gx C ct) E ρ' H' (loopF it.f g b m (i + 1) δ' S') D, fun σ' H' q => ⟨m, Nat.lt_succ_self m, q⟩, fun x H' y => ?_⟩
          obtain ⟨x1, R', rd⟩ := yl x H' y
          refine ⟨ρ, δ, S, d, R', F.mono x1, rd, ?_⟩
          have h := PoS.mono h x1
          cases eg : g d δ S with
          | bad => rw [eg] at h; exact h
          | ex e S2 => rw [eg] at h; exact h
          | ok δ1 S2 =>
            rw [eg] at h
            refine fun ρ2 H2 σ2 x2 R2 F2 _ => ⟨ρ2, δ1, S2, R2, F2, ?_⟩
            have h := PoS.mono h x2
            dsimp only at h
            cases eb : b δ1 S2 with
            | bad => rw [eb] at h; exact h
            | ex e S3 => rw [eb] at h; exact h
            | ok fl S3 =>
              rw [eb] at h
              cases fl with
              | nx δ2 => exact fun ρ3 H3 σ3 x3 R3 F3 => ⟨ρ3, δ2, S3, ((ex.trans x1).trans x2).trans x3, R3, F3, PoS.mono h x3⟩
              | ct δ2 => exact fun ρ3 H3 σ3 x3 R3 F3 => ⟨ρ3, δ2, S3, ((ex.trans x1).trans x2).trans x3, R3, F3, PoS.mono h x3⟩
              | bk δ2 => exact h
              | rt v => exact h⟩
def loopW (t : CT) (b : CS) : Nat → Env' → Store → Res Fl
  | n, δ, S => match t δ S with
    | .ok false S1 => .ok (.nx δ) S1
    | .ok true S1 => (match n with
      | 0 => .bad
      | n + 1 => (match b δ S1 with
        | .ok (.nx δ2) S2 => loopW t b n δ2 S2
        | .ok (.ct δ2) S2 => loopW t b n δ2 S2
        | .ok (.bk δ2) S2 => .ok (.nx δ2) S2
        | r => r))
    | .ex e S1 => .ex e S1
    | .bad => .bad
/-- at most n turns -/
def cWhile (n : Nat) (t : CT) (b : CS) : CS := fun δ S => loopW t b n δ S
theorem q_while {c : Expr} {body : List Stmt} {t : CT} {b : CS} {pos : Pos} (n : Nat) (hp : PassesOwn (model C.prog C.w) C.A C.env C.xe) (hc : PT C c (tT (gx C ct) E t)) (hb : PSs C body (tS (gx C ct) E b)) : PS C (.While c body [] pos) (tS (gx C ct) E (cWhile n t b)) :=
  PS.weak (ps_while hp hc hb) fun D σ H ⟨ρ, δ, S, hR, hF, h⟩ => by
    refine ⟨fun m σ H => ∃ ρ δ S, RH (gx C ct) ρ S H ∧ FR (gx C ct) ρ H δ σ ∧ PoS (gx C ct) E ρ H (loopW t b m δ S) D, ⟨n, ρ, δ, S, hR, hF, h⟩, ?_⟩
    rintro m σ H ⟨ρ, δ, S, R, F, h⟩
    refine ⟨ρ, δ, S, R, F, ?_⟩
    unfold loopW at h
    cases et : t δ S with
    | bad => rw [et] at h; exact h
    | ex e S1 => rw [et] at h; exact h
    | ok k S1 =>
      rw [et] at h
      intro ρ1 H1 k' x1 R1 rk
      cases rk
      have h := PoS.mono h x1
      cases k with
      | false =>
        rw [if_neg Bool.false_ne_true]
        exact h ρ1 H1 σ (.refl _ _) R1 (F.mono x1)
      | true =>
        rw [if_pos rfl]
        cases m with
        | zero => exact h.elim
        | succ m =>
          refine ⟨fun σ' H' => ∃ ρ' δ' S', RH (gx C ct) ρ' S' H' ∧ FR (gx C ct) ρ' H' δ' σ' ∧ PoS (gx C ct) E ρ' H' (loopW t b m δ' S') D, fun σ' H' q => ⟨m, Nat.lt_succ_self m, q⟩, ρ1, δ, S1, R1, F.mono x1, ?_⟩
          dsimp only at h
          cases eb : b δ S1 with
          | bad => rw [eb] at h; exact h
          | ex e S3 => rw [eb] at h; exact h
          | ok fl S3 =>
            rw [eb] at h
            cases fl with
            | nx δ2 => exact fun ρ3 H3 σ3 x3 R3 F3 => ⟨ρ3, δ2, S3, R3, F3, PoS.mono h x3⟩
            | ct δ2 => exact fun ρ3 H3 σ3 x3 R3 F3 => ⟨ρ3, δ2, S3, R3, F3, PoS.mono h x3⟩
            | bk δ2 => exact h
            | rt v => exact h

/-! ### comprehensions (nothing is raised within) -/
def cYes : CT := fun _ S => .ok true S
theorem qts_nil : PTs C [] (tT (gx C ct) E cYes) := ⟨fun pins s σ H Q I ⟨ρ, δ, S, hR, hF, h⟩ => pts_nil.run pins s σ H Q I (h.ret hR rfl)⟩
theorem qts_one {c : Expr} {t : CT} (h : PT C c (tT (gx C ct) E t)) : PTs C [c] (tT (gx C ct) E t) := pts_one h
def loopC (f : Nat → Store → Option (Option Dv)) (g : CG) (tt : CT) (te : CE) (δ : Env') (l : Nat) : Nat → Nat → Store → Res Unit
  | n, i, S => match f i S with
    | none => .bad
    | some none => .ok () S
    | some (some d) => match n with
      | 0 => .bad
      | n + 1 => match g d δ S with
        | .ok δ1 S1 => (match tt δ1 S1 with
          | .ok true S2 => (match te δ1 S2 with
            | .ok y S3 => (match lsAt S3 l with
              | some acc => if decide (acc.length < 16777216) then loopC f g tt te δ l n (i + 1) (S3.set l (.lst (acc ++ [y]))) else .bad
              | none => .bad)
            | _ => .bad)
          | .ok false S2 => loopC f g tt te δ l n (i + 1) S2
          | _ => .bad)
        | _ => .bad
def cLc (ci : CI) (own : List Nat) (g : CG) (tt : CT) (te : CE) : CE := fun δ S => (ci δ S).bind fun it S1 => (loopC it.f g tt te (wipeE δ own) S1.length it.n 0 (S1 ++ [.lst []])).bind fun _ S2 => .ok (.ref S1.length) S2
theorem lc_step {ci : CI} {own : List Nat} {g : CG} {tt : CT} {te : CE} {Q : VK} (h : tE G E (cLc ci own g tt te) σ H Q) : tLc (tI G E ci) (tG G E0 own g) (tT G E0 tt) (tE G E0 te) own σ H Q := by
  obtain ⟨ρ, δ, S, hR, hF, h⟩ := h
  refine ⟨ρ, δ, S, hR, hF, Po.bnd h fun it S1 _ ρ1 H1 J e1 R1 sim h1 D hD => ?_⟩
  have xD : Ext ρ1 H1 (ρ1 ++ [D]) (upd H1 D (.lst [])) := .new hD
  have RD : RH G (ρ1 ++ [D]) (S1 ++ [.lst []]) (upd H1 D (.lst [])) := R1.alloc hD (.lst .nil)
  have hl : (ρ1 ++ [D])[S1.length]? = some D := by rw [← R1.len]; simp
  refine ⟨fun i m H => ∃ ρ S, Ext (ρ1 ++ [D]) (upd H1 D (.lst [])) ρ H ∧ RH G ρ S H ∧ Po G E (rV G) ρ H ((loopC it.f g tt te (wipeE δ own) S1.length m i S).bind fun _ S2 => .ok (.ref S1.length) S2) Q, ⟨it.n, _, _, .refl _ _, RD, Po.mono h1 xD⟩, ?_⟩
  rintro i m H ⟨ρ, S, ex, R, h⟩
  obtain ⟨s1, s2⟩ := sim i ρ S H (xD.trans ex) R
  unfold loopC at h
  cases ef : it.f i S with
  | none => rw [ef] at h; exact h.elim
  | some o =>
    rw [ef] at h
    cases o with
    | none => exact .inl ⟨s2 ef, h.ret R (.ref (ex.at hl))⟩
    | some d =>
      dsimp only at h
      cases m with
      | zero => exact h.elim
      | succ m =>
        dsimp only at h
        obtain ⟨go, yl⟩ := s1 d ef
        refine .inr ⟨go, fun H' => ∃ ρ' S', Ext (ρ1 ++ [D]) (upd H1 D (.lst [])) ρ' H' ∧ RH G ρ' S' H' ∧ Po G E (rV G) ρ' H' ((loopC it.f g tt te (wipeE δ own) S1.length m (i + 1) S').bind fun _ S2 => .ok (.ref S1.length) S2) Q, fun H' q => ⟨m, Nat.lt_succ_self m, q⟩, fun x H' y => ?_⟩
        obtain ⟨x1, R', rd⟩ := yl x H' y
        have h := Po.mono h x1
        have hF' : FR G ρ H' (wipeE δ own) (L2.wipe σ own) := ((((hF.mono e1).mono xD).mono ex).mono x1).wipe own
        refine ⟨ρ, wipeE δ own, S, d, R', hF', rd, ?_⟩
        cases eg : g d (wipeE δ own) S with
        | bad => rw [eg] at h; exact h
        | ex e S2 => rw [eg] at h; exact h.elim
        | ok δ1 S2 =>
          rw [eg] at h
          refine fun ρ2 H2 σ2 x2 R2 F2 so => ⟨so.wipe, ρ2, δ1, S2, R2, F2, ?_⟩
          have h := Po.mono h x2
          dsimp only at h
          cases et : tt δ1 S2 with
          | bad => rw [et] at h; exact h
          | ex e S3 => rw [et] at h; exact h.elim
          | ok k S3 =>
            rw [et] at h
            intro ρ3 H3 k' x3 R3 rk
            cases rk
            have h := Po.mono h x3
            cases k with
            | false =>
              rw [if_neg Bool.false_ne_true]
              exact ⟨ρ3, S3, ((ex.trans x1).trans x2).trans x3, R3, h⟩
            | true =>
              rw [if_pos rfl]
              refine ⟨ρ3, δ1, S3, R3, F2.mono x3, ?_⟩
              dsimp only at h
              cases ee : te δ1 S3 with
              | bad => rw [ee] at h; exact h
              | ex e S4 => rw [ee] at h; exact h.elim
              | ok y S4 =>
                rw [ee] at h
                intro ρ4 H4 v x4 R4 ry
                have h := Po.mono h x4
                dsimp only at h
                have xa := (((ex.trans x1).trans x2).trans x3).trans x4
                cases el : lsAt S4 S1.length with
                | none => rw [el] at h; exact h.elim
                | some acc =>
                  rw [el] at h
                  dsimp only at h
                  obtain ⟨vs, q, hs⟩ := R4.lst (lsAt_iff.mp el) (xa.at hl)
                  by_cases hz : decide (acc.length < 16777216) = true
                  · rw [if_pos hz] at h
                    have xw : Ext ρ4 H4 ρ4 (upd H4 D (.lst (vs ++ [v]))) := R4.wext (lsAt_iff.mp el) (xa.at hl)
                    exact ⟨vs, q, by rw [← hs.length, sizeLine_eq]; exact of_decide_eq_true hz, ρ4, _, xa.trans xw, R4.write (lsAt_iff.mp el) (xa.at hl) (.lst (hs.append (.cons ry .nil))), Po.mono h xw⟩
                  · rw [if_neg hz] at h; exact h.elim
theorem q_lc {elt tg iter : Expr} {ifs : List Expr} {scope : Scope} {own : List (Str × Nat)} {pos : Pos} {ci : CI} {g : CG} {tt : CT} {te : CE} (hc : C.calm = true) (hN : C.N.Nodup) (hi : PI C tg iter (tI (gx C ct) E ci)) (ok : BlkOk C.N C.env.scope scope own)
    (hg : ∀ (s : Shared) (H : Hp) (B : Addr) (cl : List (Str × Addr)) (fp : List Addr), PG (C.blk s H scope (compEnvC scope cl B C.env) fp) tg (tG (gx C ct) E0 (own.map (·.2)) g)) (ht : ∀ (s : Shared) (H : Hp) (B : Addr) (cl : List (Str × Addr)) (fp : List Addr), PTs (C.blk s H scope (compEnvC scope cl B C.env) fp) ifs (tT (gx C ct) E0 tt))
    (he : ∀ (s : Shared) (H : Hp) (B : Addr) (cl : List (Str × Addr)) (fp : List Addr), PE (C.blk s H scope (compEnvC scope cl B C.env) fp) elt (tE (gx C ct) E0 te)) (hs : ∀ x, foldedSetIterable iter C.env x = pure x := by intro _; rfl) :
    PE C (.ListComp elt [⟨tg, iter, ifs, 0⟩] scope pos) (tE (gx C ct) E (cLc ci (own.map (·.2)) g tt te)) :=
  PE.weak (pe_lc hc hN hi ok hg ht he hs) fun σ H Q h => lc_step h
/-- x = [..] -/
theorem q_setLc {i : Nat} {y : Str} {py : Pos} {elt tg iter : Expr} {ifs : List Expr} {scope : Scope} {own : List (Str × Nat)} {pos spos : Pos} {ci : CI} {g : CG} {tt : CT} {te : CE} (hc : C.calm = true) (hN : C.N.Nodup) (hy : C.N[i]? = some y) (hyl : C.env.scope.names.lookup y = some .local)
    (hsw : swapsWith (.ListComp elt [⟨tg, iter, ifs, 0⟩] scope pos) (some (.Name y py)) spos.line C.env = pure true) (hi : PI C tg iter (tI (gx C ct) E ci)) (ok : BlkOk C.N C.env.scope scope own)
    (hg : ∀ (s : Shared) (H : Hp) (B : Addr) (cl : List (Str × Addr)) (fp : List Addr), PG (C.blk s H scope (compEnvC scope cl B C.env) fp) tg (tG (gx C ct) E0 (own.map (·.2)) g)) (ht : ∀ (s : Shared) (H : Hp) (B : Addr) (cl : List (Str × Addr)) (fp : List Addr), PTs (C.blk s H scope (compEnvC scope cl B C.env) fp) ifs (tT (gx C ct) E0 tt))
    (he : ∀ (s : Shared) (H : Hp) (B : Addr) (cl : List (Str × Addr)) (fp : List Addr), PE (C.blk s H scope (compEnvC scope cl B C.env) fp) elt (tE (gx C ct) E0 te)) (hs : ∀ x, foldedSetIterable iter C.env x = pure x := by intro _; rfl) :
    PS C (.Assign [.Name y py] (.ListComp elt [⟨tg, iter, ifs, 0⟩] scope pos) spos) (tS (gx C ct) E (cSet i (cLc ci (own.map (·.2)) g tt te))) :=
  PS.weak (ps_setLc hc hN hy hyl hsw hi ok hg ht he hs) fun D σ H ⟨ρ, δ, S, hR, hF, h⟩ => by
    refine lc_step ⟨ρ, δ, S, hR, hF, Po.bndS h fun d S1 _ ρ1 H1 v e1 R1 rv h1 => ?_⟩
    exact h1 ρ1 H1 _ (.refl _ _) R1 ((hF.mono e1).set i rv)

/-! ### defs -/
def startD (n : Nat) (ds : List Dv) : Env' := ds.map some ++ List.replicate (n - ds.length) none
def noX {α : Type} (r : Res α) : Res α := match r with
  | .ex _ _ => .bad
  | r => r
def runB (n : Nat) (b : CS) (ds : List Dv) (S : Store) : Res Dv := match b (startD n ds) S with
  | .ok (.rt d) S1 => .ok d S1
  | .ok (.nx _) S1 => .ok .non S1
  | .ok _ _ => .bad
  | .ex e S1 => .ex e S1
  | .bad => .bad
theorem fr_start {N : List Str} {ds : List Dv} {vs : List V} (h : VRs G ρ H ds vs) : FR G ρ H (startD N.length ds) (L2.start N vs) := by
  unfold startD L2.start
  rw [← h.length]
  refine ⟨by simp [h.length], fun i d e => ?_⟩
  by_cases hi : i < ds.length
  · rw [List.getElem?_append_left (by rw [List.length_map]; exact hi), List.getElem?_map] at e
    rw [List.getElem?_append_left (by rw [List.length_map, ← h.length]; exact hi), List.getElem?_map]
    cases q : ds[i]? with
    | none => rw [q] at e; cases e
    | some d' =>
      rw [q] at e
      have e : some (some d') = some (some d) := e
      cases e
      obtain ⟨v, q2, r⟩ := h.get q
      exact ⟨v, by rw [q2]; rfl, r⟩
  · rw [List.getElem?_append_right (by rw [List.length_map]; omega)] at e
    have := List.mem_of_getElem? e
    rw [List.mem_replicate] at this
    exact absurd this.2 (by simp)
section
variable {P : Program} {w : World} {K : PySem.W.Frag} {mg : Str → Option Value} {base : Heap}
theorem PoS.body {b : CS} {n : Nat} {ds : List Dv} {Q : VK} (h : Po G E (rV G) ρ H (runB n b ds S) Q) : PoS G E ρ H (b (startD n ds) S) { nx := fun _ H' => Q .non H', rt := Q } := by
  unfold runB at h
  cases e : b (startD n ds) S with
  | bad => rw [e] at h; exact h
  | ex e S1 => rw [e] at h; exact h
  | ok f S1 =>
    rw [e] at h
    cases f with
    | nx δ => exact fun ρ' H' σ' x R F => h ρ' H' .non x R .non
    | rt d => exact fun ρ' H' v x R r => h ρ' H' v x R r
    | bk δ => exact h.elim
    | ct δ => exact h.elim
/-- a def that may raise -/
theorem fn_simX {x qual : Str} {st : Stmt} {f : Addr} {fd : FuncData} {N ps : List Str} {k : Nat} {b : CS} (F : Fun K x qual st f fd) (sc : FnScope N ps (defScope st))
    (hb : ∀ (cdv : Value) (A : Around) (outer : List Env) (s : Shared) (H : Hp) (E : XK), Room k (A.deeper (PyProof.Rows.envOfC qual (defScope st) s.heap.objs.size f cdv)) → PSs (cxOf (L2.CX P w) P w K mg base N qual (defScope st) f cdv A outer s H E) (defBody st) (tS ⟨K, ct⟩ E b)) :
    FnOk P w K mg base (L2.CX P w) (k + 1) f fd ps (spOf ⟨K, ct⟩ (runB N.length b) ps.length) := by
  refine F.okX sc (fun vs H Q E h => h.1) (fun cdv A outer s H vs Q E hr h => ?_)
  obtain ⟨hl, ρ, S, ds, R, rs, h⟩ := h
  exact ⟨_, hb cdv A outer s H E hr, ρ, startD N.length ds, S, R, fr_start rs, PoS.body h⟩
/-- a def that raises nothing -/
theorem fn_sim0 {x qual : Str} {st : Stmt} {f : Addr} {fd : FuncData} {N ps : List Str} {k : Nat} {b : CS} (F : Fun K x qual st f fd) (sc : FnScope N ps (defScope st))
    (hb : ∀ (cdv : Value) (A : Around) (outer : List Env) (s : Shared) (H : Hp) (E : XK), Room k (A.deeper (PyProof.Rows.envOfC qual (defScope st) s.heap.objs.size f cdv)) → PSs (cxOf CX0 P w K mg base N qual (defScope st) f cdv A outer s H E).nox (defBody st) (tS ⟨K, ct⟩ E0 b)) :
    FnOk P w K mg base CX0 (k + 1) f fd ps (spOf ⟨K, ct⟩ (fun ds S => noX (runB N.length b ds S)) ps.length) := by
  refine F.ok sc (fun vs H Q E h => h.1) (fun cdv A outer s H vs Q E hr h => ?_)
  obtain ⟨hl, ρ, S, ds, R, rs, h⟩ := h
  refine ⟨_, hb cdv A outer s H E hr, ρ, startD N.length ds, S, R, fr_start rs, PoS.body (G := ⟨K, ct⟩) (E := E0) ?_⟩
  have h : Po ⟨K, ct⟩ E (rV ⟨K, ct⟩) ρ H (noX (runB N.length b ds S)) Q := h
  cases e : runB N.length b ds S with
  | ok d S1 => rw [e] at h; exact h
  | ex _ _ => rw [e] at h; exact h.elim
  | bad => rw [e] at h; exact h.elim
end
end
end Sm

namespace Sm
open PySem L2
open PyProof.Rows (IsTup assignInOrder_cons Call_)

/-! ### x, *rest = a tuple -/
section
variable {prog : Program} {w : World} {A : Around} {X : Value → Shared → Prop} {s : Shared}
/-- the head, and what is behind it as a new list -/
theorem split_tup {a : Addr} {vs : Array Value} {x : Value} {rest : List Value} {Y : List Value → Shared → Prop} (ht : IsTup s.heap a vs) (hh : A.handled = none) (e : vs.toList = x :: rest) (hz : vs.size ≤ sizeLine)
    (k : ∀ (h2 : Heap) (tk : Nat), (∀ b o, s.heap.get? b = some o → h2.get? b = some o) →
      Y [x, .ref h2.objs.size] { s with heap := h2.push { cls := .type "list", data := .seq rest.toArray }, toks := tk }) : wpAny (model prog w) A (unpackItems (.ref a) 2 (some 1)) Y X s := by
  have far : a ≠ s.heap.objs.size := Nat.ne_of_lt ht.lt
  have len : vs.size = rest.length + 1 := by rw [← Array.length_toList, e, List.length_cons]
  have t1 : List.take 1 (List.drop 0 vs.toList) = [x] := by rw [e]; rfl
  have d1 : vs.toList.drop 1 = rest := by rw [e]; rfl
  unfold unpackItems
  refine wpAny_bind ?_
  unfold notIterableAtAll
  refine wpAny_bind (wpAny_specialOf ht.typeIs PyProof.Rows.slot_tuple_iter.lookup ?_)
  refine wpAny_pure ?_
  simp only [Bool.false_eq_true, if_false]
  refine wpAny_bind (wpAny_holding (PyProof.Rows.iter_tuple ht ?_))
  refine wpAny_bind (wpAny_holding (PyProof.Rows.draw_tuple far 1 0 _ _ ⟨_, Heap.get?_push_size _ rfl, rfl, rfl⟩ (ht.push _) (by omega) fun h1 it1 sb => ?_))
  have ht1 : IsTup h1 a vs := (ht.push _).extBut sb.extBut far
  rw [Nat.zero_add] at it1
  obtain ⟨oi, hoi, _⟩ := id it1
  obtain ⟨ol, hol, _⟩ := id ht1
  rw [t1, if_neg (by simp)]
  refine wpAny_bind (wpAny_holding (PySem.W.kun_collect (s := { s with heap := h1 }) (T := "tuple_iterator") (.inr (.inr (.inr rfl))) (Walks.tuple (A := A.in1) hh s.heap.objs.size a far vs) (fun j u st => st.1.typeIs) (k := 1) (by omega) ⟨it1, ht1⟩ (Heap.lt_size hoi) (Heap.lt_size hol) (fun h2 tk kk => ?_) hz))
  rw [d1]
  have rl : ¬ rest.length < 2 - 1 - 1 := by omega
  have tk1 : rest.take (rest.length - (2 - 1 - 1)) = rest := List.take_of_length_le (Nat.le_refl _)
  have dr1 : rest.drop (rest.length - (2 - 1 - 1)) = [] := List.drop_of_length_le (Nat.le_refl _)
  show wpAny _ _ (if rest.length < 2 - 1 - 1 then _ else _) _ _ _
  rw [if_neg rl]
  show wpAny _ _ (newList (rest.take (rest.length - (2 - 1 - 1))) >>= fun d => pure ([x] ++ [d] ++ rest.drop (rest.length - (2 - 1 - 1)))) _ _ _
  rw [tk1, dr1]
  exact wpAny_bind (wpAny_newList (wpAny_pure (k h2 tk fun b o q => kk b o (Nat.ne_of_lt (Heap.lt_size q)) (sb.extBut b o (Nat.ne_of_lt (Heap.lt_size q)) (Heap.get?_push_of_some _ q)))) (by omega))
end
section
variable {C : Cx} {ct : Nat → Addr} {E : XK} {G : Gx} {ρ : List Addr} {H : Hp} {σ : St} {δ : Env'} {S : Store}
def gStar' (K : PySem.W.Frag) (t : TGs) : TG := fun v σ H Q => ∃ a x xs, v = .ref a ∧ SqT K H a (x :: xs) ∧ ∀ p, H p = none → t [x, .ref p] σ (upd H p (.lst xs)) Q
theorem pg_star {es : List Expr} {k : Nat} {t : TGs} {pos : Pos} (hc : C.calm = true) (h : PGs C es t) (hn : (assignEach es C.env).length = 2) (hst : (assignEach es C.env).findIdx? (·.1) = some 1) : PG C (.Tuple es k pos) (gStar' C.K t) := by
  refine ⟨fun pins s σ H v u Q I r hw => ?_⟩
  obtain ⟨a, x, xs, rfl, hq, hw⟩ := hw
  cases r
  obtain ⟨its, rv, ht, hz⟩ := I.tuple hq
  cases rv with
  | @cons _ u _ us r1 r2 =>
    rw [PyProof.Rows.assign_Tuple]
    refine wpAny_bind (wpAny_standAt ?_)
    unfold unpack
    rw [hn, hst]
    refine wpAny_bind (wpAny_holding (split_tup ht (I.ok.hd hc) (x := u) (rest := us) (by simp) (by have := r2.length; rw [List.length_cons] at hz; simp; omega) fun h2 tk hk => ?_))
    have I1 : Inv C pins σ H { s with heap := h2, toks := tk } := I.kept hk
    have hz2 : xs.length ≤ sizeLine := by rw [List.length_cons] at hz; omega
    exact h.run pins _ σ _ [x, .ref h2.objs.size] _ Q (I1.lnew (t' := tk) r2 hz2) (.cons r1 (.cons rfl .nil)) (hw _ I1.fresh)
def gStar (gs : List Dv → Env' → Store → Res Env') : CG := fun d δ S => match d with
  | .tup (x :: xs) => gs [x, .ref S.length] δ (S ++ [.lst xs])
  | _ => .bad
theorem qg_star {es : List Expr} {k : Nat} {pos : Pos} {own : List Nat} {gs : List Dv → Env' → Store → Res Env'} (hc : C.calm = true) (h : PGs C es (tGs (gx C ct) E own gs)) (hn : (assignEach es C.env).length = 2 := by rfl) (hst : (assignEach es C.env).findIdx? (·.1) = some 1 := by rfl) : PG C (.Tuple es k pos) (tG (gx C ct) E own (gStar gs)) :=
  PG.weak (pg_star hc h hn hst) fun v σ H Q ⟨ρ, δ, S, d, hR, hF, rv, h⟩ => by
    cases rv with
    | @tup a vs ds ht hs =>
      cases hs with
      | nil => exact h.elim
      | @cons dx x dxs xs r rs =>
        refine ⟨a, x, xs, rfl, ht.sq, fun p hp => ?_⟩
        have e1 : Ext ρ H (ρ ++ [p]) (upd H p (.lst xs)) := .new hp
        have h : PoG (gx C ct) E own ρ H σ (gs [dx, .ref S.length] δ (S ++ [.lst dxs])) Q := h
        exact ⟨ρ ++ [p], δ, S ++ [.lst dxs], [dx, .ref S.length], hR.alloc hp (.lst rs), hF.mono e1, .cons (r.mono e1) (.cons (.ref (by rw [← hR.len]; simp)) .nil), PoG.mono h e1 .refl⟩
    | _ => exact h.elim
/-- the targets of a star -/
theorem pgs_star {e : Expr} {pos : Pos} {es : List Expr} {t : TG} {u : TGs} (h1 : PG C e t) (h2 : PGs C es u) : PGs C (.Starred e pos :: es) (gCons t u) := by
  have hs : (assignEach (.Starred e pos :: es) C.env).map (·.2) = assign e C.env :: (assignEach es C.env).map (·.2) := by
    first
      | rfl
      | simp [assignEach]
  refine ⟨fun pins s σ H vs us Q I r hw => ?_⟩
  obtain ⟨v, vr, rfl, hw⟩ := hw
  cases r with
  | cons r rr =>
    rw [hs]
    exact assignInOrder_cons (thn (h1.run pins s σ H _ _ _ I r hw) fun _ s1 ⟨σ1, H1, I1, q1⟩ => h2.run pins s1 σ1 H1 _ _ Q I1 rr q1)
theorem qgs_star {e : Expr} {pos : Pos} {es : List Expr} {own : List Nat} {g : CG} {gs : List Dv → Env' → Store → Res Env'} (h1 : PG C e (tG (gx C ct) E own g)) (h2 : PGs C es (tGs (gx C ct) E own gs)) : PGs C (.Starred e pos :: es) (tGs (gx C ct) E own (gCons' g gs)) :=
  PGs.weak (pgs_star h1 h2) fun vs σ H Q ⟨ρ, δ, S, ds, hR, hF, rv, h⟩ => by
    cases rv with
    | nil => exact h.elim
    | @cons d v ds vs r rs =>
      refine ⟨v, vs, rfl, ρ, δ, S, d, hR, hF, r, ?_⟩
      have h : PoG (gx C ct) E own ρ H σ ((g d δ S).bind fun δ1 S1 => gs ds δ1 S1) Q := h
      cases e1 : g d δ S with
      | bad => rw [e1] at h; exact h
      | ex e S1 => rw [e1] at h; exact h
      | ok δ1 S1 =>
        rw [e1] at h
        exact fun ρ' H' σ' e R F s => ⟨ρ', δ1, S1, ds, R, F, rs.mono e, PoG.mono h e s⟩

/-! ### f-strings -/
def fmtS (d : Dv) : Option Str := match d with
  | .str x => if lineOk x.length then some x else none
  | .int i => if strOk i then some (showI i) else none
  | _ => none
def cFmt (c : CE) : CE := fun δ S => (c δ S).bind fun d S1 => match fmtS d with
  | some x => .ok (.str x) S1
  | none => .bad
theorem q_fmt {e : Expr} {c : CE} {pos : Pos} (he : PE C e (tE (gx C ct) E c)) : PE C (.FormattedValue e (-1) none pos) (tE (gx C ct) E (cFmt c)) :=
  PE.weak (pe_fmt he) fun σ H Q ⟨ρ, δ, S, hR, hF, h⟩ => tE.mk hR hF (Po.bnd h fun d S1 _ ρ1 H1 v e1 R1 rv h1 => by
    cases rv with
    | str x =>
      by_cases hz : lineOk x.length = true
      · have q : fmtS (.str x) = some x := if_pos hz
        rw [q] at h1
        exact .inl ⟨x, rfl, line_of hz, h1.ret R1 (.str _)⟩
      · have q : fmtS (.str x) = none := if_neg hz
        rw [q] at h1; exact h1.elim
    | int i =>
      by_cases hz : strOk i = true
      · have q : fmtS (.int i) = some (showI i) := if_pos hz
        rw [q] at h1
        exact .inr ⟨i, rfl, of_decide_eq_true hz, h1.ret R1 (.str _)⟩
      · have q : fmtS (.int i) = none := if_neg hz
        rw [q] at h1; exact h1.elim
    | _ => exact h1.elim)
inductive QJ (C : Cx) (ct : Nat → Addr) (E : XK) : List Expr → List CE → Prop
  | nil : QJ C ct E [] []
  | cons {e : Expr} {c : CE} {es : List Expr} {cs : List CE} : PE C e (tE (gx C ct) E c) → QJ C ct E es cs → QJ C ct E (e :: es) (c :: cs)
theorem QJ.pj {es : List Expr} {cs : List CE} (h : QJ C ct E es cs) : PJ C es (cs.map (tE (gx C ct) E)) := by
  induction h with
  | nil => exact .nil
  | cons h _ ih => exact .cons h ih
def cJs : List CE → Str → CE
  | [], acc, _, S => .ok (.str acc) S
  | c :: cs, acc, δ, S => (c δ S).bind fun d S1 => match d with
    | .str y => if lineOk (acc ++ y).length then cJs cs (acc ++ y) δ S1 else .bad
    | _ => .bad
theorem js_step : ∀ (cs : List CE) {acc : Str} {ρ : List Addr} {δ : Env'} {S : Store} {H : Hp} {σ : St} {Q : VK}, RH G ρ S H → FR G ρ H δ σ → Po G E (rV G) ρ H (cJs cs acc δ S) Q → tJs (cs.map (tE G E)) acc σ H (fun out H1 => Q (.str out) H1)
  | [], acc, _, _, _, _, _, _, hR, hF, h => h.ret hR (.str _)
  | c :: cs, acc, ρ, δ, S, H, σ, Q, hR, hF, h => by
    refine tE.mk hR hF (Po.bnd h fun d S1 _ ρ1 H1 v e1 R1 rv h1 => ?_)
    cases rv with
    | str y =>
      have h1 : Po G E (rV G) ρ1 H1 (if lineOk (acc ++ y).length then cJs cs (acc ++ y) δ S1 else .bad) Q := h1
      by_cases hz : lineOk (acc ++ y).length = true
      · rw [if_pos hz] at h1
        exact ⟨y, rfl, line_of hz, js_step cs R1 (hF.mono e1) h1⟩
      · rw [if_neg hz] at h1; exact h1.elim
    | _ => exact h1.elim
theorem q_joined {v1 v2 : Expr} {rest : List Expr} {cs : List CE} {pos : Pos} (h : QJ C ct E (v1 :: v2 :: rest) cs) : PE C (.JoinedStr (v1 :: v2 :: rest) pos) (tE (gx C ct) E (cJs cs Str.empty)) :=
  PE.weak (pe_joined h.pj) fun σ H Q ⟨ρ, δ, S, hR, hF, h⟩ => js_step cs hR hF h

/-! ### enumerate(a text) -/
/-- the signs of x with their places -/
def EnS (x : Str) : It := ⟨fun i _ => i < x.cps.size, fun i H v H' => ∃ T c, v = .ref T ∧ H T = none ∧ H' = upd H T (.tup [.int (i : Nat), .str ⟨#[c]⟩]) ∧ x.cps[i]? = some c, fun i _ => x.cps.size ≤ i⟩
theorem turn_enS {P : Program} {w : World} {K : PySem.W.Frag} {elts : List Expr} {kk : Nat} {tpos : Pos} (x : Str) (t : Tok) (e it : Addr) :
    Turn P w K (.Tuple elts kk tpos) (EnS x) [e, it] e (fun i h => (∃ old, IsEnum h e it ((i : Nat) : Int) old) ∧ h.IsStrIter it (strIterType x) x t i ∧ i ≤ x.cps.size ∧ e ≠ it) where
  mem := by simp
  obj := fun i h st b hb => by
    obtain ⟨⟨old, he⟩, ⟨o, ho, _, hd⟩, _, _⟩ := st
    rcases List.mem_cons.mp hb with rfl | hb
    · exact ⟨_, he, fun v q => nomatch q⟩
    · rw [List.mem_singleton.mp hb]
      exact ⟨o, ho, fun v q => by rw [hd] at q; cases q⟩
  keep := fun i h h' st k => by
    obtain ⟨⟨old, he⟩, ⟨o, ho, r⟩, hi, hne⟩ := st
    exact ⟨⟨old, k e (by simp) _ he⟩, ⟨o, k it (by simp) o ho, r⟩, hi, hne⟩
  item := by
    intro X hP hw hK hc i pins s σ H E I hf st hg
    subst hP hw hK
    obtain ⟨⟨old, he⟩, hit, _, hne⟩ := st
    have hel := Heap.lt_size he
    have hil : it < s.heap.objs.size := let ⟨_, q, _⟩ := hit; Heap.lt_size q
    refine wpAny_pyNext_enum_itemD (Draws.text (prog := X.prog) (w := X.w) (A := X.A.in1) (I.ok.hd hc) it x t) he hit hg hne (by simp [hne]) fun v h1 tk hv ho it1 hT hsz hk => ?_
    obtain ⟨c, u, hcx, rfl⟩ := hv
    refine ⟨_, rfl, wpAny_letOwnedTupleGo_enum (s := { s with heap := h1, toks := tk + 1 }) ho fun h2 he2 sb => ?_⟩
    have hT2 : h2.get? s.heap.objs.size = some { cls := .type "tuple", data := .seq #[.int i tk, .str ⟨#[c]⟩ u] } := (sb.2 _ (Nat.ne_of_gt hel)).trans hT
    have new : ObjOk X.prog X.w (upd H s.heap.objs.size (.tup [.int (i : Nat), .str ⟨#[c]⟩])) h2 s.heap.objs.size (.tup [.int (i : Nat), .str ⟨#[c]⟩]) :=
      ⟨by show 2 ≤ sizeLine; decide, _, .cons ⟨tk, rfl⟩ (.cons ⟨u, rfl⟩ .nil), ⟨_, hT2, rfl, _, rfl⟩⟩
    have I1 : Inv X pins σ (upd H s.heap.objs.size (.tup [.int (i : Nat), .str ⟨#[c]⟩])) { s with heap := h2, toks := tk + 1 } :=
      I.turnedNew (ch := [e, it]) (fun b ob hb q => (sb.2 b (fun z => hb (by simp [z]))).trans (hk b ob (fun z => hb (by simp [z])) (fun z => hb (by simp [z])) q)) hf (Nat.le_refl _) new
    refine ⟨.ref s.heap.objs.size, _, I1, rfl, ⟨_, c, rfl, I.hok.fresh (Nat.le_refl _), rfl, hcx⟩, ⟨⟨_, (show IsEnum h2 e it (((i + 1 : Nat) : Int)) (.str ⟨#[c]⟩ u) from by rw [show ((i + 1 : Nat) : Int) = (i : Int) + 1 from by omega]; exact he2)⟩, ?_, hg, hne⟩, fun b hb => ?_⟩
    · obtain ⟨o, ho, r⟩ := it1
      exact ⟨o, (sb.2 it (Ne.symm hne)).trans ho, r⟩
    · have lt : b < s.heap.objs.size := by
        rcases List.mem_cons.mp hb with rfl | hb
        · exact hel
        · rw [List.mem_singleton.mp hb]; exact hil
      rw [upd_ne (Nat.ne_of_lt lt)]
      exact (hf b hb).1
  done := by
    intro X hP hw hK hc i pins s σ H E I hf st hg
    subst hP hw hK
    obtain ⟨⟨old, he⟩, hit, hi, hne⟩ := st
    have hi : i = x.cps.size := Nat.le_antisymm hi hg
    subst hi
    obtain ⟨f0, f1, f2, f3, f4, f5⟩ := hf it (by simp)
    exact wpAny_pyNext_enum_endD (Draws.text (prog := X.prog) (w := X.w) (A := X.A.in1) (I.ok.hd hc) it x t) he hit fun h' eb => ⟨rfl, I.turned (t' := s.toks) (fun b o hb q => eb b o hb q) f0 f1 f3 f4 f5⟩
  self := fun A i s Q E st h => let ⟨⟨_, he⟩, _⟩ := st; wpAny_pyIter_enum he h
def iEnS (ta : TA) : TI := fun σ H R => ta σ H fun vs H1 => ∃ x, vs = [.str x] ∧ R (EnS x) H1
theorem pi_enS {e : Expr} {ta : TA} {p pos tpos : Pos} {elts : List Expr} {kk : Nat} (hg : Gl C "enumerate") (hm : C.mg "enumerate" = none) (ha : PA C [e] ta) (hs : starEach [e] C.env = [(false, eval e C.env)] := by rfl) :
    PI C (.Tuple elts kk tpos) (.Call (.Name "enumerate" p) [e] [] pos) (iEnS ta) := by
  refine ⟨fun pins s σ H R I h => ?_⟩
  refine Call_ (ld_blt I hg hm PyProof.Rows.boot_enumerate (PyProof.Rows.callWith_type1 (thn (ha.run pos pins s σ H _ I h) fun us s1 ⟨vs, H1, I1, r1, q1⟩ => ?_) hs rfl))
  obtain ⟨x, rfl, q⟩ := q1
  obtain ⟨u, rfl, r⟩ := vals1 r1
  obtain ⟨t, rfl⟩ := r
  refine call_enumerate_str fun h' he hit hsz hk => wpAny_pyIter_enum he ?_
  have I2 : Inv C pins σ H1 { s1 with heap := h' } := I1.kept (t' := s1.toks) hk
  refine ⟨s1.heap.objs.size + 1, [s1.heap.objs.size + 1, s1.heap.objs.size], _, _, H1, rfl, I2, turn_enS x t (s1.heap.objs.size + 1) s1.heap.objs.size, ⟨⟨.none, he⟩, hit, Nat.zero_le _, Nat.succ_ne_self _⟩, fun b hb => ?_, q⟩
  have hle : s1.heap.objs.size ≤ b := by
    rcases List.mem_cons.mp hb with rfl | hb
    · exact Nat.le_add_right _ _
    · rw [List.mem_singleton.mp hb]; exact Nat.le_refl _
  exact I1.fpOk hle (I1.hok.fresh hle)
/-- enumerate(a text) -/
def cEnS (c : CE) : CI := fun δ S => (c δ S).bind fun d S1 => match d with
  | .str z => .ok ⟨z.cps.size, fun i _ => some (z.cps[i]?.map fun c => .tup [.int (i : Nat), .str ⟨#[c]⟩])⟩ S1
  | _ => .bad
theorem sim_enS (z : Str) : ISim G ρ H (fun i _ => some (z.cps[i]?.map fun c => Dv.tup [.int (i : Nat), .str ⟨#[c]⟩])) (EnS z) := fun i ρ' S' H' e R => by
  refine ⟨fun d h => ?_, fun h => ?_⟩
  · obtain ⟨c, e1, rfl⟩ := Option.map_eq_some_iff.mp (Option.some.inj h)
    refine ⟨(Array.getElem?_eq_some_iff.mp e1).1, fun x H1 y => ?_⟩
    obtain ⟨T, c', rfl, hT, rfl, e2⟩ := y
    rw [e1] at e2
    cases e2
    exact ⟨.new0 hT, R.new hT, .tup (.inl upd_same) (.cons (.int _) (.cons (.str _) .nil))⟩
  · exact Array.getElem?_eq_none_iff.mp (Option.map_eq_none_iff.mp (Option.some.inj h))
theorem qi_enS {e : Expr} {c : CE} {p pos tpos : Pos} {elts : List Expr} {kk : Nat} (hg : Gl C "enumerate") (hm : C.mg "enumerate" = none) (he : PE C e (tE (gx C ct) E c)) (hs : starEach [e] C.env = [(false, eval e C.env)] := by rfl) :
    PI C (.Tuple elts kk tpos) (.Call (.Name "enumerate" p) [e] [] pos) (tI (gx C ct) E (cEnS c)) :=
  PI.weak (pi_enS hg hm (pa_cons he pa_nil hs) hs) fun σ H R ⟨ρ, δ, S, hR, hF, h⟩ => tE.mk hR hF (Po.bnd h fun d S1 _ ρ1 H1 v e1 R1 rv h1 => by
    cases rv with
    | str z => exact ⟨z, rfl, h1.ret R1 (sim_enS z)⟩
    | _ => exact h1.elim)

/-! ### sorted(a dict with texts as its keys) -/
def keysS : List (Key × Dv) → Option (List Str)
  | [] => some []
  | (.inr x, _) :: r => (keysS r).map (x :: ·)
  | _ => none
def leS (a b : Str) : Bool := !(PySem.Spec.ltCps b.cps.toList a.cps.toList)
theorem leS_iff {a b : Str} : leS a b = true ↔ a.cps.toList ≤ b.cps.toList := by
  unfold leS
  rw [PyProof.Rows.ltCps_eq]
  simp
def sortS (ks : List Str) : List Str := ks.mergeSort leS
theorem rising_pw : ∀ (p : Str) (l : List Str), PyProof.Rows.risingS p l = true → (p :: l).Pairwise fun a b => leS a b = true
  | p, [], _ => by simp
  | p, x :: r, h => by
    have h : (!PySem.Spec.ltCps x.cps.toList p.cps.toList && PyProof.Rows.risingS x r) = true := h
    rw [Bool.and_eq_true] at h
    have ih := rising_pw x r h.2
    refine List.pairwise_cons.mpr ⟨fun y hy => ?_, ih⟩
    have h1 : leS p x = true := h.1
    rcases List.mem_cons.mp hy with rfl | hy
    · exact h1
    · exact leS_iff.mpr (List.le_trans (leS_iff.mp h1) (leS_iff.mp (List.rel_of_pairwise_cons ih hy)))
theorem sorted_pw : ∀ (l : List Str), PyProof.Rows.sortedS l = true → l.Pairwise fun a b => leS a b = true
  | [], _ => .nil
  | x :: r, h => rising_pw x r h
theorem str_ext {a b : Str} (h : a.cps.toList = b.cps.toList) : a = b := by
  cases a; cases b
  simp at h
  rw [h]
theorem sortS_eq {ys ks : List Str} (h : ys.Perm ks) (hs : PyProof.Rows.sortedS ys = true) : ys = sortS ks := by
  have p1 := sorted_pw ys hs
  have p2 : (sortS ks).Pairwise fun a b => leS a b = true := by
    refine List.pairwise_mergeSort (fun a b c h1 h2 => ?_) (fun a b => ?_) ks
    · exact leS_iff.mpr (List.le_trans (leS_iff.mp h1) (leS_iff.mp h2))
    · have := List.le_total a.cps.toList b.cps.toList
      rw [Bool.or_eq_true]
      exact this.imp leS_iff.mpr leS_iff.mpr
  refine List.Perm.eq_of_pairwise (fun a b _ _ h1 h2 => ?_) p1 p2 (h.trans (List.mergeSort_perm _ _).symm)
  exact str_ext (List.le_antisymm (leS_iff.mp h1) (leS_iff.mp h2))
def dictOf (S : Store) (d : Dv) : Option (List (Key × Dv)) := match d with
  | .ref l => dcAt S l
  | _ => none
def bSortD (ds : List Dv) (S : Store) : Res Dv := match ds with
  | [x] => (match (dictOf S x).bind keysS with
    | some ks => if decide (ks.length < 64) then .ok (.ref S.length) (S ++ [.lst ((sortS ks).map Dv.str)]) else .bad
    | none => .bad)
  | _ => .bad
theorem keysS_at : ∀ {kvs : List (Key × Dv)} {ws : List (Key × V)} {ks : List Str}, KVR G ρ H kvs ws → keysS kvs = some ks → ws.map (·.1) = ks.map Sum.inr
  | _, _, _, .nil, e => by cases e; rfl
  | (k, d) :: r, _, _, .cons h hs, e => by
    cases k with
    | inl i => cases e
    | inr x =>
      obtain ⟨zs, e1, rfl⟩ := Option.map_eq_some_iff.mp (show (keysS r).map (x :: ·) = _ from e)
      rw [List.map_cons, List.map_cons, keysS_at hs e1, ← h.1]
def rSortD : List V → Hp → VK → Prop := fun xs H Q => ∃ (a : Addr) (kvs : List (Key × V)) (ks : List Str), xs = [.ref a] ∧ Rd H a (.dK kvs) ∧ kvs.map (·.1) = ks.map Sum.inr ∧ ks.length < 64 ∧
    ∀ ys p, ys.Perm ks → PyProof.Rows.sortedS ys = true → H p = none → Q (.ref p) (upd H p (.lst (ys.map V.str)))
theorem o_sortD : OpL G E rSortD bSortD := by
  intro ρ S H ds vs Q R rs h
  unfold bSortD at h
  split at h
  · rename_i d
    obtain ⟨v, rfl, rv⟩ := rs.one
    cases rv with
    | @ref l a ha =>
      have e0 : dictOf S (.ref l) = dcAt S l := rfl
      rw [e0] at h
      cases e : (dcAt S l).bind keysS with
      | none => rw [e] at h; exact h.elim
      | some ks =>
        rw [e] at h
        dsimp only at h
        obtain ⟨kvs, e1, e2⟩ := Option.bind_eq_some_iff.mp e
        obtain ⟨ws, q, hs⟩ := R.dct (dcAt_iff.mp e1) ha
        by_cases hz : decide (ks.length < 64) = true
        · rw [if_pos hz] at h
          refine ⟨a, ws, ks, rfl, .inl q, keysS_at hs e2, of_decide_eq_true hz, fun ys p hp hsd hn => ?_⟩
          rw [sortS_eq hp hsd]
          exact h.retX (.new hn) (R.alloc hn (.lst (VRs.of_strs _))) (.ref (by rw [← R.len]; simp))
        · rw [if_neg hz] at h; exact h.elim
    | _ => exact h.elim
  · exact h.elim
end
end Sm

namespace Sm
open PySem L2
open PyProof.Rows (IsTup assignInOrder_cons Call_)
/-! ### list(zip(a list, a list)) -/
theorem zip_len0 : typeLookup (.type "zip") "__len__" = pure none := am_miss_of_fast (by decide +kernel)
theorem zip_hint0 : typeLookup (.type "zip") "__length_hint__" = pure none := am_miss_of_fast (by decide +kernel)
theorem sql_more {K : PySem.W.Frag} {H H' : Hp} {a : Addr} {xs : List V} (h : SqL K H a xs) (k : ∀ b u, H b = some u → H' b = some u) : SqL K H' a xs := by
  rcases h with (h | ⟨o, h⟩) | h
  · exact .inl (.inl (k _ _ h))
  · exact .inl (.inr ⟨o, k _ _ h⟩)
  · exact .inr h
/-- the cells of a zip behind i turns, its last pair still out or not -/
def ZipSt (z TI TO i1 i2 l1 l2 L : Addr) (i : Nat) (h : Heap) : Prop :=
  IsPair h TI (.ref i1) (.ref i2) ∧ h.IsListIter i1 l1 i ∧ h.IsListIter i2 l2 i ∧ (∃ oO, h.get? TO = some oO) ∧ ((IsZip h z TI TO .none ∧ ∃ a b, IsPair h TO a b) ∨ ∃ T f oT, IsZipHeld h z TI TO T f ∧ h.get? T = some oT ∧ T ≠ z ∧ T ≠ i1 ∧ T ≠ i2 ∧ T ≠ L)
/-- what is collected -/
def PairsAt (xs ys : List V) (H : Hp) (Ts : List Addr) : Prop := ∀ (j : Nat) (T : Addr), Ts[j]? = some T → ∃ x y, xs[j]? = some x ∧ ys[j]? = some y ∧ H T = some (.tup [x, y])
structure ZipIn (X : Cx) (pins : List (Addr × Obj)) (σ : St) (H0 : Hp) (z TI TO i1 i2 l1 l2 L : Addr) (xs ys : List V) (i : Nat) (s : Shared) (H : Hp) (Ts : List Addr) : Prop where
  inv : Inv X pins σ H s
  old : ∀ b u, H0 b = some u → H b = some u
  lst : H L = some (.lst (Ts.map V.ref))
  len : Ts.length = i
  prs : PairsAt xs ys H Ts
  fp : ∀ b ∈ [z, TI, TO, i1, i2], FpOk X pins H b
  st : ZipSt z TI TO i1 i2 l1 l2 L i s.heap
section
variable {X : Cx} {pins : List (Addr × Obj)} {σ : St} {H0 : Hp} {z TI TO i1 i2 l1 l2 L : Addr} {xs ys : List V} {A : Around} {R : Result → Shared → Prop} {res : Value}
/-- one turn: the next pair, laid behind the others -/
theorem zip_turns (D : ZipApart z TI TO i1 i2 l1 l2) (hA : A.handled = none) (hL0 : H0 L = none) (hx : SqL X.K H0 l1 xs) (hy : SqL X.K H0 l2 ys) : ∀ (m i : Nat) (s : Shared) (H : Hp) (Ts : List Addr), min xs.length ys.length - i = m → i ≤ min xs.length ys.length →
    ZipIn X pins σ H0 z TI TO i1 i2 l1 l2 L xs ys i s H Ts → (∀ s' H' Ts', ZipIn X pins σ H0 z TI TO i1 i2 l1 l2 L xs ys i s H Ts → Inv X pins σ H' s' → (∀ b u, H0 b = some u → H' b = some u) → H' L = some (.lst (Ts'.map V.ref)) → Ts'.length = min xs.length ys.length → PairsAt xs ys H' Ts' → R (.ok (.ret res)) s') →
    codeAny (model X.prog X.w) A (.builtin "list.extend.loop" ⟨[.ref L, .ref z, res], []⟩) R s := by
  intro m
  induction m with
  | zero =>
    intro i s H Ts hm hi Z k
    have hi : i = min xs.length ys.length := by omega
    obtain ⟨qTI, q1, q2, ⟨oO, qO0⟩, qz⟩ := id Z.st
    obtain ⟨u1, rv1, p1, _⟩ := Z.inv.list (sql_more hx Z.old)
    obtain ⟨u2, rv2, p2, _⟩ := Z.inv.list (sql_more hy Z.old)
    have n1 := rv1.length
    have n2 := rv2.length
    have stop : u1.toArray[i]? = none ∨ u2.toArray[i]? = none := by
      rcases Nat.le_total xs.length ys.length with h | h
      · exact .inl (by simp; omega)
      · exact .inr (by simp; omega)
    refine codeAny_builtin F.entry_extend_loop ?_
    rw [Around.under_plainId F.plain_extend_loop _]
    show wpAny _ A.in1 (pyNext (.ref z) >>= _) _ _ s
    have fin : ∀ h' : Heap, (∀ c o, c ≠ z → c ≠ TO → c ≠ i1 → c ≠ i2 → s.heap.get? c = some o → h'.get? c = some o) → R (.ok (.ret res)) { s with heap := h' } := fun h' hk =>
      k _ H Ts Z (Z.inv.turnedL (t' := s.toks) (ch := [z, TI, TO, i1, i2]) (fun c o hc q => hk c o (fun e => hc (by simp [e])) (fun e => hc (by simp [e])) (fun e => hc (by simp [e])) (fun e => hc (by simp [e])) q) Z.fp) Z.old Z.lst (Z.len.trans hi) Z.prs
    rcases qz with ⟨qz, a, b, qO⟩ | ⟨T, f, oT, qz, hT, t1, t2, t3, t4⟩
    · exact wpAny_bind (wpAny_pyNext_zip_end (A := A.in1) hA D qz qTI qO q1 q2 p1.isList p2.isList stop fun h' hk => wpAny_pure (fin h' fun c o c1 c2 c3 c4 => hk c o c1 c2 c3 c4))
    · exact wpAny_bind (wpAny_pyNext_zip_end_held (A := A.in1) hA D qz hT qTI q1 q2 p1.isList p2.isList stop fun h' hk => wpAny_pure (fin h' fun c o c1 _ c3 c4 => hk c o c1 c3 c4))
  | succ m ih =>
    intro i s H Ts hm hi Z k
    have hi1 : i < xs.length := by omega
    have hi2 : i < ys.length := by omega
    obtain ⟨qTI, q1, q2, ⟨oO, qO0⟩, qz⟩ := id Z.st
    obtain ⟨u1, rv1, p1, _⟩ := Z.inv.list (sql_more hx Z.old)
    obtain ⟨u2, rv2, p2, _⟩ := Z.inv.list (sql_more hy Z.old)
    obtain ⟨v1, e1, r1⟩ := rv1.get (List.getElem?_eq_getElem hi1)
    obtain ⟨v2, e2, r2⟩ := rv2.get (List.getElem?_eq_getElem hi2)
    refine codeAny_builtin F.entry_extend_loop ?_
    rw [Around.under_plainId F.plain_extend_loop _]
    show wpAny _ A.in1 (pyNext (.ref z) >>= _) _ _ s
    -- behind either kind of turn
    have next : ∀ h' : Heap, IsPair h' s.heap.objs.size v1 v2 → IsPair h' TI (.ref i1) (.ref i2) → h'.IsListIter i1 l1 (i + 1) → h'.IsListIter i2 l2 (i + 1) → (∃ oO, h'.get? TO = some oO) →
        ((IsZip h' z TI TO .none ∧ ∃ a b, IsPair h' TO a b) ∨ ∃ T f oT, IsZipHeld h' z TI TO T f ∧ h'.get? T = some oT ∧ T ≠ z ∧ T ≠ i1 ∧ T ≠ i2 ∧ T ≠ L) → (∀ c o, c ≠ z → c ≠ TO → c ≠ i1 → c ≠ i2 → s.heap.get? c = some o → h'.get? c = some o) →
        wpAny (model X.prog X.w) A.in1 (updateSeq L (·.push (.ref s.heap.objs.size)) >>= fun _ => (again (.builtin "list.extend.loop" ⟨[.ref L, .ref z, res], []⟩) : Sem Fin)) (fun fin s' => match fin with | .done f => R (.ok f) s' | .again c' => c'.quiet = true ∧ codeAny (model X.prog X.w) A c' R s') (fun e s' => R (.error e) s') { s with heap := h' } := by
      intro h' hP hTI h1 h2 ⟨oO', hO'⟩ hz hk
      have fr := Z.inv.hok.fresh (Nat.le_refl s.heap.objs.size)
      have new : ObjOk X.prog X.w (upd H s.heap.objs.size (.tup [xs[i], ys[i]])) h' s.heap.objs.size (.tup [xs[i], ys[i]]) := ⟨by show 2 ≤ sizeLine; decide, [v1, v2], .cons r1 (.cons r2 .nil), ⟨_, hP, rfl, _, rfl⟩⟩
      have I1 : Inv X pins σ (upd H s.heap.objs.size (.tup [xs[i], ys[i]])) { s with heap := h' } := Z.inv.turnedNew (t' := s.toks) (ch := [z, TI, TO, i1, i2])
        (fun c o hc q => hk c o (fun e => hc (by simp [e])) (fun e => hc (by simp [e])) (fun e => hc (by simp [e])) (fun e => hc (by simp [e])) q) Z.fp (Nat.le_refl _) new
      have nL : L ≠ s.heap.objs.size := ne_of_none Z.lst fr
      have hL1 : upd H s.heap.objs.size (.tup [xs[i], ys[i]]) L = some (.lst (Ts.map V.ref)) := by rw [upd_ne nL]; exact Z.lst
      obtain ⟨hz2, its, n, rv, _, ho⟩ := I1.lstM hL1
      have ntI : its.length = i := by have := rv.length; rw [List.length_map, Z.len] at this; exact this.symm
      have bound : i + 1 ≤ sizeLine := by
        obtain ⟨_, _, _, b⟩ := Z.inv.list (sql_more hx Z.old)
        omega
      have hvs : Vals ((Ts ++ [s.heap.objs.size]).map V.ref) (its ++ [.ref s.heap.objs.size]) := by
        rw [List.map_append]
        exact rv.append (.cons rfl .nil)
      have hlen : ((Ts ++ [s.heap.objs.size]).map V.ref).length ≤ sizeLine := by rw [List.length_map, List.length_append, Z.len, List.length_singleton]; exact bound
      have I2 := I1.lset (t' := s.toks) (f := fun v => v.push (.ref s.heap.objs.size)) hL1 ho (show its.toArray.push _ = (its ++ [_]).toArray by simp) hvs hlen
      have nz : ∀ b ∈ [z, TI, TO, i1, i2], b ≠ L := fun b hb e => by
        have := (Z.fp b hb).1
        rw [e, Z.lst] at this
        cases this
      have old : ∀ b o, b ≠ L → h'.get? b = some o → (h'.update L (Obj.mapSeq fun v => v.push (.ref s.heap.objs.size))).get? b = some o := fun b o hb q => (Heap.get?_update_other _ _ (Ne.symm hb)).trans q
      refine wpAny_bind (wpAny_updateSeq ho rfl (wpAny_pure ⟨plainId_quiet F.plain_extend_loop _, ih (i + 1) _ _ (Ts ++ [s.heap.objs.size]) (by omega) (by omega) ⟨I2, fun b u q => ?_, upd_same, by rw [List.length_append, Z.len]; rfl, fun j T hj => ?_, fun b hb => ?_, ?_⟩
        fun s' H' Ts' _ => k s' H' Ts' Z⟩) (by simp; omega) (by simp; omega))
      · rw [upd_ne (ne_of_none q hL0), upd_ne (ne_of_none (Z.old b u q) fr)]
        exact Z.old b u q
      · by_cases hlt : j < Ts.length
        · rw [List.getElem?_append_left hlt] at hj
          obtain ⟨x, y, ex, ey, q⟩ := Z.prs j T hj
          refine ⟨x, y, ex, ey, ?_⟩
          rw [upd_ne (ne_of q Z.lst (fun e => by cases e)), upd_ne (ne_of_none q fr)]
          exact q
        · have hj2 : j = Ts.length := by
            have := (List.getElem?_eq_some_iff.mp hj).1
            rw [List.length_append, List.length_singleton] at this
            omega
          subst hj2
          rw [List.getElem?_append_right (Nat.le_refl _), Nat.sub_self] at hj
          cases hj
          refine ⟨xs[i], ys[i], by rw [Z.len]; exact List.getElem?_eq_getElem hi1, by rw [Z.len]; exact List.getElem?_eq_getElem hi2, ?_⟩
          rw [upd_ne (Ne.symm nL), upd_same]
      · obtain ⟨g0, g⟩ := Z.fp b hb
        refine ⟨?_, g⟩
        rw [upd_ne (nz b hb), upd_ne (fun e => ?_)]
        · exact g0
        · obtain ⟨oz, ez⟩ : ∃ o, s.heap.get? b = some o := by
            rcases List.mem_cons.mp hb with rfl | hb
            · rcases qz with ⟨qz, _⟩ | ⟨_, _, _, qz, _⟩
              · exact ⟨_, qz⟩
              · exact ⟨_, qz⟩
            · rcases List.mem_cons.mp hb with rfl | hb
              · exact ⟨_, qTI⟩
              · rcases List.mem_cons.mp hb with rfl | hb
                · exact ⟨_, qO0⟩
                · rcases List.mem_cons.mp hb with rfl | hb
                  · exact ⟨_, q1.choose_spec.1⟩
                  · rw [List.mem_singleton.mp hb]; exact ⟨_, q2.choose_spec.1⟩
          exact absurd (Heap.lt_size ez) (by rw [e]; exact Nat.lt_irrefl _)
      · have zL := nz z (by simp)
        have TIL := nz TI (by simp)
        have TOL := nz TO (by simp)
        have i1L := nz i1 (by simp)
        have i2L := nz i2 (by simp)
        refine ⟨old _ _ TIL hTI, h1.at fun o q => old _ o i1L q, h2.at fun o q => old _ o i2L q, ⟨_, old _ _ TOL hO'⟩, ?_⟩
        rcases hz with ⟨hz, a, b, hO⟩ | ⟨T, f, oT, hz, hT, t1, t2, t3, t4⟩
        · exact .inl ⟨old _ _ zL hz, a, b, old _ _ TOL hO⟩
        · exact .inr ⟨T, f, oT, old _ _ zL hz, old _ _ t4 hT, t1, t2, t3, t4⟩
    have lt : ∀ {c o}, s.heap.get? c = some o → s.heap.objs.size ≠ c := fun e => Nat.ne_of_gt (Heap.lt_size e)
    have k1 : s.heap.objs.size ≠ i1 := let ⟨_, e, _⟩ := q1; lt e
    have k2 : s.heap.objs.size ≠ i2 := let ⟨_, e, _⟩ := q2; lt e
    have kL : s.heap.objs.size ≠ L := Ne.symm (ne_of_none Z.lst (Z.inv.hok.fresh (Nat.le_refl s.heap.objs.size)))
    rcases qz with ⟨qz, a, b, qO⟩ | ⟨T, f, oT, qz, hT, t1, t2, t3, t4⟩
    · refine wpAny_bind (wpAny_pyNext_zip_item (A := A.in1) D qz qTI qO q1 q2 p1.isList p2.isList (x := v1) (y := v2) (by simpa using e1) (by simpa using e2) fun h' a1 a2 a3 a4 a5 a6 hk => ?_)
      exact next h' a5 (hk _ _ D.TIz D.TITO D.TIi1 D.TIi2 qTI) a3 a4 ⟨_, a2⟩ (.inr ⟨s.heap.objs.size, false, _, a1, a5, lt qz, k1, k2, kL⟩) hk
    · refine wpAny_bind (wpAny_pyNext_zip_item_held (A := A.in1) D qz hT qTI q1 q2 p1.isList p2.isList (x := v1) (y := v2) (by simpa using e1) (by simpa using e2) fun h' a1 a3 a4 a5 a6 hk => ?_)
      exact next h' a5 (hk _ _ D.TIz D.TIi1 D.TIi2 qTI) a3 a4 ⟨_, hk _ _ D.TOz D.TOi1 D.TOi2 qO0⟩ (.inr ⟨T, true, oT, a1, hk _ _ t1 t2 t3 hT, t1, t2, t3, t4⟩) fun c o c1 _ c3 c4 => hk c o c1 c3 c4
/-- list(zip(l1, l2)): the pairs in a new list -/
theorem zip_list {s : Shared} {H : Hp} {EE : Value → Shared → Prop} {Q : Value → Shared → Prop} {t1 t2 : List Value} (hA : A.handled = none) (I : Inv X pins σ H s) (hx : SqL X.K H l1 xs) (hy : SqL X.K H l2 ys)
    (k : ∀ L s' H' Ts, Inv X pins σ H' s' → (∀ b u, H b = some u → H' b = some u) → H L = none → H' L = some (.lst (Ts.map V.ref)) → Ts.length = min xs.length ys.length → PairsAt xs ys H' Ts → Q (.ref L) s') :
    wpAny (model X.prog X.w) A (call (.type "zip") [.ref l1, .ref l2]) (fun v s1 => wpAny (model X.prog X.w) A (call (.type "list") [v]) Q EE s1) EE s := by
  obtain ⟨u1, rv1, p1, _⟩ := I.list hx
  obtain ⟨u2, rv2, p2, _⟩ := I.list hy
  refine call_zip_2 p1.isList p2.isList fun h1 qz qTI qTO q1 q2 hsz hk => ?_
  have I1 : Inv X pins σ H { s with heap := h1 } := I.kept (t' := s.toks) hk
  have D := PySem.W.ktu_apart s.heap.objs.size l1 l2 p1.lt p2.lt
  generalize ez : s.heap.objs.size + 4 = z at *
  generalize eTI : s.heap.objs.size + 2 = TI at *
  generalize eTO : s.heap.objs.size + 3 = TO at *
  generalize e2 : s.heap.objs.size + 1 = i2 at *
  generalize e1 : s.heap.objs.size = i1 at *
  have low : ∀ b ∈ [z, TI, TO, i1, i2], i1 ≤ b ∧ b < h1.objs.size := fun b hb => by
    simp only [List.mem_cons, List.not_mem_nil, or_false] at hb
    rcases hb with rfl | rfl | rfl | rfl | rfl
    · exact ⟨by rw [← ez]; exact Nat.le_add_right _ _, Heap.lt_size qz⟩
    · exact ⟨by rw [← eTI]; exact Nat.le_add_right _ _, Heap.lt_size qTI⟩
    · exact ⟨by rw [← eTO]; exact Nat.le_add_right _ _, Heap.lt_size qTO⟩
    · obtain ⟨_, q, _⟩ := q1; exact ⟨Nat.le_refl _, Heap.lt_size q⟩
    · obtain ⟨_, q, _⟩ := q2; exact ⟨by rw [← e2]; exact Nat.le_add_right _ _, Heap.lt_size q⟩
  refine callType_codes (Q₁ := fun obj s₁ => obj = .ref h1.objs.size ∧ s₁ = { s with heap := h1.push { cls := .type "list", data := .seq #[] } }) F.called_list (F.typeCall_list_1 _) F.entry_list_init (code_list_new (s := { s with heap := h1 }) _ ⟨rfl, rfl⟩) fun obj s₁ h₁ => ?_
  obtain ⟨rfl, rfl⟩ := h₁
  generalize eL : h1.objs.size = L at *
  have fr : H L = none := I1.hok.fresh (show h1.objs.size ≤ L by rw [eL]; exact Nat.le_refl _)
  have hS : (h1.push { cls := .type "list", data := .seq #[] }).get? L = some { cls := .type "list", data := .seq #[] } := by rw [← eL]; exact Heap.get?_push_size _ rfl
  have up : ∀ b o, h1.get? b = some o → (h1.push { cls := .type "list", data := .seq #[] }).get? b = some o := fun b o q => Heap.get?_push_of_some _ q
  have nL : ∀ b ∈ [z, TI, TO, i1, i2], b ≠ L := fun b hb => Nat.ne_of_lt (low b hb).2
  refine ⟨⟨_, hS, rfl⟩, F.args_list_init_2 _ _, ?_⟩
  show wpAny _ A.in1.in1 (do let was ← Builtin.List.listItems (.ref L); Builtin.List.listUpdate (.ref L) (fun _ => #[]); letGo was.toList.reverse; Builtin.List.listExtendWith (.ref L) (.ref z) .none) _ _ _
  refine wpAny_bind ?_
  unfold Builtin.List.listItems
  refine wpAny_bind (wpAny_seqItems hS rfl (wpAny_pure ?_))
  show wpAny _ A.in1.in1 (updateSeq L (fun _ => #[]) >>= fun _ => letGo (#[] : Array Value).toList.reverse >>= fun _ => Builtin.List.listExtendWith (.ref L) (.ref z) .none) _ _ _
  refine wpAny_bind (wpAny_updateSeq hS rfl ?_)
  have g2 := Heap.get?_update_self (Obj.mapSeq (fun _ => (#[] : Array Value))) hS rfl
  have up2 : ∀ b o, h1.get? b = some o → ((h1.push { cls := .type "list", data := .seq #[] }).update L (Obj.mapSeq (fun _ => (#[] : Array Value)))).get? b = some o :=
    fun b o q => (Heap.get?_update_other _ _ (Ne.symm (by rw [← eL]; exact Nat.ne_of_lt (Heap.lt_size q)))).trans (up b o q)
  refine wpAny_bind (wpAny_letGo ?_)
  generalize eh2 : (h1.push { cls := .type "list", data := .seq #[] }).update L (Obj.mapSeq (fun _ => (#[] : Array Value))) = h2 at *
  have qz2 : IsZip h2 z TI TO .none := up2 _ _ qz
  unfold Builtin.List.listExtendWith
  refine wpAny_bind (wpAny_typeOf (T := "zip") ⟨_, qz2, rfl⟩ ?_)
  have c1 : Builtin.List.listSameRef (.ref L) (.ref z) = false := by
    have := nL z (by simp)
    simp [Builtin.List.listSameRef, Ne.symm this]
  have c2 : (Value.type "zip" == Value.type "list") = false := by decide
  have c3 : (Value.type "zip" == Value.type "tuple") = false := by decide
  simp only [c1, c2, c3, Bool.or_false, Bool.false_eq_true, if_false]
  refine wpAny_bind (wpAny_pyIter_zip qz2 ?_)
  refine wpAny_bind (wpAny_holding ?_)
  unfold Builtin.List.listLengthHint
  refine wpAny_bind (wpAny_specialOf (T := "zip") ⟨_, qz2, rfl⟩ zip_len0 ?_)
  show wpAny _ A.in1.in1 (specialOf (Value.ref z) (Str.ofString "__length_hint__") >>= _) _ _ _
  refine wpAny_bind (wpAny_specialOf (T := "zip") ⟨_, qz2, rfl⟩ zip_hint0 ?_)
  refine wpAny_pure ?_
  show wpAny _ A.in1.in1 (rule "list.extend.makes-room" >>= fun _ => Builtin.List.listTouch (.ref L) >>= fun _ =>
    again (.builtin "list.extend.loop" ⟨[.ref L, .ref z, .none], []⟩)) _ _ _
  refine wpAny_bind (wpAny_rule ?_)
  refine wpAny_bind ?_
  show wpAny _ A.in1.in1 (updateSeq L (·.push .none) >>= fun _ => updateSeq L (·.pop)) _ _ _
  refine wpAny_bind (wpAny_updateSeq g2 rfl ?_)
  have g3 := Heap.get?_update_self (Obj.mapSeq (·.push Value.none)) g2 rfl
  refine wpAny_updateSeq (hz := by seq_fits) g3 rfl ?_
  have g4 := Heap.get?_update_self (Obj.mapSeq (·.pop)) g3 rfl
  have up4 : ∀ b o, h1.get? b = some o → ((h2.update L (Obj.mapSeq (·.push Value.none))).update L (Obj.mapSeq (·.pop))).get? b = some o := fun b o q => by
    have n : L ≠ b := Ne.symm (by rw [← eL]; exact Nat.ne_of_lt (Heap.lt_size q))
    exact (Heap.get?_update_other _ _ n).trans ((Heap.get?_update_other _ _ n).trans (up2 b o q))
  generalize (h2.update L (Obj.mapSeq (·.push Value.none))).update L (Obj.mapSeq (·.pop)) = h4 at *
  have I4 : Inv X pins σ (upd H L (.lst [])) { s with heap := h4 } := I1.laid (t' := s.toks) up4 (show h1.objs.size ≤ L by rw [eL]; exact Nat.le_refl _) ⟨Nat.zero_le _, [], _, .nil, g4⟩
  refine wpAny_pure ⟨plainId_quiet F.plain_extend_loop _, zip_turns (X := X) (pins := pins) (σ := σ) (H0 := H) D (show A.in1.handled = none from hA) fr hx hy _ 0 _ (upd H L (.lst [])) [] rfl (Nat.zero_le _)
    ⟨I4, fun b u q => by rw [upd_ne (ne_of_none q fr)]; exact q, upd_same, rfl, fun j T hj => (by simp at hj), fun b hb => ?_, up4 _ _ qTI, q1.at fun o q => up4 _ _ q, q2.at fun o q => up4 _ _ q, ⟨_, up4 _ _ qTO⟩, .inl ⟨up4 _ _ qz, _, _, up4 _ _ qTO⟩⟩ fun s' H' Ts' _ I' o' l' n' p' => ⟨rfl, k L s' H' Ts' I' o' fr l' n' p'⟩⟩
  have hle : s.heap.objs.size ≤ b := by rw [e1]; exact (low b hb).1
  have q := I.fpOk (H' := H) hle (I.hok.fresh hle)
  refine ⟨?_, q.2⟩
  rw [upd_ne (nL b hb)]
  exact q.1
end
section
variable {C : Cx} {ct : Nat → Addr} {E : XK} {G : Gx} {ρ : List Addr} {H : Hp} {σ : St} {δ : Env'} {S : Store}
def tLZip (K : PySem.W.Frag) (ta : TA) : TE := fun σ H Q => ta σ H fun vs H1 => ∃ a b xs ys, vs = [.ref a, .ref b] ∧ SqL K H1 a xs ∧ SqL K H1 b ys ∧
  ∀ L H2 Ts, (∀ d u, H1 d = some u → H2 d = some u) → H1 L = none → H2 L = some (.lst (Ts.map V.ref)) → Ts.length = min xs.length ys.length → PairsAt xs ys H2 Ts → Q (.ref L) H2
theorem pe_lzip {a b : Expr} {ta : TA} {p p2 q pos : Pos} (hg : Gl C "list") (hm : C.mg "list" = none) (hg2 : Gl C "zip") (hm2 : C.mg "zip" = none) (hc : C.calm = true) (ha : PA C [a, b] ta)
    (hs : starEach [a, b] C.env = (false, eval a C.env) :: starEach [b] C.env := by rfl) (hpl : (backTo q (starEach [b] C.env)).any (·.1) = false := by rfl) : PE C (.Call (.Name "list" p) [.Call (.Name "zip" p2) [a, b] [] q] [] pos) (tLZip C.K ta) := by
  refine ⟨fun pins s σ H Q I h => ?_⟩
  refine Call_ (ld_blt I hg hm PyProof.Rows.boot_list (PyProof.Rows.callWith_type1 (PyProof.Rows.args_cons ?_ rfl) rfl rfl))
  refine Call_ (ld_blt I hg2 hm2 PyProof.Rows.boot_zip (PyProof.Rows.callWith_type1 (thn (ha.run q pins s σ H _ I h) fun us s1 ⟨vs, H1, I1, r1, q1⟩ => ?_) hs hpl))
  obtain ⟨l1, l2, xs, ys, rfl, hx, hy, k⟩ := q1
  cases r1 with
  | cons r1 r2 => cases r2 with
    | cons r2 r3 =>
      cases r1
      cases r2
      cases r3
      refine wpAny_mono (zip_list (t1 := []) (t2 := []) (EE := C.xe) (Q := EP C pins σ Q) (I1.ok.hd hc) I1 hx hy fun L s' H' Ts I' o n l len prs => ⟨.ref L, H', I', rfl, k L H' Ts o n l len prs⟩) (fun v s2 g => PyProof.Rows.args_nil g) fun _ _ g => g
/-- all that stood stays, and at L lies what is new -/
theorem RH.join {L : Addr} {u : HO} {o : Ob} {H' : Hp} (R : RH G ρ S H) (k : ∀ d u, H d = some u → H' d = some u) (n : H L = none) (e : H' L = some u) (r : OR G ρ H' o u) : Ext ρ H (ρ ++ [L]) H' ∧ RH G (ρ ++ [L]) (S ++ [o]) H' := by
  have ex : Ext ρ H (ρ ++ [L]) H' := ⟨⟨_, rfl⟩, fun a xs q => k _ _ q, fun a o xs q => k _ _ q⟩
  have ex2 : Ext ρ H' (ρ ++ [L]) H' := ⟨⟨_, rfl⟩, fun a xs q => q, fun a o xs q => q⟩
  refine ⟨ex, by simp [R.len], ?_, fun l o' hl => ?_⟩
  · rw [List.nodup_append]
    refine ⟨R.nd, by simp, fun x hx y hy z => ?_⟩
    rw [List.mem_singleton] at hy
    subst hy
    subst z
    obtain ⟨w, q⟩ := R.tracked hx
    rw [n] at q; cases q
  · by_cases hlt : l < S.length
    · rw [List.getElem?_append_left hlt] at hl
      obtain ⟨b, w, q1, q2, q3⟩ := R.obj l o' hl
      exact ⟨b, w, ex.at q1, k _ _ q2, q3.mono ex⟩
    · have hl2 : l = S.length := by
        have := (List.getElem?_eq_some_iff.mp hl).1
        rw [List.length_append, List.length_singleton] at this
        omega
      subst hl2
      rw [List.getElem?_append_right (Nat.le_refl _), Nat.sub_self] at hl
      cases hl
      refine ⟨L, u, ?_, e, r.mono ex2⟩
      rw [List.getElem?_append_right (by rw [R.len]; exact Nat.le_refl _), R.len, Nat.sub_self]
      rfl
def zipD (xs ys : List Dv) : List Dv := List.zipWith (fun x y => .tup [x, y]) xs ys
theorem prs_rel : ∀ {ds es : List Dv} {xs ys : List V} {Ts : List Addr}, VRs G ρ H ds xs → VRs G ρ H es ys → Ts.length = min xs.length ys.length → PairsAt xs ys H Ts → VRs G ρ H (zipD ds es) (Ts.map V.ref)
  | [], _, _, _, Ts, .nil, _, l, _ => by
    have : Ts = [] := List.eq_nil_of_length_eq_zero (by simpa using l)
    subst this
    exact .nil
  | d :: ds, [], _, _, Ts, .cons _ _, .nil, l, _ => by
    have : Ts = [] := List.eq_nil_of_length_eq_zero (by simpa using l)
    subst this
    exact .nil
  | d :: ds, e :: es, x :: xs, y :: ys, [], .cons _ _, .cons _ _, l, _ => by simp at l
  | d :: ds, e :: es, x :: xs, y :: ys, T :: Ts, .cons r1 s1, .cons r2 s2, l, p => by
    obtain ⟨x', y', ex, ey, q⟩ := p 0 T rfl
    cases ex
    cases ey
    refine .cons (.tup (.inl q) (.cons r1 (.cons r2 .nil))) (prs_rel s1 s2 (by simp at l; omega) fun j T' hj => ?_)
    have := p (j + 1) T' (by simpa using hj)
    simpa using this
def cLZip (a : CA) : CE := fun δ S => (a δ S).bind fun ds S1 => match ds with
  | [x, y] => (match lstOf S1 x, lstOf S1 y with
    | some xs, some ys => .ok (.ref S1.length) (S1 ++ [.lst (zipD xs ys)])
    | _, _ => .bad)
  | _ => .bad
theorem q_lzip {a b : Expr} {ca : CA} {p p2 q pos : Pos} (hg : Gl C "list") (hm : C.mg "list" = none) (hg2 : Gl C "zip") (hm2 : C.mg "zip" = none) (hc : C.calm = true) (ha : PA C [a, b] (tA (gx C ct) E ca))
    (hs : starEach [a, b] C.env = (false, eval a C.env) :: starEach [b] C.env := by rfl) (hpl : (backTo q (starEach [b] C.env)).any (·.1) = false := by rfl) : PE C (.Call (.Name "list" p) [.Call (.Name "zip" p2) [a, b] [] q] [] pos) (tE (gx C ct) E (cLZip ca)) :=
  PE.weak (pe_lzip hg hm hg2 hm2 hc ha hs hpl) fun σ H Q ⟨ρ, δ, S, hR, hF, h⟩ => tA.mk hR hF (Po.bnd h fun ds S1 _ ρ1 H1 vs e1 R1 rs h1 => by
    split at h1
    · rename_i x y
      obtain ⟨v, u, rfl, rx, ry⟩ := rs.two
      split at h1
      · rename_i xs ys e1 e2
        obtain ⟨l1, vs, rfl, q1, s1⟩ := lst_at R1 rx e1
        obtain ⟨l2, us, rfl, q2, s2⟩ := lst_at R1 ry e2
        refine ⟨l1, l2, vs, us, rfl, q1, q2, fun L H2 Ts k n e len prs => ?_⟩
        have ex : Ext ρ1 H1 ρ1 H2 := ⟨⟨[], by simp⟩, fun a xs q => k _ _ q, fun a o xs q => k _ _ q⟩
        obtain ⟨x1, R2⟩ := R1.join k n e (.lst (prs_rel (s1.mono ex) (s2.mono ex) len prs))
        exact h1.retX x1 R2 (.ref (by rw [← R1.len]; simp))
      · exact h1.elim
    · exact h1.elim)
end
end Sm

namespace Sm
open PySem L2
section
variable {C : Cx} {ct : Nat → Addr} {E : XK} {G : Gx} {ρ : List Addr} {H : Hp} {σ : St} {δ : Env'} {S : Store}
theorem qv (i : Nat) {x : Str} {pos : Pos} (hN : C.N[i]? = some x := by rfl) (hv : Vis C.env.scope x := by first | exact Or.inl rfl | exact Or.inr (Or.inl rfl) | exact Or.inr (Or.inr rfl)) (hd : (x == ("__debug__" : Str)) = false := by decide)
    (hcd : (x == ("__classdict__" : Str)) = false := by decide) : PE C (.Name x pos) (tE (gx C ct) E (cVar i)) := q_var hN hv hd hcd
theorem gv (i : Nat) {x : Str} {pos : Pos} {own : List Nat} (hN : C.N.Nodup) (hi : C.N[i]? = some x := by rfl) (hx : Loc C.env.scope x := by first | exact Or.inl rfl | exact Or.inr rfl) (ho : i ∈ own := by decide)
    (hf : C.fn x = true ∨ C.env.scope.names.lookup x = some .local := by first | exact .inr rfl | exact .inl rfl) : PG C (.Name x pos) (tG (gx C ct) E own (gN i)) := qg_name hN hi hx ho hf
theorem sv (i : Nat) {x : Str} {e : Expr} {c : CE} {pos pos' : Pos} (hN : C.N.Nodup) (he : PE C e (tE (gx C ct) E c)) (hi : C.N[i]? = some x := by rfl) (hx : Loc C.env.scope x := by first | exact Or.inl rfl | exact Or.inr rfl) (hs : swapsWith e (some (.Name x pos')) pos.line C.env = pure false := by rfl)
    (hf : C.fn x = true ∨ C.env.scope.names.lookup x = some .local := by first | exact .inr rfl | exact .inl rfl) : PS C (.Assign [.Name x pos'] e pos) (tS (gx C ct) E (cSet i c)) := q_set hN hi hx he hs hf
theorem u1 {k : Nat} {A : Around} (r : Room k A) : A.units + 1 < cLine := by have := r.units; omega
/-- - a number -/
def cNeg (c : CE) : CE := fun δ S => (c δ S).bind fun d S1 => match d with
  | .int i => .ok (.int (-i)) S1
  | _ => .bad
theorem q_neg {a : Expr} {c : CE} {pos : Pos} (ha : PE C a (tE (gx C ct) E c)) : PE C (.UnaryOp .USub a pos) (tE (gx C ct) E (cNeg c)) :=
  PE.weak (pe_un un_neg ha) fun σ H Q ⟨ρ, δ, S, hR, hF, h⟩ => tE.mk hR hF (Po.bnd h fun d S1 _ ρ1 H1 v e1 R1 rv h1 => by
    cases rv with
    | int i => exact ⟨i, rfl, h1.ret R1 (.int _)⟩
    | _ => exact h1.elim)
end
/-- what is known of the defs of a program -/
structure Defs (Fn : Type) (K : PySem.W.Frag) (mg : Str → Option Value) (nm : Fn → Str) (st : Fn → Stmt) (ps : Fn → List Str) (ad : Fn → Addr) (fd : Fn → FuncData) (zs : List Str) : Prop where
  F : ∀ f, Fun K (nm f) (nm f) (st f) (ad f) (fd f)
  m : ∀ f, mg (nm f) = some (.ref (ad f))
  b : ∀ f, Binds K (fd f) (ps f) []
  z : ∀ x ∈ zs, mg x = none
/-- a call at level n: nothing can be asked at level 0 -/
abbrev Tab (Fn : Type) := Fn → List Dv → Store → Res Dv
theorem none_left {P : Program} {w : World} {K : PySem.W.Frag} {mg : Str → Option Value} {base : Heap} {CX : CXT} {f : Addr} {fd : FuncData} {ps : List Str} {G : Gx} {np : Nat} : FnOk P w K mg base CX 0 f fd ps (spOf G (fun _ _ => .bad) np) := by
  have no : ∀ vs H Q E, ¬ spOf G (fun _ _ => .bad) np vs H Q E := fun vs H Q E h => by
    obtain ⟨_, ρ, S, ds, _, _, h⟩ := h
    exact h
  exact ⟨fun vs H Q E h => absurd h (no vs H Q E), fun A outer s H args us vs Q E _ _ _ _ h => absurd h (no vs H Q E)⟩
end Sm

/-! what a run of combinators answers: it comes to an end with Q -/
namespace Sm
open PySem L2
def Ok {α : Type} (r : Res α) (Q : α → Store → Prop) : Prop := match r with
  | .ok a S => Q a S
  | _ => False
section
variable {α β : Type} {δ : Env'} {S : Store} {E : Env'}
theorem Ok.imp {r : Res α} {P Q : α → Store → Prop} (h : Ok r P) (k : ∀ a S, P a S → Q a S) : Ok r Q := by
  cases r with
  | ok a S => exact k a S h
  | ex e S => exact h
  | bad => exact h
theorem Ok.bind {r : Res α} {f : α → Store → Res β} {Q : β → Store → Prop} (h : Ok r fun a S => Ok (f a S) Q) : Ok (r.bind f) Q := by
  cases r with
  | ok a S => exact h
  | ex e S => exact h
  | bad => exact h
theorem Ok.get {r : Res α} {Q : α → Store → Prop} (h : Ok r Q) : ∃ a S, r = .ok a S ∧ Q a S := by
  cases r with
  | ok a S => exact ⟨a, S, rfl, h⟩
  | ex e S => exact h.elim
  | bad => exact h.elim
theorem Ok.of {a : α} {Q : α → Store → Prop} (h : Q a S) : Ok (.ok a S) Q := h
theorem Ok.and {r : Res α} {P Q : α → Store → Prop} (h : Ok r P) (k : Ok r Q) : Ok r fun a S => P a S ∧ Q a S := by
  cases r with
  | ok a S => exact ⟨h, k⟩
  | ex e S => exact h
  | bad => exact h
/-! ### expressions -/
variable {Q : Dv → Store → Prop} {QB : Bool → Store → Prop} {QA : List Dv → Store → Prop} {QF : Fl → Store → Prop} {QE : Env' → Store → Prop}
theorem k_var {i : Nat} {d : Dv} (h : δ[i]? = some (some d)) (q : Q d S) : Ok (cVar i δ S) Q := by
  unfold cVar; rw [h]; exact q
theorem k_c {d : Dv} (q : Q d S) : Ok (cC d δ S) Q := q
theorem k_nil (q : QA [] S) : Ok (cNil δ S) QA := q
theorem k_cons {c : CE} {a : CA} (h : Ok (c δ S) fun d S1 => Ok (a δ S1) fun ds S2 => QA (d :: ds) S2) : Ok (cCons c a δ S) QA := Ok.bind (h.imp fun d S1 h => Ok.bind h)
theorem k_tup {a : CA} (h : Ok (a δ S) fun ds S1 => few ds = true ∧ Q (.tup ds) S1) : Ok (cTup a δ S) Q := Ok.bind (h.imp fun d S1 h => by rw [if_pos h.1]; exact h.2)
theorem k_lst {a : CA} (h : Ok (a δ S) fun ds S1 => few ds = true ∧ Q (.ref S1.length) (S1 ++ [.lst ds])) : Ok (cLst a δ S) Q := Ok.bind (h.imp fun d S1 h => by rw [if_pos h.1]; exact h.2)
theorem k_bin {f : Dv → Dv → Store → Res Dv} {a b : CE} (h : Ok (a δ S) fun x S1 => Ok (b δ S1) fun y S2 => Ok (f x y S2) Q) : Ok (cBin f a b δ S) Q := Ok.bind (h.imp fun d S1 h => Ok.bind h)
theorem k_tst {c : CE} (h : Ok (c δ S) fun d S1 => ∃ b, d = .bl b ∧ QB b S1) : Ok (cTst c δ S) QB := Ok.bind (h.imp fun d S1 ⟨b, e, q⟩ => by subst e; exact q)
theorem k_and {a b : CT} (h : Ok (a δ S) fun k S1 => (k = true → Ok (b δ S1) QB) ∧ (k = false → QB false S1)) : Ok (cAnd a b δ S) QB := Ok.bind (h.imp fun k S1 h => by
  cases k with
  | true => exact h.1 rfl
  | false => exact h.2 rfl)
theorem k_or {a b : CT} (h : Ok (a δ S) fun k S1 => (k = true → QB true S1) ∧ (k = false → Ok (b δ S1) QB)) : Ok (cOr a b δ S) QB := Ok.bind (h.imp fun k S1 h => by
  cases k with
  | true => exact h.1 rfl
  | false => exact h.2 rfl)
theorem k_not {a : CT} (h : Ok (a δ S) fun k S1 => QB (!k) S1) : Ok (cNot a δ S) QB := Ok.bind h
theorem k_ifE {t : CT} {a b : CE} (h : Ok (t δ S) fun k S1 => (k = true → Ok (a δ S1) Q) ∧ (k = false → Ok (b δ S1) Q)) : Ok (cIfE t a b δ S) Q := Ok.bind (h.imp fun k S1 h => by
  cases k with
  | true => exact h.1 rfl
  | false => exact h.2 rfl)
theorem k_sub {i j : Int} (q : Q (.int (i - j)) S) : Ok (dSub (.int i) (.int j) S) Q := q
theorem k_mul {i j : Int} (h : mulOk i j = true) (q : Q (.int (i * j)) S) : Ok (dMul (.int i) (.int j) S) Q := by
  show Ok (if mulOk i j = true then _ else _) Q
  rw [if_pos h]; exact q
theorem k_mod {i j : Int} (h : 0 < j) (q : Q (.int (i % j)) S) : Ok (dMod (.int i) (.int j) S) Q := by
  show Ok (if decide (0 < j) = true then _ else _) Q
  rw [if_pos (decide_eq_true h)]; exact q
theorem k_div {i j : Int} (h : 0 < j ∧ j < 1073741824) (q : Q (.int (i / j)) S) : Ok (dDiv (.int i) (.int j) S) Q := by
  show Ok (if decide (0 < j ∧ j < 1073741824) = true then _ else _) Q
  rw [if_pos (decide_eq_true h)]; exact q
theorem k_pow {i j : Int} (h : powOk i j = true) (q : Q (.int (i ^ j.toNat)) S) : Ok (dPow (.int i) (.int j) S) Q := by
  show Ok (if powOk i j = true then _ else _) Q
  rw [if_pos h]; exact q
theorem k_lt {i j : Int} (q : Q (.bl (decide (i < j))) S) : Ok (dLt (.int i) (.int j) S) Q := q
theorem k_le {i j : Int} (q : Q (.bl (decide (i ≤ j))) S) : Ok (dLe (.int i) (.int j) S) Q := q
theorem k_gt {i j : Int} (q : Q (.bl (decide (j < i))) S) : Ok (dGt (.int i) (.int j) S) Q := q
theorem k_ge {i j : Int} (q : Q (.bl (decide (j ≤ i))) S) : Ok (dGe (.int i) (.int j) S) Q := q
theorem k_neg {c : CE} (h : Ok (c δ S) fun d S1 => ∃ i, d = .int i ∧ Q (.int (-i)) S1) : Ok (cNeg c δ S) Q := Ok.bind (h.imp fun d S1 ⟨i, e, q⟩ => by subst e; exact q)
theorem k_addI {i j : Int} (q : Q (.int (i + j)) S) : Ok (dAdd (.int i) (.int j) S) Q := q
theorem lineI {n : Nat} (h : n ≤ 16777216) : lineOk n = true := decide_eq_true h
theorem k_addS {a b : Str} (h : a.length + b.length ≤ 16777216) (q : Q (.str (a ++ b)) S) : Ok (dAdd (.str a) (.str b) S) Q := by
  show Ok (if lineOk (a.length + b.length) = true then _ else _) Q
  rw [if_pos (lineI h)]; exact q
theorem k_addT {a b : List Dv} (h : a.length + b.length ≤ 16777216) (q : Q (.tup (a ++ b)) S) : Ok (dAdd (.tup a) (.tup b) S) Q := by
  show Ok (if lineOk (a.length + b.length) = true then _ else _) Q
  rw [if_pos (lineI h)]; exact q
theorem k_addL {x y : Dv} {a b : List Dv} (h1 : lstOf S x = some a) (h2 : lstOf S y = some b) (h : a.length + b.length ≤ 16777216) (q : Q (.ref S.length) (S ++ [.lst (a ++ b)])) : Ok (dAdd x y S) Q := by
  have e : dAdd x y S = dAddL x y S := by
    cases x <;> first
      | (cases h1; done)
      | rfl
  rw [e]
  unfold dAddL
  rw [h1, h2]
  show Ok (if lineOk (a.length + b.length) = true then _ else _) Q
  rw [if_pos (lineI h)]; exact q
theorem k_sc {x y : Dv} {b : Bool} (h : scEq x y = some b) (q : Q (.bl b) S) : Ok (dEq x y S) Q := by
  unfold dEq
  rw [h]; exact q
theorem k_scN {x y : Dv} {b : Bool} (h : scEq x y = some b) (q : Q (.bl (!b)) S) : Ok (dNe x y S) Q := by
  unfold dNe
  rw [h]; exact q
theorem k_eq {x y : Dv} {p r : PyData} (h : scEq x y = none) (h1 : toPy S x = some p) (h2 : toPy S y = some r) (h3 : eqOk p = true) (h4 : eqOk r = true) (q : Q (.bl (PyData.eqv p r)) S) : Ok (dEq x y S) Q := by
  unfold dEq
  rw [h, h1, h2]
  show Ok (if (eqOk p && eqOk r) = true then _ else _) Q
  rw [if_pos (by rw [h3, h4]; rfl)]; exact q
theorem k_ne {x y : Dv} {p r : PyData} (h : scEq x y = none) (h1 : toPy S x = some p) (h2 : toPy S y = some r) (h3 : eqOk p = true) (h4 : eqOk r = true) (q : Q (.bl (!PyData.eqv p r)) S) : Ok (dNe x y S) Q := by
  unfold dNe
  rw [h, h1, h2]
  show Ok (if (eqOk p && eqOk r) = true then _ else _) Q
  rw [if_pos (by rw [h3, h4]; rfl)]; exact q
theorem k_in {neg : Bool} {x y : Dv} {ds : List Dv} (h1 : seqOf S y = some ds) (h2 : flatD x = true) (h3 : ds.all flatD = true) (q : Q (.bl (if neg then !(ds.any fun y => eqD y x) else ds.any fun y => eqD y x)) S) : Ok (dIn neg x y S) Q := by
  unfold dIn
  rw [h1]
  show Ok (if (flatD x && ds.all flatD) = true then _ else _) Q
  rw [if_pos (by rw [h2, h3]; rfl)]; exact q
theorem k_ixT {ds : List Dv} {i : Int} {d : Dv} (h : atI ds i = some d) (q : Q d S) : Ok (dIx (.tup ds) (.int i) S) Q := by
  show Ok (ixL ds (.int i) S) Q
  unfold ixL; dsimp only; rw [h]; exact q
theorem k_ixL {l : Nat} {ds : List Dv} {i : Int} {d : Dv} (h1 : lsAt S l = some ds) (h : atI ds i = some d) (q : Q d S) : Ok (dIx (.ref l) (.int i) S) Q := by
  unfold dIx
  dsimp only
  rw [h1]
  show Ok (ixL ds (.int i) S) Q
  unfold ixL; dsimp only; rw [h]; exact q
theorem dc_ls {l : Nat} {kvs : List (Key × Dv)} (h : dcAt S l = some kvs) : lsAt S l = none := by
  have := dcAt_iff.mp h
  unfold lsAt; rw [this]
theorem k_ixD {l : Nat} {kvs : List (Key × Dv)} {k d : Dv} {key : Key} (h1 : dcAt S l = some kvs) (h2 : keyD k = some key) (h3 : valD kvs key = some d) (q : Q d S) : Ok (dIx (.ref l) k S) Q := by
  unfold dIx
  dsimp only
  rw [dc_ls h1, h1]
  show Ok (ixK kvs k S) Q
  unfold ixK; rw [h2]
  show Ok (match valD kvs key with | some d => _ | none => _) Q
  rw [h3]; exact q
theorem k_ixS {z : Str} {i : Int} {c : Nat} (h1 : z.length ≤ 16777216) (h2 : atI z.cps.toList i = some c) (q : Q (.str ⟨#[c]⟩) S) : Ok (dIx (.str z) (.int i) S) Q := by
  show Ok (ixS z (.int i) S) Q
  unfold ixS
  dsimp only
  rw [if_pos (lineI h1), h2]; exact q
theorem k_sl {c : CE} {lo hi : CO} (h : Ok (c δ S) fun x S1 => Ok (lo δ S1) fun l S2 => Ok (hi δ S2) fun u S3 => Ok (dSl x l u S3) Q) : Ok (cSl c lo hi δ S) Q := Ok.bind (h.imp fun x S1 h => Ok.bind (h.imp fun l S2 h => Ok.bind h))
theorem k_no {QO : Option Int → Store → Prop} (q : QO none S) : Ok (cNo δ S) QO := q
theorem k_pt {QO : Option Int → Store → Prop} {c : CE} (h : Ok (c δ S) fun d S1 => ∃ i, d = .int i ∧ QO (some i) S1) : Ok (cPt c δ S) QO := Ok.bind (h.imp fun d S1 ⟨i, e, q⟩ => by subst e; exact q)
theorem k_slT {ds : List Dv} {lo hi : Option Int} (q : Q (.tup (cutG ds lo hi)) S) : Ok (dSl (.tup ds) lo hi S) Q := q
theorem k_slL {x : Dv} {ds : List Dv} {lo hi : Option Int} (h : lstOf S x = some ds) (q : Q (.ref S.length) (S ++ [.lst (cutG ds lo hi)])) : Ok (dSl x lo hi S) Q := by
  cases x <;> first
    | (cases h; done)
    | skip
  · have h : lsAt S _ = some ds := h
    unfold dSl
    dsimp only
    rw [h]; exact q
  · cases h; exact q
theorem k_slS {z : Str} {lo hi : Option Int} (h : z.length ≤ 16777216) (q : Q (.str (cutS z lo hi)) S) : Ok (dSl (.str z) lo hi S) Q := by
  show Ok (if lineOk z.length = true then _ else _) Q
  rw [if_pos (lineI h)]; exact q
theorem k_app {f : List Dv → Store → Res Dv} {a : CA} (h : Ok (a δ S) fun ds S1 => Ok (f ds S1) Q) : Ok (cApp f a δ S) Q := Ok.bind h
theorem k_len {x : Dv} {n : Nat} (h : lenOf S x = some n) (q : Q (.int (n : Int)) S) : Ok (bLen [x] S) Q := by
  show Ok (match lenOf S x with | some n => _ | none => _) Q
  rw [h]; exact q
theorem k_list {x : Dv} {ds : List Dv} (h : seqOf S x = some ds) (q : Q (.ref S.length) (S ++ [.lst ds])) : Ok (bList [x] S) Q := by
  show Ok (match seqOf S x with | some ds => _ | none => _) Q
  rw [h]; exact q
theorem k_tuple {x : Dv} {ds : List Dv} (h : seqOf S x = some ds) (q : Q (.tup ds) S) : Ok (bTuple [x] S) Q := by
  show Ok (match seqOf S x with | some ds => _ | none => _) Q
  rw [h]; exact q
theorem k_intI {i : Int} (q : Q (.int i) S) : Ok (bInt [.int i] S) Q := q
theorem k_intB {b : Bool} (q : Q (.int (if b then 1 else 0)) S) : Ok (bInt [.bl b] S) Q := q
theorem k_str {i : Int} (h : strOk i = true) (q : Q (.str (showI i)) S) : Ok (bStr [.int i] S) Q := by
  show Ok (if strOk i = true then _ else _) Q
  rw [if_pos h]; exact q
theorem k_isi {x : Dv} {n : String} {a T : Ty} (h1 : tyOf S x = some a) (h2 : Ty.of n = some T) (q : Q (.bl (isA a T)) S) : Ok (bIsi [x, .ty n] S) Q := by
  show Ok (match tyOf S x, Ty.of n with | some a, some T => _ | _, _ => _) Q
  rw [h1, h2]; exact q
theorem k_sortD {x : Dv} {ks : List Str} (h : (dictOf S x).bind keysS = some ks) (h2 : ks.length < 64) (q : Q (.ref S.length) (S ++ [.lst ((sortS ks).map Dv.str)])) : Ok (bSortD [x] S) Q := by
  show Ok (match (dictOf S x).bind keysS with | some ks => _ | none => _) Q
  rw [h]
  show Ok (if decide (ks.length < 64) = true then _ else _) Q
  rw [if_pos (decide_eq_true h2)]; exact q
theorem k_mt {T : String} {f : Dv → List Dv → Store → Res Dv} {c : CE} {a : CA} (h : Ok (c δ S) fun x S1 => isTy T S1 x = true ∧ Ok (a δ S1) fun xs S2 => Ok (f x xs S2) Q) : Ok (cMt T f c a δ S) Q := Ok.bind (h.imp fun x S1 h => by rw [if_pos h.1]; exact Ok.bind h.2)
theorem k_join {a : Str} {y : Dv} {ys : List Str} (h : (seqOf S y).bind strsOf = some ys) (h2 : (ys.map (·.length)).sum + ys.length * a.length ≤ 16777216) (q : Q (.str (Str.join a ys)) S) : Ok (mJoin (.str a) [y] S) Q := by
  show Ok (match (seqOf S y).bind strsOf with | some ys => _ | none => _) Q
  rw [h]
  show Ok (if joinOk a ys = true then _ else _) Q
  rw [if_pos (show joinOk a ys = true from decide_eq_true h2)]; exact q
theorem k_append {l : Nat} {y : Dv} {ds : List Dv} (h : lsAt S l = some ds) (h2 : ds.length < 16777216) (q : Q .non (S.set l (.lst (ds ++ [y])))) : Ok (mApp (.ref l) [y] S) Q := by
  show Ok (match lsAt S l with | some ds => _ | none => _) Q
  rw [h]
  show Ok (if decide (ds.length < 16777216) = true then _ else _) Q
  rw [if_pos (decide_eq_true h2)]; exact q
theorem k_call {f : List Dv → Store → Res Dv} {np : Nat} {a : CA} (h : Ok (a δ S) fun ds S1 => (ds.length == np) = true ∧ Ok (f ds S1) Q) : Ok (cCall f np a δ S) Q := Ok.bind (h.imp fun ds S1 h => by rw [if_pos h.1]; exact h.2)
theorem k_dnew (q : Q (.ref S.length) (S ++ [.dct []])) : Ok (cDNew δ S) Q := q
theorem k_get2 {c k x : CE} (h : Ok (c δ S) fun d S1 => isTy "dict" S1 d = true ∧ Ok (k δ S1) fun kk S2 => Ok (x δ S2) fun y S3 => ∃ l key kvs, d = .ref l ∧ keyD kk = some key ∧ dcAt S3 l = some kvs ∧ Q ((valD kvs key).getD y) S3) : Ok (cGet2 c k x δ S) Q :=
  Ok.bind (h.imp fun d S1 h => by
    rw [if_pos h.1]
    exact Ok.bind (h.2.imp fun kk S2 h => Ok.bind (h.imp fun y S3 ⟨l, key, kvs, e1, e2, e3, q⟩ => by
      subst e1
      rw [e2]
      dsimp only
      rw [e3]; exact q)))
theorem k_fmt {c : CE} (h : Ok (c δ S) fun d S1 => ∃ x, fmtS d = some x ∧ Q (.str x) S1) : Ok (cFmt c δ S) Q := Ok.bind (h.imp fun d S1 ⟨x, e, q⟩ => by rw [e]; exact q)
theorem k_js0 {acc : Str} (q : Q (.str acc) S) : Ok (cJs [] acc δ S) Q := q
theorem k_js {c : CE} {cs : List CE} {acc : Str} (h : Ok (c δ S) fun d S1 => ∃ y, d = .str y ∧ (acc ++ y).length ≤ 16777216 ∧ Ok (cJs cs (acc ++ y) δ S1) Q) : Ok (cJs (c :: cs) acc δ S) Q := Ok.bind (h.imp fun d S1 ⟨y, e, l, q⟩ => by
  subst e
  show Ok (if lineOk (acc ++ y).length = true then _ else _) Q
  rw [if_pos (lineI l)]; exact q)
theorem k_lzip {a : CA} (h : Ok (a δ S) fun ds S1 => ∃ x y xs ys, ds = [x, y] ∧ lstOf S1 x = some xs ∧ lstOf S1 y = some ys ∧ Q (.ref S1.length) (S1 ++ [.lst (zipD xs ys)])) : Ok (cLZip a δ S) Q := Ok.bind (h.imp fun ds S1 ⟨x, y, xs, ys, e, h1, h2, q⟩ => by
  subst e
  dsimp only
  rw [h1, h2]; exact q)
/-- a dict's display -/
def okPs : List (CE × CE) → Env' → Store → (List (Key × Dv) → Store → Prop) → Prop
  | [], _, S, P => P [] S
  | (k, v) :: r, δ, S, P => Ok (k δ S) fun x S1 => Ok (v δ S1) fun y S2 => ∃ kk, keyD x = some kk ∧ okPs r δ S2 fun ps S3 => P ((kk, y) :: ps) S3
theorem okPs_ok : ∀ {ps : List (CE × CE)} {S : Store} {P : List (Key × Dv) → Store → Prop}, okPs ps δ S P → Ok (cPairs ps δ S) P
  | [], _, _, h => h
  | (k, v) :: r, _, _, h => Ok.bind (Ok.imp (r := k δ _) h fun x S1 h => Ok.bind (h.imp fun y S2 ⟨kk, e, h⟩ => by
    rw [e]
    exact Ok.bind (okPs_ok h)))
theorem k_disp {prs : List (CE × CE)} (h : okPs prs δ (S ++ [.dct []]) fun ps S1 => dcAt S1 S.length = some [] ∧ ps.length ≤ 15 ∧ Q (.ref S.length) (S1.set S.length (.dct (mergeD [] ps)))) : Ok (cDisp prs δ S) Q := Ok.bind ((okPs_ok h).imp fun ps S1 ⟨e, l, q⟩ => by
  rw [e]
  dsimp only
  rw [if_pos (decide_eq_true l)]; exact q)

/-! ### targets -/
theorem k_gN {i : Nat} {d : Dv} (q : QE (δ.set i (some d)) S) : Ok (gN i d δ S) QE := q
theorem k_gT {n : Nat} {gs : List Dv → Env' → Store → Res Env'} {ds : List Dv} (h : (ds.length == n) = true) (q : Ok (gs ds δ S) QE) : Ok (gT n gs (.tup ds) δ S) QE := by
  show Ok (if (ds.length == n) = true then _ else _) QE
  rw [if_pos h]; exact q
theorem k_gC {g : CG} {gs : List Dv → Env' → Store → Res Env'} {d : Dv} {ds : List Dv} (h : Ok (g d δ S) fun δ1 S1 => Ok (gs ds δ1 S1) QE) : Ok (gCons' g gs (d :: ds) δ S) QE := Ok.bind (r := g d δ S) h
theorem k_g0 (q : QE δ S) : Ok (gNil' [] δ S) QE := q
theorem k_gStar {gs : List Dv → Env' → Store → Res Env'} {x : Dv} {xs : List Dv} (h : Ok (gs [x, .ref S.length] δ (S ++ [.lst xs])) QE) : Ok (gStar gs (.tup (x :: xs)) δ S) QE := h
theorem k_gS {o i : CE} {d : Dv} (h : Ok (o δ S) fun x S1 => Ok (i δ S1) fun k S2 => Ok (setIx x k d S2) fun _ S3 => QE δ S3) : Ok (gS o i d δ S) QE := Ok.bind (h.imp fun x S1 h => Ok.bind (h.imp fun k S2 h => Ok.bind h))
theorem k_setL {l : Nat} {ds : List Dv} {i : Int} {j : Nat} {v : Dv} {QU : Unit → Store → Prop} (h : lsAt S l = some ds) (h2 : ixN ds.length i = some j) (q : QU () (S.set l (.lst (ds.set j v)))) : Ok (setIx (.ref l) (.int i) v S) QU := by
  unfold setIx
  dsimp only
  rw [h]
  dsimp only
  rw [h2]; exact q
theorem k_setD {l : Nat} {kvs : List (Key × Dv)} {k v : Dv} {key : Key} {QU : Unit → Store → Prop} (h : dcAt S l = some kvs) (h2 : keyD k = some key) (h3 : kvs.length < 16777216) (q : QU () (S.set l (.dct (putD kvs key v)))) : Ok (setIx (.ref l) k v S) QU := by
  unfold setIx
  dsimp only
  rw [dc_ls h, h]
  dsimp only
  rw [h2]
  dsimp only
  rw [if_pos (decide_eq_true h3)]; exact q

/-! ### statements -/
/-- what follows a def's body -/
def fin (Q : Dv → Store → Prop) : Fl → Store → Prop
  | .rt d, S => Q d S
  | .nx _, S => Q .non S
  | _, _ => False
theorem Ok.seq {a b : CS} (h : Ok (a δ S) fun fl S1 => match fl with
    | .nx δ1 => Ok (b δ1 S1) QF
    | fl => QF fl S1) : Ok (cSeq a b δ S) QF := by
  unfold cSeq
  cases e : a δ S with
  | ok fl S1 =>
    rw [e] at h
    cases fl with
    | nx δ1 => exact h
    | rt d => exact h
    | bk δ1 => exact h
    | ct δ1 => exact h
  | ex e S1 => rw [e] at h; exact h
  | bad => rw [e] at h; exact h
theorem s_set {i : Nat} {c : CE} {b : CS} (h : Ok (c δ S) fun d S1 => Ok (b (δ.set i (some d)) S1) QF) : Ok (cSeq (cSet i c) b δ S) QF := Ok.seq (Ok.bind (h.imp fun d S1 h => h))
theorem s_drop {c : CE} {b : CS} (h : Ok (c δ S) fun _ S1 => Ok (b δ S1) QF) : Ok (cSeq (cDrop c) b δ S) QF := Ok.seq (Ok.bind (h.imp fun d S1 h => h))
theorem s_asg {c : CE} {g : CG} {b : CS} (h : Ok (c δ S) fun d S1 => Ok (g d δ S1) fun δ1 S2 => Ok (b δ1 S2) QF) : Ok (cSeq (cAsg c g) b δ S) QF := Ok.seq (Ok.bind (h.imp fun d S1 h => Ok.bind (h.imp fun δ1 S2 h => h)))
theorem s_if {t : CT} {a a' b : CS} (h : Ok (t δ S) fun k S1 => (k = true → Ok (cSeq a b δ S1) QF) ∧ (k = false → Ok (cSeq a' b δ S1) QF)) : Ok (cSeq (cIf t a a') b δ S) QF := by
  obtain ⟨k, S1, e, h1, h2⟩ := h.get
  have e2 : cSeq (cIf t a a') b δ S = if k then cSeq a b δ S1 else cSeq a' b δ S1 := by
    unfold cSeq cIf
    rw [e]
    cases k <;> rfl
  rw [e2]
  cases k with
  | true => exact h1 rfl
  | false => exact h2 rfl
theorem s_nx {b : CS} (h : Ok (b δ S) QF) : Ok (cSeq cNx b δ S) QF := h
theorem s_ret {c : CE} {b : CS} (h : Ok (c δ S) fun d S1 => QF (.rt d) S1) : Ok (cSeq (cRet c) b δ S) QF := Ok.seq (Ok.bind h)
theorem s_seq {a b c : CS} (h : Ok (cSeq a (cSeq b c) δ S) QF) : Ok (cSeq (cSeq a b) c δ S) QF := by
  have e : cSeq (cSeq a b) c δ S = cSeq a (cSeq b c) δ S := by
    unfold cSeq
    cases e : a δ S with
    | ok fl S1 => cases fl <;> rfl
    | ex e S1 => rfl
    | bad => rfl
  rw [e]; exact h
theorem l_ret {c : CE} (h : Ok (c δ S) fun d S1 => QF (.rt d) S1) : Ok (cRet c δ S) QF := Ok.bind h
theorem l_set {i : Nat} {c : CE} (h : Ok (c δ S) fun d S1 => QF (.nx (δ.set i (some d))) S1) : Ok (cSet i c δ S) QF := Ok.bind h
theorem l_drop {c : CE} (h : Ok (c δ S) fun _ S1 => QF (.nx δ) S1) : Ok (cDrop c δ S) QF := Ok.bind h
theorem l_asg {c : CE} {g : CG} (h : Ok (c δ S) fun d S1 => Ok (g d δ S1) fun δ1 S2 => QF (.nx δ1) S2) : Ok (cAsg c g δ S) QF := Ok.bind (h.imp fun d S1 h => Ok.bind h)
theorem l_nx (h : QF (.nx δ) S) : Ok (cNx δ S) QF := h
theorem l_if {t : CT} {a b : CS} (h : Ok (t δ S) fun k S1 => (k = true → Ok (a δ S1) QF) ∧ (k = false → Ok (b δ S1) QF)) : Ok (cIf t a b δ S) QF := Ok.bind (h.imp fun k S1 h => by
  cases k with
  | true => exact h.1 rfl
  | false => exact h.2 rfl)
/-! ### loops -/
/-- how a turn may end -/
def turn (nx out : Env' → Store → Prop) (ret : Dv → Store → Prop) : Fl → Store → Prop
  | .nx δ, S => nx δ S
  | .ct δ, S => nx δ S
  | .bk δ, S => out δ S
  | .rt d, S => ret d S
def ends (out : Env' → Store → Prop) (ret : Dv → Store → Prop) : Fl → Store → Prop
  | .nx δ, S => out δ S
  | .rt d, S => ret d S
  | _, _ => False
theorem loopF_ok {f : Nat → Store → Option (Option Dv)} {g : CG} {b : CS} {N : Nat} (I : Nat → Env' → Store → Prop) {out : Env' → Store → Prop} {ret : Dv → Store → Prop}
    (step : ∀ i δ S, I i δ S → (f i S = some none ∧ out δ S) ∨ (i < N ∧ ∃ d, f i S = some (some d) ∧ Ok (g d δ S) fun δ1 S1 => Ok (b δ1 S1) (turn (I (i + 1)) out ret))) :
    ∀ (n i : Nat) (δ : Env') (S : Store), i + n = N → I i δ S → Ok (loopF f g b n i δ S) (ends out ret) := by
  intro n
  induction n with
  | zero =>
    intro i δ S hi h
    rcases step i δ S h with ⟨e, o⟩ | ⟨l, _⟩
    · unfold loopF; rw [e]; exact o
    · omega
  | succ n ih =>
    intro i δ S hi h
    rcases step i δ S h with ⟨e, o⟩ | ⟨l, d, e, h⟩
    · unfold loopF; rw [e]; exact o
    · unfold loopF
      rw [e]
      dsimp only
      obtain ⟨δ1, S1, e1, h⟩ := h.get
      rw [e1]
      dsimp only
      obtain ⟨fl, S2, e2, h⟩ := h.get
      rw [e2]
      cases fl with
      | nx δ2 => exact ih (i + 1) δ2 S2 (by omega) h
      | ct δ2 => exact ih (i + 1) δ2 S2 (by omega) h
      | bk δ2 => exact h
      | rt d => exact h
theorem l_for {ci : CI} {g : CG} {b : CS} (h : Ok (ci δ S) fun it S1 => ∃ I : Nat → Env' → Store → Prop, I 0 δ S1 ∧ ∀ i δ S, I i δ S → (it.f i S = some none ∧ QF (.nx δ) S) ∨ (i < it.n ∧ ∃ d, it.f i S = some (some d) ∧ Ok (g d δ S) fun δ1 S1 => Ok (b δ1 S1) (turn (I (i + 1)) (fun δ S => QF (.nx δ) S) (fun d S => QF (.rt d) S)))) : Ok (cFor ci g b δ S) QF :=
  Ok.bind (h.imp fun it S1 ⟨I, h0, st⟩ => (loopF_ok I st it.n 0 δ S1 (Nat.zero_add _) h0).imp fun fl S q => by
    cases fl with
    | nx δ => exact q
    | ct δ => exact q.elim
    | bk δ => exact q.elim
    | rt d => exact q)
theorem s_for {ci : CI} {g : CG} {b rest : CS} (h : Ok (ci δ S) fun it S1 => ∃ I : Nat → Env' → Store → Prop, I 0 δ S1 ∧ ∀ i δ S, I i δ S → (it.f i S = some none ∧ Ok (rest δ S) QF) ∨ (i < it.n ∧ ∃ d, it.f i S = some (some d) ∧ Ok (g d δ S) fun δ1 S1 => Ok (b δ1 S1) (turn (I (i + 1)) (fun δ S => Ok (rest δ S) QF) (fun d S => QF (.rt d) S)))) : Ok (cSeq (cFor ci g b) rest δ S) QF :=
  Ok.seq (Ok.bind (h.imp fun it S1 ⟨I, h0, st⟩ => (loopF_ok I st it.n 0 δ S1 (Nat.zero_add _) h0).imp fun fl S q => by
    cases fl with
    | nx δ => exact q
    | ct δ => exact q.elim
    | bk δ => exact q.elim
    | rt d => exact q))
theorem k_it {c : CE} {QI : IT → Store → Prop} (h : Ok (c δ S) fun d S1 => ∃ it, itOf S1 d = some it ∧ QI it S1) : Ok (cIt c δ S) QI := Ok.bind (h.imp fun d S1 ⟨it, e, q⟩ => by
  unfold asIt; rw [e]; exact q)
theorem k_rng1 {c : CE} {QI : IT → Store → Prop} (h : Ok (c δ S) fun d S1 => ∃ j, d = .int j ∧ (-(2 ^ 62) ≤ j ∧ j < 2 ^ 62) ∧ QI ⟨j.toNat, fun i _ => some (if i < j.toNat then some (.int (i : Int)) else none)⟩ S1) : Ok (cRng1 c δ S) QI := Ok.bind (h.imp fun d S1 ⟨j, e, l, q⟩ => by
  subst e
  dsimp only
  rw [if_pos (show rngOk j = true from decide_eq_true l)]; exact q)
theorem k_enS {c : CE} {QI : IT → Store → Prop} (h : Ok (c δ S) fun d S1 => ∃ z, d = .str z ∧ QI ⟨z.cps.size, fun i _ => some (z.cps[i]?.map fun c => .tup [.int (i : Nat), .str ⟨#[c]⟩])⟩ S1) : Ok (cEnS c δ S) QI := Ok.bind (h.imp fun d S1 ⟨z, e, q⟩ => by subst e; exact q)
/-! comprehensions -/
theorem loopC_ok {f : Nat → Store → Option (Option Dv)} {g : CG} {tt : CT} {te : CE} {L N : Nat} (J : Nat → List Dv → Store → Prop) {P : Unit → Store → Prop}
    (step : ∀ i acc S, J i acc S → lsAt S L = some acc → (f i S = some none ∧ P () S) ∨ (i < N ∧ ∃ d, f i S = some (some d) ∧ Ok (g d δ S) fun δ1 S1 => Ok (tt δ1 S1) fun k S2 =>
      (k = true → Ok (te δ1 S2) fun y S3 => lsAt S3 L = some acc ∧ acc.length < 16777216 ∧ J (i + 1) (acc ++ [y]) (S3.set L (.lst (acc ++ [y])))) ∧ (k = false → lsAt S2 L = some acc ∧ J (i + 1) acc S2))) :
    ∀ (n i : Nat) (acc : List Dv) (S : Store), i + n = N → J i acc S → lsAt S L = some acc → Ok (loopC f g tt te δ L n i S) P := by
  intro n
  induction n with
  | zero =>
    intro i acc S hi h hL
    rcases step i acc S h hL with ⟨e, o⟩ | ⟨l, _⟩
    · unfold loopC; rw [e]; exact o
    · omega
  | succ n ih =>
    intro i acc S hi h hL
    rcases step i acc S h hL with ⟨e, o⟩ | ⟨l, d, e, h⟩
    · unfold loopC; rw [e]; exact o
    · unfold loopC
      rw [e]
      dsimp only
      obtain ⟨δ1, S1, e1, h⟩ := h.get
      rw [e1]
      dsimp only
      obtain ⟨k, S2, e2, h⟩ := h.get
      rw [e2]
      cases k with
      | false =>
        obtain ⟨h1, h2⟩ := h.2 rfl
        exact ih (i + 1) acc S2 (by omega) h2 h1
      | true =>
        dsimp only
        obtain ⟨y, S3, e3, h1, h2, h3⟩ := (h.1 rfl).get
        rw [e3]
        dsimp only
        rw [h1]
        dsimp only
        rw [if_pos (decide_eq_true h2)]
        refine ih (i + 1) _ _ (by omega) h3 ?_
        have := (List.getElem?_eq_some_iff.mp (lsAt_iff.mp h1)).1
        exact lsAt_iff.mpr (List.getElem?_set_self this)
theorem k_lc {ci : CI} {own : List Nat} {g : CG} {tt : CT} {te : CE} (h : Ok (ci δ S) fun it S1 => ∃ J : Nat → List Dv → Store → Prop, J 0 [] (S1 ++ [.lst []]) ∧ ∀ i acc S, J i acc S → lsAt S S1.length = some acc →
    (it.f i S = some none ∧ Q (.ref S1.length) S) ∨ (i < it.n ∧ ∃ d, it.f i S = some (some d) ∧ Ok (g d (wipeE δ own) S) fun δ1 S1' => Ok (tt δ1 S1') fun k S2 =>
      (k = true → Ok (te δ1 S2) fun y S3 => lsAt S3 S1.length = some acc ∧ acc.length < 16777216 ∧ J (i + 1) (acc ++ [y]) (S3.set S1.length (.lst (acc ++ [y])))) ∧ (k = false → lsAt S2 S1.length = some acc ∧ J (i + 1) acc S2))) : Ok (cLc ci own g tt te δ S) Q :=
  Ok.bind (h.imp fun it S1 ⟨J, h0, st⟩ => Ok.bind (loopC_ok (N := it.n) J st it.n 0 [] _ (Nat.zero_add _) h0 (lsAt_iff.mpr (by simp))))
/-! ### stores -/
/-- S' has what S has, but at D -/
def Kp (D : List Nat) (S S' : Store) : Prop := S.length ≤ S'.length ∧ ∀ j o, j ∉ D → S[j]? = some o → S'[j]? = some o
theorem Kp.refl {D : List Nat} : Kp D S S := ⟨Nat.le_refl _, fun _ _ _ h => h⟩
theorem Kp.trans {D : List Nat} {S1 S2 : Store} (a : Kp D S S1) (b : Kp D S1 S2) : Kp D S S2 := ⟨Nat.le_trans a.1 b.1, fun j o n h => b.2 j o n (a.2 j o n h)⟩
theorem Kp.app {D : List Nat} {S1 : Store} {o : Ob} (a : Kp D S S1) : Kp D S (S1 ++ [o]) := ⟨by rw [List.length_append]; exact Nat.le_add_right_of_le a.1, fun j u n h => by
  have := a.2 j u n h
  rw [List.getElem?_append_left (List.getElem?_eq_some_iff.mp this).1]; exact this⟩
theorem Kp.set {D : List Nat} {S1 : Store} {o : Ob} {l : Nat} (a : Kp D S S1) (h : S.length ≤ l ∨ l ∈ D) : Kp D S (S1.set l o) := ⟨by rw [List.length_set]; exact a.1, fun j u n q => by
  rw [List.getElem?_set_ne (fun e => by
    subst e
    rcases h with h | h
    · exact absurd (List.getElem?_eq_some_iff.mp q).1 (by omega)
    · exact n h)]
  exact a.2 j u n q⟩
theorem Kp.ls {D : List Nat} {S' : Store} {l : Nat} {ds : List Dv} (a : Kp D S S') (n : l ∉ D) (h : lsAt S l = some ds) : lsAt S' l = some ds := lsAt_iff.mpr (a.2 _ _ n (lsAt_iff.mp h))
theorem Kp.dc {D : List Nat} {S' : Store} {l : Nat} {ds : List (Key × Dv)} (a : Kp D S S') (n : l ∉ D) (h : dcAt S l = some ds) : dcAt S' l = some ds := dcAt_iff.mpr (a.2 _ _ n (dcAt_iff.mp h))
theorem Kp.wk {D D' : List Nat} {S' : Store} (a : Kp D S S') (h : ∀ x ∈ D, x ∈ D') : Kp D' S S' := ⟨a.1, fun j o n q => a.2 j o (fun z => n (h j z)) q⟩
theorem Kp.any {D : List Nat} {S' : Store} (a : Kp [] S S') : Kp D S S' := a.wk fun _ h => by cases h
theorem ls_new {ds : List Dv} : lsAt (S ++ [.lst ds]) S.length = some ds := lsAt_iff.mpr (by simp)
theorem dc_new {ds : List (Key × Dv)} : dcAt (S ++ [.dct ds]) S.length = some ds := dcAt_iff.mpr (by simp)
theorem ls_lt {l : Nat} {ds : List Dv} (h : lsAt S l = some ds) : l < S.length := (List.getElem?_eq_some_iff.mp (lsAt_iff.mp h)).1
theorem dc_lt {l : Nat} {ds : List (Key × Dv)} (h : dcAt S l = some ds) : l < S.length := (List.getElem?_eq_some_iff.mp (dcAt_iff.mp h)).1
theorem ls_set {l : Nat} {ds : List Dv} (h : l < S.length) : lsAt (S.set l (.lst ds)) l = some ds := lsAt_iff.mpr (List.getElem?_set_self h)
theorem dc_set {l : Nat} {ds : List (Key × Dv)} (h : l < S.length) : dcAt (S.set l (.dct ds)) l = some ds := dcAt_iff.mpr (List.getElem?_set_self h)
theorem ls_ne {l m : Nat} {o : Ob} (h : m ≠ l) : lsAt (S.set m o) l = lsAt S l := by
  unfold lsAt; rw [List.getElem?_set_ne h]
theorem dc_ne {l m : Nat} {o : Ob} (h : m ≠ l) : dcAt (S.set m o) l = dcAt S l := by
  unfold dcAt; rw [List.getElem?_set_ne h]
theorem ls_app {l : Nat} {ds : List Dv} {o : Ob} (h : lsAt S l = some ds) : lsAt (S ++ [o]) l = some ds := (Kp.refl (D := [])).app.ls (by simp) h
theorem dc_app {l : Nat} {ds : List (Key × Dv)} {o : Ob} (h : dcAt S l = some ds) : dcAt (S ++ [o]) l = some ds := (Kp.refl (D := [])).app.dc (by simp) h
end
end Sm

namespace Sm
open PySem L2
section
variable {α β : Type} {δ : Env'} {S : Store} {Q : Dv → Store → Prop} {QB : Bool → Store → Prop} {QF : Fl → Store → Prop} {QE : Env' → Store → Prop}
theorem k_eqS {a b : Str} (q : Q (.bl (decide (a = b))) S) : Ok (dEq (.str a) (.str b) S) Q := k_sc rfl q
theorem k_neS {a b : Str} (q : Q (.bl (!decide (a = b))) S) : Ok (dNe (.str a) (.str b) S) Q := k_scN rfl q
theorem k_eqI {a b : Int} (q : Q (.bl (decide (a = b))) S) : Ok (dEq (.int a) (.int b) S) Q := k_sc rfl q
/-- the lists of texts -/
def isStr : Dv → Bool
  | .str x => PyData.strOk x
  | _ => false
theorem toPys_strs {r : Nat → Option PyData} : ∀ {ds : List Dv}, ds.all isStr = true → ∃ ps, toPysW r ds = some ps ∧ PyData.canLayAll0 ps = true ∧ ps.length = ds.length ∧ PyData.depthAll ps = 0
  | [], _ => ⟨[], by unfold toPysW; rfl, by unfold PyData.canLayAll0; rfl, rfl, by unfold PyData.depthAll; rfl⟩
  | d :: ds, h => by
    rw [List.all_cons, Bool.and_eq_true] at h
    obtain ⟨ps, e, c, l, dp⟩ := toPys_strs (r := r) h.2
    cases d with
    | str x =>
      have hx : PyData.strOk x = true := h.1
      refine ⟨.str x :: ps, by unfold toPysW; rw [e]; unfold toPyW; rfl, ?_, by simp [l], ?_⟩
      · unfold PyData.canLayAll0
        rw [c]
        simp [PyData.canLay0, hx]
      · unfold PyData.depthAll
        rw [dp]
        simp [PyData.depth]
    | _ => exact Bool.noConfusion h.1
/-- a list of texts told apart from the empty list -/
theorem k_neNil {l m : Nat} {ds : List Dv} (h : lsAt S l = some ds) (hs : ds.all isStr = true) (h2 : lsAt S m = some []) (q : Q (.bl (!decide (ds = []))) S) : Ok (dNe (.ref l) (.ref m) S) Q := by
  obtain ⟨ps, e, c, ln, dp⟩ := toPys_strs (r := rdr S 2) hs
  have e1 : toPy S (.ref l) = some (.list ps) := by
    unfold toPy toPyW rdr
    rw [h]
    show (toPysW (rdr S 2) ds).map PyData.list = _
    rw [e]; rfl
  have e2 : toPy S (.ref m) = some (.list []) := by
    unfold toPy toPyW rdr
    rw [h2]
    show (toPysW (rdr S 2) []).map PyData.list = _
    unfold toPysW; rfl
  refine k_ne rfl e1 e2 ?_ ?_ ?_
  · unfold eqOk SeqAt.shaped PyData.canLay0 PyData.depth
    rw [c, dp]; rfl
  · unfold eqOk SeqAt.shaped PyData.canLay0 PyData.depth PyData.canLayAll0 PyData.depthAll
    rfl
  · have e3 : PyData.eqv (.list ps) (.list []) = decide (ds = []) := by
      unfold PyData.eqv
      cases ds with
      | nil =>
        have : ps = [] := List.eq_nil_of_length_eq_zero ln
        subst this
        unfold PyData.eqvAll; rfl
      | cons d ds =>
        cases ps with
        | nil => simp at ln
        | cons p ps => unfold PyData.eqvAll; simp
    rw [e3]; exact q
/-! ### the deck -/
def Dk (l : Nat) (B : Int) (S : Store) : Prop := ∃ a b c : Int, lsAt S l = some [.int a, .int b, .int c] ∧ 0 ≤ a ∧ 0 ≤ b ∧ b < 2147483648 ∧ 0 ≤ c ∧ c ≤ B
theorem Dk.lt {l : Nat} {B : Int} (h : Dk l B S) : l < S.length := let ⟨_, _, _, e, _⟩ := h; ls_lt e
theorem Dk.up {l : Nat} {B B' : Int} (h : Dk l B S) (k : B ≤ B') : Dk l B' S := let ⟨a, b, c, e, p, q, r, s, t⟩ := h; ⟨a, b, c, e, p, q, r, s, Int.le_trans t k⟩
theorem Dk.kp {l : Nat} {B : Int} {S' : Store} {D : List Nat} (h : Dk l B S) (k : Kp D S S') (n : l ∉ D) : Dk l B S' := let ⟨a, b, c, e, r⟩ := h; ⟨a, b, c, k.ls n e, r⟩
theorem Dk.app {l : Nat} {B : Int} {o : Ob} (h : Dk l B S) : Dk l B (S ++ [o]) := let ⟨a, b, c, e, r⟩ := h; ⟨a, b, c, ls_app e, r⟩
theorem Dk.set {l m : Nat} {B : Int} {o : Ob} (h : Dk l B S) (n : m ≠ l) : Dk l B (S.set m o) := let ⟨a, b, c, e, r⟩ := h; ⟨a, b, c, by rw [ls_ne n]; exact e, r⟩
/-- what a def that draws from the deck leaves: all else, at most k cards more -/
def Dr (l : Nat) (B : Int) (S : Store) (P : Dv → Store → Prop) : Dv → Store → Prop := fun v S' => Kp [l] S S' ∧ Dk l B S' ∧ P v S'
/-! ### comprehensions over known items -/
theorem k_lcM {ci : CI} {own : List Nat} {g : CG} {te : CE} (h : Ok (ci δ S) fun it S1 => ∃ (ds : List Dv) (D : List Nat) (X : Nat → Store → Prop) (R : Nat → Dv → Prop), ds.length ≤ it.n ∧ ds.length < 16777216 ∧ (∀ l ∈ D, l < S1.length) ∧ (∀ i S, Kp D S1 S → it.f i S = some ds[i]?) ∧
    X 0 (S1 ++ [.lst []]) ∧ (∀ i S v, X i S → X i (S.set S1.length v)) ∧
    (∀ i d S, ds[i]? = some d → Kp D S1 S → X i S → Ok (g d (wipeE δ own) S) fun δ1 S2 => Ok (te δ1 S2) fun y S3 => R i y ∧ Kp D S S3 ∧ X (i + 1) S3) ∧
    (∀ ys S', ys.length = ds.length → (∀ i y, ys[i]? = some y → R i y) → lsAt S' S1.length = some ys → Kp D S1 S' → X ds.length S' → Q (.ref S1.length) S')) : Ok (cLc ci own g cYes te δ S) Q := by
  refine k_lc (h.imp fun it S1 h => ?_)
  obtain ⟨ds, D, X, R, hn, hz, hD, hf, x0, xs, st, fn⟩ := h
  refine ⟨fun i acc S => Kp D S1 S ∧ X i S ∧ acc.length = i ∧ i ≤ ds.length ∧ ∀ j y, acc[j]? = some y → R j y, ⟨Kp.refl.app, x0, rfl, Nat.zero_le _, fun j y e => by simp at e⟩, ?_⟩
  rintro i acc S ⟨k, x, la, li, ra⟩ hL
  have ef := hf i S k
  by_cases hi : i < ds.length
  · rw [List.getElem?_eq_getElem hi] at ef
    refine .inr ⟨Nat.lt_of_lt_of_le hi hn, ds[i], ef, (st i ds[i] S (List.getElem?_eq_getElem hi) k x).imp fun δ1 S2 h => ?_⟩
    show _ ∧ _
    refine ⟨fun _ => h.imp fun y S3 ⟨r, k3, x3⟩ => ?_, fun z => by cases z⟩
    have nL : S1.length ∉ D := fun z => Nat.lt_irrefl _ (hD _ z)
    refine ⟨k3.ls nL hL, by omega, (k.trans k3).set (.inl (Nat.le_refl _)), xs _ _ _ x3, by simp [la], hi, fun j z e => ?_⟩
    by_cases hj : j < acc.length
    · rw [List.getElem?_append_left hj] at e; exact ra j z e
    · have : j = acc.length := by
        have := (List.getElem?_eq_some_iff.mp e).1
        rw [List.length_append, List.length_singleton] at this
        omega
      subst this
      rw [List.getElem?_append_right (Nat.le_refl _), Nat.sub_self] at e
      cases e
      rw [la]; exact r
  · have hi2 : i = ds.length := by omega
    subst hi2
    rw [List.getElem?_eq_none (Nat.le_refl _)] at ef
    exact .inl ⟨ef, fn acc S la ra hL k x⟩
/-- with a test: the items that pass it -/
theorem k_lcF {ci : CI} {own : List Nat} {g : CG} {tt : CT} {te : CE} (h : Ok (ci δ S) fun it S1 => ∃ (ds : List Dv) (p : Dv → Bool) (f : Dv → Dv), ds.length ≤ it.n ∧ ds.length < 16777216 ∧ (∀ i S, Kp [] S1 S → it.f i S = some ds[i]?) ∧
    (∀ d S, d ∈ ds → Kp [] S1 S → Ok (g d (wipeE δ own) S) fun δ1 S2 => Ok (tt δ1 S2) fun k S3 => k = p d ∧ Kp [] S S3 ∧ (k = true → Ok (te δ1 S3) fun y S4 => y = f d ∧ Kp [] S3 S4)) ∧
    (∀ S', lsAt S' S1.length = some ((ds.filter p).map f) → Kp [] S1 S' → Q (.ref S1.length) S')) : Ok (cLc ci own g tt te δ S) Q := by
  refine k_lc (h.imp fun it S1 h => ?_)
  obtain ⟨ds, p, f, hn, hz, hf, st, fn⟩ := h
  refine ⟨fun i acc S => Kp [] S1 S ∧ acc = ((ds.take i).filter p).map f ∧ i ≤ ds.length, ⟨Kp.refl.app, rfl, Nat.zero_le _⟩, ?_⟩
  rintro i acc S ⟨k, rfl, li⟩ hL
  have ef := hf i S k
  by_cases hi : i < ds.length
  · rw [List.getElem?_eq_getElem hi] at ef
    have tk : ds.take (i + 1) = ds.take i ++ [ds[i]] := by rw [List.take_add_one, List.getElem?_eq_getElem hi]; rfl
    have bl : (((ds.take i).filter p).map f).length < 16777216 := by
      rw [List.length_map]
      have := List.length_filter_le p (ds.take i)
      rw [List.length_take] at this
      omega
    refine .inr ⟨Nat.lt_of_lt_of_le hi hn, ds[i], ef, (st ds[i] S (List.getElem_mem hi) k).imp fun δ1 S2 h => h.imp fun b S3 ⟨hb, k3, h⟩ => ⟨fun e => ?_, fun e => ?_⟩⟩
    · refine (h e).imp fun y S4 ⟨hy, k4⟩ => ⟨k4.ls (by simp) (k3.ls (by simp) hL), bl, ((k.trans k3).trans k4).set (.inl (Nat.le_refl _)), ?_, hi⟩
      rw [tk, List.filter_append, List.map_append, List.filter_cons, ← hb, e, if_pos rfl, hy]
      rfl
    · refine ⟨k3.ls (by simp) hL, k.trans k3, ?_, hi⟩
      rw [tk, List.filter_append, List.map_append, List.filter_cons, ← hb, e, if_neg Bool.false_ne_true]
      simp
  · have hi2 : i = ds.length := by omega
    subst hi2
    rw [List.getElem?_eq_none (Nat.le_refl _)] at ef
    refine .inl ⟨ef, fn S ?_ k⟩
    rw [List.take_length] at hL
    exact hL
/-! ### texts -/
theorem len_app (a b : Str) : (a ++ b).length = a.length + b.length := Str.length_append a b
theorem app_assoc (a b c : Str) : a ++ b ++ c = a ++ (b ++ c) := TL.ext_tl (by rw [TL.tl_append, TL.tl_append, TL.tl_append, TL.tl_append, List.append_assoc])
theorem join_cons (s x : Str) {ys : List Str} (h : ys ≠ []) : Str.join s (x :: ys) = x ++ s ++ Str.join s ys := by
  cases ys with
  | nil => exact absurd rfl h
  | cons y r => rfl
end
end Sm
namespace Sm
open PySem L2
section
variable {δ : Env'} {S : Store} {Q : Dv → Store → Prop}
theorem k_mtS {f : Dv → List Dv → Store → Res Dv} {c : CE} {a : CA} (h : Ok (c δ S) fun x S1 => ∃ z, x = .str z ∧ Ok (a δ S1) fun xs S2 => Ok (f (.str z) xs S2) Q) : Ok (cMt "str" f c a δ S) Q := k_mt (h.imp fun x S1 ⟨z, e, h⟩ => by
  subst e
  exact ⟨by simp [isTy], h⟩)
theorem k_mtL {f : Dv → List Dv → Store → Res Dv} {c : CE} {a : CA} (h : Ok (c δ S) fun x S1 => ∃ l ds, x = .ref l ∧ lsAt S1 l = some ds ∧ Ok (a δ S1) fun xs S2 => Ok (f (.ref l) xs S2) Q) : Ok (cMt "list" f c a δ S) Q := k_mt (h.imp fun x S1 ⟨l, ds, e, e2, h⟩ => by
  subst e
  refine ⟨?_, h⟩
  unfold isTy
  dsimp only
  rw [lsAt_iff.mp e2]
  simp)
theorem k_pn {δ : Env'} {S : Store} {P : List (Key × Dv) → Store → Prop} (h : P [] S) : okPs [] δ S P := h
theorem k_pc {k v : CE} {r : List (CE × CE)} {δ : Env'} {S : Store} {P : List (Key × Dv) → Store → Prop} (h : Ok (k δ S) fun x S1 => Ok (v δ S1) fun y S2 => ∃ kk, keyD x = some kk ∧ okPs r δ S2 fun ps S3 => P ((kk, y) :: ps) S3) : okPs ((k, v) :: r) δ S P := h
theorem putD_new {kvs : List (Key × Dv)} {k : Key} {d : Dv} (h : k ∉ kvs.map (·.1)) : putD kvs k d = kvs ++ [(k, d)] := by
  unfold putD
  rw [if_neg]
  intro z
  obtain ⟨kv, h1, h2⟩ := List.any_eq_true.mp z
  exact h (by rw [← of_decide_eq_true h2]; exact List.mem_map_of_mem h1)
theorem merge_nodup : ∀ {ps kvs : List (Key × Dv)}, ((kvs ++ ps).map (·.1)).Nodup → mergeD kvs ps = kvs ++ ps
  | [], kvs, _ => by simp [mergeD]
  | (k, d) :: ps, kvs, h => by
    have h1 : k ∉ kvs.map (·.1) := by
      intro z
      rw [List.map_append, List.nodup_append] at h
      exact h.2.2 k z k (by simp) rfl
    show mergeD (putD kvs k d) ps = _
    rw [putD_new h1, merge_nodup (by rw [List.append_assoc]; exact h), List.append_assoc]
    rfl
theorem merge_nil {ps : List (Key × Dv)} (h : (ps.map (·.1)).Nodup) : mergeD [] ps = ps := merge_nodup (kvs := []) h
theorem val_getD {P : Dv → Prop} {kvs : List (Key × Dv)} {k : Key} {y : Dv} (h : ∀ kv ∈ kvs, P kv.2) (hy : P y) : P ((valD kvs k).getD y) := by
  unfold valD
  cases e : kvs.find? fun kv => decide (kv.1 = k) with
  | none => exact hy
  | some kv => exact h kv (List.mem_of_find?_eq_some e)
theorem mul1 {i j : Int} (h : -18446744073709551616 < i ∧ i < 18446744073709551616) : mulOk i j = true := decide_eq_true (.inl h)
theorem at_get {α : Type} {ds : List α} {r : Int} (h0 : 0 ≤ r) (h1 : r < (ds.length : Int)) : ∃ d, atI ds r = some d ∧ d ∈ ds := by
  obtain ⟨k, rfl⟩ := Int.eq_ofNat_of_zero_le h0
  have hk : k < ds.length := by omega
  exact ⟨ds[k], atI_nat (List.getElem?_eq_getElem hk), List.getElem_mem hk⟩
/-- small numbers as texts -/
theorem show_len {i : Int} (h : i.natAbs < 100000) : strOk i = true ∧ (showI i).length ≤ 7 := by
  refine ⟨decide_eq_true ?_, ?_⟩
  · by_cases h0 : i.natAbs = 0
    · rw [h0]; decide
    · exact Nat.lt_of_lt_of_le ((Nat.log2_lt h0).mpr (show i.natAbs < 2 ^ 17 by omega)) (by decide)
  · have e : (toString i).length ≤ 6 := int_text_length_le10 (k := 5) (by decide) h
    show (Str.ofString (toString i)).length ≤ 7
    rw [ofString_length]
    omega
theorem merge_strs {ps : List (Key × Dv)} (ks : List Str) (h : ps.map (·.1) = ks.map Sum.inr) (n : ks.Nodup) : mergeD [] ps = ps := merge_nil (by
  rw [h, List.nodup_iff_pairwise_ne, List.pairwise_map]
  exact (List.nodup_iff_pairwise_ne.mp n).imp fun h e => h (Sum.inr.inj e))
theorem val_hit {k : Key} {d : Dv} {r : List (Key × Dv)} : valD ((k, d) :: r) k = some d := by simp [valD]
theorem val_miss {k j : Key} {d : Dv} {r : List (Key × Dv)} (h : j ≠ k) : valD ((j, d) :: r) k = valD r k := by simp [valD, List.find?_cons, h]
theorem val_hitS {x y : Str} {d : Dv} {r : List (Key × Dv)} (h : x = y) : valD ((.inr x, d) :: r) (.inr y) = some d := by subst h; exact val_hit
theorem val_missS {x y : Str} {d : Dv} {r : List (Key × Dv)} (h : decide (x = y) = false) : valD ((.inr x, d) :: r) (.inr y) = valD r (.inr y) := val_miss fun e => of_decide_eq_false h (Sum.inr.inj e)
theorem it_ref {S : Store} {l : Nat} {ds : List Dv} (h : lsAt S l = some ds) : itOf S (.ref l) = some ⟨ds.length, fun i S => (lsAt S l).map fun ds => ds[i]?⟩ := by
  unfold itOf
  dsimp only
  rw [h]; rfl
theorem it_at {S S1 : Store} {l i : Nat} {ds : List Dv} {D : List Nat} (h : lsAt S l = some ds) (k : Kp D S S1) (n : l ∉ D) : (lsAt S1 l).map (fun ds => ds[i]?) = some ds[i]? := by
  rw [k.ls n h]; rfl
theorem not1 {a b : Nat} (h : a ≠ b) : a ∉ [b] := by simp [h]
/-- the numbers below n -/
def rng (n : Nat) : List Dv := (List.range n).map fun i => .int (i : Nat)
theorem rng_len (n : Nat) : (rng n).length = n := by simp [rng]
theorem rng_at (n i : Nat) : some (if i < n then some (Dv.int (i : Nat)) else none) = some (rng n)[i]? := by
  unfold rng
  rw [List.getElem?_map]
  by_cases h : i < n
  · simp [h]
  · simp [h]
theorem rng_val {n i : Nat} {d : Dv} (h : (rng n)[i]? = some d) : d = .int (i : Nat) ∧ i < n := by
  have := rng_at n i
  rw [h] at this
  by_cases hi : i < n
  · rw [if_pos hi] at this
    exact ⟨(Option.some.inj (Option.some.inj this)).symm, hi⟩
  · rw [if_neg hi] at this
    cases Option.some.inj this
theorem ints_of {P : Int → Prop} : ∀ {ys : List Dv}, (∀ (i : Nat) (y : Dv), ys[i]? = some y → ∃ z, y = .int z ∧ P z) → ∃ is : List Int, ys = is.map Dv.int ∧ ∀ i ∈ is, P i
  | [], _ => ⟨[], rfl, fun _ h => by cases h⟩
  | y :: ys, h => by
    obtain ⟨z, rfl, hz⟩ := h 0 y rfl
    obtain ⟨is, e, hi⟩ := ints_of (ys := ys) fun i y e => h (i + 1) y (by simpa using e)
    refine ⟨z :: is, by rw [e]; rfl, fun i hm => ?_⟩
    rcases List.mem_cons.mp hm with rfl | hm
    · exact hz
    · exact hi i hm
theorem all_of {P : Dv → Prop} {ys : List Dv} (h : ∀ (i : Nat) (y : Dv), ys[i]? = some y → P y) : ∀ y ∈ ys, P y := fun y hy => by
  obtain ⟨i, hi⟩ := List.mem_iff_getElem?.mp hy
  exact h i y hi
theorem putD_all {P : Dv → Prop} {kvs : List (Key × Dv)} {k : Key} {d : Dv} (h : ∀ kv ∈ kvs, P kv.2) (hd : P d) : ∀ kv ∈ putD kvs k d, P kv.2 := by
  unfold putD
  split
  · intro kv hm
    obtain ⟨kv0, h0, rfl⟩ := List.mem_map.mp hm
    split
    · exact hd
    · exact h _ h0
  · intro kv hm
    rcases List.mem_append.mp hm with h0 | h0
    · exact h _ h0
    · rw [List.mem_singleton.mp h0]; exact hd
theorem putD_len {kvs : List (Key × Dv)} {k : Key} {d : Dv} : (putD kvs k d).length ≤ kvs.length + 1 := by
  unfold putD
  split
  · simp
  · simp
theorem ls_dc {S : Store} {r d : Nat} {ds : List Dv} {kvs : List (Key × Dv)} (h : lsAt S r = some ds) (h2 : dcAt S d = some kvs) : r ≠ d := fun e => by
  subst e
  rw [dc_ls h2] at h; cases h
theorem putS_new {kvs : List (Key × Dv)} {x : Str} {d : Dv} (ks : List Str) (h : kvs.map (·.1) = ks.map Sum.inr) (n : x ∉ ks) : putD kvs (.inr x) d = kvs ++ [(.inr x, d)] := putD_new (by
  rw [h]
  intro z
  obtain ⟨y, hy, e⟩ := List.mem_map.mp z
  exact n (by rw [← Sum.inr.inj e]; exact hy))
end
end Sm

namespace Sm
open PySem L2
section
variable {δ : Env'} {S : Store} {Q : Dv → Store → Prop}
/-- that text, nothing changed -/
def Pt (t : Str) (S : Store) : Dv → Store → Prop := fun r S' => r = .str t ∧ Kp [] S S'
abbrev txs (ts : List Str) : List Dv := ts.map Dv.str
theorem strsOf_txs : ∀ ts : List Str, strsOf (txs ts) = some ts
  | [] => rfl
  | t :: ts => by
    show (strsOf (txs ts)).map (t :: ·) = _
    rw [strsOf_txs ts]; rfl
theorem k_joinT {a : Str} {y : Dv} {ts : List Str} (h : seqOf S y = some (txs ts)) (h2 : (ts.map (·.length)).sum + ts.length * a.length ≤ 16777216) (q : Q (.str (Str.join a ts)) S) : Ok (mJoin (.str a) [y] S) Q :=
  k_join (by rw [h]; exact strsOf_txs ts) h2 q
theorem sum_le {L : Nat} : ∀ {ts : List Str}, (∀ t ∈ ts, t.length ≤ L) → (ts.map (·.length)).sum ≤ ts.length * L
  | [], _ => by simp
  | t :: ts, h => by
    have h1 := h t List.mem_cons_self
    have h2 := sum_le (ts := ts) fun x hx => h x (List.mem_cons_of_mem _ hx)
    rw [List.map_cons, List.sum_cons, List.length_cons, Nat.succ_mul]
    omega
theorem join_le (a : Str) (ts : List Str) : (Str.join a ts).length ≤ (ts.map (·.length)).sum + ts.length * a.length := StrLaws.join_length_le a ts
theorem ys_of : ∀ {ys : List Dv} {ts : List Str}, ys.length = ts.length → (∀ (i : Nat) (y : Dv), ys[i]? = some y → ∃ t, ts[i]? = some t ∧ y = .str t) → ys = txs ts
  | [], [], _, _ => rfl
  | [], _ :: _, h, _ => by simp at h
  | _ :: _, [], h, _ => by simp at h
  | y :: ys, t :: ts, h, k => by
    obtain ⟨t', e1, e2⟩ := k 0 y rfl
    cases e1
    rw [e2, ys_of (ys := ys) (ts := ts) (by simpa using h) fun i y e => k (i + 1) y (by simpa using e)]
    rfl
/-- a list of texts, one for each item -/
theorem lc_txt {ci : CI} {o : Nat} {te : CE} {as : List Dv} {ts : List Str} (ho : o < δ.length) (hT : ∀ (i : Nat) (a : Dv) (δ' : Env') (S : Store), as[i]? = some a → δ'[o]? = some (some a) → ∃ t, ts[i]? = some t ∧ Ok (te δ' S) (Pt t S)) (hl : ts.length = as.length) (hz : as.length < 16777216)
    (h : Ok (ci δ S) fun it S1 => as.length ≤ it.n ∧ (∀ i S, Kp [] S1 S → it.f i S = some as[i]?) ∧ ∀ S', lsAt S' S1.length = some (txs ts) → Kp [] S1 S' → Q (.ref S1.length) S') : Ok (cLc ci [o] (gN o) cYes te δ S) Q := by
  refine k_lcM (h.imp fun it S1 ⟨h1, h2, h3⟩ => ?_)
  refine ⟨as, [], fun _ _ => True, fun i y => ∃ t, ts[i]? = some t ∧ y = .str t, h1, hz, by simp, h2, trivial, fun _ _ _ _ => trivial, fun i d S2 hd _ _ => k_gN ?_, fun ys S' hy hr hL k _ => h3 S' (by rw [← ys_of (by omega) hr]; exact hL) k⟩
  have hlen : o < (wipeE δ [o]).length := by simp [wipeE]; exact ho
  obtain ⟨t, e, hok⟩ := hT i d ((wipeE δ [o]).set o (some d)) S2 hd (List.getElem?_set_self hlen)
  exact hok.imp fun y S3 ⟨e2, k⟩ => ⟨⟨t, e, e2⟩, k, trivial⟩
theorem lenA {a b : Str} : (a ++ b).length = a.length + b.length := len_app a b
/-- the lists of texts side by side -/
theorem k_addTx {x y : Dv} {a b : List Str} (h1 : lstOf S x = some (txs a)) (h2 : lstOf S y = some (txs b)) (h : a.length + b.length ≤ 16777216) (q : ∀ S', Kp [] S S' → lsAt S' S.length = some (txs (a ++ b)) → Q (.ref S.length) S') : Ok (dAdd x y S) Q :=
  k_addL h1 h2 (by rw [List.length_map, List.length_map]; exact h) (q _ Kp.refl.app (by
    have : (txs a ++ txs b : List Dv) = txs (a ++ b) := by simp [txs]
    rw [this]; exact ls_new))
theorem cut_tail {α : Type} (x : α) (xs : List α) : cutG (x :: xs) (some 1) none = xs := by
  unfold cutG
  rw [show HT.sIx (x :: xs).length 0 (some 1) = min 1 (x :: xs).length from HT.sIx_nat (x :: xs).length 0 1, HT.sIx_none]
  rw [show min 1 (x :: xs).length = 1 by rw [List.length_cons]; omega]
  show List.take ((x :: xs).length - 1) xs = xs
  rw [List.length_cons, Nat.add_sub_cancel, List.take_length]
theorem cut_head {α : Type} (x : α) (xs : List α) : cutG (x :: xs) none (some 1) = [x] := by
  unfold cutG
  rw [show HT.sIx (x :: xs).length (x :: xs).length (some 1) = min 1 (x :: xs).length from HT.sIx_nat (x :: xs).length (x :: xs).length 1, HT.sIx_none]
  rw [show min 1 (x :: xs).length = 1 by rw [List.length_cons]; omega]
  rfl
end
end Sm

namespace Sm
open PySem L2
/-! ### a <= b <= c -/
def tTwo (r1 r2 : R2) (ta tb tc : TE) : TE := fun σ H Q => ta σ H fun x H1 => tb σ H1 fun y H2 => r1 x y H2 fun z H3 => ∃ k, z = .bl k ∧ ((k = true ∧ tc σ H3 fun w H4 => r2 y w H4 Q) ∨ (k = false ∧ Q (.bl false) H3))
section
variable {C : Cx} {ct : Nat → Addr} {E : XK} {G : Gx} {ρ : List Addr} {H : Hp} {σ : St} {δ : Env'} {S : Store}
theorem pe_two {a b c : Expr} {o1 o2 : CmpOp} {r1 r2 : R2} {ta tb tc : TE} {pos : Pos} (h1 : OpR C (compareOp o1) r1) (h2 : OpR C (compareOp o2) r2) (ha : PE C a ta) (hb : PE C b tb) (hc : PE C c tc) (hm : lastMarks [o1, o2] [b, c] = false) :
    PE C (.Compare a [o1, o2] [b, c] pos) (tTwo r1 r2 ta tb tc) := by
  refine ⟨fun pins s σ H Q I h => ?_⟩
  refine PyProof.Rows.Compare_chain (rs := []) (ops := []) (thn (ha.run pins s σ H _ I h) fun v s1 ⟨x, H1, I1, rx, q1⟩ => ?_) hm
  refine PyProof.Rows.chain_link (thn (hb.run pins s1 σ H1 _ I1 q1) fun u s2 ⟨y, H2, I2, ry, q2⟩ => ?_)
  refine thn (h1 pins s2 σ H2 x y v u _ I2 rx ry q2) fun z s3 ⟨zv, H3, I3, rz, k, e, q3⟩ => ?_
  subst e
  cases rz
  refine wpAny_truthy_bool ?_
  rcases q3 with ⟨rfl, q3⟩ | ⟨rfl, q3⟩
  · refine PyProof.Rows.chain_last (thn (hc.run pins s3 σ H3 _ I3 q3) fun w s4 ⟨wv, H4, I4, rw', q4⟩ => ?_)
    exact h2 pins s4 σ H4 y wv u w Q I4 ry rw' q4
  · exact ⟨.bl false, H3, I3, rfl, q3⟩
theorem pt_two {a b c : Expr} {o1 o2 : CmpOp} {r1 r2 : R2} {ta tb tc : TE} {pos : Pos} (h1 : OpR C (compareOp o1) r1) (h2 : OpR C (compareOp o2) r2) (ha : PE C a ta) (hb : PE C b tb) (hc : PE C c tc) (hm : lastMarks [o1, o2] [b, c] = false) :
    PT C (.Compare a [o1, o2] [b, c] pos) (fun σ H Q => tTwo r1 r2 ta tb tc σ H fun x H' => ∃ k, x = .bl k ∧ Q k H') := by
  refine ⟨fun pins s σ H Q I h => ?_⟩
  refine PyProof.Rows.isTrue_chain (rs := []) (ops := []) (thn (ha.run pins s σ H _ I h) fun v s1 ⟨x, H1, I1, rx, q1⟩ => ?_) hm
  refine PyProof.Rows.test_link (thn (hb.run pins s1 σ H1 _ I1 q1) fun u s2 ⟨y, H2, I2, ry, q2⟩ => ?_)
  refine thn (h1 pins s2 σ H2 x y v u _ I2 rx ry q2) fun z s3 ⟨zv, H3, I3, rz, k, e, q3⟩ => ?_
  subst e
  cases rz
  refine wpAny_truthy_bool ?_
  rcases q3 with ⟨rfl, q3⟩ | ⟨rfl, q3⟩
  · refine PyProof.Rows.test_last (thn (hc.run pins s3 σ H3 _ I3 q3) fun w s4 ⟨wv, H4, I4, rw', q4⟩ => ?_)
    refine thn (h2 pins s4 σ H4 y wv u w _ I4 ry rw' q4) fun d s5 ⟨dv, H5, I5, rd, k, e, q5⟩ => ?_
    subst e
    cases rd
    exact wpAny_truthy_bool ⟨H5, I5, q5⟩
  · obtain ⟨k, e, q⟩ := q3
    cases e
    exact ⟨H3, I3, q⟩
def cTwo (f g : Dv → Dv → Store → Res Dv) (a b c : CE) : CE := fun δ S => (a δ S).bind fun x S1 => (b δ S1).bind fun y S2 => (f x y S2).bind fun d S3 => match d with
  | .bl true => (c δ S3).bind fun w S4 => g y w S4
  | .bl false => .ok (.bl false) S3
  | _ => .bad
theorem Op2.bnd {r : R2} {f : Dv → Dv → Store → Res Dv} (o : Op2 G E r f) {α γ : Type} {rel : List Addr → Hp → α → γ → Prop} {k : Dv → Store → Res α} {R : VK} {Q : γ → Hp → Prop} {dx dy : Dv} {x y : V} (hR : RH G ρ S H) (rx : VR G ρ H dx x) (ry : VR G ρ H dy y)
    (h : Po G E rel ρ H ((f dx dy S).bind k) Q) (step : ∀ a S1, f dx dy S = .ok a S1 → ∀ ρ1 H1 b, Ext ρ H ρ1 H1 → RH G ρ1 S1 H1 → VR G ρ1 H1 a b → Po G E rel ρ1 H1 (k a S1) Q → R b H1) : r x y H R :=
  o ρ S H dx dy x y R hR rx ry (Po.bnd h step)
theorem two_step {r1 r2 : R2} {f g : Dv → Dv → Store → Res Dv} {a b c : CE} (o1 : Op2 G E r1 f) (o2 : Op2 G E r2 g) {Q : VK} (h : tE G E (cTwo f g a b c) σ H Q) : tTwo r1 r2 (tE G E a) (tE G E b) (tE G E c) σ H Q := by
  obtain ⟨ρ, δ, S, hR, hF, h⟩ := h
  refine tE.mk hR hF (Po.bnd h fun dx S1 _ ρ1 H1 x e1 R1 rx h1 => tE.mk R1 (hF.mono e1) (Po.bnd h1 fun dy S2 _ ρ2 H2 y e2 R2 ry h2 => ?_))
  refine Op2.bnd o1 R2 (rx.mono e2) ry h2 fun d S3 _ ρ3 H3 z e3 R3 rz h3 => ?_
  cases rz with
  | bl k => cases k with
    | true => exact ⟨true, rfl, .inl ⟨rfl, tE.mk R3 (((hF.mono e1).mono e2).mono e3) (Po.bnd h3 fun w S4 _ ρ4 H4 wv e4 R4 rw' h4 => o2 ρ4 S4 H4 dy w y wv Q R4 ((ry.mono e3).mono e4) rw' h4)⟩⟩
    | false => exact ⟨false, rfl, .inr ⟨rfl, h3.ret R3 (.bl false)⟩⟩
  | _ => exact h3.elim
theorem q_two {a b c : Expr} {o1 o2 : CmpOp} {r1 r2 : R2} {f g : Dv → Dv → Store → Res Dv} {ca cb cc : CE} {pos : Pos} (h1 : OpR C (compareOp o1) r1) (p1 : Op2 (gx C ct) E r1 f) (h2 : OpR C (compareOp o2) r2) (p2 : Op2 (gx C ct) E r2 g) (ha : PE C a (tE (gx C ct) E ca)) (hb : PE C b (tE (gx C ct) E cb)) (hc : PE C c (tE (gx C ct) E cc)) (hm : lastMarks [o1, o2] [b, c] = false := by rfl) :
    PE C (.Compare a [o1, o2] [b, c] pos) (tE (gx C ct) E (cTwo f g ca cb cc)) := PE.weak (pe_two h1 h2 ha hb hc hm) fun σ H Q h => two_step p1 p2 h
theorem qt_two {a b c : Expr} {o1 o2 : CmpOp} {r1 r2 : R2} {f g : Dv → Dv → Store → Res Dv} {ca cb cc : CE} {pos : Pos} (h1 : OpR C (compareOp o1) r1) (p1 : Op2 (gx C ct) E r1 f) (h2 : OpR C (compareOp o2) r2) (p2 : Op2 (gx C ct) E r2 g) (ha : PE C a (tE (gx C ct) E ca)) (hb : PE C b (tE (gx C ct) E cb)) (hc : PE C c (tE (gx C ct) E cc)) (hm : lastMarks [o1, o2] [b, c] = false := by rfl) :
    PT C (.Compare a [o1, o2] [b, c] pos) (tT (gx C ct) E (cTst (cTwo f g ca cb cc))) := PT.weak (pt_two h1 h2 ha hb hc hm) fun σ H Q h => two_step p1 p2 (tst_step h)
/-! ### all(..) of truths; a text < a text; a text in a text; xs.extend(ys) -/
def blsOf : List Dv → Option (List Bool)
  | [] => some []
  | .bl b :: r => (blsOf r).map (b :: ·)
  | _ => none
theorem blsOf_map : ∀ {ds : List Dv} {bs : List Bool}, blsOf ds = some bs → ds = bs.map Dv.bl
  | [], _, h => by cases h; rfl
  | .bl b :: r, _, h => by
    unfold blsOf at h
    obtain ⟨zs, e, rfl⟩ := Option.map_eq_some_iff.mp h
    rw [blsOf_map e]; rfl
theorem VRs.bls : ∀ {bs : List Bool} {vs : List V}, VRs G ρ H (bs.map Dv.bl) vs → vs = bs.map V.bl
  | [], _, .nil => rfl
  | b :: bs, _, .cons h hs => by cases h; rw [VRs.bls hs]; rfl
def bAll (ds : List Dv) (S : Store) : Res Dv := match ds with
  | [x] => (match (lstOf S x).bind blsOf with
    | some bs => .ok (.bl (bs.all id)) S
    | none => .bad)
  | _ => .bad
theorem o_all : OpL G E (rAll G.K) bAll := by
  intro ρ S H ds vs Q R rs h
  unfold bAll at h
  split at h
  · rename_i d
    obtain ⟨v, rfl, rv⟩ := rs.one
    split at h
    · rename_i bs e
      obtain ⟨es, e1, e2⟩ := Option.bind_eq_some_iff.mp e
      obtain ⟨a, us, rfl, q, hs⟩ := lst_at R rv e1
      rw [blsOf_map e2] at hs
      rw [VRs.bls hs] at q
      exact ⟨a, bs, rfl, q, h.ret R (.bl _)⟩
    · exact h.elim
  · exact h.elim
def dLtS : Dv → Dv → Store → Res Dv
  | .str a, .str b, S => .ok (.bl (decide (a.cps.toList < b.cps.toList))) S
  | _, _, _ => .bad
theorem o_ltS : Op2 G E (fun x y H Q => ∃ i j, x = .str i ∧ y = .str j ∧ Q (.bl (decide (i.cps.toList < j.cps.toList))) H) dLtS := by
  intro ρ S H dx dy x y Q R rx ry h
  cases rx with
  | str i => cases ry with
    | str j => exact ⟨i, j, rfl, rfl, h.ret R (.bl _)⟩
    | _ => exact h.elim
  | _ => exact h.elim
end
end Sm

namespace Sm
open PySem L2
section
variable {C : Cx} {ct : Nat → Addr} {E : XK} {G : Gx} {ρ : List Addr} {H : Hp} {σ : St} {δ : Env'} {S : Store}
/-! ### a text in a text -/
def inStr (neg : Bool) (a b : Str) : Bool := if neg then !(!(Builtin.Str.occurrences b a 0 b.length 1).isEmpty) else !(Builtin.Str.occurrences b a 0 b.length 1).isEmpty
def dInS (neg : Bool) : Dv → Dv → Store → Res Dv
  | .str a, .str b, S => .ok (.bl (inStr neg a b)) S
  | _, _, _ => .bad
theorem o_inS : Op2 G E (fun x y H Q => ∃ i j, x = .str i ∧ y = .str j ∧ Q (.bl (!(Builtin.Str.occurrences j i 0 j.length 1).isEmpty)) H) (dInS false) := by
  intro ρ S H dx dy x y Q R rx ry h
  cases rx with
  | str i => cases ry with
    | str j => exact ⟨i, j, rfl, rfl, h.ret R (.bl _)⟩
    | _ => exact h.elim
  | _ => exact h.elim
theorem o_ninS : Op2 G E (fun x y H Q => ∃ i j, x = .str i ∧ y = .str j ∧ Q (.bl (!(!(Builtin.Str.occurrences j i 0 j.length 1).isEmpty))) H) (dInS true) := by
  intro ρ S H dx dy x y Q R rx ry h
  cases rx with
  | str i => cases ry with
    | str j => exact ⟨i, j, rfl, rfl, h.ret R (.bl _)⟩
    | _ => exact h.elim
  | _ => exact h.elim
/-! ### xs.extend(ys) -/
def mExt (x : Dv) (as : List Dv) (S : Store) : Res Dv := match x, as with
  | .ref l, [.ref m] => (match lsAt S l, lsAt S m with
    | some ds, some es => if lineOk (ds.length + es.length) then .ok .non (S.set l (.lst (ds ++ es))) else .bad
    | _, _ => .bad)
  | _, _ => .bad
theorem o_ext : OpM G E rExtend mExt := by
  intro ρ S H d v ds vs Q R rv rs h
  unfold mExt at h
  split at h
  · rename_i l m
    obtain ⟨u, rfl, ru⟩ := rs.one
    cases rv with
    | @ref _ a ha => cases ru with
      | @ref _ b hb =>
        split at h
        · rename_i xs ys e1 e2
          obtain ⟨us, q1, s1⟩ := R.lst (lsAt_iff.mp e1) ha
          obtain ⟨ws, q2, s2⟩ := R.lst (lsAt_iff.mp e2) hb
          by_cases hz : lineOk (xs.length + ys.length) = true
          · rw [if_pos hz] at h
            refine ⟨a, b, us, ws, rfl, rfl, q1, q2, by rw [← s1.length, ← s2.length]; exact line_of hz, ?_⟩
            exact h.retX (R.wext (lsAt_iff.mp e1) ha) (R.write (lsAt_iff.mp e1) ha (.lst (s1.append s2))) .non
          · rw [if_neg hz] at h; exact h.elim
        · exact h.elim
  · exact h.elim
/-! ### list(a dict) -/
def keyDv : Key → Dv
  | .inl i => .int i
  | .inr x => .str x
theorem keyDv_rel (k : Key) : VR G ρ H (keyDv k) (kV k) := by
  cases k with
  | inl i => exact .int i
  | inr x => exact .str x
theorem keys_rel : ∀ {kvs : List (Key × Dv)} {ws : List (Key × V)}, KVR G ρ H kvs ws → VRs G ρ H (kvs.map fun kv => keyDv kv.1) (ws.map fun kv => kV kv.1)
  | _, _, .nil => .nil
  | (k, d) :: r, _, .cons h hs => by
    rw [List.map_cons, List.map_cons, ← h.1]
    exact .cons (keyDv_rel k) (keys_rel hs)
def bListD (ds : List Dv) (S : Store) : Res Dv := match ds with
  | [x] => (match dictOf S x with
    | some kvs => .ok (.ref S.length) (S ++ [.lst (kvs.map fun kv => keyDv kv.1)])
    | none => .bad)
  | _ => .bad
theorem o_listD : OpL G E rListD bListD := by
  intro ρ S H ds vs Q R rs h
  unfold bListD at h
  split at h
  · rename_i d
    obtain ⟨v, rfl, rv⟩ := rs.one
    cases rv with
    | @ref l a ha =>
      have e0 : dictOf S (.ref l) = dcAt S l := rfl
      rw [e0] at h
      cases e : dcAt S l with
      | none => rw [e] at h; exact h.elim
      | some kvs =>
        rw [e] at h
        obtain ⟨ws, q, hs⟩ := R.dct (dcAt_iff.mp e) ha
        exact (show ∃ p kvs, [V.ref a] = [.ref p] ∧ H p = some (.dK kvs) ∧ ∀ q, H q = none → Q (.ref q) (upd H q (.lst (kvs.map fun kv => kV kv.1))) from ⟨a, ws, rfl, q, fun p hp => h.retX (.new hp) (R.alloc hp (.lst (keys_rel hs))) (.ref (by rw [← R.len]; simp))⟩)
    | _ => exact h.elim
  · exact h.elim
/-! ### enumerate(a list), zip of lists or of tuples -/
def cEnL (c : CE) : CI := fun δ S => (c δ S).bind fun d S1 => match d with
  | .ref l => (match lsAt S1 l with
    | some ds => .ok ⟨ds.length, fun i S => (lsAt S l).map fun ds => ds[i]?.map fun x => .tup [.int (i : Nat), x]⟩ S1
    | none => .bad)
  | .frl ds => .ok ⟨ds.length, fun i _ => some (ds[i]?.map fun x => .tup [.int (i : Nat), x])⟩ S1
  | _ => .bad
theorem sim_enL {a : Addr} {l : Nat} (ha : ρ[l]? = some a) : ISim G ρ H (fun i S => (lsAt S l).map fun ds => ds[i]?.map fun x => Dv.tup [.int (i : Nat), x]) (Ite G.K a) := fun i ρ' S' H' e R => by
  refine ⟨fun d h => ?_, fun h => ?_⟩
  · obtain ⟨ds, e1, e2⟩ := Option.map_eq_some_iff.mp h
    obtain ⟨x, e3, rfl⟩ := Option.map_eq_some_iff.mp e2
    obtain ⟨vs, q, hs⟩ := R.lst (lsAt_iff.mp e1) (e.at ha)
    obtain ⟨v, e4, r⟩ := hs.get e3
    refine ⟨⟨vs, v, .of q, e4⟩, fun y H1 hy => ?_⟩
    obtain ⟨T, w, rfl, hT, rfl, hw⟩ := hy
    have := hw vs (.of q)
    rw [e4] at this
    cases this
    exact ⟨.new0 hT, R.new hT, .tup (.inl upd_same) (.cons (.int _) (.cons (r.mono (.new0 hT)) .nil))⟩
  · obtain ⟨ds, e1, e2⟩ := Option.map_eq_some_iff.mp h
    obtain ⟨vs, q, hs⟩ := R.lst (lsAt_iff.mp e1) (e.at ha)
    exact ⟨vs, .of q, by rw [← hs.length]; exact List.getElem?_eq_none_iff.mp (Option.map_eq_none_iff.mp e2)⟩
theorem sim_enF {a : Addr} {vs : List V} {ds : List Dv} (hq : FrlAt G.K H a vs) (hs : VRs G ρ H ds vs) : ISim G ρ H (fun i _ => some (ds[i]?.map fun x => Dv.tup [.int (i : Nat), x])) (Ite G.K a) := fun i ρ' S' H' e R => by
  have q : SqL G.K H' a vs := (hq.mono e).sq
  have hs := hs.mono e
  refine ⟨fun d h => ?_, fun h => ?_⟩
  · obtain ⟨x, e3, rfl⟩ := Option.map_eq_some_iff.mp (Option.some.inj h)
    obtain ⟨v, e4, r⟩ := hs.get e3
    refine ⟨⟨vs, v, q, e4⟩, fun y H1 hy => ?_⟩
    obtain ⟨T, w, rfl, hT, rfl, hw⟩ := hy
    have := hw vs q
    rw [e4] at this
    cases this
    exact ⟨.new0 hT, R.new hT, .tup (.inl upd_same) (.cons (.int _) (.cons (r.mono (.new0 hT)) .nil))⟩
  · exact ⟨vs, q, by rw [← hs.length]; exact List.getElem?_eq_none_iff.mp (Option.map_eq_none_iff.mp (Option.some.inj h))⟩
theorem qi_enL {e : Expr} {c : CE} {p pos tpos : Pos} {elts : List Expr} {kk : Nat} (hg : Gl C "enumerate") (hm : C.mg "enumerate" = none) (he : PE C e (tE (gx C ct) E c)) (hs : starEach [e] C.env = [(false, eval e C.env)] := by rfl) :
    PI C (.Tuple elts kk tpos) (.Call (.Name "enumerate" p) [e] [] pos) (tI (gx C ct) E (cEnL c)) :=
  PI.weak (pi_enum hg hm (pa_cons he pa_nil hs) hs) fun σ H R ⟨ρ, δ, S, hR, hF, h⟩ => tE.mk hR hF (Po.bnd h fun d S1 _ ρ1 H1 v e1 R1 rv h1 => by
    cases rv with
    | @frl a vs ds hq hs => exact ⟨a, vs, rfl, hq.sq, h1.ret R1 (sim_enF (G := gx C ct) hq hs)⟩
    | @ref l a ha =>
      dsimp only at h1
      cases e2 : lsAt S1 l with
      | none => rw [e2] at h1; exact h1.elim
      | some ds =>
        rw [e2] at h1
        obtain ⟨vs, q, hs⟩ := R1.lst (lsAt_iff.mp e2) ha
        exact ⟨a, vs, rfl, .of q, h1.ret R1 (sim_enL (G := gx C ct) ha)⟩
    | _ => exact h1.elim)
end
end Sm

namespace Sm
open PySem L2
section
variable {C : Cx} {ct : Nat → Addr} {E : XK} {G : Gx} {ρ : List Addr} {H : Hp} {σ : St} {δ : Env'} {S : Store}
/-! ### {k: v for ..} -/
def loopDc (f : Nat → Store → Option (Option Dv)) (g : CG) (tt : CT) (tk tv : CE) (δ : Env') (l : Nat) : Nat → Nat → Store → Res Unit
  | n, i, S => match f i S with
    | none => .bad
    | some none => .ok () S
    | some (some d) => match n with
      | 0 => .bad
      | n + 1 => match g d δ S with
        | .ok δ1 S1 => (match tt δ1 S1 with
          | .ok true S2 => (match tk δ1 S2 with
            | .ok y S3 => (match tv δ1 S3 with
              | .ok z S4 => (match dcAt S4 l with
                | some kvs => (match keyD y with
                  | some k => if decide (kvs.length < 16777216) then loopDc f g tt tk tv δ l n (i + 1) (S4.set l (.dct (putD kvs k z))) else .bad
                  | none => .bad)
                | none => .bad)
              | _ => .bad)
            | _ => .bad)
          | .ok false S2 => loopDc f g tt tk tv δ l n (i + 1) S2
          | _ => .bad)
        | _ => .bad
def cDc (ci : CI) (own : List Nat) (g : CG) (tt : CT) (tk tv : CE) : CE := fun δ S => (ci δ S).bind fun it S1 => (loopDc it.f g tt tk tv (wipeE δ own) S1.length it.n 0 (S1 ++ [.dct []])).bind fun _ S2 => .ok (.ref S1.length) S2
theorem dc_step {ci : CI} {own : List Nat} {g : CG} {tt : CT} {tk tv : CE} {Q : VK} (h : tE G E (cDc ci own g tt tk tv) σ H Q) : tDc (tI G E ci) (tG G E0 own g) (tT G E0 tt) (tE G E0 tk) (tE G E0 tv) own σ H Q := by
  obtain ⟨ρ, δ, S, hR, hF, h⟩ := h
  refine ⟨ρ, δ, S, hR, hF, Po.bnd h fun it S1 _ ρ1 H1 J e1 R1 sim h1 D hD => ?_⟩
  have xD : Ext ρ1 H1 (ρ1 ++ [D]) (upd H1 D (.dK [])) := .new hD
  have RD : RH G (ρ1 ++ [D]) (S1 ++ [.dct []]) (upd H1 D (.dK [])) := R1.alloc hD (.dct .nil)
  have hl : (ρ1 ++ [D])[S1.length]? = some D := by rw [← R1.len]; simp
  refine ⟨fun i m H => ∃ ρ S, Ext (ρ1 ++ [D]) (upd H1 D (.dK [])) ρ H ∧ RH G ρ S H ∧ Po G E (rV G) ρ H ((loopDc it.f g tt tk tv (wipeE δ own) S1.length m i S).bind fun _ S2 => .ok (.ref S1.length) S2) Q, ⟨it.n, _, _, .refl _ _, RD, Po.mono h1 xD⟩, ?_⟩
  rintro i m H ⟨ρ, S, ex, R, h⟩
  obtain ⟨s1, s2⟩ := sim i ρ S H (xD.trans ex) R
  unfold loopDc at h
  cases ef : it.f i S with
  | none => rw [ef] at h; exact h.elim
  | some o =>
    rw [ef] at h
    cases o with
    | none => exact .inl ⟨s2 ef, h.ret R (.ref (ex.at hl))⟩
    | some d =>
      dsimp only at h
      cases m with
      | zero => exact h.elim
      | succ m =>
        dsimp only at h
        obtain ⟨go, yl⟩ := s1 d ef
        refine .inr ⟨go, fun H' => ∃ ρ' S', Ext (ρ1 ++ [D]) (upd H1 D (.dK [])) ρ' H' ∧ RH G ρ' S' H' ∧ Po G E (rV G) ρ' H' ((loopDc it.f g tt tk tv (wipeE δ own) S1.length m (i + 1) S').bind fun _ S2 => .ok (.ref S1.length) S2) Q, fun H' q => ⟨m, Nat.lt_succ_self m, q⟩, fun x H' y => ?_⟩
        obtain ⟨x1, R', rd⟩ := yl x H' y
        have h := Po.mono h x1
        have hF' : FR G ρ H' (wipeE δ own) (L2.wipe σ own) := ((((hF.mono e1).mono xD).mono ex).mono x1).wipe own
        refine ⟨ρ, wipeE δ own, S, d, R', hF', rd, ?_⟩
        cases eg : g d (wipeE δ own) S with
        | bad => rw [eg] at h; exact h
        | ex e S2 => rw [eg] at h; exact h.elim
        | ok δ1 S2 =>
          rw [eg] at h
          refine fun ρ2 H2 σ2 x2 R2 F2 so => ⟨so.wipe, ρ2, δ1, S2, R2, F2, ?_⟩
          have h := Po.mono h x2
          dsimp only at h
          cases et : tt δ1 S2 with
          | bad => rw [et] at h; exact h
          | ex e S3 => rw [et] at h; exact h.elim
          | ok k S3 =>
            rw [et] at h
            intro ρ3 H3 k' x3 R3 rk
            cases rk
            have h := Po.mono h x3
            cases k with
            | false =>
              rw [if_neg Bool.false_ne_true]
              exact ⟨ρ3, S3, ((ex.trans x1).trans x2).trans x3, R3, h⟩
            | true =>
              rw [if_pos rfl]
              refine ⟨ρ3, δ1, S3, R3, F2.mono x3, ?_⟩
              dsimp only at h
              cases ee : tk δ1 S3 with
              | bad => rw [ee] at h; exact h
              | ex e S4 => rw [ee] at h; exact h.elim
              | ok y S4 =>
                rw [ee] at h
                intro ρ4 H4 yv x4 R4 ry
                have h := Po.mono h x4
                dsimp only at h
                refine ⟨ρ4, δ1, S4, R4, (F2.mono x3).mono x4, ?_⟩
                cases ef2 : tv δ1 S4 with
                | bad => rw [ef2] at h; exact h
                | ex e S5 => rw [ef2] at h; exact h.elim
                | ok z S5 =>
                  rw [ef2] at h
                  intro ρ5 H5 zv x5 R5 rz
                  have h := Po.mono h x5
                  dsimp only at h
                  have xa := ((((ex.trans x1).trans x2).trans x3).trans x4).trans x5
                  cases el : dcAt S5 S1.length with
                  | none => rw [el] at h; exact h.elim
                  | some kvs =>
                    rw [el] at h
                    dsimp only at h
                    cases ek : keyD y with
                    | none => rw [ek] at h; exact h.elim
                    | some key =>
                      rw [ek] at h
                      dsimp only at h
                      obtain ⟨vs, q, hs⟩ := R5.dct (dcAt_iff.mp el) (xa.at hl)
                      by_cases hz : decide (kvs.length < 16777216) = true
                      · rw [if_pos hz] at h
                        have xw : Ext ρ5 H5 ρ5 (upd H5 D (.dK (putK vs key zv))) := R5.wext (dcAt_iff.mp el) (xa.at hl)
                        refine ⟨vs, key, key_at ry ek, q, by rw [← hs.length, sizeLine_eq]; exact of_decide_eq_true hz, ρ5, _, xa.trans xw, R5.write (dcAt_iff.mp el) (xa.at hl) (.dct (hs.put rz key)), Po.mono h xw⟩
                      · rw [if_neg hz] at h; exact h.elim
theorem q_dc {kx vx tg iter : Expr} {ifs : List Expr} {scope : Scope} {own : List (Str × Nat)} {pos : Pos} {ci : CI} {g : CG} {tt : CT} {tk tv : CE} (hc : C.calm = true) (hN : C.N.Nodup) (hi : PI C tg iter (tI (gx C ct) E ci)) (ok : BlkOk C.N C.env.scope scope own)
    (hg : ∀ (s : Shared) (H : Hp) (B : Addr) (cl : List (Str × Addr)) (fp : List Addr), PG (C.blk s H scope (compEnvC scope cl B C.env) fp) tg (tG (gx C ct) E0 (own.map (·.2)) g)) (ht : ∀ (s : Shared) (H : Hp) (B : Addr) (cl : List (Str × Addr)) (fp : List Addr), PTs (C.blk s H scope (compEnvC scope cl B C.env) fp) ifs (tT (gx C ct) E0 tt))
    (hk : ∀ (s : Shared) (H : Hp) (B : Addr) (cl : List (Str × Addr)) (fp : List Addr), PE (C.blk s H scope (compEnvC scope cl B C.env) fp) kx (tE (gx C ct) E0 tk))
    (he : ∀ (s : Shared) (H : Hp) (B : Addr) (cl : List (Str × Addr)) (fp : List Addr), PE (C.blk s H scope (compEnvC scope cl B C.env) fp) vx (tE (gx C ct) E0 tv)) (hs : ∀ x, foldedSetIterable iter C.env x = pure x := by intro _; rfl) :
    PE C (.DictComp kx vx [⟨tg, iter, ifs, 0⟩] scope pos) (tE (gx C ct) E (cDc ci (own.map (·.2)) g tt tk tv)) :=
  PE.weak (pe_dc hc hN hi ok hg ht hk he hs) fun σ H Q h => dc_step h
end
end Sm

namespace Sm
open PySem L2
section
variable {C : Cx} {ct : Nat → Addr} {E : XK} {G : Gx} {ρ : List Addr} {H : Hp} {σ : St} {δ : Env'} {S : Store}
/-! ### [e for .. for ..] -/
/-- the inner loop; l: the list that grows -/
def loopIn (f : Nat → Store → Option (Option Dv)) (g : CG) (tt : CT) (te : CE) (δ : Env') (l : Nat) : Nat → Nat → Store → Res Unit := loopC f g tt te δ l
def loopC2 (f : Nat → Store → Option (Option Dv)) (g : CG) (tt : CT) (ci1 : CI) (vs1 : List Nat) (g1 : CG) (tt1 : CT) (te : CE) (δ : Env') (l : Nat) : Nat → Nat → Store → Res Unit
  | n, i, S => match f i S with
    | none => .bad
    | some none => .ok () S
    | some (some d) => match n with
      | 0 => .bad
      | n + 1 => match g d δ S with
        | .ok δ1 S1 => (match tt δ1 S1 with
          | .ok true S2 => (match ci1 δ1 S2 with
            | .ok it S3 => (match loopC it.f g1 tt1 te (wipeE δ1 vs1) l it.n 0 S3 with
              | .ok _ S4 => loopC2 f g tt ci1 vs1 g1 tt1 te δ l n (i + 1) S4
              | _ => .bad)
            | _ => .bad)
          | .ok false S2 => loopC2 f g tt ci1 vs1 g1 tt1 te δ l n (i + 1) S2
          | _ => .bad)
        | _ => .bad
def cLc2 (ci : CI) (own : List Nat) (g : CG) (tt : CT) (ci1 : CI) (vs1 : List Nat) (g1 : CG) (tt1 : CT) (te : CE) : CE := fun δ S => (ci δ S).bind fun it S1 => (loopC2 it.f g tt ci1 vs1 g1 tt1 te (wipeE δ own) S1.length it.n 0 (S1 ++ [.lst []])).bind fun _ S2 => .ok (.ref S1.length) S2
/-- what follows an inner loop's end -/
def PoU (G : Gx) (ρ : List Addr) (H : Hp) (r : Res Unit) (P : List Addr → Store → Hp → Prop) : Prop := match r with
  | .ok _ S => ∀ ρ' H', Ext ρ H ρ' H' → RH G ρ' S H' → P ρ' S H'
  | _ => False
theorem PoU.mono {ρ1 : List Addr} {H1 : Hp} {r : Res Unit} {P : List Addr → Store → Hp → Prop} (h : PoU G ρ H r P) (e : Ext ρ H ρ1 H1) : PoU G ρ1 H1 r P := by
  cases r with
  | ok a S => exact fun ρ' H' e' => h ρ' H' (e.trans e')
  | ex a S => exact h
  | bad => exact h
/-- the inner loop -/
theorem in_step {D : Addr} {l : Nat} {g : CG} {tt : CT} {te : CE} {own : List Nat} {δ : Env'} {σ : St} {ρ0 : List Addr} {H0 : Hp} {Nx : Hp → Prop} {P : List Addr → Store → Hp → Prop} {it : IT} {J : It} {S : Store} (hl : ρ0[l]? = some D) (hF : FR G ρ0 H0 δ σ) (R0 : RH G ρ0 S H0) (sim : ISim G ρ0 H0 it.f J) (hP : ∀ ρ S H, Ext ρ0 H0 ρ H → P ρ S H → Nx H)
    (h : PoU G ρ0 H0 (loopC it.f g tt te (wipeE δ own) l it.n 0 S) P) : ∃ W1 : Nat → Nat → Hp → Prop, (∃ m, W1 0 m H0) ∧ ∀ j k H, W1 j k H →
      (J.stop j H ∧ Nx H) ∨ (J.go j H ∧ ∃ Nx1 : Hp → Prop, (∀ H', Nx1 H' → ∃ k', k' < k ∧ W1 (j + 1) k' H') ∧ ∀ x H', J.yld j H x H' → tG G E0 own g x (L2.wipe σ own) H' fun σ3 H5 => L2.wipe σ3 own = L2.wipe σ own ∧ tT G E0 tt σ3 H5 fun b H6 =>
        if b = true then tE G E0 te σ3 H6 fun y H7 => ∃ acc, H7 D = some (.lst acc) ∧ acc.length < sizeLine ∧ Nx1 (upd H7 D (.lst (acc ++ [y]))) else Nx1 H6) := by
  refine ⟨fun i m H => ∃ ρ S, Ext ρ0 H0 ρ H ∧ RH G ρ S H ∧ PoU G ρ H (loopC it.f g tt te (wipeE δ own) l m i S) P, ⟨it.n, _, _, .refl _ _, R0, h⟩, ?_⟩
  rintro i m H ⟨ρ, S, ex, R, h⟩
  obtain ⟨s1, s2⟩ := sim i ρ S H ex R
  unfold loopC at h
  cases ef : it.f i S with
  | none => rw [ef] at h; exact h.elim
  | some o =>
    rw [ef] at h
    cases o with
    | none => exact .inl ⟨s2 ef, hP ρ S H ex (h ρ H (.refl _ _) R)⟩
    | some d =>
      dsimp only at h
      cases m with
      | zero => exact h.elim
      | succ m =>
        dsimp only at h
        obtain ⟨go, yl⟩ := s1 d ef
        refine .inr ⟨go, fun H' => ∃ ρ' S', Ext ρ0 H0 ρ' H' ∧ RH G ρ' S' H' ∧ PoU G ρ' H' (loopC it.f g tt te (wipeE δ own) l m (i + 1) S') P, fun H' q => ⟨m, Nat.lt_succ_self m, q⟩, fun x H' y => ?_⟩
        obtain ⟨x1, R', rd⟩ := yl x H' y
        have h := PoU.mono h x1
        have hF' : FR G ρ H' (wipeE δ own) (L2.wipe σ own) := ((hF.mono ex).mono x1).wipe own
        refine ⟨ρ, wipeE δ own, S, d, R', hF', rd, ?_⟩
        cases eg : g d (wipeE δ own) S with
        | bad => rw [eg] at h; exact h
        | ex e S2 => rw [eg] at h; exact h.elim
        | ok δ1 S2 =>
          rw [eg] at h
          refine fun ρ2 H2 σ2 x2 R2 F2 so => ⟨so.wipe, ρ2, δ1, S2, R2, F2, ?_⟩
          have h := PoU.mono h x2
          dsimp only at h
          cases et : tt δ1 S2 with
          | bad => rw [et] at h; exact h
          | ex e S3 => rw [et] at h; exact h.elim
          | ok k S3 =>
            rw [et] at h
            intro ρ3 H3 k' x3 R3 rk
            cases rk
            have h := PoU.mono h x3
            cases k with
            | false =>
              rw [if_neg Bool.false_ne_true]
              exact ⟨ρ3, S3, ((ex.trans x1).trans x2).trans x3, R3, h⟩
            | true =>
              rw [if_pos rfl]
              refine ⟨ρ3, δ1, S3, R3, F2.mono x3, ?_⟩
              dsimp only at h
              cases ee : te δ1 S3 with
              | bad => rw [ee] at h; exact h
              | ex e S4 => rw [ee] at h; exact h.elim
              | ok y S4 =>
                rw [ee] at h
                intro ρ4 H4 v x4 R4 ry
                have h := PoU.mono h x4
                dsimp only at h
                have xa := (((ex.trans x1).trans x2).trans x3).trans x4
                cases el : lsAt S4 l with
                | none => rw [el] at h; exact h.elim
                | some acc =>
                  rw [el] at h
                  dsimp only at h
                  obtain ⟨vs, q, hs⟩ := R4.lst (lsAt_iff.mp el) (xa.at hl)
                  by_cases hz : decide (acc.length < 16777216) = true
                  · rw [if_pos hz] at h
                    have xw : Ext ρ4 H4 ρ4 (upd H4 D (.lst (vs ++ [v]))) := R4.wext (lsAt_iff.mp el) (xa.at hl)
                    exact ⟨vs, q, by rw [← hs.length, sizeLine_eq]; exact of_decide_eq_true hz, ρ4, _, xa.trans xw, R4.write (lsAt_iff.mp el) (xa.at hl) (.lst (hs.append (.cons ry .nil))), PoU.mono h xw⟩
                  · rw [if_neg hz] at h; exact h.elim
theorem lc2_step {ci : CI} {own : List Nat} {g : CG} {tt : CT} {ci1 : CI} {vs1 : List Nat} {g1 : CG} {tt1 : CT} {te : CE} {Q : VK} (h : tE G E (cLc2 ci own g tt ci1 vs1 g1 tt1 te) σ H Q) : tLc2 (tI G E ci) (tG G E0 own g) (tT G E0 tt) (tI G E0 ci1) (tG G E0 vs1 g1) (tT G E0 tt1) (tE G E0 te) own vs1 σ H Q := by
  obtain ⟨ρ, δ, S, hR, hF, h⟩ := h
  refine ⟨ρ, δ, S, hR, hF, Po.bnd h fun it S1 _ ρ1 H1 J e1 R1 sim h1 D hD => ?_⟩
  have xD : Ext ρ1 H1 (ρ1 ++ [D]) (upd H1 D (.lst [])) := .new hD
  have RD : RH G (ρ1 ++ [D]) (S1 ++ [.lst []]) (upd H1 D (.lst [])) := R1.alloc hD (.lst .nil)
  have hl : (ρ1 ++ [D])[S1.length]? = some D := by rw [← R1.len]; simp
  refine ⟨fun i m H => ∃ ρ S, Ext (ρ1 ++ [D]) (upd H1 D (.lst [])) ρ H ∧ RH G ρ S H ∧ Po G E (rV G) ρ H ((loopC2 it.f g tt ci1 vs1 g1 tt1 te (wipeE δ own) S1.length m i S).bind fun _ S2 => .ok (.ref S1.length) S2) Q, ⟨it.n, _, _, .refl _ _, RD, Po.mono h1 xD⟩, ?_⟩
  rintro i m H ⟨ρ, S, ex, R, h⟩
  obtain ⟨s1, s2⟩ := sim i ρ S H (xD.trans ex) R
  unfold loopC2 at h
  cases ef : it.f i S with
  | none => rw [ef] at h; exact h.elim
  | some o =>
    rw [ef] at h
    cases o with
    | none => exact .inl ⟨s2 ef, h.ret R (.ref (ex.at hl))⟩
    | some d =>
      dsimp only at h
      cases m with
      | zero => exact h.elim
      | succ m =>
        dsimp only at h
        obtain ⟨go, yl⟩ := s1 d ef
        refine .inr ⟨go, fun H' => ∃ ρ' S', Ext (ρ1 ++ [D]) (upd H1 D (.lst [])) ρ' H' ∧ RH G ρ' S' H' ∧ Po G E (rV G) ρ' H' ((loopC2 it.f g tt ci1 vs1 g1 tt1 te (wipeE δ own) S1.length m (i + 1) S').bind fun _ S2 => .ok (.ref S1.length) S2) Q, fun H' q => ⟨m, Nat.lt_succ_self m, q⟩, fun x H' y => ?_⟩
        obtain ⟨x1, R', rd⟩ := yl x H' y
        have h := Po.mono h x1
        have hF' : FR G ρ H' (wipeE δ own) (L2.wipe σ own) := ((((hF.mono e1).mono xD).mono ex).mono x1).wipe own
        refine ⟨ρ, wipeE δ own, S, d, R', hF', rd, ?_⟩
        cases eg : g d (wipeE δ own) S with
        | bad => rw [eg] at h; exact h
        | ex e S2 => rw [eg] at h; exact h.elim
        | ok δ1 S2 =>
          rw [eg] at h
          refine fun ρ2 H2 σ2 x2 R2 F2 so => ⟨so.wipe, ρ2, δ1, S2, R2, F2, ?_⟩
          have h := Po.mono h x2
          dsimp only at h
          cases et : tt δ1 S2 with
          | bad => rw [et] at h; exact h
          | ex e S3 => rw [et] at h; exact h.elim
          | ok k S3 =>
            rw [et] at h
            intro ρ3 H3 k' x3 R3 rk
            cases rk
            have h := Po.mono h x3
            cases k with
            | false =>
              rw [if_neg Bool.false_ne_true]
              exact ⟨ρ3, S3, ((ex.trans x1).trans x2).trans x3, R3, h⟩
            | true =>
              rw [if_pos rfl]
              refine ⟨ρ3, δ1, S3, R3, F2.mono x3, ?_⟩
              dsimp only at h
              cases ee : ci1 δ1 S3 with
              | bad => rw [ee] at h; exact h
              | ex e S4 => rw [ee] at h; exact h.elim
              | ok it1 S4 =>
                rw [ee] at h
                intro ρ4 H4 J1 x4 R4 sim1
                have h := Po.mono h x4
                dsimp only at h
                have xa := (((ex.trans x1).trans x2).trans x3).trans x4
                refine in_step (P := fun ρ' S' H' => Po G E (rV G) ρ' H' ((loopC2 it.f g tt ci1 vs1 g1 tt1 te (wipeE δ own) S1.length m (i + 1) S').bind fun _ S2 => .ok (.ref S1.length) S2) Q ∧ RH G ρ' S' H') (xa.at hl) ((F2.mono x3).mono x4) R4 sim1 (fun ρ5 S5 H5 x5 q => ⟨ρ5, S5, xa.trans x5, q.2, q.1⟩) ?_
                cases el : loopC it1.f g1 tt1 te (wipeE δ1 vs1) S1.length it1.n 0 S4 with
                | bad => rw [el] at h; exact h
                | ex e S5 => rw [el] at h; exact h.elim
                | ok u S5 =>
                  rw [el] at h
                  exact fun ρ5 H5 x5 R5 => ⟨Po.mono h x5, R5⟩
theorem q_lc2 {elt tg iter tg1 iter1 : Expr} {ifs ifs1 : List Expr} {scope : Scope} {own : List (Str × Nat)} {pos : Pos} {ci : CI} {g : CG} {tt : CT} {ci1 : CI} {vs1 : List Nat} {g1 : CG} {tt1 : CT} {te : CE} (hc : C.calm = true) (hN : C.N.Nodup) (hi : PI C tg iter (tI (gx C ct) E ci)) (ok : BlkOk C.N C.env.scope scope own) (hv : ∀ i ∈ vs1, i ∈ own.map (·.2))
    (hg : ∀ (s : Shared) (H : Hp) (B : Addr) (cl : List (Str × Addr)) (fp : List Addr), PG (C.blk s H scope (compEnvC scope cl B C.env) fp) tg (tG (gx C ct) E0 (own.map (·.2)) g)) (ht : ∀ (s : Shared) (H : Hp) (B : Addr) (cl : List (Str × Addr)) (fp : List Addr), PTs (C.blk s H scope (compEnvC scope cl B C.env) fp) ifs (tT (gx C ct) E0 tt))
    (hi1 : ∀ (s : Shared) (H : Hp) (B : Addr) (cl : List (Str × Addr)) (fp : List Addr), PI (C.blk s H scope (compEnvC scope cl B C.env) fp) tg1 iter1 (tI (gx C ct) E0 ci1)) (hg1 : ∀ (s : Shared) (H : Hp) (B : Addr) (cl : List (Str × Addr)) (fp : List Addr), PG (C.blk s H scope (compEnvC scope cl B C.env) fp) tg1 (tG (gx C ct) E0 vs1 g1)) (ht1 : ∀ (s : Shared) (H : Hp) (B : Addr) (cl : List (Str × Addr)) (fp : List Addr), PTs (C.blk s H scope (compEnvC scope cl B C.env) fp) ifs1 (tT (gx C ct) E0 tt1))
    (he : ∀ (s : Shared) (H : Hp) (B : Addr) (cl : List (Str × Addr)) (fp : List Addr), PE (C.blk s H scope (compEnvC scope cl B C.env) fp) elt (tE (gx C ct) E0 te)) (hs : ∀ x, foldedSetIterable iter C.env x = pure x := by intro _; rfl) (hs1 : ∀ env x, foldedSetIterable iter1 env x = pure x := by intro _ _; rfl) :
    PE C (.ListComp elt [⟨tg, iter, ifs, 0⟩, ⟨tg1, iter1, ifs1, 0⟩] scope pos) (tE (gx C ct) E (cLc2 ci (own.map (·.2)) g tt ci1 vs1 g1 tt1 te)) :=
  PE.weak (pe_lc2 hc hN hi ok hv hg ht hi1 hg1 ht1 he hs hs1) fun σ H Q h => lc2_step h
/-- x = [..] -/
theorem q_setLc2 {i : Nat} {y : Str} {py : Pos} {elt tg iter tg1 iter1 : Expr} {ifs ifs1 : List Expr} {scope : Scope} {own : List (Str × Nat)} {pos spos : Pos} {ci : CI} {g : CG} {tt : CT} {ci1 : CI} {vs1 : List Nat} {g1 : CG} {tt1 : CT} {te : CE} (hc : C.calm = true) (hN : C.N.Nodup) (hy : C.N[i]? = some y) (hyl : C.env.scope.names.lookup y = some .local)
    (hsw : swapsWith (.ListComp elt [⟨tg, iter, ifs, 0⟩, ⟨tg1, iter1, ifs1, 0⟩] scope pos) (some (.Name y py)) spos.line C.env = pure true) (hi : PI C tg iter (tI (gx C ct) E ci)) (ok : BlkOk C.N C.env.scope scope own) (hv : ∀ i ∈ vs1, i ∈ own.map (·.2))
    (hg : ∀ (s : Shared) (H : Hp) (B : Addr) (cl : List (Str × Addr)) (fp : List Addr), PG (C.blk s H scope (compEnvC scope cl B C.env) fp) tg (tG (gx C ct) E0 (own.map (·.2)) g)) (ht : ∀ (s : Shared) (H : Hp) (B : Addr) (cl : List (Str × Addr)) (fp : List Addr), PTs (C.blk s H scope (compEnvC scope cl B C.env) fp) ifs (tT (gx C ct) E0 tt))
    (hi1 : ∀ (s : Shared) (H : Hp) (B : Addr) (cl : List (Str × Addr)) (fp : List Addr), PI (C.blk s H scope (compEnvC scope cl B C.env) fp) tg1 iter1 (tI (gx C ct) E0 ci1)) (hg1 : ∀ (s : Shared) (H : Hp) (B : Addr) (cl : List (Str × Addr)) (fp : List Addr), PG (C.blk s H scope (compEnvC scope cl B C.env) fp) tg1 (tG (gx C ct) E0 vs1 g1)) (ht1 : ∀ (s : Shared) (H : Hp) (B : Addr) (cl : List (Str × Addr)) (fp : List Addr), PTs (C.blk s H scope (compEnvC scope cl B C.env) fp) ifs1 (tT (gx C ct) E0 tt1))
    (he : ∀ (s : Shared) (H : Hp) (B : Addr) (cl : List (Str × Addr)) (fp : List Addr), PE (C.blk s H scope (compEnvC scope cl B C.env) fp) elt (tE (gx C ct) E0 te)) (hs : ∀ x, foldedSetIterable iter C.env x = pure x := by intro _; rfl) (hs1 : ∀ env x, foldedSetIterable iter1 env x = pure x := by intro _ _; rfl) :
    PS C (.Assign [.Name y py] (.ListComp elt [⟨tg, iter, ifs, 0⟩, ⟨tg1, iter1, ifs1, 0⟩] scope pos) spos) (tS (gx C ct) E (cSet i (cLc2 ci (own.map (·.2)) g tt ci1 vs1 g1 tt1 te))) :=
  PS.weak (ps_setLc2 hc hN hy hyl hsw hi ok hv hg ht hi1 hg1 ht1 he hs hs1) fun D σ H ⟨ρ, δ, S, hR, hF, h⟩ => by
    refine lc2_step ⟨ρ, δ, S, hR, hF, Po.bndS h fun d S1 _ ρ1 H1 v e1 R1 rv h1 => ?_⟩
    exact h1 ρ1 H1 _ (.refl _ _) R1 ((hF.mono e1).set i rv)

end
end Sm

namespace Sm
open PySem L2
open PyProof.Rows (tail_any)
section
variable {C : Cx} {ct : Nat → Addr} {E : XK} {G : Gx} {ρ : List Addr} {H : Hp} {σ : St} {δ : Env'} {S : Store}
/-! ### what the top has written: texts, tuples of texts, dicts with text keys -/
theorem q_gstr {x z : Str} {t : Tok} {pos : Pos} (hg : Gl C x) (hm : C.mg x = some (.str z t)) (hd : (x == ("__debug__" : Str)) = false := by decide) : PE C (.Name x pos) (tE (gx C ct) E (cC (.str z))) :=
  q_c (pe_glob (v := .str z) hg hm ⟨t, rfl⟩ hd) fun _ _ => .str z
/-- a written tuple of texts -/
def KTx (K : PySem.W.Frag) (a : Addr) (ts : List Str) : Prop := ∃ (o : Obj) (its : Array Value) (n : Nat), K.lookup a = some o ∧ o.cls = .type "tuple" ∧ o.data = .seq its n ∧ its.size ≤ sizeLine ∧ Vals (ts.map V.str) its.toList
theorem q_gtup {x : Str} {a : Addr} {ts : List Str} {pos : Pos} (hg : Gl C x) (hm : C.mg x = some (.ref a)) (h : KTx C.K a ts) (hd : (x == ("__debug__" : Str)) = false := by decide) : PE C (.Name x pos) (tE (gx C ct) E (cC (.tup (ts.map Dv.str)))) :=
  q_c (pe_glob (v := .ref a) hg hm rfl hd) fun _ _ => .tup (.inr h) (VRs.of_strs ts)
/-- a written dict with text keys -/
structure KDt (G : Gx) (w : World) (a : Addr) (kvs : List (Str × Dv)) : Prop where
  ex : ∃ es n, G.K.lookup a = some ⟨.type "dict", none, .dict es n, #[]⟩ ∧ PySem.W.KeysLit w.params es.toList ∧ (a == sysModules) = false ∧ Paired (fun (p : Str × Dv) (e : DictEntry) => (∃ t, e.key = .str p.1 t) ∧ ∃ v, RelV v e.val ∧ ∀ ρ H, VR G ρ H p.2 v) kvs es.toList
def kGet (kvs : List (Str × Dv)) (x : Str) : Option Dv := (kvs.find? fun p => p.1 == x).map (·.2)
theorem kd_find {x : Str} : ∀ {kvs : List (Str × Dv)} {es : List DictEntry}, Paired (fun (p : Str × Dv) (e : DictEntry) => (∃ t, e.key = .str p.1 t) ∧ ∃ v, RelV v e.val ∧ ∀ ρ H, VR G ρ H p.2 v) kvs es →
    (kGet kvs x = none ∧ (es.find? fun e => Value.isStrOf x e.key).map (·.val) = none) ∨ ∃ d u v, kGet kvs x = some d ∧ (es.find? fun e => Value.isStrOf x e.key).map (·.val) = some u ∧ RelV v u ∧ ∀ ρ H, VR G ρ H d v
  | _, _, .nil => .inl ⟨rfl, rfl⟩
  | p :: kvs, e :: es, .cons ⟨⟨t, hk⟩, v, rv, hv⟩ hs => by
    unfold kGet
    rw [List.find?_cons, List.find?_cons, hk]
    show (_ ∧ _) ∨ _
    have e1 : Value.isStrOf x (.str p.1 t) = (p.1 == x) := rfl
    rw [e1]
    cases hx : p.1 == x with
    | true => exact .inr ⟨p.2, e.val, v, rfl, rfl, rv, hv⟩
    | false => exact kd_find (x := x) hs
theorem KDt.find {w : World} {a : Addr} {kvs : List (Str × Dv)} (h : KDt G w a kvs) : ∃ es n, G.K.lookup a = some ⟨.type "dict", none, .dict es n, #[]⟩ ∧ PySem.W.KeysLit w.params es.toList ∧ (a == sysModules) = false ∧
    ∀ x, (kGet kvs x = none ∧ findBy Value.isStrOf es x = none) ∨ ∃ d u v, kGet kvs x = some d ∧ findBy Value.isStrOf es x = some u ∧ RelV v u ∧ ∀ ρ H, VR G ρ H d v := by
  obtain ⟨es, n, h1, h2, h3, h4⟩ := h.ex
  refine ⟨es, n, h1, h2, h3, fun x => ?_⟩
  have := kd_find (x := x) h4
  unfold findBy
  obtain ⟨l⟩ := es
  rw [List.find?_toArray]
  exact this
/-- D.get(k, x) of such a dict -/
def cKGet (kvs : List (Str × Dv)) (k x : CE) : CE := fun δ S => (k δ S).bind fun kk S2 => match kk with
  | .str z => (x δ S2).bind fun y S3 => .ok ((kGet kvs z).getD y) S3
  | _ => .bad
theorem q_kget {nm : Str} {a : Addr} {kvs : List (Str × Dv)} {e f : Expr} {p apos cpos : Pos} {k x : CE} (hg : Gl C nm) (hm : C.mg nm = some (.ref a)) (hK : KDt (gx C ct) C.w a kvs) (he : PE C e (tE (gx C ct) E k)) (hf : PE C f (tE (gx C ct) E x)) (m : M2 C (.Name nm p) "get" apos e f cpos := by exact ⟨rfl, rfl, rfl, rfl⟩) (hd : (nm == ("__debug__" : Str)) = false := by decide) :
    PE C (.Call (.Attribute (.Name nm p) "get" apos) [e, f] [] cpos) (tE (gx C ct) E (cKGet kvs k x)) := by
  refine ⟨fun pins s σ H Q I hq => ?_⟩
  obtain ⟨es, n, hl, hk, lo, hfind⟩ := hK.find
  refine wpAny_Call_method m.base m.few m.line PySem.F.plainAttrs_dict PySem.F.slot_dict_get PySem.F.type_dict_get (thn ((pe_glob (v := .ref a) hg hm rfl hd).run pins s σ H (fun v H' => v = .ref a ∧ tE (gx C ct) E (cKGet kvs k x) σ H' Q) I ⟨rfl, hq⟩) fun u s1 ⟨xx, H1, I1, rx, ex, q1⟩ => ?_)
  subst ex
  obtain rfl : u = Value.ref a := rx
  have hm1 := PySem.W.mapOf_K (prog := C.prog) (w := C.w) I1.kIn hl hk
  have t2 : ∀ b, Value.ref a = .ref b → ∃ ob, s1.heap.get? b = some ob ∧ ob.dict = none := fun b e => by
    cases e
    exact ⟨_, I1.kIn _ _ hl, rfl⟩
  refine ⟨hm1.typeIs, t2, ?_⟩
  rw [m.trees]
  obtain ⟨ρ, δ, S, hR, hF, h⟩ := q1
  refine Calls.callWith_builtin rfl (Calls.evalArgs_plain (Calls.spliced_cons (thn (he.run pins s1 σ H1 _ I1 (tE.mk hR hF (Po.bnd h (R := fun (yv : V) H2 => ∃ z, yv = .str z ∧ tE (gx C ct) E (fun δ S => (x δ S).bind fun y S3 => .ok ((kGet kvs z).getD y) S3) σ H2 Q) fun kk S2 _ ρ2 H2 kv e2 R2 rk h2 => ?_))) fun iv s2 ⟨y, H2, I2, ry, z, ez, q2⟩ => ?_)))
  · cases rk with
    | str z => exact ⟨z, rfl, tE.mk R2 (hF.mono e2) h2⟩
    | _ => exact h2.elim
  · subst ez
    obtain ⟨t, rfl⟩ := ry
    obtain ⟨ρ2, δ2, S2, hR2, hF2, h2⟩ := q2
    refine Calls.spliced_cons (thn (hf.run pins s2 σ H2 _ I2 (tE.mk hR2 hF2 (Po.bnd h2 (R := fun (yv : V) H3 => ∃ y ρ3 S3, RH (gx C ct) ρ3 S3 H3 ∧ VR (gx C ct) ρ3 H3 y yv ∧ Po (gx C ct) E (rV (gx C ct)) ρ3 H3 (.ok ((kGet kvs z).getD y) S3) Q) fun y S3 _ ρ3 H3 yv e3 R3 ry h3 => ⟨y, ρ3, S3, R3, ry, h3⟩))) fun fv s3 ⟨yv, H3, I3, rz, y, ρ3, S3, R3, ry, h3⟩ => Calls.spliced_nil ?_)
    have hm3 := PySem.W.mapOf_K (prog := C.prog) (w := C.w) I3.kIn hl hk
    refine call_meetsIn PySem.F.slot_dict_get hm3.typeIs PySem.F.entry_dict_get (PySem.F.args_dict_get_3 _ _ _) (meets_dict_get_default (strKind C.prog C.w) a (PySem.strKind_is C.prog C.w z t) lo fv) ⟨_, hm3, ?_⟩
    rcases hfind z with ⟨g1, g2⟩ | ⟨d, u, v, g1, g2, rv, hv⟩
    · rw [g2]
      rw [g1] at h3
      exact ⟨yv, H3, I3.tok _, rz, h3.ret R3 ry⟩
    · rw [g2]
      rw [g1] at h3
      exact ⟨v, H3, I3.tok _, rv, h3.ret R3 (hv _ _)⟩
/-- x in D, D[x] of such a dict: the rules by values -/
def dKIn (neg : Bool) (kvs : List (Str × Dv)) : Dv → Store → Res Dv
  | .str z, S => .ok (.bl (if neg then !(kGet kvs z).isSome else (kGet kvs z).isSome)) S
  | _, _ => .bad
def cUn (f : Dv → Store → Res Dv) (c : CE) : CE := fun δ S => (c δ S).bind f
theorem q_kin {nm : Str} {a : Addr} {kvs : List (Str × Dv)} {e : Expr} {p pos : Pos} {k : CE} (hg : Gl C nm) (hm : C.mg nm = some (.ref a)) (hK : KDt (gx C ct) C.w a kvs) (he : PE C e (tE (gx C ct) E k)) (hd : (nm == ("__debug__" : Str)) = false := by decide) (hb : behindInMarks .In (.Name nm p) = false := by rfl) :
    PE C (.Compare e [.In] [.Name nm p] pos) (tE (gx C ct) E (cUn (dKIn false kvs) k)) := by
  obtain ⟨es, n, hl, hk, lo, hfind⟩ := hK.find
  have rule : OpR C (compareOp .In) (fun x y H Q => ∃ (z : Str), x = .str z ∧ y = .ref a ∧ Q (.bl (kGet kvs z).isSome) H) := by
    intro pins s σ H x y v u Q I rx ry h
    obtain ⟨z, rfl, rfl, q⟩ := h
    obtain ⟨t, rfl⟩ := rx
    cases ry
    refine wpAny_in_of (PySem.strKind_is C.prog C.w z t) lo (PySem.W.mapOf_K (prog := C.prog) I.kIn hl hk) ?_
    rcases hfind z with ⟨g1, g2⟩ | ⟨d, u, v, g1, g2, rv, hv⟩
    · rw [g2]; rw [g1] at q; exact ⟨.bl false, H, I.tok _, rfl, q⟩
    · rw [g2]; rw [g1] at q; exact ⟨.bl true, H, I.tok _, rfl, q⟩
  refine PE.weak (pe_cmpR rule he (pe_glob (v := .ref a) hg hm rfl hd) hb) fun σ H Q ⟨ρ, δ, S, hR, hF, h⟩ => tE.mk hR hF (Po.bnd h fun kk S2 _ ρ2 H2 kv e2 R2 rk h2 => ?_)
  cases rk with
  | str z => exact ⟨z, rfl, rfl, h2.ret R2 (.bl _)⟩
  | _ => exact h2.elim
def dKIx (kvs : List (Str × Dv)) : Dv → Store → Res Dv
  | .str z, S => (match kGet kvs z with
    | some d => .ok d S
    | none => .bad)
  | _, _ => .bad
theorem q_kix {nm : Str} {a : Addr} {kvs : List (Str × Dv)} {e : Expr} {p pos : Pos} {k : CE} (hg : Gl C nm) (hm : C.mg nm = some (.ref a)) (hK : KDt (gx C ct) C.w a kvs) (he : PE C e (tE (gx C ct) E k)) (hd : (nm == ("__debug__" : Str)) = false := by decide) (hs : PlainIx e := by intro _ _; rfl) :
    PE C (.Subscript (.Name nm p) e pos) (tE (gx C ct) E (cUn (dKIx kvs) k)) := by
  obtain ⟨es, n, hl, hk, lo, hfind⟩ := hK.find
  have rule : IxR C (fun x y H Q => ∃ (z : Str) (v : V) (u : Value), x = .ref a ∧ y = .str z ∧ findBy Value.isStrOf es z = some u ∧ RelV v u ∧ Q v H) := by
    intro value slice pins s σ H x y v u Q I rx ry h hs
    obtain ⟨z, v0, u0, rfl, rfl, g, rv, q⟩ := h
    cases rx
    obtain ⟨t, rfl⟩ := ry
    have hm1 := PySem.W.mapOf_K (prog := C.prog) (w := C.w) I.kIn hl hk
    exact tail_any hm1.typeIs PySem.F.slot_dict_getitem.lookup (wpAny_getItem_of (PySem.strKind_is C.prog C.w z t) hm1 g ⟨v0, H, I.tok _, rv, q⟩) hs
  refine PE.weak (pe_ix rule (pe_glob (v := .ref a) hg hm rfl hd) he hs) fun σ H Q ⟨ρ, δ, S, hR, hF, h⟩ => tE.mk hR hF (Po.bnd h fun kk S2 _ ρ2 H2 kv e2 R2 rk h2 => ?_)
  cases rk with
  | str z =>
    unfold dKIx at h2
    dsimp only at h2
    rcases hfind z with ⟨g1, g2⟩ | ⟨d, u, v, g1, g2, rv, hv⟩
    · rw [g1] at h2; exact h2.elim
    · rw [g1] at h2; exact ⟨z, v, u, rfl, rfl, g2, rv, h2.ret R2 (hv _ _)⟩
  | _ => exact h2.elim
end
end Sm

namespace Sm
open PySem L2
section
variable {C : Cx} {ct : Nat → Addr} {E : XK} {G : Gx} {ρ : List Addr} {H : Hp} {σ : St} {δ : Env'} {S : Store}
/-! ### isinstance(x, (A, B)) -/
def tysOf : List Dv → Option (List Ty)
  | [] => some []
  | .ty n :: r => (match Ty.of n, tysOf r with
    | some T, some Ts => some (T :: Ts)
    | _, _ => none)
  | _ => none
theorem tys_at : ∀ {ds : List Dv} {vs : List V} {Ts : List Ty}, VRs G ρ H ds vs → tysOf ds = some Ts → Paired ClsV vs (Ts.map fun T => .type T.name)
  | _, _, _, .nil, h => by cases h; exact .nil
  | .ty n :: r, _, _, .cons (.ty _) hs, h => by
    unfold tysOf at h
    split at h
    · rename_i T Ts e1 e2
      cases h
      rw [List.map_cons, Ty.of_name e1]
      exact .cons (.ty n) (tys_at hs e2)
    · cases h
theorem isAny_kit (K : PySem.W.Frag) (a : Ty) : ∀ Ts : List Ty, PySem.W.kitAny K (.type a.name) (Ts.map fun T => .type T.name) = some (Ts.any fun T => isA a T)
  | [] => kitAny_nil
  | T :: Ts => by
    rw [List.map_cons, List.any_cons]
    refine kitAny_cons (b := isA a T) (kit_ty (isA_kit a T)) (fun e => ?_) (fun e => ?_)
    · rw [isAny_kit K a Ts, e]; simp
    · rw [e]; simp
def bIsiT (ds : List Dv) (S : Store) : Res Dv := match ds with
  | [x, .tup ts] => (match tyOf S x, tysOf ts with
    | some a, some Ts => .ok (.bl (Ts.any fun T => isA a T)) S
    | _, _ => .bad)
  | _ => .bad
theorem call_isiA : CallR C (.builtin "isinstance") (fun xs H Q => rIsiT C.K xs H Q ∨ rIsiK C.K xs H Q) := call_isiT.or call_isiK
theorem o_isiT : OpL G E (fun xs H Q => rIsiT G.K xs H Q ∨ rIsiK G.K xs H Q) bIsiT := by
  intro ρ S H ds vs Q R rs h
  unfold bIsiT at h
  split at h
  · rename_i d ts
    obtain ⟨v, u, rfl, rv, ru⟩ := rs.two
    cases ru with
    | @tup a us _ ht hs =>
      split at h
      · rename_i A Ts e1 e2
        have q := h.ret R (.bl _)
        rcases ht with ht | ⟨o, its, n, k, c, dd, sz, vv⟩
        · exact .inl ⟨v, a, us, _, _, _, rfl, ht, tys_at hs e2, ty_at R rv e1, isAny_kit _ _ _, q⟩
        · have e3 := ClsV.all (tys_at hs e2) vv
          obtain ⟨oc, od, dt, sl⟩ := o
          simp only at c dd
          subst c dd
          obtain ⟨l⟩ := its
          simp only at e3
          exact .inr ⟨v, a, od, l, n, sl, _, _, rfl, k, ty_at R rv e1, by rw [e3]; exact isAny_kit _ _ _, q⟩
      · exact h.elim
  · exact h.elim
end
end Sm

namespace L2.HT
open PySem PySem.Spec PyProof.Rows
section
variable {prog : Program} {w : World} {A : Around} {E : Value → Shared → Prop} {s : Shared}
theorem sliceApplied_rev {sl : Addr} {u : Tok} {n : Nat} {Q : Int × Int × Nat → Shared → Prop} (hs : s.heap.IsSliceOf sl .none .none (.int (-1) u))
    (h : Q ((n : Int) - 1, -1, n) s) : wpAny (model prog w) A (Builtin.Slice.sliceApplied (.ref sl) (pure (n : Int))) Q E s := by
  obtain ⟨os, hos, hcs, hds⟩ := id hs
  unfold Builtin.Slice.sliceApplied Builtin.Slice.sliceFields
  refine wpAny_bind (wpAny_bind (wpAny_field hos hds (x := .none) rfl (wpAny_bind (wpAny_field hos hds (x := .none) rfl (wpAny_bind (wpAny_field hos hds (x := .int (-1) u) rfl (wpAny_pure ?_)))))))
  refine wpAny_bind (slicePart_int ?_)
  show wpAny _ _ (if ((-1 : Int) == 0) = true then _ else _) _ _ s
  rw [if_neg (by decide)]
  refine wpAny_bind (slicePart_none (wpAny_bind (slicePart_none (wpAny_bind (wpAny_pure ?_)))))
  show wpAny _ _ (match Builtin.Slice.sliceAdjust none none (-1) (n : Int) with | (lo, hi) => pure (lo, (-1 : Int), Builtin.Slice.slicePlaces lo hi (-1))) _ _ s
  have e1 : Builtin.Slice.sliceAdjust none none (-1) (n : Int) = ((n : Int) - 1, -1) := rfl
  rw [e1]
  have e2 : Builtin.Slice.slicePlaces ((n : Int) - 1) (-1) (-1) = n := by
    unfold Builtin.Slice.slicePlaces
    rw [if_neg (by decide)]
    by_cases h0 : n = 0
    · subst h0; rfl
    · rw [if_pos (by omega)]
      show (((n : Int) - 1 - -1 - 1) / 1 + 1).toNat = n
      rw [Int.ediv_one]; omega
  show wpAny _ _ (pure ((n : Int) - 1, (-1 : Int), Builtin.Slice.slicePlaces ((n : Int) - 1) (-1) (-1))) _ _ s
  rw [e2]
  exact wpAny_pure h
theorem pick_rev (xs : Array Value) : ((List.range xs.size).filterMap fun (m : Nat) => xs[(((xs.size : Nat) : Int) - 1 + (m : Int) * (-1)).toNat]?).toArray = xs.toList.reverse.toArray := by
  congr 1
  have e : ∀ k, k ≤ xs.size → ((List.range k).filterMap fun (m : Nat) => xs[(((xs.size : Nat) : Int) - 1 + (m : Int) * (-1)).toNat]?) = xs.toList.reverse.take k := by
    intro k
    induction k with
    | zero => intro _; simp
    | succ k ih =>
      intro hk
      rw [List.range_succ, List.filterMap_append, ih (by omega), List.take_add_one]
      congr 1
      have e1 : (((xs.size : Nat) : Int) - 1 + (k : Int) * (-1)).toNat = xs.size - 1 - k := by omega
      rw [List.filterMap_cons, e1, List.filterMap_nil]
      have e2 : xs.toList.reverse[k]? = xs[xs.size - 1 - k]? := by
        rw [List.getElem?_reverse (by rw [Array.length_toList]; omega)]
        simp
      rw [e2]
      have e3 : xs.size - 1 - k < xs.size := by omega
      rw [Array.getElem?_eq_getElem e3]
      rfl
  have := e xs.size (Nat.le_refl _)
  rw [this, List.take_of_length_le (by simp)]
theorem getItem_tuple_rev {t sl : Addr} {items : Array Value} {u : Tok} {Q : Value → Shared → Prop} (ht : IsTup s.heap t items) (hs : s.heap.IsSliceOf sl .none .none (.int (-1) u))
    (h : Q (.ref s.heap.objs.size) { s with heap := s.heap.push { cls := .type "tuple", data := .seq items.toList.reverse.toArray } })
    (hsz : items.size ≤ sizeLine) : wpAny (model prog w) A (getItem (.ref t) (.ref sl)) Q E s := by
  have htake : sizeOk (.seq items.toList.reverse.toArray) := by
    show items.toList.reverse.toArray.size ≤ sizeLine
    rw [List.size_toArray, List.length_reverse, Array.length_toList]
    exact hsz
  obtain ⟨os, hos, hcs, hds⟩ := id hs
  have hTs : s.TypeIs (.ref sl) "slice" := ⟨os, hos, hcs⟩
  unfold getItem
  try with_reducible refine wpAny_holding ?_
  first | refine wpAny_bind (wpAny_pure ?_) | skip
  refine wpAny_bind (wpAny_sequenceKey ht.typeIs (by decide) ?_)
  refine wpAny_bind (wpAny_callSpecial?_slot (name := Str.ofString "__getitem__") ht.typeIs PyProof.Rows.slot_tuple_getitem
    (wpAny_call_entry PyProof.Rows.slot_tuple_getitem ht.typeIs entry_tuple_getitem ?_ (args_tuple_getitem _ _)))
  show wpAny _ _ (Builtin.Tuple.tupleItemsOf (.ref t) >>= _) _ _ s
  refine wpAny_bind (tupleItemsOf_ ht ?_)
  refine wpAny_bind (wpAny_typeOf hTs ?_)
  rw [if_pos (by decide)]
  refine wpAny_bind (sliceApplied_rev hs ?_)
  have hno : ¬ ((((items.size : Nat) : Int) - 1 == 0 && (-1 : Int) == 1 && items.size == items.size) = true) := by
    intro q
    rw [Bool.and_eq_true, Bool.and_eq_true] at q
    exact absurd q.1.2 (by decide)
  show wpAny _ _ (if (((items.size : Nat) : Int) - 1 == 0 && (-1 : Int) == 1 && items.size == items.size) = true then _ else _) _ _ s
  rw [if_neg hno, pick_rev]
  first
    | exact wpAny_bind (m := Builtin.Tuple.tupleExact _) (wpAny_newObj_type (wpAny_pure ⟨_, rfl, wpAny_pure h⟩) htake)
    | exact wpAny_bind (m := Builtin.Tuple.tupleExact _) (wpAny_newObj_type (wpAny_bind (wpAny_pure (wpAny_pure ⟨_, rfl, wpAny_pure h⟩))) htake)
    | exact wpAny_bind (wpAny_bind (m := Builtin.Tuple.tupleExact _) (wpAny_newObj_type (wpAny_pure (wpAny_pure ⟨_, rfl, wpAny_pure h⟩)) htake))
    | exact wpAny_bind (wpAny_bind (m := Builtin.Tuple.tupleExact _) (wpAny_newObj_type (wpAny_pure ⟨_, rfl, wpAny_pure h⟩) htake))
end
end L2.HT
namespace Sm
open PySem L2 PySem.Spec PyProof.Rows
section
variable {C : Cx} {ct : Nat → Addr} {E : XK} {G : Gx} {ρ : List Addr} {H : Hp} {σ : L2.St} {δ : Env'} {S : Store} {X : Cx}
/-! ### t[::-1] -/
def tRevT (K : PySem.W.Frag) (te : TE) : TE := fun σ H Q => te σ H fun x H1 => ∃ a xs, x = .ref a ∧ SqT K H1 a xs ∧ ∀ p, H1 p = none → Q (.ref p) (upd H1 p (.tup xs.reverse))
theorem pe_revT {e : Expr} {te : TE} {k : Nat} {p1 p2 p3 pos : Pos} (he : PE X e te) : PE X (.Subscript e (.Slice none none (some (.UnaryOp .USub (.Constant (.int 1) k p1) p2)) p3) pos) (tRevT X.K te) := by
  refine ⟨fun pins s σ H Q I h => ?_⟩
  refine Subscript_ (thn (he.run pins s σ H _ I h) fun v s1 ⟨x, H1, I1, r1, q1⟩ => ?_)
  obtain ⟨a, xs, ex, hx, q⟩ := q1
  subst ex
  cases r1
  have hst : PO X (some (.UnaryOp .USub (.Constant (.int 1) k p1) p2)) (tPart (tUn (L2.rU fun i => .int (-i)) (tC (.int 1)))) := po_some (pe_un un_neg pe_int)
  refine wpAny_Slice (thn (po_none.run pins s1 σ H1 (fun o H2 => o = none ∧ H2 = H1) I1 ⟨rfl, rfl⟩) fun vl s2 ⟨l, H2, I2, pl, el, e2⟩ => ?_)
  subst el e2
  refine thn (po_none.run pins s2 σ H2 (fun o H3 => o = none ∧ H3 = H2) I2 ⟨rfl, rfl⟩) fun vu s3 ⟨u, H3, I3, pu, eu, e3⟩ => ?_
  subst eu e3
  refine thn (hst.run pins s3 σ H3 (fun o H4 => o = some (-1) ∧ H4 = H3) I3 ⟨1, rfl, -1, rfl, rfl, rfl⟩) fun vs s4 ⟨o, H4, I4, ps, eo, e4⟩ => ?_
  subst eo e4
  have I5 : Inv X pins σ H4 { s4 with heap := s4.heap.push { cls := .type "slice", data := .fields #[vl, vu, vs] } } := I4.kept (t' := s4.toks) fun b ob q => Heap.get?_push_of_some _ q
  obtain ⟨its, r, ht, hz⟩ := I5.tuple hx
  have hlen := r.length
  show wpAny (model X.prog X.w) X.A (subscriptTail e (.Slice none none (some (.UnaryOp .USub (.Constant (.int 1) k p1) p2)) p3) (.ref a) (.ref s4.heap.objs.size)) (EP X pins σ Q) X.xe { s4 with heap := s4.heap.push { cls := .type "slice", data := .fields #[vl, vu, vs] } }
  cases pl
  cases pu
  cases ps
  refine tail_any (ops := [.ref a, .ref s4.heap.objs.size]) ht.typeIs (PyProof.Rows.slot_tuple_getitem.lookup) ?_ (by with_unfolding_all rfl)
  refine L2.HT.getItem_tuple_rev ht (Heap.IsSliceOf.new _ _ _ _) ?_ (by rw [List.size_toArray]; omega)
  refine ⟨.ref _, _, I5.laid (t' := s4.toks) (o := .tup xs.reverse) (fun b ob q => Heap.get?_push_of_some _ q) (Nat.le_refl _) ?_, rfl, q _ (I5.hok.fresh (Nat.le_refl _))⟩
  exact ⟨by rw [List.length_reverse]; exact hz, _, r.reverse, _, Heap.get?_push_size _ rfl, rfl, 0, rfl⟩
def dRevT : Dv → Store → Res Dv
  | .tup ds, S => .ok (.tup ds.reverse) S
  | _, _ => .bad
theorem VRs.reverse : ∀ {ds : List Dv} {vs : List V}, VRs G ρ H ds vs → VRs G ρ H ds.reverse vs.reverse
  | _, _, .nil => .nil
  | _, _, .cons h hs => by
    rw [List.reverse_cons, List.reverse_cons]
    exact hs.reverse.append (.cons h .nil)
theorem q_revT {e : Expr} {c : CE} {k : Nat} {p1 p2 p3 pos : Pos} (he : PE C e (tE (gx C ct) E c)) : PE C (.Subscript e (.Slice none none (some (.UnaryOp .USub (.Constant (.int 1) k p1) p2)) p3) pos) (tE (gx C ct) E (cUn dRevT c)) :=
  PE.weak (pe_revT he) fun σ H Q ⟨ρ, δ, S, hR, hF, h⟩ => tE.mk hR hF (Po.bnd h fun d S1 _ ρ1 H1 v e1 R1 rv h1 => by
    cases rv with
    | @tup a vs ds ht hs =>
      exact ⟨a, vs, rfl, ht.sq, fun p hp => h1.retX (.new0 hp) (R1.new hp) (.tup (.inl upd_same) (hs.reverse.mono (.new0 hp)))⟩
    | _ => exact h1.elim)
end
end Sm

namespace Sm
open PySem L2
section
variable {C : Cx} {ct : Nat → Addr} {E : XK} {G : Gx} {ρ : List Addr} {H : Hp} {σ : St} {δ : Env'} {S : Store}
/-! ### zip of two tuples, of two lists -/
def zAt (ds es : List Dv) (i : Nat) : Option Dv := match ds[i]?, es[i]? with
  | some x, some y => some (.tup [x, y])
  | _, _ => none
theorem zAt_some {ds es : List Dv} {i : Nat} {d : Dv} (h : zAt ds es i = some d) : ∃ x y, ds[i]? = some x ∧ es[i]? = some y ∧ d = .tup [x, y] := by
  unfold zAt at h
  split at h
  · rename_i x y e1 e2; cases h; exact ⟨x, y, e1, e2, rfl⟩
  · cases h
theorem zAt_none {ds es : List Dv} {i : Nat} (h : zAt ds es i = none) : ds.length ≤ i ∨ es.length ≤ i := by
  by_cases h1 : ds.length ≤ i
  · exact .inl h1
  · by_cases h2 : es.length ≤ i
    · exact .inr h2
    · unfold zAt at h
      rw [List.getElem?_eq_getElem (Nat.lt_of_not_le h1), List.getElem?_eq_getElem (Nat.lt_of_not_le h2)] at h
      cases h
theorem sim_zipT {a b : Addr} {vs us : List V} {ds es : List Dv} (hq : TupAt G.K H a vs) (hs : VRs G ρ H ds vs) (hq2 : TupAt G.K H b us) (hs2 : VRs G ρ H es us) : ISim G ρ H (fun i _ => some (zAt ds es i)) (RZ.ItzT G.K a b) := fun i ρ' S' H' e R => by
  have q : SqT G.K H' a vs := (hq.mono e).sq
  have q2 : SqT G.K H' b us := (hq2.mono e).sq
  have hs := hs.mono e
  have hs2 := hs2.mono e
  refine ⟨fun d h => ?_, fun h => ?_⟩
  · obtain ⟨x, y, e1, e2, rfl⟩ := zAt_some (Option.some.inj h)
    obtain ⟨v, f1, r1⟩ := hs.get e1
    obtain ⟨u, f2, r2⟩ := hs2.get e2
    refine ⟨⟨vs, us, v, u, q, q2, f1, f2⟩, fun z H1 hz => ?_⟩
    obtain ⟨T, v', u', rfl, hT, rfl, w1, w2⟩ := hz
    have w1 := w1 vs q
    have w2 := w2 us q2
    rw [f1] at w1
    rw [f2] at w2
    cases w1
    cases w2
    exact ⟨.new0 hT, R.new hT, .tup (.inl upd_same) (.cons (r1.mono (.new0 hT)) (.cons (r2.mono (.new0 hT)) .nil))⟩
  · exact ⟨vs, us, q, q2, by rw [← hs.length, ← hs2.length]; exact zAt_none (Option.some.inj h)⟩
/-- zip(a, b) of two tuples -/
def cZipT (a : CA) : CI := fun δ S => (a δ S).bind fun ds S1 => match ds with
  | [.tup xs, .tup ys] => .ok ⟨xs.length, fun i _ => some (zAt xs ys i)⟩ S1
  | _ => .bad
theorem qi_zipT {e e2 : Expr} {a : CA} {p pos tpos : Pos} {elts : List Expr} {kk : Nat} (hg : Gl C "zip") (hm : C.mg "zip" = none) (ha : PA C [e, e2] (tA (gx C ct) E a)) (hs : starEach [e, e2] C.env = (false, eval e C.env) :: starEach [e2] C.env := by rfl) (hpl : (backTo pos (starEach [e2] C.env)).any (·.1) = false := by rfl) :
    PI C (.Tuple elts kk tpos) (.Call (.Name "zip" p) [e, e2] [] pos) (tI (gx C ct) E (cZipT a)) :=
  PI.weak (RZ.pi_zipA hg hm ha hs hpl) fun σ H R ⟨ρ, δ, S, hR, hF, h⟩ => tA.mk hR hF (Po.bnd h fun ds S1 _ ρ1 H1 vs e1 R1 rv h1 => by
    split at h1
    · rename_i xs ys
      obtain ⟨v, u, rfl, r1, r2⟩ := rv.two
      cases r1 with
      | @tup a1 vs1 _ ht1 hs1 => cases r2 with
        | @tup a2 vs2 _ ht2 hs2 => exact ⟨a1, a2, vs1, vs2, rfl, .inr ⟨ht1.sq, ht2.sq, h1.ret R1 (sim_zipT (G := gx C ct) ht1 hs1 ht2 hs2)⟩⟩
    · exact h1.elim)
end
end Sm

namespace Sm
open PySem PySem.Spec PyProof.Rows L2
/-! ### sets of texts: made of a row, counted, sorted -/
def keyT (e : Int × Value) : Str := match e.2 with | .str k _ => k | _ => Str.empty
def TxE (P : Program) (w : World) (e : Int × Value) : Prop := ∃ k tk, e.2 = Value.str k tk ∧ e.1 = (PySem.strKind P w).hash k
/-- a set of texts: its members, how many; its table rises -/
def SetT (P : Program) (w : World) (h : Heap) (a : Addr) (S : Str → Bool) (n : Nat) : Prop :=
  ∃ o es ep t, h.get? a = some o ∧ o.ExactSet ∧ o.data = .set es ep t ∧ (∀ e ∈ es.toList, TxE P w e) ∧ (es.toList.map keyT).Nodup ∧ (∀ k, S k = true ↔ k ∈ es.toList.map keyT) ∧
    es.size < scanBound ∧ t.fits es.size = true ∧ es.size = n ∧ Ris t.place.toList ∧ (w.params.followText "set-order" = true ∨ t.led = true)
section
variable {P : Program} {w : World} {A : Around} {E : Value → Shared → Prop} {s : Shared} {h h' : Heap} {a : Addr} {S : Str → Bool} {n : Nat}
theorem SetT.at (R : SetT P w h a S n) (k : ∀ o, h.get? a = some o → h'.get? a = some o) : SetT P w h' a S n := by
  obtain ⟨o, es, ep, t, ho, r⟩ := R
  exact ⟨o, es, ep, t, k o ho, r⟩
theorem SetT.congr {S' : Str → Bool} (R : SetT P w h a S n) (e : ∀ k, S' k = S k) : SetT P w h a S' n := by
  rw [show S' = S from funext e]; exact R
theorem tx_elems {l : List (Int × Value)} (g : ∀ e ∈ l, TxE P w e) : ElemsOf (PySem.strKind P w) l := fun e he => by
  obtain ⟨k, tk, h1, h2⟩ := g e he
  exact ⟨⟨k, by rw [h1]; exact PySem.strKind_is P w k tk, h2⟩, by rw [h1] <;> rfl⟩
theorem tx_is {e : Int × Value} (g : TxE P w e) (k : Str) : (PySem.strKind P w).is k e.2 = true ↔ keyT e = k := by
  obtain ⟨k0, tk, h1, _⟩ := g
  unfold keyT
  rw [h1]
  show ((k0 == k) = true) ↔ k0 = k
  exact beq_iff_eq
theorem tx_mem {l : List (Int × Value)} (g : ∀ e ∈ l, TxE P w e) (k : Str) : k ∈ l.map keyT ↔ ∃ e ∈ l, (PySem.strKind P w).is k e.2 = true := by
  rw [List.mem_map]
  exact ⟨fun ⟨e, he, q⟩ => ⟨e, he, (tx_is (g e he) k).2 q⟩, fun ⟨e, he, q⟩ => ⟨e, he, (tx_is (g e he) k).1 q⟩⟩
theorem setT_tail {g : Bool → Sem Unit} (hg : ∀ (b : Bool) (s₁ : Shared) (Q' : Unit → Shared → Prop), Q' () s₁ → wpAny (model P w) A (g b) Q' E s₁)
    {o : Obj} {es : Array (Int × Value)} {ep : Nat} {t : SetTable} (ho : s.heap.get? a = some o) (hex : o.ExactSet) (hd : o.data = .set es ep t)
    {es1 : Array (Int × Value)} {t2 : SetTable} {S' : Str → Bool} (g1 : ∀ e ∈ es1.toList, TxE P w e) (nd1 : (es1.toList.map keyT).Nodup) (m1 : ∀ k, S' k = true ↔ k ∈ es1.toList.map keyT)
    (hb1 : es1.size < scanBound) (hf2 : t2.fits es1.size = true) (hr : Ris t2.place.toList) (hl : w.params.followText "set-order" = true ∨ t2.led = true) {wasDummy : Bool} {R : Option Bool → Shared → Prop}
    (hR : ∀ h', Heap.SameBut a s.heap h' → SetT P w h' a S' es1.size → R (some true) { s with heap := h' }) :
    wpAny (model P w) A (do
        storeSet a es1 t2
        if (!wasDummy && t2.tooFull) = true then do
            g (relayAll t2 es1 (SetTable.grown es1.size)).2.2
            storeSet a (relayAll t2 es1 (SetTable.grown es1.size)).1 (relayAll t2 es1 (SetTable.grown es1.size)).2.1
            pure (some true)
          else pure (some true)) R E s := by
  refine wpAny_bind (wpAny_storeSet_of ho hd ?_ (fits_of_scanBound hb1))
  have ho1 := store_at (es' := es1) (t' := t2) ho hd
  have sb1 := Heap.SameBut.update s.heap a (Obj.putSet es1 t2)
  split
  · have pm := relayAll_perm t2 es1 (SetTable.grown es1.size)
    have hf3 := relayAll_fits t2 es1 (SetTable.grown es1.size)
    have hr3 := relayAll_ris t2 es1 (SetTable.grown es1.size)
    have hl3 := relayAll_led t2 es1 (SetTable.grown es1.size)
    generalize relayAll t2 es1 (SetTable.grown es1.size) = Z at pm hf3 hr3 hl3 ⊢
    obtain ⟨es2, t3, gave⟩ := Z
    dsimp only at pm hf3 hr3 hl3 ⊢
    have hsz : es2.size = es1.size := by rw [← Array.length_toList, pm.length_eq, Array.length_toList]
    have hb2 : es2.size < scanBound := by rw [hsz]; exact hb1
    refine wpAny_bind (hg _ _ _ ?_)
    refine wpAny_bind (wpAny_storeSet_of ho1 rfl ?_ (fits_of_scanBound hb2))
    have ho2 := store_at (es' := es2) (t' := t3) ho1 rfl
    refine wpAny_pure (hR _ (sb1.trans (Heap.SameBut.update _ a _)) ?_)
    exact ⟨_, es2, _, t3, ho2, hex, rfl, fun e he => g1 e (pm.mem_iff.mp he), (pm.map keyT).nodup_iff.mpr nd1, fun k => (m1 k).trans (pm.map keyT).mem_iff.symm, hb2, hf3, hsz, hr3,
      hl.imp id fun z => by rw [hl3]; exact z⟩
  · exact wpAny_pure (hR _ sb1 ⟨_, es1, _, t2, ho1, hex, rfl, g1, nd1, m1, hb1, hf2, rfl, hr, hl⟩)
/-- one text more, or none -/
theorem setT_add {k : Str} {tk : Tok} {Q : Bool → Shared → Prop} (R : SetT P w s.heap a S n) (room : n + 1 < scanBound)
    (hQ : ∀ h', Heap.SameBut a s.heap h' → SetT P w h' a (fun j => S j || decide (j = k)) (if S k = true then n else n + 1) → Q (!S k) { s with heap := h' }) :
    wpAny (model P w) A (setAddHashed a (.str k tk) ((PySem.strKind P w).hash k)) Q E s := by
  obtain ⟨o, es, ep, t, ho, hex, hd, g, nd, hm, hb, hf, hn, hr, hl⟩ := R
  have hkey : (PySem.strKind P w).is k (.str k tk) = true := PySem.strKind_is P w k tk
  have hsc : (Value.str k tk).scannable = true := rfl
  have hel : ElemsOf (PySem.strKind P w) es.toList := tx_elems g
  unfold setAddHashed setAddHashedIn
  refine wpAny_holding (wpAny_bind (wpAny_setState_of ho hd hf ?_))
  dsimp only
  rw [byScan_of hsc hb hel]
  simp only [↓reduceIte]
  unfold setAddByScan
  refine wpAny_bind ?_
  refine wpAny_bind (wpAny_rule ?_)
  refine wpAny_bind (wpAny_setScan_of hkey ho hd hf hel ?_)
  cases hfi : List.findIdx? (fun e => (PySem.strKind P w).is k e.2) es.toList with
  | some j =>
    dsimp only
    obtain ⟨hj, pj, _⟩ := List.findIdx?_eq_some_iff_getElem.mp hfi
    have hSk : S k = true := (hm k).2 ((tx_mem (P := P) (w := w) g k).2 ⟨es.toList[j], List.getElem_mem hj, pj⟩)
    refine wpAny_pure (wpAny_pure ?_)
    have q := hQ s.heap (Heap.SameBut.refl a s.heap) ⟨o, es, ep, t, ho, hex, hd, g, nd, fun i => by
      rw [Bool.or_eq_true, decide_eq_true_eq, ← hm i]
      exact ⟨fun z => z.elim id (fun e => e ▸ hSk), .inl⟩, hb, hf, by rw [if_pos hSk]; exact hn, hr, hl⟩
    rw [hSk] at q
    exact q
  | none =>
    dsimp only
    have hnk : k ∉ es.toList.map keyT := fun z => by
      obtain ⟨e, he, q⟩ := (tx_mem (P := P) (w := w) g k).1 z
      have c := List.findIdx?_eq_none_iff.mp hfi e he
      rw [q] at c
      cases c
    have hSk : S k = false := by
      cases q : S k with
      | false => rfl
      | true => exact absurd ((hm k).1 q) hnk
    have hgw : ∀ (b : Bool) {s₁ : Shared} {Q' : Unit → Shared → Prop}, Q' () s₁ → wpAny (model P w) A (match b with | true => rule "set.scan.the-table-gave-way" | false => pure ()) Q' E s₁ :=
      fun b s₁ Q' q => by cases b <;> first | exact wpAny_pure q | exact wpAny_rule q
    have pm := layNew_perm t es ((PySem.strKind P w).hash k) (.str k tk)
    have hf1 := layNew_fits t es ((PySem.strKind P w).hash k) (.str k tk)
    have hr1 := layNew_ris t es ((PySem.strKind P w).hash k) (.str k tk) hr
    have hl1 := layNew_led t es ((PySem.strKind P w).hash k) (.str k tk)
    generalize layNew t es ((PySem.strKind P w).hash k) (.str k tk) = Z at pm hf1 hr1 hl1 ⊢
    obtain ⟨es1, t1, wasDummy, gave⟩ := Z
    dsimp only at pm hf1 hr1 hl1 ⊢
    rw [Array.toList_push] at pm
    have pc : es1.toList.Perm (((PySem.strKind P w).hash k, Value.str k tk) :: es.toList) := pm.trans (List.perm_append_singleton _ _)
    have pk : (es1.toList.map keyT).Perm (k :: es.toList.map keyT) := pc.map keyT
    have g1 : ∀ e ∈ es1.toList, TxE P w e := fun e he => by
      rcases List.mem_cons.mp (pc.mem_iff.mp he) with z | z
      · rw [z]; exact ⟨k, tk, rfl, rfl⟩
      · exact g e z
    have nd1 : (es1.toList.map keyT).Nodup := pk.nodup_iff.mpr (List.nodup_cons.mpr ⟨hnk, nd⟩)
    have m1 : ∀ i, (S i || decide (i = k)) = true ↔ i ∈ es1.toList.map keyT := fun i => by
      rw [Bool.or_eq_true, decide_eq_true_eq, hm i, pk.mem_iff, List.mem_cons]
      exact Or.comm
    have hsz : es1.size = n + 1 := by rw [← Array.length_toList, pc.length_eq, List.length_cons, Array.length_toList, hn]
    have hb1 : es1.size < scanBound := by rw [hsz]; exact room
    have hled : w.params.followText "set-order" = true ∨ t1.led = true := hl.imp id fun z => by rw [hl1]; exact z
    have fin : ∀ h', Heap.SameBut a s.heap h' → SetT P w h' a (fun j => S j || decide (j = k)) es1.size → Q true { s with heap := h' } := fun h' sb r => by
      have q := hQ h' sb
      rw [hSk] at q
      rw [hsz] at r
      exact q r
    refine wpAny_bind (hgw _ ?_)
    split
    · refine wpAny_bind ?_
      rw [hashByValue_scannable 8 hsc]
      refine wpAny_pure ?_
      refine setT_tail ?_ ho hex hd g1 nd1 m1 hb1 ?_ ?_ ?_ ?_
      · intro b s₁ Q' q; cases b <;> first | exact wpAny_pure q | exact wpAny_rule q
      · first | (split <;> first | exact hf1 | exact SetTable.fits_plain_off hf1) | exact hf1
      · first | (split <;> exact hr1) | exact hr1
      · first | (split <;> exact hled) | exact hled
      · intro h' sb r; dsimp only; exact wpAny_pure (fin h' sb r)
    · refine wpAny_bind (wpAny_pure ?_)
      simp only [↓reduceIte]
      refine setT_tail ?_ ho hex hd g1 nd1 m1 hb1 hf1 hr1 hled ?_
      · intro b s₁ Q' q; cases b <;> first | exact wpAny_pure q | exact wpAny_rule q
      · intro h' sb r; dsimp only; exact wpAny_pure (fin h' sb r)
end
end Sm

/-! sets of texts, further: set(a list), set(a tuple), len and sorted of them -/
namespace Sm
open PySem PySem.Spec PyProof.Rows L2
section
variable {P : Program} {w : World} {A : Around} {E : Value → Shared → Prop} {s : Shared}
theorem setT_fresh {h : Heap} {a : Addr} {ns : List Str} (ho : h.get? a = some { cls := .type "set", dict := none, data := .set #[] 0 (.fresh 0 0 (!w.params.followText "set-order")) }) : SetT P w h a (fun j => decide (j ∈ ns.take 0)) 0 :=
  ⟨_, #[], 0, _, ho, ⟨rfl, rfl, rfl⟩, rfl, (fun e he => by simp at he), (by simp), (fun k => by simp), (by decide), (by rfl), rfl, List.Pairwise.nil, by
    show _ ∨ (!w.params.followText "set-order") = true
    cases w.params.followText "set-order"
    · exact .inr rfl
    · exact .inl rfl⟩
/-- how many unlike texts there are -/
def nub : List Str → List Str
  | [] => []
  | x :: r => if x ∈ r then nub r else x :: nub r
theorem setT_update {I : Addr} {fp wr : List Addr} {G : Array GenState → Array GenState → Prop} {n : Nat} {Pv : Nat → Value → Prop} {St : Nat → Shared → Prop} {R : Result → Shared → Prop}
    (W : WalksS P w A.in1 I fp wr G n Pv St) (S : Addr) (hSf : S ∉ fp) (ns : List Str) (hn : n = ns.length) (hb : ns.length + 1 < scanBound) (hval : ∀ i v, Pv i v → ∃ k t, ns[i]? = some k ∧ v = .str k t) :
    ∀ (k i : Nat) (s : Shared), n - i = k → i ≤ n → St i s → (∃ c, c ≤ i ∧ SetT P w s.heap S (fun j => decide (j ∈ ns.take i)) c) →
      (∀ s' c, Moved (S :: wr) G s s' → c ≤ n → SetT P w s'.heap S (fun j => decide (j ∈ ns)) c → R (.ok (.ret .none)) s') →
      codeAny (model P w) A (.builtin "set.update.loop" ⟨[.ref S, .ref I], []⟩) R s := by
  have hSw : S ∉ wr := fun h => hSf (W.sub _ h)
  have hsub : ∀ b ∈ wr, b ∈ S :: wr := fun b hb => List.mem_cons_of_mem _ hb
  intro k
  induction k with
  | zero =>
    intro i s hk' hi hst ⟨c, hc, hS⟩ hR
    have hin : i = n := by omega
    subst hin
    refine codeAny_builtin F.entry_set_update_loop ?_
    rw [Around.under_plainId F.plain_set_update_loop _]
    show wpAny _ A.in1 (pyNext (.ref I) >>= _) _ _ s
    refine wpAny_bind (W.done s _ _ hst fun s' hm => ?_)
    show wpAny _ A.in1 (ret Value.none) _ _ s'
    have e : ns.take i = ns := List.take_of_length_le (by omega)
    rw [e] at hS
    exact wpAny_pure (hR s' c (hm.mono hsub) hc (hS.at fun o e => hm.heap S o hSw e))
  | succ k ih =>
    intro i s hk' hi hst ⟨c, hc, hS⟩ hR
    have hlt : i < n := by omega
    refine codeAny_builtin F.entry_set_update_loop ?_
    rw [Around.under_plainId F.plain_set_update_loop _]
    show wpAny _ A.in1 (pyNext (.ref I) >>= _) _ _ s
    refine wpAny_bind (W.item i s _ _ hlt hst fun v s' hP hst' hm => ?_)
    obtain ⟨z, t, hz, rfl⟩ := hval i v hP
    have hS' : SetT P w s'.heap S (fun j => decide (j ∈ ns.take i)) c := hS.at fun o e => hm.heap S o hSw e
    show wpAny _ A.in1 (holding [Value.str z t] (setAdd S (.str z t)) >>= _) _ _ s'
    refine wpAny_bind (wpAny_holding ?_)
    unfold setAdd
    refine wpAny_holding ?_
    refine wpAny_bind ((PySem.strKind P w).pyHash (k := z) (PySem.strKind_is _ _ _ _) ?_)
    refine setT_add (s := { s' with toks := s'.toks + 1 }) hS' (by omega) fun h' hsb hS2 => ?_
    have hS3 : SetT P w h' S (fun j => decide (j ∈ ns.take (i + 1))) (if decide (z ∈ ns.take i) = true then c else c + 1) := hS2.congr fun j => by
      rw [List.take_add_one, hz]
      simp [List.mem_append]
    have hc3 : (if decide (z ∈ ns.take i) = true then c else c + 1) ≤ i + 1 := by
      split <;> omega
    refine wpAny_pure ⟨plainId_quiet F.plain_set_update_loop _, ih (i + 1) _ (by omega) hlt (W.frame _ s' _ _ hst' (Nat.le_succ _) fun b hb o e => ?_) ⟨_, hc3, hS3⟩ fun s'' c2 hm'' hc'' hS'' => ?_⟩
    · rw [hsb.2 b (fun h : b = S => hSf (by rw [← h]; exact hb))]; exact e
    · refine hR s'' c2 (Moved.trans W.gtrans ((hm.mono hsub).then_heap (Nat.le_succ _) fun b o hb e => ?_) hm'') hc'' hS''
      rw [hsb.2 b (fun h : b = S => hb (by rw [h]; exact List.mem_cons_self))]; exact e

set_option maxHeartbeats 8000000 in
theorem call_set_listT {l : Addr} {items : Array Value} (ns : List Str) {Q : Value → Shared → Prop} (hh : A.handled = none) (hl : s.heap.IsList l items) (hit : StrsAre items.toList ns) (hb : ns.length + 1 < scanBound)
    (h : ∀ (h' : Heap) (tk c : Nat), SetT P w h' s.heap.objs.size (fun j => decide (j ∈ ns)) c → c ≤ ns.length → (∀ b o, s.heap.get? b = some o → h'.get? b = some o) → Q (.ref s.heap.objs.size) { s with heap := h', toks := tk }) :
    wpAny (model P w) A (call (.type "set") [.ref l]) Q E s := by
  have hisz : items.size = ns.length := by
    have q := StrsAre.len_eq hit
    rw [Array.length_toList] at q
    exact q
  obtain ⟨c, tl, hmro⟩ := F.called_set.mro
  have hmade := F.called_set.made
  have hsub := F.called_set.sub
  refine wpAny_call (codeAny_of_tree ?_)
  show wpAny _ _ (callAny (.type "set") _) _ _ _
  refine wpAny_pure ⟨Code.quiet_builtin _ (by decide +kernel), codeAny_builtin F.entry_type_call ?_⟩
  rw [Around.under_plain (weight_type_call_type "set" [.ref l] []) rfl]
  have h1 := F.called_set.notType
  have h2 := F.called_set.canCreate
  have hct := F.typeCall_set_1 (.ref l)
  repeat (any_goals (first | assumption | wp_step))

  refine codeAny_mono (code_set_led1 (.ref l) (E := E) (Q₁ := fun obj s₁ => obj = .ref s.heap.objs.size ∧ s₁ = { s with heap := s.heap.push { cls := .type "set", dict := none, data := .set #[] 0 (.fresh 0 0 (!w.params.followText "set-order")) } }) ⟨rfl, rfl⟩) fun r s₁ hr => ?_
  cases r with
  | error e => exact hr
  | ok fl =>
    cases fl with
    | ret obj =>
      obtain ⟨rfl, rfl⟩ := hr
      have hS : (s.heap.push { cls := .type "set", dict := none, data := .set #[] 0 (.fresh 0 0 (!w.params.followText "set-order")) }).get? s.heap.objs.size = some { cls := .type "set", dict := none, data := .set #[] 0 (.fresh 0 0 (!w.params.followText "set-order")) } := Heap.get?_push_size _ rfl
      have hT : Shared.TypeIs { s with heap := s.heap.push { cls := .type "set", dict := none, data := .set #[] 0 (.fresh 0 0 (!w.params.followText "set-order")) } } (.ref s.heap.objs.size) "set" := ⟨_, hS, rfl⟩
      have hli := F.called_set.init.lookup
      have hbi := F.called_set.init.bind (.ref s.heap.objs.size)
      repeat (any_goals (first | assumption | wp_step))

      refine codeAny_mono (codeAny_call_builtin (R := wants (fun r s₂ => r = .none ∧ ∃ h' tk c, s₂ = { s with heap := h', toks := tk } ∧ SetT P w h' s.heap.objs.size (fun j => decide (j ∈ ns)) c ∧ c ≤ ns.length ∧
          (∀ b o, s.heap.get? b = some o → h'.get? b = some o)) E) F.called_set.init.plain F.entry_set_init (check_set_init_1 hT ?_)) fun r₂ s₂ hr₂ => ?_
      · obtain ⟨ol, hol, hcl, nl, hdl⟩ := hl
        obtain ⟨ocls, odict, odata, oslots⟩ := ol
        simp only at hcl hdl
        subst hcl; subst hdl
        have hol' : (s.heap.push { cls := .type "set", dict := none, data := .set #[] 0 (.fresh 0 0 (!w.params.followText "set-order")) }).get? l = some { cls := .type "list", dict := odict, data := .seq items nl, slots := oslots } := Heap.get?_push_of_some _ hol
        have hsls := F.sub_list_set
        have hslf := F.sub_list_frozenset
        have hne : (Value.type "list" == Value.type "dict") = false := by decide
        have hl1 : (s.heap.push { cls := .type "set", dict := none, data := .set #[] 0 (.fresh 0 0 (!w.params.followText "set-order")) }).IsList l items := ⟨_, hol', rfl, nl, rfl⟩
        unfold Builtin.«set.__init__» noKeywords Builtin.Frozenset.updateFrom
        generalize hPI : pyIter = PI
        wp_walk
        subst hPI

        refine wpAny_pyIter_list hl1 ?_
        refine wpAny_bind (wpAny_runValue ?_)
        have hlS : l < s.heap.objs.size := Heap.lt_size hol
        have hh3 : A.in1.in1.in1.handled = none := by simp [hh]
        have hz1 : (s.heap.push { cls := .type "set", dict := none, data := .set #[] 0 (.fresh 0 0 (!w.params.followText "set-order")) }).objs.size = s.heap.objs.size + 1 := Heap.size_push ..
        have hneI : l ≠ (s.heap.push { cls := .type "set", dict := none, data := .set #[] 0 (.fresh 0 0 (!w.params.followText "set-order")) }).objs.size := by
          rw [Heap.size_push]; exact Nat.ne_of_lt (Nat.lt_succ_of_lt hlS)
        have hSf : s.heap.objs.size ∉ [(s.heap.push { cls := .type "set", dict := none, data := .set #[] 0 (.fresh 0 0 (!w.params.followText "set-order")) }).objs.size, l] := by
          rw [Heap.size_push]; simp only [List.mem_cons, List.mem_singleton, List.not_mem_nil, or_false, not_or]
          exact ⟨Nat.ne_of_lt (Nat.lt_succ_self _), Nat.ne_of_gt hlS⟩
        have hval : ∀ (i : Nat) (v : Value), items[i]? = some v → ∃ k t, ns[i]? = some k ∧ v = .str k t := fun i v hv => by
          have hi : i < ns.length := by rw [← hisz]; exact (Array.getElem?_eq_some_iff.mp hv).1
          obtain ⟨t, e⟩ := SS.strs_at hit i v (by rw [Array.getElem?_toList]; exact hv)
          refine ⟨ns[i], t, List.getElem?_eq_getElem hi, ?_⟩
          rw [e, List.getD_eq_getElem?_getD, List.getElem?_eq_getElem hi] <;> rfl
        refine setT_update ((Walks.list hh3 _ l hneI items).toS) s.heap.objs.size
          hSf ns hisz hb hval (items.size - 0) 0 _ (by omega) (Nat.zero_le _)
          ⟨⟨_, Heap.get?_push_size _ rfl, rfl, rfl⟩, (hl1.push _)⟩ ?hS0 ?hR
        case hS0 =>
          have hget : ((s.heap.push { cls := .type "set", dict := none, data := .set #[] 0 (.fresh 0 0 (!w.params.followText "set-order")) }).push { cls := .type "list_iterator", data := .fields #[.ref l, .int 0 0] }).get? s.heap.objs.size
              = some { cls := .type "set", dict := none, data := .set #[] 0 (.fresh 0 0 (!w.params.followText "set-order")) } := Heap.get?_push_of_some _ hS
          exact ⟨0, Nat.le_refl 0, setT_fresh hget⟩
        case hR =>
          intro s' c' hm hc' hS'
          obtain ⟨h', g2, d', tk', os'⟩ := s'
          have eg : g2 = s.gens := hm.gens
          have ed : d' = s.drawn := hm.drawn
          have eo : os' = s.os := hm.os
          subst eg; subst ed; subst eo
          show wpAny _ _ _ _ _ _
          refine wpAny_pure ?_
          show wpAny _ _ (ret Value.none) _ _ _
          rw [hisz] at hc'
          refine wpAny_pure ⟨rfl, h', tk', c', rfl, hS', hc', fun b o e => ?_⟩
          have hb0 : b < s.heap.objs.size := Heap.lt_size e
          have hb1 : b ≠ s.heap.objs.size := Nat.ne_of_lt hb0
          have hb2 : b ≠ (s.heap.push { cls := .type "set", dict := none, data := .set #[] 0 (.fresh 0 0 (!w.params.followText "set-order")) }).objs.size := by
            rw [Heap.size_push]; exact Nat.ne_of_lt (Nat.lt_succ_of_lt hb0)
          exact hm.heap b o (by simp only [List.mem_cons, List.mem_singleton, List.not_mem_nil, or_false, not_or]; exact ⟨hb1, hb2⟩) (Heap.get?_push_of_some _ (Heap.get?_push_of_some _ e))

      · cases r₂ with
        | error e => exact hr₂
        | ok fl₂ =>
          cases fl₂ with
          | ret r =>
            obtain ⟨rfl, h', tk, c', rfl, hS', hc', hk'⟩ := hr₂
            repeat (any_goals (first | assumption | wp_step))
            exact h _ _ _ hS' hc' hk'
          | _ => exact hr₂.elim
    | _ => exact hr.elim

set_option maxHeartbeats 8000000 in
theorem call_set_tupleT {l : Addr} {items : Array Value} (ns : List Str) {Q : Value → Shared → Prop} (hh : A.handled = none) (hl : s.heap.IsTuple l items) (hit : StrsAre items.toList ns) (hb : ns.length + 1 < scanBound)
    (h : ∀ (h' : Heap) (tk c : Nat), SetT P w h' s.heap.objs.size (fun j => decide (j ∈ ns)) c → c ≤ ns.length → (∀ b o, s.heap.get? b = some o → h'.get? b = some o) → Q (.ref s.heap.objs.size) { s with heap := h', toks := tk }) :
    wpAny (model P w) A (call (.type "set") [.ref l]) Q E s := by
  have hisz : items.size = ns.length := by
    have q := StrsAre.len_eq hit
    rw [Array.length_toList] at q
    exact q
  obtain ⟨c, tl, hmro⟩ := F.called_set.mro
  have hmade := F.called_set.made
  have hsub := F.called_set.sub
  refine wpAny_call (codeAny_of_tree ?_)
  show wpAny _ _ (callAny (.type "set") _) _ _ _
  refine wpAny_pure ⟨Code.quiet_builtin _ (by decide +kernel), codeAny_builtin F.entry_type_call ?_⟩
  rw [Around.under_plain (weight_type_call_type "set" [.ref l] []) rfl]
  have h1 := F.called_set.notType
  have h2 := F.called_set.canCreate
  have hct := F.typeCall_set_1 (.ref l)
  repeat (any_goals (first | assumption | wp_step))

  refine codeAny_mono (code_set_led1 (.ref l) (E := E) (Q₁ := fun obj s₁ => obj = .ref s.heap.objs.size ∧ s₁ = { s with heap := s.heap.push { cls := .type "set", dict := none, data := .set #[] 0 (.fresh 0 0 (!w.params.followText "set-order")) } }) ⟨rfl, rfl⟩) fun r s₁ hr => ?_
  cases r with
  | error e => exact hr
  | ok fl =>
    cases fl with
    | ret obj =>
      obtain ⟨rfl, rfl⟩ := hr
      have hS : (s.heap.push { cls := .type "set", dict := none, data := .set #[] 0 (.fresh 0 0 (!w.params.followText "set-order")) }).get? s.heap.objs.size = some { cls := .type "set", dict := none, data := .set #[] 0 (.fresh 0 0 (!w.params.followText "set-order")) } := Heap.get?_push_size _ rfl
      have hT : Shared.TypeIs { s with heap := s.heap.push { cls := .type "set", dict := none, data := .set #[] 0 (.fresh 0 0 (!w.params.followText "set-order")) } } (.ref s.heap.objs.size) "set" := ⟨_, hS, rfl⟩
      have hli := F.called_set.init.lookup
      have hbi := F.called_set.init.bind (.ref s.heap.objs.size)
      repeat (any_goals (first | assumption | wp_step))

      refine codeAny_mono (codeAny_call_builtin (R := wants (fun r s₂ => r = .none ∧ ∃ h' tk c, s₂ = { s with heap := h', toks := tk } ∧ SetT P w h' s.heap.objs.size (fun j => decide (j ∈ ns)) c ∧ c ≤ ns.length ∧
          (∀ b o, s.heap.get? b = some o → h'.get? b = some o)) E) F.called_set.init.plain F.entry_set_init (check_set_init_1 hT ?_)) fun r₂ s₂ hr₂ => ?_
      · obtain ⟨ol, hol, hcl, nl, hdl⟩ := hl
        obtain ⟨ocls, odict, odata, oslots⟩ := ol
        simp only at hcl hdl
        subst hcl; subst hdl
        have hol' : (s.heap.push { cls := .type "set", dict := none, data := .set #[] 0 (.fresh 0 0 (!w.params.followText "set-order")) }).get? l = some { cls := .type "tuple", dict := odict, data := .seq items nl, slots := oslots } := Heap.get?_push_of_some _ hol
        have hsls := F.sub_tuple_set
        have hslf := F.sub_tuple_frozenset
        have hne : (Value.type "tuple" == Value.type "dict") = false := by decide
        have hl1 : (s.heap.push { cls := .type "set", dict := none, data := .set #[] 0 (.fresh 0 0 (!w.params.followText "set-order")) }).IsTuple l items := ⟨_, hol', rfl, nl, rfl⟩
        unfold Builtin.«set.__init__» noKeywords Builtin.Frozenset.updateFrom
        generalize hPI : pyIter = PI
        wp_walk
        subst hPI

        refine wpAny_pyIter_tuple hl1 ?_
        refine wpAny_bind (wpAny_runValue ?_)
        have hlS : l < s.heap.objs.size := Heap.lt_size hol
        have hh3 : A.in1.in1.in1.handled = none := by simp [hh]
        have hz1 : (s.heap.push { cls := .type "set", dict := none, data := .set #[] 0 (.fresh 0 0 (!w.params.followText "set-order")) }).objs.size = s.heap.objs.size + 1 := Heap.size_push ..
        have hneI : l ≠ (s.heap.push { cls := .type "set", dict := none, data := .set #[] 0 (.fresh 0 0 (!w.params.followText "set-order")) }).objs.size := by
          rw [Heap.size_push]; exact Nat.ne_of_lt (Nat.lt_succ_of_lt hlS)
        have hSf : s.heap.objs.size ∉ [(s.heap.push { cls := .type "set", dict := none, data := .set #[] 0 (.fresh 0 0 (!w.params.followText "set-order")) }).objs.size, l] := by
          rw [Heap.size_push]; simp only [List.mem_cons, List.mem_singleton, List.not_mem_nil, or_false, not_or]
          exact ⟨Nat.ne_of_lt (Nat.lt_succ_self _), Nat.ne_of_gt hlS⟩
        have hval : ∀ (i : Nat) (v : Value), items[i]? = some v → ∃ k t, ns[i]? = some k ∧ v = .str k t := fun i v hv => by
          have hi : i < ns.length := by rw [← hisz]; exact (Array.getElem?_eq_some_iff.mp hv).1
          obtain ⟨t, e⟩ := SS.strs_at hit i v (by rw [Array.getElem?_toList]; exact hv)
          refine ⟨ns[i], t, List.getElem?_eq_getElem hi, ?_⟩
          rw [e, List.getD_eq_getElem?_getD, List.getElem?_eq_getElem hi] <;> rfl
        refine setT_update ((Walks.tuple hh3 _ l hneI items).toS) s.heap.objs.size
          hSf ns hisz hb hval (items.size - 0) 0 _ (by omega) (Nat.zero_le _)
          ⟨⟨_, Heap.get?_push_size _ rfl, rfl, rfl⟩, (hl1.push _)⟩ ?hS0 ?hR
        case hS0 =>
          have hget : ((s.heap.push { cls := .type "set", dict := none, data := .set #[] 0 (.fresh 0 0 (!w.params.followText "set-order")) }).push { cls := .type "tuple_iterator", data := .fields #[.ref l, .int 0 0] }).get? s.heap.objs.size
              = some { cls := .type "set", dict := none, data := .set #[] 0 (.fresh 0 0 (!w.params.followText "set-order")) } := Heap.get?_push_of_some _ hS
          exact ⟨0, Nat.le_refl 0, setT_fresh hget⟩
        case hR =>
          intro s' c' hm hc' hS'
          obtain ⟨h', g2, d', tk', os'⟩ := s'
          have eg : g2 = s.gens := hm.gens
          have ed : d' = s.drawn := hm.drawn
          have eo : os' = s.os := hm.os
          subst eg; subst ed; subst eo
          show wpAny _ _ _ _ _ _
          refine wpAny_pure ?_
          show wpAny _ _ (ret Value.none) _ _ _
          rw [hisz] at hc'
          refine wpAny_pure ⟨rfl, h', tk', c', rfl, hS', hc', fun b o e => ?_⟩
          have hb0 : b < s.heap.objs.size := Heap.lt_size e
          have hb1 : b ≠ s.heap.objs.size := Nat.ne_of_lt hb0
          have hb2 : b ≠ (s.heap.push { cls := .type "set", dict := none, data := .set #[] 0 (.fresh 0 0 (!w.params.followText "set-order")) }).objs.size := by
            rw [Heap.size_push]; exact Nat.ne_of_lt (Nat.lt_succ_of_lt hb0)
          exact hm.heap b o (by simp only [List.mem_cons, List.mem_singleton, List.not_mem_nil, or_false, not_or]; exact ⟨hb1, hb2⟩) (Heap.get?_push_of_some _ (Heap.get?_push_of_some _ e))

      · cases r₂ with
        | error e => exact hr₂
        | ok fl₂ =>
          cases fl₂ with
          | ret r =>
            obtain ⟨rfl, h', tk, c', rfl, hS', hc', hk'⟩ := hr₂
            repeat (any_goals (first | assumption | wp_step))
            exact h _ _ _ hS' hc' hk'
          | _ => exact hr₂.elim
    | _ => exact hr.elim

end
end Sm

namespace Sm
open PySem PySem.Spec PyProof.Rows L2
section
variable {P : Program} {w : World} {A : Around} {E : Value → Shared → Prop} {s : Shared}
theorem list_sort_strs {a : Addr} {vs : List Value} {ss : List Str} {n : Nat} {R : Fin → Shared → Prop} (ho : s.heap.get? a = some (seqObj "list" vs.toArray n)) (hS : StrsAre vs ss) (h64 : vs.length < 64)
    (h : ∀ (out : Array Value) (ss' : List Str), StrsAre out.toList ss' → ss'.Perm ss → sortedS ss' = true → R (.done (.ret .none)) { s with heap := sortedHeap s.heap a vs out }) : wpAny (model P w) A (Builtin.«list.sort» ⟨[.ref a], []⟩) R E s := by
  refine PyProof.Rows.list_sort_treeK PyProof.Rows.strKind_oneLt ho hS.keysOf (fun v₁ v₂ rest e => keyKind_strs (by rw [← e]; exact hS)) h64 fun st' hp hs => ?_
  obtain ⟨ss', h1, h2, h3⟩ := sorted_out_str hS hp hs
  exact h _ ss' h1 h2 h3
theorem keyT_eq (e : Int × Value) : keyT e = strOf e.2 := by
  obtain ⟨h, v⟩ := e
  cases v <;> rfl
theorem strs_of_vals : ∀ (l : List Value), (∀ v ∈ l, ∃ k tk, v = Value.str k tk) → StrsAre l (l.map strOf)
  | [], _ => .nil
  | v :: l, h => by
    obtain ⟨k, tk, rfl⟩ := h v List.mem_cons_self
    exact .cons k tk (strs_of_vals l fun u hu => h u (List.mem_cons_of_mem _ hu))
/-- sorted(set of texts), fewer than 64 -/
theorem sorted_setTx {a : Addr} {S : Str → Bool} {n : Nat} {Q : Value → Shared → Prop} (R : SetT P w s.heap a S n) (hh : A.handled = none) (h64 : n < 64)
    (hQ : ∀ s' p (out : Array Value) (c : Nat) (ns : List Str), (∀ b o, s.heap.get? b = some o → s'.heap.get? b = some o) → s'.gens = s.gens → s'.os = s.os → s.heap.objs.size ≤ p →
      s'.heap.get? p = some (seqObj "list" out c) → StrsAre out.toList ns → ns.Nodup → sortedS ns = true → (∀ k, k ∈ ns ↔ S k = true) → ns.length = n → Q (.ref p) s') :
    wpAny (model P w) A (call (.builtin "sorted") [.ref a]) Q E s := by
  obtain ⟨o, es, ep, t, ho, hex, hd, g, nd, hm, hb, hf, hn, hr, hl⟩ := R
  refine Calls.call_function_entry kind_sorted plain_sorted entry_sorted (args_sorted1 _) ?_
  unfold Builtin.«sorted»
  refine wpAny_bind (m := checkCount "sorted" 1 1 _) (wpAny_pure ?_)
  refine wpAny_bind (collect_set (A := A.in1) hh ⟨o, ho, hex.1, hd⟩ hf hb hr hl fun s1 vs k1 hz g1 o1 pm => ?_)
  have hvl : vs.length = n := by rw [pm.length_eq, List.length_map, Array.length_toList]; exact hn
  have hI : StrsAre vs (vs.map strOf) := strs_of_vals vs fun v hv => by
    obtain ⟨e, he, q⟩ := List.mem_map.mp (pm.mem_iff.mp hv)
    obtain ⟨k, tk, h1, _⟩ := g e he
    exact ⟨k, tk, by rw [← q]; exact h1⟩
  have pk : (vs.map strOf).Perm (es.toList.map keyT) := by
    have q := pm.map strOf
    rw [List.map_map] at q
    rw [show es.toList.map keyT = es.toList.map (strOf ∘ fun x => x.2) from List.map_congr_left fun e _ => keyT_eq e]
    exact q
  refine wpAny_bind (wpAny_newList ?_ (by rw [hvl, sizeLine_eq]; omega))
  have hoL : (s1.heap.push (seqObj "list" vs.toArray 0)).get? s1.heap.objs.size = some (seqObj "list" vs.toArray 0) := Heap.get?_push_size _ rfl
  refine wpAny_bind (wpAny_holding (wpAny_call_entry slot_list_sort ⟨_, hoL, rfl⟩ entry_list_sort (list_sort_strs hoL hI (by rw [hvl]; exact h64) fun out ns' a1 a2 a3 => ⟨_, rfl, ?_⟩) (args_list_sort _)))
  obtain ⟨c, hc⟩ := sortedHeap_at (vs := vs) (out := out) hoL
  have pn : ns'.Perm (es.toList.map keyT) := a2.trans pk
  refine wpAny_pure ⟨_, rfl, hQ _ s1.heap.objs.size out c ns' (fun b u e => ?_) g1 o1 hz hc a1 (pn.nodup_iff.mpr nd) a3 (fun k => by rw [pn.mem_iff, ← hm k]) ?_⟩
  · have q := k1 b u e
    have hlt := Heap.lt_size q
    show (sortedHeap (s1.heap.push (seqObj "list" vs.toArray 0)) s1.heap.objs.size vs out).get? b = some u
    rw [sortedHeap_old (Nat.ne_of_lt hlt) (by rw [size_push']; exact Nat.lt_succ_of_lt hlt)]
    exact Heap.get?_push_of_some _ q
  · rw [pn.length_eq, List.length_map, Array.length_toList]; exact hn
end
/-! ### over the layer -/
section
variable {X : Cx}
/-- the unlike ones, in order of their first place -/
def dedup : List Str → List Str
  | [] => []
  | x :: r => x :: (dedup r).filter fun y => !decide (y = x)
theorem dedup_mem {x : Str} : ∀ {l : List Str}, x ∈ dedup l ↔ x ∈ l
  | [] => Iff.rfl
  | y :: r => by
    show x ∈ y :: (dedup r).filter _ ↔ _
    rw [List.mem_cons, List.mem_cons, List.mem_filter, dedup_mem (l := r)]
    by_cases h : x = y
    · simp [h]
    · simp [h]
theorem dedup_nodup : ∀ l : List Str, (dedup l).Nodup
  | [] => List.nodup_nil
  | y :: r => by
    show (y :: (dedup r).filter _).Nodup
    rw [List.nodup_cons]
    refine ⟨fun z => ?_, (dedup_nodup r).filter _⟩
    have := (List.mem_filter.mp z).2
    simp at this
theorem dedup_len : ∀ l : List Str, (dedup l).length ≤ l.length
  | [] => Nat.le_refl _
  | y :: r => by
    show (y :: (dedup r).filter _).length ≤ _
    rw [List.length_cons, List.length_cons]
    exact Nat.succ_le_succ (Nat.le_trans (List.length_filter_le _ _) (dedup_len r))
theorem nodup_perm {a b : List Str} (ha : a.Nodup) (hb : b.Nodup) (h : ∀ x, x ∈ a ↔ x ∈ b) : a.Perm b := (List.perm_ext_iff_of_nodup ha hb).mpr h
def tSetOf (K : PySem.W.Frag) (ta : TE) (R : List Str → Hp → Prop) : L2.St → Hp → Prop := fun σ H => ta σ H fun x H1 => ∃ l, ∃ xs : List Str, x = .ref l ∧ (SqL K H1 l (xs.map V.str) ∨ SqT K H1 l (xs.map V.str)) ∧ xs.length ≤ 4000 ∧ R xs H1
theorem scan_ok {n : Nat} (h : n ≤ 4000) : n + 1 < scanBound := by unfold scanBound; omega
theorem set_made {a : Expr} {ta : TE} {p2 q : Pos} {pins : List (Addr × Obj)} {σ : L2.St} {H : Hp} {s : Shared} {R : List Str → Hp → Prop} {Q : Value → Shared → Prop} (hc : X.calm = true) (hg2 : Gl X "set") (hm2 : X.mg "set" = none) (ha : PE X a ta) (na : starEach [a] X.env = (false, eval a X.env) :: starEach [] X.env) (I : Inv X pins σ H s) (h : tSetOf X.K ta R σ H)
    (k : ∀ xs H1 s2 S c b, R xs H1 → Inv X pins σ H1 s2 → SetT X.prog X.w s2.heap b S c → c ≤ xs.length → xs.length ≤ 4000 → (∀ j, S j = true ↔ j ∈ xs) → Q (.ref b) s2) :
    wpAny (model X.prog X.w) X.A (eval (.Call (.Name "set" p2) [a] [] q) X.env) Q X.xe s := by
  refine Call_ (ld_blt I hg2 hm2 boot_set ?_)
  refine PyProof.Rows.callWith_type1 (PyProof.Rows.args_cons (thn (ha.run pins s σ H _ I h) fun v s1 ⟨x, H1, I1, r1, q1⟩ => PyProof.Rows.args_nil ?_) na) na rfl
  obtain ⟨l, xs, rfl, hq, h1, q1⟩ := q1
  cases r1
  have go : ∀ (h' : Heap) (tk c : Nat), SetT X.prog X.w h' s1.heap.objs.size (fun j => decide (j ∈ xs)) c → c ≤ xs.length → (∀ b o, s1.heap.get? b = some o → h'.get? b = some o) → Q (.ref s1.heap.objs.size) { s1 with heap := h', toks := tk } := fun h' tk c hS hc' hk =>
    k xs H1 _ _ c _ q1 (I1.kept hk) hS hc' h1 fun j => by rw [decide_eq_true_eq]
  rcases hq with hq | hq
  · obtain ⟨its, r, pl, hz⟩ := I1.list hq
    exact call_set_listT xs (I1.ok.hd hc) pl.isList (by simpa using strsAre_of r) (scan_ok h1) go
  · obtain ⟨its, r, pl, hz⟩ := I1.tuple hq
    exact call_set_tupleT xs (I1.ok.hd hc) pl (by simpa using strsAre_of r) (scan_ok h1) go
def tLenSetT (K : PySem.W.Frag) (ta : TE) : TE := fun σ H Q => tSetOf K ta (fun xs H1 => Q (.int (dedup xs).length) H1) σ H
theorem setT_count {w : World} {P : Program} {h : Heap} {b : Addr} {S : Str → Bool} {c : Nat} {xs : List Str} (R : SetT P w h b S c) (e : ∀ j, S j = true ↔ j ∈ xs) : c = (dedup xs).length := by
  obtain ⟨o, es, ep, t, ho, hex, hd, g, nd, hm, hb, hf, hn, hr, hl⟩ := R
  have p := nodup_perm nd (dedup_nodup xs) fun x => by rw [← hm x, e x, dedup_mem]
  have := p.length_eq
  rw [List.length_map, Array.length_toList] at this
  omega
theorem pe_lenSetT {a : Expr} {ta : TE} {p p2 q pos : Pos} (hg : Gl X "len") (hm : X.mg "len" = none) (hg2 : Gl X "set") (hm2 : X.mg "set" = none) (ha : PE X a ta) (hc : X.calm = true := by rfl)
    (na : starEach [a] X.env = (false, eval a X.env) :: starEach [] X.env := by rfl) : PE X (.Call (.Name "len" p) [.Call (.Name "set" p2) [a] [] q] [] pos) (tLenSetT X.K ta) := by
  refine ⟨fun pins s σ H Q I h => ?_⟩
  refine Call_ (ld_blt I hg hm boot_len ?_)
  refine PyProof.Rows.callWith_builtin1 (PyProof.Rows.args_cons ?_ rfl) rfl rfl
  refine set_made hc hg2 hm2 ha na I h fun xs H1 s2 S c b q1 I2 R hc' h4 e => PyProof.Rows.args_nil ?_
  have ec := setT_count R e
  obtain ⟨o, es, ep, t, ho, hex, hd, g, nd, hm, hb, hf, hn, hr, hl⟩ := R
  exact call_len_set ho hex hd hf (by rw [hn]; omega) ⟨.int (dedup xs).length, H1, I2.tok _, ⟨_, by rw [hn, ec]⟩, q1⟩
def tSortSetT (K : PySem.W.Frag) (ta : TE) : TE := fun σ H Q => tSetOf K ta (fun xs H1 => (dedup xs).length < 64 ∧ ∀ p, H1 p = none → Q (.ref p) (upd H1 p (.lst ((sortS (dedup xs)).map V.str)))) σ H
theorem pe_sortSetT {a : Expr} {ta : TE} {p p2 q pos : Pos} (hg : Gl X "sorted") (hm : X.mg "sorted" = none) (hg2 : Gl X "set") (hm2 : X.mg "set" = none) (ha : PE X a ta) (hc : X.calm = true := by rfl)
    (na : starEach [a] X.env = (false, eval a X.env) :: starEach [] X.env := by rfl) : PE X (.Call (.Name "sorted" p) [.Call (.Name "set" p2) [a] [] q] [] pos) (tSortSetT X.K ta) := by
  refine ⟨fun pins s σ H Q I h => ?_⟩
  refine Call_ (ld_blt I hg hm PyProof.Rows.boot_sorted ?_)
  refine PyProof.Rows.callWith_builtin1 (PyProof.Rows.args_cons ?_ rfl) rfl rfl
  refine set_made hc hg2 hm2 ha na I h fun xs H1 s2 S c b q1 I2 R hc' h4 e => PyProof.Rows.args_nil ?_
  have ec := setT_count R e
  obtain ⟨h64, q1⟩ := q1
  refine sorted_setTx R (I2.ok.hd hc) (by omega) fun s' p out c' ns k g o hp hg' hi nd hs hmem hl => ?_
  have pm : ns.Perm (dedup xs) := nodup_perm nd (dedup_nodup xs) fun x => by rw [hmem x, e x, dedup_mem]
  rw [← sortS_eq pm hs] at q1
  have hlen : (ns.map V.str).length ≤ sizeLine := by rw [List.length_map, hl, sizeLine_eq]; omega
  have hn : H1 p = none := I2.hok.fresh hp
  have J : Inv X pins σ (upd H1 p (.lst (ns.map V.str))) { s2 with heap := s'.heap, gens := s'.gens, drawn := s'.drawn, toks := s'.toks } :=
    I2.call (ch := []) (Un.laid k hp hn) (I2.hok.laid k hp ⟨hlen, out.toList, c', vals_of_strs hi, hg'⟩) (by rw [g]; exact I2.bare) (fun _ z => nomatch z)
  have e' : s' = { s2 with heap := s'.heap, gens := s'.gens, drawn := s'.drawn, toks := s'.toks } := by
    cases s'
    cases s2
    cases o
    rfl
  rw [e']
  exact ⟨.ref p, _, J, rfl, q1 p hn⟩
end
section
variable {C : Cx} {ct : Nat → Addr} {E : XK} {G : Gx} {ρ : List Addr} {H : Hp} {σ : L2.St} {δ : Env'} {S : Store}
def cSetOf (c : CE) (k : List Str → Store → Res Dv) : CE := fun δ S => (c δ S).bind fun d S1 => match (seqOf S1 d).bind strsOf with
  | some xs => if decide (xs.length ≤ 4000) then k xs S1 else .bad
  | none => .bad
theorem setOf_step {c : CE} {k : List Str → Store → Res Dv} {Q : VK} {R : List Str → Hp → Prop} (hq : tE G E (cSetOf c k) σ H Q) (st : ∀ ρ S H xs, RH G ρ S H → Po G E (rV G) ρ H (k xs S) Q → R xs H) : tSetOf G.K (tE G E c) R σ H := by
  obtain ⟨ρ, δ, S, hR, hF, h⟩ := hq
  refine tE.mk hR hF (Po.bnd h fun d S1 _ ρ1 H1 v e1 R1 rv h1 => ?_)
  split at h1
  · rename_i xs e
    obtain ⟨es, e2, e3⟩ := Option.bind_eq_some_iff.mp e
    obtain ⟨a, vs, rfl, q, hs⟩ := seq_at R1 rv e2
    rw [strsOf_map e3] at hs
    rw [hs.strs] at q
    by_cases hz : decide (xs.length ≤ 4000) = true
    · rw [if_pos hz] at h1
      exact ⟨a, xs, rfl, q, of_decide_eq_true hz, st ρ1 S1 H1 xs R1 h1⟩
    · rw [if_neg hz] at h1; exact h1.elim
  · exact h1.elim
/-- len(set(..)) of texts -/
def cLenSet (c : CE) : CE := cSetOf c fun xs S => .ok (.int (dedup xs).length) S
/-- sorted(set(..)) of texts -/
def cSortSet (c : CE) : CE := cSetOf c fun xs S => if decide ((dedup xs).length < 64) then .ok (.ref S.length) (S ++ [.lst ((sortS (dedup xs)).map Dv.str)]) else .bad
theorem q_lenSet {a : Expr} {ca : CE} {p p2 q pos : Pos} (hg : Gl C "len") (hm : C.mg "len" = none) (hg2 : Gl C "set") (hm2 : C.mg "set" = none) (ha : PE C a (tE (gx C ct) E ca)) (hc : C.calm = true := by rfl)
    (na : starEach [a] C.env = (false, eval a C.env) :: starEach [] C.env := by rfl) : PE C (.Call (.Name "len" p) [.Call (.Name "set" p2) [a] [] q] [] pos) (tE (gx C ct) E (cLenSet ca)) :=
  PE.weak (pe_lenSetT hg hm hg2 hm2 ha hc na) fun σ H Q h => setOf_step h fun ρ S H xs R h => h.ret R (.int _)
theorem q_sortSet {a : Expr} {ca : CE} {p p2 q pos : Pos} (hg : Gl C "sorted") (hm : C.mg "sorted" = none) (hg2 : Gl C "set") (hm2 : C.mg "set" = none) (ha : PE C a (tE (gx C ct) E ca)) (hc : C.calm = true := by rfl)
    (na : starEach [a] C.env = (false, eval a C.env) :: starEach [] C.env := by rfl) : PE C (.Call (.Name "sorted" p) [.Call (.Name "set" p2) [a] [] q] [] pos) (tE (gx C ct) E (cSortSet ca)) :=
  PE.weak (pe_sortSetT hg hm hg2 hm2 ha hc na) fun σ H Q h => setOf_step h fun ρ S H xs R h => by
    by_cases hz : decide ((dedup xs).length < 64) = true
    · rw [if_pos hz] at h
      exact ⟨of_decide_eq_true hz, fun p hp => h.retX (.new hp) (R.alloc hp (.lst (VRs.of_strs _))) (.ref (by rw [← R.len]; simp))⟩
    · rw [if_neg hz] at h; exact h.elim
end
end Sm

/-! d.update(e); sorted(t) of tuples whose first places are unlike texts -/
namespace Sm
open PySem PySem.Spec PyProof.Rows L2 SrtO
section
variable {prog : Program} {w : World} {A : Around} {E : Value → Shared → Prop} {s : Shared}
/-- a tuple whose first place is a text -/
def TxTup (h : Heap) (v : Value) (x : Str) : Prop := ∃ a o t xs n, v = .ref a ∧ h.get? a = some o ∧ o.cls = .type "tuple" ∧ o.data = .seq xs n ∧ xs[0]? = some (.str x t)
theorem TxTup.keeps {h h' : Heap} {v : Value} {x : Str} (p : TxTup h v x) (k : ∀ b o, h.get? b = some o → o.cls = .type "tuple" → h'.get? b = some o) : TxTup h' v x := by
  obtain ⟨a, o, t, xs, n, e, ho, hc, r⟩ := p
  exact ⟨a, o, t, xs, n, e, k _ _ ho hc, hc, r⟩
theorem firstsX {h : Heap} {k : Value → Str} : ∀ {vs : List Value}, (∀ v ∈ vs, TxTup h v (k v)) → ∃ fs : List Value, PySem.W.KatTups h vs fs ∧ fs.length = vs.length ∧ ∀ f ∈ fs, ∃ x t, f = Value.str x t
  | [], _ => ⟨[], PySem.W.KatTups.nil, rfl, fun _ hm => by simp at hm⟩
  | v :: vs, hp => by
    obtain ⟨fs, h1, h2, h3⟩ := firstsX (vs := vs) fun v' hm => hp v' (List.mem_cons_of_mem _ hm)
    obtain ⟨a, o, t, xs, n, e, ho, hc, hd, hx⟩ := hp v (List.mem_cons_self ..)
    generalize k v = x at hx
    subst e
    refine ⟨.str x t :: fs, PySem.W.KatTups.cons ho hc hd hx h1, by rw [List.length_cons, List.length_cons, h2], fun f hm => ?_⟩
    rcases List.mem_cons.mp hm with rfl | hm
    · exact ⟨x, t, rfl⟩
    · exact h3 f hm
theorem kat_same {b fin : Bool} {Q : Bool → Shared → Prop} (h : Q fin s) : ∀ (l : List Value) (i : Nat), PySem.W.KatLex prog w A b fin Q (l.zip l) i s
  | [], i => PySem.W.kat_nil h
  | v :: l, i => PySem.W.kat_cons (SeqAt.EqAt.same v prog w _ _ (PySem.W.kat_yes (kat_same h l (i + 1))))
def ltX (k : Value → Str) : Value → Value → Bool := fun v u => decide ((k v).cps.toList < (k u).cps.toList)
theorem swoX (k : Value → Str) : Swo (ltX k) := by
  refine ⟨fun x y h => ?_, fun x y z h1 h2 => ?_⟩
  · exact decide_eq_false (List.lt_asymm (of_decide_eq_true h))
  · have h1 := of_decide_eq_false h1
    have h2 := of_decide_eq_false h2
    exact decide_eq_false (List.not_lt.mpr (List.le_trans (List.not_lt.mp h1) (List.not_lt.mp h2)))
theorem tx_cmp {vs : List Value} {k : Value → Str} (hp : ∀ v ∈ vs, TxTup s.heap v (k v)) (hu : ∀ v ∈ vs, ∀ u ∈ vs, k v = k u → v = u) : Cmp prog w A s (tuples' true) (fun p => p.1 ∈ vs) (lt2 (ltX k)) := by
  intro p q hm hm'
  have h1 := hp _ hm
  have h2 := hp _ hm'
  have hne := hu _ hm _ hm'
  show wpAny (model prog w) A (keyLt' (tuples' true) p.1 q.1) (fun r s' => s' = s ∧ r = decide ((k p.1).cps.toList < (k q.1).cps.toList)) (fun _ _ => False) s
  generalize k p.1 = x at h1 hne ⊢
  generalize k q.1 = x' at h2 hne ⊢
  obtain ⟨a, o, t, xs, n, e, ho, hc, hd, hx⟩ := h1
  obtain ⟨a', o', t', xs', n', e', ho', hc', hd', hx'⟩ := h2
  rw [e, e'] at hne ⊢
  refine PySem.W.kat_lt ho hd ho' hd' ?_
  by_cases exx : x = x'
  · have ea := hne exx
    cases ea
    rw [ho] at ho'
    cases ho'
    rw [hd] at hd'
    cases hd'
    rw [exx]
    exact kat_same ⟨rfl, by rw [decide_eq_false (Nat.lt_irrefl _), decide_eq_false (List.lt_irrefl _)]⟩ _ _
  · obtain ⟨l, e1⟩ : ∃ l, xs.toList = .str x t :: l := by
      cases q : xs.toList with
      | nil => rw [← Array.getElem?_toList, q] at hx; cases hx
      | cons y l => rw [← Array.getElem?_toList, q] at hx; cases hx; exact ⟨l, rfl⟩
    obtain ⟨l', e2⟩ : ∃ l, xs'.toList = .str x' t' :: l := by
      cases q : xs'.toList with
      | nil => rw [← Array.getElem?_toList, q] at hx'; cases hx'
      | cons y l => rw [← Array.getElem?_toList, q] at hx'; cases hx'; exact ⟨l, rfl⟩
    rw [e1, e2, List.zip_cons_cons]
    refine PySem.W.kat_cons (SeqAt.EqAt.str_str x t x' t' prog w _ _ ?_)
    refine PySem.W.kat_go (fun e3 => absurd (by simpa using e3) exx) (fun e3 => ?_)
    exact PySem.W.kat_no (oneLt_str ⟨rfl, rfl⟩)
theorem tx_sortable {a : Addr} {vs : List Value} {k : Value → Str} (h0 : 0 < vs.length) (hp : ∀ v ∈ vs, TxTup s.heap v (k v)) (hu : ∀ v ∈ vs, ∀ u ∈ vs, k v = k u → v = u) (ha : ∀ o, s.heap.get? a = some o → o.cls ≠ .type "tuple") : SortableO prog w A s a vs (ltX k) := by
  intro h' keep
  have hp' : ∀ v ∈ vs, TxTup h' v (k v) := fun v hm => (hp v hm).keeps fun b o e c => keep b o (fun z => by subst z; exact ha o e c) e
  obtain ⟨fs, h1, h2, h3⟩ := firstsX hp'
  refine ⟨tuples' true, fun Q E hq => ?_, tx_cmp hp' hu⟩
  refine PySem.W.kat_kind (T := .type "str") h1 (by omega) (fun f hm => ?_) (by rfl) ?_
  · obtain ⟨x, t, rfl⟩ := h3 f hm
    exact PySem.W.Looks.now
  · have e : (Value.type "str" != Value.type "tuple") = true := by first | decide +kernel | rfl | decide
    rw [e]
    exact hq
theorem collect_tup {l : Addr} {vs : List Value} {Q : List Value → Shared → Prop} (hl : s.heap.IsTuple l vs.toArray)
    (h : Q vs { s with heap := (s.heap.push (seqObj "list" #[] 0)).update s.heap.objs.size (Obj.mapSeq (· ++ vs.toArray)) }) (hsz : vs.length ≤ sizeLine) :
    wpAny (model prog w) A (collect (.ref l)) Q E s := by
  obtain ⟨o, ho, hc, n, hd⟩ := id hl
  unfold collect
  refine wpAny_bind (wpAny_runValue (codeAny_builtin entry_proto_collect' ?_))
  show wpAny _ _ (do again (.builtin "list.__iadd__" ⟨[← newList [], .ref l], []⟩)) _ _ s
  refine wpAny_bind (wpAny_newList (wpAny_pure ⟨Code.quiet_builtin _ (by decide +kernel), codeAny_builtin entry_list_iadd' ?_⟩) (Nat.zero_le _))
  show wpAny _ _ (Builtin.List.listExtendWith (.ref s.heap.objs.size) (.ref l) (.ref s.heap.objs.size)) _ _ { s with heap := s.heap.push (seqObj "list" #[] 0) }
  unfold Builtin.List.listExtendWith
  have ho' : (s.heap.push (seqObj "list" #[] 0)).get? l = some o := Heap.get?_push_of_some _ ho
  refine wpAny_bind (wpAny_typeOf (T := "tuple") ⟨o, ho', hc⟩ ?_)
  have ht : (Value.type "tuple" == Value.type "tuple") = true := by rfl
  rw [if_pos (by rw [ht]; simp)]
  refine wpAny_bind (listItems_at ho' hd ?_)
  refine wpAny_bind (listItems_at (xs := #[]) (n := 0) (Heap.get?_push_size _ rfl) rfl ?_)
  rw [if_neg (by simp)]
  refine wpAny_bind (listUpdate_at (xs := #[]) (n := 0) (Heap.get?_push_size _ rfl) rfl ?_ (Nat.zero_le _) (by show (#[] ++ vs.toArray).size ≤ sizeLine + 1; simp only [Array.size_append, List.size_toArray, List.length_nil]; omega))
  refine wpAny_pure ?_
  show wpAny (model prog w) A (do
      let o ← load s.heap.objs.size
      match o.data with
      | .seq xs _ => pure xs.toList
      | _ => unsupported "internal:collect") Q E { s with heap := (s.heap.push (seqObj "list" #[] 0)).update s.heap.objs.size (Obj.mapSeq (· ++ vs.toArray)) }
  refine wpAny_bind (wpAny_load (get?_update_seq (Heap.get?_push_size _ rfl) _) ?_)
  show wpAny _ _ (pure ((#[] : Array Value) ++ vs.toArray).toList) Q E _
  rw [show ((#[] : Array Value) ++ vs.toArray).toList = vs by simp]
  exact wpAny_pure h
theorem sorted_ordT {l : Addr} {vs : List Value} {ltv : Value → Value → Bool} {Q : Value → Shared → Prop} (O : Swo ltv) (hl : s.heap.IsTuple l vs.toArray) (hz : vs.length ≤ sizeLine)
    (hS : 2 ≤ vs.length → ∀ (h₁ : Heap) (a : Addr), h₁.get? a = some (seqObj "list" vs.toArray 0) → (∀ b o, s.heap.get? b = some o → b ≠ a ∧ h₁.get? b = some o) → SortableO prog w A.in1.in1 { s with heap := h₁ } a vs ltv)
    (h : ∀ out : List Value, Srtd ltv out → Stb ltv out vs → Q (.ref (s.heap.objs.size + 1)) { s with heap := sortedAll s.heap vs out.toArray }) :
    wpAny (model prog w) A (call (.builtin "sorted") [.ref l]) Q E s := by
  refine Calls.call_function_entry kind_sorted plain_sorted entry_sorted (args_sorted1 _) ?_
  unfold Builtin.«sorted»
  refine wpAny_bind (m := checkCount "sorted" 1 1 _) (wpAny_pure ?_)
  refine wpAny_bind (collect_tup hl ?_ hz)
  refine wpAny_bind (wpAny_newList ?_ hz)
  have hsz : ((s.heap.push (seqObj "list" #[] 0)).update s.heap.objs.size (Obj.mapSeq (· ++ vs.toArray))).objs.size = s.heap.objs.size + 1 := by
    rw [Heap.size_update, size_push']
  have hoL : (((s.heap.push (seqObj "list" #[] 0)).update s.heap.objs.size (Obj.mapSeq (· ++ vs.toArray))).push (seqObj "list" vs.toArray 0)).get? (s.heap.objs.size + 1) = some (seqObj "list" vs.toArray 0) := by
    rw [← hsz]; exact Heap.get?_push_size _ rfl
  have keep : ∀ b o, s.heap.get? b = some o → b ≠ s.heap.objs.size + 1 ∧ (((s.heap.push (seqObj "list" #[] 0)).update s.heap.objs.size (Obj.mapSeq (· ++ vs.toArray))).push (seqObj "list" vs.toArray 0)).get? b = some o := fun b o q => by
    have hlt : b < s.heap.objs.size := Heap.lt_size q
    refine ⟨Nat.ne_of_lt (Nat.lt_succ_of_lt hlt), Heap.get?_push_of_some _ ?_⟩
    rw [Heap.get?_update_ne _ _ _ _ (Nat.ne_of_lt hlt)]
    exact Heap.get?_push_of_some _ q
  show wpAny _ _ _ _ _ { s with heap := ((s.heap.push (seqObj "list" #[] 0)).update s.heap.objs.size (Obj.mapSeq (· ++ vs.toArray))).push (seqObj "list" vs.toArray 0) }
  rw [hsz]
  refine wpAny_bind (wpAny_holding (wpAny_call_entry slot_list_sort ⟨_, hoL, rfl⟩ entry_list_sort (list_sort_ord O hoL hz (fun h2 => hS h2 _ _ hoL keep) fun out hs hb => ⟨_, rfl, ?_⟩) (args_list_sort _)))
  exact wpAny_pure ⟨_, rfl, h out hs hb⟩
theorem sorted_tx {l : Addr} {vs : List Value} {k : Value → Str} {Q : Value → Shared → Prop} (hl : s.heap.IsTuple l vs.toArray) (hz : vs.length ≤ sizeLine) (hp : ∀ v ∈ vs, TxTup s.heap v (k v)) (hu : ∀ v ∈ vs, ∀ u ∈ vs, k v = k u → v = u)
    (h : ∀ (h' : Heap) (d : Addr) (out : List Value), Srtd (ltX k) out → out.Perm vs → (∀ b o, s.heap.get? b = some o → h'.get? b = some o) → s.heap.objs.size ≤ d → (∃ n, h'.get? d = some (seqObj "list" out.toArray n)) → Q (.ref d) { s with heap := h' }) :
    wpAny (model prog w) A (call (.builtin "sorted") [.ref l]) Q E s := by
  refine sorted_ordT (swoX k) hl hz (fun h2 h₁ a ha kk => ?_) fun out hs hb => ?_
  · refine tx_sortable (s := { s with heap := h₁ }) (by omega) (fun v hm => (hp v hm).keeps fun b o e _ => (kk b o e).2) hu fun o e => ?_
    have e' : some o = some (seqObj "list" vs.toArray 0) := e.symm.trans ha
    cases e'
    intro c
    exact absurd (Value.type.inj c) (by decide)
  · exact h _ _ out hs hb.perm (fun b o e => sortedAll_old e) (Nat.le_succ _) (sortedAll_at s.heap vs out.toArray)
end
/-- what is arranged otherwise, with what belongs to it -/
theorem perm_lift {α β : Type} {f : α → β} {out l : List β} (p : out.Perm l) : ∀ {Z : List α}, l = Z.map f → ∃ Z' : List α, Z'.Perm Z ∧ Z'.map f = out := by
  induction p with
  | nil =>
    intro Z h
    exact ⟨Z, .refl _, h.symm⟩
  | cons x _ ih =>
    intro Z h
    cases Z with
    | nil => cases h
    | cons z Z =>
      rw [List.map_cons] at h
      obtain ⟨h1, h2⟩ := List.cons.inj h
      obtain ⟨Z', p', e⟩ := ih h2
      exact ⟨z :: Z', p'.cons z, by rw [List.map_cons, e, h1]⟩
  | swap x y l =>
    intro Z h
    match Z, h with
    | z :: z' :: Z, h =>
      rw [List.map_cons, List.map_cons] at h
      obtain ⟨h1, h2⟩ := List.cons.inj h
      obtain ⟨h3, h4⟩ := List.cons.inj h2
      exact ⟨z' :: z :: Z, .swap _ _ _, by rw [List.map_cons, List.map_cons, h1, h3, h4]⟩
  | trans _ _ ih1 ih2 =>
    intro Z h
    obtain ⟨Z1, p1, e1⟩ := ih2 h
    obtain ⟨Z2, p2, e2⟩ := ih1 e1.symm
    exact ⟨Z2, p2.trans p1, e2⟩
theorem vals_pair : ∀ {vs : List V} {us : List Value}, Vals vs us → ∃ Z : List (V × Value), Z.map (·.1) = vs ∧ Z.map (·.2) = us ∧ ∀ z ∈ Z, RelV z.1 z.2
  | _, _, .nil => ⟨[], rfl, rfl, fun _ h => by cases h⟩
  | _, _, .cons r t => by
    obtain ⟨Z, h1, h2, h3⟩ := vals_pair t
    refine ⟨(_, _) :: Z, by rw [List.map_cons, h1], by rw [List.map_cons, h2], fun z hz => ?_⟩
    rcases List.mem_cons.mp hz with rfl | hz
    · exact r
    · exact h3 z hz
theorem vals_of_pair : ∀ {Z : List (V × Value)}, (∀ z ∈ Z, RelV z.1 z.2) → Vals (Z.map (·.1)) (Z.map (·.2))
  | [], _ => .nil
  | z :: Z, h => .cons (h z List.mem_cons_self) (vals_of_pair fun y hy => h y (List.mem_cons_of_mem _ hy))
section
variable {C : Cx} {ct : Nat → Addr} {E : XK} {G : Gx} {ρ : List Addr} {H : Hp} {σ : L2.St} {δ : Env'} {S : Store}
theorem vrs_pair : ∀ {ds : List Dv} {vs : List V}, VRs G ρ H ds vs → ∃ Z : List (Dv × V), Z.map (·.1) = ds ∧ Z.map (·.2) = vs ∧ ∀ z ∈ Z, VR G ρ H z.1 z.2
  | _, _, .nil => ⟨[], rfl, rfl, fun _ h => by cases h⟩
  | _, _, .cons r t => by
    obtain ⟨Z, h1, h2, h3⟩ := vrs_pair t
    refine ⟨(_, _) :: Z, by rw [List.map_cons, h1], by rw [List.map_cons, h2], fun z hz => ?_⟩
    rcases List.mem_cons.mp hz with rfl | hz
    · exact r
    · exact h3 z hz
theorem vrs_of_pair : ∀ {Z : List (Dv × V)}, (∀ z ∈ Z, VR G ρ H z.1 z.2) → VRs G ρ H (Z.map (·.1)) (Z.map (·.2))
  | [], _ => .nil
  | z :: Z, h => .cons (h z List.mem_cons_self) (vrs_of_pair fun y hy => h y (List.mem_cons_of_mem _ hy))
/-- a value's first text, its place in the heap being a tuple -/
def TxV (K : PySem.W.Frag) (H : Hp) (v : V) (x : Str) : Prop := ∃ a ys, v = .ref a ∧ SqT K H a (.str x :: ys)
/-- sorted(t): the items with their keys -/
def rSortX (K : PySem.W.Frag) : List V → Hp → VK → Prop := fun xs H Q => ∃ (a : Addr) (Z : List (V × Str)), xs = [.ref a] ∧ SqT K H a (Z.map (·.1)) ∧ (∀ z ∈ Z, TxV K H z.1 z.2) ∧ (Z.map (·.2)).Nodup ∧
  ∀ (Z' : List (V × Str)) (p : Addr), Z'.Perm Z → (Z'.Pairwise fun x y => leS x.2 y.2 = true) → H p = none → Q (.ref p) (upd H p (.lst (Z'.map (·.1))))
theorem nodup_inj {α β : Type} {f : α → β} : ∀ {l : List α}, (l.map f).Nodup → ∀ x ∈ l, ∀ y ∈ l, f x = f y → x = y
  | [], _, _, h, _, _, _ => by cases h
  | a :: l, hn, x, hx, y, hy, e => by
    rw [List.map_cons, List.nodup_cons] at hn
    rcases List.mem_cons.mp hx with h1 | h1
    · rcases List.mem_cons.mp hy with h2 | h2
      · rw [h1, h2]
      · exact absurd (by rw [← h1, e]; exact List.mem_map_of_mem h2) hn.1
    · rcases List.mem_cons.mp hy with h2 | h2
      · exact absurd (by rw [← h2, ← e]; exact List.mem_map_of_mem h1) hn.1
      · exact nodup_inj hn.2 x h1 y h2 e
def keyAt (h : Heap) (v : Value) : Str := match v with
  | Value.ref a => (match h.get? a with
    | some o => (match o.data with
      | Data.seq xs _ => (match xs[0]? with
        | some (Value.str x _) => x
        | _ => Str.empty)
      | _ => Str.empty)
    | none => Str.empty)
  | _ => Str.empty
theorem keyAt_of {h : Heap} {v : Value} {x : Str} (p : TxTup h v x) : keyAt h v = x := by
  obtain ⟨a, o, t, xs, n, rfl, ho, hc, hd, hx⟩ := p
  unfold keyAt
  dsimp only
  rw [ho]
  dsimp only
  rw [hd]
  dsimp only
  rw [hx]
theorem txTup_of {pins : List (Addr × Obj)} {s : Shared} {v : V} {u : Value} {x : Str} (I : Inv C pins σ H s) (r : RelV v u) (h : TxV C.K H v x) : TxTup s.heap u x := by
  obtain ⟨a, ys, rfl, hq⟩ := h
  obtain rfl : u = Value.ref a := r
  obtain ⟨its, rv, ⟨o, ho, hc, n, hd⟩, hz⟩ := I.tuple hq
  cases rv with
  | cons r0 rr =>
    obtain ⟨t, e⟩ : ∃ t, _ = Value.str x t := r0
    subst e
    exact ⟨a, o, t, _, n, rfl, ho, hc, hd, by simp⟩
theorem vals_pair2 : ∀ {Z : List (V × Str)} {us : List Value}, Vals (Z.map (·.1)) us → ∃ W : List ((V × Str) × Value), W.map (·.1) = Z ∧ W.map (·.2) = us ∧ ∀ w ∈ W, RelV w.1.1 w.2
  | [], _, .nil => ⟨[], rfl, rfl, fun _ h => by cases h⟩
  | z :: Z, _, .cons r t => by
    obtain ⟨W, h1, h2, h3⟩ := vals_pair2 t
    refine ⟨(z, _) :: W, by rw [List.map_cons, h1], by rw [List.map_cons, h2], fun w hw => ?_⟩
    rcases List.mem_cons.mp hw with rfl | hw
    · exact r
    · exact h3 w hw
theorem vals_of_pair2 : ∀ {W : List ((V × Str) × Value)}, (∀ w ∈ W, RelV w.1.1 w.2) → Vals ((W.map (·.1)).map (·.1)) (W.map (·.2))
  | [], _ => .nil
  | w :: W, h => .cons (h w List.mem_cons_self) (vals_of_pair2 fun y hy => h y (List.mem_cons_of_mem _ hy))
theorem call_sortX : CallR C (.builtin "sorted") (rSortX C.K) := by
  intro pins s σ H xs us Q I r h
  obtain ⟨a, Z, rfl, hq, hk, hu, q⟩ := h
  rw [Vals.ref1 r]
  obtain ⟨its, rv, ht, hz⟩ := I.tuple hq
  obtain ⟨W, w1, w2, w3⟩ := vals_pair2 rv
  have mz : ∀ w ∈ W, w.1 ∈ Z := fun w hw => by rw [← w1]; exact List.mem_map_of_mem hw
  have tt : ∀ w ∈ W, TxTup s.heap w.2 w.1.2 := fun w hw => txTup_of I (w3 w hw) (hk _ (mz w hw))
  have kk : ∀ w ∈ W, keyAt s.heap w.2 = w.1.2 := fun w hw => keyAt_of (tt w hw)
  have nd : (W.map fun w => w.1.2).Nodup := by
    have e : (W.map fun w => w.1.2) = Z.map (·.2) := by rw [← w1, List.map_map]; rfl
    rw [e]; exact hu
  have li : its.length ≤ sizeLine := by rw [← rv.length]; exact hz
  refine sorted_tx (k := keyAt s.heap) ht li (fun v hv => ?_) (fun v hv u hv' e => ?_) fun h' d out hs hp keep hd ⟨n, hn⟩ => ?_
  · rw [← w2] at hv
    obtain ⟨w, hm, rfl⟩ := List.mem_map.mp hv
    rw [kk w hm]; exact tt w hm
  · rw [← w2] at hv hv'
    obtain ⟨w, hm, rfl⟩ := List.mem_map.mp hv
    obtain ⟨w', hm', rfl⟩ := List.mem_map.mp hv'
    rw [kk w hm, kk w' hm'] at e
    rw [nodup_inj (f := fun w : (V × Str) × Value => w.1.2) nd w hm w' hm' e]
  · obtain ⟨W', p', e'⟩ := perm_lift hp w2.symm
    have rel' : ∀ w ∈ W', RelV w.1.1 w.2 := fun w hw => w3 w (p'.mem_iff.mp hw)
    have rv' := vals_of_pair2 rel'
    rw [e'] at rv'
    have pm : (W'.map (·.1)).Perm Z := by rw [← w1]; exact p'.map _
    have pw : (W'.map (·.1)).Pairwise fun x y => leS x.2 y.2 = true := by
      rw [← e'] at hs
      have hs : (W'.map (·.2)).Pairwise fun x y => ltX (keyAt s.heap) y x = false := hs
      rw [List.pairwise_map] at hs ⊢
      refine hs.imp_of_mem fun {x y} hx hy h => ?_
      have h := of_decide_eq_false h
      rw [kk x (p'.mem_iff.mp hx), kk y (p'.mem_iff.mp hy)] at h
      exact leS_iff.mpr (List.not_lt.mp h)
    have hlen : ((W'.map (·.1)).map (·.1)).length ≤ sizeLine := by rw [List.length_map, pm.length_eq]; rw [List.length_map] at hz; exact hz
    exact ⟨.ref d, upd H d (.lst ((W'.map (·.1)).map (·.1))), I.laid (t' := s.toks) keep hd ⟨hlen, out, n, rv', hn⟩, rfl, q _ d pm pw (I.hok.fresh hd)⟩
def fstS : Dv → Str
  | .tup (.str x :: _) => x
  | _ => Str.empty
def isFst : Dv → Bool
  | .tup (.str _ :: _) => true
  | _ => false
def sortX (ds : List Dv) : List Dv := ds.mergeSort fun a b => leS (fstS a) (fstS b)
def bSortX (ds : List Dv) (S : Store) : Res Dv := match ds with
  | [.tup es] => if es.all isFst && decide ((es.map fstS).Nodup) then .ok (.ref S.length) (S ++ [.lst (sortX es)]) else .bad
  | _ => .bad
theorem o_sortX : OpL G E (rSortX G.K) bSortX := by
  intro ρ S H ds vs Q R rs h
  unfold bSortX at h
  split at h
  · rename_i es
    obtain ⟨v, rfl, rv⟩ := rs.one
    cases rv with
    | @tup a ws _ ht hs =>
      by_cases hz : (es.all isFst && decide ((es.map fstS).Nodup)) = true
      · rw [if_pos hz] at h
        obtain ⟨hf, hn⟩ := Bool.and_eq_true_iff.mp hz
        have hn := of_decide_eq_true hn
        obtain ⟨Z, z1, z2, z3⟩ := vrs_pair hs
        have me : ∀ z ∈ Z, z.1 ∈ es := fun z hz => by rw [← z1]; exact List.mem_map_of_mem hz
        have fst : ∀ z ∈ Z, TxV G.K H z.2 (fstS z.1) := fun z hz => by
          have h1 := List.all_eq_true.mp hf _ (me z hz)
          have h2 := z3 z hz
          obtain ⟨d, v⟩ := z
          cases h2 with
          | @tup b us ds hb hu => cases hu with
            | nil => cases h1
            | cons r0 rr => cases r0 with
              | str x => exact ⟨b, _, rfl, hb.sq⟩
              | _ => cases h1
          | _ => cases h1
        refine ⟨a, Z.map fun z => (z.2, fstS z.1), rfl, ?_, fun y hy => ?_, ?_, fun Y p pm pw hp => ?_⟩
        · have e : ((Z.map fun z => (z.2, fstS z.1)).map (·.1)) = ws := by rw [List.map_map, ← z2]; rfl
          rw [e]; exact ht.sq
        · obtain ⟨z, hm, rfl⟩ := List.mem_map.mp hy
          exact fst z hm
        · have e : ((Z.map fun z => (z.2, fstS z.1)).map (·.2)) = es.map fstS := by rw [List.map_map, ← z1, List.map_map]; rfl
          rw [e]; exact hn
        · obtain ⟨Z', p', e'⟩ := perm_lift pm rfl
          have rel' : ∀ z ∈ Z', VR G ρ H z.1 z.2 := fun z hz => z3 z (p'.mem_iff.mp hz)
          have rv' := vrs_of_pair rel'
          have eY : Y.map (·.1) = Z'.map (·.2) := by rw [← e', List.map_map]; rfl
          have pd : (Z'.map (·.1)).Perm es := by rw [← z1]; exact p'.map _
          have es' : Z'.map (·.1) = sortX es := by
            have p1 : (Z'.map (·.1)).Pairwise fun a b => leS (fstS a) (fstS b) = true := by
              rw [← e', List.pairwise_map] at pw
              rw [List.pairwise_map]
              exact pw
            have p2 : (sortX es).Pairwise fun a b => leS (fstS a) (fstS b) = true := by
              refine List.pairwise_mergeSort (fun a b c h1 h2 => ?_) (fun a b => ?_) es
              · exact leS_iff.mpr (List.le_trans (leS_iff.mp h1) (leS_iff.mp h2))
              · have := List.le_total (fstS a).cps.toList (fstS b).cps.toList
                rw [Bool.or_eq_true]
                exact this.imp leS_iff.mpr leS_iff.mpr
            refine List.Perm.eq_of_pairwise (fun a b ha hb h1 h2 => ?_) p1 p2 (pd.trans (List.mergeSort_perm _ _).symm)
            exact nodup_inj hn a (pd.mem_iff.mp ha) b ((List.mergeSort_perm _ _).mem_iff.mp hb) (str_ext (List.le_antisymm (leS_iff.mp h1) (leS_iff.mp h2)))
          rw [es'] at rv'
          rw [eY]
          exact h.retX (.new hp) (R.alloc hp (.lst rv')) (.ref (by rw [← R.len]; simp))
      · rw [if_neg hz] at h; exact h.elim
    | _ => exact h.elim
  · exact h.elim
/-! ### d.update(e) -/
def rUpd : V → List V → Hp → VK → Prop := fun x xs H Q => ∃ a b kvs more, x = V.ref a ∧ xs = [V.ref b] ∧ H a = some (.dK kvs) ∧ H b = some (.dK more) ∧ a ≠ b ∧ kvs.length + more.length ≤ sizeLine ∧ Q .non (upd H a (.dK (mergeK kvs more)))
theorem mt_update : MtR C "dict.update" rUpd := by
  intro pins s σ H x xs v us Q I rx rxs h
  obtain ⟨a, b, kvs, more, rfl, rfl, ha, hb, hne, hz, q⟩ := h
  cases rx
  cases rxs with
  | cons r1 rr =>
    cases rr
    cases r1
    obtain ⟨z, hd, vs, rel, dd⟩ := dk_of I.hok ha
    obtain ⟨z2, hd2, vs2, rel2, dd2⟩ := dk_of I.hok hb
    have hl : (mergeK kvs more).length ≤ sizeLine := Nat.le_trans (length_mergeK more kvs) hz
    refine call_meetsIn PySem.F.slot_dict_update dd.typeIs PySem.F.entry_dict_update (PySem.F.args_dict_update_2 _ _) (meets_dict_update (mixKind C.prog C.w) a b hne hd2)
      ⟨vs, vs2, dd, dd2, by rw [← rel.length, ← rel2.length]; exact hz, fun h' dd' _ hs => ?_⟩
    have he : ∃ q, h'.get? a = some q := let ⟨q, _, _, hq, _⟩ := dd'; ⟨q, hq⟩
    exact ⟨.non, _, d_write I (by rw [ha]; exact True.intro) hs he (dk_new hl hd (KV.merge rel2 rel) dd'), rfl, q⟩
def mUpd (x : Dv) (as : List Dv) (S : Store) : Res Dv := match x, as with
  | .ref l, [.ref m] => (match dcAt S l, dcAt S m with
    | some kvs, some more => if decide (l ≠ m ∧ kvs.length + more.length ≤ 16777216) then .ok .non (S.set l (.dct (mergeD kvs more))) else .bad
    | _, _ => .bad)
  | _, _ => .bad
theorem o_upd : OpM G E rUpd mUpd := by
  intro ρ S H d v ds vs Q R rv rs h
  unfold mUpd at h
  split at h
  · rename_i l m
    obtain ⟨u, rfl, ru⟩ := rs.one
    cases rv with
    | @ref _ a ha => cases ru with
      | @ref _ b hb =>
        split at h
        · rename_i kvs more e1 e2
          obtain ⟨us, q1, s1⟩ := R.dct (dcAt_iff.mp e1) ha
          obtain ⟨ws, q2, s2⟩ := R.dct (dcAt_iff.mp e2) hb
          by_cases hz : decide (l ≠ m ∧ kvs.length + more.length ≤ 16777216) = true
          · rw [if_pos hz] at h
            obtain ⟨hne, hz⟩ := of_decide_eq_true hz
            have hab : a ≠ b := fun z => by
              subst z
              obtain ⟨h1, e1⟩ := List.getElem?_eq_some_iff.mp ha
              obtain ⟨h2, e2⟩ := List.getElem?_eq_some_iff.mp hb
              exact hne ((List.getElem_inj R.nd).mp (e1.trans e2.symm))
            refine ⟨a, b, us, ws, rfl, rfl, q1, q2, hab, by rw [← s1.length, ← s2.length, sizeLine_eq]; exact hz, ?_⟩
            exact h.retX (R.wext (dcAt_iff.mp e1) ha) (R.write (dcAt_iff.mp e1) ha (.dct (s2.merge s1))) .non
          · rw [if_neg hz] at h; exact h.elim
        · exact h.elim
  · exact h.elim
end
end Sm

/-! in, not in, whatever the right side is; what the top has written, told by its being there -/
namespace Sm
open PySem PySem.Spec PyProof.Rows L2
section
variable {C : Cx} {ct : Nat → Addr} {E : XK} {G : Gx} {ρ : List Addr} {H : Hp} {σ : L2.St} {δ : Env'} {S : Store}
def rDin (neg : Bool) : R2 := fun x y H Q => ∃ a o, y = .ref a ∧ DGet H a x o ∧ Q (.bl (if neg then !o.isSome else o.isSome)) H
theorem op_din (hu : C.A.units + 1 < cLine) : OpR C (compareOp .In) (rDin false) := by
  intro pins s σ H x y v u Q I rx ry h
  obtain ⟨a, o, rfl, g, q⟩ := h
  obtain rfl : u = Value.ref a := ry
  exact d_in hu I g rx fun s3 I3 => ⟨.bl o.isSome, H, I3, rfl, q⟩
theorem op_dnotin (hu : C.A.units + 1 < cLine) : OpR C (compareOp .NotIn) (rDin true) := by
  intro pins s σ H x y v u Q I rx ry h
  obtain ⟨a, o, rfl, g, q⟩ := h
  obtain rfl : u = Value.ref a := ry
  exact d_notIn hu I g rx fun s3 I3 => ⟨.bl (!o.isSome), H, I3, rfl, q⟩
theorem u65 {k : Nat} {A : Around} (r : Room k A) : A.units + 65 < cLine := by have := r.un; omega
def rInX (K : PySem.W.Frag) : R2 := fun x y H Q => rIn K false x y H Q ∨ ((∃ i j, x = .str i ∧ y = .str j ∧ Q (.bl (!(Builtin.Str.occurrences j i 0 j.length 1).isEmpty)) H) ∨ (rDin false x y H Q ∨ rInD K x y H Q))
def rNinX (K : PySem.W.Frag) : R2 := fun x y H Q => rIn K true x y H Q ∨ ((∃ i j, x = .str i ∧ y = .str j ∧ Q (.bl (!(!(Builtin.Str.occurrences j i 0 j.length 1).isEmpty))) H) ∨ (rDin true x y H Q ∨ rNotInD K x y H Q))
theorem op_inX {k : Nat} (hr : Room k C.A) : OpR C (compareOp .In) (rInX C.K) := op_in_seq.or (op_in_str.or ((op_din (u1 hr)).or (op_inD (u65 hr))))
theorem op_ninX {k : Nat} (hr : Room k C.A) : OpR C (compareOp .NotIn) (rNinX C.K) := op_notIn_seq.or (op_notIn_str.or ((op_dnotin (u1 hr)).or (op_notInD (u65 hr))))
def ng (neg b : Bool) : Bool := if neg then !b else b
def deepIn (neg : Bool) (x y : Dv) (S : Store) : Res Dv := match toPy S x, toPy S y with
  | some p, some (.list qs) => if eqOk p && eqOk (.list qs) then .ok (.bl (ng neg (qs.any fun z => PyData.eqv z p))) S else .bad
  | _, _ => .bad
def dInX (neg : Bool) (x y : Dv) (S : Store) : Res Dv := match y with
  | .str _ => dInS neg x y S
  | _ => (match dictOf S y with
    | some kvs => (match keyD x with
      | some k => .ok (.bl (ng neg (valD kvs k).isSome)) S
      | none => .bad)
    | none => (match seqOf S y with
      | some ds => if flatD x && ds.all flatD then dIn neg x y S else deepIn neg x y S
      | none => .bad))
theorem dInX_or (neg : Bool) (x y : Dv) (S : Store) : dInX neg x y S = dInS neg x y S ∨ dInX neg x y S = dIn neg x y S ∨ dInX neg x y S = deepIn neg x y S ∨ (∃ kvs k, dictOf S y = some kvs ∧ keyD x = some k ∧ dInX neg x y S = .ok (.bl (ng neg (valD kvs k).isSome)) S) ∨ dInX neg x y S = .bad := by
  cases y with
  | str z => exact .inl rfl
  | _ =>
    unfold dInX
    dsimp only
    split
    · split
      · exact .inr (.inr (.inr (.inl ⟨_, _, by assumption, by assumption, rfl⟩)))
      · exact .inr (.inr (.inr (.inr rfl)))
    · split
      · split
        · exact .inr (.inl rfl)
        · exact .inr (.inr (.inl rfl))
      · exact .inr (.inr (.inr (.inr rfl)))
theorem din_at {neg : Bool} {dx dy : Dv} {x y : V} {Q : VK} {kvs : List (Key × Dv)} {k : Key} (R : RH G ρ S H) (rx : VR G ρ H dx x) (ry : VR G ρ H dy y) (e1 : dictOf S dy = some kvs) (e2 : keyD dx = some k) (h : Po G E (rV G) ρ H (.ok (.bl (ng neg (valD kvs k).isSome)) S) Q) : rDin neg x y H Q := by
  cases ry with
  | @ref l a ha =>
    have e1 : dcAt S l = some kvs := e1
    obtain ⟨ws, q, hs⟩ := R.dct (dcAt_iff.mp e1) ha
    rw [key_at rx e2]
    refine ⟨a, valV ws k, rfl, .inl ⟨ws, k, .inl q, rfl, rfl⟩, ?_⟩
    have e : (valV ws k).isSome = (valD kvs k).isSome := by
      rcases hs.val k with ⟨z1, z2⟩ | ⟨d, v, z1, z2, _⟩
      · rw [z1, z2]; rfl
      · rw [z1, z2]; rfl
    rw [e]
    exact h.ret R (.bl _)
  | _ => cases e1
theorem deep_at {neg : Bool} {dx dy : Dv} {x y : V} {Q : VK} (R : RH G ρ S H) (rx : VR G ρ H dx x) (ry : VR G ρ H dy y) (h : Po G E (rV G) ρ H (deepIn neg dx dy S) Q) : ∃ d ds, Dp G.K H x d ∧ Dp G.K H y (.list ds) ∧ SeqAt.shaped d = true ∧ SeqAt.shaped (.list ds) = true ∧ Q (.bl (ng neg (ds.any fun z => PyData.eqv z d))) H := by
  unfold deepIn at h
  split at h
  · rename_i p qs e1 e2
    by_cases hs : (eqOk p && eqOk (.list qs)) = true
    · rw [if_pos hs] at h
      obtain ⟨s1, s2⟩ := Bool.and_eq_true_iff.mp hs
      exact ⟨p, qs, toPy_dp R rx e1, toPy_dp R ry e2, s1, s2, h.ret R (.bl _)⟩
    · rw [if_neg hs] at h; exact h.elim
  · exact h.elim
theorem o_inX : Op2 G E (rInX G.K) (dInX false) := by
  intro ρ S H dx dy x y Q R rx ry h
  rcases dInX_or false dx dy S with e | e | e | ⟨kvs, k, e1, e2, e⟩ | e
  · rw [e] at h; exact .inr (.inl (o_inS ρ S H dx dy x y Q R rx ry h))
  · rw [e] at h; exact .inl (o_in ρ S H dx dy x y Q R rx ry h)
  · rw [e] at h; exact .inr (.inr (.inr (deep_at R rx ry h)))
  · rw [e] at h; exact .inr (.inr (.inl (din_at R rx ry e1 e2 h)))
  · rw [e] at h; exact h.elim
theorem o_ninX : Op2 G E (rNinX G.K) (dInX true) := by
  intro ρ S H dx dy x y Q R rx ry h
  rcases dInX_or true dx dy S with e | e | e | ⟨kvs, k, e1, e2, e⟩ | e
  · rw [e] at h; exact .inr (.inl (o_ninS ρ S H dx dy x y Q R rx ry h))
  · rw [e] at h; exact .inl (o_in ρ S H dx dy x y Q R rx ry h)
  · rw [e] at h; exact .inr (.inr (.inr (deep_at R rx ry h)))
  · rw [e] at h; exact .inr (.inr (.inl (din_at R rx ry e1 e2 h)))
  · rw [e] at h; exact h.elim
/-! ### < of texts or of numbers -/
def dLtX (x y : Dv) (S : Store) : Res Dv := match x with
  | .str _ => dLtS x y S
  | _ => dLt x y S
theorem q_lt_op : OpR C (compareOp .Lt) (fun x y H Q => rI0 (fun i j => .bl (decide (i < j))) x y H Q ∨ ∃ i j, x = .str i ∧ y = .str j ∧ Q (.bl (decide (i.cps.toList < j.cps.toList))) H) := op_lt.or op_lt_str
theorem o_ltX : Op2 G E (fun x y H Q => rI0 (fun i j => .bl (decide (i < j))) x y H Q ∨ ∃ i j, x = .str i ∧ y = .str j ∧ Q (.bl (decide (i.cps.toList < j.cps.toList))) H) dLtX := by
  intro ρ S H dx dy x y Q R rx ry h
  unfold dLtX at h
  split at h
  · exact .inr (o_ltS ρ S H _ dy x y Q R rx ry h)
  · exact .inl (o_lt ρ S H dx dy x y Q R rx ry h)
/-! ### what the top has written -/
theorem q_gintE {x : Str} {i : Int} {pos : Pos} (hg : Gl C x) (hm : ∃ t, C.mg x = some (.int i t)) (hd : (x == ("__debug__" : Str)) = false := by decide) : PE C (.Name x pos) (tE (gx C ct) E (cC (.int i))) := by
  obtain ⟨t, e⟩ := hm
  exact q_gint hg e hd
theorem q_gstrE {x z : Str} {pos : Pos} (hg : Gl C x) (hm : ∃ t, C.mg x = some (.str z t)) (hd : (x == ("__debug__" : Str)) = false := by decide) : PE C (.Name x pos) (tE (gx C ct) E (cC (.str z))) := by
  obtain ⟨t, e⟩ := hm
  exact q_gstr hg e hd
theorem q_gtupE {x : Str} {ts : List Str} {pos : Pos} (hg : Gl C x) (hm : ∃ a, C.mg x = some (.ref a) ∧ KTx C.K a ts) (hd : (x == ("__debug__" : Str)) = false := by decide) : PE C (.Name x pos) (tE (gx C ct) E (cC (.tup (ts.map Dv.str)))) := by
  obtain ⟨a, e, h⟩ := hm
  exact q_gtup hg e h hd
/-- a written dict of small numbers by texts -/
def KDi (K : PySem.W.Frag) (w : World) (a : Addr) (kis : List (Str × Int)) : Prop := ∃ es n, K.lookup a = some ⟨.type "dict", none, .dict es n, #[]⟩ ∧ PySem.W.KeysLit w.params es.toList ∧ (a == sysModules) = false ∧ Paired (fun (p : Str × Int) (e : DictEntry) => (∃ t, e.key = .str p.1 t) ∧ ∃ t, e.val = .int p.2 t) kis es.toList
def kiD (kis : List (Str × Int)) : List (Str × Dv) := kis.map fun p => (p.1, .int p.2)
theorem KDi.dt {K : PySem.W.Frag} {ct : Nat → Addr} {w : World} {a : Addr} {kis : List (Str × Int)} (h : KDi K w a kis) : KDt ⟨K, ct⟩ w a (kiD kis) := by
  obtain ⟨es, n, h1, h2, h3, h4⟩ := h
  refine ⟨es, n, h1, h2, h3, ?_⟩
  generalize es.toList = l at h4
  clear h1 h2
  induction h4 with
  | nil => exact .nil
  | cons h _ ih => exact .cons ⟨h.1, .int _, h.2, fun _ _ => .int _⟩ ih
theorem q_kgetE {nm : Str} {kis : List (Str × Int)} {e f : Expr} {p apos cpos : Pos} {k x : CE} (hg : Gl C nm) (hm : ∃ a, C.mg nm = some (.ref a) ∧ KDi C.K C.w a kis) (he : PE C e (tE (gx C ct) E k)) (hf : PE C f (tE (gx C ct) E x)) (m : M2 C (.Name nm p) "get" apos e f cpos := by exact ⟨rfl, rfl, rfl, rfl⟩) (hd : (nm == ("__debug__" : Str)) = false := by decide) :
    PE C (.Call (.Attribute (.Name nm p) "get" apos) [e, f] [] cpos) (tE (gx C ct) E (cKGet (kiD kis) k x)) := by
  obtain ⟨a, e, h⟩ := hm
  exact q_kget hg e h.dt he hf m hd
end
end Sm

/-! the logic, further -/
namespace Sm
open PySem L2
section
variable {δ : Env'} {S : Store} {Q : Dv → Store → Prop} {QB : Bool → Store → Prop} {QI : IT → Store → Prop}
theorem k_ltX {i j : Int} (q : Q (.bl (decide (i < j))) S) : Ok (dLtX (.int i) (.int j) S) Q := q
theorem k_ltSX {a b : Str} (q : Q (.bl (decide (a.cps.toList < b.cps.toList))) S) : Ok (dLtX (.str a) (.str b) S) Q := q
theorem k_two {f g : Dv → Dv → Store → Res Dv} {a b c : CE} (h : Ok (a δ S) fun x S1 => Ok (b δ S1) fun y S2 => Ok (f x y S2) fun d S3 => ∃ k, d = .bl k ∧ (k = true → Ok (c δ S3) fun w S4 => Ok (g y w S4) Q) ∧ (k = false → Q (.bl false) S3)) : Ok (cTwo f g a b c δ S) Q :=
  Ok.bind (h.imp fun x S1 h => Ok.bind (h.imp fun y S2 h => Ok.bind (h.imp fun d S3 ⟨k, e, h1, h2⟩ => by
    subst e
    cases k with
    | true => exact Ok.bind (h1 rfl)
    | false => exact h2 rfl)))
theorem bls_map : ∀ bs : List Bool, blsOf (bs.map Dv.bl) = some bs
  | [] => rfl
  | b :: bs => by
    show (blsOf (bs.map Dv.bl)).map (b :: ·) = _
    rw [bls_map bs]; rfl
theorem k_all {x : Dv} {bs : List Bool} (h : lstOf S x = some (bs.map Dv.bl)) (q : Q (.bl (bs.all id)) S) : Ok (bAll [x] S) Q := by
  show Ok (match (lstOf S x).bind blsOf with | some bs => _ | none => _) Q
  rw [h]
  show Ok (match blsOf (bs.map Dv.bl) with | some bs => _ | none => _) Q
  rw [bls_map]; exact q
theorem k_un {f : Dv → Store → Res Dv} {c : CE} (h : Ok (c δ S) fun d S1 => Ok (f d S1) Q) : Ok (cUn f c δ S) Q := Ok.bind h
theorem k_revT {ds : List Dv} (q : Q (.tup ds.reverse) S) : Ok (dRevT (.tup ds) S) Q := q
theorem k_kget {kvs : List (Str × Dv)} {k x : CE} (h : Ok (k δ S) fun kk S2 => ∃ z, kk = .str z ∧ Ok (x δ S2) fun y S3 => Q ((kGet kvs z).getD y) S3) : Ok (cKGet kvs k x δ S) Q := Ok.bind (h.imp fun kk S2 ⟨z, e, h⟩ => by
  subst e
  exact Ok.bind h)
theorem k_isiT {x : Dv} {ts : List Dv} {a : Ty} {Ts : List Ty} (h1 : tyOf S x = some a) (h2 : tysOf ts = some Ts) (q : Q (.bl (Ts.any fun T => isA a T)) S) : Ok (bIsiT [x, .tup ts] S) Q := by
  show Ok (match tyOf S x, tysOf ts with | some a, some Ts => _ | _, _ => _) Q
  rw [h1, h2]; exact q
theorem k_lenSet {c : CE} (h : Ok (c δ S) fun d S1 => ∃ xs, seqOf S1 d = some (txs xs) ∧ xs.length ≤ 4000 ∧ Q (.int (dedup xs).length) S1) : Ok (cLenSet c δ S) Q := Ok.bind (h.imp fun d S1 ⟨xs, e, l, q⟩ => by
  rw [e]
  show Ok (match strsOf (txs xs) with | some xs => _ | none => _) Q
  rw [strsOf_txs]
  show Ok (if decide (xs.length ≤ 4000) = true then _ else _) Q
  rw [if_pos (decide_eq_true l)]; exact q)
theorem k_sortSet {c : CE} (h : Ok (c δ S) fun d S1 => ∃ xs, seqOf S1 d = some (txs xs) ∧ xs.length ≤ 4000 ∧ (dedup xs).length < 64 ∧ Q (.ref S1.length) (S1 ++ [.lst (txs (sortS (dedup xs)))])) : Ok (cSortSet c δ S) Q := Ok.bind (h.imp fun d S1 ⟨xs, e, l, l2, q⟩ => by
  rw [e]
  show Ok (match strsOf (txs xs) with | some xs => _ | none => _) Q
  rw [strsOf_txs]
  show Ok (if decide (xs.length ≤ 4000) = true then _ else _) Q
  rw [if_pos (decide_eq_true l)]
  show Ok (if decide ((dedup xs).length < 64) = true then _ else _) Q
  rw [if_pos (decide_eq_true l2)]; exact q)
theorem k_sortX {es : List Dv} (h : es.all isFst = true) (h2 : (es.map fstS).Nodup) (q : Q (.ref S.length) (S ++ [.lst (sortX es)])) : Ok (bSortX [.tup es] S) Q := by
  show Ok (if (es.all isFst && decide ((es.map fstS).Nodup)) = true then _ else _) Q
  rw [if_pos (by rw [h, decide_eq_true h2]; rfl)]; exact q
theorem k_ext {l m : Nat} {ds es : List Dv} (h : lsAt S l = some ds) (h2 : lsAt S m = some es) (h3 : ds.length + es.length ≤ 16777216) (q : Q .non (S.set l (.lst (ds ++ es)))) : Ok (mExt (.ref l) [.ref m] S) Q := by
  show Ok (match lsAt S l, lsAt S m with | some ds, some es => _ | _, _ => _) Q
  rw [h, h2]
  show Ok (if lineOk (ds.length + es.length) = true then _ else _) Q
  rw [if_pos (lineI h3)]; exact q
theorem k_upd {l m : Nat} {kvs more : List (Key × Dv)} (h : dcAt S l = some kvs) (h2 : dcAt S m = some more) (hne : l ≠ m) (h3 : kvs.length + more.length ≤ 16777216) (q : Q .non (S.set l (.dct (mergeD kvs more)))) : Ok (mUpd (.ref l) [.ref m] S) Q := by
  show Ok (match dcAt S l, dcAt S m with | some kvs, some more => _ | _, _ => _) Q
  rw [h, h2]
  show Ok (if decide (l ≠ m ∧ kvs.length + more.length ≤ 16777216) = true then _ else _) Q
  rw [if_pos (decide_eq_true ⟨hne, h3⟩)]; exact q
theorem k_mtD {f : Dv → List Dv → Store → Res Dv} {c : CE} {a : CA} (h : Ok (c δ S) fun x S1 => ∃ l kvs, x = .ref l ∧ dcAt S1 l = some kvs ∧ Ok (a δ S1) fun xs S2 => Ok (f (.ref l) xs S2) Q) : Ok (cMt "dict" f c a δ S) Q := k_mt (h.imp fun x S1 ⟨l, ds, e, e2, h⟩ => by
  subst e
  refine ⟨?_, h⟩
  unfold isTy
  dsimp only
  rw [dcAt_iff.mp e2]
  simp)
theorem k_listD {l : Nat} {kvs : List (Key × Dv)} (h : dcAt S l = some kvs) (q : Q (.ref S.length) (S ++ [.lst (kvs.map fun kv => keyDv kv.1)])) : Ok (bListD [.ref l] S) Q := by
  show Ok (match dcAt S l with | some kvs => _ | none => _) Q
  rw [h]; exact q
theorem k_enL {c : CE} (h : Ok (c δ S) fun d S1 => ∃ l ds, d = .ref l ∧ lsAt S1 l = some ds ∧ QI ⟨ds.length, fun i S => (lsAt S l).map fun ds => ds[i]?.map fun x => .tup [.int (i : Nat), x]⟩ S1) : Ok (cEnL c δ S) QI := Ok.bind (h.imp fun d S1 ⟨l, ds, e, e2, q⟩ => by
  subst e
  dsimp only
  rw [e2]; exact q)
theorem k_zipT {a : CA} (h : Ok (a δ S) fun ds S1 => ∃ xs ys, ds = [.tup xs, .tup ys] ∧ QI ⟨xs.length, fun i _ => some (zAt xs ys i)⟩ S1) : Ok (cZipT a δ S) QI := Ok.bind (h.imp fun d S1 ⟨xs, ys, e, q⟩ => by
  subst e; exact q)
/-! in -/
theorem k_inT {neg : Bool} {x : Dv} {ds : List Dv} (h2 : flatD x = true) (h3 : ds.all flatD = true) (q : Q (.bl (ng neg (ds.any fun y => eqD y x))) S) : Ok (dInX neg x (.tup ds) S) Q := by
  show Ok (if (flatD x && ds.all flatD) = true then dIn neg x (.tup ds) S else _) Q
  rw [if_pos (by rw [h2, h3]; rfl)]
  exact k_in rfl h2 h3 q
theorem k_inSX {neg : Bool} {a b : Str} (q : Q (.bl (inStr neg a b)) S) : Ok (dInX neg (.str a) (.str b) S) Q := q
theorem k_inD {neg : Bool} {x : Dv} {l : Nat} {kvs : List (Key × Dv)} {k : Key} (h : dcAt S l = some kvs) (hk : keyD x = some k) (q : Q (.bl (ng neg (valD kvs k).isSome)) S) : Ok (dInX neg x (.ref l) S) Q := by
  show Ok (match dcAt S l with | some kvs => _ | none => _) Q
  rw [h]
  show Ok (match keyD x with | some k => _ | none => _) Q
  rw [hk]; exact q
theorem ls_dcN {l : Nat} {ds : List Dv} (h : lsAt S l = some ds) : dcAt S l = none := by
  have := lsAt_iff.mp h
  unfold dcAt; rw [this]
theorem k_inDeep {neg : Bool} {x : Dv} {l : Nat} {ds : List Dv} {p : PyData} {qs : List PyData} (h : lsAt S l = some ds) (hf : flatD x = false) (h1 : toPy S x = some p) (h2 : toPy S (.ref l) = some (.list qs)) (h3 : eqOk p = true) (h4 : eqOk (.list qs) = true) (q : Q (.bl (ng neg (qs.any fun z => PyData.eqv z p))) S) : Ok (dInX neg x (.ref l) S) Q := by
  show Ok (match dcAt S l with | some kvs => _ | none => _) Q
  rw [ls_dcN h]
  show Ok (match lsAt S l with | some ds => _ | none => _) Q
  rw [h]
  show Ok (if (flatD x && ds.all flatD) = true then _ else _) Q
  rw [if_neg (by rw [hf]; simp)]
  unfold deepIn
  rw [h1, h2]
  show Ok (if (eqOk p && eqOk (.list qs)) = true then _ else _) Q
  rw [if_pos (by rw [h3, h4]; rfl)]; exact q
/-! dict comprehensions -/
theorem loopDc_ok {f : Nat → Store → Option (Option Dv)} {g : CG} {tt : CT} {tk tv : CE} {L N : Nat} (J : Nat → List (Key × Dv) → Store → Prop) {P : Unit → Store → Prop}
    (step : ∀ i acc S, J i acc S → dcAt S L = some acc → (f i S = some none ∧ P () S) ∨ (i < N ∧ ∃ d, f i S = some (some d) ∧ Ok (g d δ S) fun δ1 S1 => Ok (tt δ1 S1) fun k S2 => k = true ∧ Ok (tk δ1 S2) fun y S3 => Ok (tv δ1 S3) fun z S4 => ∃ kk, keyD y = some kk ∧ dcAt S4 L = some acc ∧ acc.length < 16777216 ∧ J (i + 1) (putD acc kk z) (S4.set L (.dct (putD acc kk z))))) :
    ∀ (n i : Nat) (acc : List (Key × Dv)) (S : Store), i + n = N → J i acc S → dcAt S L = some acc → Ok (loopDc f g tt tk tv δ L n i S) P := by
  intro n
  induction n with
  | zero =>
    intro i acc S hi h hL
    rcases step i acc S h hL with ⟨e, o⟩ | ⟨l, _⟩
    · unfold loopDc; rw [e]; exact o
    · omega
  | succ n ih =>
    intro i acc S hi h hL
    rcases step i acc S h hL with ⟨e, o⟩ | ⟨l, d, e, h⟩
    · unfold loopDc; rw [e]; exact o
    · unfold loopDc
      rw [e]
      dsimp only
      obtain ⟨δ1, S1, e1, h⟩ := h.get
      rw [e1]
      dsimp only
      obtain ⟨k, S2, e2, rfl, h⟩ := h.get
      rw [e2]
      dsimp only
      obtain ⟨y, S3, e3, h⟩ := h.get
      rw [e3]
      dsimp only
      obtain ⟨z, S4, e4, kk, hk, h1, h2, h3⟩ := h.get
      rw [e4]
      dsimp only
      rw [h1]
      dsimp only
      rw [hk]
      dsimp only
      rw [if_pos (decide_eq_true h2)]
      refine ih (i + 1) _ _ (by omega) h3 ?_
      exact dcAt_iff.mpr (List.getElem?_set_self (dc_lt h1))
/-- the pairs that are put in, one by one -/
def puts (ds : List Dv) (kf : Dv → Key) (vf : Dv → Dv) : List (Key × Dv) := ds.foldl (fun acc d => putD acc (kf d) (vf d)) []
theorem puts_len (ds : List Dv) (kf : Dv → Key) (vf : Dv → Dv) : (puts ds kf vf).length ≤ ds.length := by
  have : ∀ (ds : List Dv) (acc : List (Key × Dv)), (ds.foldl (fun acc d => putD acc (kf d) (vf d)) acc).length ≤ acc.length + ds.length := by
    intro ds
    induction ds with
    | nil => intro acc; simp
    | cons d ds ih =>
      intro acc
      rw [List.foldl_cons, List.length_cons]
      have h1 := ih (putD acc (kf d) (vf d))
      have h2 := putD_len (kvs := acc) (k := kf d) (d := vf d)
      omega
  have := this ds []
  simpa [puts] using this
theorem k_dcM {ci : CI} {own : List Nat} {g : CG} {tk tv : CE} (h : Ok (ci δ S) fun it S1 => ∃ (ds : List Dv) (kf : Dv → Key) (vf : Dv → Dv), ds.length ≤ it.n ∧ ds.length < 16777216 ∧ (∀ i S, Kp [] S1 S → it.f i S = some ds[i]?) ∧
    (∀ d S, d ∈ ds → Kp [] S1 S → Ok (g d (wipeE δ own) S) fun δ1 S2 => Ok (tk δ1 S2) fun y S3 => Ok (tv δ1 S3) fun z S4 => keyD y = some (kf d) ∧ z = vf d ∧ Kp [] S S4) ∧
    (∀ S', dcAt S' S1.length = some (puts ds kf vf) → Kp [] S1 S' → Q (.ref S1.length) S')) : Ok (cDc ci own g cYes tk tv δ S) Q := by
  refine Ok.bind (h.imp fun it S1 ⟨ds, kf, vf, hn, hz, hf, st, fn⟩ => Ok.bind (loopDc_ok (N := it.n) (fun i acc S => Kp [] S1 S ∧ acc = puts (ds.take i) kf vf ∧ i ≤ ds.length) ?_ it.n 0 [] _ (Nat.zero_add _) ⟨Kp.refl.app, rfl, Nat.zero_le _⟩ (dcAt_iff.mpr (by simp))))
  rintro i acc S ⟨k, rfl, li⟩ hL
  have ef := hf i S k
  by_cases hi : i < ds.length
  · rw [List.getElem?_eq_getElem hi] at ef
    have tk' : ds.take (i + 1) = ds.take i ++ [ds[i]] := by rw [List.take_add_one, List.getElem?_eq_getElem hi]; rfl
    have bl : (puts (ds.take i) kf vf).length < 16777216 := by
      have := puts_len (ds.take i) kf vf
      rw [List.length_take] at this
      omega
    refine .inr ⟨Nat.lt_of_lt_of_le hi hn, ds[i], ef, (st ds[i] S (List.getElem_mem hi) k).imp fun δ1 S2 h => ⟨rfl, h.imp fun y S3 h => h.imp fun z S4 ⟨hk, hv, k4⟩ => ⟨kf ds[i], hk, k4.dc (by simp) hL, bl, (k.trans k4).set (.inl (Nat.le_refl _)), ?_, hi⟩⟩⟩
    rw [hv, tk']
    unfold puts
    rw [List.foldl_append]
    rfl
  · have hi2 : i = ds.length := by omega
    subst hi2
    rw [List.getElem?_eq_none (Nat.le_refl _)] at ef
    refine .inl ⟨ef, fn S ?_ k⟩
    rw [List.take_length] at hL
    exact hL
/-! comprehensions of two fors -/
theorem loopC2_ok {f : Nat → Store → Option (Option Dv)} {g : CG} {tt : CT} {ci1 : CI} {vs1 : List Nat} {g1 : CG} {tt1 : CT} {te : CE} {L N : Nat} (J : Nat → Store → Prop) {P : Unit → Store → Prop}
    (step : ∀ i S, J i S → (f i S = some none ∧ P () S) ∨ (i < N ∧ ∃ d, f i S = some (some d) ∧ Ok (g d δ S) fun δ1 S1 => Ok (tt δ1 S1) fun k S2 => k = true ∧ Ok (ci1 δ1 S2) fun it S3 => Ok (loopC it.f g1 tt1 te (wipeE δ1 vs1) L it.n 0 S3) fun _ S4 => J (i + 1) S4)) :
    ∀ (n i : Nat) (S : Store), i + n = N → J i S → Ok (loopC2 f g tt ci1 vs1 g1 tt1 te δ L n i S) P := by
  intro n
  induction n with
  | zero =>
    intro i S hi h
    rcases step i S h with ⟨e, o⟩ | ⟨l, _⟩
    · unfold loopC2; rw [e]; exact o
    · omega
  | succ n ih =>
    intro i S hi h
    rcases step i S h with ⟨e, o⟩ | ⟨l, d, e, h⟩
    · unfold loopC2; rw [e]; exact o
    · unfold loopC2
      rw [e]
      dsimp only
      obtain ⟨δ1, S1, e1, h⟩ := h.get
      rw [e1]
      dsimp only
      obtain ⟨k, S2, e2, rfl, h⟩ := h.get
      rw [e2]
      dsimp only
      obtain ⟨it, S3, e3, h⟩ := h.get
      rw [e3]
      dsimp only
      obtain ⟨u, S4, e4, h⟩ := h.get
      rw [e4]
      exact ih (i + 1) S4 (by omega) h
theorem k_lc2 {ci : CI} {own : List Nat} {g : CG} {tt : CT} {ci1 : CI} {vs1 : List Nat} {g1 : CG} {tt1 : CT} {te : CE} (h : Ok (ci δ S) fun it S1 => ∃ J : Nat → Store → Prop, J 0 (S1 ++ [.lst []]) ∧ ∀ i S, J i S → (it.f i S = some none ∧ Q (.ref S1.length) S) ∨ (i < it.n ∧ ∃ d, it.f i S = some (some d) ∧ Ok (g d (wipeE δ own) S) fun δ1 S1' => Ok (tt δ1 S1') fun k S2 => k = true ∧ Ok (ci1 δ1 S2) fun it S3 => Ok (loopC it.f g1 tt1 te (wipeE δ1 vs1) S1.length it.n 0 S3) fun _ S4 => J (i + 1) S4)) : Ok (cLc2 ci own g tt ci1 vs1 g1 tt1 te δ S) Q :=
  Ok.bind (h.imp fun it S1 ⟨J, h0, st⟩ => Ok.bind (loopC2_ok (N := it.n) J st it.n 0 _ (Nat.zero_add _) h0))
end
end Sm

namespace Sm
open PySem L2
section
variable {δ : Env'} {S : Store} {Q : Dv → Store → Prop} {QB : Bool → Store → Prop}
theorem k_andV {a b : CE} (h : Ok (a δ S) fun x S1 => ∃ k, x = .bl k ∧ (k = true → Ok (b δ S1) Q) ∧ (k = false → Q (.bl false) S1)) : Ok (cAndV a b δ S) Q := Ok.bind (h.imp fun x S1 ⟨k, e, h1, h2⟩ => by
  subst e
  cases k with
  | true => exact h1 rfl
  | false => exact h2 rfl)
theorem k_orV {a b : CE} (h : Ok (a δ S) fun x S1 => ∃ k, x = .bl k ∧ (k = true → Q (.bl true) S1) ∧ (k = false → Ok (b δ S1) Q)) : Ok (cOrV a b δ S) Q := Ok.bind (h.imp fun x S1 ⟨k, e, h1, h2⟩ => by
  subst e
  cases k with
  | true => exact h1 rfl
  | false => exact h2 rfl)
theorem k_notV {a : CE} (h : Ok (a δ S) fun x S1 => ∃ k, x = .bl k ∧ Q (.bl (!k)) S1) : Ok (cNotV a δ S) Q := Ok.bind (h.imp fun x S1 ⟨k, e, h1⟩ => by
  subst e
  exact h1)
theorem len_tup {ds : List Dv} : lenOf S (.tup ds) = some ds.length := rfl
theorem len_ls {l : Nat} {ds : List Dv} (h : lsAt S l = some ds) : lenOf S (.ref l) = some ds.length := by
  unfold lenOf; dsimp only; rw [h]
theorem len_str {z : Str} (h : z.length ≤ 16777216) : lenOf S (.str z) = some z.length := by
  unfold lenOf; dsimp only; rw [if_pos (lineI h)]
theorem k_lenL {l : Nat} {ds : List Dv} {n : Nat} (h : lsAt S l = some ds) (e : ds.length = n) (q : Q (.int (n : Nat)) S) : Ok (bLen [.ref l] S) Q := k_len (by rw [len_ls h, e]) q
theorem k_lenT {ds : List Dv} {n : Nat} (e : ds.length = n) (q : Q (.int (n : Nat)) S) : Ok (bLen [.tup ds] S) Q := k_len (by rw [len_tup, e]) q
theorem k_lenS {z : Str} (h : z.length ≤ 16777216) (q : Q (.int (z.length : Nat)) S) : Ok (bLen [.str z] S) Q := k_len (len_str h) q
theorem k_neI {a b : Int} (q : Q (.bl (!decide (a = b))) S) : Ok (dNe (.int a) (.int b) S) Q := k_scN rfl q
/-- a truth, nothing changed -/
def Bo (S : Store) : Dv → Store → Prop := fun r S' => (∃ b, r = .bl b) ∧ Kp [] S S'
theorem bo {b : Bool} {S S' : Store} (k : Kp [] S S') : Bo S (.bl b) S' := ⟨⟨b, rfl⟩, k⟩
theorem use_b {r : Res Dv} (h : Ok r (Bo S)) (k : ∀ b S', Kp [] S S' → Q (.bl b) S') : Ok r Q := h.imp fun v S' ⟨⟨b, e⟩, k'⟩ => by
  subst e
  exact k b S' k'
theorem bls_of : ∀ {ys : List Dv}, (∀ (i : Nat) (y : Dv), ys[i]? = some y → ∃ b, y = .bl b) → ∃ bs : List Bool, ys = bs.map Dv.bl
  | [], _ => ⟨[], rfl⟩
  | y :: ys, h => by
    obtain ⟨b, rfl⟩ := h 0 y rfl
    obtain ⟨bs, e⟩ := bls_of (ys := ys) fun i y e => h (i + 1) y (by simpa using e)
    exact ⟨b :: bs, by rw [e]; rfl⟩
/-- a comprehension of truths -/
theorem k_lcB {ci : CI} {own : List Nat} {g : CG} {te : CE} (h : Ok (ci δ S) fun it S1 => ∃ ds : List Dv, ds.length ≤ it.n ∧ ds.length < 16777216 ∧ (∀ i S, Kp [] S1 S → it.f i S = some ds[i]?) ∧
    (∀ (i : Nat) (d : Dv) (S : Store), ds[i]? = some d → Kp [] S1 S → Ok (g d (wipeE δ own) S) fun δ1 S2 => Ok (te δ1 S2) (Bo S)) ∧
    (∀ (bs : List Bool) S', lsAt S' S1.length = some (bs.map Dv.bl) → Kp [] S1 S' → Q (.ref S1.length) S')) : Ok (cLc ci own g cYes te δ S) Q := by
  refine k_lcM (h.imp fun it S1 ⟨ds, h1, h2, h3, h4, h5⟩ => ⟨ds, [], fun _ _ => True, fun _ y => ∃ b, y = .bl b, h1, h2, by simp, h3, trivial, fun _ _ _ _ => trivial, fun i d S hd k _ => (h4 i d S hd k).imp fun δ1 S2 h => h.imp fun y S3 ⟨a, b⟩ => ⟨a, b, trivial⟩, fun ys S' hl hy hL k _ => ?_⟩)
  obtain ⟨bs, rfl⟩ := bls_of hy
  exact h5 bs S' hL k
theorem txs_flat (ts : List Str) : (txs ts).all flatD = true := by
  rw [List.all_eq_true]
  intro d hd
  obtain ⟨t, _, rfl⟩ := List.mem_map.mp hd
  rfl
theorem kget_int (kis : List (Str × Int)) (z : Str) (j : Int) : ∃ i, (kGet (kiD kis) z).getD (.int j) = .int i := by
  unfold kGet
  cases e : (kiD kis).find? fun p => p.1 == z with
  | none => exact ⟨j, rfl⟩
  | some p =>
    have := List.mem_of_find?_eq_some e
    obtain ⟨q, _, rfl⟩ := List.mem_map.mp this
    exact ⟨q.2, rfl⟩
end
end Sm

namespace K61
open PySem L2 Sm
/-- the text by places -/
def top (i : Nat) : Stmt := PySem.Challenge.pw_trialmill_k61_programs_parted.main.body.getD i (.Pass ⟨0, 0, 0, 0⟩)
inductive Fn where
  | is_from | is_name | straight | are_good | is_expression | spots_from | spots | is_function | is_program | parted | l_deck | l_pick | l_signs | l_leaf | l_done_of | l_tree | l_program | l_sort | l_same | l_one | l_tree_spots | l_others_of | l_bends | l_put_at | l_bent | l_other_code | law
def nm : Fn → Str
  | .is_from => "is_from"
  | .is_name => "is_name"
  | .straight => "straight"
  | .are_good => "are_good"
  | .is_expression => "is_expression"
  | .spots_from => "spots_from"
  | .spots => "spots"
  | .is_function => "is_function"
  | .is_program => "is_program"
  | .parted => "parted"
  | .l_deck => "_law_deck"
  | .l_pick => "_law_pick"
  | .l_signs => "_law_signs"
  | .l_leaf => "_law_leaf"
  | .l_done_of => "_law_done_of"
  | .l_tree => "_law_tree"
  | .l_program => "_law_program"
  | .l_sort => "_law_sort"
  | .l_same => "_law_same"
  | .l_one => "_law_one"
  | .l_tree_spots => "_law_tree_spots"
  | .l_others_of => "_law_others_of"
  | .l_bends => "_law_bends"
  | .l_put_at => "_law_put_at"
  | .l_bent => "_law_bent"
  | .l_other_code => "_law_other_code"
  | .law => "law"
def st : Fn → Stmt
  | .is_from => top 5
  | .is_name => top 6
  | .straight => top 14
  | .are_good => top 15
  | .is_expression => top 16
  | .spots_from => top 17
  | .spots => top 18
  | .is_function => top 19
  | .is_program => top 20
  | .parted => top 22
  | .l_deck => top 24
  | .l_pick => top 25
  | .l_signs => top 26
  | .l_leaf => top 27
  | .l_done_of => top 28
  | .l_tree => top 29
  | .l_program => top 30
  | .l_sort => top 31
  | .l_same => top 32
  | .l_one => top 33
  | .l_tree_spots => top 34
  | .l_others_of => top 35
  | .l_bends => top 36
  | .l_put_at => top 37
  | .l_bent => top 38
  | .l_other_code => top 39
  | .law => top 40
def ps : Fn → List Str
  | .is_from => ["thing", "low", "high"]
  | .is_name => ["thing"]
  | .straight => ["expression"]
  | .are_good => ["things", "names", "deep"]
  | .is_expression => ["thing", "names", "deep"]
  | .spots_from => ["expression"]
  | .spots => ["function"]
  | .is_function => ["thing"]
  | .is_program => ["thing"]
  | .parted => ["one", "other"]
  | .l_deck => ["cell", "turn"]
  | .l_pick => ["deck", "many"]
  | .l_signs => []
  | .l_leaf => ["deck", "kind", "scope"]
  | .l_done_of => ["deck", "kind", "scope", "calls", "deep"]
  | .l_tree => ["deck", "kind", "scope", "calls", "deep"]
  | .l_program => ["deck"]
  | .l_sort => ["thing"]
  | .l_same => ["told", "due"]
  | .l_one => ["deck", "some"]
  | .l_tree_spots => ["expression"]
  | .l_others_of => ["expression"]
  | .l_bends => ["code"]
  | .l_put_at => ["expression", "place", "other"]
  | .l_bent => ["code", "bend"]
  | .l_other_code => ["deck", "code"]
  | .law => ["script"]
def ar : Fn → Nat
  | .is_from => 3
  | .is_name => 1
  | .straight => 1
  | .are_good => 3
  | .is_expression => 3
  | .spots_from => 1
  | .spots => 1
  | .is_function => 1
  | .is_program => 1
  | .parted => 2
  | .l_deck => 2
  | .l_pick => 2
  | .l_signs => 0
  | .l_leaf => 3
  | .l_done_of => 5
  | .l_tree => 5
  | .l_program => 1
  | .l_sort => 1
  | .l_same => 2
  | .l_one => 2
  | .l_tree_spots => 1
  | .l_others_of => 1
  | .l_bends => 1
  | .l_put_at => 3
  | .l_bent => 2
  | .l_other_code => 2
  | .law => 1
def k_COUNTS : List (Str × Int) := [("plus", 2), ("minus", 2), ("times", 2), ("over", 2), ("rest", 2), ("below", 2), ("same", 2), ("and", 2), ("or", 2), ("put", 2), ("not", 1), ("first", 1), ("others", 1), ("long", 1), ("world", 0)]
def k_KEPT : List Str := ["by", "false", "fn", "if", "just", "let", "one", "row", "trial", "true", "truth", "where", "whole"]
def k_WORDS : List Str := ["and", "below", "first", "long", "minus", "not", "or", "others", "over", "plus", "put", "rest", "same", "times", "world"]
/-- is_from: 0 thing, 1 low, 2 high -/
def b_is_from (c : Tab Fn) : CS :=
  (cRet (cAndV (cApp bIsi (cCons (cVar 0) (cCons (cC (.ty "int")) cNil))) (cAndV (cNotV (cApp bIsi (cCons (cVar 0) (cCons (cC (.ty "bool")) cNil)))) (cTwo dLe dLe (cVar 1) (cVar 0) (cVar 2)))))
/-- is_name: 0 thing, 1 sign -/
def b_is_name (c : Tab Fn) : CS :=
  (cSeq (cIf (cOr (cNot (cTst (cApp bIsi (cCons (cVar 0) (cCons (cC (.ty "str")) cNil))))) (cOr (cNot (cTst (cTwo dLe dLe (cC (.int 1)) (cApp bLen (cCons (cVar 0) cNil)) (cC (.int 8))))) (cOr (cTst (cBin (dInX false) (cVar 0) (cC (.tup (k_WORDS.map Dv.str))))) (cTst (cBin (dInX false) (cVar 0) (cC (.tup (k_KEPT.map Dv.str)))))))) (cRet (cC (.bl false))) cNx)
  (cRet (cApp bAll (cCons (cLc (cIt (cVar 0)) [1] (gN 1) cYes (cBin (dInX false) (cVar 1) (cC (.str "abcdefghijklmnopqrstuvwxyz")))) cNil))))
/-- straight: 0 expression, 1 head -/
def b_straight (c : Tab Fn) : CS :=
  (cSeq (cSet 1 (cBin dIx (cVar 0) (cC (.int 0))))
  (cSeq (cIf (cTst (cBin dEq (cVar 1) (cC (.str "if")))) (cRet (cApp bList (cCons (cSl (cVar 0) (cPt (cC (.int 1))) cNo) cNil))) cNx)
  (cSeq (cIf (cTst (cBin dEq (cVar 1) (cC (.str "let")))) (cRet (cApp bList (cCons (cSl (cVar 0) (cPt (cC (.int 2))) cNo) cNil))) cNx)
  (cRet (cIfE (cTst (cBin (dInX false) (cVar 1) (cTup (cCons (cC (.str "call")) (cCons (cC (.str "do")) cNil))))) (cApp bList (cCons (cBin dIx (cVar 0) (cC (.int 2))) cNil)) (cLst cNil))))))
/-- are_good: 0 things, 1 names, 2 deep, 3 thing -/
def b_are_good (c : Tab Fn) : CS :=
  (cRet (cApp bAll (cCons (cLc (cIt (cVar 0)) [3] (gN 3) cYes (cCall (c .is_expression) 3 (cCons (cVar 3) (cCons (cVar 1) (cCons (cVar 2) cNil))))) cNil)))
/-- is_expression: 0 thing, 1 names, 2 deep, 3 head, 4 good, 5 parts, 6 part -/
def b_is_expression (c : Tab Fn) : CS :=
  (cSeq (cIf (cOr (cTst (cBin dEq (cVar 2) (cC (.int 0)))) (cOr (cNot (cTst (cApp bIsi (cCons (cVar 0) (cCons (cC (.ty "tuple")) cNil))))) (cOr (cTst (cBin dEq (cVar 0) (cTup cNil))) (cNot (cTst (cApp bIsi (cCons (cBin dIx (cVar 0) (cC (.int 0))) (cCons (cC (.ty "str")) cNil)))))))) (cRet (cC (.bl false))) cNx)
  (cSeq (cAsg (cVar 0) (gStar (gCons' (gN 3) (gCons' (gN 5) gNil'))))
  (cSeq (cIf (cTst (cBin dEq (cVar 3) (cC (.str "number")))) (cRet (cAndV (cBin dEq (cApp bLen (cCons (cVar 5) cNil)) (cC (.int 1))) (cCall (c .is_from) 3 (cCons (cBin dIx (cVar 5) (cC (.int 0))) (cCons (cNeg (cC (.int 1000))) (cCons (cC (.int 1000)) cNil)))))) cNx)
  (cSeq (cIf (cTst (cBin dEq (cVar 3) (cC (.str "truth")))) (cRet (cAndV (cBin dEq (cApp bLen (cCons (cVar 5) cNil)) (cC (.int 1))) (cApp bIsi (cCons (cBin dIx (cVar 5) (cC (.int 0))) (cCons (cC (.ty "bool")) cNil))))) cNx)
  (cSeq (cIf (cTst (cBin dEq (cVar 3) (cC (.str "row")))) (cSeq (cSet 4 (cAndV (cBin dEq (cApp bLen (cCons (cVar 5) cNil)) (cC (.int 1))) (cAndV (cApp bIsi (cCons (cBin dIx (cVar 5) (cC (.int 0))) (cCons (cC (.ty "tuple")) cNil))) (cBin dLe (cApp bLen (cCons (cBin dIx (cVar 5) (cC (.int 0))) cNil)) (cC (.int 6))))))
  (cRet (cAndV (cVar 4) (cApp bAll (cCons (cLc (cIt (cBin dIx (cVar 5) (cC (.int 0)))) [6] (gN 6) cYes (cCall (c .is_from) 3 (cCons (cVar 6) (cCons (cNeg (cC (.int 1000))) (cCons (cC (.int 1000)) cNil))))) cNil))))) cNx)
  (cSeq (cIf (cTst (cBin dEq (cVar 3) (cC (.str "name")))) (cRet (cAndV (cBin dEq (cApp bLen (cCons (cVar 5) cNil)) (cC (.int 1))) (cAndV (cApp bIsi (cCons (cBin dIx (cVar 5) (cC (.int 0))) (cCons (cC (.ty "str")) cNil))) (cBin (dInX false) (cBin dIx (cVar 5) (cC (.int 0))) (cVar 1))))) cNx)
  (cSeq (cIf (cTst (cBin dEq (cVar 3) (cC (.str "if")))) (cRet (cAndV (cBin dEq (cApp bLen (cCons (cVar 5) cNil)) (cC (.int 3))) (cCall (c .are_good) 3 (cCons (cVar 5) (cCons (cVar 1) (cCons (cBin dSub (cVar 2) (cC (.int 1))) cNil)))))) cNx)
  (cSeq (cIf (cTst (cBin dEq (cVar 3) (cC (.str "let")))) (cSeq (cIf (cOr (cTst (cBin dNe (cApp bLen (cCons (cVar 5) cNil)) (cC (.int 3)))) (cOr (cNot (cTst (cCall (c .is_name) 1 (cCons (cBin dIx (cVar 5) (cC (.int 0))) cNil)))) (cNot (cTst (cCall (c .is_expression) 3 (cCons (cBin dIx (cVar 5) (cC (.int 1))) (cCons (cVar 1) (cCons (cBin dSub (cVar 2) (cC (.int 1))) cNil)))))))) (cRet (cC (.bl false))) cNx)
  (cRet (cCall (c .is_expression) 3 (cCons (cBin dIx (cVar 5) (cC (.int 2))) (cCons (cBin dAdd (cVar 1) (cTup (cCons (cBin dIx (cVar 5) (cC (.int 0))) cNil))) (cCons (cBin dSub (cVar 2) (cC (.int 1))) cNil)))))) cNx)
  (cSeq (cIf (cOr (cTst (cBin (dInX true) (cVar 3) (cTup (cCons (cC (.str "call")) (cCons (cC (.str "do")) cNil))))) (cOr (cTst (cBin dNe (cApp bLen (cCons (cVar 5) cNil)) (cC (.int 2)))) (cNot (cTst (cApp bIsi (cCons (cBin dIx (cVar 5) (cC (.int 1))) (cCons (cC (.ty "tuple")) cNil))))))) (cRet (cC (.bl false))) cNx)
  (cSeq (cIf (cTst (cBin dEq (cVar 3) (cC (.str "do")))) (cSet 4 (cAndV (cApp bIsi (cCons (cBin dIx (cVar 5) (cC (.int 0))) (cCons (cC (.ty "str")) cNil))) (cBin dEq (cKGet (kiD k_COUNTS) (cBin dIx (cVar 5) (cC (.int 0))) (cNeg (cC (.int 1)))) (cApp bLen (cCons (cBin dIx (cVar 5) (cC (.int 1))) cNil))))) (cSet 4 (cAndV (cCall (c .is_name) 1 (cCons (cBin dIx (cVar 5) (cC (.int 0))) cNil)) (cBin dLe (cApp bLen (cCons (cBin dIx (cVar 5) (cC (.int 1))) cNil)) (cC (.int 4))))))
  (cRet (cAndV (cVar 4) (cCall (c .are_good) 3 (cCons (cBin dIx (cVar 5) (cC (.int 1))) (cCons (cVar 1) (cCons (cBin dSub (cVar 2) (cC (.int 1))) cNil))))))))))))))))
/-- spots_from: 0 expression, 1 found, 2 part -/
def b_spots_from (c : Tab Fn) : CS :=
  (cSeq (cSet 1 (cLst (cCons (cVar 0) cNil)))
  (cSeq (cFor (cIt (cCall (c .straight) 1 (cCons (cVar 0) cNil))) (gN 2) (cDrop (cMt "list" mExt (cVar 1) (cCons (cCall (c .spots_from) 1 (cCons (cVar 2) cNil)) cNil))))
  (cRet (cVar 1))))
/-- spots: 0 function -/
def b_spots (c : Tab Fn) : CS :=
  (cRet (cCall (c .spots_from) 1 (cCons (cBin dIx (cVar 0) (cC (.int 2))) cNil)))
/-- is_function: 0 thing, 1 name -/
def b_is_function (c : Tab Fn) : CS :=
  (cSeq (cIf (cOr (cNot (cTst (cApp bIsi (cCons (cVar 0) (cCons (cC (.ty "tuple")) cNil))))) (cOr (cTst (cBin dNe (cApp bLen (cCons (cVar 0) cNil)) (cC (.int 3)))) (cOr (cNot (cTst (cCall (c .is_name) 1 (cCons (cBin dIx (cVar 0) (cC (.int 0))) cNil)))) (cNot (cTst (cApp bIsi (cCons (cBin dIx (cVar 0) (cC (.int 1))) (cCons (cC (.ty "tuple")) cNil)))))))) (cRet (cC (.bl false))) cNx)
  (cSeq (cIf (cOr (cTst (cBin dGt (cApp bLen (cCons (cBin dIx (cVar 0) (cC (.int 1))) cNil)) (cC (.int 4)))) (cNot (cTst (cApp bAll (cCons (cLc (cIt (cBin dIx (cVar 0) (cC (.int 1)))) [1] (gN 1) cYes (cCall (c .is_name) 1 (cCons (cVar 1) cNil))) cNil))))) (cRet (cC (.bl false))) cNx)
  (cSeq (cIf (cOr (cTst (cBin dNe (cLenSet (cBin dIx (cVar 0) (cC (.int 1)))) (cApp bLen (cCons (cBin dIx (cVar 0) (cC (.int 1))) cNil)))) (cNot (cTst (cCall (c .is_expression) 3 (cCons (cBin dIx (cVar 0) (cC (.int 2))) (cCons (cBin dIx (cVar 0) (cC (.int 1))) (cCons (cC (.int 8)) cNil))))))) (cRet (cC (.bl false))) cNx)
  (cRet (cBin dLe (cApp bLen (cCons (cCall (c .spots) 1 (cCons (cVar 0) cNil)) cNil)) (cC (.int 60)))))))
/-- is_program: 0 thing, 1 sizes, 2 calls, 3 function, 4 spot, 5 one, 6 other -/
def b_is_program (c : Tab Fn) : CS :=
  (cSeq (cIf (cOr (cNot (cTst (cApp bIsi (cCons (cVar 0) (cCons (cC (.ty "tuple")) cNil))))) (cOr (cTst (cBin dGt (cApp bLen (cCons (cVar 0) cNil)) (cC (.int 12)))) (cNot (cTst (cApp bAll (cCons (cLc (cIt (cVar 0)) [5] (gN 5) cYes (cCall (c .is_function) 1 (cCons (cVar 5) cNil))) cNil)))))) (cRet (cC (.bl false))) cNx)
  (cSeq (cIf (cNot (cTst (cApp bAll (cCons (cLc (cZipT (cCons (cVar 0) (cCons (cSl (cVar 0) (cPt (cC (.int 1))) cNo) cNil))) [5, 6] (gT 2 (gCons' (gN 5) (gCons' (gN 6) gNil'))) cYes (cBin dLtX (cBin dIx (cVar 5) (cC (.int 0))) (cBin dIx (cVar 6) (cC (.int 0))))) cNil)))) (cRet (cC (.bl false))) cNx)
  (cSeq (cSet 1 (cDc (cIt (cVar 0)) [3] (gN 3) cYes (cBin dIx (cVar 3) (cC (.int 0))) (cApp bLen (cCons (cBin dIx (cVar 3) (cC (.int 1))) cNil))))
  (cSeq (cSet 2 (cLc2 (cIt (cVar 0)) [3, 4] (gN 3) cYes (cIt (cCall (c .spots) 1 (cCons (cVar 3) cNil))) [4] (gN 4) (cTst (cBin dEq (cBin dIx (cVar 4) (cC (.int 0))) (cC (.str "call")))) (cVar 4)))
  (cRet (cApp bAll (cCons (cLc (cIt (cVar 2)) [4] (gN 4) cYes (cBin dEq (cGet2 (cVar 1) (cBin dIx (cVar 4) (cC (.int 1))) (cNeg (cC (.int 1)))) (cApp bLen (cCons (cBin dIx (cVar 4) (cC (.int 2))) cNil)))) cNil)))))))
/-- parted: 0 one, 1 other, 2 left, 3 right, 4 names, 5 function, 6 name -/
def b_parted (c : Tab Fn) : CS :=
  (cSeq (cSet 2 (cDc (cIt (cVar 0)) [5] (gN 5) cYes (cBin dIx (cVar 5) (cC (.int 0))) (cVar 5)))
  (cSeq (cSet 3 (cDc (cIt (cVar 1)) [5] (gN 5) cYes (cBin dIx (cVar 5) (cC (.int 0))) (cVar 5)))
  (cSeq (cSet 4 (cSortSet (cBin dAdd (cApp bListD (cCons (cVar 2) cNil)) (cApp bListD (cCons (cVar 3) cNil)))))
  (cRet (cLc (cIt (cVar 4)) [6] (gN 6) (cTst (cBin dNe (cGet2 (cVar 2) (cVar 6) (cC .non)) (cGet2 (cVar 3) (cVar 6) (cC .non)))) (cVar 6))))))
/-- _law_deck: 0 cell, 1 turn -/
def b_l_deck (c : Tab Fn) : CS :=
  (cSeq (cIf (cTst (cBin dGe (cVar 0) (cBin dPow (cC (.int 10)) (cC (.int 18))))) (cRet (cLst (cCons (cBin dSub (cVar 0) (cBin dPow (cC (.int 10)) (cC (.int 18)))) (cCons (cBin dMod (cVar 0) (cC (.int 2147483579))) (cCons (cVar 1) cNil))))) cNx)
  (cRet (cLst (cCons (cC (.int 0)) (cCons (cBin dMod (cVar 0) (cC (.int 2147483579))) (cCons (cVar 1) cNil))))))
/-- _law_pick: 0 deck, 1 many, 2 number, 3 found -/
def b_l_pick (c : Tab Fn) : CS :=
  (cSeq (cIf (cTst (cBin dGt (cBin dIx (cVar 0) (cC (.int 0))) (cC (.int 1)))) (cSeq (cSet 3 (cBin dMod (cBin dIx (cVar 0) (cC (.int 0))) (cVar 1)))
  (cSeq (cAsg (cBin dDiv (cBin dIx (cVar 0) (cC (.int 0))) (cVar 1)) (gS (cVar 0) (cC (.int 0))))
  (cRet (cVar 3)))) cNx)
  (cSeq (cAsg (cBin dAdd (cBin dIx (cVar 0) (cC (.int 2))) (cC (.int 1))) (gS (cVar 0) (cC (.int 2))))
  (cSeq (cSet 2 (cBin dMod (cBin dPow (cBin dAdd (cBin dIx (cVar 0) (cC (.int 1))) (cBin dMul (cC (.int 15485867)) (cBin dIx (cVar 0) (cC (.int 2))))) (cC (.int 5))) (cC (.int 2147483647))))
  (cSeq (cSet 3 (cBin dDiv (cBin dMod (cBin dPow (cBin dAdd (cVar 2) (cBin dMul (cC (.int 7919)) (cBin dIx (cVar 0) (cC (.int 2))))) (cC (.int 3))) (cC (.int 2147483629))) (cC (.int 32))))
  (cSeq (cIf (cTst (cBin dGt (cVar 1) (cC (.int 1000000)))) (cRet (cBin dMod (cBin dAdd (cBin dMul (cVar 3) (cC (.int 2147483563))) (cVar 2)) (cVar 1))) cNx)
  (cRet (cBin dMod (cVar 3) (cVar 1))))))))
/-- _law_signs:  -/
def b_l_signs (c : Tab Fn) : CS :=
  (cRet (cDisp [((cC (.str "f")), (cTup (cCons (cLst (cCons (cC (.str "number")) cNil)) (cCons (cC (.str "number")) cNil)))), ((cC (.str "g")), (cTup (cCons (cLst (cCons (cC (.str "row")) cNil)) (cCons (cC (.str "number")) cNil)))), ((cC (.str "h")), (cTup (cCons (cLst (cCons (cC (.str "number")) (cCons (cC (.str "number")) cNil))) (cCons (cC (.str "truth")) cNil)))), ((cC (.str "p")), (cTup (cCons (cLst (cCons (cC (.str "number")) cNil)) (cCons (cC (.str "truth")) cNil)))), ((cC (.str "t")), (cTup (cCons (cLst (cCons (cC (.str "number")) (cCons (cC (.str "row")) cNil))) (cCons (cC (.str "truth")) cNil))))]))
/-- _law_leaf: 0 deck, 1 kind, 2 scope, 3 some, 4 name, 5 one, 6 k -/
def b_l_leaf (c : Tab Fn) : CS :=
  (cSeq (cSet 3 (cLc (cIt (cVar 2)) [4, 5] (gT 2 (gCons' (gN 4) (gCons' (gN 5) gNil'))) (cTst (cBin dEq (cVar 5) (cVar 1))) (cVar 4)))
  (cSeq (cIf (cAnd (cTst (cBin dNe (cVar 3) (cLst cNil))) (cTst (cBin dGt (cCall (c .l_pick) 2 (cCons (cVar 0) (cCons (cC (.int 3)) cNil))) (cC (.int 0))))) (cRet (cTup (cCons (cC (.str "name")) (cCons (cBin dIx (cVar 3) (cCall (c .l_pick) 2 (cCons (cVar 0) (cCons (cApp bLen (cCons (cVar 3) cNil)) cNil)))) cNil)))) cNx)
  (cSeq (cIf (cTst (cBin dEq (cVar 1) (cC (.str "number")))) (cSeq (cIf (cTst (cBin dEq (cCall (c .l_pick) 2 (cCons (cVar 0) (cCons (cC (.int 10)) cNil))) (cC (.int 0)))) (cRet (cTup (cCons (cC (.str "do")) (cCons (cC (.str "world")) (cCons (cTup cNil) cNil))))) cNx)
  (cRet (cTup (cCons (cC (.str "number")) (cCons (cBin dIx (cLst (cCons (cBin dSub (cCall (c .l_pick) 2 (cCons (cVar 0) (cCons (cC (.int 7)) cNil))) (cC (.int 3))) (cCons (cBin dSub (cCall (c .l_pick) 2 (cCons (cVar 0) (cCons (cC (.int 2001)) cNil))) (cC (.int 1000))) cNil))) (cApp bInt (cCons (cBin dEq (cCall (c .l_pick) 2 (cCons (cVar 0) (cCons (cC (.int 6)) cNil))) (cC (.int 0))) cNil))) cNil))))) cNx)
  (cSeq (cIf (cTst (cBin dEq (cVar 1) (cC (.str "truth")))) (cRet (cTup (cCons (cC (.str "truth")) (cCons (cBin dEq (cCall (c .l_pick) 2 (cCons (cVar 0) (cCons (cC (.int 2)) cNil))) (cC (.int 0))) cNil)))) cNx)
  (cRet (cTup (cCons (cC (.str "row")) (cCons (cApp bTuple (cCons (cLc (cRng1 (cCall (c .l_pick) 2 (cCons (cVar 0) (cCons (cC (.int 4)) cNil)))) [6] (gN 6) cYes (cBin dSub (cCall (c .l_pick) 2 (cCons (cVar 0) (cCons (cC (.int 7)) cNil))) (cC (.int 3)))) cNil)) cNil))))))))
/-- _law_done_of: 0 deck, 1 kind, 2 scope, 3 calls, 4 deep, 5 words, 6 word, 7 kinds, 8 inner, 9 one -/
def b_l_done_of (c : Tab Fn) : CS :=
  (cSeq (cSet 5 (cDisp [((cC (.str "number")), (cLst (cCons (cC (.str "plus")) (cCons (cC (.str "minus")) (cCons (cC (.str "times")) (cCons (cC (.str "over")) (cCons (cC (.str "rest")) (cCons (cC (.str "first")) (cCons (cC (.str "long")) cNil))))))))), ((cC (.str "row")), (cLst (cCons (cC (.str "put")) (cCons (cC (.str "others")) (cCons (cC (.str "put")) cNil)))))]))
  (cSeq (cAsg (cLst (cCons (cC (.str "below")) (cCons (cC (.str "same")) (cCons (cC (.str "and")) (cCons (cC (.str "or")) (cCons (cC (.str "not")) (cCons (cC (.str "below")) cNil))))))) (gS (cVar 5) (cC (.str "truth"))))
  (cSeq (cSet 6 (cBin dIx (cBin dIx (cVar 5) (cVar 1)) (cCall (c .l_pick) 2 (cCons (cVar 0) (cCons (cApp bLen (cCons (cBin dIx (cVar 5) (cVar 1)) cNil)) cNil)))))
  (cSeq (cSet 7 (cDisp [((cC (.str "first")), (cLst (cCons (cC (.str "row")) cNil))), ((cC (.str "long")), (cLst (cCons (cC (.str "row")) cNil))), ((cC (.str "others")), (cLst (cCons (cC (.str "row")) cNil))), ((cC (.str "put")), (cLst (cCons (cC (.str "number")) (cCons (cC (.str "row")) cNil)))), ((cC (.str "not")), (cLst (cCons (cC (.str "truth")) cNil)))]))
  (cSeq (cAsg (cLst (cCons (cC (.str "truth")) (cCons (cC (.str "truth")) cNil))) (gS (cVar 7) (cC (.str "and"))))
  (cSeq (cAsg (cLst (cCons (cC (.str "truth")) (cCons (cC (.str "truth")) cNil))) (gS (cVar 7) (cC (.str "or"))))
  (cSeq (cSet 8 (cGet2 (cVar 7) (cVar 6) (cLst (cCons (cC (.str "number")) (cCons (cC (.str "number")) cNil)))))
  (cRet (cTup (cCons (cC (.str "do")) (cCons (cVar 6) (cCons (cApp bTuple (cCons (cLc (cIt (cVar 8)) [9] (gN 9) cYes (cCall (c .l_tree) 5 (cCons (cVar 0) (cCons (cVar 9) (cCons (cVar 2) (cCons (cVar 3) (cCons (cBin dSub (cVar 4) (cC (.int 1))) cNil))))))) cNil)) cNil))))))))))))
/-- _law_tree: 0 deck, 1 kind, 2 scope, 3 calls, 4 deep, 5 way, 6 some, 7 parts, 8 other, 9 name, 10 first, 11 inner, 12 args, 13 one, 14 pair -/
def b_l_tree (c : Tab Fn) : CS :=
  (cSeq (cIf (cOr (cTst (cBin dLtX (cVar 4) (cC (.int 2)))) (cTst (cBin dEq (cCall (c .l_pick) 2 (cCons (cVar 0) (cCons (cC (.int 5)) cNil))) (cC (.int 0))))) (cRet (cCall (c .l_leaf) 3 (cCons (cVar 0) (cCons (cVar 1) (cCons (cVar 2) cNil))))) cNx)
  (cSeq (cIf (cTst (cBin dEq (cCall (c .l_pick) 2 (cCons (cVar 0) (cCons (cC (.int 25)) cNil))) (cC (.int 0)))) (cSet 1 (cBin dIx (cLst (cCons (cC (.str "number")) (cCons (cC (.str "truth")) (cCons (cC (.str "row")) cNil)))) (cCall (c .l_pick) 2 (cCons (cVar 0) (cCons (cC (.int 3)) cNil))))) cNx)
  (cSeq (cSet 5 (cCall (c .l_pick) 2 (cCons (cVar 0) (cCons (cC (.int 8)) cNil))))
  (cSeq (cIf (cTst (cBin dEq (cVar 5) (cC (.int 0)))) (cSeq (cSet 7 (cLc (cIt (cTup (cCons (cC (.str "truth")) (cCons (cVar 1) (cCons (cVar 1) cNil))))) [13] (gN 13) cYes (cCall (c .l_tree) 5 (cCons (cVar 0) (cCons (cVar 13) (cCons (cVar 2) (cCons (cVar 3) (cCons (cBin dSub (cVar 4) (cC (.int 1))) cNil))))))))
  (cRet (cTup (cCons (cC (.str "if")) (cCons (cBin dIx (cVar 7) (cC (.int 0))) (cCons (cBin dIx (cVar 7) (cC (.int 1))) (cCons (cBin dIx (cVar 7) (cC (.int 2))) cNil))))))) cNx)
  (cSeq (cIf (cTst (cBin dEq (cVar 5) (cC (.int 1)))) (cSeq (cSet 8 (cBin dIx (cLst (cCons (cC (.str "number")) (cCons (cC (.str "row")) (cCons (cC (.str "truth")) cNil)))) (cCall (c .l_pick) 2 (cCons (cVar 0) (cCons (cC (.int 3)) cNil)))))
  (cSeq (cSet 9 (cBin dIx (cLst (cCons (cC (.str "x")) (cCons (cC (.str "y")) (cCons (cC (.str "z")) cNil)))) (cCall (c .l_pick) 2 (cCons (cVar 0) (cCons (cC (.int 3)) cNil)))))
  (cSeq (cSet 10 (cCall (c .l_tree) 5 (cCons (cVar 0) (cCons (cVar 8) (cCons (cVar 2) (cCons (cVar 3) (cCons (cBin dSub (cVar 4) (cC (.int 1))) cNil)))))))
  (cSeq (cSet 11 (cBin dAdd (cLc (cIt (cVar 2)) [14] (gN 14) (cTst (cBin dNe (cBin dIx (cVar 14) (cC (.int 0))) (cVar 9))) (cVar 14)) (cLst (cCons (cTup (cCons (cVar 9) (cCons (cVar 8) cNil))) cNil))))
  (cRet (cTup (cCons (cC (.str "let")) (cCons (cVar 9) (cCons (cVar 10) (cCons (cCall (c .l_tree) 5 (cCons (cVar 0) (cCons (cVar 1) (cCons (cVar 11) (cCons (cVar 3) (cCons (cBin dSub (cVar 4) (cC (.int 1))) cNil)))))) cNil)))))))))) cNx)
  (cSeq (cSet 6 (cLc (cIt (cVar 3)) [9] (gN 9) (cTst (cBin dEq (cBin dIx (cBin dIx (cCall (c .l_signs) 0 cNil) (cVar 9)) (cC (.int 1))) (cVar 1))) (cVar 9)))
  (cSeq (cIf (cAnd (cTst (cBin dLtX (cVar 5) (cC (.int 4)))) (cTst (cBin dNe (cVar 6) (cLst cNil)))) (cSeq (cSet 9 (cBin dIx (cVar 6) (cCall (c .l_pick) 2 (cCons (cVar 0) (cCons (cApp bLen (cCons (cVar 6) cNil)) cNil)))))
  (cSeq (cSet 12 (cLc (cIt (cBin dIx (cBin dIx (cCall (c .l_signs) 0 cNil) (cVar 9)) (cC (.int 0)))) [13] (gN 13) cYes (cCall (c .l_tree) 5 (cCons (cVar 0) (cCons (cVar 13) (cCons (cVar 2) (cCons (cVar 3) (cCons (cBin dSub (cVar 4) (cC (.int 1))) cNil))))))))
  (cRet (cTup (cCons (cC (.str "call")) (cCons (cVar 9) (cCons (cApp bTuple (cCons (cVar 12) cNil)) cNil))))))) cNx)
  (cRet (cCall (c .l_done_of) 5 (cCons (cVar 0) (cCons (cVar 1) (cCons (cVar 2) (cCons (cVar 3) (cCons (cVar 4) cNil))))))))))))))
/-- _law_program: 0 deck, 1 found, 2 at, 3 name, 4 calls, 5 scope, 6 body, 7 kinds, 8 told -/
def b_l_program (c : Tab Fn) : CS :=
  (cSeq (cSet 1 (cLst cNil))
  (cSeq (cFor (cEnS (cC (.str "fghpt"))) (gT 2 (gCons' (gN 2) (gCons' (gN 3) gNil'))) (cSeq (cSet 4 (cIfE (cTst (cBin dGt (cCall (c .l_pick) 2 (cCons (cVar 0) (cCons (cC (.int 6)) cNil))) (cC (.int 0)))) (cSl (cC (.str "fghpt")) cNo (cPt (cVar 2))) (cC (.str "fghpt"))))
  (cSeq (cAsg (cBin dIx (cCall (c .l_signs) 0 cNil) (cVar 3)) (gT 2 (gCons' (gN 7) (gCons' (gN 8) gNil'))))
  (cSeq (cSet 5 (cLZip (cCons (cLst (cCons (cC (.str "x")) (cCons (cC (.str "y")) cNil))) (cCons (cVar 7) cNil))))
  (cSeq (cSet 6 (cCall (c .l_tree) 5 (cCons (cVar 0) (cCons (cVar 8) (cCons (cVar 5) (cCons (cVar 4) (cCons (cBin dAdd (cC (.int 2)) (cCall (c .l_pick) 2 (cCons (cVar 0) (cCons (cC (.int 3)) cNil)))) cNil)))))))
  (cDrop (cMt "list" mApp (cVar 1) (cCons (cTup (cCons (cVar 3) (cCons (cApp bTuple (cCons (cSl (cLst (cCons (cC (.str "x")) (cCons (cC (.str "y")) cNil))) cNo (cPt (cApp bLen (cCons (cVar 7) cNil)))) cNil)) (cCons (cVar 6) cNil)))) cNil))))))))
  (cRet (cApp bTuple (cCons (cVar 1) cNil)))))
/-- _law_sort: 0 thing -/
def b_l_sort (c : Tab Fn) : CS :=
  (cSeq (cIf (cTst (cApp bIsi (cCons (cVar 0) (cCons (cC (.ty "bool")) cNil)))) (cRet (cC (.str "truth"))) cNx)
  (cSeq (cIf (cTst (cApp bIsi (cCons (cVar 0) (cCons (cC (.ty "int")) cNil)))) (cRet (cC (.str "number"))) cNx)
  (cSeq (cIf (cTst (cApp bIsi (cCons (cVar 0) (cCons (cC (.ty "tuple")) cNil)))) (cRet (cC (.str "tuple"))) cNx)
  (cRet (cIfE (cTst (cApp bIsi (cCons (cVar 0) (cCons (cC (.ty "list")) cNil)))) (cC (.str "list")) (cC (.str "other")))))))
/-- _law_same: 0 told, 1 due, 2 k, 3 part -/
def b_l_same (c : Tab Fn) : CS :=
  (cSeq (cIf (cTst (cBin dNe (cCall (c .l_sort) 1 (cCons (cVar 0) cNil)) (cCall (c .l_sort) 1 (cCons (cVar 1) cNil)))) (cRet (cC (.bl false))) cNx)
  (cSeq (cIf (cNot (cTst (cApp bIsiT (cCons (cVar 0) (cCons (cTup (cCons (cC (.ty "tuple")) (cCons (cC (.ty "list")) cNil))) cNil))))) (cRet (cBin dEq (cVar 0) (cVar 1))) cNx)
  (cSeq (cIf (cTst (cBin dNe (cApp bLen (cCons (cVar 0) cNil)) (cApp bLen (cCons (cVar 1) cNil)))) (cRet (cC (.bl false))) cNx)
  (cRet (cBin dEq (cLc (cEnL (cVar 0)) [2, 3] (gT 2 (gCons' (gN 2) (gCons' (gN 3) gNil'))) (cNot (cTst (cCall (c .l_same) 2 (cCons (cVar 3) (cCons (cBin dIx (cVar 1) (cVar 2)) cNil))))) (cVar 2)) (cLst cNil))))))
/-- _law_one: 0 deck, 1 some -/
def b_l_one (c : Tab Fn) : CS :=
  (cRet (cBin dIx (cVar 1) (cCall (c .l_pick) 2 (cCons (cVar 0) (cCons (cApp bLen (cCons (cVar 1) cNil)) cNil)))))
/-- _law_tree_spots: 0 expression, 1 inside, 2 found, 3 part -/
def b_l_tree_spots (c : Tab Fn) : CS :=
  (cSeq (cSet 1 (cLst cNil))
  (cSeq (cIf (cTst (cBin dEq (cBin dIx (cVar 0) (cC (.int 0))) (cC (.str "if")))) (cSet 1 (cApp bList (cCons (cSl (cVar 0) (cPt (cC (.int 1))) cNo) cNil))) (cIf (cTst (cBin dEq (cBin dIx (cVar 0) (cC (.int 0))) (cC (.str "let")))) (cSet 1 (cApp bList (cCons (cSl (cVar 0) (cPt (cC (.int 2))) cNo) cNil))) (cIf (cTst (cBin (dInX false) (cBin dIx (cVar 0) (cC (.int 0))) (cTup (cCons (cC (.str "call")) (cCons (cC (.str "do")) cNil))))) (cSet 1 (cApp bList (cCons (cBin dIx (cVar 0) (cC (.int 2))) cNil))) cNx)))
  (cSeq (cSet 2 (cLst (cCons (cVar 0) cNil)))
  (cSeq (cFor (cIt (cVar 1)) (gN 3) (cSet 2 (cBin dAdd (cVar 2) (cCall (c .l_tree_spots) 1 (cCons (cVar 3) cNil)))))
  (cRet (cVar 2))))))
/-- _law_others_of: 0 expression, 1 head, 2 others, 3 found, 4 other, 5 turned, 6 args, 7 word -/
def b_l_others_of (c : Tab Fn) : CS :=
  (cSeq (cSet 1 (cBin dIx (cVar 0) (cC (.int 0))))
  (cSeq (cIf (cTst (cBin dEq (cVar 1) (cC (.str "number")))) (cSeq (cSet 3 (cLst cNil))
  (cSeq (cFor (cIt (cLst (cCons (cBin dAdd (cBin dIx (cVar 0) (cC (.int 1))) (cC (.int 1))) (cCons (cBin dSub (cBin dIx (cVar 0) (cC (.int 1))) (cC (.int 1))) (cCons (cC (.int 0)) cNil))))) (gN 4) (cIf (cAnd (cTst (cTwo dLe dLe (cNeg (cC (.int 1000))) (cVar 4) (cC (.int 1000)))) (cAnd (cTst (cBin dNe (cVar 4) (cBin dIx (cVar 0) (cC (.int 1))))) (cTst (cBin (dInX true) (cTup (cCons (cC (.str "number")) (cCons (cVar 4) cNil))) (cVar 3))))) (cDrop (cMt "list" mApp (cVar 3) (cCons (cTup (cCons (cC (.str "number")) (cCons (cVar 4) cNil))) cNil))) cNx))
  (cRet (cVar 3)))) cNx)
  (cSeq (cIf (cTst (cBin dEq (cVar 1) (cC (.str "truth")))) (cRet (cLst (cCons (cTup (cCons (cC (.str "truth")) (cCons (cNotV (cBin dIx (cVar 0) (cC (.int 1)))) cNil))) cNil))) cNx)
  (cSeq (cIf (cTst (cBin dEq (cVar 1) (cC (.str "row")))) (cRet (cIfE (cTst (cBin dNe (cBin dIx (cVar 0) (cC (.int 1))) (cTup cNil))) (cLst (cCons (cTup (cCons (cC (.str "row")) (cCons (cSl (cBin dIx (cVar 0) (cC (.int 1))) (cPt (cC (.int 1))) cNo) cNil))) cNil)) (cLst cNil))) cNx)
  (cSeq (cIf (cTst (cBin dEq (cVar 1) (cC (.str "if")))) (cSeq (cSet 5 (cTup (cCons (cC (.str "if")) (cCons (cBin dIx (cVar 0) (cC (.int 1))) (cCons (cBin dIx (cVar 0) (cC (.int 3))) (cCons (cBin dIx (cVar 0) (cC (.int 2))) cNil))))))
  (cRet (cIfE (cTst (cBin dNe (cVar 5) (cVar 0))) (cLst (cCons (cVar 5) cNil)) (cLst cNil)))) cNx)
  (cSeq (cIf (cTst (cBin dEq (cVar 1) (cC (.str "call")))) (cSeq (cSet 6 (cBin dIx (cVar 0) (cC (.int 2))))
  (cSeq (cSet 5 (cTup (cCons (cVar 1) (cCons (cBin dIx (cVar 0) (cC (.int 1))) (cCons (cBin dAdd (cBin dAdd (cSl (cVar 6) (cPt (cC (.int 1))) (cPt (cC (.int 2)))) (cSl (cVar 6) cNo (cPt (cC (.int 1))))) (cSl (cVar 6) (cPt (cC (.int 2))) cNo)) cNil)))))
  (cRet (cIfE (cAnd (cTst (cBin dGt (cApp bLen (cCons (cVar 6) cNil)) (cC (.int 1)))) (cTst (cBin dNe (cVar 5) (cVar 0)))) (cLst (cCons (cVar 5) cNil)) (cLst cNil))))) cNx)
  (cSeq (cIf (cTst (cBin dNe (cVar 1) (cC (.str "do")))) (cRet (cLst cNil)) cNx)
  (cSeq (cAsg (cSl (cVar 0) (cPt (cC (.int 1))) cNo) (gT 2 (gCons' (gN 7) (gCons' (gN 6) gNil'))))
  (cSeq (cIf (cTst (cBin dEq (cVar 7) (cC (.str "not")))) (cRet (cLst (cCons (cBin dIx (cVar 6) (cC (.int 0))) cNil))) cNx)
  (cSeq (cIf (cTst (cBin dEq (cVar 7) (cC (.str "below")))) (cRet (cIfE (cTst (cBin dNe (cBin dIx (cVar 6) (cC (.int 0))) (cBin dIx (cVar 6) (cC (.int 1))))) (cLst (cCons (cTup (cCons (cC (.str "do")) (cCons (cVar 7) (cCons (cUn dRevT (cVar 6)) cNil)))) cNil)) (cLst cNil))) cNx)
  (cSeq (cSet 2 (cDisp [((cC (.str "plus")), (cC (.str "minus"))), ((cC (.str "minus")), (cC (.str "plus"))), ((cC (.str "times")), (cC (.str "plus"))), ((cC (.str "over")), (cC (.str "rest"))), ((cC (.str "rest")), (cC (.str "over")))]))
  (cSeq (cDrop (cMt "dict" mUpd (cVar 2) (cCons (cDisp [((cC (.str "and")), (cC (.str "or"))), ((cC (.str "or")), (cC (.str "and")))]) cNil)))
  (cRet (cIfE (cTst (cBin (dInX false) (cVar 7) (cVar 2))) (cLst (cCons (cTup (cCons (cC (.str "do")) (cCons (cBin dIx (cVar 2) (cVar 7)) (cCons (cVar 6) cNil)))) cNil)) (cLst cNil)))))))))))))))
/-- _law_bends: 0 code, 1 found, 2 name, 3 names, 4 body, 5 place, 6 expression, 7 k -/
def b_l_bends (c : Tab Fn) : CS :=
  (cSeq (cSet 1 (cLst cNil))
  (cSeq (cFor (cIt (cVar 0)) (gT 3 (gCons' (gN 2) (gCons' (gN 3) (gCons' (gN 4) gNil')))) (cFor (cEnL (cCall (c .l_tree_spots) 1 (cCons (cVar 4) cNil))) (gT 2 (gCons' (gN 5) (gCons' (gN 6) gNil'))) (cSet 1 (cBin dAdd (cVar 1) (cLc (cRng1 (cApp bLen (cCons (cCall (c .l_others_of) 1 (cCons (cVar 6) cNil)) cNil))) [7] (gN 7) cYes (cTup (cCons (cVar 2) (cCons (cVar 5) (cCons (cVar 7) cNil)))))))))
  (cRet (cVar 1))))
/-- _law_put_at: 0 expression, 1 place, 2 other, 3 start, 4 inside, 5 found, 6 at, 7 part, 8 size -/
def b_l_put_at (c : Tab Fn) : CS :=
  (cSeq (cIf (cTst (cBin dEq (cVar 1) (cC (.int 0)))) (cRet (cVar 2)) cNx)
  (cSeq (cSet 3 (cGet2 (cDisp [((cC (.str "let")), (cC (.int 2)))]) (cBin dIx (cVar 0) (cC (.int 0))) (cC (.int 1))))
  (cSeq (cSet 4 (cIfE (cTst (cBin (dInX false) (cBin dIx (cVar 0) (cC (.int 0))) (cTup (cCons (cC (.str "call")) (cCons (cC (.str "do")) cNil))))) (cApp bList (cCons (cBin dIx (cVar 0) (cC (.int 2))) cNil)) (cApp bList (cCons (cSl (cVar 0) (cPt (cVar 3)) cNo) cNil))))
  (cSeq (cSet 5 (cLst cNil))
  (cSeq (cSet 6 (cC (.int 1)))
  (cSeq (cFor (cIt (cVar 4)) (gN 7) (cSeq (cSet 8 (cApp bLen (cCons (cCall (c .l_tree_spots) 1 (cCons (cVar 7) cNil)) cNil)))
  (cSeq (cDrop (cMt "list" mApp (cVar 5) (cCons (cIfE (cTst (cTwo dLe dLtX (cVar 6) (cVar 1) (cBin dAdd (cVar 6) (cVar 8)))) (cCall (c .l_put_at) 3 (cCons (cVar 7) (cCons (cBin dSub (cVar 1) (cVar 6)) (cCons (cVar 2) cNil)))) (cVar 7)) cNil)))
  (cSet 6 (cBin dAdd (cVar 6) (cVar 8))))))
  (cSeq (cIf (cTst (cBin (dInX false) (cBin dIx (cVar 0) (cC (.int 0))) (cTup (cCons (cC (.str "call")) (cCons (cC (.str "do")) cNil))))) (cRet (cBin dAdd (cSl (cVar 0) cNo (cPt (cC (.int 2)))) (cTup (cCons (cApp bTuple (cCons (cVar 5) cNil)) cNil)))) cNx)
  (cRet (cBin dAdd (cSl (cVar 0) cNo (cPt (cVar 3))) (cApp bTuple (cCons (cVar 5) cNil)))))))))))
/-- _law_bent: 0 code, 1 bend, 2 found, 3 name, 4 names, 5 body, 6 other -/
def b_l_bent (c : Tab Fn) : CS :=
  (cSeq (cSet 2 (cLst cNil))
  (cSeq (cFor (cIt (cVar 0)) (gT 3 (gCons' (gN 3) (gCons' (gN 4) (gCons' (gN 5) gNil')))) (cSeq (cIf (cTst (cBin dEq (cVar 3) (cBin dIx (cVar 1) (cC (.int 0))))) (cSeq (cSet 6 (cBin dIx (cCall (c .l_others_of) 1 (cCons (cBin dIx (cCall (c .l_tree_spots) 1 (cCons (cVar 5) cNil)) (cBin dIx (cVar 1) (cC (.int 1)))) cNil)) (cBin dIx (cVar 1) (cC (.int 2)))))
  (cSet 5 (cCall (c .l_put_at) 3 (cCons (cVar 5) (cCons (cBin dIx (cVar 1) (cC (.int 1))) (cCons (cVar 6) cNil)))))) cNx)
  (cDrop (cMt "list" mApp (cVar 2) (cCons (cTup (cCons (cVar 3) (cCons (cVar 4) (cCons (cVar 5) cNil)))) cNil)))))
  (cRet (cApp bTuple (cCons (cVar 2) cNil)))))
/-- _law_other_code: 0 deck, 1 code, 2 way, 3 every, 4 k -/
def b_l_other_code (c : Tab Fn) : CS :=
  (cSeq (cSet 2 (cCall (c .l_pick) 2 (cCons (cVar 0) (cCons (cC (.int 4)) cNil))))
  (cSeq (cIf (cTst (cBin dEq (cVar 2) (cC (.int 0)))) (cRet (cCall (c .l_program) 1 (cCons (cVar 0) cNil))) cNx)
  (cSeq (cIf (cTst (cBin dEq (cVar 2) (cC (.int 1)))) (cSeq (cSet 4 (cCall (c .l_pick) 2 (cCons (cVar 0) (cCons (cApp bLen (cCons (cVar 1) cNil)) cNil))))
  (cRet (cBin dAdd (cSl (cVar 1) cNo (cPt (cVar 4))) (cSl (cVar 1) (cPt (cBin dAdd (cVar 4) (cC (.int 1)))) cNo)))) cNx)
  (cSeq (cIf (cTst (cBin dEq (cVar 2) (cC (.int 2)))) (cRet (cApp bTuple (cCons (cApp bSortX (cCons (cBin dAdd (cVar 1) (cTup (cCons (cTup (cCons (cC (.str "aa")) (cCons (cTup cNil) (cCons (cTup (cCons (cC (.str "number")) (cCons (cC (.int 1)) cNil))) cNil)))) cNil))) cNil)) cNil))) cNx)
  (cSeq (cSet 3 (cCall (c .l_bends) 1 (cCons (cVar 1) cNil)))
  (cRet (cIfE (cTst (cBin dNe (cVar 3) (cLst cNil))) (cCall (c .l_bent) 2 (cCons (cVar 1) (cCons (cCall (c .l_one) 2 (cCons (cVar 0) (cCons (cVar 3) cNil))) cNil))) (cVar 1))))))))
/-- law: 0 script, 1 cell, 2 deck, 3 one, 4 other, 5 due, 6 name, 7 told, 8 left, 9 right, 10 part -/
def b_law (c : Tab Fn) : CS :=
  (cSeq (cFor (cIt (cSl (cBin dAdd (cLst (cCons (cC (.int 0)) cNil)) (cVar 0)) cNo (cPt (cC (.int 8))))) (gN 1) (cSeq (cSet 2 (cCall (c .l_deck) 2 (cCons (cVar 1) (cCons (cC (.int 19)) cNil))))
  (cSeq (cSet 3 (cCall (c .l_program) 1 (cCons (cVar 2) cNil)))
  (cSeq (cSet 4 (cCall (c .l_other_code) 2 (cCons (cVar 2) (cCons (cVar 3) cNil))))
  (cSeq (cIf (cNot (cTst (cCall (c .is_program) 1 (cCons (cVar 4) cNil)))) (cSet 4 (cVar 3)) cNx)
  (cSeq (cSet 5 (cLst cNil))
  (cSeq (cFor (cIt (cSortSet (cLc (cIt (cBin dAdd (cVar 3) (cVar 4))) [10] (gN 10) cYes (cBin dIx (cVar 10) (cC (.int 0)))))) (gN 6) (cSeq (cSet 8 (cLc (cIt (cVar 3)) [10] (gN 10) (cTst (cBin dEq (cBin dIx (cVar 10) (cC (.int 0))) (cVar 6))) (cVar 10)))
  (cSeq (cSet 9 (cLc (cIt (cVar 4)) [10] (gN 10) (cTst (cBin dEq (cBin dIx (cVar 10) (cC (.int 0))) (cVar 6))) (cVar 10)))
  (cIf (cTst (cBin dNe (cVar 8) (cVar 9))) (cDrop (cMt "list" mApp (cVar 5) (cCons (cVar 6) cNil))) cNx))))
  (cSeq (cSet 7 (cCall (c .parted) 2 (cCons (cVar 3) (cCons (cVar 4) cNil))))
  (cSeq (cIf (cOr (cNot (cTst (cCall (c .l_same) 2 (cCons (cVar 7) (cCons (cVar 5) cNil))))) (cOr (cTst (cBin dNe (cCall (c .parted) 2 (cCons (cVar 4) (cCons (cVar 3) cNil))) (cVar 5))) (cTst (cBin dNe (cCall (c .parted) 2 (cCons (cVar 3) (cCons (cVar 3) cNil))) (cLst cNil))))) (cRet (cC (.bl false))) cNx)
  (cSeq (cDrop (cMt "list" mApp (cVar 7) (cCons (cC (.str "x")) cNil)))
  (cIf (cOr (cTst (cBin dNe (cCall (c .parted) 2 (cCons (cVar 3) (cCons (cVar 4) cNil))) (cVar 5))) (cTst (cBin dNe (cCall (c .parted) 2 (cCons (cTup cNil) (cCons (cVar 3) cNil))) (cLc (cIt (cVar 3)) [10] (gN 10) cYes (cBin dIx (cVar 10) (cC (.int 0))))))) (cRet (cC (.bl false))) cNx)))))))))))
  (cRet (cC (.bl true))))
def body : Fn → Tab Fn → CS
  | .is_from => b_is_from
  | .is_name => b_is_name
  | .straight => b_straight
  | .are_good => b_are_good
  | .is_expression => b_is_expression
  | .spots_from => b_spots_from
  | .spots => b_spots
  | .is_function => b_is_function
  | .is_program => b_is_program
  | .parted => b_parted
  | .l_deck => b_l_deck
  | .l_pick => b_l_pick
  | .l_signs => b_l_signs
  | .l_leaf => b_l_leaf
  | .l_done_of => b_l_done_of
  | .l_tree => b_l_tree
  | .l_program => b_l_program
  | .l_sort => b_l_sort
  | .l_same => b_l_same
  | .l_one => b_l_one
  | .l_tree_spots => b_l_tree_spots
  | .l_others_of => b_l_others_of
  | .l_bends => b_l_bends
  | .l_put_at => b_l_put_at
  | .l_bent => b_l_bent
  | .l_other_code => b_l_other_code
  | .law => b_law
def sz : Fn → Nat
  | .is_from => 3
  | .is_name => 2
  | .straight => 2
  | .are_good => 4
  | .is_expression => 7
  | .spots_from => 3
  | .spots => 1
  | .is_function => 2
  | .is_program => 7
  | .parted => 7
  | .l_deck => 2
  | .l_pick => 4
  | .l_signs => 0
  | .l_leaf => 7
  | .l_done_of => 10
  | .l_tree => 15
  | .l_program => 9
  | .l_sort => 1
  | .l_same => 4
  | .l_one => 2
  | .l_tree_spots => 4
  | .l_others_of => 8
  | .l_bends => 8
  | .l_put_at => 9
  | .l_bent => 7
  | .l_other_code => 5
  | .law => 11
def run (c : Tab Fn) (f : Fn) (ds : List Dv) (S : Store) : Res Dv := noX (runB (sz f) (body f c) ds S)
/-- what a call answers, n levels deep at most -/
def callT : Nat → Tab Fn
  | 0, _, _, _ => .bad
  | n + 1, f, ds, S => run (callT n) f ds S
end K61

namespace K61
open PySem L2 Sm
theorem sc_is_from : FnScope ["thing", "low", "high"] ["thing", "low", "high"] (defScope (top 5)) := ⟨rfl, rfl, rfl, by decide +kernel, rfl, by decide +kernel, by decide +kernel⟩
theorem sc_is_name : FnScope ["thing", "sign"] ["thing"] (defScope (top 6)) := ⟨rfl, rfl, rfl, by decide +kernel, rfl, by decide +kernel, by decide +kernel⟩
theorem sc_straight : FnScope ["expression", "head"] ["expression"] (defScope (top 14)) := ⟨rfl, rfl, rfl, by decide +kernel, rfl, by decide +kernel, by decide +kernel⟩
theorem sc_are_good : FnScope ["things", "names", "deep", "thing"] ["things", "names", "deep"] (defScope (top 15)) := ⟨rfl, rfl, rfl, by decide +kernel, rfl, by decide +kernel, by decide +kernel⟩
theorem sc_is_expression : FnScope ["thing", "names", "deep", "head", "good", "parts", "part"] ["thing", "names", "deep"] (defScope (top 16)) := ⟨rfl, rfl, rfl, by decide +kernel, rfl, by decide +kernel, by decide +kernel⟩
theorem sc_spots_from : FnScope ["expression", "found", "part"] ["expression"] (defScope (top 17)) := ⟨rfl, rfl, rfl, by decide +kernel, rfl, by decide +kernel, by decide +kernel⟩
theorem sc_spots : FnScope ["function"] ["function"] (defScope (top 18)) := ⟨rfl, rfl, rfl, by decide +kernel, rfl, by decide +kernel, by decide +kernel⟩
theorem sc_is_function : FnScope ["thing", "name"] ["thing"] (defScope (top 19)) := ⟨rfl, rfl, rfl, by decide +kernel, rfl, by decide +kernel, by decide +kernel⟩
theorem sc_is_program : FnScope ["thing", "sizes", "calls", "function", "spot", "one", "other"] ["thing"] (defScope (top 20)) := ⟨rfl, rfl, rfl, by decide +kernel, rfl, by decide +kernel, by decide +kernel⟩
theorem sc_parted : FnScope ["one", "other", "left", "right", "names", "function", "name"] ["one", "other"] (defScope (top 22)) := ⟨rfl, rfl, rfl, by decide +kernel, rfl, by decide +kernel, by decide +kernel⟩
theorem sc_l_deck : FnScope ["cell", "turn"] ["cell", "turn"] (defScope (top 24)) := ⟨rfl, rfl, rfl, by decide +kernel, rfl, by decide +kernel, by decide +kernel⟩
theorem sc_l_pick : FnScope ["deck", "many", "number", "found"] ["deck", "many"] (defScope (top 25)) := ⟨rfl, rfl, rfl, by decide +kernel, rfl, by decide +kernel, by decide +kernel⟩
theorem sc_l_signs : FnScope [] [] (defScope (top 26)) := ⟨rfl, rfl, rfl, by decide +kernel, rfl, by decide +kernel, by decide +kernel⟩
theorem sc_l_leaf : FnScope ["deck", "kind", "scope", "some", "name", "one", "k"] ["deck", "kind", "scope"] (defScope (top 27)) := ⟨rfl, rfl, rfl, by decide +kernel, rfl, by decide +kernel, by decide +kernel⟩
theorem sc_l_done_of : FnScope ["deck", "kind", "scope", "calls", "deep", "words", "word", "kinds", "inner", "one"] ["deck", "kind", "scope", "calls", "deep"] (defScope (top 28)) := ⟨rfl, rfl, rfl, by decide +kernel, rfl, by decide +kernel, by decide +kernel⟩
theorem sc_l_tree : FnScope ["deck", "kind", "scope", "calls", "deep", "way", "some", "parts", "other", "name", "first", "inner", "args", "one", "pair"] ["deck", "kind", "scope", "calls", "deep"] (defScope (top 29)) := ⟨rfl, rfl, rfl, by decide +kernel, rfl, by decide +kernel, by decide +kernel⟩
theorem sc_l_program : FnScope ["deck", "found", "at", "name", "calls", "scope", "body", "kinds", "told"] ["deck"] (defScope (top 30)) := ⟨rfl, rfl, rfl, by decide +kernel, rfl, by decide +kernel, by decide +kernel⟩
theorem sc_l_sort : FnScope ["thing"] ["thing"] (defScope (top 31)) := ⟨rfl, rfl, rfl, by decide +kernel, rfl, by decide +kernel, by decide +kernel⟩
theorem sc_l_same : FnScope ["told", "due", "k", "part"] ["told", "due"] (defScope (top 32)) := ⟨rfl, rfl, rfl, by decide +kernel, rfl, by decide +kernel, by decide +kernel⟩
theorem sc_l_one : FnScope ["deck", "some"] ["deck", "some"] (defScope (top 33)) := ⟨rfl, rfl, rfl, by decide +kernel, rfl, by decide +kernel, by decide +kernel⟩
theorem sc_l_tree_spots : FnScope ["expression", "inside", "found", "part"] ["expression"] (defScope (top 34)) := ⟨rfl, rfl, rfl, by decide +kernel, rfl, by decide +kernel, by decide +kernel⟩
theorem sc_l_others_of : FnScope ["expression", "head", "others", "found", "other", "turned", "args", "word"] ["expression"] (defScope (top 35)) := ⟨rfl, rfl, rfl, by decide +kernel, rfl, by decide +kernel, by decide +kernel⟩
theorem sc_l_bends : FnScope ["code", "found", "name", "names", "body", "place", "expression", "k"] ["code"] (defScope (top 36)) := ⟨rfl, rfl, rfl, by decide +kernel, rfl, by decide +kernel, by decide +kernel⟩
theorem sc_l_put_at : FnScope ["expression", "place", "other", "start", "inside", "found", "at", "part", "size"] ["expression", "place", "other"] (defScope (top 37)) := ⟨rfl, rfl, rfl, by decide +kernel, rfl, by decide +kernel, by decide +kernel⟩
theorem sc_l_bent : FnScope ["code", "bend", "found", "name", "names", "body", "other"] ["code", "bend"] (defScope (top 38)) := ⟨rfl, rfl, rfl, by decide +kernel, rfl, by decide +kernel, by decide +kernel⟩
theorem sc_l_other_code : FnScope ["deck", "code", "way", "every", "k"] ["deck", "code"] (defScope (top 39)) := ⟨rfl, rfl, rfl, by decide +kernel, rfl, by decide +kernel, by decide +kernel⟩
theorem sc_law : FnScope ["script", "cell", "deck", "one", "other", "due", "name", "told", "left", "right", "part"] ["script"] (defScope (top 40)) := ⟨rfl, rfl, rfl, by decide +kernel, rfl, by decide +kernel, by decide +kernel⟩
def zs : List Str := ["all", "bool", "enumerate", "int", "isinstance", "len", "list", "range", "set", "sorted", "str", "tuple", "zip"]
/-- what the top has written -/
structure Tops (w : World) (K : PySem.W.Frag) (mg : Str → Option Value) : Prop where
  c_COUNTS : ∃ a, mg "COUNTS" = some (.ref a) ∧ KDi K w a k_COUNTS
  c_KEPT : ∃ a, mg "KEPT" = some (.ref a) ∧ KTx K a k_KEPT
  c_LETTERS : ∃ t, mg "LETTERS" = some (.str "abcdefghijklmnopqrstuvwxyz" t)
  c_MOST_DEEP : ∃ t, mg "MOST_DEEP" = some (.int 8 t)
  c_MOST_FUNCTIONS : ∃ t, mg "MOST_FUNCTIONS" = some (.int 12 t)
  c_MOST_PARAMETERS : ∃ t, mg "MOST_PARAMETERS" = some (.int 4 t)
  c_MOST_ROW : ∃ t, mg "MOST_ROW" = some (.int 6 t)
  c_MOST_SPOTS : ∃ t, mg "MOST_SPOTS" = some (.int 60 t)
  c_SMALL : ∃ t, mg "SMALL" = some (.int 1000 t)
  c_WORDS : ∃ a, mg "WORDS" = some (.ref a) ∧ KTx K a k_WORDS
section
variable {P : Program} {w : World} {K : PySem.W.Frag} {mg : Str → Option Value} {base : Heap} {ct : Nat → Addr} {ad : Fn → Addr} {fd : Fn → FuncData} {n : Nat}
abbrev All (P : Program) (w : World) (K : PySem.W.Frag) (mg : Str → Option Value) (base : Heap) (ct : Nat → Addr) (ad : Fn → Addr) (fd : Fn → FuncData) (n : Nat) : Prop := ∀ f, FnOk P w K mg base CX0 n (ad f) (fd f) (ps f) (spOf ⟨K, ct⟩ (callT n f) (ar f))
theorem t_is_from (T : Tops w K mg) (W : Defs Fn K mg nm st ps ad fd zs) (A : All P w K mg base ct ad fd n) (cdv : Value) (B : Around) (outer : List Env) (s : Shared) (H : Hp) (E : XK) (hr : Room n (B.deeper (PyProof.Rows.envOfC "is_from" (defScope (top 5)) s.heap.objs.size (ad .is_from) cdv))) :
    PSs (cxOf CX0 P w K mg base ["thing", "low", "high"] "is_from" (defScope (top 5)) (ad .is_from) cdv B outer s H E).nox (defBody (top 5)) (tS ⟨K, ct⟩ E0 (b_is_from (callT n))) :=
  (qs_one (q_ret (q_and (q_callB call_isi o_isi (by rfl) (W.z _ (by decide)) PyProof.Rows.boot_isinstance (qa_cons (qv 0) (qa_cons (q_ty (by rfl) (W.z _ (by decide)) PyProof.Rows.boot_int) qa_nil))) (q_and (q_not (q_callB call_isi o_isi (by rfl) (W.z _ (by decide)) PyProof.Rows.boot_isinstance (qa_cons (qv 0) (qa_cons (q_ty (by rfl) (W.z _ (by decide)) PyProof.Rows.boot_bool) qa_nil)))) (q_one (q_two op_le o_le op_le o_le (qv 1) (qv 0) (qv 2)))))))
theorem ok_is_from (T : Tops w K mg) (W : Defs Fn K mg nm st ps ad fd zs) (A : All P w K mg base ct ad fd n) : FnOk P w K mg base CX0 (n + 1) (ad .is_from) (fd .is_from) ["thing", "low", "high"] (spOf ⟨K, ct⟩ (callT (n + 1) .is_from) 3) := by
  have F : Fun K "is_from" "is_from" (top 5) (ad .is_from) (fd .is_from) := W.F .is_from
  have e : callT (n + 1) .is_from = fun ds S => noX (runB 3 (b_is_from (callT n)) ds S) := rfl
  rw [e]
  exact fn_sim0 (N := ["thing", "low", "high"]) (st := top 5) (x := "is_from") (qual := "is_from") (ps := ["thing", "low", "high"]) (b := b_is_from (callT n)) F sc_is_from fun cdv B outer s H E hr => t_is_from T W A cdv B outer s H E hr
theorem t_is_name (T : Tops w K mg) (W : Defs Fn K mg nm st ps ad fd zs) (A : All P w K mg base ct ad fd n) (cdv : Value) (B : Around) (outer : List Env) (s : Shared) (H : Hp) (E : XK) (hr : Room n (B.deeper (PyProof.Rows.envOfC "is_name" (defScope (top 6)) s.heap.objs.size (ad .is_name) cdv))) :
    PSs (cxOf CX0 P w K mg base ["thing", "sign"] "is_name" (defScope (top 6)) (ad .is_name) cdv B outer s H E).nox (defBody (top 6)) (tS ⟨K, ct⟩ E0 (b_is_name (callT n))) :=
  (qs_cons (q_if (qt_w (qw_or (qt_not (qt_val (q_callB call_isi o_isi (by rfl) (W.z _ (by decide)) PyProof.Rows.boot_isinstance (qa_cons (qv 0) (qa_cons (q_ty (by rfl) (W.z _ (by decide)) PyProof.Rows.boot_str) qa_nil))))) (qw_or (qt_not (qt_two op_le o_le op_le o_le q_int (q_callB call_lenA o_len (by rfl) (W.z _ (by decide)) PySem.boot_len (qa_cons (qv 0) qa_nil)) q_int)) (qw_or (qt_cmp (op_inX hr) o_inX (qv 0) (q_gtupE (by rfl) T.c_WORDS) rfl) (qw_or1 (qt_cmp (op_inX hr) o_inX (qv 0) (q_gtupE (by rfl) T.c_KEPT) rfl)))))) (qs_one (q_ret q_bl)) qs_nil)
  (qs_one (q_ret (q_callB (cr_all rfl) o_all (by rfl) (W.z _ (by decide)) PyProof.Rows.boot_all (qa_cons (q_lc rfl sc_is_name.nd (qi_seq (qv 0)) (blkOk_by (own := [("sign", 1)]) (by kernel_rfl)) (fun _ _ _ _ _ => (gv 1 sc_is_name.nd)) (fun _ _ _ _ _ => qts_nil) (fun _ _ _ _ _ => (q_cmp (op_inX hr) o_inX (qv 1) (q_gstrE (by rfl) T.c_LETTERS) rfl))) qa_nil)))))
theorem ok_is_name (T : Tops w K mg) (W : Defs Fn K mg nm st ps ad fd zs) (A : All P w K mg base ct ad fd n) : FnOk P w K mg base CX0 (n + 1) (ad .is_name) (fd .is_name) ["thing"] (spOf ⟨K, ct⟩ (callT (n + 1) .is_name) 1) := by
  have F : Fun K "is_name" "is_name" (top 6) (ad .is_name) (fd .is_name) := W.F .is_name
  have e : callT (n + 1) .is_name = fun ds S => noX (runB 2 (b_is_name (callT n)) ds S) := rfl
  rw [e]
  exact fn_sim0 (N := ["thing", "sign"]) (st := top 6) (x := "is_name") (qual := "is_name") (ps := ["thing"]) (b := b_is_name (callT n)) F sc_is_name fun cdv B outer s H E hr => t_is_name T W A cdv B outer s H E hr
theorem t_straight (T : Tops w K mg) (W : Defs Fn K mg nm st ps ad fd zs) (A : All P w K mg base ct ad fd n) (cdv : Value) (B : Around) (outer : List Env) (s : Shared) (H : Hp) (E : XK) (hr : Room n (B.deeper (PyProof.Rows.envOfC "straight" (defScope (top 14)) s.heap.objs.size (ad .straight) cdv))) :
    PSs (cxOf CX0 P w K mg base ["expression", "head"] "straight" (defScope (top 14)) (ad .straight) cdv B outer s H E).nox (defBody (top 14)) (tS ⟨K, ct⟩ E0 (b_straight (callT n))) :=
  (qs_cons (sv 1 sc_straight.nd (q_ix (u1 hr) (qv 0) q_int))
  (qs_cons (q_if (qt_cmp (op_eq.or (op_eqD hr.units)) o_eq (qv 1) q_str (nomark _)) (qs_one (q_ret (q_callTy call_list_of o_list (by rfl) (W.z _ (by decide)) PyProof.Rows.boot_list (qa_cons (q_sl (qv 0) (qo_some q_int) qo_none) qa_nil)))) qs_nil)
  (qs_cons (q_if (qt_cmp (op_eq.or (op_eqD hr.units)) o_eq (qv 1) q_str (nomark _)) (qs_one (q_ret (q_callTy call_list_of o_list (by rfl) (W.z _ (by decide)) PyProof.Rows.boot_list (qa_cons (q_sl (qv 0) (qo_some q_int) qo_none) qa_nil)))) qs_nil)
  (qs_one (q_ret (q_ifE (qt_cmp (op_inX hr) o_inX (qv 1) (q_tup (qa_cons q_str (qa_cons q_str qa_nil))) rfl) (q_callTy call_list_of o_list (by rfl) (W.z _ (by decide)) PyProof.Rows.boot_list (qa_cons (q_ix (u1 hr) (qv 0) q_int) qa_nil)) (q_lst qa_nil)))))))
theorem ok_straight (T : Tops w K mg) (W : Defs Fn K mg nm st ps ad fd zs) (A : All P w K mg base ct ad fd n) : FnOk P w K mg base CX0 (n + 1) (ad .straight) (fd .straight) ["expression"] (spOf ⟨K, ct⟩ (callT (n + 1) .straight) 1) := by
  have F : Fun K "straight" "straight" (top 14) (ad .straight) (fd .straight) := W.F .straight
  have e : callT (n + 1) .straight = fun ds S => noX (runB 2 (b_straight (callT n)) ds S) := rfl
  rw [e]
  exact fn_sim0 (N := ["expression", "head"]) (st := top 14) (x := "straight") (qual := "straight") (ps := ["expression"]) (b := b_straight (callT n)) F sc_straight fun cdv B outer s H E hr => t_straight T W A cdv B outer s H E hr
theorem t_are_good (T : Tops w K mg) (W : Defs Fn K mg nm st ps ad fd zs) (A : All P w K mg base ct ad fd n) (cdv : Value) (B : Around) (outer : List Env) (s : Shared) (H : Hp) (E : XK) (hr : Room n (B.deeper (PyProof.Rows.envOfC "are_good" (defScope (top 15)) s.heap.objs.size (ad .are_good) cdv))) :
    PSs (cxOf CX0 P w K mg base ["things", "names", "deep", "thing"] "are_good" (defScope (top 15)) (ad .are_good) cdv B outer s H E).nox (defBody (top 15)) (tS ⟨K, ct⟩ E0 (b_are_good (callT n))) :=
  (qs_one (q_ret (q_callB (cr_all rfl) o_all (by rfl) (W.z _ (by decide)) PyProof.Rows.boot_all (qa_cons (q_lc rfl sc_are_good.nd (qi_seq (qv 0)) (blkOk_by (own := [("thing", 3)]) (by kernel_rfl)) (fun _ _ _ _ _ => (gv 3 sc_are_good.nd)) (fun _ _ _ _ _ => qts_nil) (fun _ _ _ _ _ => (q_call (A .is_expression) hr (by rfl) (W.m .is_expression) (W.F .is_expression).kp (W.b .is_expression) pass0 (qa_cons (qv 3) (qa_cons (qv 1) (qa_cons (qv 2) qa_nil)))))) qa_nil))))
theorem ok_are_good (T : Tops w K mg) (W : Defs Fn K mg nm st ps ad fd zs) (A : All P w K mg base ct ad fd n) : FnOk P w K mg base CX0 (n + 1) (ad .are_good) (fd .are_good) ["things", "names", "deep"] (spOf ⟨K, ct⟩ (callT (n + 1) .are_good) 3) := by
  have F : Fun K "are_good" "are_good" (top 15) (ad .are_good) (fd .are_good) := W.F .are_good
  have e : callT (n + 1) .are_good = fun ds S => noX (runB 4 (b_are_good (callT n)) ds S) := rfl
  rw [e]
  exact fn_sim0 (N := ["things", "names", "deep", "thing"]) (st := top 15) (x := "are_good") (qual := "are_good") (ps := ["things", "names", "deep"]) (b := b_are_good (callT n)) F sc_are_good fun cdv B outer s H E hr => t_are_good T W A cdv B outer s H E hr
theorem t_is_expression (T : Tops w K mg) (W : Defs Fn K mg nm st ps ad fd zs) (A : All P w K mg base ct ad fd n) (cdv : Value) (B : Around) (outer : List Env) (s : Shared) (H : Hp) (E : XK) (hr : Room n (B.deeper (PyProof.Rows.envOfC "is_expression" (defScope (top 16)) s.heap.objs.size (ad .is_expression) cdv))) :
    PSs (cxOf CX0 P w K mg base ["thing", "names", "deep", "head", "good", "parts", "part"] "is_expression" (defScope (top 16)) (ad .is_expression) cdv B outer s H E).nox (defBody (top 16)) (tS ⟨K, ct⟩ E0 (b_is_expression (callT n))) :=
  (qs_cons (q_if (qt_w (qw_or (qt_cmp (op_eq.or (op_eqD hr.units)) o_eq (qv 2) q_int (nomark _)) (qw_or (qt_not (qt_val (q_callB call_isi o_isi (by rfl) (W.z _ (by decide)) PyProof.Rows.boot_isinstance (qa_cons (qv 0) (qa_cons (q_ty (by rfl) (W.z _ (by decide)) PyProof.Rows.boot_tuple) qa_nil))))) (qw_or (qt_cmp (op_eq.or (op_eqD hr.units)) o_eq (qv 0) (q_tup qa_nil) (nomark _)) (qw_or1 (qt_not (qt_val (q_callB call_isi o_isi (by rfl) (W.z _ (by decide)) PyProof.Rows.boot_isinstance (qa_cons (q_ix (u1 hr) (qv 0) q_int) (qa_cons (q_ty (by rfl) (W.z _ (by decide)) PyProof.Rows.boot_str) qa_nil)))))))))) (qs_one (q_ret q_bl)) qs_nil)
  (qs_cons (q_asg (own := [3, 5]) (qv 0) (qg_star rfl (qgs_cons (gv 3 sc_is_expression.nd) (qgs_star (gv 5 sc_is_expression.nd) qgs_nil))))
  (qs_cons (q_if (qt_cmp (op_eq.or (op_eqD hr.units)) o_eq (qv 3) q_str (nomark _)) (qs_one (q_ret (q_and (q_cmp (op_eq.or (op_eqD hr.units)) o_eq (q_callB call_lenA o_len (by rfl) (W.z _ (by decide)) PySem.boot_len (qa_cons (qv 5) qa_nil)) q_int (nomark _)) (q_one (q_call (A .is_from) hr (by rfl) (W.m .is_from) (W.F .is_from).kp (W.b .is_from) pass0 (qa_cons (q_ix (u1 hr) (qv 5) q_int) (qa_cons (q_neg (q_gintE (by rfl) T.c_SMALL)) (qa_cons (q_gintE (by rfl) T.c_SMALL) qa_nil)))))))) qs_nil)
  (qs_cons (q_if (qt_cmp (op_eq.or (op_eqD hr.units)) o_eq (qv 3) q_str (nomark _)) (qs_one (q_ret (q_and (q_cmp (op_eq.or (op_eqD hr.units)) o_eq (q_callB call_lenA o_len (by rfl) (W.z _ (by decide)) PySem.boot_len (qa_cons (qv 5) qa_nil)) q_int (nomark _)) (q_one (q_callB call_isi o_isi (by rfl) (W.z _ (by decide)) PyProof.Rows.boot_isinstance (qa_cons (q_ix (u1 hr) (qv 5) q_int) (qa_cons (q_ty (by rfl) (W.z _ (by decide)) PyProof.Rows.boot_bool) qa_nil))))))) qs_nil)
  (qs_cons (q_if (qt_cmp (op_eq.or (op_eqD hr.units)) o_eq (qv 3) q_str (nomark _)) (qs_cons (sv 4 sc_is_expression.nd (q_and (q_cmp (op_eq.or (op_eqD hr.units)) o_eq (q_callB call_lenA o_len (by rfl) (W.z _ (by decide)) PySem.boot_len (qa_cons (qv 5) qa_nil)) q_int (nomark _)) (q_and (q_callB call_isi o_isi (by rfl) (W.z _ (by decide)) PyProof.Rows.boot_isinstance (qa_cons (q_ix (u1 hr) (qv 5) q_int) (qa_cons (q_ty (by rfl) (W.z _ (by decide)) PyProof.Rows.boot_tuple) qa_nil))) (q_one (q_cmp op_le o_le (q_callB call_lenA o_len (by rfl) (W.z _ (by decide)) PySem.boot_len (qa_cons (q_ix (u1 hr) (qv 5) q_int) qa_nil)) (q_gintE (by rfl) T.c_MOST_ROW) (nomark _))))))
  (qs_one (q_ret (q_and (qv 4) (q_one (q_callB (cr_all rfl) o_all (by rfl) (W.z _ (by decide)) PyProof.Rows.boot_all (qa_cons (q_lc rfl sc_is_expression.nd (qi_seq (q_ix (u1 hr) (qv 5) q_int)) (blkOk_by (own := [("part", 6)]) (by kernel_rfl)) (fun _ _ _ _ _ => (gv 6 sc_is_expression.nd)) (fun _ _ _ _ _ => qts_nil) (fun _ _ _ _ _ => (q_call (A .is_from) hr (by rfl) (W.m .is_from) (W.F .is_from).kp (W.b .is_from) pass0 (qa_cons (qv 6) (qa_cons (q_neg (q_gintE (by rfl) T.c_SMALL)) (qa_cons (q_gintE (by rfl) T.c_SMALL) qa_nil)))))) qa_nil))))))) qs_nil)
  (qs_cons (q_if (qt_cmp (op_eq.or (op_eqD hr.units)) o_eq (qv 3) q_str (nomark _)) (qs_one (q_ret (q_and (q_cmp (op_eq.or (op_eqD hr.units)) o_eq (q_callB call_lenA o_len (by rfl) (W.z _ (by decide)) PySem.boot_len (qa_cons (qv 5) qa_nil)) q_int (nomark _)) (q_and (q_callB call_isi o_isi (by rfl) (W.z _ (by decide)) PyProof.Rows.boot_isinstance (qa_cons (q_ix (u1 hr) (qv 5) q_int) (qa_cons (q_ty (by rfl) (W.z _ (by decide)) PyProof.Rows.boot_str) qa_nil))) (q_one (q_cmp (op_inX hr) o_inX (q_ix (u1 hr) (qv 5) q_int) (qv 1) rfl)))))) qs_nil)
  (qs_cons (q_if (qt_cmp (op_eq.or (op_eqD hr.units)) o_eq (qv 3) q_str (nomark _)) (qs_one (q_ret (q_and (q_cmp (op_eq.or (op_eqD hr.units)) o_eq (q_callB call_lenA o_len (by rfl) (W.z _ (by decide)) PySem.boot_len (qa_cons (qv 5) qa_nil)) q_int (nomark _)) (q_one (q_call (A .are_good) hr (by rfl) (W.m .are_good) (W.F .are_good).kp (W.b .are_good) pass0 (qa_cons (qv 5) (qa_cons (qv 1) (qa_cons (q_sub (qv 2) q_int) qa_nil)))))))) qs_nil)
  (qs_cons (q_if (qt_cmp (op_eq.or (op_eqD hr.units)) o_eq (qv 3) q_str (nomark _)) (qs_cons (q_if (qt_w (qw_or (qt_cmp (op_ne.or (op_neD hr.units)) o_ne (q_callB call_lenA o_len (by rfl) (W.z _ (by decide)) PySem.boot_len (qa_cons (qv 5) qa_nil)) q_int (nomark _)) (qw_or (qt_not (qt_val (q_call (A .is_name) hr (by rfl) (W.m .is_name) (W.F .is_name).kp (W.b .is_name) pass0 (qa_cons (q_ix (u1 hr) (qv 5) q_int) qa_nil)))) (qw_or1 (qt_not (qt_val (q_call (A .is_expression) hr (by rfl) (W.m .is_expression) (W.F .is_expression).kp (W.b .is_expression) pass0 (qa_cons (q_ix (u1 hr) (qv 5) q_int) (qa_cons (qv 1) (qa_cons (q_sub (qv 2) q_int) qa_nil)))))))))) (qs_one (q_ret q_bl)) qs_nil)
  (qs_one (q_ret (q_call (A .is_expression) hr (by rfl) (W.m .is_expression) (W.F .is_expression).kp (W.b .is_expression) pass0 (qa_cons (q_ix (u1 hr) (qv 5) q_int) (qa_cons (q_add (qv 1) (q_tup (qa_cons (q_ix (u1 hr) (qv 5) q_int) qa_nil))) (qa_cons (q_sub (qv 2) q_int) qa_nil))))))) qs_nil)
  (qs_cons (q_if (qt_w (qw_or (qt_cmp (op_ninX hr) o_ninX (qv 3) (q_tup (qa_cons q_str (qa_cons q_str qa_nil))) rfl) (qw_or (qt_cmp (op_ne.or (op_neD hr.units)) o_ne (q_callB call_lenA o_len (by rfl) (W.z _ (by decide)) PySem.boot_len (qa_cons (qv 5) qa_nil)) q_int (nomark _)) (qw_or1 (qt_not (qt_val (q_callB call_isi o_isi (by rfl) (W.z _ (by decide)) PyProof.Rows.boot_isinstance (qa_cons (q_ix (u1 hr) (qv 5) q_int) (qa_cons (q_ty (by rfl) (W.z _ (by decide)) PyProof.Rows.boot_tuple) qa_nil))))))))) (qs_one (q_ret q_bl)) qs_nil)
  (qs_cons (q_if (qt_cmp (op_eq.or (op_eqD hr.units)) o_eq (qv 3) q_str (nomark _)) (qs_one (sv 4 sc_is_expression.nd (q_and (q_callB call_isi o_isi (by rfl) (W.z _ (by decide)) PyProof.Rows.boot_isinstance (qa_cons (q_ix (u1 hr) (qv 5) q_int) (qa_cons (q_ty (by rfl) (W.z _ (by decide)) PyProof.Rows.boot_str) qa_nil))) (q_one (q_cmp (op_eq.or (op_eqD hr.units)) o_eq (q_kgetE (by rfl) T.c_COUNTS (q_ix (u1 hr) (qv 5) q_int) (q_neg q_int)) (q_callB call_lenA o_len (by rfl) (W.z _ (by decide)) PySem.boot_len (qa_cons (q_ix (u1 hr) (qv 5) q_int) qa_nil)) (nomark _)))))) (qs_one (sv 4 sc_is_expression.nd (q_and (q_call (A .is_name) hr (by rfl) (W.m .is_name) (W.F .is_name).kp (W.b .is_name) pass0 (qa_cons (q_ix (u1 hr) (qv 5) q_int) qa_nil)) (q_one (q_cmp op_le o_le (q_callB call_lenA o_len (by rfl) (W.z _ (by decide)) PySem.boot_len (qa_cons (q_ix (u1 hr) (qv 5) q_int) qa_nil)) (q_gintE (by rfl) T.c_MOST_PARAMETERS) (nomark _)))))))
  (qs_one (q_ret (q_and (qv 4) (q_one (q_call (A .are_good) hr (by rfl) (W.m .are_good) (W.F .are_good).kp (W.b .are_good) pass0 (qa_cons (q_ix (u1 hr) (qv 5) q_int) (qa_cons (qv 1) (qa_cons (q_sub (qv 2) q_int) qa_nil))))))))))))))))))
theorem ok_is_expression (T : Tops w K mg) (W : Defs Fn K mg nm st ps ad fd zs) (A : All P w K mg base ct ad fd n) : FnOk P w K mg base CX0 (n + 1) (ad .is_expression) (fd .is_expression) ["thing", "names", "deep"] (spOf ⟨K, ct⟩ (callT (n + 1) .is_expression) 3) := by
  have F : Fun K "is_expression" "is_expression" (top 16) (ad .is_expression) (fd .is_expression) := W.F .is_expression
  have e : callT (n + 1) .is_expression = fun ds S => noX (runB 7 (b_is_expression (callT n)) ds S) := rfl
  rw [e]
  exact fn_sim0 (N := ["thing", "names", "deep", "head", "good", "parts", "part"]) (st := top 16) (x := "is_expression") (qual := "is_expression") (ps := ["thing", "names", "deep"]) (b := b_is_expression (callT n)) F sc_is_expression fun cdv B outer s H E hr => t_is_expression T W A cdv B outer s H E hr
theorem t_spots_from (T : Tops w K mg) (W : Defs Fn K mg nm st ps ad fd zs) (A : All P w K mg base ct ad fd n) (cdv : Value) (B : Around) (outer : List Env) (s : Shared) (H : Hp) (E : XK) (hr : Room n (B.deeper (PyProof.Rows.envOfC "spots_from" (defScope (top 17)) s.heap.objs.size (ad .spots_from) cdv))) :
    PSs (cxOf CX0 P w K mg base ["expression", "found", "part"] "spots_from" (defScope (top 17)) (ad .spots_from) cdv B outer s H E).nox (defBody (top 17)) (tS ⟨K, ct⟩ E0 (b_spots_from (callT n))) :=
  (qs_cons (sv 1 sc_spots_from.nd (q_lst (qa_cons (qv 0) qa_nil)))
  (qs_cons (q_for (own := [2]) PassesOwn.never rfl (qi_seq (q_call (A .straight) hr (by rfl) (W.m .straight) (W.F .straight).kp (W.b .straight) pass0 (qa_cons (qv 0) qa_nil))) (gv 2 sc_spots_from.nd) (qs_one (q_drop (q_bm PySem.F.plainAttrs_list PySem.F.slot_list_extend PySem.F.type_list_extend mt_extend o_ext (qv 1) (qa_cons (q_call (A .spots_from) hr (by rfl) (W.m .spots_from) (W.F .spots_from).kp (W.b .spots_from) pass0 (qa_cons (qv 2) qa_nil)) qa_nil)))))
  (qs_one (q_ret (qv 1)))))
theorem ok_spots_from (T : Tops w K mg) (W : Defs Fn K mg nm st ps ad fd zs) (A : All P w K mg base ct ad fd n) : FnOk P w K mg base CX0 (n + 1) (ad .spots_from) (fd .spots_from) ["expression"] (spOf ⟨K, ct⟩ (callT (n + 1) .spots_from) 1) := by
  have F : Fun K "spots_from" "spots_from" (top 17) (ad .spots_from) (fd .spots_from) := W.F .spots_from
  have e : callT (n + 1) .spots_from = fun ds S => noX (runB 3 (b_spots_from (callT n)) ds S) := rfl
  rw [e]
  exact fn_sim0 (N := ["expression", "found", "part"]) (st := top 17) (x := "spots_from") (qual := "spots_from") (ps := ["expression"]) (b := b_spots_from (callT n)) F sc_spots_from fun cdv B outer s H E hr => t_spots_from T W A cdv B outer s H E hr
theorem t_spots (T : Tops w K mg) (W : Defs Fn K mg nm st ps ad fd zs) (A : All P w K mg base ct ad fd n) (cdv : Value) (B : Around) (outer : List Env) (s : Shared) (H : Hp) (E : XK) (hr : Room n (B.deeper (PyProof.Rows.envOfC "spots" (defScope (top 18)) s.heap.objs.size (ad .spots) cdv))) :
    PSs (cxOf CX0 P w K mg base ["function"] "spots" (defScope (top 18)) (ad .spots) cdv B outer s H E).nox (defBody (top 18)) (tS ⟨K, ct⟩ E0 (b_spots (callT n))) :=
  (qs_one (q_ret (q_call (A .spots_from) hr (by rfl) (W.m .spots_from) (W.F .spots_from).kp (W.b .spots_from) pass0 (qa_cons (q_ix (u1 hr) (qv 0) q_int) qa_nil))))
theorem ok_spots (T : Tops w K mg) (W : Defs Fn K mg nm st ps ad fd zs) (A : All P w K mg base ct ad fd n) : FnOk P w K mg base CX0 (n + 1) (ad .spots) (fd .spots) ["function"] (spOf ⟨K, ct⟩ (callT (n + 1) .spots) 1) := by
  have F : Fun K "spots" "spots" (top 18) (ad .spots) (fd .spots) := W.F .spots
  have e : callT (n + 1) .spots = fun ds S => noX (runB 1 (b_spots (callT n)) ds S) := rfl
  rw [e]
  exact fn_sim0 (N := ["function"]) (st := top 18) (x := "spots") (qual := "spots") (ps := ["function"]) (b := b_spots (callT n)) F sc_spots fun cdv B outer s H E hr => t_spots T W A cdv B outer s H E hr
theorem t_is_function (T : Tops w K mg) (W : Defs Fn K mg nm st ps ad fd zs) (A : All P w K mg base ct ad fd n) (cdv : Value) (B : Around) (outer : List Env) (s : Shared) (H : Hp) (E : XK) (hr : Room n (B.deeper (PyProof.Rows.envOfC "is_function" (defScope (top 19)) s.heap.objs.size (ad .is_function) cdv))) :
    PSs (cxOf CX0 P w K mg base ["thing", "name"] "is_function" (defScope (top 19)) (ad .is_function) cdv B outer s H E).nox (defBody (top 19)) (tS ⟨K, ct⟩ E0 (b_is_function (callT n))) :=
  (qs_cons (q_if (qt_w (qw_or (qt_not (qt_val (q_callB call_isi o_isi (by rfl) (W.z _ (by decide)) PyProof.Rows.boot_isinstance (qa_cons (qv 0) (qa_cons (q_ty (by rfl) (W.z _ (by decide)) PyProof.Rows.boot_tuple) qa_nil))))) (qw_or (qt_cmp (op_ne.or (op_neD hr.units)) o_ne (q_callB call_lenA o_len (by rfl) (W.z _ (by decide)) PySem.boot_len (qa_cons (qv 0) qa_nil)) q_int (nomark _)) (qw_or (qt_not (qt_val (q_call (A .is_name) hr (by rfl) (W.m .is_name) (W.F .is_name).kp (W.b .is_name) pass0 (qa_cons (q_ix (u1 hr) (qv 0) q_int) qa_nil)))) (qw_or1 (qt_not (qt_val (q_callB call_isi o_isi (by rfl) (W.z _ (by decide)) PyProof.Rows.boot_isinstance (qa_cons (q_ix (u1 hr) (qv 0) q_int) (qa_cons (q_ty (by rfl) (W.z _ (by decide)) PyProof.Rows.boot_tuple) qa_nil)))))))))) (qs_one (q_ret q_bl)) qs_nil)
  (qs_cons (q_if (qt_w (qw_or (qt_cmp op_gt o_gt (q_callB call_lenA o_len (by rfl) (W.z _ (by decide)) PySem.boot_len (qa_cons (q_ix (u1 hr) (qv 0) q_int) qa_nil)) (q_gintE (by rfl) T.c_MOST_PARAMETERS) (nomark _)) (qw_or1 (qt_not (qt_val (q_callB (cr_all rfl) o_all (by rfl) (W.z _ (by decide)) PyProof.Rows.boot_all (qa_cons (q_lc rfl sc_is_function.nd (qi_seq (q_ix (u1 hr) (qv 0) q_int)) (blkOk_by (own := [("name", 1)]) (by kernel_rfl)) (fun _ _ _ _ _ => (gv 1 sc_is_function.nd)) (fun _ _ _ _ _ => qts_nil) (fun _ _ _ _ _ => (q_call (A .is_name) hr (by rfl) (W.m .is_name) (W.F .is_name).kp (W.b .is_name) pass0 (qa_cons (qv 1) qa_nil)))) qa_nil))))))) (qs_one (q_ret q_bl)) qs_nil)
  (qs_cons (q_if (qt_w (qw_or (qt_cmp (op_ne.or (op_neD hr.units)) o_ne (q_lenSet (by rfl) (W.z _ (by decide)) (by rfl) (W.z _ (by decide)) (q_ix (u1 hr) (qv 0) q_int)) (q_callB call_lenA o_len (by rfl) (W.z _ (by decide)) PySem.boot_len (qa_cons (q_ix (u1 hr) (qv 0) q_int) qa_nil)) (nomark _)) (qw_or1 (qt_not (qt_val (q_call (A .is_expression) hr (by rfl) (W.m .is_expression) (W.F .is_expression).kp (W.b .is_expression) pass0 (qa_cons (q_ix (u1 hr) (qv 0) q_int) (qa_cons (q_ix (u1 hr) (qv 0) q_int) (qa_cons (q_gintE (by rfl) T.c_MOST_DEEP) qa_nil))))))))) (qs_one (q_ret q_bl)) qs_nil)
  (qs_one (q_ret (q_cmp op_le o_le (q_callB call_lenA o_len (by rfl) (W.z _ (by decide)) PySem.boot_len (qa_cons (q_call (A .spots) hr (by rfl) (W.m .spots) (W.F .spots).kp (W.b .spots) pass0 (qa_cons (qv 0) qa_nil)) qa_nil)) (q_gintE (by rfl) T.c_MOST_SPOTS) (nomark _)))))))
theorem ok_is_function (T : Tops w K mg) (W : Defs Fn K mg nm st ps ad fd zs) (A : All P w K mg base ct ad fd n) : FnOk P w K mg base CX0 (n + 1) (ad .is_function) (fd .is_function) ["thing"] (spOf ⟨K, ct⟩ (callT (n + 1) .is_function) 1) := by
  have F : Fun K "is_function" "is_function" (top 19) (ad .is_function) (fd .is_function) := W.F .is_function
  have e : callT (n + 1) .is_function = fun ds S => noX (runB 2 (b_is_function (callT n)) ds S) := rfl
  rw [e]
  exact fn_sim0 (N := ["thing", "name"]) (st := top 19) (x := "is_function") (qual := "is_function") (ps := ["thing"]) (b := b_is_function (callT n)) F sc_is_function fun cdv B outer s H E hr => t_is_function T W A cdv B outer s H E hr
theorem t_is_program (T : Tops w K mg) (W : Defs Fn K mg nm st ps ad fd zs) (A : All P w K mg base ct ad fd n) (cdv : Value) (B : Around) (outer : List Env) (s : Shared) (H : Hp) (E : XK) (hr : Room n (B.deeper (PyProof.Rows.envOfC "is_program" (defScope (top 20)) s.heap.objs.size (ad .is_program) cdv))) :
    PSs (cxOf CX0 P w K mg base ["thing", "sizes", "calls", "function", "spot", "one", "other"] "is_program" (defScope (top 20)) (ad .is_program) cdv B outer s H E).nox (defBody (top 20)) (tS ⟨K, ct⟩ E0 (b_is_program (callT n))) :=
  (qs_cons (q_if (qt_w (qw_or (qt_not (qt_val (q_callB call_isi o_isi (by rfl) (W.z _ (by decide)) PyProof.Rows.boot_isinstance (qa_cons (qv 0) (qa_cons (q_ty (by rfl) (W.z _ (by decide)) PyProof.Rows.boot_tuple) qa_nil))))) (qw_or (qt_cmp op_gt o_gt (q_callB call_lenA o_len (by rfl) (W.z _ (by decide)) PySem.boot_len (qa_cons (qv 0) qa_nil)) (q_gintE (by rfl) T.c_MOST_FUNCTIONS) (nomark _)) (qw_or1 (qt_not (qt_val (q_callB (cr_all rfl) o_all (by rfl) (W.z _ (by decide)) PyProof.Rows.boot_all (qa_cons (q_lc rfl sc_is_program.nd (qi_seq (qv 0)) (blkOk_by (own := [("one", 5)]) (by kernel_rfl)) (fun _ _ _ _ _ => (gv 5 sc_is_program.nd)) (fun _ _ _ _ _ => qts_nil) (fun _ _ _ _ _ => (q_call (A .is_function) hr (by rfl) (W.m .is_function) (W.F .is_function).kp (W.b .is_function) pass0 (qa_cons (qv 5) qa_nil)))) qa_nil)))))))) (qs_one (q_ret q_bl)) qs_nil)
  (qs_cons (q_if (qt_not (qt_val (q_callB (cr_all rfl) o_all (by rfl) (W.z _ (by decide)) PyProof.Rows.boot_all (qa_cons (q_lc rfl sc_is_program.nd (qi_zipT (by rfl) (W.z _ (by decide)) (qa_cons (qv 0) (qa_cons (q_sl (qv 0) (qo_some q_int) qo_none) qa_nil))) (blkOk_by (own := [("one", 5), ("other", 6)]) (by kernel_rfl)) (fun _ _ _ _ _ => (qg_tup rfl (qgs_cons (gv 5 sc_is_program.nd) (qgs_cons (gv 6 sc_is_program.nd) qgs_nil)))) (fun _ _ _ _ _ => qts_nil) (fun _ _ _ _ _ => (q_cmp q_lt_op o_ltX (q_ix (u1 hr) (qv 5) q_int) (q_ix (u1 hr) (qv 6) q_int) (nomark _)))) qa_nil)))) (qs_one (q_ret q_bl)) qs_nil)
  (qs_cons (sv 1 sc_is_program.nd (q_dc rfl sc_is_program.nd (qi_seq (qv 0)) (blkOk_by (own := [("function", 3)]) (by kernel_rfl)) (fun _ _ _ _ _ => (gv 3 sc_is_program.nd)) (fun _ _ _ _ _ => qts_nil) (fun _ _ _ _ _ => (q_ix (u1 hr) (qv 3) q_int)) (fun _ _ _ _ _ => (q_callB call_lenA o_len (by rfl) (W.z _ (by decide)) PySem.boot_len (qa_cons (q_ix (u1 hr) (qv 3) q_int) qa_nil)))))
  (qs_cons (q_setLc2 (i := 2) (vs1 := [4]) rfl sc_is_program.nd rfl rfl (sw_true rfl rfl rfl rfl) (qi_seq (qv 0)) (blkOk_by (own := [("function", 3), ("spot", 4)]) (by kernel_rfl)) (by decide) (fun _ _ _ _ _ => (gv 3 sc_is_program.nd)) (fun _ _ _ _ _ => qts_nil) (fun _ _ _ _ _ => (qi_seq (q_call (A .spots) hr (by rfl) (W.m .spots) (W.F .spots).kp (W.b .spots) pass0 (qa_cons (qv 3) qa_nil)))) (fun _ _ _ _ _ => (gv 4 sc_is_program.nd)) (fun _ _ _ _ _ => (qts_one (qt_cmp (op_eq.or (op_eqD hr.units)) o_eq (q_ix (u1 hr) (qv 4) q_int) q_str (nomark _)))) (fun _ _ _ _ _ => (qv 4)))
  (qs_one (q_ret (q_callB (cr_all rfl) o_all (by rfl) (W.z _ (by decide)) PyProof.Rows.boot_all (qa_cons (q_lc rfl sc_is_program.nd (qi_seq (qv 2)) (blkOk_by (own := [("spot", 4)]) (by kernel_rfl)) (fun _ _ _ _ _ => (gv 4 sc_is_program.nd)) (fun _ _ _ _ _ => qts_nil) (fun _ _ _ _ _ => (q_cmp (op_eq.or (op_eqD hr.units)) o_eq (q_get2 (u1 hr) (qv 1) (q_ix (u1 hr) (qv 4) q_int) (q_neg q_int)) (q_callB call_lenA o_len (by rfl) (W.z _ (by decide)) PySem.boot_len (qa_cons (q_ix (u1 hr) (qv 4) q_int) qa_nil)) (nomark _)))) qa_nil))))))))
theorem ok_is_program (T : Tops w K mg) (W : Defs Fn K mg nm st ps ad fd zs) (A : All P w K mg base ct ad fd n) : FnOk P w K mg base CX0 (n + 1) (ad .is_program) (fd .is_program) ["thing"] (spOf ⟨K, ct⟩ (callT (n + 1) .is_program) 1) := by
  have F : Fun K "is_program" "is_program" (top 20) (ad .is_program) (fd .is_program) := W.F .is_program
  have e : callT (n + 1) .is_program = fun ds S => noX (runB 7 (b_is_program (callT n)) ds S) := rfl
  rw [e]
  exact fn_sim0 (N := ["thing", "sizes", "calls", "function", "spot", "one", "other"]) (st := top 20) (x := "is_program") (qual := "is_program") (ps := ["thing"]) (b := b_is_program (callT n)) F sc_is_program fun cdv B outer s H E hr => t_is_program T W A cdv B outer s H E hr
theorem t_parted (T : Tops w K mg) (W : Defs Fn K mg nm st ps ad fd zs) (A : All P w K mg base ct ad fd n) (cdv : Value) (B : Around) (outer : List Env) (s : Shared) (H : Hp) (E : XK) (hr : Room n (B.deeper (PyProof.Rows.envOfC "parted" (defScope (top 22)) s.heap.objs.size (ad .parted) cdv))) :
    PSs (cxOf CX0 P w K mg base ["one", "other", "left", "right", "names", "function", "name"] "parted" (defScope (top 22)) (ad .parted) cdv B outer s H E).nox (defBody (top 22)) (tS ⟨K, ct⟩ E0 (b_parted (callT n))) :=
  (qs_cons (sv 2 sc_parted.nd (q_dc rfl sc_parted.nd (qi_seq (qv 0)) (blkOk_by (own := [("function", 5)]) (by kernel_rfl)) (fun _ _ _ _ _ => (gv 5 sc_parted.nd)) (fun _ _ _ _ _ => qts_nil) (fun _ _ _ _ _ => (q_ix (u1 hr) (qv 5) q_int)) (fun _ _ _ _ _ => (qv 5))))
  (qs_cons (sv 3 sc_parted.nd (q_dc rfl sc_parted.nd (qi_seq (qv 1)) (blkOk_by (own := [("function", 5)]) (by kernel_rfl)) (fun _ _ _ _ _ => (gv 5 sc_parted.nd)) (fun _ _ _ _ _ => qts_nil) (fun _ _ _ _ _ => (q_ix (u1 hr) (qv 5) q_int)) (fun _ _ _ _ _ => (qv 5))))
  (qs_cons (sv 4 sc_parted.nd (q_sortSet (by rfl) (W.z _ (by decide)) (by rfl) (W.z _ (by decide)) (q_add (q_callTy (call_list_dK rfl) o_listD (by rfl) (W.z _ (by decide)) PyProof.Rows.boot_list (qa_cons (qv 2) qa_nil)) (q_callTy (call_list_dK rfl) o_listD (by rfl) (W.z _ (by decide)) PyProof.Rows.boot_list (qa_cons (qv 3) qa_nil)))))
  (qs_one (q_ret (q_lc rfl sc_parted.nd (qi_seq (qv 4)) (blkOk_by (own := [("name", 6)]) (by kernel_rfl)) (fun _ _ _ _ _ => (gv 6 sc_parted.nd)) (fun _ _ _ _ _ => (qts_one (qt_cmp (op_ne.or (op_neD hr.units)) o_ne (q_get2 (u1 hr) (qv 2) (qv 6) q_non) (q_get2 (u1 hr) (qv 3) (qv 6) q_non) (nomark _)))) (fun _ _ _ _ _ => (qv 6))))))))
theorem ok_parted (T : Tops w K mg) (W : Defs Fn K mg nm st ps ad fd zs) (A : All P w K mg base ct ad fd n) : FnOk P w K mg base CX0 (n + 1) (ad .parted) (fd .parted) ["one", "other"] (spOf ⟨K, ct⟩ (callT (n + 1) .parted) 2) := by
  have F : Fun K "parted" "parted" (top 22) (ad .parted) (fd .parted) := W.F .parted
  have e : callT (n + 1) .parted = fun ds S => noX (runB 7 (b_parted (callT n)) ds S) := rfl
  rw [e]
  exact fn_sim0 (N := ["one", "other", "left", "right", "names", "function", "name"]) (st := top 22) (x := "parted") (qual := "parted") (ps := ["one", "other"]) (b := b_parted (callT n)) F sc_parted fun cdv B outer s H E hr => t_parted T W A cdv B outer s H E hr
theorem t_l_deck (T : Tops w K mg) (W : Defs Fn K mg nm st ps ad fd zs) (A : All P w K mg base ct ad fd n) (cdv : Value) (B : Around) (outer : List Env) (s : Shared) (H : Hp) (E : XK) (hr : Room n (B.deeper (PyProof.Rows.envOfC "_law_deck" (defScope (top 24)) s.heap.objs.size (ad .l_deck) cdv))) :
    PSs (cxOf CX0 P w K mg base ["cell", "turn"] "_law_deck" (defScope (top 24)) (ad .l_deck) cdv B outer s H E).nox (defBody (top 24)) (tS ⟨K, ct⟩ E0 (b_l_deck (callT n))) :=
  (qs_cons (q_if (qt_cmp op_ge o_ge (qv 0) (q_pow q_int q_int) (nomark _)) (qs_one (q_ret (q_lst (qa_cons (q_sub (qv 0) (q_pow q_int q_int)) (qa_cons (q_mod (qv 0) q_int) (qa_cons (qv 1) qa_nil)))))) qs_nil)
  (qs_one (q_ret (q_lst (qa_cons q_int (qa_cons (q_mod (qv 0) q_int) (qa_cons (qv 1) qa_nil)))))))
theorem ok_l_deck (T : Tops w K mg) (W : Defs Fn K mg nm st ps ad fd zs) (A : All P w K mg base ct ad fd n) : FnOk P w K mg base CX0 (n + 1) (ad .l_deck) (fd .l_deck) ["cell", "turn"] (spOf ⟨K, ct⟩ (callT (n + 1) .l_deck) 2) := by
  have F : Fun K "_law_deck" "_law_deck" (top 24) (ad .l_deck) (fd .l_deck) := W.F .l_deck
  have e : callT (n + 1) .l_deck = fun ds S => noX (runB 2 (b_l_deck (callT n)) ds S) := rfl
  rw [e]
  exact fn_sim0 (N := ["cell", "turn"]) (st := top 24) (x := "_law_deck") (qual := "_law_deck") (ps := ["cell", "turn"]) (b := b_l_deck (callT n)) F sc_l_deck fun cdv B outer s H E hr => t_l_deck T W A cdv B outer s H E hr
theorem t_l_pick (T : Tops w K mg) (W : Defs Fn K mg nm st ps ad fd zs) (A : All P w K mg base ct ad fd n) (cdv : Value) (B : Around) (outer : List Env) (s : Shared) (H : Hp) (E : XK) (hr : Room n (B.deeper (PyProof.Rows.envOfC "_law_pick" (defScope (top 25)) s.heap.objs.size (ad .l_pick) cdv))) :
    PSs (cxOf CX0 P w K mg base ["deck", "many", "number", "found"] "_law_pick" (defScope (top 25)) (ad .l_pick) cdv B outer s H E).nox (defBody (top 25)) (tS ⟨K, ct⟩ E0 (b_l_pick (callT n))) :=
  (qs_cons (q_if (qt_cmp op_gt o_gt (q_ix (u1 hr) (qv 0) q_int) q_int (nomark _)) (qs_cons (sv 3 sc_l_pick.nd (q_mod (q_ix (u1 hr) (qv 0) q_int) (qv 1)))
  (qs_cons (q_asg (own := []) (q_div (q_ix (u1 hr) (qv 0) q_int) (qv 1)) (qg_sub (u1 hr) (qv 0) q_int))
  (qs_one (q_ret (qv 3))))) qs_nil)
  (qs_cons (q_asg (own := []) (q_add (q_ix (u1 hr) (qv 0) q_int) q_int) (qg_sub (u1 hr) (qv 0) q_int))
  (qs_cons (sv 2 sc_l_pick.nd (q_mod (q_pow (q_add (q_ix (u1 hr) (qv 0) q_int) (q_mul q_int (q_ix (u1 hr) (qv 0) q_int))) q_int) q_int))
  (qs_cons (sv 3 sc_l_pick.nd (q_div (q_mod (q_pow (q_add (qv 2) (q_mul q_int (q_ix (u1 hr) (qv 0) q_int))) q_int) q_int) q_int))
  (qs_cons (q_if (qt_cmp op_gt o_gt (qv 1) q_int (nomark _)) (qs_one (q_ret (q_mod (q_add (q_mul (qv 3) q_int) (qv 2)) (qv 1)))) qs_nil)
  (qs_one (q_ret (q_mod (qv 3) (qv 1)))))))))
theorem ok_l_pick (T : Tops w K mg) (W : Defs Fn K mg nm st ps ad fd zs) (A : All P w K mg base ct ad fd n) : FnOk P w K mg base CX0 (n + 1) (ad .l_pick) (fd .l_pick) ["deck", "many"] (spOf ⟨K, ct⟩ (callT (n + 1) .l_pick) 2) := by
  have F : Fun K "_law_pick" "_law_pick" (top 25) (ad .l_pick) (fd .l_pick) := W.F .l_pick
  have e : callT (n + 1) .l_pick = fun ds S => noX (runB 4 (b_l_pick (callT n)) ds S) := rfl
  rw [e]
  exact fn_sim0 (N := ["deck", "many", "number", "found"]) (st := top 25) (x := "_law_pick") (qual := "_law_pick") (ps := ["deck", "many"]) (b := b_l_pick (callT n)) F sc_l_pick fun cdv B outer s H E hr => t_l_pick T W A cdv B outer s H E hr
theorem t_l_signs (T : Tops w K mg) (W : Defs Fn K mg nm st ps ad fd zs) (A : All P w K mg base ct ad fd n) (cdv : Value) (B : Around) (outer : List Env) (s : Shared) (H : Hp) (E : XK) (hr : Room n (B.deeper (PyProof.Rows.envOfC "_law_signs" (defScope (top 26)) s.heap.objs.size (ad .l_signs) cdv))) :
    PSs (cxOf CX0 P w K mg base [] "_law_signs" (defScope (top 26)) (ad .l_signs) cdv B outer s H E).nox (defBody (top 26)) (tS ⟨K, ct⟩ E0 (b_l_signs (callT n))) :=
  (qs_one (q_ret (q_disp (.cons q_str (q_tup (qa_cons (q_lst (qa_cons q_str qa_nil)) (qa_cons q_str qa_nil))) (.cons q_str (q_tup (qa_cons (q_lst (qa_cons q_str qa_nil)) (qa_cons q_str qa_nil))) (.cons q_str (q_tup (qa_cons (q_lst (qa_cons q_str (qa_cons q_str qa_nil))) (qa_cons q_str qa_nil))) (.cons q_str (q_tup (qa_cons (q_lst (qa_cons q_str qa_nil)) (qa_cons q_str qa_nil))) (.cons q_str (q_tup (qa_cons (q_lst (qa_cons q_str (qa_cons q_str qa_nil))) (qa_cons q_str qa_nil))) QPs.nil))))))))
theorem ok_l_signs (T : Tops w K mg) (W : Defs Fn K mg nm st ps ad fd zs) (A : All P w K mg base ct ad fd n) : FnOk P w K mg base CX0 (n + 1) (ad .l_signs) (fd .l_signs) [] (spOf ⟨K, ct⟩ (callT (n + 1) .l_signs) 0) := by
  have F : Fun K "_law_signs" "_law_signs" (top 26) (ad .l_signs) (fd .l_signs) := W.F .l_signs
  have e : callT (n + 1) .l_signs = fun ds S => noX (runB 0 (b_l_signs (callT n)) ds S) := rfl
  rw [e]
  exact fn_sim0 (N := []) (st := top 26) (x := "_law_signs") (qual := "_law_signs") (ps := []) (b := b_l_signs (callT n)) F sc_l_signs fun cdv B outer s H E hr => t_l_signs T W A cdv B outer s H E hr
theorem t_l_leaf (T : Tops w K mg) (W : Defs Fn K mg nm st ps ad fd zs) (A : All P w K mg base ct ad fd n) (cdv : Value) (B : Around) (outer : List Env) (s : Shared) (H : Hp) (E : XK) (hr : Room n (B.deeper (PyProof.Rows.envOfC "_law_leaf" (defScope (top 27)) s.heap.objs.size (ad .l_leaf) cdv))) :
    PSs (cxOf CX0 P w K mg base ["deck", "kind", "scope", "some", "name", "one", "k"] "_law_leaf" (defScope (top 27)) (ad .l_leaf) cdv B outer s H E).nox (defBody (top 27)) (tS ⟨K, ct⟩ E0 (b_l_leaf (callT n))) :=
  (qs_cons (q_setLc (i := 3) rfl sc_l_leaf.nd rfl rfl (sw_true rfl rfl rfl rfl) (qi_seq (qv 2)) (blkOk_by (own := [("name", 4), ("one", 5)]) (by kernel_rfl)) (fun _ _ _ _ _ => (qg_tup rfl (qgs_cons (gv 4 sc_l_leaf.nd) (qgs_cons (gv 5 sc_l_leaf.nd) qgs_nil)))) (fun _ _ _ _ _ => (qts_one (qt_cmp (op_eq.or (op_eqD hr.units)) o_eq (qv 5) (qv 1) (nomark _)))) (fun _ _ _ _ _ => (qv 4)))
  (qs_cons (q_if (qt_w (qw_and (qt_cmp (op_ne.or (op_neD hr.units)) o_ne (qv 3) (q_lst qa_nil) (nomark _)) (qw_and1 (qt_cmp op_gt o_gt (q_call (A .l_pick) hr (by rfl) (W.m .l_pick) (W.F .l_pick).kp (W.b .l_pick) pass0 (qa_cons (qv 0) (qa_cons q_int qa_nil))) q_int (nomark _))))) (qs_one (q_ret (q_tup (qa_cons q_str (qa_cons (q_ix (u1 hr) (qv 3) (q_call (A .l_pick) hr (by rfl) (W.m .l_pick) (W.F .l_pick).kp (W.b .l_pick) pass0 (qa_cons (qv 0) (qa_cons (q_callB call_lenA o_len (by rfl) (W.z _ (by decide)) PySem.boot_len (qa_cons (qv 3) qa_nil)) qa_nil)))) qa_nil))))) qs_nil)
  (qs_cons (q_if (qt_cmp (op_eq.or (op_eqD hr.units)) o_eq (qv 1) q_str (nomark _)) (qs_cons (q_if (qt_cmp (op_eq.or (op_eqD hr.units)) o_eq (q_call (A .l_pick) hr (by rfl) (W.m .l_pick) (W.F .l_pick).kp (W.b .l_pick) pass0 (qa_cons (qv 0) (qa_cons q_int qa_nil))) q_int (nomark _)) (qs_one (q_ret (q_tup (qa_cons q_str (qa_cons q_str (qa_cons (q_tup qa_nil) qa_nil)))))) qs_nil)
  (qs_one (q_ret (q_tup (qa_cons q_str (qa_cons (q_ix (u1 hr) (q_lst (qa_cons (q_sub (q_call (A .l_pick) hr (by rfl) (W.m .l_pick) (W.F .l_pick).kp (W.b .l_pick) pass0 (qa_cons (qv 0) (qa_cons q_int qa_nil))) q_int) (qa_cons (q_sub (q_call (A .l_pick) hr (by rfl) (W.m .l_pick) (W.F .l_pick).kp (W.b .l_pick) pass0 (qa_cons (qv 0) (qa_cons q_int qa_nil))) q_int) qa_nil))) (q_callTy call_int1 o_int (by rfl) (W.z _ (by decide)) PyProof.Rows.boot_int (qa_cons (q_cmp (op_eq.or (op_eqD hr.units)) o_eq (q_call (A .l_pick) hr (by rfl) (W.m .l_pick) (W.F .l_pick).kp (W.b .l_pick) pass0 (qa_cons (qv 0) (qa_cons q_int qa_nil))) q_int (nomark _)) qa_nil))) qa_nil)))))) qs_nil)
  (qs_cons (q_if (qt_cmp (op_eq.or (op_eqD hr.units)) o_eq (qv 1) q_str (nomark _)) (qs_one (q_ret (q_tup (qa_cons q_str (qa_cons (q_cmp (op_eq.or (op_eqD hr.units)) o_eq (q_call (A .l_pick) hr (by rfl) (W.m .l_pick) (W.F .l_pick).kp (W.b .l_pick) pass0 (qa_cons (qv 0) (qa_cons q_int qa_nil))) q_int (nomark _)) qa_nil))))) qs_nil)
  (qs_one (q_ret (q_tup (qa_cons q_str (qa_cons (q_callTy call_tuple_of o_tuple (by rfl) (W.z _ (by decide)) PyProof.Rows.boot_tuple (qa_cons (q_lc rfl sc_l_leaf.nd (qi_rng1 (by rfl) (W.z _ (by decide)) (q_call (A .l_pick) hr (by rfl) (W.m .l_pick) (W.F .l_pick).kp (W.b .l_pick) pass0 (qa_cons (qv 0) (qa_cons q_int qa_nil)))) (blkOk_by (own := [("k", 6)]) (by kernel_rfl)) (fun _ _ _ _ _ => (gv 6 sc_l_leaf.nd)) (fun _ _ _ _ _ => qts_nil) (fun _ _ _ _ _ => (q_sub (q_call (A .l_pick) hr (by rfl) (W.m .l_pick) (W.F .l_pick).kp (W.b .l_pick) pass0 (qa_cons (qv 0) (qa_cons q_int qa_nil))) q_int))) qa_nil)) qa_nil)))))))))
theorem ok_l_leaf (T : Tops w K mg) (W : Defs Fn K mg nm st ps ad fd zs) (A : All P w K mg base ct ad fd n) : FnOk P w K mg base CX0 (n + 1) (ad .l_leaf) (fd .l_leaf) ["deck", "kind", "scope"] (spOf ⟨K, ct⟩ (callT (n + 1) .l_leaf) 3) := by
  have F : Fun K "_law_leaf" "_law_leaf" (top 27) (ad .l_leaf) (fd .l_leaf) := W.F .l_leaf
  have e : callT (n + 1) .l_leaf = fun ds S => noX (runB 7 (b_l_leaf (callT n)) ds S) := rfl
  rw [e]
  exact fn_sim0 (N := ["deck", "kind", "scope", "some", "name", "one", "k"]) (st := top 27) (x := "_law_leaf") (qual := "_law_leaf") (ps := ["deck", "kind", "scope"]) (b := b_l_leaf (callT n)) F sc_l_leaf fun cdv B outer s H E hr => t_l_leaf T W A cdv B outer s H E hr
theorem t_l_done_of (T : Tops w K mg) (W : Defs Fn K mg nm st ps ad fd zs) (A : All P w K mg base ct ad fd n) (cdv : Value) (B : Around) (outer : List Env) (s : Shared) (H : Hp) (E : XK) (hr : Room n (B.deeper (PyProof.Rows.envOfC "_law_done_of" (defScope (top 28)) s.heap.objs.size (ad .l_done_of) cdv))) :
    PSs (cxOf CX0 P w K mg base ["deck", "kind", "scope", "calls", "deep", "words", "word", "kinds", "inner", "one"] "_law_done_of" (defScope (top 28)) (ad .l_done_of) cdv B outer s H E).nox (defBody (top 28)) (tS ⟨K, ct⟩ E0 (b_l_done_of (callT n))) :=
  (qs_cons (sv 5 sc_l_done_of.nd (q_disp (.cons q_str (q_lst (qa_cons q_str (qa_cons q_str (qa_cons q_str (qa_cons q_str (qa_cons q_str (qa_cons q_str (qa_cons q_str qa_nil)))))))) (.cons q_str (q_lst (qa_cons q_str (qa_cons q_str (qa_cons q_str qa_nil)))) QPs.nil))))
  (qs_cons (q_asg (own := []) (q_lst (qa_cons q_str (qa_cons q_str (qa_cons q_str (qa_cons q_str (qa_cons q_str (qa_cons q_str qa_nil))))))) (qg_sub (u1 hr) (qv 5) q_str))
  (qs_cons (sv 6 sc_l_done_of.nd (q_ix (u1 hr) (q_ix (u1 hr) (qv 5) (qv 1)) (q_call (A .l_pick) hr (by rfl) (W.m .l_pick) (W.F .l_pick).kp (W.b .l_pick) pass0 (qa_cons (qv 0) (qa_cons (q_callB call_lenA o_len (by rfl) (W.z _ (by decide)) PySem.boot_len (qa_cons (q_ix (u1 hr) (qv 5) (qv 1)) qa_nil)) qa_nil)))))
  (qs_cons (sv 7 sc_l_done_of.nd (q_disp (.cons q_str (q_lst (qa_cons q_str qa_nil)) (.cons q_str (q_lst (qa_cons q_str qa_nil)) (.cons q_str (q_lst (qa_cons q_str qa_nil)) (.cons q_str (q_lst (qa_cons q_str (qa_cons q_str qa_nil))) (.cons q_str (q_lst (qa_cons q_str qa_nil)) QPs.nil)))))))
  (qs_cons (q_asg (own := []) (q_lst (qa_cons q_str (qa_cons q_str qa_nil))) (qg_sub (u1 hr) (qv 7) q_str))
  (qs_cons (q_asg (own := []) (q_lst (qa_cons q_str (qa_cons q_str qa_nil))) (qg_sub (u1 hr) (qv 7) q_str))
  (qs_cons (sv 8 sc_l_done_of.nd (q_get2 (u1 hr) (qv 7) (qv 6) (q_lst (qa_cons q_str (qa_cons q_str qa_nil)))))
  (qs_one (q_ret (q_tup (qa_cons q_str (qa_cons (qv 6) (qa_cons (q_callTy call_tuple_of o_tuple (by rfl) (W.z _ (by decide)) PyProof.Rows.boot_tuple (qa_cons (q_lc rfl sc_l_done_of.nd (qi_seq (qv 8)) (blkOk_by (own := [("one", 9)]) (by kernel_rfl)) (fun _ _ _ _ _ => (gv 9 sc_l_done_of.nd)) (fun _ _ _ _ _ => qts_nil) (fun _ _ _ _ _ => (q_call (A .l_tree) hr (by rfl) (W.m .l_tree) (W.F .l_tree).kp (W.b .l_tree) pass0 (qa_cons (qv 0) (qa_cons (qv 9) (qa_cons (qv 2) (qa_cons (qv 3) (qa_cons (q_sub (qv 4) q_int) qa_nil)))))))) qa_nil)) qa_nil)))))))))))))
theorem ok_l_done_of (T : Tops w K mg) (W : Defs Fn K mg nm st ps ad fd zs) (A : All P w K mg base ct ad fd n) : FnOk P w K mg base CX0 (n + 1) (ad .l_done_of) (fd .l_done_of) ["deck", "kind", "scope", "calls", "deep"] (spOf ⟨K, ct⟩ (callT (n + 1) .l_done_of) 5) := by
  have F : Fun K "_law_done_of" "_law_done_of" (top 28) (ad .l_done_of) (fd .l_done_of) := W.F .l_done_of
  have e : callT (n + 1) .l_done_of = fun ds S => noX (runB 10 (b_l_done_of (callT n)) ds S) := rfl
  rw [e]
  exact fn_sim0 (N := ["deck", "kind", "scope", "calls", "deep", "words", "word", "kinds", "inner", "one"]) (st := top 28) (x := "_law_done_of") (qual := "_law_done_of") (ps := ["deck", "kind", "scope", "calls", "deep"]) (b := b_l_done_of (callT n)) F sc_l_done_of fun cdv B outer s H E hr => t_l_done_of T W A cdv B outer s H E hr
theorem t_l_tree (T : Tops w K mg) (W : Defs Fn K mg nm st ps ad fd zs) (A : All P w K mg base ct ad fd n) (cdv : Value) (B : Around) (outer : List Env) (s : Shared) (H : Hp) (E : XK) (hr : Room n (B.deeper (PyProof.Rows.envOfC "_law_tree" (defScope (top 29)) s.heap.objs.size (ad .l_tree) cdv))) :
    PSs (cxOf CX0 P w K mg base ["deck", "kind", "scope", "calls", "deep", "way", "some", "parts", "other", "name", "first", "inner", "args", "one", "pair"] "_law_tree" (defScope (top 29)) (ad .l_tree) cdv B outer s H E).nox (defBody (top 29)) (tS ⟨K, ct⟩ E0 (b_l_tree (callT n))) :=
  (qs_cons (q_if (qt_w (qw_or (qt_cmp q_lt_op o_ltX (qv 4) q_int (nomark _)) (qw_or1 (qt_cmp (op_eq.or (op_eqD hr.units)) o_eq (q_call (A .l_pick) hr (by rfl) (W.m .l_pick) (W.F .l_pick).kp (W.b .l_pick) pass0 (qa_cons (qv 0) (qa_cons q_int qa_nil))) q_int (nomark _))))) (qs_one (q_ret (q_call (A .l_leaf) hr (by rfl) (W.m .l_leaf) (W.F .l_leaf).kp (W.b .l_leaf) pass0 (qa_cons (qv 0) (qa_cons (qv 1) (qa_cons (qv 2) qa_nil)))))) qs_nil)
  (qs_cons (q_if (qt_cmp (op_eq.or (op_eqD hr.units)) o_eq (q_call (A .l_pick) hr (by rfl) (W.m .l_pick) (W.F .l_pick).kp (W.b .l_pick) pass0 (qa_cons (qv 0) (qa_cons q_int qa_nil))) q_int (nomark _)) (qs_one (sv 1 sc_l_tree.nd (q_ix (u1 hr) (q_lst (qa_cons q_str (qa_cons q_str (qa_cons q_str qa_nil)))) (q_call (A .l_pick) hr (by rfl) (W.m .l_pick) (W.F .l_pick).kp (W.b .l_pick) pass0 (qa_cons (qv 0) (qa_cons q_int qa_nil)))))) qs_nil)
  (qs_cons (sv 5 sc_l_tree.nd (q_call (A .l_pick) hr (by rfl) (W.m .l_pick) (W.F .l_pick).kp (W.b .l_pick) pass0 (qa_cons (qv 0) (qa_cons q_int qa_nil))))
  (qs_cons (q_if (qt_cmp (op_eq.or (op_eqD hr.units)) o_eq (qv 5) q_int (nomark _)) (qs_cons (q_setLc (i := 7) rfl sc_l_tree.nd rfl rfl (sw_true rfl rfl rfl rfl) (qi_seq (q_tup (qa_cons q_str (qa_cons (qv 1) (qa_cons (qv 1) qa_nil))))) (blkOk_by (own := [("one", 13)]) (by kernel_rfl)) (fun _ _ _ _ _ => (gv 13 sc_l_tree.nd)) (fun _ _ _ _ _ => qts_nil) (fun _ _ _ _ _ => (q_call (A .l_tree) hr (by rfl) (W.m .l_tree) (W.F .l_tree).kp (W.b .l_tree) pass0 (qa_cons (qv 0) (qa_cons (qv 13) (qa_cons (qv 2) (qa_cons (qv 3) (qa_cons (q_sub (qv 4) q_int) qa_nil))))))))
  (qs_one (q_ret (q_tup (qa_cons q_str (qa_cons (q_ix (u1 hr) (qv 7) q_int) (qa_cons (q_ix (u1 hr) (qv 7) q_int) (qa_cons (q_ix (u1 hr) (qv 7) q_int) qa_nil)))))))) qs_nil)
  (qs_cons (q_if (qt_cmp (op_eq.or (op_eqD hr.units)) o_eq (qv 5) q_int (nomark _)) (qs_cons (sv 8 sc_l_tree.nd (q_ix (u1 hr) (q_lst (qa_cons q_str (qa_cons q_str (qa_cons q_str qa_nil)))) (q_call (A .l_pick) hr (by rfl) (W.m .l_pick) (W.F .l_pick).kp (W.b .l_pick) pass0 (qa_cons (qv 0) (qa_cons q_int qa_nil)))))
  (qs_cons (sv 9 sc_l_tree.nd (q_ix (u1 hr) (q_lst (qa_cons q_str (qa_cons q_str (qa_cons q_str qa_nil)))) (q_call (A .l_pick) hr (by rfl) (W.m .l_pick) (W.F .l_pick).kp (W.b .l_pick) pass0 (qa_cons (qv 0) (qa_cons q_int qa_nil)))))
  (qs_cons (sv 10 sc_l_tree.nd (q_call (A .l_tree) hr (by rfl) (W.m .l_tree) (W.F .l_tree).kp (W.b .l_tree) pass0 (qa_cons (qv 0) (qa_cons (qv 8) (qa_cons (qv 2) (qa_cons (qv 3) (qa_cons (q_sub (qv 4) q_int) qa_nil)))))))
  (qs_cons (sv 11 sc_l_tree.nd (q_add (q_lc rfl sc_l_tree.nd (qi_seq (qv 2)) (blkOk_by (own := [("pair", 14)]) (by kernel_rfl)) (fun _ _ _ _ _ => (gv 14 sc_l_tree.nd)) (fun _ _ _ _ _ => (qts_one (qt_cmp (op_ne.or (op_neD hr.units)) o_ne (q_ix (u1 hr) (qv 14) q_int) (qv 9) (nomark _)))) (fun _ _ _ _ _ => (qv 14))) (q_lst (qa_cons (q_tup (qa_cons (qv 9) (qa_cons (qv 8) qa_nil))) qa_nil))))
  (qs_one (q_ret (q_tup (qa_cons q_str (qa_cons (qv 9) (qa_cons (qv 10) (qa_cons (q_call (A .l_tree) hr (by rfl) (W.m .l_tree) (W.F .l_tree).kp (W.b .l_tree) pass0 (qa_cons (qv 0) (qa_cons (qv 1) (qa_cons (qv 11) (qa_cons (qv 3) (qa_cons (q_sub (qv 4) q_int) qa_nil)))))) qa_nil))))))))))) qs_nil)
  (qs_cons (q_setLc (i := 6) rfl sc_l_tree.nd rfl rfl (sw_true rfl rfl rfl rfl) (qi_seq (qv 3)) (blkOk_by (own := [("name", 9)]) (by kernel_rfl)) (fun _ _ _ _ _ => (gv 9 sc_l_tree.nd)) (fun _ _ _ _ _ => (qts_one (qt_cmp (op_eq.or (op_eqD hr.units)) o_eq (q_ix (u1 hr) (q_ix (u1 hr) (q_call0 (A .l_signs) hr (by rfl) (W.m .l_signs) (W.F .l_signs).kp (W.b .l_signs) pass0) (qv 9)) q_int) (qv 1) (nomark _)))) (fun _ _ _ _ _ => (qv 9)))
  (qs_cons (q_if (qt_w (qw_and (qt_cmp q_lt_op o_ltX (qv 5) q_int (nomark _)) (qw_and1 (qt_cmp (op_ne.or (op_neD hr.units)) o_ne (qv 6) (q_lst qa_nil) (nomark _))))) (qs_cons (sv 9 sc_l_tree.nd (q_ix (u1 hr) (qv 6) (q_call (A .l_pick) hr (by rfl) (W.m .l_pick) (W.F .l_pick).kp (W.b .l_pick) pass0 (qa_cons (qv 0) (qa_cons (q_callB call_lenA o_len (by rfl) (W.z _ (by decide)) PySem.boot_len (qa_cons (qv 6) qa_nil)) qa_nil)))))
  (qs_cons (q_setLc (i := 12) rfl sc_l_tree.nd rfl rfl (sw_true rfl rfl rfl rfl) (qi_seq (q_ix (u1 hr) (q_ix (u1 hr) (q_call0 (A .l_signs) hr (by rfl) (W.m .l_signs) (W.F .l_signs).kp (W.b .l_signs) pass0) (qv 9)) q_int)) (blkOk_by (own := [("one", 13)]) (by kernel_rfl)) (fun _ _ _ _ _ => (gv 13 sc_l_tree.nd)) (fun _ _ _ _ _ => qts_nil) (fun _ _ _ _ _ => (q_call (A .l_tree) hr (by rfl) (W.m .l_tree) (W.F .l_tree).kp (W.b .l_tree) pass0 (qa_cons (qv 0) (qa_cons (qv 13) (qa_cons (qv 2) (qa_cons (qv 3) (qa_cons (q_sub (qv 4) q_int) qa_nil))))))))
  (qs_one (q_ret (q_tup (qa_cons q_str (qa_cons (qv 9) (qa_cons (q_callTy call_tuple_of o_tuple (by rfl) (W.z _ (by decide)) PyProof.Rows.boot_tuple (qa_cons (qv 12) qa_nil)) qa_nil)))))))) qs_nil)
  (qs_one (q_ret (q_call (A .l_done_of) hr (by rfl) (W.m .l_done_of) (W.F .l_done_of).kp (W.b .l_done_of) pass0 (qa_cons (qv 0) (qa_cons (qv 1) (qa_cons (qv 2) (qa_cons (qv 3) (qa_cons (qv 4) qa_nil)))))))))))))))
theorem ok_l_tree (T : Tops w K mg) (W : Defs Fn K mg nm st ps ad fd zs) (A : All P w K mg base ct ad fd n) : FnOk P w K mg base CX0 (n + 1) (ad .l_tree) (fd .l_tree) ["deck", "kind", "scope", "calls", "deep"] (spOf ⟨K, ct⟩ (callT (n + 1) .l_tree) 5) := by
  have F : Fun K "_law_tree" "_law_tree" (top 29) (ad .l_tree) (fd .l_tree) := W.F .l_tree
  have e : callT (n + 1) .l_tree = fun ds S => noX (runB 15 (b_l_tree (callT n)) ds S) := rfl
  rw [e]
  exact fn_sim0 (N := ["deck", "kind", "scope", "calls", "deep", "way", "some", "parts", "other", "name", "first", "inner", "args", "one", "pair"]) (st := top 29) (x := "_law_tree") (qual := "_law_tree") (ps := ["deck", "kind", "scope", "calls", "deep"]) (b := b_l_tree (callT n)) F sc_l_tree fun cdv B outer s H E hr => t_l_tree T W A cdv B outer s H E hr
theorem t_l_program (T : Tops w K mg) (W : Defs Fn K mg nm st ps ad fd zs) (A : All P w K mg base ct ad fd n) (cdv : Value) (B : Around) (outer : List Env) (s : Shared) (H : Hp) (E : XK) (hr : Room n (B.deeper (PyProof.Rows.envOfC "_law_program" (defScope (top 30)) s.heap.objs.size (ad .l_program) cdv))) :
    PSs (cxOf CX0 P w K mg base ["deck", "found", "at", "name", "calls", "scope", "body", "kinds", "told"] "_law_program" (defScope (top 30)) (ad .l_program) cdv B outer s H E).nox (defBody (top 30)) (tS ⟨K, ct⟩ E0 (b_l_program (callT n))) :=
  (qs_cons (sv 1 sc_l_program.nd (q_lst qa_nil))
  (qs_cons (q_for (own := [2, 3]) PassesOwn.never rfl (qi_enS (by rfl) (W.z _ (by decide)) q_str) (qg_tup rfl (qgs_cons (gv 2 sc_l_program.nd) (qgs_cons (gv 3 sc_l_program.nd) qgs_nil))) (qs_cons (sv 4 sc_l_program.nd (q_ifE (qt_cmp op_gt o_gt (q_call (A .l_pick) hr (by rfl) (W.m .l_pick) (W.F .l_pick).kp (W.b .l_pick) pass0 (qa_cons (qv 0) (qa_cons q_int qa_nil))) q_int (nomark _)) (q_sl q_str qo_none (qo_some (qv 2))) q_str))
  (qs_cons (q_asg (own := [7, 8]) (q_ix (u1 hr) (q_call0 (A .l_signs) hr (by rfl) (W.m .l_signs) (W.F .l_signs).kp (W.b .l_signs) pass0) (qv 3)) (qg_tup rfl (qgs_cons (gv 7 sc_l_program.nd) (qgs_cons (gv 8 sc_l_program.nd) qgs_nil))))
  (qs_cons (sv 5 sc_l_program.nd (q_lzip (by rfl) (W.z _ (by decide)) (by rfl) (W.z _ (by decide)) (by rfl) (qa_cons (q_lst (qa_cons q_str (qa_cons q_str qa_nil))) (qa_cons (qv 7) qa_nil))))
  (qs_cons (sv 6 sc_l_program.nd (q_call (A .l_tree) hr (by rfl) (W.m .l_tree) (W.F .l_tree).kp (W.b .l_tree) pass0 (qa_cons (qv 0) (qa_cons (qv 8) (qa_cons (qv 5) (qa_cons (qv 4) (qa_cons (q_add q_int (q_call (A .l_pick) hr (by rfl) (W.m .l_pick) (W.F .l_pick).kp (W.b .l_pick) pass0 (qa_cons (qv 0) (qa_cons q_int qa_nil)))) qa_nil)))))))
  (qs_one (q_drop (q_bm PySem.F.plainAttrs_list PySem.F.slot_list_append PySem.F.type_list_append mt_append o_app (qv 1) (qa_cons (q_tup (qa_cons (qv 3) (qa_cons (q_callTy call_tuple_of o_tuple (by rfl) (W.z _ (by decide)) PyProof.Rows.boot_tuple (qa_cons (q_sl (q_lst (qa_cons q_str (qa_cons q_str qa_nil))) qo_none (qo_some (q_callB call_lenA o_len (by rfl) (W.z _ (by decide)) PySem.boot_len (qa_cons (qv 7) qa_nil)))) qa_nil)) (qa_cons (qv 6) qa_nil)))) qa_nil)))))))))
  (qs_one (q_ret (q_callTy call_tuple_of o_tuple (by rfl) (W.z _ (by decide)) PyProof.Rows.boot_tuple (qa_cons (qv 1) qa_nil))))))
theorem ok_l_program (T : Tops w K mg) (W : Defs Fn K mg nm st ps ad fd zs) (A : All P w K mg base ct ad fd n) : FnOk P w K mg base CX0 (n + 1) (ad .l_program) (fd .l_program) ["deck"] (spOf ⟨K, ct⟩ (callT (n + 1) .l_program) 1) := by
  have F : Fun K "_law_program" "_law_program" (top 30) (ad .l_program) (fd .l_program) := W.F .l_program
  have e : callT (n + 1) .l_program = fun ds S => noX (runB 9 (b_l_program (callT n)) ds S) := rfl
  rw [e]
  exact fn_sim0 (N := ["deck", "found", "at", "name", "calls", "scope", "body", "kinds", "told"]) (st := top 30) (x := "_law_program") (qual := "_law_program") (ps := ["deck"]) (b := b_l_program (callT n)) F sc_l_program fun cdv B outer s H E hr => t_l_program T W A cdv B outer s H E hr
theorem t_l_sort (T : Tops w K mg) (W : Defs Fn K mg nm st ps ad fd zs) (A : All P w K mg base ct ad fd n) (cdv : Value) (B : Around) (outer : List Env) (s : Shared) (H : Hp) (E : XK) (hr : Room n (B.deeper (PyProof.Rows.envOfC "_law_sort" (defScope (top 31)) s.heap.objs.size (ad .l_sort) cdv))) :
    PSs (cxOf CX0 P w K mg base ["thing"] "_law_sort" (defScope (top 31)) (ad .l_sort) cdv B outer s H E).nox (defBody (top 31)) (tS ⟨K, ct⟩ E0 (b_l_sort (callT n))) :=
  (qs_cons (q_if (qt_val (q_callB call_isi o_isi (by rfl) (W.z _ (by decide)) PyProof.Rows.boot_isinstance (qa_cons (qv 0) (qa_cons (q_ty (by rfl) (W.z _ (by decide)) PyProof.Rows.boot_bool) qa_nil)))) (qs_one (q_ret q_str)) qs_nil)
  (qs_cons (q_if (qt_val (q_callB call_isi o_isi (by rfl) (W.z _ (by decide)) PyProof.Rows.boot_isinstance (qa_cons (qv 0) (qa_cons (q_ty (by rfl) (W.z _ (by decide)) PyProof.Rows.boot_int) qa_nil)))) (qs_one (q_ret q_str)) qs_nil)
  (qs_cons (q_if (qt_val (q_callB call_isi o_isi (by rfl) (W.z _ (by decide)) PyProof.Rows.boot_isinstance (qa_cons (qv 0) (qa_cons (q_ty (by rfl) (W.z _ (by decide)) PyProof.Rows.boot_tuple) qa_nil)))) (qs_one (q_ret q_str)) qs_nil)
  (qs_one (q_ret (q_ifE (qt_val (q_callB call_isi o_isi (by rfl) (W.z _ (by decide)) PyProof.Rows.boot_isinstance (qa_cons (qv 0) (qa_cons (q_ty (by rfl) (W.z _ (by decide)) PyProof.Rows.boot_list) qa_nil)))) q_str q_str))))))
theorem ok_l_sort (T : Tops w K mg) (W : Defs Fn K mg nm st ps ad fd zs) (A : All P w K mg base ct ad fd n) : FnOk P w K mg base CX0 (n + 1) (ad .l_sort) (fd .l_sort) ["thing"] (spOf ⟨K, ct⟩ (callT (n + 1) .l_sort) 1) := by
  have F : Fun K "_law_sort" "_law_sort" (top 31) (ad .l_sort) (fd .l_sort) := W.F .l_sort
  have e : callT (n + 1) .l_sort = fun ds S => noX (runB 1 (b_l_sort (callT n)) ds S) := rfl
  rw [e]
  exact fn_sim0 (N := ["thing"]) (st := top 31) (x := "_law_sort") (qual := "_law_sort") (ps := ["thing"]) (b := b_l_sort (callT n)) F sc_l_sort fun cdv B outer s H E hr => t_l_sort T W A cdv B outer s H E hr
theorem t_l_same (T : Tops w K mg) (W : Defs Fn K mg nm st ps ad fd zs) (A : All P w K mg base ct ad fd n) (cdv : Value) (B : Around) (outer : List Env) (s : Shared) (H : Hp) (E : XK) (hr : Room n (B.deeper (PyProof.Rows.envOfC "_law_same" (defScope (top 32)) s.heap.objs.size (ad .l_same) cdv))) :
    PSs (cxOf CX0 P w K mg base ["told", "due", "k", "part"] "_law_same" (defScope (top 32)) (ad .l_same) cdv B outer s H E).nox (defBody (top 32)) (tS ⟨K, ct⟩ E0 (b_l_same (callT n))) :=
  (qs_cons (q_if (qt_cmp (op_ne.or (op_neD hr.units)) o_ne (q_call (A .l_sort) hr (by rfl) (W.m .l_sort) (W.F .l_sort).kp (W.b .l_sort) pass0 (qa_cons (qv 0) qa_nil)) (q_call (A .l_sort) hr (by rfl) (W.m .l_sort) (W.F .l_sort).kp (W.b .l_sort) pass0 (qa_cons (qv 1) qa_nil)) (nomark _)) (qs_one (q_ret q_bl)) qs_nil)
  (qs_cons (q_if (qt_not (qt_val (q_callB call_isiA o_isiT (by rfl) (W.z _ (by decide)) PyProof.Rows.boot_isinstance (qa_cons (qv 0) (qa_cons (q_tup (qa_cons (q_ty (by rfl) (W.z _ (by decide)) PyProof.Rows.boot_tuple) (qa_cons (q_ty (by rfl) (W.z _ (by decide)) PyProof.Rows.boot_list) qa_nil))) qa_nil))))) (qs_one (q_ret (q_cmp (op_eq.or (op_eqD hr.units)) o_eq (qv 0) (qv 1) (nomark _)))) qs_nil)
  (qs_cons (q_if (qt_cmp (op_ne.or (op_neD hr.units)) o_ne (q_callB call_lenA o_len (by rfl) (W.z _ (by decide)) PySem.boot_len (qa_cons (qv 0) qa_nil)) (q_callB call_lenA o_len (by rfl) (W.z _ (by decide)) PySem.boot_len (qa_cons (qv 1) qa_nil)) (nomark _)) (qs_one (q_ret q_bl)) qs_nil)
  (qs_one (q_ret (q_cmp (op_eq.or (op_eqD hr.units)) o_eq (q_lc rfl sc_l_same.nd (qi_enL (by rfl) (W.z _ (by decide)) (qv 0)) (blkOk_by (own := [("k", 2), ("part", 3)]) (by kernel_rfl)) (fun _ _ _ _ _ => (qg_tup rfl (qgs_cons (gv 2 sc_l_same.nd) (qgs_cons (gv 3 sc_l_same.nd) qgs_nil)))) (fun _ _ _ _ _ => (qts_one (qt_not (qt_val (q_call (A .l_same) hr (by rfl) (W.m .l_same) (W.F .l_same).kp (W.b .l_same) pass0 (qa_cons (qv 3) (qa_cons (q_ix (u1 hr) (qv 1) (qv 2)) qa_nil))))))) (fun _ _ _ _ _ => (qv 2))) (q_lst qa_nil) (nomark _)))))))
theorem ok_l_same (T : Tops w K mg) (W : Defs Fn K mg nm st ps ad fd zs) (A : All P w K mg base ct ad fd n) : FnOk P w K mg base CX0 (n + 1) (ad .l_same) (fd .l_same) ["told", "due"] (spOf ⟨K, ct⟩ (callT (n + 1) .l_same) 2) := by
  have F : Fun K "_law_same" "_law_same" (top 32) (ad .l_same) (fd .l_same) := W.F .l_same
  have e : callT (n + 1) .l_same = fun ds S => noX (runB 4 (b_l_same (callT n)) ds S) := rfl
  rw [e]
  exact fn_sim0 (N := ["told", "due", "k", "part"]) (st := top 32) (x := "_law_same") (qual := "_law_same") (ps := ["told", "due"]) (b := b_l_same (callT n)) F sc_l_same fun cdv B outer s H E hr => t_l_same T W A cdv B outer s H E hr
theorem t_l_one (T : Tops w K mg) (W : Defs Fn K mg nm st ps ad fd zs) (A : All P w K mg base ct ad fd n) (cdv : Value) (B : Around) (outer : List Env) (s : Shared) (H : Hp) (E : XK) (hr : Room n (B.deeper (PyProof.Rows.envOfC "_law_one" (defScope (top 33)) s.heap.objs.size (ad .l_one) cdv))) :
    PSs (cxOf CX0 P w K mg base ["deck", "some"] "_law_one" (defScope (top 33)) (ad .l_one) cdv B outer s H E).nox (defBody (top 33)) (tS ⟨K, ct⟩ E0 (b_l_one (callT n))) :=
  (qs_one (q_ret (q_ix (u1 hr) (qv 1) (q_call (A .l_pick) hr (by rfl) (W.m .l_pick) (W.F .l_pick).kp (W.b .l_pick) pass0 (qa_cons (qv 0) (qa_cons (q_callB call_lenA o_len (by rfl) (W.z _ (by decide)) PySem.boot_len (qa_cons (qv 1) qa_nil)) qa_nil))))))
theorem ok_l_one (T : Tops w K mg) (W : Defs Fn K mg nm st ps ad fd zs) (A : All P w K mg base ct ad fd n) : FnOk P w K mg base CX0 (n + 1) (ad .l_one) (fd .l_one) ["deck", "some"] (spOf ⟨K, ct⟩ (callT (n + 1) .l_one) 2) := by
  have F : Fun K "_law_one" "_law_one" (top 33) (ad .l_one) (fd .l_one) := W.F .l_one
  have e : callT (n + 1) .l_one = fun ds S => noX (runB 2 (b_l_one (callT n)) ds S) := rfl
  rw [e]
  exact fn_sim0 (N := ["deck", "some"]) (st := top 33) (x := "_law_one") (qual := "_law_one") (ps := ["deck", "some"]) (b := b_l_one (callT n)) F sc_l_one fun cdv B outer s H E hr => t_l_one T W A cdv B outer s H E hr
theorem t_l_tree_spots (T : Tops w K mg) (W : Defs Fn K mg nm st ps ad fd zs) (A : All P w K mg base ct ad fd n) (cdv : Value) (B : Around) (outer : List Env) (s : Shared) (H : Hp) (E : XK) (hr : Room n (B.deeper (PyProof.Rows.envOfC "_law_tree_spots" (defScope (top 34)) s.heap.objs.size (ad .l_tree_spots) cdv))) :
    PSs (cxOf CX0 P w K mg base ["expression", "inside", "found", "part"] "_law_tree_spots" (defScope (top 34)) (ad .l_tree_spots) cdv B outer s H E).nox (defBody (top 34)) (tS ⟨K, ct⟩ E0 (b_l_tree_spots (callT n))) :=
  (qs_cons (sv 1 sc_l_tree_spots.nd (q_lst qa_nil))
  (qs_cons (q_if (qt_cmp (op_eq.or (op_eqD hr.units)) o_eq (q_ix (u1 hr) (qv 0) q_int) q_str (nomark _)) (qs_one (sv 1 sc_l_tree_spots.nd (q_callTy call_list_of o_list (by rfl) (W.z _ (by decide)) PyProof.Rows.boot_list (qa_cons (q_sl (qv 0) (qo_some q_int) qo_none) qa_nil)))) (qs_one (q_if (qt_cmp (op_eq.or (op_eqD hr.units)) o_eq (q_ix (u1 hr) (qv 0) q_int) q_str (nomark _)) (qs_one (sv 1 sc_l_tree_spots.nd (q_callTy call_list_of o_list (by rfl) (W.z _ (by decide)) PyProof.Rows.boot_list (qa_cons (q_sl (qv 0) (qo_some q_int) qo_none) qa_nil)))) (qs_one (q_if (qt_cmp (op_inX hr) o_inX (q_ix (u1 hr) (qv 0) q_int) (q_tup (qa_cons q_str (qa_cons q_str qa_nil))) rfl) (qs_one (sv 1 sc_l_tree_spots.nd (q_callTy call_list_of o_list (by rfl) (W.z _ (by decide)) PyProof.Rows.boot_list (qa_cons (q_ix (u1 hr) (qv 0) q_int) qa_nil)))) qs_nil)))))
  (qs_cons (sv 2 sc_l_tree_spots.nd (q_lst (qa_cons (qv 0) qa_nil)))
  (qs_cons (q_for (own := [3]) PassesOwn.never rfl (qi_seq (qv 1)) (gv 3 sc_l_tree_spots.nd) (qs_one (sv 2 sc_l_tree_spots.nd (q_add (qv 2) (q_call (A .l_tree_spots) hr (by rfl) (W.m .l_tree_spots) (W.F .l_tree_spots).kp (W.b .l_tree_spots) pass0 (qa_cons (qv 3) qa_nil))))))
  (qs_one (q_ret (qv 2)))))))
theorem ok_l_tree_spots (T : Tops w K mg) (W : Defs Fn K mg nm st ps ad fd zs) (A : All P w K mg base ct ad fd n) : FnOk P w K mg base CX0 (n + 1) (ad .l_tree_spots) (fd .l_tree_spots) ["expression"] (spOf ⟨K, ct⟩ (callT (n + 1) .l_tree_spots) 1) := by
  have F : Fun K "_law_tree_spots" "_law_tree_spots" (top 34) (ad .l_tree_spots) (fd .l_tree_spots) := W.F .l_tree_spots
  have e : callT (n + 1) .l_tree_spots = fun ds S => noX (runB 4 (b_l_tree_spots (callT n)) ds S) := rfl
  rw [e]
  exact fn_sim0 (N := ["expression", "inside", "found", "part"]) (st := top 34) (x := "_law_tree_spots") (qual := "_law_tree_spots") (ps := ["expression"]) (b := b_l_tree_spots (callT n)) F sc_l_tree_spots fun cdv B outer s H E hr => t_l_tree_spots T W A cdv B outer s H E hr
theorem t_l_others_of (T : Tops w K mg) (W : Defs Fn K mg nm st ps ad fd zs) (A : All P w K mg base ct ad fd n) (cdv : Value) (B : Around) (outer : List Env) (s : Shared) (H : Hp) (E : XK) (hr : Room n (B.deeper (PyProof.Rows.envOfC "_law_others_of" (defScope (top 35)) s.heap.objs.size (ad .l_others_of) cdv))) :
    PSs (cxOf CX0 P w K mg base ["expression", "head", "others", "found", "other", "turned", "args", "word"] "_law_others_of" (defScope (top 35)) (ad .l_others_of) cdv B outer s H E).nox (defBody (top 35)) (tS ⟨K, ct⟩ E0 (b_l_others_of (callT n))) :=
  (qs_cons (sv 1 sc_l_others_of.nd (q_ix (u1 hr) (qv 0) q_int))
  (qs_cons (q_if (qt_cmp (op_eq.or (op_eqD hr.units)) o_eq (qv 1) q_str (nomark _)) (qs_cons (sv 3 sc_l_others_of.nd (q_lst qa_nil))
  (qs_cons (q_for (own := [4]) PassesOwn.never rfl (qi_seq (q_lst (qa_cons (q_add (q_ix (u1 hr) (qv 0) q_int) q_int) (qa_cons (q_sub (q_ix (u1 hr) (qv 0) q_int) q_int) (qa_cons q_int qa_nil))))) (gv 4 sc_l_others_of.nd) (qs_one (q_if (qt_w (qw_and (qt_two op_le o_le op_le o_le (q_neg q_int) (qv 4) q_int) (qw_and (qt_cmp (op_ne.or (op_neD hr.units)) o_ne (qv 4) (q_ix (u1 hr) (qv 0) q_int) (nomark _)) (qw_and1 (qt_cmp (op_ninX hr) o_ninX (q_tup (qa_cons q_str (qa_cons (qv 4) qa_nil))) (qv 3) rfl))))) (qs_one (q_drop (q_bm PySem.F.plainAttrs_list PySem.F.slot_list_append PySem.F.type_list_append mt_append o_app (qv 3) (qa_cons (q_tup (qa_cons q_str (qa_cons (qv 4) qa_nil))) qa_nil)))) qs_nil)))
  (qs_one (q_ret (qv 3))))) qs_nil)
  (qs_cons (q_if (qt_cmp (op_eq.or (op_eqD hr.units)) o_eq (qv 1) q_str (nomark _)) (qs_one (q_ret (q_lst (qa_cons (q_tup (qa_cons q_str (qa_cons (q_not (q_ix (u1 hr) (qv 0) q_int)) qa_nil))) qa_nil)))) qs_nil)
  (qs_cons (q_if (qt_cmp (op_eq.or (op_eqD hr.units)) o_eq (qv 1) q_str (nomark _)) (qs_one (q_ret (q_ifE (qt_cmp (op_ne.or (op_neD hr.units)) o_ne (q_ix (u1 hr) (qv 0) q_int) (q_tup qa_nil) (nomark _)) (q_lst (qa_cons (q_tup (qa_cons q_str (qa_cons (q_sl (q_ix (u1 hr) (qv 0) q_int) (qo_some q_int) qo_none) qa_nil))) qa_nil)) (q_lst qa_nil)))) qs_nil)
  (qs_cons (q_if (qt_cmp (op_eq.or (op_eqD hr.units)) o_eq (qv 1) q_str (nomark _)) (qs_cons (sv 5 sc_l_others_of.nd (q_tup (qa_cons q_str (qa_cons (q_ix (u1 hr) (qv 0) q_int) (qa_cons (q_ix (u1 hr) (qv 0) q_int) (qa_cons (q_ix (u1 hr) (qv 0) q_int) qa_nil))))))
  (qs_one (q_ret (q_ifE (qt_cmp (op_ne.or (op_neD hr.units)) o_ne (qv 5) (qv 0) (nomark _)) (q_lst (qa_cons (qv 5) qa_nil)) (q_lst qa_nil))))) qs_nil)
  (qs_cons (q_if (qt_cmp (op_eq.or (op_eqD hr.units)) o_eq (qv 1) q_str (nomark _)) (qs_cons (sv 6 sc_l_others_of.nd (q_ix (u1 hr) (qv 0) q_int))
  (qs_cons (sv 5 sc_l_others_of.nd (q_tup (qa_cons (qv 1) (qa_cons (q_ix (u1 hr) (qv 0) q_int) (qa_cons (q_add (q_add (q_sl (qv 6) (qo_some q_int) (qo_some q_int)) (q_sl (qv 6) qo_none (qo_some q_int))) (q_sl (qv 6) (qo_some q_int) qo_none)) qa_nil)))))
  (qs_one (q_ret (q_ifE (qt_w (qw_and (qt_cmp op_gt o_gt (q_callB call_lenA o_len (by rfl) (W.z _ (by decide)) PySem.boot_len (qa_cons (qv 6) qa_nil)) q_int (nomark _)) (qw_and1 (qt_cmp (op_ne.or (op_neD hr.units)) o_ne (qv 5) (qv 0) (nomark _))))) (q_lst (qa_cons (qv 5) qa_nil)) (q_lst qa_nil)))))) qs_nil)
  (qs_cons (q_if (qt_cmp (op_ne.or (op_neD hr.units)) o_ne (qv 1) q_str (nomark _)) (qs_one (q_ret (q_lst qa_nil))) qs_nil)
  (qs_cons (q_asg (own := [7, 6]) (q_sl (qv 0) (qo_some q_int) qo_none) (qg_tup rfl (qgs_cons (gv 7 sc_l_others_of.nd) (qgs_cons (gv 6 sc_l_others_of.nd) qgs_nil))))
  (qs_cons (q_if (qt_cmp (op_eq.or (op_eqD hr.units)) o_eq (qv 7) q_str (nomark _)) (qs_one (q_ret (q_lst (qa_cons (q_ix (u1 hr) (qv 6) q_int) qa_nil)))) qs_nil)
  (qs_cons (q_if (qt_cmp (op_eq.or (op_eqD hr.units)) o_eq (qv 7) q_str (nomark _)) (qs_one (q_ret (q_ifE (qt_cmp (op_ne.or (op_neD hr.units)) o_ne (q_ix (u1 hr) (qv 6) q_int) (q_ix (u1 hr) (qv 6) q_int) (nomark _)) (q_lst (qa_cons (q_tup (qa_cons q_str (qa_cons (qv 7) (qa_cons (q_revT (qv 6)) qa_nil)))) qa_nil)) (q_lst qa_nil)))) qs_nil)
  (qs_cons (sv 2 sc_l_others_of.nd (q_disp (.cons q_str q_str (.cons q_str q_str (.cons q_str q_str (.cons q_str q_str (.cons q_str q_str QPs.nil)))))))
  (qs_cons (q_drop (q_bm PySem.F.plainAttrs_dict PySem.F.slot_dict_update PySem.F.type_dict_update mt_update o_upd (qv 2) (qa_cons (q_disp (.cons q_str q_str (.cons q_str q_str QPs.nil))) qa_nil)))
  (qs_one (q_ret (q_ifE (qt_cmp (op_inX hr) o_inX (qv 7) (qv 2) rfl) (q_lst (qa_cons (q_tup (qa_cons q_str (qa_cons (q_ix (u1 hr) (qv 2) (qv 7)) (qa_cons (qv 6) qa_nil)))) qa_nil)) (q_lst qa_nil))))))))))))))))
theorem ok_l_others_of (T : Tops w K mg) (W : Defs Fn K mg nm st ps ad fd zs) (A : All P w K mg base ct ad fd n) : FnOk P w K mg base CX0 (n + 1) (ad .l_others_of) (fd .l_others_of) ["expression"] (spOf ⟨K, ct⟩ (callT (n + 1) .l_others_of) 1) := by
  have F : Fun K "_law_others_of" "_law_others_of" (top 35) (ad .l_others_of) (fd .l_others_of) := W.F .l_others_of
  have e : callT (n + 1) .l_others_of = fun ds S => noX (runB 8 (b_l_others_of (callT n)) ds S) := rfl
  rw [e]
  exact fn_sim0 (N := ["expression", "head", "others", "found", "other", "turned", "args", "word"]) (st := top 35) (x := "_law_others_of") (qual := "_law_others_of") (ps := ["expression"]) (b := b_l_others_of (callT n)) F sc_l_others_of fun cdv B outer s H E hr => t_l_others_of T W A cdv B outer s H E hr
theorem t_l_bends (T : Tops w K mg) (W : Defs Fn K mg nm st ps ad fd zs) (A : All P w K mg base ct ad fd n) (cdv : Value) (B : Around) (outer : List Env) (s : Shared) (H : Hp) (E : XK) (hr : Room n (B.deeper (PyProof.Rows.envOfC "_law_bends" (defScope (top 36)) s.heap.objs.size (ad .l_bends) cdv))) :
    PSs (cxOf CX0 P w K mg base ["code", "found", "name", "names", "body", "place", "expression", "k"] "_law_bends" (defScope (top 36)) (ad .l_bends) cdv B outer s H E).nox (defBody (top 36)) (tS ⟨K, ct⟩ E0 (b_l_bends (callT n))) :=
  (qs_cons (sv 1 sc_l_bends.nd (q_lst qa_nil))
  (qs_cons (q_for (own := [2, 3, 4]) PassesOwn.never rfl (qi_seq (qv 0)) (qg_tup rfl (qgs_cons (gv 2 sc_l_bends.nd) (qgs_cons (gv 3 sc_l_bends.nd) (qgs_cons (gv 4 sc_l_bends.nd) qgs_nil)))) (qs_one (q_for (own := [5, 6]) PassesOwn.never rfl (qi_enL (by rfl) (W.z _ (by decide)) (q_call (A .l_tree_spots) hr (by rfl) (W.m .l_tree_spots) (W.F .l_tree_spots).kp (W.b .l_tree_spots) pass0 (qa_cons (qv 4) qa_nil))) (qg_tup rfl (qgs_cons (gv 5 sc_l_bends.nd) (qgs_cons (gv 6 sc_l_bends.nd) qgs_nil))) (qs_one (sv 1 sc_l_bends.nd (q_add (qv 1) (q_lc rfl sc_l_bends.nd (qi_rng1 (by rfl) (W.z _ (by decide)) (q_callB call_lenA o_len (by rfl) (W.z _ (by decide)) PySem.boot_len (qa_cons (q_call (A .l_others_of) hr (by rfl) (W.m .l_others_of) (W.F .l_others_of).kp (W.b .l_others_of) pass0 (qa_cons (qv 6) qa_nil)) qa_nil))) (blkOk_by (own := [("k", 7)]) (by kernel_rfl)) (fun _ _ _ _ _ => (gv 7 sc_l_bends.nd)) (fun _ _ _ _ _ => qts_nil) (fun _ _ _ _ _ => (q_tup (qa_cons (qv 2) (qa_cons (qv 5) (qa_cons (qv 7) qa_nil))))))))))))
  (qs_one (q_ret (qv 1)))))
theorem ok_l_bends (T : Tops w K mg) (W : Defs Fn K mg nm st ps ad fd zs) (A : All P w K mg base ct ad fd n) : FnOk P w K mg base CX0 (n + 1) (ad .l_bends) (fd .l_bends) ["code"] (spOf ⟨K, ct⟩ (callT (n + 1) .l_bends) 1) := by
  have F : Fun K "_law_bends" "_law_bends" (top 36) (ad .l_bends) (fd .l_bends) := W.F .l_bends
  have e : callT (n + 1) .l_bends = fun ds S => noX (runB 8 (b_l_bends (callT n)) ds S) := rfl
  rw [e]
  exact fn_sim0 (N := ["code", "found", "name", "names", "body", "place", "expression", "k"]) (st := top 36) (x := "_law_bends") (qual := "_law_bends") (ps := ["code"]) (b := b_l_bends (callT n)) F sc_l_bends fun cdv B outer s H E hr => t_l_bends T W A cdv B outer s H E hr
theorem t_l_put_at (T : Tops w K mg) (W : Defs Fn K mg nm st ps ad fd zs) (A : All P w K mg base ct ad fd n) (cdv : Value) (B : Around) (outer : List Env) (s : Shared) (H : Hp) (E : XK) (hr : Room n (B.deeper (PyProof.Rows.envOfC "_law_put_at" (defScope (top 37)) s.heap.objs.size (ad .l_put_at) cdv))) :
    PSs (cxOf CX0 P w K mg base ["expression", "place", "other", "start", "inside", "found", "at", "part", "size"] "_law_put_at" (defScope (top 37)) (ad .l_put_at) cdv B outer s H E).nox (defBody (top 37)) (tS ⟨K, ct⟩ E0 (b_l_put_at (callT n))) :=
  (qs_cons (q_if (qt_cmp (op_eq.or (op_eqD hr.units)) o_eq (qv 1) q_int (nomark _)) (qs_one (q_ret (qv 2))) qs_nil)
  (qs_cons (sv 3 sc_l_put_at.nd (q_get2 (u1 hr) (q_disp (.cons q_str q_int QPs.nil)) (q_ix (u1 hr) (qv 0) q_int) q_int))
  (qs_cons (sv 4 sc_l_put_at.nd (q_ifE (qt_cmp (op_inX hr) o_inX (q_ix (u1 hr) (qv 0) q_int) (q_tup (qa_cons q_str (qa_cons q_str qa_nil))) rfl) (q_callTy call_list_of o_list (by rfl) (W.z _ (by decide)) PyProof.Rows.boot_list (qa_cons (q_ix (u1 hr) (qv 0) q_int) qa_nil)) (q_callTy call_list_of o_list (by rfl) (W.z _ (by decide)) PyProof.Rows.boot_list (qa_cons (q_sl (qv 0) (qo_some (qv 3)) qo_none) qa_nil))))
  (qs_cons (sv 5 sc_l_put_at.nd (q_lst qa_nil))
  (qs_cons (sv 6 sc_l_put_at.nd q_int)
  (qs_cons (q_for (own := [7]) PassesOwn.never rfl (qi_seq (qv 4)) (gv 7 sc_l_put_at.nd) (qs_cons (sv 8 sc_l_put_at.nd (q_callB call_lenA o_len (by rfl) (W.z _ (by decide)) PySem.boot_len (qa_cons (q_call (A .l_tree_spots) hr (by rfl) (W.m .l_tree_spots) (W.F .l_tree_spots).kp (W.b .l_tree_spots) pass0 (qa_cons (qv 7) qa_nil)) qa_nil)))
  (qs_cons (q_drop (q_bm PySem.F.plainAttrs_list PySem.F.slot_list_append PySem.F.type_list_append mt_append o_app (qv 5) (qa_cons (q_ifE (qt_two op_le o_le q_lt_op o_ltX (qv 6) (qv 1) (q_add (qv 6) (qv 8))) (q_call (A .l_put_at) hr (by rfl) (W.m .l_put_at) (W.F .l_put_at).kp (W.b .l_put_at) pass0 (qa_cons (qv 7) (qa_cons (q_sub (qv 1) (qv 6)) (qa_cons (qv 2) qa_nil)))) (qv 7)) qa_nil)))
  (qs_one (sv 6 sc_l_put_at.nd (q_add (qv 6) (qv 8)))))))
  (qs_cons (q_if (qt_cmp (op_inX hr) o_inX (q_ix (u1 hr) (qv 0) q_int) (q_tup (qa_cons q_str (qa_cons q_str qa_nil))) rfl) (qs_one (q_ret (q_add (q_sl (qv 0) qo_none (qo_some q_int)) (q_tup (qa_cons (q_callTy call_tuple_of o_tuple (by rfl) (W.z _ (by decide)) PyProof.Rows.boot_tuple (qa_cons (qv 5) qa_nil)) qa_nil))))) qs_nil)
  (qs_one (q_ret (q_add (q_sl (qv 0) qo_none (qo_some (qv 3))) (q_callTy call_tuple_of o_tuple (by rfl) (W.z _ (by decide)) PyProof.Rows.boot_tuple (qa_cons (qv 5) qa_nil))))))))))))
theorem ok_l_put_at (T : Tops w K mg) (W : Defs Fn K mg nm st ps ad fd zs) (A : All P w K mg base ct ad fd n) : FnOk P w K mg base CX0 (n + 1) (ad .l_put_at) (fd .l_put_at) ["expression", "place", "other"] (spOf ⟨K, ct⟩ (callT (n + 1) .l_put_at) 3) := by
  have F : Fun K "_law_put_at" "_law_put_at" (top 37) (ad .l_put_at) (fd .l_put_at) := W.F .l_put_at
  have e : callT (n + 1) .l_put_at = fun ds S => noX (runB 9 (b_l_put_at (callT n)) ds S) := rfl
  rw [e]
  exact fn_sim0 (N := ["expression", "place", "other", "start", "inside", "found", "at", "part", "size"]) (st := top 37) (x := "_law_put_at") (qual := "_law_put_at") (ps := ["expression", "place", "other"]) (b := b_l_put_at (callT n)) F sc_l_put_at fun cdv B outer s H E hr => t_l_put_at T W A cdv B outer s H E hr
theorem t_l_bent (T : Tops w K mg) (W : Defs Fn K mg nm st ps ad fd zs) (A : All P w K mg base ct ad fd n) (cdv : Value) (B : Around) (outer : List Env) (s : Shared) (H : Hp) (E : XK) (hr : Room n (B.deeper (PyProof.Rows.envOfC "_law_bent" (defScope (top 38)) s.heap.objs.size (ad .l_bent) cdv))) :
    PSs (cxOf CX0 P w K mg base ["code", "bend", "found", "name", "names", "body", "other"] "_law_bent" (defScope (top 38)) (ad .l_bent) cdv B outer s H E).nox (defBody (top 38)) (tS ⟨K, ct⟩ E0 (b_l_bent (callT n))) :=
  (qs_cons (sv 2 sc_l_bent.nd (q_lst qa_nil))
  (qs_cons (q_for (own := [3, 4, 5]) PassesOwn.never rfl (qi_seq (qv 0)) (qg_tup rfl (qgs_cons (gv 3 sc_l_bent.nd) (qgs_cons (gv 4 sc_l_bent.nd) (qgs_cons (gv 5 sc_l_bent.nd) qgs_nil)))) (qs_cons (q_if (qt_cmp (op_eq.or (op_eqD hr.units)) o_eq (qv 3) (q_ix (u1 hr) (qv 1) q_int) (nomark _)) (qs_cons (sv 6 sc_l_bent.nd (q_ix (u1 hr) (q_call (A .l_others_of) hr (by rfl) (W.m .l_others_of) (W.F .l_others_of).kp (W.b .l_others_of) pass0 (qa_cons (q_ix (u1 hr) (q_call (A .l_tree_spots) hr (by rfl) (W.m .l_tree_spots) (W.F .l_tree_spots).kp (W.b .l_tree_spots) pass0 (qa_cons (qv 5) qa_nil)) (q_ix (u1 hr) (qv 1) q_int)) qa_nil)) (q_ix (u1 hr) (qv 1) q_int)))
  (qs_one (sv 5 sc_l_bent.nd (q_call (A .l_put_at) hr (by rfl) (W.m .l_put_at) (W.F .l_put_at).kp (W.b .l_put_at) pass0 (qa_cons (qv 5) (qa_cons (q_ix (u1 hr) (qv 1) q_int) (qa_cons (qv 6) qa_nil))))))) qs_nil)
  (qs_one (q_drop (q_bm PySem.F.plainAttrs_list PySem.F.slot_list_append PySem.F.type_list_append mt_append o_app (qv 2) (qa_cons (q_tup (qa_cons (qv 3) (qa_cons (qv 4) (qa_cons (qv 5) qa_nil)))) qa_nil))))))
  (qs_one (q_ret (q_callTy call_tuple_of o_tuple (by rfl) (W.z _ (by decide)) PyProof.Rows.boot_tuple (qa_cons (qv 2) qa_nil))))))
theorem ok_l_bent (T : Tops w K mg) (W : Defs Fn K mg nm st ps ad fd zs) (A : All P w K mg base ct ad fd n) : FnOk P w K mg base CX0 (n + 1) (ad .l_bent) (fd .l_bent) ["code", "bend"] (spOf ⟨K, ct⟩ (callT (n + 1) .l_bent) 2) := by
  have F : Fun K "_law_bent" "_law_bent" (top 38) (ad .l_bent) (fd .l_bent) := W.F .l_bent
  have e : callT (n + 1) .l_bent = fun ds S => noX (runB 7 (b_l_bent (callT n)) ds S) := rfl
  rw [e]
  exact fn_sim0 (N := ["code", "bend", "found", "name", "names", "body", "other"]) (st := top 38) (x := "_law_bent") (qual := "_law_bent") (ps := ["code", "bend"]) (b := b_l_bent (callT n)) F sc_l_bent fun cdv B outer s H E hr => t_l_bent T W A cdv B outer s H E hr
theorem t_l_other_code (T : Tops w K mg) (W : Defs Fn K mg nm st ps ad fd zs) (A : All P w K mg base ct ad fd n) (cdv : Value) (B : Around) (outer : List Env) (s : Shared) (H : Hp) (E : XK) (hr : Room n (B.deeper (PyProof.Rows.envOfC "_law_other_code" (defScope (top 39)) s.heap.objs.size (ad .l_other_code) cdv))) :
    PSs (cxOf CX0 P w K mg base ["deck", "code", "way", "every", "k"] "_law_other_code" (defScope (top 39)) (ad .l_other_code) cdv B outer s H E).nox (defBody (top 39)) (tS ⟨K, ct⟩ E0 (b_l_other_code (callT n))) :=
  (qs_cons (sv 2 sc_l_other_code.nd (q_call (A .l_pick) hr (by rfl) (W.m .l_pick) (W.F .l_pick).kp (W.b .l_pick) pass0 (qa_cons (qv 0) (qa_cons q_int qa_nil))))
  (qs_cons (q_if (qt_cmp (op_eq.or (op_eqD hr.units)) o_eq (qv 2) q_int (nomark _)) (qs_one (q_ret (q_call (A .l_program) hr (by rfl) (W.m .l_program) (W.F .l_program).kp (W.b .l_program) pass0 (qa_cons (qv 0) qa_nil)))) qs_nil)
  (qs_cons (q_if (qt_cmp (op_eq.or (op_eqD hr.units)) o_eq (qv 2) q_int (nomark _)) (qs_cons (sv 4 sc_l_other_code.nd (q_call (A .l_pick) hr (by rfl) (W.m .l_pick) (W.F .l_pick).kp (W.b .l_pick) pass0 (qa_cons (qv 0) (qa_cons (q_callB call_lenA o_len (by rfl) (W.z _ (by decide)) PySem.boot_len (qa_cons (qv 1) qa_nil)) qa_nil))))
  (qs_one (q_ret (q_add (q_sl (qv 1) qo_none (qo_some (qv 4))) (q_sl (qv 1) (qo_some (q_add (qv 4) q_int)) qo_none))))) qs_nil)
  (qs_cons (q_if (qt_cmp (op_eq.or (op_eqD hr.units)) o_eq (qv 2) q_int (nomark _)) (qs_one (q_ret (q_callTy call_tuple_of o_tuple (by rfl) (W.z _ (by decide)) PyProof.Rows.boot_tuple (qa_cons (q_callB call_sortX o_sortX (by rfl) (W.z _ (by decide)) PyProof.Rows.boot_sorted (qa_cons (q_add (qv 1) (q_tup (qa_cons (q_tup (qa_cons q_str (qa_cons (q_tup qa_nil) (qa_cons (q_tup (qa_cons q_str (qa_cons q_int qa_nil))) qa_nil)))) qa_nil))) qa_nil)) qa_nil)))) qs_nil)
  (qs_cons (sv 3 sc_l_other_code.nd (q_call (A .l_bends) hr (by rfl) (W.m .l_bends) (W.F .l_bends).kp (W.b .l_bends) pass0 (qa_cons (qv 1) qa_nil)))
  (qs_one (q_ret (q_ifE (qt_cmp (op_ne.or (op_neD hr.units)) o_ne (qv 3) (q_lst qa_nil) (nomark _)) (q_call (A .l_bent) hr (by rfl) (W.m .l_bent) (W.F .l_bent).kp (W.b .l_bent) pass0 (qa_cons (qv 1) (qa_cons (q_call (A .l_one) hr (by rfl) (W.m .l_one) (W.F .l_one).kp (W.b .l_one) pass0 (qa_cons (qv 0) (qa_cons (qv 3) qa_nil))) qa_nil))) (qv 1)))))))))
theorem ok_l_other_code (T : Tops w K mg) (W : Defs Fn K mg nm st ps ad fd zs) (A : All P w K mg base ct ad fd n) : FnOk P w K mg base CX0 (n + 1) (ad .l_other_code) (fd .l_other_code) ["deck", "code"] (spOf ⟨K, ct⟩ (callT (n + 1) .l_other_code) 2) := by
  have F : Fun K "_law_other_code" "_law_other_code" (top 39) (ad .l_other_code) (fd .l_other_code) := W.F .l_other_code
  have e : callT (n + 1) .l_other_code = fun ds S => noX (runB 5 (b_l_other_code (callT n)) ds S) := rfl
  rw [e]
  exact fn_sim0 (N := ["deck", "code", "way", "every", "k"]) (st := top 39) (x := "_law_other_code") (qual := "_law_other_code") (ps := ["deck", "code"]) (b := b_l_other_code (callT n)) F sc_l_other_code fun cdv B outer s H E hr => t_l_other_code T W A cdv B outer s H E hr
theorem t_law (T : Tops w K mg) (W : Defs Fn K mg nm st ps ad fd zs) (A : All P w K mg base ct ad fd n) (cdv : Value) (B : Around) (outer : List Env) (s : Shared) (H : Hp) (E : XK) (hr : Room n (B.deeper (PyProof.Rows.envOfC "law" (defScope (top 40)) s.heap.objs.size (ad .law) cdv))) :
    PSs (cxOf CX0 P w K mg base ["script", "cell", "deck", "one", "other", "due", "name", "told", "left", "right", "part"] "law" (defScope (top 40)) (ad .law) cdv B outer s H E).nox (defBody (top 40)) (tS ⟨K, ct⟩ E0 (b_law (callT n))) :=
  (qs_cons (q_for (own := [1]) PassesOwn.never rfl (qi_seq (q_sl (q_add (q_lst (qa_cons q_int qa_nil)) (qv 0)) qo_none (qo_some q_int))) (gv 1 sc_law.nd) (qs_cons (sv 2 sc_law.nd (q_call (A .l_deck) hr (by rfl) (W.m .l_deck) (W.F .l_deck).kp (W.b .l_deck) pass0 (qa_cons (qv 1) (qa_cons q_int qa_nil))))
  (qs_cons (sv 3 sc_law.nd (q_call (A .l_program) hr (by rfl) (W.m .l_program) (W.F .l_program).kp (W.b .l_program) pass0 (qa_cons (qv 2) qa_nil)))
  (qs_cons (sv 4 sc_law.nd (q_call (A .l_other_code) hr (by rfl) (W.m .l_other_code) (W.F .l_other_code).kp (W.b .l_other_code) pass0 (qa_cons (qv 2) (qa_cons (qv 3) qa_nil))))
  (qs_cons (q_if (qt_not (qt_val (q_call (A .is_program) hr (by rfl) (W.m .is_program) (W.F .is_program).kp (W.b .is_program) pass0 (qa_cons (qv 4) qa_nil)))) (qs_one (sv 4 sc_law.nd (qv 3))) qs_nil)
  (qs_cons (sv 5 sc_law.nd (q_lst qa_nil))
  (qs_cons (q_for (own := [6]) PassesOwn.never rfl (qi_seq (q_sortSet (by rfl) (W.z _ (by decide)) (by rfl) (W.z _ (by decide)) (q_lc rfl sc_law.nd (qi_seq (q_add (qv 3) (qv 4))) (blkOk_by (own := [("part", 10)]) (by kernel_rfl)) (fun _ _ _ _ _ => (gv 10 sc_law.nd)) (fun _ _ _ _ _ => qts_nil) (fun _ _ _ _ _ => (q_ix (u1 hr) (qv 10) q_int))))) (gv 6 sc_law.nd) (qs_cons (q_setLc (i := 8) rfl sc_law.nd rfl rfl (sw_true rfl rfl rfl rfl) (qi_seq (qv 3)) (blkOk_by (own := [("part", 10)]) (by kernel_rfl)) (fun _ _ _ _ _ => (gv 10 sc_law.nd)) (fun _ _ _ _ _ => (qts_one (qt_cmp (op_eq.or (op_eqD hr.units)) o_eq (q_ix (u1 hr) (qv 10) q_int) (qv 6) (nomark _)))) (fun _ _ _ _ _ => (qv 10)))
  (qs_cons (q_setLc (i := 9) rfl sc_law.nd rfl rfl (sw_true rfl rfl rfl rfl) (qi_seq (qv 4)) (blkOk_by (own := [("part", 10)]) (by kernel_rfl)) (fun _ _ _ _ _ => (gv 10 sc_law.nd)) (fun _ _ _ _ _ => (qts_one (qt_cmp (op_eq.or (op_eqD hr.units)) o_eq (q_ix (u1 hr) (qv 10) q_int) (qv 6) (nomark _)))) (fun _ _ _ _ _ => (qv 10)))
  (qs_one (q_if (qt_cmp (op_ne.or (op_neD hr.units)) o_ne (qv 8) (qv 9) (nomark _)) (qs_one (q_drop (q_bm PySem.F.plainAttrs_list PySem.F.slot_list_append PySem.F.type_list_append mt_append o_app (qv 5) (qa_cons (qv 6) qa_nil)))) qs_nil)))))
  (qs_cons (sv 7 sc_law.nd (q_call (A .parted) hr (by rfl) (W.m .parted) (W.F .parted).kp (W.b .parted) pass0 (qa_cons (qv 3) (qa_cons (qv 4) qa_nil))))
  (qs_cons (q_if (qt_w (qw_or (qt_not (qt_val (q_call (A .l_same) hr (by rfl) (W.m .l_same) (W.F .l_same).kp (W.b .l_same) pass0 (qa_cons (qv 7) (qa_cons (qv 5) qa_nil))))) (qw_or (qt_cmp (op_ne.or (op_neD hr.units)) o_ne (q_call (A .parted) hr (by rfl) (W.m .parted) (W.F .parted).kp (W.b .parted) pass0 (qa_cons (qv 4) (qa_cons (qv 3) qa_nil))) (qv 5) (nomark _)) (qw_or1 (qt_cmp (op_ne.or (op_neD hr.units)) o_ne (q_call (A .parted) hr (by rfl) (W.m .parted) (W.F .parted).kp (W.b .parted) pass0 (qa_cons (qv 3) (qa_cons (qv 3) qa_nil))) (q_lst qa_nil) (nomark _)))))) (qs_one (q_ret q_bl)) qs_nil)
  (qs_cons (q_drop (q_bm PySem.F.plainAttrs_list PySem.F.slot_list_append PySem.F.type_list_append mt_append o_app (qv 7) (qa_cons q_str qa_nil)))
  (qs_one (q_if (qt_w (qw_or (qt_cmp (op_ne.or (op_neD hr.units)) o_ne (q_call (A .parted) hr (by rfl) (W.m .parted) (W.F .parted).kp (W.b .parted) pass0 (qa_cons (qv 3) (qa_cons (qv 4) qa_nil))) (qv 5) (nomark _)) (qw_or1 (qt_cmp (op_ne.or (op_neD hr.units)) o_ne (q_call (A .parted) hr (by rfl) (W.m .parted) (W.F .parted).kp (W.b .parted) pass0 (qa_cons (q_tup qa_nil) (qa_cons (qv 3) qa_nil))) (q_lc rfl sc_law.nd (qi_seq (qv 3)) (blkOk_by (own := [("part", 10)]) (by kernel_rfl)) (fun _ _ _ _ _ => (gv 10 sc_law.nd)) (fun _ _ _ _ _ => qts_nil) (fun _ _ _ _ _ => (q_ix (u1 hr) (qv 10) q_int))) (nomark _))))) (qs_one (q_ret q_bl)) qs_nil))))))))))))
  (qs_one (q_ret q_bl)))
theorem ok_law (T : Tops w K mg) (W : Defs Fn K mg nm st ps ad fd zs) (A : All P w K mg base ct ad fd n) : FnOk P w K mg base CX0 (n + 1) (ad .law) (fd .law) ["script"] (spOf ⟨K, ct⟩ (callT (n + 1) .law) 1) := by
  have F : Fun K "law" "law" (top 40) (ad .law) (fd .law) := W.F .law
  have e : callT (n + 1) .law = fun ds S => noX (runB 11 (b_law (callT n)) ds S) := rfl
  rw [e]
  exact fn_sim0 (N := ["script", "cell", "deck", "one", "other", "due", "name", "told", "left", "right", "part"]) (st := top 40) (x := "law") (qual := "law") (ps := ["script"]) (b := b_law (callT n)) F sc_law fun cdv B outer s H E hr => t_law T W A cdv B outer s H E hr
theorem all_ok (T : Tops w K mg) (W : Defs Fn K mg nm st ps ad fd zs) : ∀ n, All P w K mg base ct ad fd n
  | 0 => fun f => none_left
  | n + 1 => fun f => by
    have A := all_ok T W n
    cases f
    · exact ok_is_from T W A
    · exact ok_is_name T W A
    · exact ok_straight T W A
    · exact ok_are_good T W A
    · exact ok_is_expression T W A
    · exact ok_spots_from T W A
    · exact ok_spots T W A
    · exact ok_is_function T W A
    · exact ok_is_program T W A
    · exact ok_parted T W A
    · exact ok_l_deck T W A
    · exact ok_l_pick T W A
    · exact ok_l_signs T W A
    · exact ok_l_leaf T W A
    · exact ok_l_done_of T W A
    · exact ok_l_tree T W A
    · exact ok_l_program T W A
    · exact ok_l_sort T W A
    · exact ok_l_same T W A
    · exact ok_l_one T W A
    · exact ok_l_tree_spots T W A
    · exact ok_l_others_of T W A
    · exact ok_l_bends T W A
    · exact ok_l_put_at T W A
    · exact ok_l_bent T W A
    · exact ok_l_other_code T W A
    · exact ok_law T W A
end
end K61

namespace K61
open PySem L2 Sm
/-- the law in plain words -/
theorem spec_of (plain : ∀ ns : List Int, ns.length ≤ 63 → ∃ S, callT 60 .law [.frl (ns.map Dv.int)] [] = .ok (.bl true) S) {K : PySem.W.Frag} {ct : Nat → Addr} {H : Hp} {a : Addr} {ns : List Int} (hl : ns.length ≤ 63) (hO : Only H) (hS : SqL K H a (ns.map V.int)) :
    spOf ⟨K, ct⟩ (callT 60 .law) 1 [.ref a] H (fun v _ => v = .bl true) fun _ _ _ => False := by
  obtain ⟨S, e⟩ := plain ns hl
  have hF : FrlAt K H a (ns.map V.int) := by
    rcases hS with (h | h) | h
    · rcases hO a with z | ⟨o, xs, z⟩
      · rw [z] at h; cases h
      · rw [z] at h; cases h
    · exact .inl h
    · exact .inr h
  refine ⟨rfl, [], [], [.frl (ns.map Dv.int)], ⟨rfl, by simp, fun l o h => by simp at h⟩, .cons (.frl hF (VRs.of_ints ns)) .nil, ?_⟩
  rw [e]
  intro ρ' H' b _ _ r
  cases r
  rfl
section
variable {l : PySem.W.OpenLaw} {w : World} {K : PySem.W.Frag} {h : Heap} {mg : Str → Option Value}
theorem all_mk (X : K.In h) (G : h.Ns mainGlobals mg) {fa f0 f1 f2 f3 f4 f5 f6 f7 f8 f9 f10 f11 f12 f13 f14 f15 f16 f17 f18 f19 f20 f21 f22 f23 f24 f25 f26 : Addr} (hfa : mg "law" = some (.ref fa)) {od0 an0 od1 an1 od2 an2 od3 an3 od4 an4 od5 an5 od6 an6 od7 an7 od8 an8 od9 an9 od10 an10 od11 an11 od12 an12 od13 an13 od14 an14 od15 an15 od16 an16 od17 an17 od18 an18 od19 an19 od20 an20 od21 an21 od22 an22 od23 an23 od24 an24 od25 an25 od26 an26 : Option Addr} {sl0 sl1 sl2 sl3 sl4 sl5 sl6 sl7 sl8 sl9 sl10 sl11 sl12 sl13 sl14 sl15 sl16 sl17 sl18 sl19 sl20 sl21 sl22 sl23 sl24 sl25 sl26 : Array (Option Value)} {oc0 kV0 dc0 pm0 cd0 ct0 oc1 kV1 dc1 pm1 cd1 ct1 oc2 kV2 dc2 pm2 cd2 ct2 oc3 kV3 dc3 pm3 cd3 ct3 oc4 kV4 dc4 pm4 cd4 ct4 oc5 kV5 dc5 pm5 cd5 ct5 oc6 kV6 dc6 pm6 cd6 ct6 oc7 kV7 dc7 pm7 cd7 ct7 oc8 kV8 dc8 pm8 cd8 ct8 oc9 kV9 dc9 pm9 cd9 ct9 oc10 kV10 dc10 pm10 cd10 ct10 oc11 kV11 dc11 pm11 cd11 ct11 oc12 kV12 dc12 pm12 cd12 ct12 oc13 kV13 dc13 pm13 cd13 ct13 oc14 kV14 dc14 pm14 cd14 ct14 oc15 kV15 dc15 pm15 cd15 ct15 oc16 kV16 dc16 pm16 cd16 ct16 oc17 kV17 dc17 pm17 cd17 ct17 oc18 kV18 dc18 pm18 cd18 ct18 oc19 kV19 dc19 pm19 cd19 ct19 oc20 kV20 dc20 pm20 cd20 ct20 oc21 kV21 dc21 pm21 cd21 ct21 oc22 kV22 dc22 pm22 cd22 ct22 oc23 kV23 dc23 pm23 cd23 ct23 oc24 kV24 dc24 pm24 cd24 ct24 oc25 kV25 dc25 pm25 cd25 ct25 oc26 kV26 dc26 pm26 cd26 ct26 : Value}
    (a0 : PySem.W.nsIn K mainGlobals "is_from" = some (some (.ref f0))) (l0 : K.lookup f0 = some ⟨oc0, od0, .func (PySem.W.fnOf "is_from" "is_from" (defArgs (top 5)) (defBody (top 5)) (defScope (top 5)) .none kV0 dc0 pm0 an0 cd0 ct0), sl0⟩) (c0 : PySem.W.codeIn K cd0 "is_from" = true) (k0 : PySem.W.keepIn K (.ref f0) = true)
    (a1 : PySem.W.nsIn K mainGlobals "is_name" = some (some (.ref f1))) (l1 : K.lookup f1 = some ⟨oc1, od1, .func (PySem.W.fnOf "is_name" "is_name" (defArgs (top 6)) (defBody (top 6)) (defScope (top 6)) .none kV1 dc1 pm1 an1 cd1 ct1), sl1⟩) (c1 : PySem.W.codeIn K cd1 "is_name" = true) (k1 : PySem.W.keepIn K (.ref f1) = true)
    (a2 : PySem.W.nsIn K mainGlobals "straight" = some (some (.ref f2))) (l2 : K.lookup f2 = some ⟨oc2, od2, .func (PySem.W.fnOf "straight" "straight" (defArgs (top 14)) (defBody (top 14)) (defScope (top 14)) .none kV2 dc2 pm2 an2 cd2 ct2), sl2⟩) (c2 : PySem.W.codeIn K cd2 "straight" = true) (k2 : PySem.W.keepIn K (.ref f2) = true)
    (a3 : PySem.W.nsIn K mainGlobals "are_good" = some (some (.ref f3))) (l3 : K.lookup f3 = some ⟨oc3, od3, .func (PySem.W.fnOf "are_good" "are_good" (defArgs (top 15)) (defBody (top 15)) (defScope (top 15)) .none kV3 dc3 pm3 an3 cd3 ct3), sl3⟩) (c3 : PySem.W.codeIn K cd3 "are_good" = true) (k3 : PySem.W.keepIn K (.ref f3) = true)
    (a4 : PySem.W.nsIn K mainGlobals "is_expression" = some (some (.ref f4))) (l4 : K.lookup f4 = some ⟨oc4, od4, .func (PySem.W.fnOf "is_expression" "is_expression" (defArgs (top 16)) (defBody (top 16)) (defScope (top 16)) .none kV4 dc4 pm4 an4 cd4 ct4), sl4⟩) (c4 : PySem.W.codeIn K cd4 "is_expression" = true) (k4 : PySem.W.keepIn K (.ref f4) = true)
    (a5 : PySem.W.nsIn K mainGlobals "spots_from" = some (some (.ref f5))) (l5 : K.lookup f5 = some ⟨oc5, od5, .func (PySem.W.fnOf "spots_from" "spots_from" (defArgs (top 17)) (defBody (top 17)) (defScope (top 17)) .none kV5 dc5 pm5 an5 cd5 ct5), sl5⟩) (c5 : PySem.W.codeIn K cd5 "spots_from" = true) (k5 : PySem.W.keepIn K (.ref f5) = true)
    (a6 : PySem.W.nsIn K mainGlobals "spots" = some (some (.ref f6))) (l6 : K.lookup f6 = some ⟨oc6, od6, .func (PySem.W.fnOf "spots" "spots" (defArgs (top 18)) (defBody (top 18)) (defScope (top 18)) .none kV6 dc6 pm6 an6 cd6 ct6), sl6⟩) (c6 : PySem.W.codeIn K cd6 "spots" = true) (k6 : PySem.W.keepIn K (.ref f6) = true)
    (a7 : PySem.W.nsIn K mainGlobals "is_function" = some (some (.ref f7))) (l7 : K.lookup f7 = some ⟨oc7, od7, .func (PySem.W.fnOf "is_function" "is_function" (defArgs (top 19)) (defBody (top 19)) (defScope (top 19)) .none kV7 dc7 pm7 an7 cd7 ct7), sl7⟩) (c7 : PySem.W.codeIn K cd7 "is_function" = true) (k7 : PySem.W.keepIn K (.ref f7) = true)
    (a8 : PySem.W.nsIn K mainGlobals "is_program" = some (some (.ref f8))) (l8 : K.lookup f8 = some ⟨oc8, od8, .func (PySem.W.fnOf "is_program" "is_program" (defArgs (top 20)) (defBody (top 20)) (defScope (top 20)) .none kV8 dc8 pm8 an8 cd8 ct8), sl8⟩) (c8 : PySem.W.codeIn K cd8 "is_program" = true) (k8 : PySem.W.keepIn K (.ref f8) = true)
    (a9 : PySem.W.nsIn K mainGlobals "parted" = some (some (.ref f9))) (l9 : K.lookup f9 = some ⟨oc9, od9, .func (PySem.W.fnOf "parted" "parted" (defArgs (top 22)) (defBody (top 22)) (defScope (top 22)) .none kV9 dc9 pm9 an9 cd9 ct9), sl9⟩) (c9 : PySem.W.codeIn K cd9 "parted" = true) (k9 : PySem.W.keepIn K (.ref f9) = true)
    (a10 : PySem.W.nsIn K mainGlobals "_law_deck" = some (some (.ref f10))) (l10 : K.lookup f10 = some ⟨oc10, od10, .func (PySem.W.fnOf "_law_deck" "_law_deck" (defArgs (top 24)) (defBody (top 24)) (defScope (top 24)) .none kV10 dc10 pm10 an10 cd10 ct10), sl10⟩) (c10 : PySem.W.codeIn K cd10 "_law_deck" = true) (k10 : PySem.W.keepIn K (.ref f10) = true)
    (a11 : PySem.W.nsIn K mainGlobals "_law_pick" = some (some (.ref f11))) (l11 : K.lookup f11 = some ⟨oc11, od11, .func (PySem.W.fnOf "_law_pick" "_law_pick" (defArgs (top 25)) (defBody (top 25)) (defScope (top 25)) .none kV11 dc11 pm11 an11 cd11 ct11), sl11⟩) (c11 : PySem.W.codeIn K cd11 "_law_pick" = true) (k11 : PySem.W.keepIn K (.ref f11) = true)
    (a12 : PySem.W.nsIn K mainGlobals "_law_signs" = some (some (.ref f12))) (l12 : K.lookup f12 = some ⟨oc12, od12, .func (PySem.W.fnOf "_law_signs" "_law_signs" (defArgs (top 26)) (defBody (top 26)) (defScope (top 26)) .none kV12 dc12 pm12 an12 cd12 ct12), sl12⟩) (c12 : PySem.W.codeIn K cd12 "_law_signs" = true) (k12 : PySem.W.keepIn K (.ref f12) = true)
    (a13 : PySem.W.nsIn K mainGlobals "_law_leaf" = some (some (.ref f13))) (l13 : K.lookup f13 = some ⟨oc13, od13, .func (PySem.W.fnOf "_law_leaf" "_law_leaf" (defArgs (top 27)) (defBody (top 27)) (defScope (top 27)) .none kV13 dc13 pm13 an13 cd13 ct13), sl13⟩) (c13 : PySem.W.codeIn K cd13 "_law_leaf" = true) (k13 : PySem.W.keepIn K (.ref f13) = true)
    (a14 : PySem.W.nsIn K mainGlobals "_law_done_of" = some (some (.ref f14))) (l14 : K.lookup f14 = some ⟨oc14, od14, .func (PySem.W.fnOf "_law_done_of" "_law_done_of" (defArgs (top 28)) (defBody (top 28)) (defScope (top 28)) .none kV14 dc14 pm14 an14 cd14 ct14), sl14⟩) (c14 : PySem.W.codeIn K cd14 "_law_done_of" = true) (k14 : PySem.W.keepIn K (.ref f14) = true)
    (a15 : PySem.W.nsIn K mainGlobals "_law_tree" = some (some (.ref f15))) (l15 : K.lookup f15 = some ⟨oc15, od15, .func (PySem.W.fnOf "_law_tree" "_law_tree" (defArgs (top 29)) (defBody (top 29)) (defScope (top 29)) .none kV15 dc15 pm15 an15 cd15 ct15), sl15⟩) (c15 : PySem.W.codeIn K cd15 "_law_tree" = true) (k15 : PySem.W.keepIn K (.ref f15) = true)
    (a16 : PySem.W.nsIn K mainGlobals "_law_program" = some (some (.ref f16))) (l16 : K.lookup f16 = some ⟨oc16, od16, .func (PySem.W.fnOf "_law_program" "_law_program" (defArgs (top 30)) (defBody (top 30)) (defScope (top 30)) .none kV16 dc16 pm16 an16 cd16 ct16), sl16⟩) (c16 : PySem.W.codeIn K cd16 "_law_program" = true) (k16 : PySem.W.keepIn K (.ref f16) = true)
    (a17 : PySem.W.nsIn K mainGlobals "_law_sort" = some (some (.ref f17))) (l17 : K.lookup f17 = some ⟨oc17, od17, .func (PySem.W.fnOf "_law_sort" "_law_sort" (defArgs (top 31)) (defBody (top 31)) (defScope (top 31)) .none kV17 dc17 pm17 an17 cd17 ct17), sl17⟩) (c17 : PySem.W.codeIn K cd17 "_law_sort" = true) (k17 : PySem.W.keepIn K (.ref f17) = true)
    (a18 : PySem.W.nsIn K mainGlobals "_law_same" = some (some (.ref f18))) (l18 : K.lookup f18 = some ⟨oc18, od18, .func (PySem.W.fnOf "_law_same" "_law_same" (defArgs (top 32)) (defBody (top 32)) (defScope (top 32)) .none kV18 dc18 pm18 an18 cd18 ct18), sl18⟩) (c18 : PySem.W.codeIn K cd18 "_law_same" = true) (k18 : PySem.W.keepIn K (.ref f18) = true)
    (a19 : PySem.W.nsIn K mainGlobals "_law_one" = some (some (.ref f19))) (l19 : K.lookup f19 = some ⟨oc19, od19, .func (PySem.W.fnOf "_law_one" "_law_one" (defArgs (top 33)) (defBody (top 33)) (defScope (top 33)) .none kV19 dc19 pm19 an19 cd19 ct19), sl19⟩) (c19 : PySem.W.codeIn K cd19 "_law_one" = true) (k19 : PySem.W.keepIn K (.ref f19) = true)
    (a20 : PySem.W.nsIn K mainGlobals "_law_tree_spots" = some (some (.ref f20))) (l20 : K.lookup f20 = some ⟨oc20, od20, .func (PySem.W.fnOf "_law_tree_spots" "_law_tree_spots" (defArgs (top 34)) (defBody (top 34)) (defScope (top 34)) .none kV20 dc20 pm20 an20 cd20 ct20), sl20⟩) (c20 : PySem.W.codeIn K cd20 "_law_tree_spots" = true) (k20 : PySem.W.keepIn K (.ref f20) = true)
    (a21 : PySem.W.nsIn K mainGlobals "_law_others_of" = some (some (.ref f21))) (l21 : K.lookup f21 = some ⟨oc21, od21, .func (PySem.W.fnOf "_law_others_of" "_law_others_of" (defArgs (top 35)) (defBody (top 35)) (defScope (top 35)) .none kV21 dc21 pm21 an21 cd21 ct21), sl21⟩) (c21 : PySem.W.codeIn K cd21 "_law_others_of" = true) (k21 : PySem.W.keepIn K (.ref f21) = true)
    (a22 : PySem.W.nsIn K mainGlobals "_law_bends" = some (some (.ref f22))) (l22 : K.lookup f22 = some ⟨oc22, od22, .func (PySem.W.fnOf "_law_bends" "_law_bends" (defArgs (top 36)) (defBody (top 36)) (defScope (top 36)) .none kV22 dc22 pm22 an22 cd22 ct22), sl22⟩) (c22 : PySem.W.codeIn K cd22 "_law_bends" = true) (k22 : PySem.W.keepIn K (.ref f22) = true)
    (a23 : PySem.W.nsIn K mainGlobals "_law_put_at" = some (some (.ref f23))) (l23 : K.lookup f23 = some ⟨oc23, od23, .func (PySem.W.fnOf "_law_put_at" "_law_put_at" (defArgs (top 37)) (defBody (top 37)) (defScope (top 37)) .none kV23 dc23 pm23 an23 cd23 ct23), sl23⟩) (c23 : PySem.W.codeIn K cd23 "_law_put_at" = true) (k23 : PySem.W.keepIn K (.ref f23) = true)
    (a24 : PySem.W.nsIn K mainGlobals "_law_bent" = some (some (.ref f24))) (l24 : K.lookup f24 = some ⟨oc24, od24, .func (PySem.W.fnOf "_law_bent" "_law_bent" (defArgs (top 38)) (defBody (top 38)) (defScope (top 38)) .none kV24 dc24 pm24 an24 cd24 ct24), sl24⟩) (c24 : PySem.W.codeIn K cd24 "_law_bent" = true) (k24 : PySem.W.keepIn K (.ref f24) = true)
    (a25 : PySem.W.nsIn K mainGlobals "_law_other_code" = some (some (.ref f25))) (l25 : K.lookup f25 = some ⟨oc25, od25, .func (PySem.W.fnOf "_law_other_code" "_law_other_code" (defArgs (top 39)) (defBody (top 39)) (defScope (top 39)) .none kV25 dc25 pm25 an25 cd25 ct25), sl25⟩) (c25 : PySem.W.codeIn K cd25 "_law_other_code" = true) (k25 : PySem.W.keepIn K (.ref f25) = true)
    (a26 : PySem.W.nsIn K mainGlobals "law" = some (some (.ref f26))) (l26 : K.lookup f26 = some ⟨oc26, od26, .func (PySem.W.fnOf "law" "law" (defArgs (top 40)) (defBody (top 40)) (defScope (top 40)) .none kV26 dc26 pm26 an26 cd26 ct26), sl26⟩) (c26 : PySem.W.codeIn K cd26 "law" = true) (k26 : PySem.W.keepIn K (.ref f26) = true)
    (z0 : PySem.W.nsIn K mainGlobals "all" = some none)
    (z1 : PySem.W.nsIn K mainGlobals "bool" = some none)
    (z2 : PySem.W.nsIn K mainGlobals "enumerate" = some none)
    (z3 : PySem.W.nsIn K mainGlobals "int" = some none)
    (z4 : PySem.W.nsIn K mainGlobals "isinstance" = some none)
    (z5 : PySem.W.nsIn K mainGlobals "len" = some none)
    (z6 : PySem.W.nsIn K mainGlobals "list" = some none)
    (z7 : PySem.W.nsIn K mainGlobals "range" = some none)
    (z8 : PySem.W.nsIn K mainGlobals "set" = some none)
    (z9 : PySem.W.nsIn K mainGlobals "sorted" = some none)
    (z10 : PySem.W.nsIn K mainGlobals "str" = some none)
    (z11 : PySem.W.nsIn K mainGlobals "tuple" = some none)
    (z12 : PySem.W.nsIn K mainGlobals "zip" = some none)
    {ac_COUNTS : Addr} {ec_COUNTS : Array DictEntry} {nc_COUNTS : Nat} (zc_COUNTS : PySem.W.nsIn K mainGlobals "COUNTS" = some (some (.ref ac_COUNTS))) (lc_COUNTS : K.lookup ac_COUNTS = some ⟨.type "dict", none, .dict ec_COUNTS nc_COUNTS, #[]⟩) (wc_COUNTS : PySem.W.KeysLit w.params ec_COUNTS.toList) (oc_COUNTS : (ac_COUNTS == sysModules) = false) (vc_COUNTS : Paired (fun (p : Str × Int) (e : DictEntry) => (∃ t, e.key = .str p.1 t) ∧ ∃ t, e.val = .int p.2 t) k_COUNTS ec_COUNTS.toList)
    {ac_KEPT : Addr} {dc_KEPT : Option Addr} {ic_KEPT : Array Value} {nc_KEPT : Nat} {sc_KEPT : Array (Option Value)} (zc_KEPT : PySem.W.nsIn K mainGlobals "KEPT" = some (some (.ref ac_KEPT))) (lc_KEPT : K.lookup ac_KEPT = some ⟨.type "tuple", dc_KEPT, .seq ic_KEPT nc_KEPT, sc_KEPT⟩) (wc_KEPT : ic_KEPT.size ≤ sizeLine) (vc_KEPT : Vals (k_KEPT.map V.str) ic_KEPT.toList)
    {tc_LETTERS : Tok} (zc_LETTERS : PySem.W.nsIn K mainGlobals "LETTERS" = some (some (.str "abcdefghijklmnopqrstuvwxyz" tc_LETTERS)))
    {tc_MOST_DEEP : Tok} (zc_MOST_DEEP : PySem.W.nsIn K mainGlobals "MOST_DEEP" = some (some (.int 8 tc_MOST_DEEP)))
    {tc_MOST_FUNCTIONS : Tok} (zc_MOST_FUNCTIONS : PySem.W.nsIn K mainGlobals "MOST_FUNCTIONS" = some (some (.int 12 tc_MOST_FUNCTIONS)))
    {tc_MOST_PARAMETERS : Tok} (zc_MOST_PARAMETERS : PySem.W.nsIn K mainGlobals "MOST_PARAMETERS" = some (some (.int 4 tc_MOST_PARAMETERS)))
    {tc_MOST_ROW : Tok} (zc_MOST_ROW : PySem.W.nsIn K mainGlobals "MOST_ROW" = some (some (.int 6 tc_MOST_ROW)))
    {tc_MOST_SPOTS : Tok} (zc_MOST_SPOTS : PySem.W.nsIn K mainGlobals "MOST_SPOTS" = some (some (.int 60 tc_MOST_SPOTS)))
    {tc_SMALL : Tok} (zc_SMALL : PySem.W.nsIn K mainGlobals "SMALL" = some (some (.int 1000 tc_SMALL)))
    {ac_WORDS : Addr} {dc_WORDS : Option Addr} {ic_WORDS : Array Value} {nc_WORDS : Nat} {sc_WORDS : Array (Option Value)} (zc_WORDS : PySem.W.nsIn K mainGlobals "WORDS" = some (some (.ref ac_WORDS))) (lc_WORDS : K.lookup ac_WORDS = some ⟨.type "tuple", dc_WORDS, .seq ic_WORDS nc_WORDS, sc_WORDS⟩) (wc_WORDS : ic_WORDS.size ≤ sizeLine) (vc_WORDS : Vals (k_WORDS.map V.str) ic_WORDS.toList)
    : ∃ fd : FuncData, (∀ (s : Shared) (v : Value), BindsTo s fd ⟨[v], []⟩ [("script", v)]) ∧ ∀ base : Heap, K.In base → base.Ns mainGlobals mg → FnOk l.prog w K mg base CX0 60 fa fd ["script"] (spOf ⟨K, fun _ => 0⟩ (callT 60 .law) 1) := by
  have e := hfa.symm.trans (PySem.W.mg_of X G a26)
  cases e
  have F0 := fun_mk (st := top 5) l0 c0 k0
  have b0 := F0.binds (ps := ["thing", "low", "high"]) fun _ _ _ _ _ _ us hl => match us, hl with | [_, _, _], _ => rfl
  have F1 := fun_mk (st := top 6) l1 c1 k1
  have b1 := F1.binds (ps := ["thing"]) fun _ _ _ _ _ _ us hl => match us, hl with | [_], _ => rfl
  have F2 := fun_mk (st := top 14) l2 c2 k2
  have b2 := F2.binds (ps := ["expression"]) fun _ _ _ _ _ _ us hl => match us, hl with | [_], _ => rfl
  have F3 := fun_mk (st := top 15) l3 c3 k3
  have b3 := F3.binds (ps := ["things", "names", "deep"]) fun _ _ _ _ _ _ us hl => match us, hl with | [_, _, _], _ => rfl
  have F4 := fun_mk (st := top 16) l4 c4 k4
  have b4 := F4.binds (ps := ["thing", "names", "deep"]) fun _ _ _ _ _ _ us hl => match us, hl with | [_, _, _], _ => rfl
  have F5 := fun_mk (st := top 17) l5 c5 k5
  have b5 := F5.binds (ps := ["expression"]) fun _ _ _ _ _ _ us hl => match us, hl with | [_], _ => rfl
  have F6 := fun_mk (st := top 18) l6 c6 k6
  have b6 := F6.binds (ps := ["function"]) fun _ _ _ _ _ _ us hl => match us, hl with | [_], _ => rfl
  have F7 := fun_mk (st := top 19) l7 c7 k7
  have b7 := F7.binds (ps := ["thing"]) fun _ _ _ _ _ _ us hl => match us, hl with | [_], _ => rfl
  have F8 := fun_mk (st := top 20) l8 c8 k8
  have b8 := F8.binds (ps := ["thing"]) fun _ _ _ _ _ _ us hl => match us, hl with | [_], _ => rfl
  have F9 := fun_mk (st := top 22) l9 c9 k9
  have b9 := F9.binds (ps := ["one", "other"]) fun _ _ _ _ _ _ us hl => match us, hl with | [_, _], _ => rfl
  have F10 := fun_mk (st := top 24) l10 c10 k10
  have b10 := F10.binds (ps := ["cell", "turn"]) fun _ _ _ _ _ _ us hl => match us, hl with | [_, _], _ => rfl
  have F11 := fun_mk (st := top 25) l11 c11 k11
  have b11 := F11.binds (ps := ["deck", "many"]) fun _ _ _ _ _ _ us hl => match us, hl with | [_, _], _ => rfl
  have F12 := fun_mk (st := top 26) l12 c12 k12
  have b12 := F12.binds (ps := []) fun _ _ _ _ _ _ us hl => match us, hl with | [], _ => rfl
  have F13 := fun_mk (st := top 27) l13 c13 k13
  have b13 := F13.binds (ps := ["deck", "kind", "scope"]) fun _ _ _ _ _ _ us hl => match us, hl with | [_, _, _], _ => rfl
  have F14 := fun_mk (st := top 28) l14 c14 k14
  have b14 := F14.binds (ps := ["deck", "kind", "scope", "calls", "deep"]) fun _ _ _ _ _ _ us hl => match us, hl with | [_, _, _, _, _], _ => rfl
  have F15 := fun_mk (st := top 29) l15 c15 k15
  have b15 := F15.binds (ps := ["deck", "kind", "scope", "calls", "deep"]) fun _ _ _ _ _ _ us hl => match us, hl with | [_, _, _, _, _], _ => rfl
  have F16 := fun_mk (st := top 30) l16 c16 k16
  have b16 := F16.binds (ps := ["deck"]) fun _ _ _ _ _ _ us hl => match us, hl with | [_], _ => rfl
  have F17 := fun_mk (st := top 31) l17 c17 k17
  have b17 := F17.binds (ps := ["thing"]) fun _ _ _ _ _ _ us hl => match us, hl with | [_], _ => rfl
  have F18 := fun_mk (st := top 32) l18 c18 k18
  have b18 := F18.binds (ps := ["told", "due"]) fun _ _ _ _ _ _ us hl => match us, hl with | [_, _], _ => rfl
  have F19 := fun_mk (st := top 33) l19 c19 k19
  have b19 := F19.binds (ps := ["deck", "some"]) fun _ _ _ _ _ _ us hl => match us, hl with | [_, _], _ => rfl
  have F20 := fun_mk (st := top 34) l20 c20 k20
  have b20 := F20.binds (ps := ["expression"]) fun _ _ _ _ _ _ us hl => match us, hl with | [_], _ => rfl
  have F21 := fun_mk (st := top 35) l21 c21 k21
  have b21 := F21.binds (ps := ["expression"]) fun _ _ _ _ _ _ us hl => match us, hl with | [_], _ => rfl
  have F22 := fun_mk (st := top 36) l22 c22 k22
  have b22 := F22.binds (ps := ["code"]) fun _ _ _ _ _ _ us hl => match us, hl with | [_], _ => rfl
  have F23 := fun_mk (st := top 37) l23 c23 k23
  have b23 := F23.binds (ps := ["expression", "place", "other"]) fun _ _ _ _ _ _ us hl => match us, hl with | [_, _, _], _ => rfl
  have F24 := fun_mk (st := top 38) l24 c24 k24
  have b24 := F24.binds (ps := ["code", "bend"]) fun _ _ _ _ _ _ us hl => match us, hl with | [_, _], _ => rfl
  have F25 := fun_mk (st := top 39) l25 c25 k25
  have b25 := F25.binds (ps := ["deck", "code"]) fun _ _ _ _ _ _ us hl => match us, hl with | [_, _], _ => rfl
  have F26 := fun_mk (st := top 40) l26 c26 k26
  have b26 := F26.binds (ps := ["script"]) fun _ _ _ _ _ _ us hl => match us, hl with | [_], _ => rfl
  let ad : Fn → Addr := fun f => match f with
    | .is_from => f0
    | .is_name => f1
    | .straight => f2
    | .are_good => f3
    | .is_expression => f4
    | .spots_from => f5
    | .spots => f6
    | .is_function => f7
    | .is_program => f8
    | .parted => f9
    | .l_deck => f10
    | .l_pick => f11
    | .l_signs => f12
    | .l_leaf => f13
    | .l_done_of => f14
    | .l_tree => f15
    | .l_program => f16
    | .l_sort => f17
    | .l_same => f18
    | .l_one => f19
    | .l_tree_spots => f20
    | .l_others_of => f21
    | .l_bends => f22
    | .l_put_at => f23
    | .l_bent => f24
    | .l_other_code => f25
    | .law => fa
  let fd : Fn → FuncData := fun f => match f with
    | .is_from => PySem.W.fnOf "is_from" "is_from" (defArgs (top 5)) (defBody (top 5)) (defScope (top 5)) .none kV0 dc0 pm0 an0 cd0 ct0
    | .is_name => PySem.W.fnOf "is_name" "is_name" (defArgs (top 6)) (defBody (top 6)) (defScope (top 6)) .none kV1 dc1 pm1 an1 cd1 ct1
    | .straight => PySem.W.fnOf "straight" "straight" (defArgs (top 14)) (defBody (top 14)) (defScope (top 14)) .none kV2 dc2 pm2 an2 cd2 ct2
    | .are_good => PySem.W.fnOf "are_good" "are_good" (defArgs (top 15)) (defBody (top 15)) (defScope (top 15)) .none kV3 dc3 pm3 an3 cd3 ct3
    | .is_expression => PySem.W.fnOf "is_expression" "is_expression" (defArgs (top 16)) (defBody (top 16)) (defScope (top 16)) .none kV4 dc4 pm4 an4 cd4 ct4
    | .spots_from => PySem.W.fnOf "spots_from" "spots_from" (defArgs (top 17)) (defBody (top 17)) (defScope (top 17)) .none kV5 dc5 pm5 an5 cd5 ct5
    | .spots => PySem.W.fnOf "spots" "spots" (defArgs (top 18)) (defBody (top 18)) (defScope (top 18)) .none kV6 dc6 pm6 an6 cd6 ct6
    | .is_function => PySem.W.fnOf "is_function" "is_function" (defArgs (top 19)) (defBody (top 19)) (defScope (top 19)) .none kV7 dc7 pm7 an7 cd7 ct7
    | .is_program => PySem.W.fnOf "is_program" "is_program" (defArgs (top 20)) (defBody (top 20)) (defScope (top 20)) .none kV8 dc8 pm8 an8 cd8 ct8
    | .parted => PySem.W.fnOf "parted" "parted" (defArgs (top 22)) (defBody (top 22)) (defScope (top 22)) .none kV9 dc9 pm9 an9 cd9 ct9
    | .l_deck => PySem.W.fnOf "_law_deck" "_law_deck" (defArgs (top 24)) (defBody (top 24)) (defScope (top 24)) .none kV10 dc10 pm10 an10 cd10 ct10
    | .l_pick => PySem.W.fnOf "_law_pick" "_law_pick" (defArgs (top 25)) (defBody (top 25)) (defScope (top 25)) .none kV11 dc11 pm11 an11 cd11 ct11
    | .l_signs => PySem.W.fnOf "_law_signs" "_law_signs" (defArgs (top 26)) (defBody (top 26)) (defScope (top 26)) .none kV12 dc12 pm12 an12 cd12 ct12
    | .l_leaf => PySem.W.fnOf "_law_leaf" "_law_leaf" (defArgs (top 27)) (defBody (top 27)) (defScope (top 27)) .none kV13 dc13 pm13 an13 cd13 ct13
    | .l_done_of => PySem.W.fnOf "_law_done_of" "_law_done_of" (defArgs (top 28)) (defBody (top 28)) (defScope (top 28)) .none kV14 dc14 pm14 an14 cd14 ct14
    | .l_tree => PySem.W.fnOf "_law_tree" "_law_tree" (defArgs (top 29)) (defBody (top 29)) (defScope (top 29)) .none kV15 dc15 pm15 an15 cd15 ct15
    | .l_program => PySem.W.fnOf "_law_program" "_law_program" (defArgs (top 30)) (defBody (top 30)) (defScope (top 30)) .none kV16 dc16 pm16 an16 cd16 ct16
    | .l_sort => PySem.W.fnOf "_law_sort" "_law_sort" (defArgs (top 31)) (defBody (top 31)) (defScope (top 31)) .none kV17 dc17 pm17 an17 cd17 ct17
    | .l_same => PySem.W.fnOf "_law_same" "_law_same" (defArgs (top 32)) (defBody (top 32)) (defScope (top 32)) .none kV18 dc18 pm18 an18 cd18 ct18
    | .l_one => PySem.W.fnOf "_law_one" "_law_one" (defArgs (top 33)) (defBody (top 33)) (defScope (top 33)) .none kV19 dc19 pm19 an19 cd19 ct19
    | .l_tree_spots => PySem.W.fnOf "_law_tree_spots" "_law_tree_spots" (defArgs (top 34)) (defBody (top 34)) (defScope (top 34)) .none kV20 dc20 pm20 an20 cd20 ct20
    | .l_others_of => PySem.W.fnOf "_law_others_of" "_law_others_of" (defArgs (top 35)) (defBody (top 35)) (defScope (top 35)) .none kV21 dc21 pm21 an21 cd21 ct21
    | .l_bends => PySem.W.fnOf "_law_bends" "_law_bends" (defArgs (top 36)) (defBody (top 36)) (defScope (top 36)) .none kV22 dc22 pm22 an22 cd22 ct22
    | .l_put_at => PySem.W.fnOf "_law_put_at" "_law_put_at" (defArgs (top 37)) (defBody (top 37)) (defScope (top 37)) .none kV23 dc23 pm23 an23 cd23 ct23
    | .l_bent => PySem.W.fnOf "_law_bent" "_law_bent" (defArgs (top 38)) (defBody (top 38)) (defScope (top 38)) .none kV24 dc24 pm24 an24 cd24 ct24
    | .l_other_code => PySem.W.fnOf "_law_other_code" "_law_other_code" (defArgs (top 39)) (defBody (top 39)) (defScope (top 39)) .none kV25 dc25 pm25 an25 cd25 ct25
    | .law => PySem.W.fnOf "law" "law" (defArgs (top 40)) (defBody (top 40)) (defScope (top 40)) .none kV26 dc26 pm26 an26 cd26 ct26
  have W : Defs Fn K mg nm st ps ad fd zs := by
    refine ⟨fun f => ?_, fun f => ?_, fun f => ?_, fun x hx => ?_⟩
    · cases f
      · exact F0
      · exact F1
      · exact F2
      · exact F3
      · exact F4
      · exact F5
      · exact F6
      · exact F7
      · exact F8
      · exact F9
      · exact F10
      · exact F11
      · exact F12
      · exact F13
      · exact F14
      · exact F15
      · exact F16
      · exact F17
      · exact F18
      · exact F19
      · exact F20
      · exact F21
      · exact F22
      · exact F23
      · exact F24
      · exact F25
      · exact F26
    · cases f
      · exact PySem.W.mg_of X G a0
      · exact PySem.W.mg_of X G a1
      · exact PySem.W.mg_of X G a2
      · exact PySem.W.mg_of X G a3
      · exact PySem.W.mg_of X G a4
      · exact PySem.W.mg_of X G a5
      · exact PySem.W.mg_of X G a6
      · exact PySem.W.mg_of X G a7
      · exact PySem.W.mg_of X G a8
      · exact PySem.W.mg_of X G a9
      · exact PySem.W.mg_of X G a10
      · exact PySem.W.mg_of X G a11
      · exact PySem.W.mg_of X G a12
      · exact PySem.W.mg_of X G a13
      · exact PySem.W.mg_of X G a14
      · exact PySem.W.mg_of X G a15
      · exact PySem.W.mg_of X G a16
      · exact PySem.W.mg_of X G a17
      · exact PySem.W.mg_of X G a18
      · exact PySem.W.mg_of X G a19
      · exact PySem.W.mg_of X G a20
      · exact PySem.W.mg_of X G a21
      · exact PySem.W.mg_of X G a22
      · exact PySem.W.mg_of X G a23
      · exact PySem.W.mg_of X G a24
      · exact PySem.W.mg_of X G a25
      · exact PySem.W.mg_of X G a26
    · cases f
      · exact b0
      · exact b1
      · exact b2
      · exact b3
      · exact b4
      · exact b5
      · exact b6
      · exact b7
      · exact b8
      · exact b9
      · exact b10
      · exact b11
      · exact b12
      · exact b13
      · exact b14
      · exact b15
      · exact b16
      · exact b17
      · exact b18
      · exact b19
      · exact b20
      · exact b21
      · exact b22
      · exact b23
      · exact b24
      · exact b25
      · exact b26
    · have hx : x ∈ (["all", "bool", "enumerate", "int", "isinstance", "len", "list", "range", "set", "sorted", "str", "tuple", "zip"] : List Str) := hx
      simp only [List.mem_cons, List.not_mem_nil, or_false] at hx
      rcases hx with rfl | rfl | rfl | rfl | rfl | rfl | rfl | rfl | rfl | rfl | rfl | rfl | rfl
      · exact PySem.W.mg_none_of X G z0
      · exact PySem.W.mg_none_of X G z1
      · exact PySem.W.mg_none_of X G z2
      · exact PySem.W.mg_none_of X G z3
      · exact PySem.W.mg_none_of X G z4
      · exact PySem.W.mg_none_of X G z5
      · exact PySem.W.mg_none_of X G z6
      · exact PySem.W.mg_none_of X G z7
      · exact PySem.W.mg_none_of X G z8
      · exact PySem.W.mg_none_of X G z9
      · exact PySem.W.mg_none_of X G z10
      · exact PySem.W.mg_none_of X G z11
      · exact PySem.W.mg_none_of X G z12
  have T : Tops w K mg := by
    refine ⟨?_, ?_, ?_, ?_, ?_, ?_, ?_, ?_, ?_, ?_⟩
    · exact ⟨_, PySem.W.mg_of X G zc_COUNTS, _, _, lc_COUNTS, wc_COUNTS, oc_COUNTS, vc_COUNTS⟩
    · exact ⟨_, PySem.W.mg_of X G zc_KEPT, _, _, _, lc_KEPT, rfl, rfl, wc_KEPT, vc_KEPT⟩
    · exact ⟨_, PySem.W.mg_of X G zc_LETTERS⟩
    · exact ⟨_, PySem.W.mg_of X G zc_MOST_DEEP⟩
    · exact ⟨_, PySem.W.mg_of X G zc_MOST_FUNCTIONS⟩
    · exact ⟨_, PySem.W.mg_of X G zc_MOST_PARAMETERS⟩
    · exact ⟨_, PySem.W.mg_of X G zc_MOST_ROW⟩
    · exact ⟨_, PySem.W.mg_of X G zc_MOST_SPOTS⟩
    · exact ⟨_, PySem.W.mg_of X G zc_SMALL⟩
    · exact ⟨_, PySem.W.mg_of X G zc_WORDS, _, _, _, lc_WORDS, rfl, rfl, wc_WORDS, vc_WORDS⟩
  exact ⟨fd .law, fun s v => .of_eq rfl, fun base _ _ => all_ok T W 60 .law⟩
end
theorem walk (plain : ∀ ns : List Int, ns.length ≤ 63 → ∃ S, callT 60 .law [.frl (ns.map Dv.int)] [] = .ok (.bl true) S) {l : PySem.W.OpenLaw} {q : Program} {loose : List Str} {XP : (Str → Option Value) → Heap → Prop} {YP : World → Heap → Prop} {d : DefRec} {K : Params → PySem.W.Frag} (hn : l.most = some 63) (hdf : d.params.defaults = [])
    (hY : ∀ (w : World) (h : Heap), YP w h → (K w.params).In h)
    (F : ∀ (w : World) (mg : Str → Option Value) (fa : Addr) (h : Heap), (K w.params).In h → h.Ns mainGlobals mg → mg d.name = some (.ref fa) →
      ∃ fd : FuncData, (∀ (s : Shared) (u : Value), BindsTo s fd ⟨[u], []⟩ [("script", u)]) ∧ ∀ base : Heap, (K w.params).In base → base.Ns mainGlobals mg → FnOk l.prog w (K w.params) mg base CX0 60 fa fd ["script"] (spOf ⟨K w.params, fun _ => 0⟩ (callT 60 .law) 1)) :
    PySem.W.WalkO q loose XP YP l.row.toRowW d [] (fun f vs => PySem.call f vs) :=
  L2.walk_of (n := 63) (k := 60) (x := "script") (CX := fun _ => CX0) (sp := fun w => spOf ⟨K w.params, fun _ => 0⟩ (callT 60 .law) 1) hn (by decide) hdf ⟨rfl, by decide, by decide⟩ hY F (fun w H a ns hl hO hS => spec_of plain hl hO hS) fun _ _ _ _ _ z => z
end K61

namespace K61
open PySem L2 Sm
local macro_rules | `(tactic| walk_at "sm") => `(tactic| repeat (first | with_reducible refine k_it ?_ | with_reducible refine k_rng1 ?_ | with_reducible refine k_enS ?_ | with_reducible refine k_enL ?_ | with_reducible refine k_zipT ?_ | with_reducible refine k_pn ?_ | with_reducible refine k_pc ?_ | with_reducible refine k_c ?_ | with_reducible refine k_bin ?_ | with_reducible refine k_nil ?_ | with_reducible refine k_cons ?_ | with_reducible refine k_tup ?_ | with_reducible refine k_lst ?_ | with_reducible refine k_tst ?_ | with_reducible refine k_and ?_ | with_reducible refine k_or ?_ | with_reducible refine k_not ?_ | with_reducible refine k_ifE ?_ | with_reducible refine k_sub ?_ | with_reducible refine k_ltX ?_ | with_reducible refine k_ltSX ?_ | with_reducible refine k_lt ?_ | with_reducible refine k_le ?_ | with_reducible refine k_gt ?_ | with_reducible refine k_ge ?_ | with_reducible refine k_neg ?_ | with_reducible refine k_two ?_ | with_reducible refine k_addI ?_ | with_reducible refine k_eqS ?_ | with_reducible refine k_neS ?_ | with_reducible refine k_eqI ?_ | with_reducible refine k_slT ?_ | with_reducible refine k_sl ?_ | with_reducible refine k_no ?_ | with_reducible refine k_pt ?_ | with_reducible refine k_app ?_ | with_reducible refine k_intI ?_ | with_reducible refine k_intB ?_ | with_reducible refine k_mtS ?_ | with_reducible refine k_mtL ?_ | with_reducible refine k_mtD ?_ | with_reducible refine k_call ?_ | with_reducible refine k_dnew ?_ | with_reducible refine k_fmt ?_ | with_reducible refine k_js0 ?_ | with_reducible refine k_js ?_ | with_reducible refine k_gN ?_ | with_reducible refine k_gC ?_ | with_reducible refine k_g0 ?_ | with_reducible refine k_gStar ?_ | with_reducible refine k_gS ?_ | with_reducible refine k_kget ?_ | with_reducible refine k_un ?_ | with_reducible refine k_revT ?_ | with_reducible refine k_inSX ?_ | with_reducible refine s_set ?_ | with_reducible refine s_drop ?_ | with_reducible refine s_asg ?_ | with_reducible refine s_if ?_ | with_reducible refine s_nx ?_ | with_reducible refine s_ret ?_ | with_reducible refine s_seq ?_ | with_reducible refine l_ret ?_ | with_reducible refine l_set ?_ | with_reducible refine l_drop ?_ | with_reducible refine l_asg ?_ | with_reducible refine l_nx ?_ | with_reducible refine l_if ?_ | ((with_reducible apply k_var); rfl) | ((with_reducible apply k_ixT); rfl) | ((with_reducible apply k_inT); rfl; rfl) | ((with_reducible apply k_in); rfl; rfl; rfl) | ((with_reducible refine k_gT ?_ ?_); rfl) | ((with_reducible apply k_isi); rfl; rfl) | ((with_reducible apply k_isiT); rfl; rfl) | with_reducible refine And.intro (fun _ => ?_) (fun h => absurd h (by decide +kernel)) | with_reducible refine And.intro (fun h => absurd h (by decide +kernel)) (fun _ => ?_) | ((with_reducible refine And.intro ?_ ?_); rfl) | ((with_reducible apply Exists.intro); (with_reducible apply And.intro); rfl)))
local macro_rules | `(tactic| walk_at "smb") => `(tactic| repeat' (first | with_reducible refine k_it ?_ | with_reducible refine k_rng1 ?_ | with_reducible refine k_enS ?_ | with_reducible refine k_enL ?_ | with_reducible refine k_zipT ?_ | with_reducible refine k_pn ?_ | with_reducible refine k_pc ?_ | with_reducible refine k_c ?_ | with_reducible refine k_bin ?_ | with_reducible refine k_nil ?_ | with_reducible refine k_cons ?_ | with_reducible refine k_tup ?_ | with_reducible refine k_lst ?_ | with_reducible refine k_tst ?_ | with_reducible refine k_and ?_ | with_reducible refine k_or ?_ | with_reducible refine k_not ?_ | with_reducible refine k_ifE ?_ | with_reducible refine k_sub ?_ | with_reducible refine k_ltX ?_ | with_reducible refine k_ltSX ?_ | with_reducible refine k_lt ?_ | with_reducible refine k_le ?_ | with_reducible refine k_gt ?_ | with_reducible refine k_ge ?_ | with_reducible refine k_neg ?_ | with_reducible refine k_two ?_ | with_reducible refine k_addI ?_ | with_reducible refine k_eqS ?_ | with_reducible refine k_neS ?_ | with_reducible refine k_eqI ?_ | with_reducible refine k_slT ?_ | with_reducible refine k_sl ?_ | with_reducible refine k_no ?_ | with_reducible refine k_pt ?_ | with_reducible refine k_app ?_ | with_reducible refine k_intI ?_ | with_reducible refine k_intB ?_ | with_reducible refine k_mtS ?_ | with_reducible refine k_mtL ?_ | with_reducible refine k_mtD ?_ | with_reducible refine k_call ?_ | with_reducible refine k_dnew ?_ | with_reducible refine k_fmt ?_ | with_reducible refine k_js0 ?_ | with_reducible refine k_js ?_ | with_reducible refine k_gN ?_ | with_reducible refine k_gC ?_ | with_reducible refine k_g0 ?_ | with_reducible refine k_gStar ?_ | with_reducible refine k_gS ?_ | with_reducible refine k_kget ?_ | with_reducible refine k_un ?_ | with_reducible refine k_revT ?_ | with_reducible refine k_inSX ?_ | with_reducible refine s_set ?_ | with_reducible refine s_drop ?_ | with_reducible refine s_asg ?_ | with_reducible refine s_if ?_ | with_reducible refine s_nx ?_ | with_reducible refine s_ret ?_ | with_reducible refine s_seq ?_ | with_reducible refine l_ret ?_ | with_reducible refine l_set ?_ | with_reducible refine l_drop ?_ | with_reducible refine l_asg ?_ | with_reducible refine l_nx ?_ | with_reducible refine l_if ?_ | ((with_reducible apply k_var); rfl) | ((with_reducible apply k_ixT); rfl) | ((with_reducible apply k_inT); rfl; rfl) | ((with_reducible apply k_in); rfl; rfl; rfl) | ((with_reducible refine k_gT ?_ ?_); rfl) | ((with_reducible apply k_isi); rfl; rfl) | ((with_reducible apply k_isiT); rfl; rfl) | with_reducible refine And.intro (fun _ => ?_) (fun h => absurd h (by decide +kernel)) | with_reducible refine And.intro (fun h => absurd h (by decide +kernel)) (fun _ => ?_) | ((with_reducible refine And.intro ?_ ?_); rfl) | ((with_reducible apply Exists.intro); (with_reducible apply And.intro); rfl) | with_reducible refine And.intro (fun _ => ?_) (fun _ => ?_)))
local macro_rules | `(tactic| walk_at "smv") => `(tactic| repeat (first | exact val_hitS (by decide +kernel) | refine (val_missS (by decide +kernel)).trans ?_))
local macro_rules | `(tactic| walk_at "smd") => `(tactic| repeat (first | exact dc_new | exact ls_new | refine dc_app ?_ | refine ls_app ?_))
theorem w_of {c : Tab Fn} {f : Fn} {ds : List Dv} {S : Store} {Q : Dv → Store → Prop} (h : Ok (body f c (startD (sz f) ds) S) (fin Q)) : Ok (run c f ds S) Q := by
  unfold run runB
  obtain ⟨fl, S1, e, h⟩ := h.get
  rw [e]
  cases fl with
  | nx δ => exact h
  | rt d => exact h
  | bk δ => exact h
  | ct δ => exact h
theorem pick_ok (n : Nat) {l : Nat} {B many : Int} {S : Store} (h : Dk l B S) (hB : B ≤ 2 ^ 39) (h1 : 1 ≤ many) (h2 : many ≤ 1000000) :
    Ok (callT (n + 1) .l_pick [.ref l, .int many] S) (Dr l (B + 1) S fun v _ => ∃ r, v = .int r ∧ 0 ≤ r ∧ r < many) := by
  obtain ⟨a, b, c, e, ha, hb, hb2, hc, hcB⟩ := h
  have ll := ls_lt e
  have sml : ∀ x : Int, 0 ≤ x → x < 18446744073709551616 → powOk x 5 = true ∧ powOk x 3 = true := fun x h0 h1 => by
    constructor <;> exact decide_eq_true ⟨by decide, by decide, by omega⟩
  refine w_of (f := .l_pick) ?_
  show Ok (b_l_pick (callT n) [some (.ref l), some (.int many), none, none] S) _
  unfold b_l_pick
  walk_at "sm"
  refine k_ixL e rfl ?_
  walk_at "sm"
  refine ⟨fun hgt => ?_, fun hle => ?_⟩
  · have hgt := of_decide_eq_true hgt
    walk_at "sm"
    refine k_ixL e rfl ?_
    walk_at "sm"
    refine k_mod (by omega) ?_
    walk_at "sm"
    refine k_ixL e rfl ?_
    walk_at "sm"
    refine k_div (by omega) ?_
    walk_at "sm"
    refine k_setL e rfl ?_
    walk_at "sm"
    refine ⟨Kp.refl.set (.inr (by simp)), ⟨a / many, b, c, ls_set ll, Int.ediv_nonneg ha (by omega), hb, hb2, hc, by omega⟩, a % many, rfl, Int.emod_nonneg _ (by omega), Int.emod_lt_of_pos _ (by omega)⟩
  · walk_at "sm"
    refine k_ixL e rfl ?_
    walk_at "sm"
    refine k_setL e rfl ?_
    walk_at "sm"
    have e2 : lsAt (S.set l (.lst [.int a, .int b, .int (c + 1)])) l = some [.int a, .int b, .int (c + 1)] := ls_set ll
    refine k_ixL e2 rfl ?_
    walk_at "sm"
    refine k_ixL e2 rfl ?_
    walk_at "sm"
    refine k_mul (mul1 (by omega)) ?_
    walk_at "sm"
    refine k_pow (sml _ (by omega) (by omega)).1 ?_
    walk_at "sm"
    refine k_mod (by decide) ?_
    generalize hx : (b + 15485867 * (c + 1)) ^ (5 : Int).toNat % 2147483647 = x
    have x0 : 0 ≤ x := by rw [← hx]; exact Int.emod_nonneg _ (by decide)
    have x1 : x < 2147483647 := by rw [← hx]; exact Int.emod_lt_of_pos _ (by decide)
    walk_at "sm"
    refine k_ixL e2 rfl ?_
    walk_at "sm"
    refine k_mul (mul1 (by omega)) ?_
    walk_at "sm"
    refine k_pow (sml _ (by omega) (by omega)).2 ?_
    walk_at "sm"
    refine k_mod (by decide) ?_
    walk_at "sm"
    refine k_div (by decide) ?_
    walk_at "sm"
    refine ⟨fun hgt => absurd (of_decide_eq_true hgt) (by omega), fun _ => ?_⟩
    walk_at "sm"
    refine k_mod (by omega) ?_
    refine ⟨Kp.refl.set (.inr (by simp)), ⟨a, b, c + 1, e2, ha, hb, hb2, by omega, by omega⟩, _, rfl, Int.emod_nonneg _ (by omega), Int.emod_lt_of_pos _ (by omega)⟩
/-- the cards of a cell -/
theorem deck_ok (n : Nat) {cell : Int} {S : Store} : Ok (callT (n + 1) .l_deck [.int cell, .int 19] S) fun v S' => ∃ l, v = .ref l ∧ Kp [] S S' ∧ Dk l 19 S' ∧ S.length ≤ l := by
  refine w_of (f := .l_deck) ?_
  show Ok (b_l_deck (callT n) [some (.int cell), some (.int 19)] S) _
  unfold b_l_deck
  have m0 : 0 ≤ cell % 2147483579 := Int.emod_nonneg _ (by decide)
  have m1 : cell % 2147483579 < 2147483579 := Int.emod_lt_of_pos _ (by decide)
  walk_at "sm"
  refine k_pow (i := 10) (j := 18) (by decide) ?_
  walk_at "sm"
  refine ⟨fun h => ?_, fun h => ?_⟩
  · have h := of_decide_eq_true h
    walk_at "sm"
    refine k_pow (i := 10) (j := 18) (by decide) ?_
    walk_at "sm"
    refine k_mod (by decide) ?_
    walk_at "sm"
    refine ⟨_, rfl, Kp.refl.app, ⟨_, _, _, ls_new, ?_, m0, by omega, by decide, by decide⟩, Nat.le_refl _⟩
    have h2 : (10 : Int) ^ (18 : Int).toNat ≤ cell := h
    omega
  · walk_at "sm"
    refine k_mod (by decide) ?_
    walk_at "sm"
    exact ⟨_, rfl, Kp.refl.app, ⟨_, _, _, ls_new, by decide, m0, by omega, by decide, by decide⟩, Nat.le_refl _⟩
/-! ### the signatures -/
def sigT : Str → Str
  | ⟨#[102]⟩ => "number" | ⟨#[103]⟩ => "number" | _ => "truth"
def sigA : Str → List Str
  | ⟨#[102]⟩ => ["number"] | ⟨#[103]⟩ => ["row"] | ⟨#[104]⟩ => ["number", "number"] | ⟨#[112]⟩ => ["number"] | _ => ["number", "row"]
def fnName (z : Str) : Prop := z = ⟨#[102]⟩ ∨ z = ⟨#[103]⟩ ∨ z = ⟨#[104]⟩ ∨ z = ⟨#[112]⟩ ∨ z = ⟨#[116]⟩
def Sigs (v : Dv) (S : Store) : Prop := ∃ d kvs, v = .ref d ∧ dcAt S d = some kvs ∧ ∀ z, fnName z → ∃ r, valD kvs (.inr z) = some (.tup [.ref r, .str (sigT z)]) ∧ lsAt S r = some ((sigA z).map Dv.str)
theorem signs_ok (n : Nat) {S : Store} : Ok (callT (n + 1) .l_signs [] S) fun v S' => Kp [] S S' ∧ Sigs v S' := by
  refine w_of (f := .l_signs) ?_
  show Ok (b_l_signs (callT n) [] S) _
  unfold b_l_signs
  walk_at "sm"
  refine k_disp ?_
  walk_at "sm"
  refine ⟨by walk_at "smd", Nat.le_of_ble_eq_true rfl, ?_⟩
  rw [merge_strs ["f", "g", "h", "p", "t"] rfl (by decide +kernel)]
  have lt : S.length < (S ++ [Ob.dct []] ++ [Ob.lst [Dv.str "number"]] ++ [Ob.lst [Dv.str "row"]] ++ [Ob.lst [Dv.str "number", Dv.str "number"]] ++ [Ob.lst [Dv.str "number"]] ++ [Ob.lst [Dv.str "number", Dv.str "row"]]).length := by simp
  refine ⟨Kp.refl.app.app.app.app.app.app.set (.inl (Nat.le_refl _)), _, _, rfl, dc_set lt, fun z hz => ?_⟩
  rcases hz with rfl | rfl | rfl | rfl | rfl
  · refine ⟨_, by walk_at "smv", ?_⟩
    rw [ls_ne (by simp)]
    walk_at "smd"
  · refine ⟨_, by walk_at "smv", ?_⟩
    rw [ls_ne (by simp)]
    walk_at "smd"
  · refine ⟨_, by walk_at "smv", ?_⟩
    rw [ls_ne (by simp)]
    walk_at "smd"
  · refine ⟨_, by walk_at "smv", ?_⟩
    rw [ls_ne (by simp)]
    walk_at "smd"
  · refine ⟨_, by walk_at "smv", ?_⟩
    rw [ls_ne (by simp)]
    walk_at "smd"
/-! ### the grammar of what is drawn -/
def kind (k : Str) : Prop := k = "number" ∨ k = "truth" ∨ k = "row"
/-- a name of a scope -/
def shortName (x : Str) : Prop := x.length ≤ 2 ∧ PyData.strOk x = true
def ScOk (m : Nat) (sc : List Dv) : Prop := sc.length ≤ m ∧ ∀ d ∈ sc, ∃ x k, d = .tup [.str x, .str k] ∧ shortName x ∧ kind k
def smallI (i : Int) : Prop := i.natAbs < 100000
/-- how many args some words ask -/
def Ar (w : Str) (n : Nat) : Prop := (w = "not" → 1 ≤ n) ∧ (w = "below" → 2 ≤ n)
inductive WE : Nat → Dv → Prop
  | name {d : Nat} {x : Str} : x.length ≤ 2 → PyData.strOk x = true → WE d (.tup [.str "name", .str x])
  | num {d : Nat} {i : Int} : smallI i → WE d (.tup [.str "number", .int i])
  | truth {d : Nat} {b : Bool} : WE d (.tup [.str "truth", .bl b])
  | row {d : Nat} {is : List Int} : is.length ≤ 8 → (∀ i ∈ is, smallI i) → WE d (.tup [.str "row", .tup (is.map Dv.int)])
  | doo {d : Nat} {h w : Str} {as : List Dv} : (h = "do" ∨ h = "call") → w.length ≤ 10 → PyData.strOk w = true → Ar w as.length → as.length ≤ 4 → (∀ a ∈ as, WE d a) → WE (d + 1) (.tup [.str h, .str w, .tup as])
  | iff {d : Nat} {a b c : Dv} : WE d a → WE d b → WE d c → WE (d + 1) (.tup [.str "if", a, b, c])
  | lett {d : Nat} {x : Str} {a b : Dv} : x.length ≤ 2 → PyData.strOk x = true → WE d a → WE d b → WE (d + 1) (.tup [.str "let", .str x, a, b])
theorem WE.up {d : Nat} {v : Dv} (h : WE d v) : WE (d + 1) v := by
  induction h with
  | name h h2 => exact .name h h2
  | num h => exact .num h
  | truth => exact .truth
  | row h h2 => exact .row h h2
  | doo h1 h2 h0 ha h3 h4 ih => exact .doo h1 h2 h0 ha h3 ih
  | iff h1 h2 h3 i1 i2 i3 => exact .iff i1 i2 i3
  | lett h h0 h1 h2 i1 i2 => exact .lett h h0 i1 i2
theorem WE.le {d e : Nat} {v : Dv} (h : WE d v) (k : d ≤ e) : WE e v := by
  induction k with
  | refl => exact h
  | step _ ih => exact ih.up
/-- how pick is used -/
theorem use_pick {n : Nat} {l : Nat} {B many : Int} {S : Store} {Q : Dv → Store → Prop} (hn : 1 ≤ n) (h : Dk l B S) (hB : B ≤ 549755813888) (h1 : 1 ≤ many) (h2 : many ≤ 1000000)
    (k : ∀ r S', 0 ≤ r → r < many → Kp [l] S S' → Dk l (B + 1) S' → Q (.int r) S') : Ok (callT n .l_pick [.ref l, .int many] S) Q := by
  obtain ⟨m, rfl⟩ : ∃ m, n = m + 1 := ⟨n - 1, by omega⟩
  exact (pick_ok m h hB h1 h2).imp fun v S' ⟨h1, h2, r, e, h3, h4⟩ => by
    subst e
    exact k r S' h3 h4 h1 h2
def kindIs (k : Str) : Dv → Bool
  | .tup [.str _, .str j] => decide (j = k)
  | _ => false
def nameOf : Dv → Dv
  | .tup [.str x, _] => .str x
  | d => d
theorem leaf_ok {n : Nat} {l s : Nat} {B : Int} {kd : Str} {sc : List Dv} {m : Nat} {S : Store} (hn : 2 ≤ n) (h : Dk l B S) (hB : B + 12 ≤ 549755813888) (hk : kind kd) (hs : lsAt S s = some sc) (hsl : s ≠ l) (ho : ScOk m sc) (hm : m ≤ 1000) :
    Ok (callT n .l_leaf [.ref l, .str kd, .ref s] S) (Dr l (B + 10) S fun v _ => WE 1 v) := by
  obtain ⟨n, rfl⟩ : ∃ k, n = k + 1 := ⟨n - 1, by omega⟩
  refine w_of (f := .l_leaf) ?_
  show Ok (b_l_leaf (callT n) [some (.ref l), some (.str kd), some (.ref s), none, none, none, none] S) _
  unfold b_l_leaf
  have lS := h.lt
  have l1 := ho.1
  walk_at "sm"
  refine k_lcF ?_
  walk_at "sm"
  refine ⟨_, it_ref hs, sc, kindIs kd, nameOf, Nat.le_refl _, by omega, fun i S1 k => it_at hs k (by simp), fun d S1 hd k => ?_, fun S1 hL k1 => ?_⟩
  · obtain ⟨x, k', rfl, hx, hk'⟩ := ho.2 d hd
    walk_at "sm"
    refine ⟨Kp.refl, fun _ => ?_⟩
    walk_at "sm"
    exact Kp.refl
  generalize hnm : (sc.filter (kindIs kd)).map nameOf = nm at hL
  have nm1 : ∀ d ∈ nm, ∃ x, d = .str x ∧ shortName x := fun d hd => by
    rw [← hnm] at hd
    obtain ⟨e, he, rfl⟩ := List.mem_map.mp hd
    obtain ⟨x, k', rfl, hx, _⟩ := ho.2 e (List.mem_filter.mp he).1
    exact ⟨x, rfl, hx⟩
  have nm2 : nm.all isStr = true := List.all_eq_true.mpr fun d hd => by
    obtain ⟨x, rfl, hx⟩ := nm1 d hd
    exact hx.2
  have nm3 : nm.length ≤ 1000 := by
    rw [← hnm, List.length_map]
    exact Nat.le_trans (List.length_filter_le _ _) (by omega)
  have d1 : Dk l B S1 := h.kp k1 (by simp)
  have kk1 : Kp [l] S S1 := k1.any
  have nl : S.length ≠ l := by omega
  refine s_if (Ok.imp (P := fun k S2 => Kp [l] S1 S2 ∧ Dk l (B + 1) S2 ∧ (k = true → nm ≠ [])) ?_ ?_)
  · refine k_and ?_
    walk_at "sm"
    refine k_neNil (ls_app hL) nm2 ls_new ?_
    walk_at "sm"
    refine ⟨fun hne => ?_, fun _ => ⟨Kp.refl.app, d1.app.up (by omega), fun z => by cases z⟩⟩
    have hne : nm ≠ [] := by simpa using hne
    walk_at "sm"
    refine use_pick (by omega) d1.app (by omega) (by decide) (by decide) fun r S2 r0 r1 k2 d2 => ?_
    walk_at "sm"
    exact ⟨Kp.refl.app.trans k2, d2, fun _ => hne⟩
  rintro k S2 ⟨k2, d2, hne⟩
  have hL2 := k2.ls (not1 nl) hL
  have kk2 := kk1.trans k2
  refine ⟨fun e => ?_, fun _ => ?_⟩
  · have hne := hne e
    have pos : 0 < nm.length := List.length_pos_iff.mpr hne
    walk_at "sm"
    refine k_len (show lenOf S2 (.ref S.length) = some nm.length by unfold lenOf; dsimp only; rw [hL2]) ?_
    walk_at "sm"
    refine use_pick (by omega) d2 (by omega) (by omega) (by omega) fun r S3 r0 r1 k3 d3 => ?_
    obtain ⟨y, hy, hmem⟩ := at_get r0 r1
    obtain ⟨x, rfl, hx⟩ := nm1 y hmem
    refine k_ixL (k3.ls (not1 nl) hL2) hy ?_
    walk_at "sm"
    exact ⟨kk2.trans k3, d3.up (by omega), .name hx.1 hx.2⟩
  · rcases hk with rfl | rfl | rfl
    · walk_at "sm"
      refine use_pick (by omega) d2 (by omega) (by decide) (by decide) fun r S3 r0 r1 k3 d3 => ?_
      walk_at "sm"
      refine ⟨fun _ => ?_, fun _ => ?_⟩
      · walk_at "sm"
        exact ⟨kk2.trans k3, d3.up (by omega), .doo (.inl rfl) (by decide) (by decide +kernel) ⟨fun h => absurd h (by decide +kernel), fun h => absurd h (by decide +kernel)⟩ (by decide) (fun a ha => by cases ha)⟩
      · walk_at "sm"
        refine use_pick (by omega) d3 (by omega) (by decide) (by decide) fun a S4 a0 a1 k4 d4 => ?_
        walk_at "sm"
        refine use_pick (by omega) d4 (by omega) (by decide) (by decide) fun b S5 b0 b1 k5 d5 => ?_
        walk_at "sm"
        refine use_pick (by omega) d5.app (by omega) (by decide) (by decide) fun c S6 c0 c1 k6 d6 => ?_
        walk_at "sm"
        have l5 := d5.lt
        obtain ⟨y, hy, sy⟩ : ∃ y, atI [Dv.int (a - 3), .int (b - 1000)] (if decide (c = 0) = true then 1 else 0) = some (.int y) ∧ smallI y := by
          by_cases hc : decide (c = 0) = true
          · rw [if_pos hc]; exact ⟨_, rfl, by unfold smallI; omega⟩
          · rw [if_neg hc]; exact ⟨_, rfl, by unfold smallI; omega⟩
        refine k_ixL (k6.ls (not1 (by omega)) ls_new) hy ?_
        walk_at "sm"
        exact ⟨(((kk2.trans k3).trans k4).trans k5).app.trans k6, d6.up (by omega), .num sy⟩
    · walk_at "sm"
      refine use_pick (by omega) d2 (by omega) (by decide) (by decide) fun r S3 r0 r1 k3 d3 => ?_
      walk_at "sm"
      exact ⟨kk2.trans k3, d3.up (by omega), .truth⟩
    · walk_at "sm"
      refine k_lcM ?_
      walk_at "sm"
      refine use_pick (by omega) d2 (by omega) (by decide) (by decide) fun r S3 r0 r1 k3 d3 => ?_
      have l3 := d3.lt
      refine ⟨r, rfl, ⟨by omega, by omega⟩, rng r.toNat, [l], fun i S => Dk l (B + 2 + (i : Nat)) S, fun _ d => ∃ y, d = .int y ∧ smallI y, by rw [rng_len]; exact Nat.le_refl _, by rw [rng_len]; omega, by simpa using l3, fun i S _ => rng_at _ _, d3.app.up (by omega), fun i S v x => x.set (by omega), fun i d S hd _ x => ?_, fun ys S' hl hy hL' k' x => ?_⟩
      · have hi := (rng_val hd).2
        walk_at "sm"
        refine use_pick (by omega) x (by omega) (by decide) (by decide) fun a S4 a0 a1 k4 d4 => ?_
        walk_at "sm"
        exact ⟨⟨_, rfl, by unfold smallI; omega⟩, k4, d4.up (by omega)⟩
      · rw [rng_len] at hl x
        walk_at "sm"
        refine k_tuple hL' ?_
        obtain ⟨is, rfl, hi⟩ := ints_of hy
        walk_at "sm"
        refine ⟨(kk2.trans k3).trans k', x.up (by omega), .row ?_ hi⟩
        rw [List.length_map] at hl
        omega
/-! ### trees -/
theorem use_leaf {n : Nat} {l s : Nat} {B : Int} {kd : Str} {sc : List Dv} {m : Nat} {S : Store} {Q : Dv → Store → Prop} (hn : 2 ≤ n) (h : Dk l B S) (hB : B + 12 ≤ 549755813888) (hk : kind kd) (hs : lsAt S s = some sc) (hsl : s ≠ l) (ho : ScOk m sc) (hm : m ≤ 1000)
    (k : ∀ v S', Kp [l] S S' → Dk l (B + 10) S' → WE 1 v → Q v S') : Ok (callT n .l_leaf [.ref l, .str kd, .ref s] S) Q := (leaf_ok hn h hB hk hs hsl ho hm).imp fun v S' ⟨a, b, c⟩ => k v S' a b c
theorem use_signs {n : Nat} {S : Store} {Q : Dv → Store → Prop} (hn : 1 ≤ n) (k : ∀ v S', Kp [] S S' → Sigs v S' → Q v S') : Ok (callT n .l_signs [] S) Q := by
  obtain ⟨m, rfl⟩ : ∃ m, n = m + 1 := ⟨n - 1, by omega⟩
  exact (signs_ok m).imp fun v S' ⟨a, b⟩ => k v S' a b
def cost : Nat → Int
  | 0 => 100
  | d + 1 => 4 * cost d
theorem cost_pos : ∀ d, 100 ≤ cost d
  | 0 => by decide
  | d + 1 => by
    have := cost_pos d
    show 100 ≤ 4 * cost d
    omega
def CallsOk (cs : Str) : Prop := cs.length ≤ 5 ∧ ∀ c ∈ cs.cps.toList, fnName ⟨#[c]⟩
/-- what a tree of that depth asks and promises -/
def TreeOk (n dp : Nat) : Prop := ∀ (l s : Nat) (B : Int) (kd cs : Str) (sc : List Dv) (m : Nat) (S : Store), Dk l B S → B + cost dp ≤ 549755813888 → kind kd → lsAt S s = some sc → s ≠ l → ScOk m sc → m + dp ≤ 200 → CallsOk cs →
  Ok (callT n .l_tree [.ref l, .str kd, .ref s, .str cs, .int (dp : Nat)] S) (Dr l (B + cost dp) S fun v _ => WE (dp + 1) v)
theorem use_tree {n dp : Nat} {l s : Nat} {B C : Int} {kd cs : Str} {sc : List Dv} {m : Nat} {S : Store} {i : Int} {Q : Dv → Store → Prop} (T : TreeOk n dp) (h : Dk l B S) (hi : i = (dp : Nat)) (hC : C = B + cost dp) (hB : C ≤ 549755813888) (hk : kind kd) (hs : lsAt S s = some sc) (hsl : s ≠ l) (ho : ScOk m sc) (hm : m + dp ≤ 200) (hc : CallsOk cs)
    (k : ∀ v S', Kp [l] S S' → Dk l C S' → WE (dp + 1) v → Q v S') : Ok (callT n .l_tree [.ref l, .str kd, .ref s, .str cs, .int i] S) Q := by
  subst hi hC
  exact (T l s B kd cs sc m S h hB hk hs hsl ho hm hc).imp fun v S' ⟨a, b, c⟩ => k v S' a b c
end K61

namespace K61
open PySem L2 Sm
local macro_rules | `(tactic| walk_at "sm") => `(tactic| repeat (first | with_reducible refine k_it ?_ | with_reducible refine k_rng1 ?_ | with_reducible refine k_enS ?_ | with_reducible refine k_enL ?_ | with_reducible refine k_zipT ?_ | with_reducible refine k_pn ?_ | with_reducible refine k_pc ?_ | with_reducible refine k_c ?_ | with_reducible refine k_bin ?_ | with_reducible refine k_nil ?_ | with_reducible refine k_cons ?_ | with_reducible refine k_tup ?_ | with_reducible refine k_lst ?_ | with_reducible refine k_tst ?_ | with_reducible refine k_and ?_ | with_reducible refine k_or ?_ | with_reducible refine k_not ?_ | with_reducible refine k_ifE ?_ | with_reducible refine k_sub ?_ | with_reducible refine k_ltX ?_ | with_reducible refine k_ltSX ?_ | with_reducible refine k_lt ?_ | with_reducible refine k_le ?_ | with_reducible refine k_gt ?_ | with_reducible refine k_ge ?_ | with_reducible refine k_neg ?_ | with_reducible refine k_two ?_ | with_reducible refine k_addI ?_ | with_reducible refine k_eqS ?_ | with_reducible refine k_neS ?_ | with_reducible refine k_eqI ?_ | with_reducible refine k_slT ?_ | with_reducible refine k_sl ?_ | with_reducible refine k_no ?_ | with_reducible refine k_pt ?_ | with_reducible refine k_app ?_ | with_reducible refine k_intI ?_ | with_reducible refine k_intB ?_ | with_reducible refine k_mtS ?_ | with_reducible refine k_mtL ?_ | with_reducible refine k_mtD ?_ | with_reducible refine k_call ?_ | with_reducible refine k_dnew ?_ | with_reducible refine k_fmt ?_ | with_reducible refine k_js0 ?_ | with_reducible refine k_js ?_ | with_reducible refine k_gN ?_ | with_reducible refine k_gC ?_ | with_reducible refine k_g0 ?_ | with_reducible refine k_gStar ?_ | with_reducible refine k_gS ?_ | with_reducible refine k_kget ?_ | with_reducible refine k_un ?_ | with_reducible refine k_revT ?_ | with_reducible refine k_inSX ?_ | with_reducible refine s_set ?_ | with_reducible refine s_drop ?_ | with_reducible refine s_asg ?_ | with_reducible refine s_if ?_ | with_reducible refine s_nx ?_ | with_reducible refine s_ret ?_ | with_reducible refine s_seq ?_ | with_reducible refine l_ret ?_ | with_reducible refine l_set ?_ | with_reducible refine l_drop ?_ | with_reducible refine l_asg ?_ | with_reducible refine l_nx ?_ | with_reducible refine l_if ?_ | ((with_reducible apply k_var); rfl) | ((with_reducible apply k_ixT); rfl) | ((with_reducible apply k_inT); rfl; rfl) | ((with_reducible apply k_in); rfl; rfl; rfl) | ((with_reducible refine k_gT ?_ ?_); rfl) | ((with_reducible apply k_isi); rfl; rfl) | ((with_reducible apply k_isiT); rfl; rfl) | with_reducible refine And.intro (fun _ => ?_) (fun h => absurd h (by decide +kernel)) | with_reducible refine And.intro (fun h => absurd h (by decide +kernel)) (fun _ => ?_) | ((with_reducible refine And.intro ?_ ?_); rfl) | ((with_reducible apply Exists.intro); (with_reducible apply And.intro); rfl)))
local macro_rules | `(tactic| walk_at "smb") => `(tactic| repeat' (first | with_reducible refine k_it ?_ | with_reducible refine k_rng1 ?_ | with_reducible refine k_enS ?_ | with_reducible refine k_enL ?_ | with_reducible refine k_zipT ?_ | with_reducible refine k_pn ?_ | with_reducible refine k_pc ?_ | with_reducible refine k_c ?_ | with_reducible refine k_bin ?_ | with_reducible refine k_nil ?_ | with_reducible refine k_cons ?_ | with_reducible refine k_tup ?_ | with_reducible refine k_lst ?_ | with_reducible refine k_tst ?_ | with_reducible refine k_and ?_ | with_reducible refine k_or ?_ | with_reducible refine k_not ?_ | with_reducible refine k_ifE ?_ | with_reducible refine k_sub ?_ | with_reducible refine k_ltX ?_ | with_reducible refine k_ltSX ?_ | with_reducible refine k_lt ?_ | with_reducible refine k_le ?_ | with_reducible refine k_gt ?_ | with_reducible refine k_ge ?_ | with_reducible refine k_neg ?_ | with_reducible refine k_two ?_ | with_reducible refine k_addI ?_ | with_reducible refine k_eqS ?_ | with_reducible refine k_neS ?_ | with_reducible refine k_eqI ?_ | with_reducible refine k_slT ?_ | with_reducible refine k_sl ?_ | with_reducible refine k_no ?_ | with_reducible refine k_pt ?_ | with_reducible refine k_app ?_ | with_reducible refine k_intI ?_ | with_reducible refine k_intB ?_ | with_reducible refine k_mtS ?_ | with_reducible refine k_mtL ?_ | with_reducible refine k_mtD ?_ | with_reducible refine k_call ?_ | with_reducible refine k_dnew ?_ | with_reducible refine k_fmt ?_ | with_reducible refine k_js0 ?_ | with_reducible refine k_js ?_ | with_reducible refine k_gN ?_ | with_reducible refine k_gC ?_ | with_reducible refine k_g0 ?_ | with_reducible refine k_gStar ?_ | with_reducible refine k_gS ?_ | with_reducible refine k_kget ?_ | with_reducible refine k_un ?_ | with_reducible refine k_revT ?_ | with_reducible refine k_inSX ?_ | with_reducible refine s_set ?_ | with_reducible refine s_drop ?_ | with_reducible refine s_asg ?_ | with_reducible refine s_if ?_ | with_reducible refine s_nx ?_ | with_reducible refine s_ret ?_ | with_reducible refine s_seq ?_ | with_reducible refine l_ret ?_ | with_reducible refine l_set ?_ | with_reducible refine l_drop ?_ | with_reducible refine l_asg ?_ | with_reducible refine l_nx ?_ | with_reducible refine l_if ?_ | ((with_reducible apply k_var); rfl) | ((with_reducible apply k_ixT); rfl) | ((with_reducible apply k_inT); rfl; rfl) | ((with_reducible apply k_in); rfl; rfl; rfl) | ((with_reducible refine k_gT ?_ ?_); rfl) | ((with_reducible apply k_isi); rfl; rfl) | ((with_reducible apply k_isiT); rfl; rfl) | with_reducible refine And.intro (fun _ => ?_) (fun h => absurd h (by decide +kernel)) | with_reducible refine And.intro (fun h => absurd h (by decide +kernel)) (fun _ => ?_) | ((with_reducible refine And.intro ?_ ?_); rfl) | ((with_reducible apply Exists.intro); (with_reducible apply And.intro); rfl) | with_reducible refine And.intro (fun _ => ?_) (fun _ => ?_)))
local macro_rules | `(tactic| walk_at "smv") => `(tactic| repeat (first | exact val_hitS (by decide +kernel) | refine (val_missS (by decide +kernel)).trans ?_))
local macro_rules | `(tactic| walk_at "smd") => `(tactic| repeat (first | exact dc_new | exact ls_new | refine dc_app ?_ | refine ls_app ?_))
/-- a list of kinds -/
def KL (S : Store) (d : Dv) : Prop := ∃ (r : Nat) (ks : List Str), d = .ref r ∧ lsAt S r = some (ks.map Dv.str) ∧ (∀ k ∈ ks, kind k) ∧ ks.length ≤ 2 ∧ 1 ≤ ks.length
theorem KL.kp {S S' : Store} {d : Dv} {D : List Nat} (h : KL S d) (k : Kp D S S') (n : ∀ r, d = .ref r → r ∉ D) : KL S' d := let ⟨r, ks, e, h1, h2⟩ := h; ⟨r, ks, e, k.ls (n r e) h1, h2⟩
theorem kinds_list {S : Store} {r : Nat} {ks : List Str} (h : lsAt S r = some (ks.map Dv.str)) (h2 : ∀ k ∈ ks, kind k) (h3 : ks.length ≤ 2) (h4 : 1 ≤ ks.length := by decide) : KL S (.ref r) := ⟨r, ks, rfl, h, h2, h3, h4⟩
theorem val_map_ne {k j : Key} {d : Dv} (h : k ≠ j) : ∀ kvs : List (Key × Dv), valD (kvs.map fun kv => if kv.1 = k then (kv.1, d) else kv) j = valD kvs j
  | [] => rfl
  | (p, x) :: r => by
    have ih := val_map_ne (d := d) h r
    rw [List.map_cons]
    by_cases e : p = k
    · subst e
      rw [if_pos rfl, val_miss h, val_miss h, ih]
    · rw [if_neg e]
      by_cases e2 : p = j
      · subst e2
        rw [val_hit, val_hit]
      · rw [val_miss e2, val_miss e2, ih]
theorem val_app_ne {k j : Key} {d : Dv} (h : k ≠ j) : ∀ kvs : List (Key × Dv), valD (kvs ++ [(k, d)]) j = valD kvs j
  | [] => val_miss h
  | (p, x) :: r => by
    rw [List.cons_append]
    by_cases e2 : p = j
    · subst e2
      rw [val_hit, val_hit]
    · rw [val_miss e2, val_miss e2, val_app_ne h r]
theorem val_put_ne {kvs : List (Key × Dv)} {k j : Key} {d : Dv} (h : k ≠ j) : valD (putD kvs k d) j = valD kvs j := by
  unfold putD
  split
  · exact val_map_ne h kvs
  · exact val_app_ne h kvs
theorem KL_put {S : Store} {d : Nat} {kvs : List (Key × Dv)} {ks : List Str} {key : Key} (hdc : dcAt S d = some kvs) (h : ∀ kv ∈ kvs, KL S kv.2) (hk : ∀ k ∈ ks, kind k) (h2 : ks.length ≤ 2) (h1' : 1 ≤ ks.length := by decide) :
    dcAt ((S ++ [Ob.lst (ks.map Dv.str)]).set d (Ob.dct (putD kvs key (.ref S.length)))) d = some (putD kvs key (.ref S.length)) ∧ ∀ kv ∈ putD kvs key (.ref S.length), KL ((S ++ [Ob.lst (ks.map Dv.str)]).set d (Ob.dct (putD kvs key (.ref S.length)))) kv.2 := by
  have ld := dc_lt hdc
  refine ⟨dc_set (by simp; omega), putD_all (P := fun x => KL _ x) (fun kv hm => ?_) ?_⟩
  · obtain ⟨r, ls, e, h1, h3⟩ := h kv hm
    exact ⟨r, ls, e, by rw [ls_ne (Ne.symm (ls_dc h1 hdc))]; exact ls_app h1, h3⟩
  · exact kinds_list (by rw [ls_ne (by omega)]; exact ls_new) hk h2 h1'
theorem tt_kinds : ∀ k ∈ (["truth", "truth"] : List Str), kind k := fun k hk => by
  simp only [List.mem_cons, List.not_mem_nil, or_false, or_self] at hk
  exact .inr (.inl hk)
theorem nn_kinds : ∀ k ∈ (["number", "number"] : List Str), kind k := fun k hk => by
  simp only [List.mem_cons, List.not_mem_nil, or_false, or_self] at hk
  exact .inl hk
/-- the words of a kind -/
def WL (S : Store) (d : Dv) : Prop := ∃ (r : Nat) (ws : List Str), d = .ref r ∧ lsAt S r = some (ws.map Dv.str) ∧ (∀ w ∈ ws, w.length ≤ 10 ∧ PyData.strOk w = true) ∧ 0 < ws.length ∧ ws.length ≤ 7
theorem done_ok {n dp : Nat} (T : TreeOk n dp) (hn : 1 ≤ n) {l s : Nat} {B : Int} {kd cs : Str} {sc : List Dv} {m : Nat} {S : Store} (h : Dk l B S) (hB : B + (2 + 2 * cost dp) ≤ 549755813888) (hk : kind kd) (hs : lsAt S s = some sc) (hsl : s ≠ l) (ho : ScOk m sc) (hm : m + dp ≤ 200) (hc : CallsOk cs) :
    Ok (callT (n + 1) .l_done_of [.ref l, .str kd, .ref s, .str cs, .int ((dp : Nat) + 1)] S) (Dr l (B + (2 + 2 * cost dp)) S fun v _ => WE (dp + 2) v) := by
  refine w_of (f := .l_done_of) ?_
  show Ok (b_l_done_of (callT n) [some (.ref l), some (.str kd), some (.ref s), some (.str cs), some (.int ((dp : Nat) + 1)), none, none, none, none, none] S) _
  unfold b_l_done_of
  have lS := h.lt
  refine s_set (Ok.imp (P := fun v S1 => ∃ d r1 r2, v = .ref d ∧ Kp [] S S1 ∧ S.length ≤ d ∧ dcAt S1 d = some [(.inr "number", .ref r1), (.inr "row", .ref r2)] ∧
    lsAt S1 r1 = some ((["plus", "minus", "times", "over", "rest", "first", "long"] : List Str).map Dv.str) ∧ lsAt S1 r2 = some ((["put", "others", "put"] : List Str).map Dv.str)) ?_ ?_)
  · refine k_disp ?_
    walk_at "sm"
    refine ⟨by walk_at "smd", Nat.le_of_ble_eq_true rfl, ?_⟩
    rw [merge_strs ["number", "row"] rfl (by decide +kernel)]
    refine ⟨_, _, _, rfl, Kp.refl.app.app.app.set (.inl (Nat.le_refl _)), Nat.le_refl _, dc_set (by simp), ?_, ?_⟩
    · rw [ls_ne (by simp)]
      walk_at "smd"
    · rw [ls_ne (by simp)]
      walk_at "smd"
  rintro v S1 ⟨d, r1, r2, rfl, k1, hd, hdc, h1, h2⟩
  have n1 : r1 ≠ d := ls_dc h1 hdc
  have n2 : r2 ≠ d := ls_dc h2 hdc
  have ld := dc_lt hdc
  walk_at "sm"
  refine k_setD (dc_app hdc) rfl (by simp) ?_
  have eP : putD [(.inr "number", Dv.ref r1), (.inr "row", Dv.ref r2)] (.inr "truth") (Dv.ref S1.length) = ([(.inr "number", Dv.ref r1), (.inr "row", Dv.ref r2), (.inr "truth", Dv.ref S1.length)] : List (Key × Dv)) :=
    (putS_new (x := "truth") (kvs := [(.inr "number", Dv.ref r1), (.inr "row", Dv.ref r2)]) ["number", "row"] rfl (by decide +kernel)).trans rfl
  rw [eP]
  generalize e2 : List.set _ d _ = S2
  have k2 : Kp [d] S1 S2 := by rw [← e2]; exact Kp.refl.app.set (.inr (by simp))
  have hd2 : dcAt S2 d = some [(.inr "number", Dv.ref r1), (.inr "row", Dv.ref r2), (.inr "truth", Dv.ref S1.length)] := by rw [← e2]; exact dc_set (by simp; omega)
  have h1 := k2.ls (not1 n1) h1
  have h2 := k2.ls (not1 n2) h2
  have h3 : lsAt S2 S1.length = some ((["below", "same", "and", "or", "not", "below"] : List Str).map Dv.str) := by
    rw [← e2, ls_ne (by omega)]; exact ls_new
  have kk2 : Kp [] S S2 := by
    rw [← e2]; exact k1.app.set (.inl hd)
  clear e2 eP
  obtain ⟨rk, ws, hv, hw, wl, w0, w7⟩ : ∃ (rk : Nat) (ws : List Str), valD [(.inr "number", Dv.ref r1), (.inr "row", Dv.ref r2), (.inr "truth", Dv.ref S1.length)] (.inr kd) = some (.ref rk) ∧ lsAt S2 rk = some (ws.map Dv.str) ∧ (∀ w ∈ ws, w.length ≤ 10 ∧ PyData.strOk w = true) ∧ 0 < ws.length ∧ ws.length ≤ 7 := by
    rcases hk with rfl | rfl | rfl
    · exact ⟨r1, _, by walk_at "smv", h1, by decide +kernel, by decide, by decide⟩
    · exact ⟨_, _, by walk_at "smv", h3, by decide +kernel, by decide, by decide⟩
    · exact ⟨r2, _, by walk_at "smv", h2, by decide +kernel, by decide, by decide⟩
  have d2 : Dk l B S2 := h.kp kk2 (by simp)
  have wlen : (ws.map Dv.str).length = ws.length := List.length_map _
  walk_at "sm"
  refine k_ixD hd2 rfl hv ?_
  walk_at "sm"
  refine k_ixD hd2 rfl hv ?_
  walk_at "sm"
  refine k_len (show lenOf S2 (.ref rk) = some (ws.map Dv.str).length by unfold lenOf; dsimp only; rw [hw]) ?_
  walk_at "sm"
  refine use_pick hn d2 (by have := cost_pos dp; omega) (by omega) (by omega) fun r S3 r0 r1 k3 d3 => ?_
  obtain ⟨y, hy, hmem⟩ := at_get r0 r1
  obtain ⟨w, hwm, rfl⟩ := List.mem_map.mp hmem
  have rkl : rk ≠ l := fun e => by
    obtain ⟨a, b, c, q, _⟩ := d2
    rw [e, q] at hw
    cases ws with
    | nil => cases hw
    | cons w ws => cases hw
  refine k_ixL (k3.ls (not1 rkl) hw) hy ?_
  walk_at "sm"
  have kk3 : Kp [l] S S3 := kk2.any.trans k3
  have l3 := d3.lt
  refine Ok.imp (P := fun v S4 => ∃ d kvs, v = .ref d ∧ Kp [] S3 S4 ∧ S3.length ≤ d ∧ dcAt S4 d = some kvs ∧ kvs.length ≤ 5 ∧ valD kvs (.inr "below") = none ∧ ∀ kv ∈ kvs, KL S4 kv.2) ?_ ?_
  · refine k_disp ?_
    walk_at "sm"
    refine ⟨by walk_at "smd", Nat.le_of_ble_eq_true rfl, ?_⟩
    rw [merge_strs ["first", "long", "others", "put", "not"] rfl (by decide +kernel)]
    refine ⟨_, _, rfl, Kp.refl.app.app.app.app.app.app.set (.inl (Nat.le_refl _)), Nat.le_refl _, dc_set (by simp), by simp, ?_, ?_⟩
    · repeat (first | rfl | refine (val_missS (by decide +kernel)).trans ?_)
    intro kv hkv
    simp only [List.mem_cons, List.not_mem_nil, or_false] at hkv
    rcases hkv with rfl | rfl | rfl | rfl | rfl
    · exact kinds_list (ks := ["row"]) (by rw [ls_ne (by simp)]; walk_at "smd") (fun k hk => .inr (.inr (by simpa using hk))) (by decide)
    · exact kinds_list (ks := ["row"]) (by rw [ls_ne (by simp)]; walk_at "smd") (fun k hk => .inr (.inr (by simpa using hk))) (by decide)
    · exact kinds_list (ks := ["row"]) (by rw [ls_ne (by simp)]; walk_at "smd") (fun k hk => .inr (.inr (by simpa using hk))) (by decide)
    · exact kinds_list (ks := ["number", "row"]) (by rw [ls_ne (by simp)]; walk_at "smd") (fun k hk => by
        simp only [List.mem_cons, List.not_mem_nil, or_false] at hk
        exact hk.elim .inl fun h => .inr (.inr h)) (by decide)
    · exact kinds_list (ks := ["truth"]) (by rw [ls_ne (by simp)]; walk_at "smd") (fun k hk => .inr (.inl (by simpa using hk))) (by decide)
  rintro v S4 ⟨d', kvs, rfl, k4, hd', hdc', kl, vb, kvl⟩
  have ld4 := dc_lt hdc'
  walk_at "sm"
  refine k_setD (dc_app hdc') rfl (by omega) ?_
  obtain ⟨hdc5, kv5⟩ := KL_put (key := .inr "and") hdc' kvl tt_kinds (by decide)
  have vb5 : valD (putD kvs (.inr "and") (.ref S4.length)) (.inr "below") = none := (val_put_ne (fun z => absurd (Sum.inr.inj z) (by decide +kernel))).trans vb
  have pl5 : (putD kvs (.inr "and") (.ref S4.length)).length ≤ 6 := Nat.le_trans putD_len (by omega)
  have k5 : Kp [l] S ((S4 ++ [Ob.lst ((["truth", "truth"] : List Str).map Dv.str)]).set d' (Ob.dct (putD kvs (.inr "and") (.ref S4.length)))) := (kk3.trans k4.any).app.set (.inl (Nat.le_trans kk3.1 hd'))
  have d5 : Dk l (B + 1) ((S4 ++ [Ob.lst ((["truth", "truth"] : List Str).map Dv.str)]).set d' (Ob.dct (putD kvs (.inr "and") (.ref S4.length)))) := (d3.kp k4 (by simp)).app.set (by omega)
  generalize putD kvs (.inr "and") (.ref S4.length) = kvs5 at *
  generalize e5 : List.set _ d' _ = S5
  have e5' : (S4 ++ [Ob.lst ((["truth", "truth"] : List Str).map Dv.str)]).set d' (Ob.dct kvs5) = S5 := e5
  rw [e5'] at hdc5 kv5 k5 d5
  have g5 : S.length ≤ d' := Nat.le_trans kk3.1 hd'
  clear e5 e5'
  walk_at "sm"
  refine k_setD (dc_app hdc5) rfl (by omega) ?_
  obtain ⟨hdc6, kv6⟩ := KL_put (key := .inr "or") hdc5 kv5 tt_kinds (by decide)
  have vb6 : valD (putD kvs5 (.inr "or") (.ref S5.length)) (.inr "below") = none := (val_put_ne (fun z => absurd (Sum.inr.inj z) (by decide +kernel))).trans vb5
  have k6 : Kp [l] S ((S5 ++ [Ob.lst ((["truth", "truth"] : List Str).map Dv.str)]).set d' (Ob.dct (putD kvs5 (.inr "or") (.ref S5.length)))) := k5.app.set (.inl g5)
  have d6 : Dk l (B + 1) ((S5 ++ [Ob.lst ((["truth", "truth"] : List Str).map Dv.str)]).set d' (Ob.dct (putD kvs5 (.inr "or") (.ref S5.length)))) := d5.app.set (by omega)
  generalize putD kvs5 (.inr "or") (.ref S5.length) = kvs6 at *
  generalize e6 : List.set _ d' _ = S6
  have e6' : (S5 ++ [Ob.lst ((["truth", "truth"] : List Str).map Dv.str)]).set d' (Ob.dct kvs6) = S6 := e6
  rw [e6'] at hdc6 kv6 k6 d6
  clear e6 e6'
  walk_at "sm"
  refine k_get2 ?_
  walk_at "sm"
  refine ⟨by unfold isTy; dsimp only; rw [dcAt_iff.mp hdc6]; simp, ?_⟩
  walk_at "sm"
  refine ⟨d', _, _, rfl, rfl, dc_app hdc6, ?_⟩
  obtain ⟨r', ks, er, hr', hks, hl2, hl1⟩ : KL (S6 ++ [Ob.lst ((["number", "number"] : List Str).map Dv.str)]) ((valD kvs6 (.inr w)).getD (.ref S6.length)) :=
    val_getD (P := fun x => KL _ x) (fun kv hm => (kv6 kv hm).kp (D := []) Kp.refl.app (fun _ _ => by simp)) (kinds_list ls_new nn_kinds (by decide))
  have er : (valD kvs6 (.inr w)).getD (.ref S6.length) = .ref r' := er
  have ar : Ar w ks.length := ⟨fun _ => hl1, fun e => by
    rw [e, vb6] at er
    have er : (Dv.ref S6.length) = .ref r' := er
    cases er
    have e2 := hr'.symm.trans ls_new
    have e2 := congrArg List.length (Option.some.inj e2)
    rw [List.length_map, List.length_map] at e2
    rw [e2]; decide⟩
  rw [er]
  generalize e7 : (S6 ++ [Ob.lst [Dv.str "number", Dv.str "number"]] : Store) = S7
  have hr7 : lsAt S7 r' = some (ks.map Dv.str) := by rw [← e7]; exact hr'
  have k7 : Kp [l] S S7 := by rw [← e7]; exact k6.app
  have d7 : Dk l (B + 1) S7 := by rw [← e7]; exact d6.app
  clear e7
  have rl : r' ≠ l ∨ ks = [] := by
    by_cases e : r' = l
    · obtain ⟨a, b, c, q, _⟩ := d7
      rw [e, q] at hr7
      cases ks with
      | nil => exact .inr rfl
      | cons k ks => cases hr7
    · exact .inl e
  have rl : r' ≠ l := fun e => by
    rcases rl with h | h
    · exact h e
    · subst h
      obtain ⟨a, b, c, q, _⟩ := d7
      rw [e, q] at hr7; cases hr7
  have l7 := d7.lt
  walk_at "sm"
  refine k_lcM ?_
  walk_at "sm"
  refine ⟨_, it_ref hr7, ks.map Dv.str, [l], fun i S => Dk l (match i with | 0 => B + 1 | 1 => B + 1 + cost dp | _ => B + 1 + 2 * cost dp) S, fun _ v => WE (dp + 1) v, Nat.le_refl _, by rw [List.length_map]; omega, by simpa using l7, fun i S k => it_at hr7 k (not1 rl), d7.app, fun i S v x => x.set (by omega), fun i x S8 hd8 k8 d8 => ?_, fun ys S8 hl hy hL k8 d8 => ?_⟩
  · obtain ⟨hi, he⟩ := List.getElem?_eq_some_iff.mp hd8
    rw [List.length_map] at hi
    rw [List.getElem_map] at he
    subst he
    have hkd := hks _ (List.getElem_mem hi)
    have k78 := k7.trans k8
    have cp := cost_pos dp
    walk_at "sm"
    have hi2 : i = 0 ∨ i = 1 := by omega
    rcases hi2 with rfl | rfl
    · refine use_tree T d8 (by omega) rfl (by show B + 1 + cost dp ≤ _; omega) hkd (k78.ls (not1 hsl) hs) hsl ho hm hc fun v S9 k9 d9 w9 => ?_
      exact ⟨w9, k9, d9⟩
    · refine use_tree T d8 (by omega) (C := B + 1 + 2 * cost dp) (by show _ = B + 1 + cost dp + cost dp; omega) (by omega) hkd (k78.ls (not1 hsl) hs) hsl ho hm hc fun v S9 k9 d9 w9 => ?_
      exact ⟨w9, k9, d9⟩
  · rw [List.length_map] at hl d8
    walk_at "sm"
    refine k_tuple hL ?_
    walk_at "sm"
    refine ⟨k7.trans k8, ?_, .doo (.inl rfl) (wl w hwm).1 (wl w hwm).2 (by rw [hl]; exact ar) (by omega) (all_of hy)⟩
    have cp := cost_pos dp
    refine d8.up ?_
    have hk3 : ks.length = 0 ∨ ks.length = 1 ∨ ks.length = 2 := by omega
    rcases hk3 with e | e | e <;> rw [e] <;> simp only <;> omega
end K61

namespace K61
open PySem L2 Sm
local macro_rules | `(tactic| walk_at "sm") => `(tactic| repeat (first | with_reducible refine k_it ?_ | with_reducible refine k_rng1 ?_ | with_reducible refine k_enS ?_ | with_reducible refine k_enL ?_ | with_reducible refine k_zipT ?_ | with_reducible refine k_pn ?_ | with_reducible refine k_pc ?_ | with_reducible refine k_c ?_ | with_reducible refine k_bin ?_ | with_reducible refine k_nil ?_ | with_reducible refine k_cons ?_ | with_reducible refine k_tup ?_ | with_reducible refine k_lst ?_ | with_reducible refine k_tst ?_ | with_reducible refine k_and ?_ | with_reducible refine k_or ?_ | with_reducible refine k_not ?_ | with_reducible refine k_ifE ?_ | with_reducible refine k_sub ?_ | with_reducible refine k_ltX ?_ | with_reducible refine k_ltSX ?_ | with_reducible refine k_lt ?_ | with_reducible refine k_le ?_ | with_reducible refine k_gt ?_ | with_reducible refine k_ge ?_ | with_reducible refine k_neg ?_ | with_reducible refine k_two ?_ | with_reducible refine k_addI ?_ | with_reducible refine k_eqS ?_ | with_reducible refine k_neS ?_ | with_reducible refine k_eqI ?_ | with_reducible refine k_slT ?_ | with_reducible refine k_sl ?_ | with_reducible refine k_no ?_ | with_reducible refine k_pt ?_ | with_reducible refine k_app ?_ | with_reducible refine k_intI ?_ | with_reducible refine k_intB ?_ | with_reducible refine k_mtS ?_ | with_reducible refine k_mtL ?_ | with_reducible refine k_mtD ?_ | with_reducible refine k_call ?_ | with_reducible refine k_dnew ?_ | with_reducible refine k_fmt ?_ | with_reducible refine k_js0 ?_ | with_reducible refine k_js ?_ | with_reducible refine k_gN ?_ | with_reducible refine k_gC ?_ | with_reducible refine k_g0 ?_ | with_reducible refine k_gStar ?_ | with_reducible refine k_gS ?_ | with_reducible refine k_kget ?_ | with_reducible refine k_un ?_ | with_reducible refine k_revT ?_ | with_reducible refine k_inSX ?_ | with_reducible refine s_set ?_ | with_reducible refine s_drop ?_ | with_reducible refine s_asg ?_ | with_reducible refine s_if ?_ | with_reducible refine s_nx ?_ | with_reducible refine s_ret ?_ | with_reducible refine s_seq ?_ | with_reducible refine l_ret ?_ | with_reducible refine l_set ?_ | with_reducible refine l_drop ?_ | with_reducible refine l_asg ?_ | with_reducible refine l_nx ?_ | with_reducible refine l_if ?_ | ((with_reducible apply k_var); rfl) | ((with_reducible apply k_ixT); rfl) | ((with_reducible apply k_inT); rfl; rfl) | ((with_reducible apply k_in); rfl; rfl; rfl) | ((with_reducible refine k_gT ?_ ?_); rfl) | ((with_reducible apply k_isi); rfl; rfl) | ((with_reducible apply k_isiT); rfl; rfl) | with_reducible refine And.intro (fun _ => ?_) (fun h => absurd h (by decide +kernel)) | with_reducible refine And.intro (fun h => absurd h (by decide +kernel)) (fun _ => ?_) | ((with_reducible refine And.intro ?_ ?_); rfl) | ((with_reducible apply Exists.intro); (with_reducible apply And.intro); rfl)))
local macro_rules | `(tactic| walk_at "smb") => `(tactic| repeat' (first | with_reducible refine k_it ?_ | with_reducible refine k_rng1 ?_ | with_reducible refine k_enS ?_ | with_reducible refine k_enL ?_ | with_reducible refine k_zipT ?_ | with_reducible refine k_pn ?_ | with_reducible refine k_pc ?_ | with_reducible refine k_c ?_ | with_reducible refine k_bin ?_ | with_reducible refine k_nil ?_ | with_reducible refine k_cons ?_ | with_reducible refine k_tup ?_ | with_reducible refine k_lst ?_ | with_reducible refine k_tst ?_ | with_reducible refine k_and ?_ | with_reducible refine k_or ?_ | with_reducible refine k_not ?_ | with_reducible refine k_ifE ?_ | with_reducible refine k_sub ?_ | with_reducible refine k_ltX ?_ | with_reducible refine k_ltSX ?_ | with_reducible refine k_lt ?_ | with_reducible refine k_le ?_ | with_reducible refine k_gt ?_ | with_reducible refine k_ge ?_ | with_reducible refine k_neg ?_ | with_reducible refine k_two ?_ | with_reducible refine k_addI ?_ | with_reducible refine k_eqS ?_ | with_reducible refine k_neS ?_ | with_reducible refine k_eqI ?_ | with_reducible refine k_slT ?_ | with_reducible refine k_sl ?_ | with_reducible refine k_no ?_ | with_reducible refine k_pt ?_ | with_reducible refine k_app ?_ | with_reducible refine k_intI ?_ | with_reducible refine k_intB ?_ | with_reducible refine k_mtS ?_ | with_reducible refine k_mtL ?_ | with_reducible refine k_mtD ?_ | with_reducible refine k_call ?_ | with_reducible refine k_dnew ?_ | with_reducible refine k_fmt ?_ | with_reducible refine k_js0 ?_ | with_reducible refine k_js ?_ | with_reducible refine k_gN ?_ | with_reducible refine k_gC ?_ | with_reducible refine k_g0 ?_ | with_reducible refine k_gStar ?_ | with_reducible refine k_gS ?_ | with_reducible refine k_kget ?_ | with_reducible refine k_un ?_ | with_reducible refine k_revT ?_ | with_reducible refine k_inSX ?_ | with_reducible refine s_set ?_ | with_reducible refine s_drop ?_ | with_reducible refine s_asg ?_ | with_reducible refine s_if ?_ | with_reducible refine s_nx ?_ | with_reducible refine s_ret ?_ | with_reducible refine s_seq ?_ | with_reducible refine l_ret ?_ | with_reducible refine l_set ?_ | with_reducible refine l_drop ?_ | with_reducible refine l_asg ?_ | with_reducible refine l_nx ?_ | with_reducible refine l_if ?_ | ((with_reducible apply k_var); rfl) | ((with_reducible apply k_ixT); rfl) | ((with_reducible apply k_inT); rfl; rfl) | ((with_reducible apply k_in); rfl; rfl; rfl) | ((with_reducible refine k_gT ?_ ?_); rfl) | ((with_reducible apply k_isi); rfl; rfl) | ((with_reducible apply k_isiT); rfl; rfl) | with_reducible refine And.intro (fun _ => ?_) (fun h => absurd h (by decide +kernel)) | with_reducible refine And.intro (fun h => absurd h (by decide +kernel)) (fun _ => ?_) | ((with_reducible refine And.intro ?_ ?_); rfl) | ((with_reducible apply Exists.intro); (with_reducible apply And.intro); rfl) | with_reducible refine And.intro (fun _ => ?_) (fun _ => ?_)))
local macro_rules | `(tactic| walk_at "smv") => `(tactic| repeat (first | exact val_hitS (by decide +kernel) | refine (val_missS (by decide +kernel)).trans ?_))
local macro_rules | `(tactic| walk_at "smd") => `(tactic| repeat (first | exact dc_new | exact ls_new | refine dc_app ?_ | refine ls_app ?_))
theorem use_done {n dp : Nat} {l s : Nat} {B C i : Int} {kd cs : Str} {sc : List Dv} {m : Nat} {S : Store} {Q : Dv → Store → Prop} (T : TreeOk n dp) (hn : 1 ≤ n) (h : Dk l B S) (hi : i = (dp : Nat) + 1) (hC : C = B + (2 + 2 * cost dp)) (hB : C ≤ 549755813888) (hk : kind kd) (hs : lsAt S s = some sc) (hsl : s ≠ l) (ho : ScOk m sc) (hm : m + dp ≤ 200) (hc : CallsOk cs)
    (k : ∀ v S', Kp [l] S S' → Dk l C S' → WE (dp + 2) v → Q v S') : Ok (callT (n + 1) .l_done_of [.ref l, .str kd, .ref s, .str cs, .int i] S) Q := by
  subst hi hC
  exact (done_ok T hn h hB hk hs hsl ho hm hc).imp fun v S' ⟨a, b, c⟩ => k v S' a b c
def bnd (B c : Int) : Nat → Int
  | 0 => B
  | i + 1 => bnd B c i + c
theorem bnd_le {B c : Int} (h : 0 ≤ c) : ∀ {i : Nat}, i ≤ 3 → bnd B c i ≤ B + 3 * c
  | 0, _ => by simp only [bnd]; omega
  | 1, _ => by simp only [bnd]; omega
  | 2, _ => by simp only [bnd]; omega
  | 3, _ => by simp only [bnd]; omega
  | _ + 4, h => by omega
theorem bnd_lt {B c : Int} (h : 0 ≤ c) : ∀ {i : Nat}, i ≤ 2 → bnd B c i ≤ B + 2 * c
  | 0, _ => by simp only [bnd]; omega
  | 1, _ => by simp only [bnd]; omega
  | 2, _ => by simp only [bnd]; omega
  | _ + 3, h => by omega
theorem three {α : Type} {a b c : α} {r : Int} (h0 : 0 ≤ r) (h1 : r < 3) : atI [a, b, c] r = some a ∨ atI [a, b, c] r = some b ∨ atI [a, b, c] r = some c := by
  have : r = 0 ∨ r = 1 ∨ r = 2 := by omega
  rcases this with rfl | rfl | rfl
  · exact .inl rfl
  · exact .inr (.inl rfl)
  · exact .inr (.inr rfl)
theorem len3 {α : Type} {ys : List α} (h : ys.length = 3) : ∃ a b c, ys = [a, b, c] := by
  match ys, h with
  | [a, b, c], _ => exact ⟨a, b, c, rfl⟩
def nameNe (k : Str) : Dv → Bool
  | .tup [.str x, _] => !decide (x = k)
  | _ => false
def typeIs (k : Str) : Dv → Bool
  | .str z => decide (sigT z = k)
  | _ => false
def signs (cs : Str) : List Dv := cs.cps.toList.map fun c => .str ⟨#[c]⟩
theorem signs_at (cs : Str) (i : Nat) : some (cs.cps[i]?.map fun c => Dv.str ⟨#[c]⟩) = some (signs cs)[i]? := by
  unfold signs
  rw [List.getElem?_map, Array.getElem?_toList]
theorem signs_len (cs : Str) : (signs cs).length = cs.cps.size := by simp [signs]
theorem signs_mem {cs : Str} (h : CallsOk cs) {d : Dv} (hd : d ∈ signs cs) : ∃ z, d = .str z ∧ fnName z := by
  obtain ⟨c, hc, rfl⟩ := List.mem_map.mp hd
  exact ⟨_, rfl, h.2 c hc⟩
theorem fn_short {z : Str} (h : fnName z) : z.length = 1 ∧ PyData.strOk z = true := by
  rcases h with rfl | rfl | rfl | rfl | rfl <;> exact ⟨rfl, by decide +kernel⟩
theorem fn_ar {z : Str} (h : fnName z) {n : Nat} : Ar z n := by
  rcases h with rfl | rfl | rfl | rfl | rfl <;> exact ⟨fun h => absurd h (by decide +kernel), fun h => absurd h (by decide +kernel)⟩
theorem sigT_kind {z : Str} (h : fnName z) : kind (sigT z) := by
  rcases h with rfl | rfl | rfl | rfl | rfl
  · exact .inl rfl
  · exact .inl rfl
  · exact .inr (.inl rfl)
  · exact .inr (.inl rfl)
  · exact .inr (.inl rfl)
theorem sigA_kinds {z : Str} (h : fnName z) : (∀ k ∈ sigA z, kind k) ∧ (sigA z).length ≤ 2 ∧ 1 ≤ (sigA z).length := by
  have one : ∀ {k a : Str}, k ∈ [a] → k = a := fun h => by simpa using h
  have two : ∀ {k a b : Str}, k ∈ [a, b] → k = a ∨ k = b := fun h => by simpa using h
  rcases h with rfl | rfl | rfl | rfl | rfl
  · exact ⟨fun k hk => .inl (one hk), by decide, by decide⟩
  · exact ⟨fun k hk => .inr (.inr (one hk)), by decide, by decide⟩
  · exact ⟨fun k hk => (two hk).elim .inl .inl, by decide, by decide⟩
  · exact ⟨fun k hk => .inl (one hk), by decide, by decide⟩
  · exact ⟨fun k hk => (two hk).elim .inl fun h => .inr (.inr h), by decide, by decide⟩
theorem deck_ne {l r : Nat} {B : Int} {S : Store} {ks : List Str} (h : Dk l B S) (hr : lsAt S r = some (ks.map Dv.str)) : r ≠ l := fun e => by
  obtain ⟨a, b, c, q, _⟩ := h
  rw [e, q] at hr
  cases ks with
  | nil => cases hr
  | cons k ks => cases hr
theorem tree_ok : ∀ (dp n : Nat), 2 * dp + 3 ≤ n → TreeOk n dp := by
  intro dp
  induction dp with
  | zero =>
    intro n hn l s B kd cs sc m S h hB hk hs hsl ho hm hc
    obtain ⟨n, rfl⟩ : ∃ k, n = k + 1 := ⟨n - 1, by omega⟩
    have c0 : cost 0 = 100 := rfl
    refine w_of (f := .l_tree) ?_
    show Ok (b_l_tree (callT n) [some (.ref l), some (.str kd), some (.ref s), some (.str cs), some (.int ((0 : Nat) : Int)), none, none, none, none, none, none, none, none, none, none] S) _
    unfold b_l_tree
    walk_at "sm"
    refine use_leaf (by omega) h (by omega) hk hs hsl ho (by omega) fun v S' k1 d1 w1 => ?_
    exact ⟨k1, d1.up (by omega), w1⟩
  | succ e ih =>
    intro n hn l s B kd cs sc m S h hB hk hs hsl ho hm hc
    obtain ⟨n, rfl⟩ : ∃ k, n = k + 1 := ⟨n - 1, by omega⟩
    have T := ih n (by omega)
    have T' := ih (n - 1) (by omega)
    have ce : cost (e + 1) = 4 * cost e := rfl
    have cp := cost_pos e
    have lS := h.lt
    refine w_of (f := .l_tree) ?_
    show Ok (b_l_tree (callT n) [some (.ref l), some (.str kd), some (.ref s), some (.str cs), some (.int ((e + 1 : Nat) : Int)), none, none, none, none, none, none, none, none, none, none] S) _
    unfold b_l_tree
    refine s_if (Ok.imp (P := fun k S2 => Kp [l] S S2 ∧ Dk l (B + 1) S2) ?_ ?_)
    · refine k_or ?_
      walk_at "sm"
      refine ⟨fun _ => ⟨Kp.refl, h.up (by omega)⟩, fun _ => ?_⟩
      walk_at "sm"
      refine use_pick (by omega) h (by omega) (by decide) (by decide) fun r S2 r0 r1 k2 d2 => ?_
      walk_at "sm"
      exact ⟨k2, d2⟩
    rintro k S2 ⟨k2, d2⟩
    refine ⟨fun _ => ?_, fun _ => ?_⟩
    · walk_at "sm"
      refine use_leaf (by omega) d2 (by omega) hk (k2.ls (not1 hsl) hs) hsl ho (by omega) fun v S' k1 d1 w1 => ?_
      exact ⟨k2.trans k1, d1.up (by omega), w1.le (by omega)⟩
    refine s_nx ?_
    refine Ok.seq (Ok.imp (P := fun fl S3 => ∃ kd', fl = .nx [some (.ref l), some (.str kd'), some (.ref s), some (.str cs), some (.int ((e + 1 : Nat) : Int)), none, none, none, none, none, none, none, none, none, none] ∧ kind kd' ∧ Kp [l] S S3 ∧ Dk l (B + 3) S3) ?_ ?_)
    · refine l_if ?_
      walk_at "sm"
      refine use_pick (by omega) d2 (by omega) (by decide) (by decide) fun r S3 r0 r1 k3 d3 => ?_
      walk_at "sm"
      refine ⟨fun _ => ?_, fun _ => ?_⟩
      · walk_at "sm"
        refine use_pick (by omega) d3.app (by omega) (by decide) (by decide) fun r S4 r0 r1 k4 d4 => ?_
        have lk := k4.ls (not1 (show S3.length ≠ l by have := d3.lt; omega)) ls_new
        rcases three (a := Dv.str "number") (b := .str "truth") (c := .str "row") r0 r1 with hh | hh | hh
        · exact k_ixL lk hh ⟨_, rfl, .inl rfl, (k2.trans k3).app.trans k4, d4.up (by omega)⟩
        · exact k_ixL lk hh ⟨_, rfl, .inr (.inl rfl), (k2.trans k3).app.trans k4, d4.up (by omega)⟩
        · exact k_ixL lk hh ⟨_, rfl, .inr (.inr rfl), (k2.trans k3).app.trans k4, d4.up (by omega)⟩
      · walk_at "sm"
        exact ⟨hk, k2.trans k3, d3.up (by omega)⟩
    rintro fl S3 ⟨kd, rfl, hk, k3, d3⟩
    dsimp only
    clear k2 d2
    have hs3 := k3.ls (not1 hsl) hs
    walk_at "sm"
    refine use_pick (by omega) d3 (by omega) (by decide) (by decide) fun way S4 w0 w1 k4 d4 => ?_
    have kk4 := k3.trans k4
    have hs4 := kk4.ls (not1 hsl) hs
    have l4 := d4.lt
    walk_at "sm"
    refine ⟨fun _ => ?_, fun hw0 => ?_⟩
    · walk_at "sm"
      refine k_lcM ?_
      walk_at "sm"
      refine ⟨[.str "truth", .str kd, .str kd], [l], fun i S => Dk l (bnd (B + 4) (cost e) i) S, fun _ v => WE (e + 1) v, Nat.le_refl _, (by show 3 < 16777216; decide), by simpa using l4, fun i S _ => rfl, d4.app.up (by simp only [bnd]; omega), fun i S v x => x.set (by omega), fun i x S5 hx k5 d5 => ?_, fun ys S5 hl hy hL k5 d5 => ?_⟩
      · obtain ⟨hi, _⟩ := List.getElem?_eq_some_iff.mp hx
        have hi : i < 3 := hi
        have b1 := bnd_lt (B := B + 4) (c := cost e) (by omega) (show i ≤ 2 by omega)
        have xs : ∃ k, x = .str k ∧ kind k := by
          have := List.mem_of_getElem? hx
          simp only [List.mem_cons, List.not_mem_nil, or_false, or_self] at this
          rcases this with rfl | rfl
          · exact ⟨_, rfl, .inr (.inl rfl)⟩
          · exact ⟨_, rfl, hk⟩
        obtain ⟨k', rfl, hk'⟩ := xs
        walk_at "sm"
        refine use_tree T d5 (by omega) rfl (by omega) hk' ((kk4.trans k5).ls (not1 hsl) hs) hsl ho (by omega) hc fun v S6 k6 d6 w6 => ?_
        exact ⟨w6, k6, d6⟩
      · obtain ⟨a, b, c, rfl⟩ := len3 hl
        walk_at "sm"
        refine k_ixL hL rfl ?_
        walk_at "sm"
        refine k_ixL hL rfl ?_
        walk_at "sm"
        refine k_ixL hL rfl ?_
        walk_at "sm"
        have d5 : Dk l (bnd (B + 4) (cost e) 3) S5 := d5
        have b1 := bnd_le (B := B + 4) (c := cost e) (by omega) (show 3 ≤ 3 by omega)
        exact ⟨kk4.trans k5, d5.up (by omega), .iff (hy 0 a rfl) (hy 1 b rfl) (hy 2 c rfl)⟩
    walk_at "sm"
    refine ⟨fun _ => ?_, fun hw1 => ?_⟩
    · walk_at "sm"
      refine use_pick (by omega) d4.app (by omega) (by decide) (by decide) fun r S5 r0 r1 k5 d5 => ?_
      have lk := k5.ls (not1 (show S4.length ≠ l by omega)) ls_new
      obtain ⟨ot, ho1, ho2⟩ : ∃ ot, atI [Dv.str "number", .str "row", .str "truth"] r = some (.str ot) ∧ kind ot := by
        rcases three (a := Dv.str "number") (b := .str "row") (c := .str "truth") r0 r1 with hh | hh | hh
        · exact ⟨_, hh, .inl rfl⟩
        · exact ⟨_, hh, .inr (.inr rfl)⟩
        · exact ⟨_, hh, .inr (.inl rfl)⟩
      refine k_ixL lk ho1 ?_
      have kk5 := kk4.app.trans k5
      have l5 := d5.lt
      walk_at "sm"
      refine use_pick (by omega) d5.app (by omega) (by decide) (by decide) fun r' S6 r0' r1' k6 d6 => ?_
      have lk := k6.ls (not1 (show S5.length ≠ l by omega)) ls_new
      obtain ⟨nm, hn1, hn2⟩ : ∃ nm, atI [Dv.str "x", .str "y", .str "z"] r' = some (.str nm) ∧ shortName nm := by
        rcases three (a := Dv.str "x") (b := .str "y") (c := .str "z") r0' r1' with hh | hh | hh
        · exact ⟨_, hh, by decide, by decide +kernel⟩
        · exact ⟨_, hh, by decide, by decide +kernel⟩
        · exact ⟨_, hh, by decide, by decide +kernel⟩
      refine k_ixL lk hn1 ?_
      have kk6 := kk5.app.trans k6
      walk_at "sm"
      refine use_tree T d6 (by omega) rfl (by omega) ho2 (kk6.ls (not1 hsl) hs) hsl ho (by omega) hc fun v1 S7 k7 d7 w7 => ?_
      have kk7 := kk6.trans k7
      have hs7 := kk7.ls (not1 hsl) hs
      have l7 := d7.lt
      have h1 := ho.1
      walk_at "sm"
      refine k_lcF ?_
      walk_at "sm"
      refine ⟨_, it_ref hs7, sc, nameNe nm, id, Nat.le_refl _, by omega, fun i S k => it_at hs7 k (by simp), fun d S hd k => ?_, fun S8 hL k8 => ?_⟩
      · obtain ⟨x, k', rfl, hx, hk'⟩ := ho.2 d hd
        walk_at "sm"
        refine ⟨Kp.refl, fun _ => ?_⟩
        walk_at "sm"
        exact Kp.refl
      · rw [List.map_id] at hL
        have hf := List.length_filter_le (nameNe nm) sc
        walk_at "sm"
        refine k_addL (ls_app hL) ls_new (by simp; omega) ?_
        walk_at "sm"
        have ho' : ScOk (m + 1) (sc.filter (nameNe nm) ++ [.tup [.str nm, .str ot]]) := by
          refine ⟨by simp; omega, fun d hd => ?_⟩
          rcases List.mem_append.mp hd with hd | hd
          · exact ho.2 d (List.mem_filter.mp hd).1
          · rw [List.mem_singleton.mp hd]
            exact ⟨nm, ot, rfl, hn2, ho2⟩
        have kk8 : Kp [l] S7 (S8 ++ [Ob.lst [.tup [.str nm, .str ot]]] ++ [Ob.lst (sc.filter (nameNe nm) ++ [.tup [.str nm, .str ot]])]) := k8.any.app.app
        refine use_tree T (d7.kp k8 (by simp)).app.app (by omega) rfl (by omega) hk ls_new (by have := k8.1; simp; omega) ho' (by omega) hc fun v2 S9 k9 d9 w9 => ?_
        walk_at "sm"
        exact ⟨(kk7.trans kk8).trans k9, d9.up (by omega), .lett hn2.1 hn2.2 w7 w9⟩
    walk_at "sm"
    have cl := signs_len cs
    have cz : cs.cps.size ≤ 5 := hc.1
    refine k_lcF ?_
    walk_at "sm"
    refine ⟨signs cs, typeIs kd, id, by rw [cl]; exact Nat.le_refl _, by omega, fun i S _ => signs_at cs i, fun d S hd k => ?_, fun S5 hL k5 => ?_⟩
    · obtain ⟨z, rfl, hz⟩ := signs_mem hc hd
      walk_at "sm"
      refine use_signs (by omega) fun v S6 k6 ⟨dd, kvs, ev, hdc, hsg⟩ => ?_
      subst ev
      obtain ⟨r, hv, hr⟩ := hsg z hz
      walk_at "sm"
      refine k_ixD hdc rfl hv ?_
      walk_at "sm"
      refine ⟨k6, fun _ => ?_⟩
      walk_at "sm"
      exact Kp.refl
    rw [List.map_id] at hL
    have nm1 : ∀ d ∈ (signs cs).filter (typeIs kd), ∃ z, d = .str z ∧ fnName z := fun d hd => signs_mem hc (List.mem_filter.mp hd).1
    have nm3 : ((signs cs).filter (typeIs kd)).length ≤ 5 := Nat.le_trans (List.length_filter_le _ _) (by omega)
    generalize (signs cs).filter (typeIs kd) = nm at *
    have nm2 : nm.all isStr = true := List.all_eq_true.mpr fun d hd => by
      obtain ⟨z, rfl, hz⟩ := nm1 d hd
      exact (fn_short hz).2
    have d5 := d4.kp k5 (by simp)
    have kk5 : Kp [l] S S5 := kk4.trans k5.any
    have nl : S4.length ≠ l := by omega
    refine s_if (Ok.imp (P := fun k S6 => Kp [l] S5 S6 ∧ Dk l (B + 4) S6 ∧ (k = true → nm ≠ [])) ?_ ?_)
    · refine k_and ?_
      walk_at "sm"
      refine ⟨fun _ => ?_, fun _ => ⟨Kp.refl, d5.up (by omega), fun z => by cases z⟩⟩
      walk_at "sm"
      refine k_neNil (ls_app hL) nm2 ls_new ?_
      walk_at "sm"
      exact ⟨Kp.refl.app, d5.app.up (by omega), fun hne => by simpa using hne⟩
    rintro k S6 ⟨k6, d6, hne⟩
    have hL6 := k6.ls (not1 nl) hL
    have kk6 := kk5.trans k6
    refine ⟨fun ek => ?_, fun _ => ?_⟩
    · have pos : 0 < nm.length := List.length_pos_iff.mpr (hne ek)
      walk_at "sm"
      refine k_len (show lenOf S6 (.ref S4.length) = some nm.length by unfold lenOf; dsimp only; rw [hL6]) ?_
      walk_at "sm"
      refine use_pick (by omega) d6 (by omega) (by omega) (by omega) fun r S7 r0 r1 k7 d7 => ?_
      obtain ⟨y, hy, hmem⟩ := at_get r0 r1
      obtain ⟨z, rfl, hz⟩ := nm1 y hmem
      refine k_ixL (k7.ls (not1 nl) hL6) hy ?_
      have kk7 := kk6.trans k7
      walk_at "sm"
      refine k_lcM ?_
      walk_at "sm"
      refine use_signs (by omega) fun v S8 k8 ⟨dd, kvs, ev, hdc, hsg⟩ => ?_
      subst ev
      obtain ⟨r', hv, hr⟩ := hsg z hz
      obtain ⟨a1, a2, a3⟩ := sigA_kinds hz
      have d8 := d7.kp k8 (by simp)
      have kk8 : Kp [l] S S8 := kk7.trans k8.any
      have rl := deck_ne d8 hr
      have l8 := d8.lt
      walk_at "sm"
      refine k_ixD hdc rfl hv ?_
      walk_at "sm"
      refine ⟨_, it_ref hr, (sigA z).map Dv.str, [l], fun i S => Dk l (bnd (B + 5) (cost e) i) S, fun _ v => WE (e + 1) v, Nat.le_refl _, by rw [List.length_map]; omega, by simpa using l8, fun i S k => it_at hr k (not1 rl), d8.app.up (by simp only [bnd]; omega), fun i S v x => x.set (by omega), fun i x S9 hx k9 d9 => ?_, fun ys S9 hl hy hL k9 d9 => ?_⟩
      · obtain ⟨hi, he⟩ := List.getElem?_eq_some_iff.mp hx
        rw [List.length_map] at hi
        rw [List.getElem_map] at he
        subst he
        have hkd := a1 _ (List.getElem_mem hi)
        have b1 := bnd_lt (B := B + 5) (c := cost e) (by omega) (show i ≤ 2 by omega)
        walk_at "sm"
        refine use_tree T d9 (by omega) rfl (by omega) hkd ((kk8.trans k9).ls (not1 hsl) hs) hsl ho (by omega) hc fun v S10 k10 d10 w10 => ?_
        exact ⟨w10, k10, d10⟩
      · rw [List.length_map] at hl d9
        walk_at "sm"
        refine k_tuple hL ?_
        walk_at "sm"
        have b1 := bnd_lt (B := B + 5) (c := cost e) (by omega) (show (sigA z).length ≤ 2 by omega)
        have d9 : Dk l (bnd (B + 5) (cost e) (sigA z).length) S9 := d9
        exact ⟨kk8.trans k9, d9.up (by omega), .doo (.inr rfl) (by rw [(fn_short hz).1]; decide) (fn_short hz).2 (fn_ar hz) (by omega) (all_of hy)⟩
    · obtain ⟨n, rfl⟩ : ∃ k, n = k + 1 := ⟨n - 1, by omega⟩
      walk_at "sm"
      refine use_done T' (by omega) d6 (by omega) rfl (by omega) hk (kk6.ls (not1 hsl) hs) hsl ho (by omega) hc fun v S7 k7 d7 w7 => ?_
      exact ⟨kk6.trans k7, d7.up (by omega), w7⟩
end K61

namespace K61
open PySem L2 Sm
local macro_rules | `(tactic| walk_at "sm") => `(tactic| repeat (first | with_reducible refine k_it ?_ | with_reducible refine k_rng1 ?_ | with_reducible refine k_enS ?_ | with_reducible refine k_enL ?_ | with_reducible refine k_zipT ?_ | with_reducible refine k_pn ?_ | with_reducible refine k_pc ?_ | with_reducible refine k_c ?_ | with_reducible refine k_bin ?_ | with_reducible refine k_nil ?_ | with_reducible refine k_cons ?_ | with_reducible refine k_tup ?_ | with_reducible refine k_lst ?_ | with_reducible refine k_tst ?_ | with_reducible refine k_and ?_ | with_reducible refine k_or ?_ | with_reducible refine k_not ?_ | with_reducible refine k_ifE ?_ | with_reducible refine k_sub ?_ | with_reducible refine k_ltX ?_ | with_reducible refine k_ltSX ?_ | with_reducible refine k_lt ?_ | with_reducible refine k_le ?_ | with_reducible refine k_gt ?_ | with_reducible refine k_ge ?_ | with_reducible refine k_neg ?_ | with_reducible refine k_two ?_ | with_reducible refine k_addI ?_ | with_reducible refine k_eqS ?_ | with_reducible refine k_neS ?_ | with_reducible refine k_eqI ?_ | with_reducible refine k_slT ?_ | with_reducible refine k_sl ?_ | with_reducible refine k_no ?_ | with_reducible refine k_pt ?_ | with_reducible refine k_app ?_ | with_reducible refine k_intI ?_ | with_reducible refine k_intB ?_ | with_reducible refine k_mtS ?_ | with_reducible refine k_mtL ?_ | with_reducible refine k_mtD ?_ | with_reducible refine k_call ?_ | with_reducible refine k_dnew ?_ | with_reducible refine k_fmt ?_ | with_reducible refine k_js0 ?_ | with_reducible refine k_js ?_ | with_reducible refine k_gN ?_ | with_reducible refine k_gC ?_ | with_reducible refine k_g0 ?_ | with_reducible refine k_gStar ?_ | with_reducible refine k_gS ?_ | with_reducible refine k_kget ?_ | with_reducible refine k_un ?_ | with_reducible refine k_revT ?_ | with_reducible refine k_inSX ?_ | with_reducible refine s_set ?_ | with_reducible refine s_drop ?_ | with_reducible refine s_asg ?_ | with_reducible refine s_if ?_ | with_reducible refine s_nx ?_ | with_reducible refine s_ret ?_ | with_reducible refine s_seq ?_ | with_reducible refine l_ret ?_ | with_reducible refine l_set ?_ | with_reducible refine l_drop ?_ | with_reducible refine l_asg ?_ | with_reducible refine l_nx ?_ | with_reducible refine l_if ?_ | ((with_reducible apply k_var); rfl) | ((with_reducible apply k_ixT); rfl) | ((with_reducible apply k_inT); rfl; rfl) | ((with_reducible apply k_in); rfl; rfl; rfl) | ((with_reducible refine k_gT ?_ ?_); rfl) | ((with_reducible apply k_isi); rfl; rfl) | ((with_reducible apply k_isiT); rfl; rfl) | with_reducible refine And.intro (fun _ => ?_) (fun h => absurd h (by decide +kernel)) | with_reducible refine And.intro (fun h => absurd h (by decide +kernel)) (fun _ => ?_) | ((with_reducible refine And.intro ?_ ?_); rfl) | ((with_reducible apply Exists.intro); (with_reducible apply And.intro); rfl)))
local macro_rules | `(tactic| walk_at "smb") => `(tactic| repeat' (first | with_reducible refine k_it ?_ | with_reducible refine k_rng1 ?_ | with_reducible refine k_enS ?_ | with_reducible refine k_enL ?_ | with_reducible refine k_zipT ?_ | with_reducible refine k_pn ?_ | with_reducible refine k_pc ?_ | with_reducible refine k_c ?_ | with_reducible refine k_bin ?_ | with_reducible refine k_nil ?_ | with_reducible refine k_cons ?_ | with_reducible refine k_tup ?_ | with_reducible refine k_lst ?_ | with_reducible refine k_tst ?_ | with_reducible refine k_and ?_ | with_reducible refine k_or ?_ | with_reducible refine k_not ?_ | with_reducible refine k_ifE ?_ | with_reducible refine k_sub ?_ | with_reducible refine k_ltX ?_ | with_reducible refine k_ltSX ?_ | with_reducible refine k_lt ?_ | with_reducible refine k_le ?_ | with_reducible refine k_gt ?_ | with_reducible refine k_ge ?_ | with_reducible refine k_neg ?_ | with_reducible refine k_two ?_ | with_reducible refine k_addI ?_ | with_reducible refine k_eqS ?_ | with_reducible refine k_neS ?_ | with_reducible refine k_eqI ?_ | with_reducible refine k_slT ?_ | with_reducible refine k_sl ?_ | with_reducible refine k_no ?_ | with_reducible refine k_pt ?_ | with_reducible refine k_app ?_ | with_reducible refine k_intI ?_ | with_reducible refine k_intB ?_ | with_reducible refine k_mtS ?_ | with_reducible refine k_mtL ?_ | with_reducible refine k_mtD ?_ | with_reducible refine k_call ?_ | with_reducible refine k_dnew ?_ | with_reducible refine k_fmt ?_ | with_reducible refine k_js0 ?_ | with_reducible refine k_js ?_ | with_reducible refine k_gN ?_ | with_reducible refine k_gC ?_ | with_reducible refine k_g0 ?_ | with_reducible refine k_gStar ?_ | with_reducible refine k_gS ?_ | with_reducible refine k_kget ?_ | with_reducible refine k_un ?_ | with_reducible refine k_revT ?_ | with_reducible refine k_inSX ?_ | with_reducible refine s_set ?_ | with_reducible refine s_drop ?_ | with_reducible refine s_asg ?_ | with_reducible refine s_if ?_ | with_reducible refine s_nx ?_ | with_reducible refine s_ret ?_ | with_reducible refine s_seq ?_ | with_reducible refine l_ret ?_ | with_reducible refine l_set ?_ | with_reducible refine l_drop ?_ | with_reducible refine l_asg ?_ | with_reducible refine l_nx ?_ | with_reducible refine l_if ?_ | ((with_reducible apply k_var); rfl) | ((with_reducible apply k_ixT); rfl) | ((with_reducible apply k_inT); rfl; rfl) | ((with_reducible apply k_in); rfl; rfl; rfl) | ((with_reducible refine k_gT ?_ ?_); rfl) | ((with_reducible apply k_isi); rfl; rfl) | ((with_reducible apply k_isiT); rfl; rfl) | with_reducible refine And.intro (fun _ => ?_) (fun h => absurd h (by decide +kernel)) | with_reducible refine And.intro (fun h => absurd h (by decide +kernel)) (fun _ => ?_) | ((with_reducible refine And.intro ?_ ?_); rfl) | ((with_reducible apply Exists.intro); (with_reducible apply And.intro); rfl) | with_reducible refine And.intro (fun _ => ?_) (fun _ => ?_)))
local macro_rules | `(tactic| walk_at "smv") => `(tactic| repeat (first | exact val_hitS (by decide +kernel) | refine (val_missS (by decide +kernel)).trans ?_))
local macro_rules | `(tactic| walk_at "smd") => `(tactic| repeat (first | exact dc_new | exact ls_new | refine dc_app ?_ | refine ls_app ?_))
theorem calls_cut {cs : Str} (h : CallsOk cs) (lo hi : Option Int) : CallsOk (cutS cs lo hi) := by
  have e : (cutS cs lo hi).cps.toList = (cs.cps.toList.drop (HT.sIx cs.length 0 lo)).take (HT.sIx cs.length cs.length hi - HT.sIx cs.length 0 lo) := rfl
  refine ⟨?_, fun c hc => h.2 c (List.mem_of_mem_drop (List.mem_of_mem_take (by rw [← e]; exact hc)))⟩
  have h1 : cs.cps.size ≤ 5 := h.1
  rw [TL.len_tl]
  show (cutS cs lo hi).cps.toList.length ≤ 5
  rw [e, List.length_take, List.length_drop, Array.length_toList]
  omega
theorem calls_all : CallsOk "fghpt" := by
  refine ⟨by decide, fun c hc => ?_⟩
  have e : (Str.ofString "fghpt").cps.toList = [102, 103, 104, 112, 116] := by decide +kernel
  rw [e] at hc
  simp only [List.mem_cons, List.not_mem_nil, or_false] at hc
  rcases hc with rfl | rfl | rfl | rfl | rfl
  · exact .inl rfl
  · exact .inr (.inl rfl)
  · exact .inr (.inr (.inl rfl))
  · exact .inr (.inr (.inr (.inl rfl)))
  · exact .inr (.inr (.inr (.inr rfl)))
theorem strs_all {P : Str → Prop} : ∀ {ds : List Dv}, (∀ d ∈ ds, ∃ x, d = .str x ∧ P x) → ∃ ns : List Str, ds = ns.map Dv.str ∧ ∀ x ∈ ns, P x
  | [], _ => ⟨[], rfl, fun _ h => by cases h⟩
  | d :: ds, h => by
    obtain ⟨x, rfl, hx⟩ := h d List.mem_cons_self
    obtain ⟨ns, rfl, hn⟩ := strs_all (ds := ds) fun d hd => h d (List.mem_cons_of_mem _ hd)
    refine ⟨x :: ns, rfl, fun y hy => ?_⟩
    rcases List.mem_cons.mp hy with rfl | hy
    · exact hx
    · exact hn y hy
theorem cut_mem {α : Type} {xs : List α} {lo hi : Option Int} {x : α} (h : x ∈ cutG xs lo hi) : x ∈ xs := List.mem_of_mem_drop (List.mem_of_mem_take h)
theorem cut_len {α : Type} {xs : List α} {lo hi : Option Int} : (cutG xs lo hi).length ≤ xs.length := by
  unfold cutG
  rw [List.length_take, List.length_drop]
  omega
theorem zip_ok {z : Str} (h : fnName z) : ScOk 2 (zipD [.str "x", .str "y"] ((sigA z).map Dv.str)) := by
  obtain ⟨a1, a2, a3⟩ := sigA_kinds h
  refine ⟨by unfold zipD; rw [List.length_zipWith]; exact Nat.min_le_left _ _, fun d hd => ?_⟩
  unfold zipD at hd
  generalize sigA z = ks at *
  match ks, a2, a3 with
  | [k], _, _ =>
    have hd : d ∈ [Dv.tup [.str "x", .str k]] := hd
    rw [List.mem_singleton.mp hd]
    exact ⟨_, _, rfl, ⟨by decide, by decide +kernel⟩, a1 k (by simp)⟩
  | [k, j], _, _ =>
    have hd : d ∈ [Dv.tup [.str "x", .str k], .tup [.str "y", .str j]] := hd
    simp only [List.mem_cons, List.not_mem_nil, or_false] at hd
    rcases hd with rfl | rfl
    · exact ⟨_, _, rfl, ⟨by decide, by decide +kernel⟩, a1 k (by simp)⟩
    · exact ⟨_, _, rfl, ⟨by decide, by decide +kernel⟩, a1 j (by simp)⟩
/-- a function -/
def FnD (e : Nat) (d : Dv) : Prop := ∃ (nm : Str) (ns : List Str) (b : Dv), d = .tup [.str nm, .tup (ns.map Dv.str), b] ∧ shortName nm ∧ ns.length ≤ 2 ∧ (∀ x ∈ ns, shortName x) ∧ WE e b
def fnN : List Str := ["f", "g", "h", "p", "t"]
theorem fnN_at {i c : Nat} (h : (Str.ofString "fghpt").cps[i]? = some c) : fnN[i]? = some ⟨#[c]⟩ := by
  have e : fnN = (Str.ofString "fghpt").cps.toList.map (fun c => (⟨#[c]⟩ : Str)) := by decide +kernel
  rw [e, List.getElem?_map, Array.getElem?_toList, h]
  rfl
theorem bnd_up {B c : Int} (h : 0 ≤ c) : ∀ {i : Nat}, B ≤ bnd B c i
  | 0 => Int.le_refl _
  | i + 1 => by
    have := bnd_up (B := B) h (i := i)
    show B ≤ bnd B c i + c
    omega
theorem bnd_mono {B c : Int} (h : 0 ≤ c) {i j : Nat} (hij : i ≤ j) : bnd B c i ≤ bnd B c j := by
  induction hij with
  | refl => exact Int.le_refl _
  | step _ ih =>
    show _ ≤ bnd B c _ + c
    omega
theorem tree_any {n l s : Nat} {B r i : Int} {kd cs : Str} {sc : List Dv} {m : Nat} {S : Store} {Q : Dv → Store → Prop} (hn : 11 ≤ n) (r0 : 0 ≤ r) (r1 : r < 3) (hi : i = 2 + r) (h : Dk l B S) (hB : B + cost 4 ≤ 549755813888) (hk : kind kd) (hs : lsAt S s = some sc) (hsl : s ≠ l) (ho : ScOk m sc) (hm : m ≤ 100) (hc : CallsOk cs)
    (k : ∀ v S', Kp [l] S S' → Dk l (B + cost 4) S' → WE 5 v → Q v S') : Ok (callT n .l_tree [.ref l, .str kd, .ref s, .str cs, .int i] S) Q := by
  subst hi
  have c2 : cost 2 = 1600 := rfl
  have c3 : cost 3 = 6400 := rfl
  have c4 : cost 4 = 25600 := rfl
  have : r = 0 ∨ r = 1 ∨ r = 2 := by omega
  rcases this with rfl | rfl | rfl
  · exact use_tree (tree_ok 2 n (by omega)) h (by decide) rfl (by omega) hk hs hsl ho (by omega) hc fun v S' a b w => k v S' a (b.up (by omega)) (w.le (by omega))
  · exact use_tree (tree_ok 3 n (by omega)) h (by decide) rfl (by omega) hk hs hsl ho (by omega) hc fun v S' a b w => k v S' a (b.up (by omega)) (w.le (by omega))
  · exact use_tree (tree_ok 4 n (by omega)) h (by decide) rfl (by omega) hk hs hsl ho (by omega) hc fun v S' a b w => k v S' a (b.up (by omega)) w
theorem program_ok {n l : Nat} {B : Int} {S : Store} (hn : 12 ≤ n) (h : Dk l B S) (hB : B ≤ 100000000) : Ok (callT n .l_program [.ref l] S) (Dr l (B + 200000) S fun v _ => ∃ ds, v = .tup ds ∧ ds.map fstS = fnN ∧ ∀ d ∈ ds, FnD 5 d) := by
  obtain ⟨n, rfl⟩ : ∃ k, n = k + 1 := ⟨n - 1, by omega⟩
  have lS := h.lt
  have c4 : cost 4 = 25600 := rfl
  refine w_of (f := .l_program) ?_
  show Ok (b_l_program (callT n) [some (.ref l), none, none, none, none, none, none, none, none] S) _
  unfold b_l_program
  walk_at "sm"
  refine s_for ?_
  walk_at "sm"
  refine ⟨fun i δ S' => ∃ a2 a3 a4 a5 a6 a7 a8 acc, δ = [some (.ref l), some (.ref S.length), a2, a3, a4, a5, a6, a7, a8] ∧ Kp [l] S S' ∧ Dk l (bnd B 30000 i) S' ∧ lsAt S' S.length = some acc ∧ acc.map fstS = fnN.take i ∧ i ≤ 5 ∧ ∀ d ∈ acc, FnD 5 d,
    ⟨_, _, _, _, _, _, _, [], rfl, Kp.refl.app, h.app, ls_new, rfl, by omega, fun d hd => by cases hd⟩, ?_⟩
  rintro i δ S1 ⟨a2, a3, a4, a5, a6, a7, a8, acc, rfl, k1, d1, hacc, lm, i5, hf⟩
  have la : acc.length = i := by
    have := congrArg List.length lm
    rw [List.length_map, List.length_take] at this
    have e5 : fnN.length = 5 := rfl
    omega
  have bm := bnd_mono (B := B) (c := 30000) (by omega) i5
  have b5 : bnd B 30000 5 = B + 30000 + 30000 + 30000 + 30000 + 30000 := rfl
  have it0 := signs_at "fghpt" i
  have nl : S.length ≠ l := by omega
  by_cases hi : 5 ≤ i
  · left
    have hi5 : i = 5 := by omega
    subst hi5
    refine ⟨rfl, ?_⟩
    walk_at "sm"
    refine k_tuple hacc ?_
    exact ⟨k1, d1.up (by omega), _, rfl, lm, hf⟩
  right
  have hi : i < 5 := by omega
  obtain ⟨c, hc, hz⟩ : ∃ c, (Str.ofString "fghpt").cps[i]? = some c ∧ fnName ⟨#[c]⟩ := by
    have sz : (Str.ofString "fghpt").cps.size = 5 := by decide +kernel
    have hlt : i < (Str.ofString "fghpt").cps.size := by omega
    exact ⟨_, Array.getElem?_eq_getElem hlt, calls_all.2 _ (by simp)⟩
  refine ⟨by show i < (Str.ofString "fghpt").cps.size; rw [show (Str.ofString "fghpt").cps.size = 5 by decide +kernel]; exact hi, .tup [.int (i : Nat), .str ⟨#[c]⟩], by dsimp only; rw [hc]; rfl, ?_⟩
  have hnt := fnN_at hc
  generalize hzz : (⟨#[c]⟩ : Str) = z at *
  obtain ⟨b1, b2, b3⟩ := sigA_kinds hz
  refine k_gT rfl (k_gC (k_gN (k_gC (k_gN (k_g0 (s_set ?_))))))
  refine Ok.imp (P := fun v S2 => ∃ cs, v = .str cs ∧ CallsOk cs ∧ Kp [l] S1 S2 ∧ Dk l (bnd B 30000 i + 1) S2) ?_ ?_
  · walk_at "sm"
    refine use_pick (by omega) d1 (by omega) (by decide) (by decide) fun r S2 r0 r1 k2 d2 => ?_
    walk_at "sm"
    refine ⟨fun _ => ?_, fun _ => ?_⟩
    · walk_at "sm"
      refine k_slS (by decide) ?_
      exact ⟨_, rfl, calls_cut calls_all _ _, k2, d2⟩
    · walk_at "sm"
      exact ⟨calls_all, k2, d2⟩
  rintro v S2 ⟨cs, rfl, hcs, k2, d2⟩
  have kk2 := k1.trans k2
  walk_at "sm"
  refine use_signs (by omega) fun v S3 k3 ⟨dd, kvs, ev, hdc, hsg⟩ => ?_
  subst ev
  obtain ⟨r, hv, hr⟩ := hsg z hz
  have d3 := d2.kp k3 (by simp)
  have kk3 : Kp [l] S S3 := kk2.trans k3.any
  have k13 : Kp [l] S1 S3 := k2.trans k3.any
  have rl := deck_ne d3 hr
  have l3 := d3.lt
  walk_at "sm"
  refine k_ixD hdc rfl hv ?_
  walk_at "sm"
  refine k_lzip ?_
  walk_at "sm"
  refine ⟨_, _, _, _, rfl, ls_new, ls_app hr, ?_⟩
  walk_at "sm"
  have d5 : Dk l (bnd B 30000 i + 1) (S3 ++ [Ob.lst [.str "x", .str "y"]] ++ [Ob.lst (zipD [.str "x", .str "y"] ((sigA z).map Dv.str))]) := d3.app.app
  refine use_pick (by omega) d5 (by omega) (by decide) (by decide) fun r' S6 r0 r1 k6 d6 => ?_
  walk_at "sm"
  have hs6 := k6.ls (not1 (show (S3 ++ [Ob.lst [.str "x", .str "y"]] : Store).length ≠ l by simp; omega)) ls_new
  refine tree_any (by omega) r0 r1 rfl d6 (by omega) (sigT_kind hz) hs6 (by simp; omega) (zip_ok hz) (by omega) hcs fun v S7 k7 d7 w7 => ?_
  have k37 : Kp [l] S3 S7 := (Kp.refl.app.app.trans k6).trans k7
  have l7 := d7.lt
  have hr7 := k37.ls (not1 rl) hr
  have hacc7 := (k13.trans k37).ls (not1 nl) hacc
  have lacc := ls_lt hacc7
  walk_at "sm"
  refine ⟨_, acc, rfl, hacc7, ?_⟩
  walk_at "sm"
  refine k_len (n := ((sigA z).map Dv.str).length) (by unfold lenOf; dsimp only; rw [ls_app hr7]) ?_
  rw [List.length_map]
  walk_at "sm"
  refine k_slL (x := .ref S7.length) ls_new ?_
  walk_at "sm"
  refine k_tuple ls_new ?_
  walk_at "sm"
  refine k_append (ls_app (ls_app hacc7)) (by omega) ?_
  obtain ⟨ns, ens, hns⟩ := strs_all (P := shortName) (ds := cutG [.str "x", .str "y"] none (some ((sigA z).length : Int))) fun d hd => by
    have := cut_mem hd
    simp only [List.mem_cons, List.not_mem_nil, or_false] at this
    rcases this with rfl | rfl
    · exact ⟨_, rfl, by decide, by decide +kernel⟩
    · exact ⟨_, rfl, by decide, by decide +kernel⟩
  have nsl : ns.length ≤ 2 := by
    have := cut_len (xs := [Dv.str "x", .str "y"]) (lo := none) (hi := some ((sigA z).length : Int))
    rw [ens, List.length_map] at this
    exact this
  refine ⟨_, _, _, _, _, _, _, acc ++ [.tup [.str z, .tup (ns.map Dv.str), v]], rfl, (((kk3.trans k37).app).app).set (.inl (Nat.le_refl _)), (d7.app.app.set nl).up (by show _ ≤ bnd B 30000 i + 30000; omega), ?_, ?_, by omega, fun d hd => ?_⟩
  · rw [ens]
    exact ls_set (by simp; omega)
  · rw [List.map_append, lm, List.take_add_one, hnt]
    rfl
  · rcases List.mem_append.mp hd with hd | hd
    · exact hf d hd
    · rw [List.mem_singleton.mp hd]
      exact ⟨z, ns, v, rfl, ⟨by rw [(fn_short hz).1]; decide, (fn_short hz).2⟩, nsl, hns, w7⟩
end K61

namespace K61
open PySem L2 Sm
local macro_rules | `(tactic| walk_at "sm") => `(tactic| repeat (first | with_reducible refine k_it ?_ | with_reducible refine k_rng1 ?_ | with_reducible refine k_enS ?_ | with_reducible refine k_enL ?_ | with_reducible refine k_zipT ?_ | with_reducible refine k_pn ?_ | with_reducible refine k_pc ?_ | with_reducible refine k_c ?_ | with_reducible refine k_bin ?_ | with_reducible refine k_nil ?_ | with_reducible refine k_cons ?_ | with_reducible refine k_tup ?_ | with_reducible refine k_lst ?_ | with_reducible refine k_tst ?_ | with_reducible refine k_and ?_ | with_reducible refine k_or ?_ | with_reducible refine k_not ?_ | with_reducible refine k_ifE ?_ | with_reducible refine k_sub ?_ | with_reducible refine k_ltX ?_ | with_reducible refine k_ltSX ?_ | with_reducible refine k_lt ?_ | with_reducible refine k_le ?_ | with_reducible refine k_gt ?_ | with_reducible refine k_ge ?_ | with_reducible refine k_neg ?_ | with_reducible refine k_two ?_ | with_reducible refine k_addI ?_ | with_reducible refine k_eqS ?_ | with_reducible refine k_neS ?_ | with_reducible refine k_eqI ?_ | with_reducible refine k_slT ?_ | with_reducible refine k_sl ?_ | with_reducible refine k_no ?_ | with_reducible refine k_pt ?_ | with_reducible refine k_app ?_ | with_reducible refine k_intI ?_ | with_reducible refine k_intB ?_ | with_reducible refine k_mtS ?_ | with_reducible refine k_mtL ?_ | with_reducible refine k_mtD ?_ | with_reducible refine k_call ?_ | with_reducible refine k_dnew ?_ | with_reducible refine k_fmt ?_ | with_reducible refine k_js0 ?_ | with_reducible refine k_js ?_ | with_reducible refine k_gN ?_ | with_reducible refine k_gC ?_ | with_reducible refine k_g0 ?_ | with_reducible refine k_gStar ?_ | with_reducible refine k_gS ?_ | with_reducible refine k_kget ?_ | with_reducible refine k_un ?_ | with_reducible refine k_revT ?_ | with_reducible refine k_inSX ?_ | with_reducible refine s_set ?_ | with_reducible refine s_drop ?_ | with_reducible refine s_asg ?_ | with_reducible refine s_if ?_ | with_reducible refine s_nx ?_ | with_reducible refine s_ret ?_ | with_reducible refine s_seq ?_ | with_reducible refine l_ret ?_ | with_reducible refine l_set ?_ | with_reducible refine l_drop ?_ | with_reducible refine l_asg ?_ | with_reducible refine l_nx ?_ | with_reducible refine l_if ?_ | ((with_reducible apply k_var); rfl) | ((with_reducible apply k_ixT); rfl) | ((with_reducible apply k_inT); rfl; rfl) | ((with_reducible apply k_in); rfl; rfl; rfl) | ((with_reducible refine k_gT ?_ ?_); rfl) | ((with_reducible apply k_isi); rfl; rfl) | ((with_reducible apply k_isiT); rfl; rfl) | with_reducible refine And.intro (fun _ => ?_) (fun h => absurd h (by decide +kernel)) | with_reducible refine And.intro (fun h => absurd h (by decide +kernel)) (fun _ => ?_) | ((with_reducible refine And.intro ?_ ?_); rfl) | ((with_reducible apply Exists.intro); (with_reducible apply And.intro); rfl)))
local macro_rules | `(tactic| walk_at "smb") => `(tactic| repeat' (first | with_reducible refine k_it ?_ | with_reducible refine k_rng1 ?_ | with_reducible refine k_enS ?_ | with_reducible refine k_enL ?_ | with_reducible refine k_zipT ?_ | with_reducible refine k_pn ?_ | with_reducible refine k_pc ?_ | with_reducible refine k_c ?_ | with_reducible refine k_bin ?_ | with_reducible refine k_nil ?_ | with_reducible refine k_cons ?_ | with_reducible refine k_tup ?_ | with_reducible refine k_lst ?_ | with_reducible refine k_tst ?_ | with_reducible refine k_and ?_ | with_reducible refine k_or ?_ | with_reducible refine k_not ?_ | with_reducible refine k_ifE ?_ | with_reducible refine k_sub ?_ | with_reducible refine k_ltX ?_ | with_reducible refine k_ltSX ?_ | with_reducible refine k_lt ?_ | with_reducible refine k_le ?_ | with_reducible refine k_gt ?_ | with_reducible refine k_ge ?_ | with_reducible refine k_neg ?_ | with_reducible refine k_two ?_ | with_reducible refine k_addI ?_ | with_reducible refine k_eqS ?_ | with_reducible refine k_neS ?_ | with_reducible refine k_eqI ?_ | with_reducible refine k_slT ?_ | with_reducible refine k_sl ?_ | with_reducible refine k_no ?_ | with_reducible refine k_pt ?_ | with_reducible refine k_app ?_ | with_reducible refine k_intI ?_ | with_reducible refine k_intB ?_ | with_reducible refine k_mtS ?_ | with_reducible refine k_mtL ?_ | with_reducible refine k_mtD ?_ | with_reducible refine k_call ?_ | with_reducible refine k_dnew ?_ | with_reducible refine k_fmt ?_ | with_reducible refine k_js0 ?_ | with_reducible refine k_js ?_ | with_reducible refine k_gN ?_ | with_reducible refine k_gC ?_ | with_reducible refine k_g0 ?_ | with_reducible refine k_gStar ?_ | with_reducible refine k_gS ?_ | with_reducible refine k_kget ?_ | with_reducible refine k_un ?_ | with_reducible refine k_revT ?_ | with_reducible refine k_inSX ?_ | with_reducible refine s_set ?_ | with_reducible refine s_drop ?_ | with_reducible refine s_asg ?_ | with_reducible refine s_if ?_ | with_reducible refine s_nx ?_ | with_reducible refine s_ret ?_ | with_reducible refine s_seq ?_ | with_reducible refine l_ret ?_ | with_reducible refine l_set ?_ | with_reducible refine l_drop ?_ | with_reducible refine l_asg ?_ | with_reducible refine l_nx ?_ | with_reducible refine l_if ?_ | ((with_reducible apply k_var); rfl) | ((with_reducible apply k_ixT); rfl) | ((with_reducible apply k_inT); rfl; rfl) | ((with_reducible apply k_in); rfl; rfl; rfl) | ((with_reducible refine k_gT ?_ ?_); rfl) | ((with_reducible apply k_isi); rfl; rfl) | ((with_reducible apply k_isiT); rfl; rfl) | with_reducible refine And.intro (fun _ => ?_) (fun h => absurd h (by decide +kernel)) | with_reducible refine And.intro (fun h => absurd h (by decide +kernel)) (fun _ => ?_) | ((with_reducible refine And.intro ?_ ?_); rfl) | ((with_reducible apply Exists.intro); (with_reducible apply And.intro); rfl) | with_reducible refine And.intro (fun _ => ?_) (fun _ => ?_)))
local macro_rules | `(tactic| walk_at "smv") => `(tactic| repeat (first | exact val_hitS (by decide +kernel) | refine (val_missS (by decide +kernel)).trans ?_))
local macro_rules | `(tactic| walk_at "smd") => `(tactic| repeat (first | exact dc_new | exact ls_new | refine dc_app ?_ | refine ls_app ?_))
/-! ### trees with their spots -/
inductive WT : Nat → Dv → List Dv → Prop
  | name {d : Nat} {x : Str} : x.length ≤ 2 → PyData.strOk x = true → WT d (.tup [.str "name", .str x]) [.tup [.str "name", .str x]]
  | num {d : Nat} {i : Int} : smallI i → WT d (.tup [.str "number", .int i]) [.tup [.str "number", .int i]]
  | truth {d : Nat} {b : Bool} : WT d (.tup [.str "truth", .bl b]) [.tup [.str "truth", .bl b]]
  | row {d : Nat} {is : List Int} : is.length ≤ 8 → (∀ i ∈ is, smallI i) → WT d (.tup [.str "row", .tup (is.map Dv.int)]) [.tup [.str "row", .tup (is.map Dv.int)]]
  | doo {d : Nat} {h w : Str} {as : List Dv} {dss : List (List Dv)} : (h = "do" ∨ h = "call") → w.length ≤ 10 → PyData.strOk w = true → Ar w as.length → as.length ≤ 4 → dss.length = as.length → (∀ (i : Nat) (a : Dv) (ds : List Dv), as[i]? = some a → dss[i]? = some ds → WT d a ds) →
      WT (d + 1) (.tup [.str h, .str w, .tup as]) (.tup [.str h, .str w, .tup as] :: dss.flatten)
  | iff {d : Nat} {a b c : Dv} {da db dc : List Dv} : WT d a da → WT d b db → WT d c dc → WT (d + 1) (.tup [.str "if", a, b, c]) (.tup [.str "if", a, b, c] :: [da, db, dc].flatten)
  | lett {d : Nat} {x : Str} {a b : Dv} {da db : List Dv} : x.length ≤ 2 → PyData.strOk x = true → WT d a da → WT d b db → WT (d + 1) (.tup [.str "let", .str x, a, b]) (.tup [.str "let", .str x, a, b] :: [da, db].flatten)
theorem pick_all {α β : Type} {P : α → β → Prop} : ∀ {as : List α}, (∀ a ∈ as, ∃ b, P a b) → ∃ bs : List β, bs.length = as.length ∧ ∀ (i : Nat) (a : α) (b : β), as[i]? = some a → bs[i]? = some b → P a b
  | [], _ => ⟨[], rfl, fun i a b h => by simp at h⟩
  | a :: as, h => by
    obtain ⟨b, hb⟩ := h a List.mem_cons_self
    obtain ⟨bs, l, hs⟩ := pick_all (as := as) fun a ha => h a (List.mem_cons_of_mem _ ha)
    refine ⟨b :: bs, by simp [l], fun i x y e1 e2 => ?_⟩
    cases i with
    | zero => cases e1; cases e2; exact hb
    | succ i => exact hs i x y (by simpa using e1) (by simpa using e2)
theorem WE.wt {d : Nat} {v : Dv} (h : WE d v) : ∃ ds, WT d v ds := by
  induction h with
  | name h h2 => exact ⟨_, .name h h2⟩
  | num h => exact ⟨_, .num h⟩
  | truth => exact ⟨_, .truth⟩
  | row h h2 => exact ⟨_, .row h h2⟩
  | doo h1 h2 h0 ha h3 h4 ih =>
    obtain ⟨dss, l, hs⟩ := pick_all ih
    exact ⟨_, .doo h1 h2 h0 ha h3 l hs⟩
  | iff _ _ _ i1 i2 i3 =>
    obtain ⟨_, i1⟩ := i1
    obtain ⟨_, i2⟩ := i2
    obtain ⟨_, i3⟩ := i3
    exact ⟨_, .iff i1 i2 i3⟩
  | lett h h0 _ _ i1 i2 =>
    obtain ⟨_, i1⟩ := i1
    obtain ⟨_, i2⟩ := i2
    exact ⟨_, .lett h h0 i1 i2⟩
theorem at_mem {α β : Type} {as : List α} {bs : List β} (l : bs.length = as.length) {a : α} (h : a ∈ as) : ∃ (i : Nat) (b : β), as[i]? = some a ∧ bs[i]? = some b := by
  obtain ⟨i, hi⟩ := List.mem_iff_getElem?.mp h
  have := (List.getElem?_eq_some_iff.mp hi).1
  exact ⟨i, bs[i], hi, List.getElem?_eq_getElem (by omega)⟩
theorem WT.we {d : Nat} {v : Dv} {ds : List Dv} (h : WT d v ds) : WE d v := by
  induction h with
  | name h h2 => exact .name h h2
  | num h => exact .num h
  | truth => exact .truth
  | row h h2 => exact .row h h2
  | doo h1 h2 h0 ha h3 l _ ih =>
    refine .doo h1 h2 h0 ha h3 fun a hm => ?_
    obtain ⟨i, b, e1, e2⟩ := at_mem l hm
    exact ih i a b e1 e2
  | iff _ _ _ i1 i2 i3 => exact .iff i1 i2 i3
  | lett h h0 _ _ i1 i2 => exact .lett h h0 i1 i2
theorem WT.head {d : Nat} {v : Dv} {ds : List Dv} (h : WT d v ds) : ∃ tl, ds = v :: tl := by
  cases h <;> exact ⟨_, rfl⟩
theorem WT.mem {d : Nat} {v : Dv} {ds : List Dv} (h : WT d v ds) : ∀ x ∈ ds, WE d x := by
  have h0 := h.we
  induction h with
  | name h h2 => intro x hx; rw [List.mem_singleton.mp hx]; exact h0
  | num h => intro x hx; rw [List.mem_singleton.mp hx]; exact h0
  | truth => intro x hx; rw [List.mem_singleton.mp hx]; exact h0
  | row h h2 => intro x hx; rw [List.mem_singleton.mp hx]; exact h0
  | @doo d h w as dss h1 h2 h0' ha h3 l hs ih =>
    intro x hx
    rcases List.mem_cons.mp hx with rfl | hx
    · exact h0
    · obtain ⟨ds, hd, hx'⟩ := List.mem_flatten.mp hx
      obtain ⟨i, a, e1, e2⟩ := at_mem l.symm hd
      exact (ih i a ds e2 e1 (hs i a ds e2 e1).we x hx').up
  | iff t1 t2 t3 i1 i2 i3 =>
    intro x hx
    rcases List.mem_cons.mp hx with rfl | hx
    · exact h0
    · obtain ⟨ds, hd, hx'⟩ := List.mem_flatten.mp hx
      simp only [List.mem_cons, List.not_mem_nil, or_false] at hd
      rcases hd with rfl | rfl | rfl
      · exact (i1 t1.we x hx').up
      · exact (i2 t2.we x hx').up
      · exact (i3 t3.we x hx').up
  | lett h h0' t1 t2 i1 i2 =>
    intro x hx
    rcases List.mem_cons.mp hx with rfl | hx
    · exact h0
    · obtain ⟨ds, hd, hx'⟩ := List.mem_flatten.mp hx
      simp only [List.mem_cons, List.not_mem_nil, or_false] at hd
      rcases hd with rfl | rfl
      · exact (i1 t1.we x hx').up
      · exact (i2 t2.we x hx').up
/-- how many spots a tree so deep has at most -/
def bs : Nat → Nat
  | 0 => 1
  | d + 1 => 1 + 4 * bs d
theorem bs_pos : ∀ d, 1 ≤ bs d
  | 0 => Nat.le_refl _
  | d + 1 => by show 1 ≤ 1 + 4 * bs d; omega
theorem bs_up (d : Nat) : bs d ≤ bs (d + 1) := by show bs d ≤ 1 + 4 * bs d; omega
theorem bs_le {d e : Nat} (h : d ≤ e) : bs d ≤ bs e := by
  induction h with
  | refl => exact Nat.le_refl _
  | step _ ih => exact Nat.le_trans ih (bs_up _)
theorem flat_len {α : Type} {B : Nat} : ∀ {dss : List (List α)}, (∀ ds ∈ dss, ds.length ≤ B) → dss.flatten.length ≤ dss.length * B
  | [], _ => by simp
  | d :: dss, h => by
    have h1 := h d List.mem_cons_self
    have h2 := flat_len (dss := dss) fun x hx => h x (List.mem_cons_of_mem _ hx)
    rw [List.flatten_cons, List.length_append, List.length_cons, Nat.succ_mul]
    omega
theorem WT.len {d : Nat} {v : Dv} {ds : List Dv} (h : WT d v ds) : ds.length ≤ bs d := by
  induction h with
  | name h h2 => exact bs_pos _
  | num h => exact bs_pos _
  | truth => exact bs_pos _
  | row h h2 => exact bs_pos _
  | @doo d h w as dss h1 h2 h0' ha h3 l hs ih =>
    have : ∀ ds ∈ dss, ds.length ≤ bs d := fun ds hd => by
      obtain ⟨i, a, e1, e2⟩ := at_mem l.symm hd
      exact ih i a ds e2 e1
    have h5 := flat_len this
    have h6 : dss.length * bs d ≤ 4 * bs d := Nat.mul_le_mul_right _ (by omega)
    show (_ :: dss.flatten).length ≤ 1 + 4 * bs d
    rw [List.length_cons]
    omega
  | @iff d _ _ _ da db dc t1 t2 t3 i1 i2 i3 =>
    show (_ :: (da ++ (db ++ (dc ++ [])))).length ≤ 1 + 4 * bs d
    simp only [List.length_cons, List.length_append, List.length_nil]
    omega
  | @lett d _ _ _ da db h h0' t1 t2 i1 i2 =>
    show (_ :: (da ++ (db ++ []))).length ≤ 1 + 4 * bs d
    simp only [List.length_cons, List.length_append, List.length_nil]
    omega
/-! ### what a call of spots_from tells -/
/-- that list, new -/
def Ls (S : Store) (ds : List Dv) : Dv → Store → Prop := fun r S' => ∃ l, r = .ref l ∧ S.length ≤ l ∧ lsAt S' l = some ds ∧ Kp [] S S'
def SpOk (f : Fn) (n : Nat) (v : Dv) (ds : List Dv) : Prop := ∀ (m : Nat) (S : Store), n ≤ m → Ok (callT m f [v] S) (Ls S ds)
/-- the loop over what is within -/
theorem cut_two {α : Type} (x y : α) (xs : List α) : cutG (x :: y :: xs) (some 2) none = xs := by
  unfold cutG
  rw [show HT.sIx (x :: y :: xs).length 0 (some 2) = min 2 (x :: y :: xs).length from HT.sIx_nat (x :: y :: xs).length 0 2, HT.sIx_none]
  rw [show min 2 (x :: y :: xs).length = 2 by simp only [List.length_cons]; omega]
  show List.take ((x :: y :: xs).length - 2) xs = xs
  rw [show (x :: y :: xs).length - 2 = xs.length by simp only [List.length_cons]; omega, List.take_length]
theorem flat_take {α : Type} {dss : List (List α)} {i : Nat} {ds : List α} (h : dss[i]? = some ds) : (dss.take (i + 1)).flatten = (dss.take i).flatten ++ ds := by
  rw [List.take_add_one, h]
  simp
end K61

namespace K61
open PySem L2 Sm
local macro_rules | `(tactic| walk_at "sm") => `(tactic| repeat (first | with_reducible refine k_it ?_ | with_reducible refine k_rng1 ?_ | with_reducible refine k_enS ?_ | with_reducible refine k_enL ?_ | with_reducible refine k_zipT ?_ | with_reducible refine k_pn ?_ | with_reducible refine k_pc ?_ | with_reducible refine k_c ?_ | with_reducible refine k_bin ?_ | with_reducible refine k_nil ?_ | with_reducible refine k_cons ?_ | with_reducible refine k_tup ?_ | with_reducible refine k_lst ?_ | with_reducible refine k_tst ?_ | with_reducible refine k_and ?_ | with_reducible refine k_or ?_ | with_reducible refine k_not ?_ | with_reducible refine k_ifE ?_ | with_reducible refine k_sub ?_ | with_reducible refine k_ltX ?_ | with_reducible refine k_ltSX ?_ | with_reducible refine k_lt ?_ | with_reducible refine k_le ?_ | with_reducible refine k_gt ?_ | with_reducible refine k_ge ?_ | with_reducible refine k_neg ?_ | with_reducible refine k_two ?_ | with_reducible refine k_addI ?_ | with_reducible refine k_eqS ?_ | with_reducible refine k_neS ?_ | with_reducible refine k_eqI ?_ | with_reducible refine k_slT ?_ | with_reducible refine k_sl ?_ | with_reducible refine k_no ?_ | with_reducible refine k_pt ?_ | with_reducible refine k_app ?_ | with_reducible refine k_intI ?_ | with_reducible refine k_intB ?_ | with_reducible refine k_mtS ?_ | with_reducible refine k_mtL ?_ | with_reducible refine k_mtD ?_ | with_reducible refine k_call ?_ | with_reducible refine k_dnew ?_ | with_reducible refine k_fmt ?_ | with_reducible refine k_js0 ?_ | with_reducible refine k_js ?_ | with_reducible refine k_gN ?_ | with_reducible refine k_gC ?_ | with_reducible refine k_g0 ?_ | with_reducible refine k_gStar ?_ | with_reducible refine k_gS ?_ | with_reducible refine k_kget ?_ | with_reducible refine k_un ?_ | with_reducible refine k_revT ?_ | with_reducible refine k_inSX ?_ | with_reducible refine s_set ?_ | with_reducible refine s_drop ?_ | with_reducible refine s_asg ?_ | with_reducible refine s_if ?_ | with_reducible refine s_nx ?_ | with_reducible refine s_ret ?_ | with_reducible refine s_seq ?_ | with_reducible refine l_ret ?_ | with_reducible refine l_set ?_ | with_reducible refine l_drop ?_ | with_reducible refine l_asg ?_ | with_reducible refine l_nx ?_ | with_reducible refine l_if ?_ | ((with_reducible apply k_var); rfl) | ((with_reducible apply k_ixT); rfl) | ((with_reducible apply k_inT); rfl; rfl) | ((with_reducible apply k_in); rfl; rfl; rfl) | ((with_reducible refine k_gT ?_ ?_); rfl) | ((with_reducible apply k_isi); rfl; rfl) | ((with_reducible apply k_isiT); rfl; rfl) | with_reducible refine And.intro (fun _ => ?_) (fun h => absurd h (by decide +kernel)) | with_reducible refine And.intro (fun h => absurd h (by decide +kernel)) (fun _ => ?_) | ((with_reducible refine And.intro ?_ ?_); rfl) | ((with_reducible apply Exists.intro); (with_reducible apply And.intro); rfl)))
local macro_rules | `(tactic| walk_at "smb") => `(tactic| repeat' (first | with_reducible refine k_it ?_ | with_reducible refine k_rng1 ?_ | with_reducible refine k_enS ?_ | with_reducible refine k_enL ?_ | with_reducible refine k_zipT ?_ | with_reducible refine k_pn ?_ | with_reducible refine k_pc ?_ | with_reducible refine k_c ?_ | with_reducible refine k_bin ?_ | with_reducible refine k_nil ?_ | with_reducible refine k_cons ?_ | with_reducible refine k_tup ?_ | with_reducible refine k_lst ?_ | with_reducible refine k_tst ?_ | with_reducible refine k_and ?_ | with_reducible refine k_or ?_ | with_reducible refine k_not ?_ | with_reducible refine k_ifE ?_ | with_reducible refine k_sub ?_ | with_reducible refine k_ltX ?_ | with_reducible refine k_ltSX ?_ | with_reducible refine k_lt ?_ | with_reducible refine k_le ?_ | with_reducible refine k_gt ?_ | with_reducible refine k_ge ?_ | with_reducible refine k_neg ?_ | with_reducible refine k_two ?_ | with_reducible refine k_addI ?_ | with_reducible refine k_eqS ?_ | with_reducible refine k_neS ?_ | with_reducible refine k_eqI ?_ | with_reducible refine k_slT ?_ | with_reducible refine k_sl ?_ | with_reducible refine k_no ?_ | with_reducible refine k_pt ?_ | with_reducible refine k_app ?_ | with_reducible refine k_intI ?_ | with_reducible refine k_intB ?_ | with_reducible refine k_mtS ?_ | with_reducible refine k_mtL ?_ | with_reducible refine k_mtD ?_ | with_reducible refine k_call ?_ | with_reducible refine k_dnew ?_ | with_reducible refine k_fmt ?_ | with_reducible refine k_js0 ?_ | with_reducible refine k_js ?_ | with_reducible refine k_gN ?_ | with_reducible refine k_gC ?_ | with_reducible refine k_g0 ?_ | with_reducible refine k_gStar ?_ | with_reducible refine k_gS ?_ | with_reducible refine k_kget ?_ | with_reducible refine k_un ?_ | with_reducible refine k_revT ?_ | with_reducible refine k_inSX ?_ | with_reducible refine s_set ?_ | with_reducible refine s_drop ?_ | with_reducible refine s_asg ?_ | with_reducible refine s_if ?_ | with_reducible refine s_nx ?_ | with_reducible refine s_ret ?_ | with_reducible refine s_seq ?_ | with_reducible refine l_ret ?_ | with_reducible refine l_set ?_ | with_reducible refine l_drop ?_ | with_reducible refine l_asg ?_ | with_reducible refine l_nx ?_ | with_reducible refine l_if ?_ | ((with_reducible apply k_var); rfl) | ((with_reducible apply k_ixT); rfl) | ((with_reducible apply k_inT); rfl; rfl) | ((with_reducible apply k_in); rfl; rfl; rfl) | ((with_reducible refine k_gT ?_ ?_); rfl) | ((with_reducible apply k_isi); rfl; rfl) | ((with_reducible apply k_isiT); rfl; rfl) | with_reducible refine And.intro (fun _ => ?_) (fun h => absurd h (by decide +kernel)) | with_reducible refine And.intro (fun h => absurd h (by decide +kernel)) (fun _ => ?_) | ((with_reducible refine And.intro ?_ ?_); rfl) | ((with_reducible apply Exists.intro); (with_reducible apply And.intro); rfl) | with_reducible refine And.intro (fun _ => ?_) (fun _ => ?_)))
local macro_rules | `(tactic| walk_at "smv") => `(tactic| repeat (first | exact val_hitS (by decide +kernel) | refine (val_missS (by decide +kernel)).trans ?_))
local macro_rules | `(tactic| walk_at "smd") => `(tactic| repeat (first | exact dc_new | exact ls_new | refine dc_app ?_ | refine ls_app ?_))
theorem Ls.new {S S' : Store} {ds : List Dv} (k : Kp [] S S') : Ls S ds (.ref S'.length) (S' ++ [.lst ds]) := ⟨_, rfl, k.1, ls_new, k.app⟩
/-- what stands straight within -/
def StOk (v : Dv) (ks : List Dv) : Prop := ∀ (m : Nat) (S : Store), 1 ≤ m → Ok (callT m .straight [v] S) (Ls S ks)
theorem st_leaf {h : Str} {x : Dv} (hh : h = "name" ∨ h = "number" ∨ h = "truth" ∨ h = "row") : StOk (.tup [.str h, x]) [] := fun m S hm => by
  obtain ⟨m, rfl⟩ : ∃ k, m = k + 1 := ⟨m - 1, by omega⟩
  refine w_of (f := .straight) ?_
  show Ok (b_straight (callT m) [some (.tup [.str h, x]), none] S) _
  unfold b_straight
  rcases hh with rfl | rfl | rfl | rfl
  · walk_at "sm"
    exact Ls.new Kp.refl
  · walk_at "sm"
    exact Ls.new Kp.refl
  · walk_at "sm"
    exact Ls.new Kp.refl
  · walk_at "sm"
    exact Ls.new Kp.refl
theorem st_doo {h w : Str} {as : List Dv} (hh : h = "do" ∨ h = "call") : StOk (.tup [.str h, .str w, .tup as]) as := fun m S hm => by
  obtain ⟨m, rfl⟩ : ∃ k, m = k + 1 := ⟨m - 1, by omega⟩
  refine w_of (f := .straight) ?_
  show Ok (b_straight (callT m) [some (.tup [.str h, .str w, .tup as]), none] S) _
  unfold b_straight
  rcases hh with rfl | rfl
  · walk_at "sm"
    refine k_list rfl ?_
    exact Ls.new Kp.refl
  · walk_at "sm"
    refine k_list rfl ?_
    exact Ls.new Kp.refl
theorem st_iff {a b c : Dv} : StOk (.tup [.str "if", a, b, c]) [a, b, c] := fun m S hm => by
  obtain ⟨m, rfl⟩ : ∃ k, m = k + 1 := ⟨m - 1, by omega⟩
  refine w_of (f := .straight) ?_
  show Ok (b_straight (callT m) [some (.tup [.str "if", a, b, c]), none] S) _
  unfold b_straight
  walk_at "sm"
  refine k_list rfl ?_
  rw [cut_tail]
  exact Ls.new Kp.refl
theorem st_lett {x : Str} {a b : Dv} : StOk (.tup [.str "let", .str x, a, b]) [a, b] := fun m S hm => by
  obtain ⟨m, rfl⟩ : ∃ k, m = k + 1 := ⟨m - 1, by omega⟩
  refine w_of (f := .straight) ?_
  show Ok (b_straight (callT m) [some (.tup [.str "let", .str x, a, b]), none] S) _
  unfold b_straight
  walk_at "sm"
  refine k_list rfl ?_
  rw [cut_two]
  exact Ls.new Kp.refl
theorem sp_step {v : Dv} {ks : List Dv} {dss : List (List Dv)} {n : Nat} (hn : 1 ≤ n) (hs : StOk v ks) (l : dss.length = ks.length) (hb : 1 + dss.flatten.length ≤ 16777216) (hk : ∀ (i : Nat) (a : Dv) (ds : List Dv), ks[i]? = some a → dss[i]? = some ds → SpOk .spots_from n a ds) :
    SpOk .spots_from (n + 1) v (v :: dss.flatten) := fun m S hm => by
  obtain ⟨m, rfl⟩ : ∃ k, m = k + 1 := ⟨m - 1, by omega⟩
  refine w_of (f := .spots_from) ?_
  show Ok (b_spots_from (callT m) [some v, none, none] S) _
  unfold b_spots_from
  walk_at "sm"
  refine s_for ?_
  walk_at "sm"
  refine (hs m _ (by omega)).imp fun r S1 ⟨rr, er, hr, hL, k1⟩ => ?_
  subst er
  have hr' : S.length + 1 ≤ rr := by simpa using hr
  have l1 : S.length < S1.length := by have := k1.1; simp at this; omega
  refine ⟨_, it_ref hL, fun i δ S' => ∃ a2, δ = [some v, some (.ref S.length), a2] ∧ Kp [] S S' ∧ Kp [S.length] S1 S' ∧ lsAt S' S.length = some (v :: (dss.take i).flatten) ∧ i ≤ ks.length,
    ⟨_, rfl, Kp.refl.app.trans k1, Kp.refl, k1.ls (by simp) ls_new, Nat.zero_le _⟩, ?_⟩
  rintro i δ S2 ⟨a2, rfl, k2, k12, hf, hi⟩
  have hL2 := k12.ls (not1 (by omega)) hL
  by_cases hlt : i < ks.length
  · right
    refine ⟨hlt, ks[i], by dsimp only; rw [hL2]; show some ks[i]? = _; rw [List.getElem?_eq_getElem hlt], ?_⟩
    have hds : dss[i]? = some dss[i] := List.getElem?_eq_getElem (by omega)
    have ht := flat_take hds
    have hsub : ((dss.take i).flatten ++ dss[i]).length ≤ dss.flatten.length := by
      rw [← ht]
      have := congrArg List.length (congrArg List.flatten (List.take_append_drop (i + 1) dss))
      rw [List.flatten_append, List.length_append] at this
      omega
    walk_at "sm"
    refine ⟨_, _, rfl, hf, ?_⟩
    walk_at "sm"
    refine (hk i _ _ (List.getElem?_eq_getElem hlt) hds m S2 (by omega)).imp fun r S3 ⟨r2, e2, h2, hL3, k3⟩ => ?_
    subst e2
    refine k_ext (k3.ls (by simp) hf) hL3 (by simp only [List.length_cons, List.length_append] at hsub ⊢; omega) ?_
    have lf := ls_lt (k3.ls (by simp) hf)
    exact ⟨_, rfl, (k2.trans k3).set (.inl (Nat.le_refl _)), (k12.trans k3.any).set (.inr (by simp)), by rw [ls_set lf, ht]; rfl, hlt⟩
  · left
    have hi2 : i = ks.length := by omega
    subst hi2
    refine ⟨by dsimp only; rw [hL2]; show some ks[ks.length]? = _; rw [List.getElem?_eq_none (Nat.le_refl _)], ?_⟩
    walk_at "sm"
    rw [← l, List.take_length] at hf
    exact ⟨_, rfl, Nat.le_refl _, hf, k2⟩
theorem bs11 : bs 11 ≤ 16777216 := by decide
theorem sp_from {d : Nat} {v : Dv} {ds : List Dv} (h : WT d v ds) : d ≤ 11 → SpOk .spots_from (d + 2) v ds := by
  have up : ∀ {n m : Nat} {v : Dv} {ds : List Dv}, n ≤ m → SpOk .spots_from n v ds → SpOk .spots_from m v ds := fun hnm h k S hk => h k S (by omega)
  have bb : ∀ {d : Nat} {v : Dv} {ds : List Dv}, d ≤ 11 → WT d v ds → ds.length ≤ 16777216 := fun hd h => Nat.le_trans h.len (Nat.le_trans (bs_le hd) bs11)
  induction h with
  | name h h2 => exact fun _ => up (by omega) (sp_step (dss := []) (Nat.le_refl 1) (st_leaf (.inl rfl)) rfl (by decide) fun i a ds e => by simp at e)
  | num h => exact fun _ => up (by omega) (sp_step (dss := []) (Nat.le_refl 1) (st_leaf (.inr (.inl rfl))) rfl (by decide) fun i a ds e => by simp at e)
  | truth => exact fun _ => up (by omega) (sp_step (dss := []) (Nat.le_refl 1) (st_leaf (.inr (.inr (.inl rfl)))) rfl (by decide) fun i a ds e => by simp at e)
  | row h h2 => exact fun _ => up (by omega) (sp_step (dss := []) (Nat.le_refl 1) (st_leaf (.inr (.inr (.inr rfl)))) rfl (by decide) fun i a ds e => by simp at e)
  | @doo d h w as dss h1 h2 h0' ha h3 l hs ih =>
    intro hd
    have := bb hd (.doo h1 h2 h0' ha h3 l hs)
    rw [List.length_cons] at this
    exact up (by omega) (sp_step (n := d + 2) (by omega) (st_doo h1) l (by omega) fun i a ds e1 e2 => ih i a ds e1 e2 (by omega))
  | @iff d a b c da db dc t1 t2 t3 i1 i2 i3 =>
    intro hd
    have := bb hd (.iff t1 t2 t3)
    rw [List.length_cons] at this
    refine up (by omega) (sp_step (n := d + 2) (by omega) st_iff rfl (by omega) fun i x ds e1 e2 => ?_)
    match i, e1, e2 with
    | 0, e1, e2 => cases e1; cases e2; exact i1 (by omega)
    | 1, e1, e2 => cases e1; cases e2; exact i2 (by omega)
    | 2, e1, e2 => cases e1; cases e2; exact i3 (by omega)
    | i + 3, e1, e2 => simp at e1
  | @lett d x a b da db h h0' t1 t2 i1 i2 =>
    intro hd
    have := bb hd (.lett h h0' t1 t2)
    rw [List.length_cons] at this
    refine up (by omega) (sp_step (n := d + 2) (by omega) st_lett rfl (by omega) fun i x ds e1 e2 => ?_)
    match i, e1, e2 with
    | 0, e1, e2 => cases e1; cases e2; exact i1 (by omega)
    | 1, e1, e2 => cases e1; cases e2; exact i2 (by omega)
    | i + 2, e1, e2 => simp at e1
/-! the law's own spots -/
def InOk (v : Dv) (ks : List Dv) : Prop := ∀ {b : CS} {S : Store} {QF : Fl → Store → Prop}, (∀ r S', S.length ≤ r → lsAt S' r = some ks → Kp [] S S' → Ok (b [some v, some (.ref r), none, none] S') QF) →
  Ok (cSeq (cSet 1 (cLst cNil))
  (cSeq (cIf (cTst (cBin dEq (cBin dIx (cVar 0) (cC (.int 0))) (cC (.str "if")))) (cSet 1 (cApp bList (cCons (cSl (cVar 0) (cPt (cC (.int 1))) cNo) cNil))) (cIf (cTst (cBin dEq (cBin dIx (cVar 0) (cC (.int 0))) (cC (.str "let")))) (cSet 1 (cApp bList (cCons (cSl (cVar 0) (cPt (cC (.int 2))) cNo) cNil))) (cIf (cTst (cBin (dInX false) (cBin dIx (cVar 0) (cC (.int 0))) (cTup (cCons (cC (.str "call")) (cCons (cC (.str "do")) cNil))))) (cSet 1 (cApp bList (cCons (cBin dIx (cVar 0) (cC (.int 2))) cNil))) cNx))) b) [some v, none, none, none] S) QF
theorem in_leaf {h : Str} {x : Dv} (hh : h = "name" ∨ h = "number" ∨ h = "truth" ∨ h = "row") : InOk (.tup [.str h, x]) [] := fun {b S QF} k => by
  rcases hh with rfl | rfl | rfl | rfl
  · walk_at "sm"
    exact k _ _ (Nat.le_refl _) ls_new Kp.refl.app
  · walk_at "sm"
    exact k _ _ (Nat.le_refl _) ls_new Kp.refl.app
  · walk_at "sm"
    exact k _ _ (Nat.le_refl _) ls_new Kp.refl.app
  · walk_at "sm"
    exact k _ _ (Nat.le_refl _) ls_new Kp.refl.app
theorem in_doo {h w : Str} {as : List Dv} (hh : h = "do" ∨ h = "call") : InOk (.tup [.str h, .str w, .tup as]) as := fun {b S QF} k => by
  rcases hh with rfl | rfl
  · walk_at "sm"
    refine k_list rfl ?_
    walk_at "sm"
    exact k _ _ (by simp) ls_new Kp.refl.app.app
  · walk_at "sm"
    refine k_list rfl ?_
    walk_at "sm"
    exact k _ _ (by simp) ls_new Kp.refl.app.app
theorem in_iff {a b' c' : Dv} : InOk (.tup [.str "if", a, b', c']) [a, b', c'] := fun {b S QF} k => by
  walk_at "sm"
  refine k_list rfl ?_
  rw [cut_tail]
  walk_at "sm"
  exact k _ _ (by simp) ls_new Kp.refl.app.app
theorem in_lett {x : Str} {a b' : Dv} : InOk (.tup [.str "let", .str x, a, b']) [a, b'] := fun {b S QF} k => by
  walk_at "sm"
  refine k_list rfl ?_
  rw [cut_two]
  walk_at "sm"
  exact k _ _ (by simp) ls_new Kp.refl.app.app
theorem ts_step {v : Dv} {ks : List Dv} {dss : List (List Dv)} {n : Nat} (hs : InOk v ks) (l : dss.length = ks.length) (hb : 1 + dss.flatten.length ≤ 16777216) (hk : ∀ (i : Nat) (a : Dv) (ds : List Dv), ks[i]? = some a → dss[i]? = some ds → SpOk .l_tree_spots n a ds) :
    SpOk .l_tree_spots (n + 1) v (v :: dss.flatten) := fun m S hm => by
  obtain ⟨m, rfl⟩ : ∃ k, m = k + 1 := ⟨m - 1, by omega⟩
  refine w_of (f := .l_tree_spots) ?_
  show Ok (b_l_tree_spots (callT m) [some v, none, none, none] S) _
  unfold b_l_tree_spots
  refine hs fun rr S0 hr hL k0 => ?_
  walk_at "sm"
  refine s_for ?_
  walk_at "sm"
  have lr := ls_lt hL
  refine ⟨_, it_ref (ls_app hL), fun i δ S' => ∃ a3 f, δ = [some v, some (.ref rr), some (.ref f), a3] ∧ Kp [] S0 S' ∧ S0.length ≤ f ∧ lsAt S' f = some (v :: (dss.take i).flatten) ∧ i ≤ ks.length,
    ⟨_, _, rfl, Kp.refl.app, Nat.le_refl _, ls_new, Nat.zero_le _⟩, ?_⟩
  rintro i δ S2 ⟨a3, f, rfl, k2, hf0, hf, hi⟩
  have hL2 := k2.ls (by simp) hL
  by_cases hlt : i < ks.length
  · right
    refine ⟨hlt, ks[i], by dsimp only; rw [hL2]; show some ks[i]? = _; rw [List.getElem?_eq_getElem hlt], ?_⟩
    have hds : dss[i]? = some dss[i] := List.getElem?_eq_getElem (by omega)
    have ht := flat_take hds
    have hsub : ((dss.take i).flatten ++ dss[i]).length ≤ dss.flatten.length := by
      rw [← ht]
      have := congrArg List.length (congrArg List.flatten (List.take_append_drop (i + 1) dss))
      rw [List.flatten_append, List.length_append] at this
      omega
    walk_at "sm"
    refine (hk i _ _ (List.getElem?_eq_getElem hlt) hds m S2 (by omega)).imp fun r S3 ⟨r2, e2, h2, hL3, k3⟩ => ?_
    subst e2
    refine k_addL (x := .ref f) (k3.ls (by simp) hf) (y := .ref r2) hL3 (by simp only [List.length_cons, List.length_append] at hsub ⊢; omega) ?_
    walk_at "sm"
    exact ⟨_, _, rfl, (k2.trans k3).app, by have := k2.1; have := k3.1; omega, by rw [ls_new, ht]; rfl, hlt⟩
  · left
    have hi2 : i = ks.length := by omega
    subst hi2
    refine ⟨by dsimp only; rw [hL2]; show some ks[ks.length]? = _; rw [List.getElem?_eq_none (Nat.le_refl _)], ?_⟩
    walk_at "sm"
    rw [← l, List.take_length] at hf
    exact ⟨_, rfl, by have := k0.1; omega, hf, k0.trans k2⟩
theorem ts_ok {d : Nat} {v : Dv} {ds : List Dv} (h : WT d v ds) : d ≤ 11 → SpOk .l_tree_spots (d + 1) v ds := by
  have up : ∀ {n m : Nat} {v : Dv} {ds : List Dv}, n ≤ m → SpOk .l_tree_spots n v ds → SpOk .l_tree_spots m v ds := fun hnm h k S hk => h k S (by omega)
  have bb : ∀ {d : Nat} {v : Dv} {ds : List Dv}, d ≤ 11 → WT d v ds → ds.length ≤ 16777216 := fun hd h => Nat.le_trans h.len (Nat.le_trans (bs_le hd) bs11)
  induction h with
  | name h h2 => exact fun _ => up (by omega) (ts_step (n := 0) (dss := []) (in_leaf (.inl rfl)) rfl (by decide) fun i a ds e => by simp at e)
  | num h => exact fun _ => up (by omega) (ts_step (n := 0) (dss := []) (in_leaf (.inr (.inl rfl))) rfl (by decide) fun i a ds e => by simp at e)
  | truth => exact fun _ => up (by omega) (ts_step (n := 0) (dss := []) (in_leaf (.inr (.inr (.inl rfl)))) rfl (by decide) fun i a ds e => by simp at e)
  | row h h2 => exact fun _ => up (by omega) (ts_step (n := 0) (dss := []) (in_leaf (.inr (.inr (.inr rfl)))) rfl (by decide) fun i a ds e => by simp at e)
  | @doo d h w as dss h1 h2 h0' ha h3 l hs ih =>
    intro hd
    have := bb hd (.doo h1 h2 h0' ha h3 l hs)
    rw [List.length_cons] at this
    exact ts_step (n := d + 1) (in_doo h1) l (by omega) fun i a ds e1 e2 => ih i a ds e1 e2 (by omega)
  | @iff d a b c da db dc t1 t2 t3 i1 i2 i3 =>
    intro hd
    have := bb hd (.iff t1 t2 t3)
    rw [List.length_cons] at this
    refine ts_step (n := d + 1) in_iff rfl (by omega) fun i x ds e1 e2 => ?_
    match i, e1, e2 with
    | 0, e1, e2 => cases e1; cases e2; exact i1 (by omega)
    | 1, e1, e2 => cases e1; cases e2; exact i2 (by omega)
    | 2, e1, e2 => cases e1; cases e2; exact i3 (by omega)
    | i + 3, e1, e2 => simp at e1
  | @lett d x a b da db h h0' t1 t2 i1 i2 =>
    intro hd
    have := bb hd (.lett h h0' t1 t2)
    rw [List.length_cons] at this
    refine ts_step (n := d + 1) in_lett rfl (by omega) fun i x ds e1 e2 => ?_
    match i, e1, e2 with
    | 0, e1, e2 => cases e1; cases e2; exact i1 (by omega)
    | 1, e1, e2 => cases e1; cases e2; exact i2 (by omega)
    | i + 2, e1, e2 => simp at e1
end K61

namespace K61
open PySem L2 Sm
local macro_rules | `(tactic| walk_at "sm") => `(tactic| repeat (first | with_reducible refine k_it ?_ | with_reducible refine k_rng1 ?_ | with_reducible refine k_enS ?_ | with_reducible refine k_enL ?_ | with_reducible refine k_zipT ?_ | with_reducible refine k_pn ?_ | with_reducible refine k_pc ?_ | with_reducible refine k_c ?_ | with_reducible refine k_bin ?_ | with_reducible refine k_nil ?_ | with_reducible refine k_cons ?_ | with_reducible refine k_tup ?_ | with_reducible refine k_lst ?_ | with_reducible refine k_tst ?_ | with_reducible refine k_and ?_ | with_reducible refine k_or ?_ | with_reducible refine k_not ?_ | with_reducible refine k_ifE ?_ | with_reducible refine k_sub ?_ | with_reducible refine k_ltX ?_ | with_reducible refine k_ltSX ?_ | with_reducible refine k_lt ?_ | with_reducible refine k_le ?_ | with_reducible refine k_gt ?_ | with_reducible refine k_ge ?_ | with_reducible refine k_neg ?_ | with_reducible refine k_two ?_ | with_reducible refine k_addI ?_ | with_reducible refine k_eqS ?_ | with_reducible refine k_neS ?_ | with_reducible refine k_eqI ?_ | with_reducible refine k_neI ?_ | with_reducible refine k_slT ?_ | with_reducible refine k_sl ?_ | with_reducible refine k_no ?_ | with_reducible refine k_pt ?_ | with_reducible refine k_app ?_ | with_reducible refine k_intI ?_ | with_reducible refine k_intB ?_ | with_reducible refine k_mtS ?_ | with_reducible refine k_mtL ?_ | with_reducible refine k_mtD ?_ | with_reducible refine k_andV ?_ | with_reducible refine k_orV ?_ | with_reducible refine k_notV ?_ | with_reducible refine k_call ?_ | with_reducible refine k_dnew ?_ | with_reducible refine k_fmt ?_ | with_reducible refine k_js0 ?_ | with_reducible refine k_js ?_ | with_reducible refine k_gN ?_ | with_reducible refine k_gC ?_ | with_reducible refine k_g0 ?_ | with_reducible refine k_gStar ?_ | with_reducible refine k_gS ?_ | with_reducible refine k_kget ?_ | with_reducible refine k_un ?_ | with_reducible refine k_revT ?_ | with_reducible refine k_inSX ?_ | with_reducible refine s_set ?_ | with_reducible refine s_drop ?_ | with_reducible refine s_asg ?_ | with_reducible refine s_if ?_ | with_reducible refine s_nx ?_ | with_reducible refine s_ret ?_ | with_reducible refine s_seq ?_ | with_reducible refine l_ret ?_ | with_reducible refine l_set ?_ | with_reducible refine l_drop ?_ | with_reducible refine l_asg ?_ | with_reducible refine l_nx ?_ | with_reducible refine l_if ?_ | ((with_reducible apply k_var); rfl) | ((with_reducible apply k_ixT); rfl) | ((with_reducible apply k_inT); rfl; rfl) | ((with_reducible apply k_in); rfl; rfl; rfl) | ((with_reducible refine k_gT ?_ ?_); rfl) | ((with_reducible apply k_isi); rfl; rfl) | ((with_reducible apply k_isiT); rfl; rfl) | ((with_reducible apply k_lenL); (focus ((repeat (first | exact ls_new | assumption | refine ls_app ?_)); done)); (focus (first | (simp only [List.length_cons, List.length_nil, List.length_map]; rfl) | rfl))) | ((with_reducible apply k_lenT); (focus (first | (simp only [List.length_cons, List.length_nil, List.length_map]; rfl) | rfl))) | ((with_reducible apply k_lenS); (focus assumption)) | ((with_reducible apply k_ixL); (focus ((repeat (first | exact ls_new | assumption | refine ls_app ?_)); done)); rfl) | with_reducible refine And.intro (fun _ => ?_) (fun h => absurd h (by decide +kernel)) | with_reducible refine And.intro (fun h => absurd h (by decide +kernel)) (fun _ => ?_) | ((with_reducible refine And.intro ?_ ?_); rfl) | ((with_reducible apply Exists.intro); (with_reducible apply And.intro); rfl)))
local macro_rules | `(tactic| walk_at "smb") => `(tactic| repeat' (first | with_reducible refine k_it ?_ | with_reducible refine k_rng1 ?_ | with_reducible refine k_enS ?_ | with_reducible refine k_enL ?_ | with_reducible refine k_zipT ?_ | with_reducible refine k_pn ?_ | with_reducible refine k_pc ?_ | with_reducible refine k_c ?_ | with_reducible refine k_bin ?_ | with_reducible refine k_nil ?_ | with_reducible refine k_cons ?_ | with_reducible refine k_tup ?_ | with_reducible refine k_lst ?_ | with_reducible refine k_tst ?_ | with_reducible refine k_and ?_ | with_reducible refine k_or ?_ | with_reducible refine k_not ?_ | with_reducible refine k_ifE ?_ | with_reducible refine k_sub ?_ | with_reducible refine k_ltX ?_ | with_reducible refine k_ltSX ?_ | with_reducible refine k_lt ?_ | with_reducible refine k_le ?_ | with_reducible refine k_gt ?_ | with_reducible refine k_ge ?_ | with_reducible refine k_neg ?_ | with_reducible refine k_two ?_ | with_reducible refine k_addI ?_ | with_reducible refine k_eqS ?_ | with_reducible refine k_neS ?_ | with_reducible refine k_eqI ?_ | with_reducible refine k_neI ?_ | with_reducible refine k_slT ?_ | with_reducible refine k_sl ?_ | with_reducible refine k_no ?_ | with_reducible refine k_pt ?_ | with_reducible refine k_app ?_ | with_reducible refine k_intI ?_ | with_reducible refine k_intB ?_ | with_reducible refine k_mtS ?_ | with_reducible refine k_mtL ?_ | with_reducible refine k_mtD ?_ | with_reducible refine k_andV ?_ | with_reducible refine k_orV ?_ | with_reducible refine k_notV ?_ | with_reducible refine k_call ?_ | with_reducible refine k_dnew ?_ | with_reducible refine k_fmt ?_ | with_reducible refine k_js0 ?_ | with_reducible refine k_js ?_ | with_reducible refine k_gN ?_ | with_reducible refine k_gC ?_ | with_reducible refine k_g0 ?_ | with_reducible refine k_gStar ?_ | with_reducible refine k_gS ?_ | with_reducible refine k_kget ?_ | with_reducible refine k_un ?_ | with_reducible refine k_revT ?_ | with_reducible refine k_inSX ?_ | with_reducible refine s_set ?_ | with_reducible refine s_drop ?_ | with_reducible refine s_asg ?_ | with_reducible refine s_if ?_ | with_reducible refine s_nx ?_ | with_reducible refine s_ret ?_ | with_reducible refine s_seq ?_ | with_reducible refine l_ret ?_ | with_reducible refine l_set ?_ | with_reducible refine l_drop ?_ | with_reducible refine l_asg ?_ | with_reducible refine l_nx ?_ | with_reducible refine l_if ?_ | ((with_reducible apply k_var); rfl) | ((with_reducible apply k_ixT); rfl) | ((with_reducible apply k_inT); rfl; rfl) | ((with_reducible apply k_in); rfl; rfl; rfl) | ((with_reducible refine k_gT ?_ ?_); rfl) | ((with_reducible apply k_isi); rfl; rfl) | ((with_reducible apply k_isiT); rfl; rfl) | ((with_reducible apply k_lenL); (focus ((repeat' (first | exact ls_new | assumption | refine ls_app ?_)); done)); (focus (first | (simp only [List.length_cons, List.length_nil, List.length_map]; rfl) | rfl))) | ((with_reducible apply k_lenT); (focus (first | (simp only [List.length_cons, List.length_nil, List.length_map]; rfl) | rfl))) | ((with_reducible apply k_lenS); (focus assumption)) | ((with_reducible apply k_ixL); (focus ((repeat' (first | exact ls_new | assumption | refine ls_app ?_)); done)); rfl) | with_reducible refine And.intro (fun _ => ?_) (fun h => absurd h (by decide +kernel)) | with_reducible refine And.intro (fun h => absurd h (by decide +kernel)) (fun _ => ?_) | ((with_reducible refine And.intro ?_ ?_); rfl) | ((with_reducible apply Exists.intro); (with_reducible apply And.intro); rfl) | with_reducible refine And.intro (fun _ => ?_) (fun _ => ?_)))
local macro_rules | `(tactic| walk_at "smv") => `(tactic| repeat (first | exact val_hitS (by decide +kernel) | refine (val_missS (by decide +kernel)).trans ?_))
local macro_rules | `(tactic| walk_at "smd") => `(tactic| repeat (first | exact dc_new | exact ls_new | refine dc_app ?_ | refine ls_app ?_))
theorem fr_ok (n : Nat) (i lo hi : Int) (S : Store) : Ok (callT (n + 1) .is_from [.int i, .int lo, .int hi] S) (Bo S) := by
  refine w_of (f := .is_from) ?_
  show Ok (b_is_from (callT n) [some (.int i), some (.int lo), some (.int hi)] S) _
  unfold b_is_from
  walk_at "smb"
  all_goals exact bo Kp.refl
theorem nm_ok (n : Nat) {z : Str} (hz : z.length ≤ 10) (S : Store) : Ok (callT (n + 1) .is_name [.str z] S) (Bo S) := by
  refine w_of (f := .is_name) ?_
  show Ok (b_is_name (callT n) [some (.str z), none] S) _
  unfold b_is_name
  have hz' : z.length ≤ 16777216 := by omega
  walk_at "smb"
  all_goals first
    | exact bo Kp.refl
    | skip
  all_goals
    refine k_lcB ?_
    walk_at "sm"
    refine ⟨signs z, by rw [signs_len]; exact Nat.le_refl _, by rw [signs_len]; show z.length < _; omega, fun i S _ => signs_at z i, fun i d S' hd k => ?_, fun bs S' hL k => ?_⟩
    · obtain ⟨c, hc, rfl⟩ := List.mem_map.mp (List.mem_of_getElem? hd)
      walk_at "sm"
      exact bo Kp.refl
    · walk_at "sm"
      refine k_all (x := .ref _) hL ?_
      exact bo k
end K61

namespace K61
open PySem L2 Sm
local macro_rules | `(tactic| walk_at "sm") => `(tactic| repeat (first | with_reducible refine k_it ?_ | with_reducible refine k_rng1 ?_ | with_reducible refine k_enS ?_ | with_reducible refine k_enL ?_ | with_reducible refine k_zipT ?_ | with_reducible refine k_pn ?_ | with_reducible refine k_pc ?_ | with_reducible refine k_c ?_ | with_reducible refine k_bin ?_ | with_reducible refine k_nil ?_ | with_reducible refine k_cons ?_ | with_reducible refine k_tup ?_ | with_reducible refine k_lst ?_ | with_reducible refine k_tst ?_ | with_reducible refine k_and ?_ | with_reducible refine k_or ?_ | with_reducible refine k_not ?_ | with_reducible refine k_ifE ?_ | with_reducible refine k_sub ?_ | with_reducible refine k_ltX ?_ | with_reducible refine k_ltSX ?_ | with_reducible refine k_lt ?_ | with_reducible refine k_le ?_ | with_reducible refine k_gt ?_ | with_reducible refine k_ge ?_ | with_reducible refine k_neg ?_ | with_reducible refine k_two ?_ | with_reducible refine k_addI ?_ | with_reducible refine k_eqS ?_ | with_reducible refine k_neS ?_ | with_reducible refine k_eqI ?_ | with_reducible refine k_neI ?_ | with_reducible refine k_slT ?_ | with_reducible refine k_sl ?_ | with_reducible refine k_no ?_ | with_reducible refine k_pt ?_ | with_reducible refine k_app ?_ | with_reducible refine k_intI ?_ | with_reducible refine k_intB ?_ | with_reducible refine k_mtS ?_ | with_reducible refine k_mtL ?_ | with_reducible refine k_mtD ?_ | with_reducible refine k_andV ?_ | with_reducible refine k_orV ?_ | with_reducible refine k_notV ?_ | with_reducible refine k_call ?_ | with_reducible refine k_dnew ?_ | with_reducible refine k_fmt ?_ | with_reducible refine k_js0 ?_ | with_reducible refine k_js ?_ | with_reducible refine k_gN ?_ | with_reducible refine k_gC ?_ | with_reducible refine k_g0 ?_ | with_reducible refine k_gStar ?_ | with_reducible refine k_gS ?_ | with_reducible refine k_kget ?_ | with_reducible refine k_un ?_ | with_reducible refine k_revT ?_ | with_reducible refine k_inSX ?_ | with_reducible refine s_set ?_ | with_reducible refine s_drop ?_ | with_reducible refine s_asg ?_ | with_reducible refine s_if ?_ | with_reducible refine s_nx ?_ | with_reducible refine s_ret ?_ | with_reducible refine s_seq ?_ | with_reducible refine l_ret ?_ | with_reducible refine l_set ?_ | with_reducible refine l_drop ?_ | with_reducible refine l_asg ?_ | with_reducible refine l_nx ?_ | with_reducible refine l_if ?_ | ((with_reducible apply k_var); rfl) | ((with_reducible apply k_ixT); rfl) | ((with_reducible apply k_inT); rfl; rfl) | ((with_reducible apply k_in); rfl; rfl; rfl) | ((with_reducible refine k_gT ?_ ?_); rfl) | ((with_reducible apply k_isi); rfl; rfl) | ((with_reducible apply k_isiT); rfl; rfl) | ((with_reducible apply k_lenL); (focus ((repeat (first | exact ls_new | assumption | refine ls_app ?_)); done)); (focus (first | (simp only [List.length_cons, List.length_nil, List.length_map]; rfl) | rfl))) | ((with_reducible apply k_lenT); (focus (first | (simp only [List.length_cons, List.length_nil, List.length_map]; rfl) | rfl))) | ((with_reducible apply k_lenS); (focus assumption)) | ((with_reducible apply k_ixL); (focus ((repeat (first | exact ls_new | assumption | refine ls_app ?_)); done)); rfl) | with_reducible refine And.intro (fun _ => ?_) (fun h => absurd h (by decide +kernel)) | with_reducible refine And.intro (fun h => absurd h (by decide +kernel)) (fun _ => ?_) | ((with_reducible refine And.intro ?_ ?_); rfl) | ((with_reducible apply Exists.intro); (with_reducible apply And.intro); rfl)))
local macro_rules | `(tactic| walk_at "smb") => `(tactic| repeat' (first | with_reducible refine k_it ?_ | with_reducible refine k_rng1 ?_ | with_reducible refine k_enS ?_ | with_reducible refine k_enL ?_ | with_reducible refine k_zipT ?_ | with_reducible refine k_pn ?_ | with_reducible refine k_pc ?_ | with_reducible refine k_c ?_ | with_reducible refine k_bin ?_ | with_reducible refine k_nil ?_ | with_reducible refine k_cons ?_ | with_reducible refine k_tup ?_ | with_reducible refine k_lst ?_ | with_reducible refine k_tst ?_ | with_reducible refine k_and ?_ | with_reducible refine k_or ?_ | with_reducible refine k_not ?_ | with_reducible refine k_ifE ?_ | with_reducible refine k_sub ?_ | with_reducible refine k_ltX ?_ | with_reducible refine k_ltSX ?_ | with_reducible refine k_lt ?_ | with_reducible refine k_le ?_ | with_reducible refine k_gt ?_ | with_reducible refine k_ge ?_ | with_reducible refine k_neg ?_ | with_reducible refine k_two ?_ | with_reducible refine k_addI ?_ | with_reducible refine k_eqS ?_ | with_reducible refine k_neS ?_ | with_reducible refine k_eqI ?_ | with_reducible refine k_neI ?_ | with_reducible refine k_slT ?_ | with_reducible refine k_sl ?_ | with_reducible refine k_no ?_ | with_reducible refine k_pt ?_ | with_reducible refine k_app ?_ | with_reducible refine k_intI ?_ | with_reducible refine k_intB ?_ | with_reducible refine k_mtS ?_ | with_reducible refine k_mtL ?_ | with_reducible refine k_mtD ?_ | with_reducible refine k_andV ?_ | with_reducible refine k_orV ?_ | with_reducible refine k_notV ?_ | with_reducible refine k_call ?_ | with_reducible refine k_dnew ?_ | with_reducible refine k_fmt ?_ | with_reducible refine k_js0 ?_ | with_reducible refine k_js ?_ | with_reducible refine k_gN ?_ | with_reducible refine k_gC ?_ | with_reducible refine k_g0 ?_ | with_reducible refine k_gStar ?_ | with_reducible refine k_gS ?_ | with_reducible refine k_kget ?_ | with_reducible refine k_un ?_ | with_reducible refine k_revT ?_ | with_reducible refine k_inSX ?_ | with_reducible refine s_set ?_ | with_reducible refine s_drop ?_ | with_reducible refine s_asg ?_ | with_reducible refine s_if ?_ | with_reducible refine s_nx ?_ | with_reducible refine s_ret ?_ | with_reducible refine s_seq ?_ | with_reducible refine l_ret ?_ | with_reducible refine l_set ?_ | with_reducible refine l_drop ?_ | with_reducible refine l_asg ?_ | with_reducible refine l_nx ?_ | with_reducible refine l_if ?_ | ((with_reducible apply k_var); rfl) | ((with_reducible apply k_ixT); rfl) | ((with_reducible apply k_inT); rfl; rfl) | ((with_reducible apply k_in); rfl; rfl; rfl) | ((with_reducible refine k_gT ?_ ?_); rfl) | ((with_reducible apply k_isi); rfl; rfl) | ((with_reducible apply k_isiT); rfl; rfl) | ((with_reducible apply k_lenL); (focus ((repeat' (first | exact ls_new | assumption | refine ls_app ?_)); done)); (focus (first | (simp only [List.length_cons, List.length_nil, List.length_map]; rfl) | rfl))) | ((with_reducible apply k_lenT); (focus (first | (simp only [List.length_cons, List.length_nil, List.length_map]; rfl) | rfl))) | ((with_reducible apply k_lenS); (focus assumption)) | ((with_reducible apply k_ixL); (focus ((repeat' (first | exact ls_new | assumption | refine ls_app ?_)); done)); rfl) | with_reducible refine And.intro (fun _ => ?_) (fun h => absurd h (by decide +kernel)) | with_reducible refine And.intro (fun h => absurd h (by decide +kernel)) (fun _ => ?_) | ((with_reducible refine And.intro ?_ ?_); rfl) | ((with_reducible apply Exists.intro); (with_reducible apply And.intro); rfl) | with_reducible refine And.intro (fun _ => ?_) (fun _ => ?_)))
local macro_rules | `(tactic| walk_at "smv") => `(tactic| repeat (first | exact val_hitS (by decide +kernel) | refine (val_missS (by decide +kernel)).trans ?_))
local macro_rules | `(tactic| walk_at "smd") => `(tactic| repeat (first | exact dc_new | exact ls_new | refine dc_app ?_ | refine ls_app ?_))
/-! ### data that == may be asked of -/
def Py (d : Dv) (B : Nat) : Prop := ∃ p : PyData, (∀ r, toPyW r d = some p) ∧ p.canLay0 = true ∧ p.depth ≤ B
def Pys (ds : List Dv) (B : Nat) : Prop := ∃ ps : List PyData, (∀ r, toPysW r ds = some ps) ∧ PyData.canLayAll0 ps = true ∧ PyData.depthAll ps ≤ B ∧ ps.length = ds.length
theorem Py.up {d : Dv} {B C : Nat} (h : Py d B) (k : B ≤ C) : Py d C := let ⟨p, a, b, c⟩ := h; ⟨p, a, b, Nat.le_trans c k⟩
theorem Py.str {x : Str} (h : PyData.strOk x = true) : Py (.str x) 0 := ⟨.str x, fun _ => by unfold toPyW; rfl, by unfold PyData.canLay0; exact h, by unfold PyData.depth; exact Nat.le_refl _⟩
theorem Py.int {i : Int} : Py (.int i) 0 := ⟨.int i, fun _ => by unfold toPyW; rfl, by unfold PyData.canLay0; rfl, by unfold PyData.depth; exact Nat.le_refl _⟩
theorem Py.bl {i : Bool} : Py (.bl i) 0 := ⟨.bool i, fun _ => by unfold toPyW; rfl, by unfold PyData.canLay0; rfl, by unfold PyData.depth; exact Nat.le_refl _⟩
theorem Py.non : Py .non 0 := ⟨.none, fun _ => by unfold toPyW; rfl, by unfold PyData.canLay0; rfl, by unfold PyData.depth; exact Nat.le_refl _⟩
theorem Pys.nil {B : Nat} : Pys [] B := ⟨[], fun _ => by unfold toPysW; rfl, by unfold PyData.canLayAll0; rfl, by unfold PyData.depthAll; exact Nat.zero_le _, rfl⟩
theorem Pys.cons {d : Dv} {ds : List Dv} {B : Nat} (h : Py d B) (hs : Pys ds B) : Pys (d :: ds) B := by
  obtain ⟨p, a, b, c⟩ := h
  obtain ⟨ps, a', b', c', l⟩ := hs
  refine ⟨p :: ps, fun r => ?_, ?_, ?_, by simp [l]⟩
  · unfold toPysW; rw [a r, a' r]
  · unfold PyData.canLayAll0; rw [b, b']; rfl
  · unfold PyData.depthAll; exact Nat.max_le.mpr ⟨c, c'⟩
theorem Pys.all {B : Nat} : ∀ {ds : List Dv}, (∀ d ∈ ds, Py d B) → Pys ds B
  | [], _ => .nil
  | d :: ds, h => .cons (h d List.mem_cons_self) (Pys.all fun x hx => h x (List.mem_cons_of_mem _ hx))
theorem Py.tup {ds : List Dv} {B : Nat} (h : Pys ds B) : Py (.tup ds) (B + 1) := by
  obtain ⟨ps, a, b, c, l⟩ := h
  refine ⟨.tuple ps, fun r => ?_, ?_, ?_⟩
  · unfold toPyW; rw [a r]; rfl
  · unfold PyData.canLay0; exact b
  · unfold PyData.depth; omega
theorem WE.py {d : Nat} {v : Dv} (h : WE d v) : Py v (2 * d + 2) := by
  have s : ∀ {x : Str} {B : Nat}, PyData.strOk x = true → Py (.str x) B := fun h => (Py.str h).up (Nat.zero_le _)
  induction h with
  | name h h2 => exact (Py.tup (B := 0) (.cons (s (by decide +kernel)) (.cons (s h2) .nil))).up (by omega)
  | num h => exact (Py.tup (B := 0) (.cons (s (by decide +kernel)) (.cons .int .nil))).up (by omega)
  | truth => exact (Py.tup (B := 0) (.cons (s (by decide +kernel)) (.cons .bl .nil))).up (by omega)
  | row h h2 => exact (Py.tup (B := 1) (.cons (s (by decide +kernel)) (.cons (Py.tup (B := 0) (Pys.all fun d hd => by
      obtain ⟨i, _, rfl⟩ := List.mem_map.mp hd
      exact .int)) .nil))).up (by omega)
  | @doo d h w as h1 h2 h0 ha h3 h4 ih =>
    have hs : PyData.strOk h = true := by rcases h1 with rfl | rfl <;> decide +kernel
    exact (Py.tup (B := 2 * d + 3) (.cons (s hs) (.cons (s h0) (.cons (Py.tup (Pys.all ih)) .nil)))).up (by omega)
  | @iff d a b c h1 h2 h3 i1 i2 i3 => exact (Py.tup (B := 2 * d + 2) (.cons (s (by decide +kernel)) (.cons i1 (.cons i2 (.cons i3 .nil))))).up (by omega)
  | @lett d x a b h h0 h1 h2 i1 i2 => exact (Py.tup (B := 2 * d + 2) (.cons (s (by decide +kernel)) (.cons (s h0) (.cons i1 (.cons i2 .nil))))).up (by omega)
theorem py_ok {p : PyData} {B : Nat} (h : p.canLay0 = true) (k : p.depth ≤ B) (hB : B ≤ 64) : eqOk p = true := by
  unfold eqOk SeqAt.shaped
  rw [h, decide_eq_true (Nat.le_trans k hB)]; rfl
theorem k_eqP {x y : Dv} {B : Nat} {S : Store} {Q : Dv → Store → Prop} (hs : scEq x y = none) (hx : Py x B) (hy : Py y B) (hB : B ≤ 64) (q : ∀ b, Q (.bl b) S) : Ok (dEq x y S) Q := by
  obtain ⟨p, a, b, c⟩ := hx
  obtain ⟨p', a', b', c'⟩ := hy
  exact k_eq hs (a _) (a' _) (py_ok b c hB) (py_ok b' c' hB) (q _)
theorem k_neP {x y : Dv} {B : Nat} {S : Store} {Q : Dv → Store → Prop} (hs : scEq x y = none) (hx : Py x B) (hy : Py y B) (hB : B ≤ 64) (q : ∀ b, Q (.bl b) S) : Ok (dNe x y S) Q := by
  obtain ⟨p, a, b, c⟩ := hx
  obtain ⟨p', a', b', c'⟩ := hy
  exact k_ne hs (a _) (a' _) (py_ok b c hB) (py_ok b' c' hB) (q _)
theorem WE.tupv {d : Nat} {v : Dv} (h : WE d v) : ∃ h' r, v = .tup (.str h' :: r) := by
  cases h <;> exact ⟨_, _, rfl⟩
/-! ### whether a thing is an expression -/
theorem good_ok {m : Nat} {x : Dv} {as : List Dv} {ns : List Str} {deep : Int} {S : Store} (hit : x = .tup as ∨ ∃ l, x = .ref l ∧ lsAt S l = some as) (hl : as.length ≤ 1000) (hk : ∀ a ∈ as, ∀ S, Ok (callT m .is_expression [a, .tup (txs ns), .int deep] S) (Bo S)) :
    Ok (callT (m + 1) .are_good [x, .tup (txs ns), .int deep] S) (Bo S) := by
  refine w_of (f := .are_good) ?_
  show Ok (b_are_good (callT m) [some x, some (.tup (txs ns)), some (.int deep), none] S) _
  unfold b_are_good
  walk_at "sm"
  refine k_lcB ?_
  walk_at "sm"
  have one : ∀ (i : Nat) (d : Dv) (S' : Store), as[i]? = some d → Ok (gN 3 d (wipeE [some x, some (.tup (txs ns)), some (.int deep), none] [3]) S') fun δ1 S2 => Ok (cCall (callT m .is_expression) 3 (cCons (cVar 3) (cCons (cVar 1) (cCons (cVar 2) cNil))) δ1 S2) (Bo S') := fun i d S' hd => by
    walk_at "sm"
    exact hk d (List.mem_of_getElem? hd) S'
  rcases hit with rfl | ⟨l, rfl, hL⟩
  · refine ⟨_, rfl, as, Nat.le_refl _, by omega, fun i S _ => rfl, fun i d S' hd k => one i d S' hd, fun bs S' hL k => ?_⟩
    walk_at "sm"
    refine k_all (x := .ref _) hL ?_
    exact bo k
  · refine ⟨_, it_ref hL, as, Nat.le_refl _, by omega, fun i S k => it_at hL k (by simp), fun i d S' hd k => one i d S' hd, fun bs S' hL k => ?_⟩
    walk_at "sm"
    refine k_all (x := .ref _) hL ?_
    exact bo k
theorem txs_snoc (ns : List Str) (x : Str) : txs ns ++ [Dv.str x] = txs (ns ++ [x]) := by simp [txs]
/-- the first look at a thing -/
theorem ex_head {m d : Nat} {v : Dv} {ns : List Str} {deep : Int} {S : Store} (h : WE d v) (hd : d ≤ 11)
    (k : ∀ {b : CS}, b = (cAsg (cVar 0) (gStar (gCons' (gN 3) (gCons' (gN 5) gNil')))) → True) : True := trivial
theorem ex_ok {d : Nat} {v : Dv} (h : WE d v) : ∀ (m : Nat) (S : Store) (ns : List Str) (deep : Int), 2 * d + 3 ≤ m → d ≤ 11 → ns.length + d ≤ 1000 → Ok (callT m .is_expression [v, .tup (txs ns), .int deep] S) (Bo S) := by
  have sNil : ∀ {B : Nat}, Py (.tup []) (B + 1) := fun {B} => Py.tup .nil
  induction h with
  | @name d x h h2 =>
    intro m S ns deep hm hd hns
    obtain ⟨m, rfl⟩ : ∃ k, m = k + 1 := ⟨m - 1, by omega⟩
    have P := (WE.name (d := d) h h2).py
    refine w_of (f := .is_expression) ?_
    show Ok (b_is_expression (callT m) [some _, some (.tup (txs ns)), some (.int deep), none, none, none, none] S) _
    unfold b_is_expression
    walk_at "sm"
    refine ⟨fun _ => ?_, fun _ => ?_⟩
    · walk_at "sm"
      exact bo Kp.refl
    walk_at "sm"
    refine k_eqP rfl P sNil (by omega) fun b => ⟨b, rfl, fun _ => ?_, fun _ => ?_⟩
    · walk_at "sm"
      exact bo Kp.refl
    walk_at "smb"
    all_goals first
      | exact bo Kp.refl.app
      | ((apply k_inT) <;> first | rfl | exact txs_flat ns | exact bo Kp.refl.app)
  | @num d i h =>
    intro m S ns deep hm hd hns
    obtain ⟨m, rfl⟩ : ∃ k, m = k + 2 := ⟨m - 2, by omega⟩
    have P := (WE.num (d := d) h).py
    refine w_of (f := .is_expression) ?_
    show Ok (b_is_expression (callT (m + 1)) [some _, some (.tup (txs ns)), some (.int deep), none, none, none, none] S) _
    unfold b_is_expression
    walk_at "sm"
    refine ⟨fun _ => ?_, fun _ => ?_⟩
    · walk_at "sm"
      exact bo Kp.refl
    walk_at "sm"
    refine k_eqP rfl P sNil (by omega) fun b => ⟨b, rfl, fun _ => ?_, fun _ => ?_⟩
    · walk_at "sm"
      exact bo Kp.refl
    walk_at "smb"
    all_goals first
      | exact bo Kp.refl.app
      | (refine use_b (fr_ok _ _ _ _ _) fun b S' k => ?_; exact bo (Kp.refl.app.trans k))
  | @truth d b =>
    intro m S ns deep hm hd hns
    obtain ⟨m, rfl⟩ : ∃ k, m = k + 1 := ⟨m - 1, by omega⟩
    have P := (WE.truth (d := d) (b := b)).py
    refine w_of (f := .is_expression) ?_
    show Ok (b_is_expression (callT m) [some _, some (.tup (txs ns)), some (.int deep), none, none, none, none] S) _
    unfold b_is_expression
    walk_at "sm"
    refine ⟨fun _ => ?_, fun _ => ?_⟩
    · walk_at "sm"
      exact bo Kp.refl
    walk_at "sm"
    refine k_eqP rfl P sNil (by omega) fun b => ⟨b, rfl, fun _ => ?_, fun _ => ?_⟩
    · walk_at "sm"
      exact bo Kp.refl
    walk_at "smb"
    all_goals exact bo Kp.refl.app
  | @row d is h h2 =>
    intro m S ns deep hm hd hns
    obtain ⟨m, rfl⟩ : ∃ k, m = k + 2 := ⟨m - 2, by omega⟩
    have P := (WE.row (d := d) h h2).py
    refine w_of (f := .is_expression) ?_
    show Ok (b_is_expression (callT (m + 1)) [some _, some (.tup (txs ns)), some (.int deep), none, none, none, none] S) _
    unfold b_is_expression
    walk_at "sm"
    refine ⟨fun _ => ?_, fun _ => ?_⟩
    · walk_at "sm"
      exact bo Kp.refl
    walk_at "sm"
    refine k_eqP rfl P sNil (by omega) fun b => ⟨b, rfl, fun _ => ?_, fun _ => ?_⟩
    · walk_at "sm"
      exact bo Kp.refl
    walk_at "smb"
    all_goals first
      | exact bo Kp.refl.app
      | skip
    all_goals
      refine k_lcB ?_
      walk_at "sm"
      refine ⟨is.map Dv.int, Nat.le_refl _, by rw [List.length_map]; omega, fun i S _ => rfl, fun i d S' hd k => ?_, fun bs S' hL k => ?_⟩
      · obtain ⟨j, _, rfl⟩ := List.mem_map.mp (List.mem_of_getElem? hd)
        walk_at "sm"
        exact fr_ok _ _ _ _ _
      · walk_at "sm"
        refine k_all (x := .ref _) hL ?_
        exact bo (Kp.refl.app.trans k)
  | @doo d h w as h1 h2 h0 ha h3 h4 ih =>
    intro m S ns deep hm hd hns
    obtain ⟨m, rfl⟩ : ∃ k, m = k + 2 := ⟨m - 2, by omega⟩
    have P := (WE.doo h1 h2 h0 ha h3 h4).py
    refine w_of (f := .is_expression) ?_
    show Ok (b_is_expression (callT (m + 1)) [some _, some (.tup (txs ns)), some (.int deep), none, none, none, none] S) _
    unfold b_is_expression
    obtain ⟨ci, hci⟩ := kget_int k_COUNTS w (-1)
    have G : ∀ S, Ok (callT (m + 1) .are_good [.tup as, .tup (txs ns), .int (deep - 1)] S) (Bo S) := fun S => good_ok (.inl rfl) (by omega) fun a hm' S => ih a hm' m S ns (deep - 1) (by omega) (by omega) (by omega)
    rcases h1 with rfl | rfl
    · walk_at "sm"
      refine ⟨fun _ => ?_, fun _ => ?_⟩
      · walk_at "sm"
        exact bo Kp.refl
      walk_at "sm"
      refine k_eqP rfl P sNil (by omega) fun b => ⟨b, rfl, fun _ => ?_, fun _ => ?_⟩
      · walk_at "sm"
        exact bo Kp.refl
      walk_at "sm"
      rw [hci]
      walk_at "smb"
      all_goals first
        | exact bo Kp.refl.app
        | (refine use_b (G _) fun b S' k => ?_; exact bo (Kp.refl.app.trans k))
    · walk_at "sm"
      refine ⟨fun _ => ?_, fun _ => ?_⟩
      · walk_at "sm"
        exact bo Kp.refl
      walk_at "sm"
      refine k_eqP rfl P sNil (by omega) fun b => ⟨b, rfl, fun _ => ?_, fun _ => ?_⟩
      · walk_at "sm"
        exact bo Kp.refl
      walk_at "sm"
      refine use_b (nm_ok _ h2 _) fun b1 S1 k1 => ?_
      have hL1 := k1.ls (by simp) (ls_new (S := S) (ds := [Dv.str w, .tup as]))
      walk_at "smb"
      all_goals first
        | exact bo (Kp.refl.app.trans k1)
        | (refine use_b (G _) fun b S' k => ?_; exact bo ((Kp.refl.app.trans k1).trans k))
  | @iff d a b c h1 h2 h3 i1 i2 i3 =>
    intro m S ns deep hm hd hns
    obtain ⟨m, rfl⟩ : ∃ k, m = k + 2 := ⟨m - 2, by omega⟩
    have P := (WE.iff h1 h2 h3).py
    refine w_of (f := .is_expression) ?_
    show Ok (b_is_expression (callT (m + 1)) [some _, some (.tup (txs ns)), some (.int deep), none, none, none, none] S) _
    unfold b_is_expression
    walk_at "sm"
    refine ⟨fun _ => ?_, fun _ => ?_⟩
    · walk_at "sm"
      exact bo Kp.refl
    walk_at "sm"
    refine k_eqP rfl P sNil (by omega) fun b => ⟨b, rfl, fun _ => ?_, fun _ => ?_⟩
    · walk_at "sm"
      exact bo Kp.refl
    walk_at "sm"
    refine use_b (good_ok (.inr ⟨_, rfl, ls_new⟩) (by show 3 ≤ 1000; omega) fun x hx S => ?_) fun b S' k => ?_
    · simp only [List.mem_cons, List.not_mem_nil, or_false] at hx
      rcases hx with rfl | rfl | rfl
      · exact i1 m S ns (deep - 1) (by omega) (by omega) (by omega)
      · exact i2 m S ns (deep - 1) (by omega) (by omega) (by omega)
      · exact i3 m S ns (deep - 1) (by omega) (by omega) (by omega)
    · exact bo (Kp.refl.app.trans k)
  | @lett d x a b h h0 h1 h2 i1 i2 =>
    intro m S ns deep hm hd hns
    obtain ⟨m, rfl⟩ : ∃ k, m = k + 2 := ⟨m - 2, by omega⟩
    have P := (WE.lett h h0 h1 h2).py
    refine w_of (f := .is_expression) ?_
    show Ok (b_is_expression (callT (m + 1)) [some _, some (.tup (txs ns)), some (.int deep), none, none, none, none] S) _
    unfold b_is_expression
    walk_at "sm"
    refine ⟨fun _ => ?_, fun _ => ?_⟩
    · walk_at "sm"
      exact bo Kp.refl
    walk_at "sm"
    refine k_eqP rfl P sNil (by omega) fun b0 => ⟨b0, rfl, fun _ => ?_, fun _ => ?_⟩
    · walk_at "sm"
      exact bo Kp.refl
    walk_at "sm"
    refine use_b (nm_ok _ (by omega) _) fun b1 S1 k1 => ?_
    have hL1 := k1.ls (by simp) (ls_new (S := S) (ds := [Dv.str x, a, b]))
    have kk1 : Kp [] S S1 := Kp.refl.app.trans k1
    refine ⟨_, rfl, fun _ => ?_, fun _ => ?_⟩
    · walk_at "sm"
      exact bo kk1
    walk_at "sm"
    refine use_b (i1 (m + 1) S1 ns (deep - 1) (by omega) (by omega) (by omega)) fun b2 S2 k2 => ?_
    have hL2 := k2.ls (by simp) hL1
    refine ⟨_, rfl, fun _ => ?_, fun _ => ?_⟩
    · walk_at "sm"
      exact bo (kk1.trans k2)
    walk_at "sm"
    refine k_addT (by rw [List.length_map]; show ns.length + 1 ≤ _; omega) ?_
    rw [txs_snoc]
    walk_at "sm"
    refine use_b (i2 (m + 1) S2 (ns ++ [x]) (deep - 1) (by omega) (by omega) (by rw [List.length_append, List.length_singleton]; omega)) fun b3 S3 k3 => ?_
    exact bo ((kk1.trans k2).trans k3)
end K61

namespace K61
open PySem L2 Sm
local macro_rules | `(tactic| walk_at "sm") => `(tactic| repeat (first | with_reducible refine k_it ?_ | with_reducible refine k_rng1 ?_ | with_reducible refine k_enS ?_ | with_reducible refine k_enL ?_ | with_reducible refine k_zipT ?_ | with_reducible refine k_pn ?_ | with_reducible refine k_pc ?_ | with_reducible refine k_c ?_ | with_reducible refine k_bin ?_ | with_reducible refine k_nil ?_ | with_reducible refine k_cons ?_ | with_reducible refine k_tup ?_ | with_reducible refine k_lst ?_ | with_reducible refine k_tst ?_ | with_reducible refine k_and ?_ | with_reducible refine k_or ?_ | with_reducible refine k_not ?_ | with_reducible refine k_ifE ?_ | with_reducible refine k_sub ?_ | with_reducible refine k_ltX ?_ | with_reducible refine k_ltSX ?_ | with_reducible refine k_lt ?_ | with_reducible refine k_le ?_ | with_reducible refine k_gt ?_ | with_reducible refine k_ge ?_ | with_reducible refine k_neg ?_ | with_reducible refine k_two ?_ | with_reducible refine k_addI ?_ | with_reducible refine k_eqS ?_ | with_reducible refine k_neS ?_ | with_reducible refine k_eqI ?_ | with_reducible refine k_neI ?_ | with_reducible refine k_slT ?_ | with_reducible refine k_sl ?_ | with_reducible refine k_no ?_ | with_reducible refine k_pt ?_ | with_reducible refine k_app ?_ | with_reducible refine k_intI ?_ | with_reducible refine k_intB ?_ | with_reducible refine k_mtS ?_ | with_reducible refine k_mtL ?_ | with_reducible refine k_mtD ?_ | with_reducible refine k_andV ?_ | with_reducible refine k_orV ?_ | with_reducible refine k_notV ?_ | with_reducible refine k_call ?_ | with_reducible refine k_dnew ?_ | with_reducible refine k_fmt ?_ | with_reducible refine k_js0 ?_ | with_reducible refine k_js ?_ | with_reducible refine k_gN ?_ | with_reducible refine k_gC ?_ | with_reducible refine k_g0 ?_ | with_reducible refine k_gStar ?_ | with_reducible refine k_gS ?_ | with_reducible refine k_kget ?_ | with_reducible refine k_un ?_ | with_reducible refine k_revT ?_ | with_reducible refine k_inSX ?_ | with_reducible refine s_set ?_ | with_reducible refine s_drop ?_ | with_reducible refine s_asg ?_ | with_reducible refine s_if ?_ | with_reducible refine s_nx ?_ | with_reducible refine s_ret ?_ | with_reducible refine s_seq ?_ | with_reducible refine l_ret ?_ | with_reducible refine l_set ?_ | with_reducible refine l_drop ?_ | with_reducible refine l_asg ?_ | with_reducible refine l_nx ?_ | with_reducible refine l_if ?_ | ((with_reducible apply k_var); rfl) | ((with_reducible apply k_ixT); rfl) | ((with_reducible apply k_inT); rfl; rfl) | ((with_reducible apply k_in); rfl; rfl; rfl) | ((with_reducible refine k_gT ?_ ?_); rfl) | ((with_reducible apply k_isi); rfl; rfl) | ((with_reducible apply k_isiT); rfl; rfl) | ((with_reducible apply k_lenL); (focus ((repeat (first | exact ls_new | assumption | refine ls_app ?_)); done)); (focus (first | (simp only [List.length_cons, List.length_nil, List.length_map]; rfl) | rfl))) | ((with_reducible apply k_lenT); (focus (first | (simp only [List.length_cons, List.length_nil, List.length_map]; rfl) | rfl))) | ((with_reducible apply k_lenS); (focus assumption)) | ((with_reducible apply k_ixL); (focus ((repeat (first | exact ls_new | assumption | refine ls_app ?_)); done)); rfl) | with_reducible refine And.intro (fun _ => ?_) (fun h => absurd h (by decide +kernel)) | with_reducible refine And.intro (fun h => absurd h (by decide +kernel)) (fun _ => ?_) | ((with_reducible refine And.intro ?_ ?_); rfl) | ((with_reducible apply Exists.intro); (with_reducible apply And.intro); rfl)))
local macro_rules | `(tactic| walk_at "smb") => `(tactic| repeat' (first | with_reducible refine k_it ?_ | with_reducible refine k_rng1 ?_ | with_reducible refine k_enS ?_ | with_reducible refine k_enL ?_ | with_reducible refine k_zipT ?_ | with_reducible refine k_pn ?_ | with_reducible refine k_pc ?_ | with_reducible refine k_c ?_ | with_reducible refine k_bin ?_ | with_reducible refine k_nil ?_ | with_reducible refine k_cons ?_ | with_reducible refine k_tup ?_ | with_reducible refine k_lst ?_ | with_reducible refine k_tst ?_ | with_reducible refine k_and ?_ | with_reducible refine k_or ?_ | with_reducible refine k_not ?_ | with_reducible refine k_ifE ?_ | with_reducible refine k_sub ?_ | with_reducible refine k_ltX ?_ | with_reducible refine k_ltSX ?_ | with_reducible refine k_lt ?_ | with_reducible refine k_le ?_ | with_reducible refine k_gt ?_ | with_reducible refine k_ge ?_ | with_reducible refine k_neg ?_ | with_reducible refine k_two ?_ | with_reducible refine k_addI ?_ | with_reducible refine k_eqS ?_ | with_reducible refine k_neS ?_ | with_reducible refine k_eqI ?_ | with_reducible refine k_neI ?_ | with_reducible refine k_slT ?_ | with_reducible refine k_sl ?_ | with_reducible refine k_no ?_ | with_reducible refine k_pt ?_ | with_reducible refine k_app ?_ | with_reducible refine k_intI ?_ | with_reducible refine k_intB ?_ | with_reducible refine k_mtS ?_ | with_reducible refine k_mtL ?_ | with_reducible refine k_mtD ?_ | with_reducible refine k_andV ?_ | with_reducible refine k_orV ?_ | with_reducible refine k_notV ?_ | with_reducible refine k_call ?_ | with_reducible refine k_dnew ?_ | with_reducible refine k_fmt ?_ | with_reducible refine k_js0 ?_ | with_reducible refine k_js ?_ | with_reducible refine k_gN ?_ | with_reducible refine k_gC ?_ | with_reducible refine k_g0 ?_ | with_reducible refine k_gStar ?_ | with_reducible refine k_gS ?_ | with_reducible refine k_kget ?_ | with_reducible refine k_un ?_ | with_reducible refine k_revT ?_ | with_reducible refine k_inSX ?_ | with_reducible refine s_set ?_ | with_reducible refine s_drop ?_ | with_reducible refine s_asg ?_ | with_reducible refine s_if ?_ | with_reducible refine s_nx ?_ | with_reducible refine s_ret ?_ | with_reducible refine s_seq ?_ | with_reducible refine l_ret ?_ | with_reducible refine l_set ?_ | with_reducible refine l_drop ?_ | with_reducible refine l_asg ?_ | with_reducible refine l_nx ?_ | with_reducible refine l_if ?_ | ((with_reducible apply k_var); rfl) | ((with_reducible apply k_ixT); rfl) | ((with_reducible apply k_inT); rfl; rfl) | ((with_reducible apply k_in); rfl; rfl; rfl) | ((with_reducible refine k_gT ?_ ?_); rfl) | ((with_reducible apply k_isi); rfl; rfl) | ((with_reducible apply k_isiT); rfl; rfl) | ((with_reducible apply k_lenL); (focus ((repeat' (first | exact ls_new | assumption | refine ls_app ?_)); done)); (focus (first | (simp only [List.length_cons, List.length_nil, List.length_map]; rfl) | rfl))) | ((with_reducible apply k_lenT); (focus (first | (simp only [List.length_cons, List.length_nil, List.length_map]; rfl) | rfl))) | ((with_reducible apply k_lenS); (focus assumption)) | ((with_reducible apply k_ixL); (focus ((repeat' (first | exact ls_new | assumption | refine ls_app ?_)); done)); rfl) | with_reducible refine And.intro (fun _ => ?_) (fun h => absurd h (by decide +kernel)) | with_reducible refine And.intro (fun h => absurd h (by decide +kernel)) (fun _ => ?_) | ((with_reducible refine And.intro ?_ ?_); rfl) | ((with_reducible apply Exists.intro); (with_reducible apply And.intro); rfl) | with_reducible refine And.intro (fun _ => ?_) (fun _ => ?_)))
local macro_rules | `(tactic| walk_at "smv") => `(tactic| repeat (first | exact val_hitS (by decide +kernel) | refine (val_missS (by decide +kernel)).trans ?_))
local macro_rules | `(tactic| walk_at "smd") => `(tactic| repeat (first | exact dc_new | exact ls_new | refine dc_app ?_ | refine ls_app ?_))
/-! ### what may stand in the place of an expression -/
def pyv (d : Dv) : PyData := (toPyW (fun _ => none) d).getD .none
def neV (x y : Dv) : Bool := !PyData.eqv (pyv x) (pyv y)
theorem k_neV {x y : Dv} {B : Nat} {S : Store} {Q : Dv → Store → Prop} (hs : scEq x y = none) (hx : Py x B) (hy : Py y B) (hB : B ≤ 64) (q : Q (.bl (neV x y)) S) : Ok (dNe x y S) Q := by
  obtain ⟨p, a, b, c⟩ := hx
  obtain ⟨p', a', b', c'⟩ := hy
  refine k_ne hs (a _) (a' _) (py_ok b c hB) (py_ok b' c' hB) ?_
  have e1 : pyv x = p := by unfold pyv; rw [a]; rfl
  have e2 : pyv y = p' := by unfold pyv; rw [a']; rfl
  unfold neV at q
  rw [e1, e2] at q
  exact q
def OthersOk (d : Nat) (v : Dv) : Prop := ∃ ds : List Dv, ds.length ≤ 3 ∧ (∀ x ∈ ds, WE d x) ∧ ∀ m S, 1 ≤ m → Ok (callT m .l_others_of [v] S) (Ls S ds)
theorem Ls.newI {S S' : Store} {ds : List Dv} {b : Bool} (k : Kp [] S S') (x : Dv) (h1 : b = true → ds = [x]) (h2 : b = false → ds = []) : (b = true → Ls S ds (.ref S'.length) (S' ++ [.lst [x]])) ∧ (b = false → Ls S ds (.ref S'.length) (S' ++ [.lst []])) :=
  ⟨fun e => by rw [h1 e]; exact Ls.new k, fun e => by rw [h2 e]; exact Ls.new k⟩
theorem ot_name {d : Nat} {x : Str} : OthersOk d (.tup [.str "name", .str x]) := by
  refine ⟨[], Nat.zero_le _, (fun x h => by cases h), fun m S hm => ?_⟩
  obtain ⟨m, rfl⟩ : ∃ k, m = k + 1 := ⟨m - 1, by omega⟩
  refine w_of (f := .l_others_of) ?_
  show Ok (b_l_others_of (callT m) [some _, none, none, none, none, none, none, none] S) _
  unfold b_l_others_of
  walk_at "sm"
  exact Ls.new Kp.refl
theorem ot_truth {d : Nat} {b : Bool} : OthersOk d (.tup [.str "truth", .bl b]) := by
  refine ⟨[.tup [.str "truth", .bl (!b)]], by simp, fun x h => by rw [List.mem_singleton.mp h]; exact .truth, fun m S hm => ?_⟩
  obtain ⟨m, rfl⟩ : ∃ k, m = k + 1 := ⟨m - 1, by omega⟩
  refine w_of (f := .l_others_of) ?_
  show Ok (b_l_others_of (callT m) [some _, none, none, none, none, none, none, none] S) _
  unfold b_l_others_of
  walk_at "sm"
  exact Ls.new Kp.refl
theorem cut_ints (is : List Int) (lo hi : Option Int) : cutG (is.map Dv.int) lo hi = (cutG is lo hi).map Dv.int := by
  unfold cutG
  rw [List.length_map, List.map_take, List.map_drop]
theorem ot_row {d : Nat} {is : List Int} (h : is.length ≤ 8) (h2 : ∀ i ∈ is, smallI i) : OthersOk d (.tup [.str "row", .tup (is.map Dv.int)]) := by
  have P : Py (.tup (is.map Dv.int)) 1 := Py.tup (Pys.all fun d hd => by
    obtain ⟨i, _, rfl⟩ := List.mem_map.mp hd
    exact .int)
  refine ⟨if neV (.tup (is.map Dv.int)) (.tup []) = true then [.tup [.str "row", .tup (cutG (is.map Dv.int) (some 1) none)]] else [], by split <;> simp, fun x hx => ?_, fun m S hm => ?_⟩
  · split at hx
    · rw [List.mem_singleton.mp hx, cut_ints]
      exact .row (Nat.le_trans cut_len h) fun i hi => h2 i (cut_mem hi)
    · cases hx
  obtain ⟨m, rfl⟩ : ∃ k, m = k + 1 := ⟨m - 1, by omega⟩
  refine w_of (f := .l_others_of) ?_
  show Ok (b_l_others_of (callT m) [some _, none, none, none, none, none, none, none] S) _
  unfold b_l_others_of
  walk_at "sm"
  refine k_neV rfl P (Py.tup .nil) (by decide) ⟨_, rfl, fun e => ?_, fun e => ?_⟩
  · rw [if_pos e]
    walk_at "sm"
    exact Ls.new Kp.refl
  · rw [if_neg (by rw [e]; decide)]
    walk_at "sm"
    exact Ls.new Kp.refl
theorem ot_iff {d : Nat} {a b c : Dv} (hd : d ≤ 11) (h1 : WE d a) (h2 : WE d b) (h3 : WE d c) : OthersOk (d + 1) (.tup [.str "if", a, b, c]) := by
  have w1 := WE.iff h1 h3 h2
  have w2 := WE.iff h1 h2 h3
  refine ⟨if neV (.tup [.str "if", a, c, b]) (.tup [.str "if", a, b, c]) = true then [.tup [.str "if", a, c, b]] else [], by split <;> simp, fun x hx => ?_, fun m S hm => ?_⟩
  · split at hx
    · rw [List.mem_singleton.mp hx]; exact w1
    · cases hx
  obtain ⟨m, rfl⟩ : ∃ k, m = k + 1 := ⟨m - 1, by omega⟩
  refine w_of (f := .l_others_of) ?_
  show Ok (b_l_others_of (callT m) [some _, none, none, none, none, none, none, none] S) _
  unfold b_l_others_of
  walk_at "sm"
  refine k_neV rfl w1.py w2.py (by omega) ⟨_, rfl, fun e => ?_, fun e => ?_⟩
  · rw [if_pos e]
    walk_at "sm"
    exact Ls.new Kp.refl
  · rw [if_neg (by rw [e]; decide)]
    walk_at "sm"
    exact Ls.new Kp.refl
theorem ot_lett {d : Nat} {x : Str} {a b : Dv} : OthersOk d (.tup [.str "let", .str x, a, b]) := by
  refine ⟨[], Nat.zero_le _, (fun x h => by cases h), fun m S hm => ?_⟩
  obtain ⟨m, rfl⟩ : ∃ k, m = k + 1 := ⟨m - 1, by omega⟩
  refine w_of (f := .l_others_of) ?_
  show Ok (b_l_others_of (callT m) [some _, none, none, none, none, none, none, none] S) _
  unfold b_l_others_of
  walk_at "sm"
  exact Ls.new Kp.refl
/-- the first two exchanged -/
def swap2 (as : List Dv) : List Dv := cutG as (some 1) (some 2) ++ cutG as none (some 1) ++ cutG as (some 2) none
theorem swap2_len : ∀ {as : List Dv}, as.length ≤ 4 → (swap2 as).length = as.length
  | [], _ => rfl
  | [_], _ => rfl
  | [_, _], _ => rfl
  | [_, _, _], _ => rfl
  | [_, _, _, _], _ => rfl
  | _ :: _ :: _ :: _ :: _ :: _, h => by simp only [List.length_cons] at h; omega
theorem swap2_mem {as : List Dv} {x : Dv} (h : x ∈ swap2 as) : x ∈ as := by
  unfold swap2 at h
  rcases List.mem_append.mp h with h | h
  · rcases List.mem_append.mp h with h | h
    · exact cut_mem h
    · exact cut_mem h
  · exact cut_mem h
theorem ot_call {d : Nat} {w : Str} {as : List Dv} (hd : d ≤ 11) (h2 : w.length ≤ 10) (h0 : PyData.strOk w = true) (ha : Ar w as.length) (h3 : as.length ≤ 4) (h4 : ∀ a ∈ as, WE d a) : OthersOk (d + 1) (.tup [.str "call", .str w, .tup as]) := by
  have sl := swap2_len h3
  have w1 : WE (d + 1) (.tup [.str "call", .str w, .tup (swap2 as)]) := .doo (.inr rfl) h2 h0 (by rw [sl]; exact ha) (by omega) fun a hm => h4 a (swap2_mem hm)
  have w2 : WE (d + 1) (.tup [.str "call", .str w, .tup as]) := .doo (.inr rfl) h2 h0 ha h3 h4
  have c1 := cut_len (xs := as) (lo := some 1) (hi := some 2)
  have c2 := cut_len (xs := as) (lo := none) (hi := some 1)
  have c3 := cut_len (xs := as) (lo := some 2) (hi := none)
  refine ⟨if (decide (1 < as.length) && neV (.tup [.str "call", .str w, .tup (swap2 as)]) (.tup [.str "call", .str w, .tup as])) = true then [.tup [.str "call", .str w, .tup (swap2 as)]] else [], by split <;> simp, fun x hx => ?_, fun m S hm => ?_⟩
  · split at hx
    · rw [List.mem_singleton.mp hx]; exact w1
    · cases hx
  obtain ⟨m, rfl⟩ : ∃ k, m = k + 1 := ⟨m - 1, by omega⟩
  refine w_of (f := .l_others_of) ?_
  show Ok (b_l_others_of (callT m) [some _, none, none, none, none, none, none, none] S) _
  unfold b_l_others_of
  walk_at "sm"
  refine k_addT (by omega) ?_
  walk_at "sm"
  refine k_addT (by rw [List.length_append]; omega) ?_
  have es : (cutG as (some 1) (some 2) ++ cutG as none (some 1) ++ cutG as (some 2) none) = swap2 as := rfl
  rw [es]
  walk_at "sm"
  refine ⟨fun e => ?_, fun e => ?_⟩
  · have e := of_decide_eq_true e
    rw [decide_eq_true (show 1 < as.length by omega), Bool.true_and]
    walk_at "sm"
    refine k_neV rfl w1.py w2.py (by omega) ⟨_, rfl, fun e => ?_, fun e => ?_⟩
    · rw [if_pos e]
      walk_at "sm"
      exact Ls.new Kp.refl
    · rw [if_neg (by rw [e]; decide)]
      walk_at "sm"
      exact Ls.new Kp.refl
  · have e := of_decide_eq_false e
    rw [decide_eq_false (show ¬ 1 < as.length by omega), Bool.false_and, if_neg (by decide)]
    walk_at "sm"
    exact Ls.new Kp.refl
/-! numbers -/
def nmD (k : Int) : Dv := .tup [.str "number", .int k]
def nmP (k : Int) : PyData := .tuple [.str "number", .int k]
def nOk (i o : Int) (acc : List Int) : Bool := decide (-1000 ≤ o) && decide (o ≤ 1000) && !decide (o = i) && !((acc.map nmP).any fun z => PyData.eqv z (nmP o))
def nStep (i : Int) (acc : List Int) (o : Int) : List Int := if nOk i o acc = true then acc ++ [o] else acc
def nAll (i : Int) (n : Nat) : List Int := ([i + 1, i - 1, 0].take n).foldl (nStep i) []
theorem nStep_len (i : Int) (acc : List Int) (o : Int) : (nStep i acc o).length ≤ acc.length + 1 := by
  unfold nStep
  split
  · rw [List.length_append]; exact Nat.le_refl _
  · omega
theorem toPys_nm (r : Nat → Option PyData) : ∀ ks : List Int, toPysW r (ks.map nmD) = some (ks.map nmP)
  | [] => by unfold toPysW; rfl
  | k :: ks => by
    rw [List.map_cons]
    unfold toPysW
    rw [toPys_nm r ks]
    have e : toPyW r (nmD k) = some (nmP k) := by
      unfold nmD toPyW toPysW toPyW toPysW toPyW toPysW
      rfl
    rw [e]; rfl
theorem nmP_lay (k : Int) : (nmP k).canLay0 = true := by
  unfold nmP
  simp only [PyData.canLay0, PyData.canLayAll0, Bool.and_true]
  decide +kernel
theorem nmP_depth (k : Int) : (nmP k).depth = 1 := by
  unfold nmP
  simp [PyData.depth, PyData.depthAll]
theorem nmPs_lay : ∀ ks : List Int, PyData.canLayAll0 (ks.map nmP) = true
  | [] => by unfold PyData.canLayAll0; rfl
  | k :: ks => by rw [List.map_cons]; unfold PyData.canLayAll0; rw [nmP_lay, nmPs_lay ks]; rfl
theorem nmPs_depth : ∀ ks : List Int, PyData.depthAll (ks.map nmP) ≤ 1
  | [] => by unfold PyData.depthAll; exact Nat.zero_le _
  | k :: ks => by rw [List.map_cons]; unfold PyData.depthAll; rw [nmP_depth]; exact Nat.max_le.mpr ⟨Nat.le_refl _, nmPs_depth ks⟩
theorem k_ninNm {o : Int} {l : Nat} {ks : List Int} {S : Store} {Q : Dv → Store → Prop} (h : lsAt S l = some (ks.map nmD)) (q : Q (.bl (!((ks.map nmP).any fun z => PyData.eqv z (nmP o)))) S) : Ok (dInX true (nmD o) (.ref l) S) Q := by
  have e1 : toPy S (nmD o) = some (nmP o) := by
    unfold toPy nmD toPyW toPysW toPyW toPysW toPyW toPysW
    rfl
  have e2 : toPy S (.ref l) = some (.list (ks.map nmP)) := by
    unfold toPy toPyW rdr
    rw [h]
    show (toPysW (rdr S 2) _).map PyData.list = _
    rw [toPys_nm]; rfl
  refine k_inDeep h rfl e1 e2 ?_ ?_ q
  · unfold eqOk SeqAt.shaped
    rw [nmP_lay, nmP_depth]; rfl
  · have hl : PyData.canLay0 (.list (ks.map nmP)) = true := by unfold PyData.canLay0; exact nmPs_lay ks
    have hd : PyData.depth (.list (ks.map nmP)) ≤ 64 := by
      unfold PyData.depth
      have := nmPs_depth ks
      omega
    unfold eqOk SeqAt.shaped
    rw [hl, decide_eq_true hd]; rfl
theorem nAll_small (i : Int) : ∀ n, ∀ k ∈ nAll i n, smallI k := by
  have st : ∀ (acc : List Int) (o : Int), (∀ k ∈ acc, smallI k) → ∀ k ∈ nStep i acc o, smallI k := fun acc o h k hk => by
    unfold nStep at hk
    split at hk
    · rename_i e
      rcases List.mem_append.mp hk with hk | hk
      · exact h k hk
      · rw [List.mem_singleton.mp hk]
        unfold nOk at e
        simp only [Bool.and_eq_true, decide_eq_true_eq] at e
        unfold smallI
        omega
    · exact h k hk
  intro n
  unfold nAll
  have : ∀ (os acc : List Int), (∀ k ∈ acc, smallI k) → ∀ k ∈ os.foldl (nStep i) acc, smallI k := by
    intro os
    induction os with
    | nil => intro acc h; exact h
    | cons o os ih => intro acc h; exact ih _ (st acc o h)
  exact this _ [] fun k h => by cases h
theorem nAll_succ {i : Int} {n : Nat} {o : Int} (h : [i + 1, i - 1, 0][n]? = some o) : nAll i (n + 1) = nStep i (nAll i n) o := by
  unfold nAll
  rw [List.take_add_one, h, List.foldl_append]
  rfl
theorem nAll_len (i : Int) : ∀ n, (nAll i n).length ≤ n
  | 0 => Nat.le_refl _
  | n + 1 => by
    cases e : [i + 1, i - 1, 0][n]? with
    | none =>
      have h1 : nAll i (n + 1) = nAll i n := by
        unfold nAll
        rw [List.take_add_one, e]
        simp
      have := nAll_len i n
      rw [h1]; omega
    | some o =>
      rw [nAll_succ e]
      have h1 := nStep_len i (nAll i n) o
      have := nAll_len i n
      omega
theorem ot_num {d : Nat} {i : Int} : OthersOk d (.tup [.str "number", .int i]) := by
  refine ⟨(nAll i 3).map nmD, by rw [List.length_map]; exact nAll_len i 3, fun x hx => ?_, fun m S hm => ?_⟩
  · obtain ⟨k, hk, rfl⟩ := List.mem_map.mp hx
    exact .num (nAll_small i 3 k hk)
  obtain ⟨m, rfl⟩ : ∃ k, m = k + 1 := ⟨m - 1, by omega⟩
  refine w_of (f := .l_others_of) ?_
  show Ok (b_l_others_of (callT m) [some _, none, none, none, none, none, none, none] S) _
  unfold b_l_others_of
  walk_at "sm"
  refine s_for ?_
  walk_at "sm"
  refine ⟨_, it_ref ls_new, fun n δ S' => ∃ a4, δ = [some (.tup [.str "number", .int i]), some (.str "number"), none, some (.ref S.length), a4, none, none, none] ∧ Kp [] S S' ∧ Kp [S.length] (S ++ [Ob.lst []] ++ [Ob.lst [Dv.int (i + 1), .int (i - 1), .int 0]]) S' ∧ lsAt S' S.length = some ((nAll i n).map nmD) ∧ n ≤ 3,
    ⟨_, rfl, Kp.refl.app.app, Kp.refl, ls_app ls_new, Nat.zero_le _⟩, ?_⟩
  rintro n δ S2 ⟨a4, rfl, k2, k12, hf, hn⟩
  have hL := k12.ls (not1 (by simp)) (ls_new (S := S ++ [Ob.lst []]) (ds := [Dv.int (i + 1), .int (i - 1), .int 0]))
  have lf := ls_lt hf
  by_cases hlt : n < 3
  · right
    obtain ⟨o, ho⟩ : ∃ o, [i + 1, i - 1, 0][n]? = some o := ⟨_, List.getElem?_eq_getElem hlt⟩
    have hod : [Dv.int (i + 1), .int (i - 1), .int 0][n]? = some (.int o) := by
      have := congrArg (Option.map Dv.int) ho
      rw [← List.getElem?_map] at this
      exact this
    refine ⟨hlt, .int o, by dsimp only; rw [hL]; exact congrArg some hod, ?_⟩
    have no : ∀ b, nOk i o (nAll i n) = false → b = false → ∃ a4', ([some (.tup [.str "number", .int i]), some (.str "number"), none, some (.ref S.length), a4, none, none, none].set 4 (some (Dv.int o)) : Env') = [some (.tup [.str "number", .int i]), some (.str "number"), none, some (.ref S.length), a4', none, none, none] ∧ Kp [] S S2 ∧ Kp [S.length] (S ++ [Ob.lst []] ++ [Ob.lst [Dv.int (i + 1), .int (i - 1), .int 0]]) S2 ∧ lsAt S2 S.length = some ((nAll i (n + 1)).map nmD) ∧ n + 1 ≤ 3 := fun b e _ =>
      ⟨_, rfl, k2, k12, by rw [nAll_succ ho]; unfold nStep; rw [if_neg (by rw [e]; decide)]; exact hf, hlt⟩
    walk_at "sm"
    refine ⟨fun e1 => ?_, fun e1 => ?_⟩
    rotate_left
    · walk_at "sm"
      exact no false (by unfold nOk; rw [show decide (-1000 ≤ o) = false from e1]; rfl) rfl
    walk_at "sm"
    refine ⟨fun e2 => ?_, fun e2 => ?_⟩
    rotate_left
    · walk_at "sm"
      exact no false (by unfold nOk; rw [show decide (o ≤ 1000) = false from e2, Bool.and_false]; rfl) rfl
    walk_at "sm"
    refine ⟨fun e3 => ?_, fun e3 => ?_⟩
    rotate_left
    · walk_at "sm"
      exact no false (by unfold nOk; rw [show (!decide (o = i)) = false from e3, Bool.and_false]; rfl) rfl
    walk_at "sm"
    refine k_ninNm hf ?_
    refine ⟨_, rfl, fun e4 => ?_, fun e4 => ?_⟩
    rotate_left
    · walk_at "sm"
      exact no false (by unfold nOk; rw [e4, Bool.and_false]) rfl
    walk_at "sm"
    refine ⟨_, _, rfl, hf, ?_⟩
    walk_at "sm"
    have hlen := nAll_len i n
    refine k_append hf (by rw [List.length_map]; omega) ?_
    refine ⟨_, rfl, k2.set (.inl (Nat.le_refl _)), k12.set (.inr (by simp)), ?_, hlt⟩
    rw [ls_set lf, nAll_succ ho]
    unfold nStep
    rw [if_pos (by
      unfold nOk
      rw [show decide (-1000 ≤ o) = true from e1, show decide (o ≤ 1000) = true from e2, show (!decide (o = i)) = true from e3, e4]; rfl), List.map_append]
    rfl
  · left
    have : n = 3 := by omega
    subst this
    refine ⟨by dsimp only; rw [hL]; rfl, ?_⟩
    walk_at "sm"
    exact ⟨_, rfl, Nat.le_refl _, hf, k2⟩
end K61

namespace K61
open PySem L2 Sm
local macro_rules | `(tactic| walk_at "sm") => `(tactic| repeat (first | with_reducible refine k_it ?_ | with_reducible refine k_rng1 ?_ | with_reducible refine k_enS ?_ | with_reducible refine k_enL ?_ | with_reducible refine k_zipT ?_ | with_reducible refine k_pn ?_ | with_reducible refine k_pc ?_ | with_reducible refine k_c ?_ | with_reducible refine k_bin ?_ | with_reducible refine k_nil ?_ | with_reducible refine k_cons ?_ | with_reducible refine k_tup ?_ | with_reducible refine k_lst ?_ | with_reducible refine k_tst ?_ | with_reducible refine k_and ?_ | with_reducible refine k_or ?_ | with_reducible refine k_not ?_ | with_reducible refine k_ifE ?_ | with_reducible refine k_sub ?_ | with_reducible refine k_ltX ?_ | with_reducible refine k_ltSX ?_ | with_reducible refine k_lt ?_ | with_reducible refine k_le ?_ | with_reducible refine k_gt ?_ | with_reducible refine k_ge ?_ | with_reducible refine k_neg ?_ | with_reducible refine k_two ?_ | with_reducible refine k_addI ?_ | with_reducible refine k_eqS ?_ | with_reducible refine k_neS ?_ | with_reducible refine k_eqI ?_ | with_reducible refine k_neI ?_ | with_reducible refine k_slT ?_ | with_reducible refine k_sl ?_ | with_reducible refine k_no ?_ | with_reducible refine k_pt ?_ | with_reducible refine k_app ?_ | with_reducible refine k_intI ?_ | with_reducible refine k_intB ?_ | with_reducible refine k_mtS ?_ | with_reducible refine k_mtL ?_ | with_reducible refine k_mtD ?_ | with_reducible refine k_andV ?_ | with_reducible refine k_orV ?_ | with_reducible refine k_notV ?_ | with_reducible refine k_call ?_ | with_reducible refine k_dnew ?_ | with_reducible refine k_fmt ?_ | with_reducible refine k_js0 ?_ | with_reducible refine k_js ?_ | with_reducible refine k_gN ?_ | with_reducible refine k_gC ?_ | with_reducible refine k_g0 ?_ | with_reducible refine k_gStar ?_ | with_reducible refine k_gS ?_ | with_reducible refine k_kget ?_ | with_reducible refine k_un ?_ | with_reducible refine k_revT ?_ | with_reducible refine k_inSX ?_ | with_reducible refine s_set ?_ | with_reducible refine s_drop ?_ | with_reducible refine s_asg ?_ | with_reducible refine s_if ?_ | with_reducible refine s_nx ?_ | with_reducible refine s_ret ?_ | with_reducible refine s_seq ?_ | with_reducible refine l_ret ?_ | with_reducible refine l_set ?_ | with_reducible refine l_drop ?_ | with_reducible refine l_asg ?_ | with_reducible refine l_nx ?_ | with_reducible refine l_if ?_ | ((with_reducible apply k_var); rfl) | ((with_reducible apply k_ixT); rfl) | ((with_reducible apply k_inT); rfl; rfl) | ((with_reducible apply k_in); rfl; rfl; rfl) | ((with_reducible refine k_gT ?_ ?_); rfl) | ((with_reducible apply k_isi); rfl; rfl) | ((with_reducible apply k_isiT); rfl; rfl) | ((with_reducible apply k_lenL); (focus ((repeat (first | exact ls_new | assumption | refine ls_app ?_)); done)); (focus (first | (simp only [List.length_cons, List.length_nil, List.length_map]; rfl) | rfl))) | ((with_reducible apply k_lenT); (focus (first | (simp only [List.length_cons, List.length_nil, List.length_map]; rfl) | rfl))) | ((with_reducible apply k_lenS); (focus assumption)) | ((with_reducible apply k_ixL); (focus ((repeat (first | exact ls_new | assumption | refine ls_app ?_)); done)); rfl) | with_reducible refine And.intro (fun _ => ?_) (fun h => absurd h (by decide +kernel)) | with_reducible refine And.intro (fun h => absurd h (by decide +kernel)) (fun _ => ?_) | ((with_reducible refine And.intro ?_ ?_); rfl) | ((with_reducible apply Exists.intro); (with_reducible apply And.intro); rfl)))
local macro_rules | `(tactic| walk_at "smb") => `(tactic| repeat' (first | with_reducible refine k_it ?_ | with_reducible refine k_rng1 ?_ | with_reducible refine k_enS ?_ | with_reducible refine k_enL ?_ | with_reducible refine k_zipT ?_ | with_reducible refine k_pn ?_ | with_reducible refine k_pc ?_ | with_reducible refine k_c ?_ | with_reducible refine k_bin ?_ | with_reducible refine k_nil ?_ | with_reducible refine k_cons ?_ | with_reducible refine k_tup ?_ | with_reducible refine k_lst ?_ | with_reducible refine k_tst ?_ | with_reducible refine k_and ?_ | with_reducible refine k_or ?_ | with_reducible refine k_not ?_ | with_reducible refine k_ifE ?_ | with_reducible refine k_sub ?_ | with_reducible refine k_ltX ?_ | with_reducible refine k_ltSX ?_ | with_reducible refine k_lt ?_ | with_reducible refine k_le ?_ | with_reducible refine k_gt ?_ | with_reducible refine k_ge ?_ | with_reducible refine k_neg ?_ | with_reducible refine k_two ?_ | with_reducible refine k_addI ?_ | with_reducible refine k_eqS ?_ | with_reducible refine k_neS ?_ | with_reducible refine k_eqI ?_ | with_reducible refine k_neI ?_ | with_reducible refine k_slT ?_ | with_reducible refine k_sl ?_ | with_reducible refine k_no ?_ | with_reducible refine k_pt ?_ | with_reducible refine k_app ?_ | with_reducible refine k_intI ?_ | with_reducible refine k_intB ?_ | with_reducible refine k_mtS ?_ | with_reducible refine k_mtL ?_ | with_reducible refine k_mtD ?_ | with_reducible refine k_andV ?_ | with_reducible refine k_orV ?_ | with_reducible refine k_notV ?_ | with_reducible refine k_call ?_ | with_reducible refine k_dnew ?_ | with_reducible refine k_fmt ?_ | with_reducible refine k_js0 ?_ | with_reducible refine k_js ?_ | with_reducible refine k_gN ?_ | with_reducible refine k_gC ?_ | with_reducible refine k_g0 ?_ | with_reducible refine k_gStar ?_ | with_reducible refine k_gS ?_ | with_reducible refine k_kget ?_ | with_reducible refine k_un ?_ | with_reducible refine k_revT ?_ | with_reducible refine k_inSX ?_ | with_reducible refine s_set ?_ | with_reducible refine s_drop ?_ | with_reducible refine s_asg ?_ | with_reducible refine s_if ?_ | with_reducible refine s_nx ?_ | with_reducible refine s_ret ?_ | with_reducible refine s_seq ?_ | with_reducible refine l_ret ?_ | with_reducible refine l_set ?_ | with_reducible refine l_drop ?_ | with_reducible refine l_asg ?_ | with_reducible refine l_nx ?_ | with_reducible refine l_if ?_ | ((with_reducible apply k_var); rfl) | ((with_reducible apply k_ixT); rfl) | ((with_reducible apply k_inT); rfl; rfl) | ((with_reducible apply k_in); rfl; rfl; rfl) | ((with_reducible refine k_gT ?_ ?_); rfl) | ((with_reducible apply k_isi); rfl; rfl) | ((with_reducible apply k_isiT); rfl; rfl) | ((with_reducible apply k_lenL); (focus ((repeat' (first | exact ls_new | assumption | refine ls_app ?_)); done)); (focus (first | (simp only [List.length_cons, List.length_nil, List.length_map]; rfl) | rfl))) | ((with_reducible apply k_lenT); (focus (first | (simp only [List.length_cons, List.length_nil, List.length_map]; rfl) | rfl))) | ((with_reducible apply k_lenS); (focus assumption)) | ((with_reducible apply k_ixL); (focus ((repeat' (first | exact ls_new | assumption | refine ls_app ?_)); done)); rfl) | with_reducible refine And.intro (fun _ => ?_) (fun h => absurd h (by decide +kernel)) | with_reducible refine And.intro (fun h => absurd h (by decide +kernel)) (fun _ => ?_) | ((with_reducible refine And.intro ?_ ?_); rfl) | ((with_reducible apply Exists.intro); (with_reducible apply And.intro); rfl) | with_reducible refine And.intro (fun _ => ?_) (fun _ => ?_)))
local macro_rules | `(tactic| walk_at "smv") => `(tactic| repeat (first | exact val_hitS (by decide +kernel) | refine (val_missS (by decide +kernel)).trans ?_))
local macro_rules | `(tactic| walk_at "smd") => `(tactic| repeat (first | exact dc_new | exact ls_new | refine dc_app ?_ | refine ls_app ?_))
/-- the words that stand for one another -/
def oKvs : List (Key × Dv) := [(.inr "plus", .str "minus"), (.inr "minus", .str "plus"), (.inr "times", .str "plus"), (.inr "over", .str "rest"), (.inr "rest", .str "over"), (.inr "and", .str "or"), (.inr "or", .str "and")]
theorem oKvs_all : ∀ kv ∈ oKvs, ∃ w : Str, kv.2 = .str w ∧ w.length ≤ 10 ∧ PyData.strOk w = true ∧ ∀ n, Ar w n := by
  intro kv h
  have ar : ∀ {w : Str}, decide (w = "not") = false → decide (w = "below") = false → ∀ n, Ar w n := fun h1 h2 n => ⟨fun e => absurd e (of_decide_eq_false h1), fun e => absurd e (of_decide_eq_false h2)⟩
  simp only [oKvs, List.mem_cons, List.not_mem_nil, or_false] at h
  rcases h with rfl | rfl | rfl | rfl | rfl | rfl | rfl
  all_goals exact ⟨_, rfl, by decide, by decide +kernel, ar (by decide +kernel) (by decide +kernel)⟩
theorem val_mem {kvs : List (Key × Dv)} {k : Key} {d : Dv} (h : valD kvs k = some d) : ∃ kv ∈ kvs, kv.2 = d := by
  unfold valD at h
  obtain ⟨kv, e, rfl⟩ := Option.map_eq_some_iff.mp h
  exact ⟨kv, List.mem_of_find?_eq_some e, rfl⟩
def oDo (w : Str) (as : List Dv) : List Dv := match valD oKvs (.inr w) with
  | some d => [.tup [.str "do", d, .tup as]]
  | none => []
theorem ot_do {d : Nat} {w : Str} {as : List Dv} (hd : d ≤ 11) (h2 : w.length ≤ 10) (h0 : PyData.strOk w = true) (ha : Ar w as.length) (h3 : as.length ≤ 4) (h4 : ∀ a ∈ as, WE d a) : OthersOk (d + 1) (.tup [.str "do", .str w, .tup as]) := by
  by_cases e1 : w = "not"
  · subst e1
    have h1 := ha.1 rfl
    obtain ⟨a, r, rfl⟩ : ∃ a r, as = a :: r := by
      cases as with
      | nil => simp at h1
      | cons a r => exact ⟨a, r, rfl⟩
    refine ⟨[a], by simp, fun x hx => by rw [List.mem_singleton.mp hx]; exact (h4 a List.mem_cons_self).up, fun m S hm => ?_⟩
    obtain ⟨m, rfl⟩ : ∃ k, m = k + 1 := ⟨m - 1, by omega⟩
    refine w_of (f := .l_others_of) ?_
    show Ok (b_l_others_of (callT m) [some _, none, none, none, none, none, none, none] S) _
    unfold b_l_others_of
    walk_at "sm"
    rw [cut_tail]
    walk_at "sm"
    refine k_ixT (atI_nat (j := 0) rfl) ?_
    walk_at "sm"
    exact Ls.new Kp.refl
  by_cases e2 : w = "below"
  · subst e2
    have h1 := ha.2 rfl
    obtain ⟨a, b, r, rfl⟩ : ∃ a b r, as = a :: b :: r := by
      match as, h1 with
      | a :: b :: r, _ => exact ⟨a, b, r, rfl⟩
    have wr : WE (d + 1) (.tup [.str "do", .str "below", .tup (a :: b :: r).reverse]) := .doo (.inl rfl) h2 h0 (by rw [List.length_reverse]; exact ha) (by rw [List.length_reverse]; exact h3) fun x hx => h4 x (List.mem_reverse.mp hx)
    have wa := h4 a (by simp)
    have wb := h4 b (by simp)
    refine ⟨if neV a b = true then [.tup [.str "do", .str "below", .tup (a :: b :: r).reverse]] else [], by split <;> simp, fun x hx => ?_, fun m S hm => ?_⟩
    · split at hx
      · rw [List.mem_singleton.mp hx]; exact wr
      · cases hx
    obtain ⟨m, rfl⟩ : ∃ k, m = k + 1 := ⟨m - 1, by omega⟩
    refine w_of (f := .l_others_of) ?_
    show Ok (b_l_others_of (callT m) [some _, none, none, none, none, none, none, none] S) _
    unfold b_l_others_of
    walk_at "sm"
    rw [cut_tail]
    walk_at "sm"
    have sc : scEq a b = none := by
      obtain ⟨_, _, rfl⟩ := wa.tupv
      obtain ⟨_, _, rfl⟩ := wb.tupv
      rfl
    refine k_ixT (atI_nat (j := 0) rfl) ?_
    walk_at "sm"
    refine k_ixT (atI_nat (j := 1) rfl) ?_
    refine k_neV sc wa.py wb.py (by omega) ⟨_, rfl, fun e => ?_, fun e => ?_⟩
    · rw [if_pos e]
      walk_at "sm"
      exact Ls.new Kp.refl
    · rw [if_neg (by rw [e]; decide)]
      walk_at "sm"
      exact Ls.new Kp.refl
  refine ⟨oDo w as, by unfold oDo; split <;> simp, fun x hx => ?_, fun m S hm => ?_⟩
  · unfold oDo at hx
    split at hx
    · rename_i d' e
      obtain ⟨kv, hkv, rfl⟩ := val_mem e
      obtain ⟨w', ew, l1, l2, l3⟩ := oKvs_all kv hkv
      rw [List.mem_singleton.mp hx, ew]
      exact .doo (.inl rfl) l1 l2 (l3 _) h3 h4
    · cases hx
  obtain ⟨m, rfl⟩ : ∃ k, m = k + 1 := ⟨m - 1, by omega⟩
  refine w_of (f := .l_others_of) ?_
  show Ok (b_l_others_of (callT m) [some _, none, none, none, none, none, none, none] S) _
  unfold b_l_others_of
  walk_at "sm"
  rw [cut_tail]
  walk_at "sm"
  refine ⟨fun h => absurd (of_decide_eq_true h) e1, fun _ => ?_⟩
  walk_at "sm"
  refine ⟨fun h => absurd (of_decide_eq_true h) e2, fun _ => ?_⟩
  walk_at "sm"
  refine k_disp ?_
  walk_at "sm"
  refine ⟨by walk_at "smd", Nat.le_of_ble_eq_true rfl, ?_⟩
  rw [merge_strs ["plus", "minus", "times", "over", "rest"] rfl (by decide +kernel)]
  generalize e5 : List.set _ S.length _ = S1
  have k1 : Kp [] S S1 := by rw [← e5]; exact Kp.refl.app.set (.inl (Nat.le_refl _))
  have hd1 : dcAt S1 S.length = some [(.inr "plus", Dv.str "minus"), (.inr "minus", .str "plus"), (.inr "times", .str "plus"), (.inr "over", .str "rest"), (.inr "rest", .str "over")] := by rw [← e5]; exact dc_set (by simp)
  have l1 : S1.length = S.length + 1 := by rw [← e5]; simp
  clear e5
  walk_at "sm"
  refine ⟨_, _, rfl, hd1, ?_⟩
  walk_at "sm"
  refine k_disp ?_
  walk_at "sm"
  refine ⟨by walk_at "smd", Nat.le_of_ble_eq_true rfl, ?_⟩
  rw [merge_strs ["and", "or"] rfl (by decide +kernel)]
  generalize e6 : List.set _ S1.length _ = S2
  have k2 : Kp [] S1 S2 := by rw [← e6]; exact Kp.refl.app.set (.inl (Nat.le_refl _))
  have hd2 : dcAt S2 S1.length = some [(.inr "and", Dv.str "or"), (.inr "or", .str "and")] := by rw [← e6]; exact dc_set (by simp)
  clear e6
  walk_at "sm"
  refine k_upd (k2.dc (by simp) hd1) hd2 (by omega) (by decide) ?_
  rw [merge_nodup (by decide +kernel)]
  generalize e7 : List.set _ S.length _ = S3
  have ld := dc_lt (k2.dc (by simp) hd1)
  have k3 : Kp [] S S3 := by rw [← e7]; exact (k1.trans k2).set (.inl (Nat.le_refl _))
  have hd3 : dcAt S3 S.length = some oKvs := by rw [← e7]; exact dc_set ld
  clear e7
  walk_at "sm"
  refine k_inD hd3 rfl ?_
  refine ⟨_, rfl, fun e => ?_, fun e => ?_⟩
  · obtain ⟨v, hv⟩ := Option.isSome_iff_exists.mp (show (valD oKvs (.inr w)).isSome = true from e)
    have eo : oDo w as = [.tup [.str "do", v, .tup as]] := by unfold oDo; rw [hv]
    rw [eo]
    walk_at "sm"
    refine k_ixD hd3 rfl hv ?_
    walk_at "sm"
    exact Ls.new k3
  · have hv : valD oKvs (.inr w) = none := by
      have e : (valD oKvs (.inr w)).isSome = false := e
      cases q : valD oKvs (.inr w) with
      | none => rfl
      | some x => rw [q] at e; cases e
    have eo : oDo w as = [] := by unfold oDo; rw [hv]
    rw [eo]
    walk_at "sm"
    exact Ls.new k3
theorem others_ok {d : Nat} {v : Dv} (h : WE d v) (hd : d ≤ 11) : OthersOk d v := by
  cases h with
  | name h h2 => exact ot_name
  | num h => exact ot_num
  | truth => exact ot_truth
  | row h h2 => exact ot_row h h2
  | doo h1 h2 h0 ha h3 h4 =>
    rcases h1 with rfl | rfl
    · exact ot_do (by omega) h2 h0 ha h3 h4
    · exact ot_call (by omega) h2 h0 ha h3 h4
  | iff h1 h2 h3 => exact ot_iff (by omega) h1 h2 h3
  | lett h h0 h1 h2 => exact ot_lett
/-! ### an expression with another one at a place -/
theorem put_loop {m rr f : Nat} {v other st : Dv} {place : Int} {ks : List Dv} {dss : List (List Dv)} {d e : Nat} {S : Store} {rest : CS} {QF : Fl → Store → Prop} (hL : lsAt S rr = some ks) (hf : lsAt S f = some []) (hne : rr ≠ f) (l : dss.length = ks.length) (hk4 : ks.length ≤ 4) (hd : d ≤ 11)
    (hw : ∀ (i : Nat) (a : Dv) (ds : List Dv), ks[i]? = some a → dss[i]? = some ds → WT d a ds) (hm : d + 1 ≤ m)
    (hp : ∀ (i : Nat) (a : Dv) (ds : List Dv) (p : Int) (S : Store), ks[i]? = some a → dss[i]? = some ds → 0 ≤ p → p < (ds.length : Int) → Ok (callT m .l_put_at [a, .int p, other] S) fun r S' => WE (d + e) r ∧ Kp [] S S')
    (k : ∀ ks' S' a7 a8 at', ks'.length = ks.length → (∀ x ∈ ks', WE (d + e) x) → lsAt S' f = some ks' → Kp [f] S S' → Ok (rest [some v, some (.int place), some other, some st, some (.ref rr), some (.ref f), some (.int at'), a7, a8] S') QF) :
    Ok (cSeq (cFor (cIt (cVar 4)) (gN 7) (cSeq (cSet 8 (cApp bLen (cCons (cCall (callT m .l_tree_spots) 1 (cCons (cVar 7) cNil)) cNil)))
  (cSeq (cDrop (cMt "list" mApp (cVar 5) (cCons (cIfE (cTst (cTwo dLe dLtX (cVar 6) (cVar 1) (cBin dAdd (cVar 6) (cVar 8)))) (cCall (callT m .l_put_at) 3 (cCons (cVar 7) (cCons (cBin dSub (cVar 1) (cVar 6)) (cCons (cVar 2) cNil)))) (cVar 7)) cNil)))
  (cSet 6 (cBin dAdd (cVar 6) (cVar 8)))))) rest [some v, some (.int place), some other, some st, some (.ref rr), some (.ref f), some (.int 1), none, none] S) QF := by
  refine s_for ?_
  walk_at "sm"
  refine ⟨_, it_ref hL, fun i δ S' => ∃ a7 a8 at' acc, δ = [some v, some (.int place), some other, some st, some (.ref rr), some (.ref f), some (.int at'), a7, a8] ∧ Kp [f] S S' ∧ lsAt S' f = some acc ∧ acc.length = i ∧ i ≤ ks.length ∧ ∀ x ∈ acc, WE (d + e) x,
    ⟨_, _, _, [], rfl, Kp.refl, hf, rfl, Nat.zero_le _, fun x h => by cases h⟩, ?_⟩
  rintro i δ S2 ⟨a7, a8, at', acc, rfl, k2, hacc, la, hi, hwe⟩
  have hL2 := k2.ls (not1 hne) hL
  by_cases hlt : i < ks.length
  · right
    refine ⟨hlt, ks[i], by dsimp only; rw [hL2]; show some ks[i]? = _; rw [List.getElem?_eq_getElem hlt], ?_⟩
    have hds : dss[i]? = some dss[i] := List.getElem?_eq_getElem (by omega)
    have hki : ks[i]? = some ks[i] := List.getElem?_eq_getElem hlt
    have wt := hw i _ _ hki hds
    walk_at "sm"
    refine (ts_ok wt hd m S2 hm).imp fun r S3 ⟨r2, e2, h2, hL3, k3⟩ => ?_
    subst e2
    have hacc3 := k3.ls (by simp) hacc
    refine k_lenL hL3 rfl ?_
    walk_at "sm"
    refine ⟨_, _, rfl, hacc3, ?_⟩
    refine k_cons ?_
    refine Ok.imp (P := fun y S4 => WE (d + e) y ∧ Kp [] S3 S4) ?_ ?_
    · walk_at "sm"
      refine ⟨fun c1 => ?_, fun c1 => ?_⟩
      · walk_at "sm"
        refine ⟨fun c2 => ?_, fun c2 => ?_⟩
        · walk_at "sm"
          have c1 := of_decide_eq_true c1
          have c2 := of_decide_eq_true c2
          exact hp i _ _ _ S3 hki hds (by omega) (by omega)
        · walk_at "sm"
          exact ⟨wt.we.le (Nat.le_add_right _ _), Kp.refl⟩
      · walk_at "sm"
        exact ⟨wt.we.le (Nat.le_add_right _ _), Kp.refl⟩
    rintro y S4 ⟨wy, k4⟩
    walk_at "sm"
    have hacc4 := k4.ls (by simp) hacc3
    refine k_append hacc4 (by omega) ?_
    walk_at "sm"
    refine ⟨_, _, _, acc ++ [y], rfl, ((k2.trans k3.any).trans k4.any).set (.inr (by simp)), ls_set (ls_lt hacc4), by simp [la], hlt, fun x hx => ?_⟩
    rcases List.mem_append.mp hx with hx | hx
    · exact hwe x hx
    · rw [List.mem_singleton.mp hx]; exact wy
  · left
    refine ⟨by dsimp only; rw [hL2]; show some ks[i]? = _; rw [List.getElem?_eq_none (by omega)], ?_⟩
    exact k acc S2 a7 a8 at' (by omega) hwe hacc k2
end K61

namespace K61
open PySem L2 Sm
local macro_rules | `(tactic| walk_at "sm") => `(tactic| repeat (first | with_reducible refine k_it ?_ | with_reducible refine k_rng1 ?_ | with_reducible refine k_enS ?_ | with_reducible refine k_enL ?_ | with_reducible refine k_zipT ?_ | with_reducible refine k_pn ?_ | with_reducible refine k_pc ?_ | with_reducible refine k_c ?_ | with_reducible refine k_bin ?_ | with_reducible refine k_nil ?_ | with_reducible refine k_cons ?_ | with_reducible refine k_tup ?_ | with_reducible refine k_lst ?_ | with_reducible refine k_tst ?_ | with_reducible refine k_and ?_ | with_reducible refine k_or ?_ | with_reducible refine k_not ?_ | with_reducible refine k_ifE ?_ | with_reducible refine k_sub ?_ | with_reducible refine k_ltX ?_ | with_reducible refine k_ltSX ?_ | with_reducible refine k_lt ?_ | with_reducible refine k_le ?_ | with_reducible refine k_gt ?_ | with_reducible refine k_ge ?_ | with_reducible refine k_neg ?_ | with_reducible refine k_two ?_ | with_reducible refine k_addI ?_ | with_reducible refine k_eqS ?_ | with_reducible refine k_neS ?_ | with_reducible refine k_eqI ?_ | with_reducible refine k_neI ?_ | with_reducible refine k_slT ?_ | with_reducible refine k_sl ?_ | with_reducible refine k_no ?_ | with_reducible refine k_pt ?_ | with_reducible refine k_app ?_ | with_reducible refine k_intI ?_ | with_reducible refine k_intB ?_ | with_reducible refine k_mtS ?_ | with_reducible refine k_mtL ?_ | with_reducible refine k_mtD ?_ | with_reducible refine k_andV ?_ | with_reducible refine k_orV ?_ | with_reducible refine k_notV ?_ | with_reducible refine k_call ?_ | with_reducible refine k_dnew ?_ | with_reducible refine k_fmt ?_ | with_reducible refine k_js0 ?_ | with_reducible refine k_js ?_ | with_reducible refine k_gN ?_ | with_reducible refine k_gC ?_ | with_reducible refine k_g0 ?_ | with_reducible refine k_gStar ?_ | with_reducible refine k_gS ?_ | with_reducible refine k_kget ?_ | with_reducible refine k_un ?_ | with_reducible refine k_revT ?_ | with_reducible refine k_inSX ?_ | with_reducible refine s_set ?_ | with_reducible refine s_drop ?_ | with_reducible refine s_asg ?_ | with_reducible refine s_if ?_ | with_reducible refine s_nx ?_ | with_reducible refine s_ret ?_ | with_reducible refine s_seq ?_ | with_reducible refine l_ret ?_ | with_reducible refine l_set ?_ | with_reducible refine l_drop ?_ | with_reducible refine l_asg ?_ | with_reducible refine l_nx ?_ | with_reducible refine l_if ?_ | ((with_reducible apply k_var); rfl) | ((with_reducible apply k_ixT); rfl) | ((with_reducible apply k_inT); rfl; rfl) | ((with_reducible apply k_in); rfl; rfl; rfl) | ((with_reducible refine k_gT ?_ ?_); rfl) | ((with_reducible apply k_isi); rfl; rfl) | ((with_reducible apply k_isiT); rfl; rfl) | ((with_reducible apply k_lenL); (focus ((repeat (first | exact ls_new | assumption | refine ls_app ?_)); done)); (focus (first | (simp only [List.length_cons, List.length_nil, List.length_map]; rfl) | rfl))) | ((with_reducible apply k_lenT); (focus (first | (simp only [List.length_cons, List.length_nil, List.length_map]; rfl) | rfl))) | ((with_reducible apply k_lenS); (focus assumption)) | ((with_reducible apply k_ixL); (focus ((repeat (first | exact ls_new | assumption | refine ls_app ?_)); done)); rfl) | with_reducible refine And.intro (fun _ => ?_) (fun h => absurd h (by decide +kernel)) | with_reducible refine And.intro (fun h => absurd h (by decide +kernel)) (fun _ => ?_) | ((with_reducible refine And.intro ?_ ?_); rfl) | ((with_reducible apply Exists.intro); (with_reducible apply And.intro); rfl)))
local macro_rules | `(tactic| walk_at "smb") => `(tactic| repeat' (first | with_reducible refine k_it ?_ | with_reducible refine k_rng1 ?_ | with_reducible refine k_enS ?_ | with_reducible refine k_enL ?_ | with_reducible refine k_zipT ?_ | with_reducible refine k_pn ?_ | with_reducible refine k_pc ?_ | with_reducible refine k_c ?_ | with_reducible refine k_bin ?_ | with_reducible refine k_nil ?_ | with_reducible refine k_cons ?_ | with_reducible refine k_tup ?_ | with_reducible refine k_lst ?_ | with_reducible refine k_tst ?_ | with_reducible refine k_and ?_ | with_reducible refine k_or ?_ | with_reducible refine k_not ?_ | with_reducible refine k_ifE ?_ | with_reducible refine k_sub ?_ | with_reducible refine k_ltX ?_ | with_reducible refine k_ltSX ?_ | with_reducible refine k_lt ?_ | with_reducible refine k_le ?_ | with_reducible refine k_gt ?_ | with_reducible refine k_ge ?_ | with_reducible refine k_neg ?_ | with_reducible refine k_two ?_ | with_reducible refine k_addI ?_ | with_reducible refine k_eqS ?_ | with_reducible refine k_neS ?_ | with_reducible refine k_eqI ?_ | with_reducible refine k_neI ?_ | with_reducible refine k_slT ?_ | with_reducible refine k_sl ?_ | with_reducible refine k_no ?_ | with_reducible refine k_pt ?_ | with_reducible refine k_app ?_ | with_reducible refine k_intI ?_ | with_reducible refine k_intB ?_ | with_reducible refine k_mtS ?_ | with_reducible refine k_mtL ?_ | with_reducible refine k_mtD ?_ | with_reducible refine k_andV ?_ | with_reducible refine k_orV ?_ | with_reducible refine k_notV ?_ | with_reducible refine k_call ?_ | with_reducible refine k_dnew ?_ | with_reducible refine k_fmt ?_ | with_reducible refine k_js0 ?_ | with_reducible refine k_js ?_ | with_reducible refine k_gN ?_ | with_reducible refine k_gC ?_ | with_reducible refine k_g0 ?_ | with_reducible refine k_gStar ?_ | with_reducible refine k_gS ?_ | with_reducible refine k_kget ?_ | with_reducible refine k_un ?_ | with_reducible refine k_revT ?_ | with_reducible refine k_inSX ?_ | with_reducible refine s_set ?_ | with_reducible refine s_drop ?_ | with_reducible refine s_asg ?_ | with_reducible refine s_if ?_ | with_reducible refine s_nx ?_ | with_reducible refine s_ret ?_ | with_reducible refine s_seq ?_ | with_reducible refine l_ret ?_ | with_reducible refine l_set ?_ | with_reducible refine l_drop ?_ | with_reducible refine l_asg ?_ | with_reducible refine l_nx ?_ | with_reducible refine l_if ?_ | ((with_reducible apply k_var); rfl) | ((with_reducible apply k_ixT); rfl) | ((with_reducible apply k_inT); rfl; rfl) | ((with_reducible apply k_in); rfl; rfl; rfl) | ((with_reducible refine k_gT ?_ ?_); rfl) | ((with_reducible apply k_isi); rfl; rfl) | ((with_reducible apply k_isiT); rfl; rfl) | ((with_reducible apply k_lenL); (focus ((repeat' (first | exact ls_new | assumption | refine ls_app ?_)); done)); (focus (first | (simp only [List.length_cons, List.length_nil, List.length_map]; rfl) | rfl))) | ((with_reducible apply k_lenT); (focus (first | (simp only [List.length_cons, List.length_nil, List.length_map]; rfl) | rfl))) | ((with_reducible apply k_lenS); (focus assumption)) | ((with_reducible apply k_ixL); (focus ((repeat' (first | exact ls_new | assumption | refine ls_app ?_)); done)); rfl) | with_reducible refine And.intro (fun _ => ?_) (fun h => absurd h (by decide +kernel)) | with_reducible refine And.intro (fun h => absurd h (by decide +kernel)) (fun _ => ?_) | ((with_reducible refine And.intro ?_ ?_); rfl) | ((with_reducible apply Exists.intro); (with_reducible apply And.intro); rfl) | with_reducible refine And.intro (fun _ => ?_) (fun _ => ?_)))
local macro_rules | `(tactic| walk_at "smv") => `(tactic| repeat (first | exact val_hitS (by decide +kernel) | refine (val_missS (by decide +kernel)).trans ?_))
local macro_rules | `(tactic| walk_at "smd") => `(tactic| repeat (first | exact dc_new | exact ls_new | refine dc_app ?_ | refine ls_app ?_))
theorem start_let : (valD [(.inr "let", Dv.int 2)] (.inr "let")).getD (.int 1) = .int 2 := by rw [val_hit]; rfl
theorem start_ne {h : Str} (hh : decide ((Str.ofString "let") = h) = false) : (valD [(.inr "let", Dv.int 2)] (.inr h)).getD (.int 1) = .int 1 := by rw [val_missS hh]; rfl
theorem put_ok {d : Nat} {v : Dv} {ds : List Dv} (h : WT d v ds) : d ≤ 11 → ∀ (e : Nat) (other : Dv) (place : Int) (m : Nat) (S : Store), WE e other → 0 ≤ place → place < (ds.length : Int) → d + 2 ≤ m → Ok (callT m .l_put_at [v, .int place, other] S) fun r S' => WE (d + e) r ∧ Kp [] S S' := by
  have leaf : ∀ (d e : Nat) (v other : Dv) (place : Int) (m : Nat) (S : Store), WE e other → 0 ≤ place → place < 1 → d + 2 ≤ m → Ok (callT m .l_put_at [v, .int place, other] S) fun r S' => WE (d + e) r ∧ Kp [] S S' := by
    intro d e v other place m S hw h0 h1 hm
    obtain ⟨m, rfl⟩ : ∃ k, m = k + 1 := ⟨m - 1, by omega⟩
    have hp : place = 0 := by omega
    subst hp
    refine w_of (f := .l_put_at) ?_
    show Ok (b_l_put_at (callT m) [some v, some (.int 0), some other, none, none, none, none, none, none] S) _
    unfold b_l_put_at
    walk_at "sm"
    exact ⟨hw.le (Nat.le_add_left _ _), Kp.refl⟩
  induction h with
  | name h h2 => exact fun _ e other place m S hw h0 h1 hm => leaf _ e _ other place m S hw h0 h1 hm
  | num h => exact fun _ e other place m S hw h0 h1 hm => leaf _ e _ other place m S hw h0 h1 hm
  | truth => exact fun _ e other place m S hw h0 h1 hm => leaf _ e _ other place m S hw h0 h1 hm
  | row h h2 => exact fun _ e other place m S hw h0 h1 hm => leaf _ e _ other place m S hw h0 h1 hm
  | @doo d h w as dss h1 h2 h0' ha h3 l hs ih =>
    intro hd e other place m S hw p0 p1 hm
    obtain ⟨m, rfl⟩ : ∃ k, m = k + 1 := ⟨m - 1, by omega⟩
    refine w_of (f := .l_put_at) ?_
    show Ok (b_l_put_at (callT m) [some (.tup [.str h, .str w, .tup as]), some (.int place), some other, none, none, none, none, none, none] S) _
    unfold b_l_put_at
    have hne : decide ((Str.ofString "let") = h) = false := by rcases h1 with rfl | rfl <;> decide +kernel
    walk_at "sm"
    refine ⟨fun c => ?_, fun c => ?_⟩
    · walk_at "sm"
      exact ⟨hw.le (Nat.le_add_left _ _), Kp.refl⟩
    have c := of_decide_eq_false c
    walk_at "sm"
    refine k_get2 (k_disp ?_)
    walk_at "sm"
    refine ⟨by walk_at "smd", Nat.le_of_ble_eq_true rfl, ?_⟩
    rw [merge_strs ["let"] rfl (by decide +kernel)]
    generalize e5 : List.set _ S.length _ = S1
    have k1 : Kp [] S S1 := by rw [← e5]; exact Kp.refl.app.set (.inl (Nat.le_refl _))
    have hd1 : dcAt S1 S.length = some [(.inr "let", Dv.int 2)] := by rw [← e5]; exact dc_set (by simp)
    clear e5
    refine ⟨by unfold isTy; dsimp only; rw [dcAt_iff.mp hd1]; simp, ?_⟩
    walk_at "sm"
    refine ⟨_, _, _, rfl, rfl, hd1, ?_⟩
    rw [start_ne hne]
    have fin : ∀ (ks' : List Dv) (S' : Store), ks'.length = as.length → (∀ x ∈ ks', WE (d + e) x) → lsAt S' (S1 ++ [Ob.lst as]).length = some ks' → Kp [(S1 ++ [Ob.lst as]).length] (S1 ++ [Ob.lst as] ++ [Ob.lst []]) S' → WE (d + 1 + e) (.tup ([Dv.str h, .str w] ++ [.tup ks'])) ∧ Kp [] S S' := fun ks' S' hl hwe hls k2 => by
      have k3 : Kp [] S1 S' := ⟨by have := k2.1; simp at this; omega, fun j o _ q => k2.2 j o (not1 (by have := (List.getElem?_eq_some_iff.mp q).1; simp; omega)) (Kp.refl (D := []).app.app.2 j o (by simp) q)⟩
      refine ⟨?_, k1.trans k3⟩
      rw [show d + 1 + e = d + e + 1 by omega]
      exact .doo h1 h2 h0' (by rw [hl]; exact ha) (by omega) hwe
    rcases h1 with rfl | rfl
    · walk_at "sm"
      refine k_list rfl ?_
      walk_at "sm"
      refine put_loop (ks := as) (dss := dss) (d := d) (e := e) (ls_app ls_new) ls_new (by simp) l h3 (by omega) hs (by omega) (fun i a ds p S e1 e2 q0 q1 => ih i a ds e1 e2 (by omega) e other p m S hw q0 q1 (by omega)) fun ks' S' a7 a8 at' hl hwe hls k2 => ?_
      walk_at "sm"
      refine k_tuple hls ?_
      walk_at "sm"
      refine k_addT (by show 2 + 1 ≤ _; omega) ?_
      exact fin ks' S' hl hwe hls k2
    · walk_at "sm"
      refine k_list rfl ?_
      walk_at "sm"
      refine put_loop (ks := as) (dss := dss) (d := d) (e := e) (ls_app ls_new) ls_new (by simp) l h3 (by omega) hs (by omega) (fun i a ds p S e1 e2 q0 q1 => ih i a ds e1 e2 (by omega) e other p m S hw q0 q1 (by omega)) fun ks' S' a7 a8 at' hl hwe hls k2 => ?_
      walk_at "sm"
      refine k_tuple hls ?_
      walk_at "sm"
      refine k_addT (by show 2 + 1 ≤ _; omega) ?_
      exact fin ks' S' hl hwe hls k2
  | @iff d a b c da db dc t1 t2 t3 i1 i2 i3 =>
    intro hd e other place m S hw p0 p1 hm
    obtain ⟨m, rfl⟩ : ∃ k, m = k + 1 := ⟨m - 1, by omega⟩
    refine w_of (f := .l_put_at) ?_
    show Ok (b_l_put_at (callT m) [some (.tup [.str "if", a, b, c]), some (.int place), some other, none, none, none, none, none, none] S) _
    unfold b_l_put_at
    walk_at "sm"
    refine ⟨fun c => ?_, fun c => ?_⟩
    · walk_at "sm"
      exact ⟨hw.le (Nat.le_add_left _ _), Kp.refl⟩
    have c := of_decide_eq_false c
    walk_at "sm"
    refine k_get2 (k_disp ?_)
    walk_at "sm"
    refine ⟨by walk_at "smd", Nat.le_of_ble_eq_true rfl, ?_⟩
    rw [merge_strs ["let"] rfl (by decide +kernel)]
    generalize e5 : List.set _ S.length _ = S1
    have k1 : Kp [] S S1 := by rw [← e5]; exact Kp.refl.app.set (.inl (Nat.le_refl _))
    have hd1 : dcAt S1 S.length = some [(.inr "let", Dv.int 2)] := by rw [← e5]; exact dc_set (by simp)
    clear e5
    refine ⟨by unfold isTy; dsimp only; rw [dcAt_iff.mp hd1]; simp, ?_⟩
    walk_at "sm"
    refine ⟨_, _, _, rfl, rfl, hd1, ?_⟩
    rw [start_ne (by decide +kernel)]
    walk_at "sm"
    refine k_list rfl ?_
    rw [cut_tail]
    walk_at "sm"
    refine put_loop (ks := [a, b, _]) (dss := [da, db, dc]) (d := d) (e := e) (ls_app ls_new) ls_new (by simp) rfl (by show 3 ≤ 4; decide) (by omega) (fun i x ds e1 e2 => ?_) (by omega) (fun i x ds p S e1 e2 q0 q1 => ?_) fun ks' S' a7 a8 at' hl hwe hls k2 => ?_
    · match i, e1, e2 with
      | 0, e1, e2 => cases e1; cases e2; exact t1
      | 1, e1, e2 => cases e1; cases e2; exact t2
      | 2, e1, e2 => cases e1; cases e2; exact t3
      | i + 3, e1, e2 => simp at e1
    · match i, e1, e2 with
      | 0, e1, e2 => cases e1; cases e2; exact i1 (by omega) e other p m S hw q0 q1 (by omega)
      | 1, e1, e2 => cases e1; cases e2; exact i2 (by omega) e other p m S hw q0 q1 (by omega)
      | 2, e1, e2 => cases e1; cases e2; exact i3 (by omega) e other p m S hw q0 q1 (by omega)
      | i + 3, e1, e2 => simp at e1
    have k3 : Kp [] S1 S' := ⟨by have := k2.1; simp at this; omega, fun j o _ q => k2.2 j o (not1 (by have := (List.getElem?_eq_some_iff.mp q).1; simp; omega)) (Kp.refl (D := []).app.app.2 j o (by simp) q)⟩
    obtain ⟨x, y, z, rfl⟩ := len3 hl
    walk_at "sm"
    refine k_tuple hls ?_
    refine k_addT (by show 1 + 3 ≤ _; omega) ?_
    refine ⟨?_, k1.trans k3⟩
    rw [show d + 1 + e = d + e + 1 by omega]
    exact .iff (hwe x (by simp)) (hwe y (by simp)) (hwe z (by simp))
  | @lett d x a b da db h h0 t1 t2 i1 i2 =>
    intro hd e other place m S hw p0 p1 hm
    obtain ⟨m, rfl⟩ : ∃ k, m = k + 1 := ⟨m - 1, by omega⟩
    refine w_of (f := .l_put_at) ?_
    show Ok (b_l_put_at (callT m) [some (.tup [.str "let", .str x, a, b]), some (.int place), some other, none, none, none, none, none, none] S) _
    unfold b_l_put_at
    walk_at "sm"
    refine ⟨fun c => ?_, fun c => ?_⟩
    · walk_at "sm"
      exact ⟨hw.le (Nat.le_add_left _ _), Kp.refl⟩
    have c := of_decide_eq_false c
    walk_at "sm"
    refine k_get2 (k_disp ?_)
    walk_at "sm"
    refine ⟨by walk_at "smd", Nat.le_of_ble_eq_true rfl, ?_⟩
    rw [merge_strs ["let"] rfl (by decide +kernel)]
    generalize e5 : List.set _ S.length _ = S1
    have k1 : Kp [] S S1 := by rw [← e5]; exact Kp.refl.app.set (.inl (Nat.le_refl _))
    have hd1 : dcAt S1 S.length = some [(.inr "let", Dv.int 2)] := by rw [← e5]; exact dc_set (by simp)
    clear e5
    refine ⟨by unfold isTy; dsimp only; rw [dcAt_iff.mp hd1]; simp, ?_⟩
    walk_at "sm"
    refine ⟨_, _, _, rfl, rfl, hd1, ?_⟩
    rw [start_let]
    walk_at "sm"
    refine k_list rfl ?_
    rw [cut_two]
    walk_at "sm"
    refine put_loop (ks := [a, b]) (dss := [da, db]) (d := d) (e := e) (ls_app ls_new) ls_new (by simp) rfl (by show 2 ≤ 4; decide) (by omega) (fun i x ds e1 e2 => ?_) (by omega) (fun i x ds p S e1 e2 q0 q1 => ?_) fun ks' S' a7 a8 at' hl hwe hls k2 => ?_
    · match i, e1, e2 with
      | 0, e1, e2 => cases e1; cases e2; exact t1
      | 1, e1, e2 => cases e1; cases e2; exact t2
      | i + 2, e1, e2 => simp at e1
    · match i, e1, e2 with
      | 0, e1, e2 => cases e1; cases e2; exact i1 (by omega) e other p m S hw q0 q1 (by omega)
      | 1, e1, e2 => cases e1; cases e2; exact i2 (by omega) e other p m S hw q0 q1 (by omega)
      | i + 2, e1, e2 => simp at e1
    have k3 : Kp [] S1 S' := ⟨by have := k2.1; simp at this; omega, fun j o _ q => k2.2 j o (not1 (by have := (List.getElem?_eq_some_iff.mp q).1; simp; omega)) (Kp.refl (D := []).app.app.2 j o (by simp) q)⟩
    obtain ⟨y, z, rfl⟩ : ∃ y z, ks' = [y, z] := by
      match ks', hl with
      | [y, z], _ => exact ⟨y, z, rfl⟩
    walk_at "sm"
    refine k_tuple hls ?_
    refine k_addT (by show 2 + 2 ≤ _; omega) ?_
    refine ⟨?_, k1.trans k3⟩
    rw [show d + 1 + e = d + e + 1 by omega]
    exact .lett h h0 (hwe y (by simp)) (hwe z (by simp))
end K61

namespace K61
open PySem L2 Sm
local macro_rules | `(tactic| walk_at "sm") => `(tactic| repeat (first | with_reducible refine k_it ?_ | with_reducible refine k_rng1 ?_ | with_reducible refine k_enS ?_ | with_reducible refine k_enL ?_ | with_reducible refine k_zipT ?_ | with_reducible refine k_pn ?_ | with_reducible refine k_pc ?_ | with_reducible refine k_c ?_ | with_reducible refine k_bin ?_ | with_reducible refine k_nil ?_ | with_reducible refine k_cons ?_ | with_reducible refine k_tup ?_ | with_reducible refine k_lst ?_ | with_reducible refine k_tst ?_ | with_reducible refine k_and ?_ | with_reducible refine k_or ?_ | with_reducible refine k_not ?_ | with_reducible refine k_ifE ?_ | with_reducible refine k_sub ?_ | with_reducible refine k_ltX ?_ | with_reducible refine k_ltSX ?_ | with_reducible refine k_lt ?_ | with_reducible refine k_le ?_ | with_reducible refine k_gt ?_ | with_reducible refine k_ge ?_ | with_reducible refine k_neg ?_ | with_reducible refine k_two ?_ | with_reducible refine k_addI ?_ | with_reducible refine k_eqS ?_ | with_reducible refine k_neS ?_ | with_reducible refine k_eqI ?_ | with_reducible refine k_neI ?_ | with_reducible refine k_slT ?_ | with_reducible refine k_sl ?_ | with_reducible refine k_no ?_ | with_reducible refine k_pt ?_ | with_reducible refine k_app ?_ | with_reducible refine k_intI ?_ | with_reducible refine k_intB ?_ | with_reducible refine k_mtS ?_ | with_reducible refine k_mtL ?_ | with_reducible refine k_mtD ?_ | with_reducible refine k_andV ?_ | with_reducible refine k_orV ?_ | with_reducible refine k_notV ?_ | with_reducible refine k_call ?_ | with_reducible refine k_dnew ?_ | with_reducible refine k_fmt ?_ | with_reducible refine k_js0 ?_ | with_reducible refine k_js ?_ | with_reducible refine k_gN ?_ | with_reducible refine k_gC ?_ | with_reducible refine k_g0 ?_ | with_reducible refine k_gStar ?_ | with_reducible refine k_gS ?_ | with_reducible refine k_kget ?_ | with_reducible refine k_un ?_ | with_reducible refine k_revT ?_ | with_reducible refine k_inSX ?_ | with_reducible refine s_set ?_ | with_reducible refine s_drop ?_ | with_reducible refine s_asg ?_ | with_reducible refine s_if ?_ | with_reducible refine s_nx ?_ | with_reducible refine s_ret ?_ | with_reducible refine s_seq ?_ | with_reducible refine l_ret ?_ | with_reducible refine l_set ?_ | with_reducible refine l_drop ?_ | with_reducible refine l_asg ?_ | with_reducible refine l_nx ?_ | with_reducible refine l_if ?_ | ((with_reducible apply k_var); rfl) | ((with_reducible apply k_ixT); rfl) | ((with_reducible apply k_inT); rfl; rfl) | ((with_reducible apply k_in); rfl; rfl; rfl) | ((with_reducible refine k_gT ?_ ?_); rfl) | ((with_reducible apply k_isi); rfl; rfl) | ((with_reducible apply k_isiT); rfl; rfl) | ((with_reducible apply k_lenL); (focus ((repeat (first | exact ls_new | assumption | refine ls_app ?_)); done)); (focus (first | (simp only [List.length_cons, List.length_nil, List.length_map]; rfl) | rfl))) | ((with_reducible apply k_lenT); (focus (first | (simp only [List.length_cons, List.length_nil, List.length_map]; rfl) | rfl))) | ((with_reducible apply k_lenS); (focus assumption)) | ((with_reducible apply k_ixL); (focus ((repeat (first | exact ls_new | assumption | refine ls_app ?_)); done)); rfl) | with_reducible refine And.intro (fun _ => ?_) (fun h => absurd h (by decide +kernel)) | with_reducible refine And.intro (fun h => absurd h (by decide +kernel)) (fun _ => ?_) | ((with_reducible refine And.intro ?_ ?_); rfl) | ((with_reducible apply Exists.intro); (with_reducible apply And.intro); rfl)))
local macro_rules | `(tactic| walk_at "smb") => `(tactic| repeat' (first | with_reducible refine k_it ?_ | with_reducible refine k_rng1 ?_ | with_reducible refine k_enS ?_ | with_reducible refine k_enL ?_ | with_reducible refine k_zipT ?_ | with_reducible refine k_pn ?_ | with_reducible refine k_pc ?_ | with_reducible refine k_c ?_ | with_reducible refine k_bin ?_ | with_reducible refine k_nil ?_ | with_reducible refine k_cons ?_ | with_reducible refine k_tup ?_ | with_reducible refine k_lst ?_ | with_reducible refine k_tst ?_ | with_reducible refine k_and ?_ | with_reducible refine k_or ?_ | with_reducible refine k_not ?_ | with_reducible refine k_ifE ?_ | with_reducible refine k_sub ?_ | with_reducible refine k_ltX ?_ | with_reducible refine k_ltSX ?_ | with_reducible refine k_lt ?_ | with_reducible refine k_le ?_ | with_reducible refine k_gt ?_ | with_reducible refine k_ge ?_ | with_reducible refine k_neg ?_ | with_reducible refine k_two ?_ | with_reducible refine k_addI ?_ | with_reducible refine k_eqS ?_ | with_reducible refine k_neS ?_ | with_reducible refine k_eqI ?_ | with_reducible refine k_neI ?_ | with_reducible refine k_slT ?_ | with_reducible refine k_sl ?_ | with_reducible refine k_no ?_ | with_reducible refine k_pt ?_ | with_reducible refine k_app ?_ | with_reducible refine k_intI ?_ | with_reducible refine k_intB ?_ | with_reducible refine k_mtS ?_ | with_reducible refine k_mtL ?_ | with_reducible refine k_mtD ?_ | with_reducible refine k_andV ?_ | with_reducible refine k_orV ?_ | with_reducible refine k_notV ?_ | with_reducible refine k_call ?_ | with_reducible refine k_dnew ?_ | with_reducible refine k_fmt ?_ | with_reducible refine k_js0 ?_ | with_reducible refine k_js ?_ | with_reducible refine k_gN ?_ | with_reducible refine k_gC ?_ | with_reducible refine k_g0 ?_ | with_reducible refine k_gStar ?_ | with_reducible refine k_gS ?_ | with_reducible refine k_kget ?_ | with_reducible refine k_un ?_ | with_reducible refine k_revT ?_ | with_reducible refine k_inSX ?_ | with_reducible refine s_set ?_ | with_reducible refine s_drop ?_ | with_reducible refine s_asg ?_ | with_reducible refine s_if ?_ | with_reducible refine s_nx ?_ | with_reducible refine s_ret ?_ | with_reducible refine s_seq ?_ | with_reducible refine l_ret ?_ | with_reducible refine l_set ?_ | with_reducible refine l_drop ?_ | with_reducible refine l_asg ?_ | with_reducible refine l_nx ?_ | with_reducible refine l_if ?_ | ((with_reducible apply k_var); rfl) | ((with_reducible apply k_ixT); rfl) | ((with_reducible apply k_inT); rfl; rfl) | ((with_reducible apply k_in); rfl; rfl; rfl) | ((with_reducible refine k_gT ?_ ?_); rfl) | ((with_reducible apply k_isi); rfl; rfl) | ((with_reducible apply k_isiT); rfl; rfl) | ((with_reducible apply k_lenL); (focus ((repeat' (first | exact ls_new | assumption | refine ls_app ?_)); done)); (focus (first | (simp only [List.length_cons, List.length_nil, List.length_map]; rfl) | rfl))) | ((with_reducible apply k_lenT); (focus (first | (simp only [List.length_cons, List.length_nil, List.length_map]; rfl) | rfl))) | ((with_reducible apply k_lenS); (focus assumption)) | ((with_reducible apply k_ixL); (focus ((repeat' (first | exact ls_new | assumption | refine ls_app ?_)); done)); rfl) | with_reducible refine And.intro (fun _ => ?_) (fun h => absurd h (by decide +kernel)) | with_reducible refine And.intro (fun h => absurd h (by decide +kernel)) (fun _ => ?_) | ((with_reducible refine And.intro ?_ ?_); rfl) | ((with_reducible apply Exists.intro); (with_reducible apply And.intro); rfl) | with_reducible refine And.intro (fun _ => ?_) (fun _ => ?_)))
local macro_rules | `(tactic| walk_at "smv") => `(tactic| repeat (first | exact val_hitS (by decide +kernel) | refine (val_missS (by decide +kernel)).trans ?_))
local macro_rules | `(tactic| walk_at "smd") => `(tactic| repeat (first | exact dc_new | exact ls_new | refine dc_app ?_ | refine ls_app ?_))
/-! ### bends -/
theorem k_neNilP {l m : Nat} {ds : List Dv} {B : Nat} {S : Store} {Q : Dv → Store → Prop} (h : lsAt S l = some ds) (hp : Pys ds B) (hB : B ≤ 60) (h2 : lsAt S m = some []) (q : Q (.bl (!decide (ds = []))) S) : Ok (dNe (.ref l) (.ref m) S) Q := by
  obtain ⟨ps, e, c, dp, ln⟩ := hp
  have e1 : toPy S (.ref l) = some (.list ps) := by
    unfold toPy toPyW rdr
    rw [h]
    show (toPysW (rdr S 2) ds).map PyData.list = _
    rw [e]; rfl
  have e2 : toPy S (.ref m) = some (.list []) := by
    unfold toPy toPyW rdr
    rw [h2]
    show (toPysW (rdr S 2) []).map PyData.list = _
    unfold toPysW; rfl
  refine k_ne rfl e1 e2 ?_ ?_ ?_
  · refine py_ok (B := B + 1) ?_ ?_ (by omega)
    · unfold PyData.canLay0; exact c
    · unfold PyData.depth; omega
  · unfold eqOk SeqAt.shaped PyData.canLay0 PyData.depth PyData.canLayAll0 PyData.depthAll
    rfl
  · have e3 : PyData.eqv (.list ps) (.list []) = decide (ds = []) := by
      unfold PyData.eqv
      cases ds with
      | nil =>
        have : ps = [] := List.eq_nil_of_length_eq_zero ln
        subst this
        unfold PyData.eqvAll; rfl
      | cons d ds =>
        cases ps with
        | nil => simp at ln
        | cons p ps => unfold PyData.eqvAll; simp
    rw [e3]; exact q
/-- a place of a body, and what may stand there -/
def PlOk (b : Dv) (p k : Nat) : Prop := ∃ ds x os o, WT 5 b ds ∧ ds[p]? = some x ∧ (∀ m S, 1 ≤ m → Ok (callT m .l_others_of [x] S) (Ls S os)) ∧ os[k]? = some o ∧ WE 5 o
def BendD (A : List Dv) (y : Dv) : Prop := ∃ (nm : Str) (p k : Nat), y = .tup [.str nm, .int (p : Nat), .int (k : Nat)] ∧ PyData.strOk nm = true ∧ ∀ ns b, .tup [.str nm, ns, b] ∈ A → PlOk b p k
theorem BendD.py {A : List Dv} {y : Dv} (h : BendD A y) : Py y 1 := by
  obtain ⟨nm, p, k, rfl, hs, _⟩ := h
  exact Py.tup (B := 0) (.cons (.str hs) (.cons .int (.cons .int .nil)))
theorem bs5 : bs 5 = 1365 := rfl
theorem bends_ok {A : List Dv} (hA : ∀ f ∈ A, FnD 5 f) (hn : (A.map fstS).Nodup) (hl : A.length ≤ 6) {m : Nat} {S : Store} (hm : 10 ≤ m) : Ok (callT m .l_bends [.tup A] S) fun r S' => ∃ l L, r = .ref l ∧ lsAt S' l = some L ∧ (∀ y ∈ L, BendD A y) ∧ L.length ≤ 30000 ∧ Kp [] S S' := by
  obtain ⟨m, rfl⟩ : ∃ k, m = k + 1 := ⟨m - 1, by omega⟩
  refine w_of (f := .l_bends) ?_
  show Ok (b_l_bends (callT m) [some (.tup A), none, none, none, none, none, none, none] S) _
  unfold b_l_bends
  walk_at "sm"
  refine s_for ?_
  walk_at "sm"
  refine ⟨fun i δ S' => ∃ a2 a3 a4 a5 a6 a7 f L, δ = [some (.tup A), some (.ref f), a2, a3, a4, a5, a6, a7] ∧ Kp [] S S' ∧ lsAt S' f = some L ∧ (∀ y ∈ L, BendD A y) ∧ L.length ≤ i * 4095 ∧ i ≤ A.length,
    ⟨_, _, _, _, _, _, _, [], rfl, Kp.refl.app, ls_new, (fun y h => by cases h), Nat.zero_le _, Nat.zero_le _⟩, ?_⟩
  rintro i δ S1 ⟨a2, a3, a4, a5, a6, a7, f, L, rfl, k1, hf, hL, ll, hi⟩
  by_cases hlt : i < A.length
  · right
    refine ⟨hlt, A[i], by show some A[i]? = _; rw [List.getElem?_eq_getElem hlt], ?_⟩
    have hfi := hA _ (List.getElem_mem hlt)
    have hmem : A[i] ∈ A := List.getElem_mem hlt
    generalize A[i] = fi at hfi hmem
    obtain ⟨nm, ns, b, rfl, hnm, _, _, wb⟩ := hfi
    obtain ⟨ds, wt⟩ := wb.wt
    have dl := wt.len
    rw [bs5] at dl
    have uniq : ∀ ns' b', .tup [.str nm, ns', b'] ∈ A → b' = b := fun ns' b' hm' => by
      have := nodup_inj (f := fstS) hn _ hm' _ hmem rfl
      cases this; rfl
    walk_at "sm"
    refine l_for ?_
    walk_at "sm"
    refine (ts_ok wt (by omega) m S1 (by omega)).imp fun r S2 ⟨r2, e2, h2, hL2, k2⟩ => ?_
    subst e2
    refine ⟨_, _, rfl, hL2, ?_⟩
    refine ⟨fun j δ S' => ∃ a5 a6 a7 f L, δ = [some (.tup A), some (.ref f), some (.str nm), some (.tup (ns.map Dv.str)), some b, a5, a6, a7] ∧ Kp [] S2 S' ∧ lsAt S' f = some L ∧ (∀ y ∈ L, BendD A y) ∧ L.length ≤ i * 4095 + j * 3 ∧ j ≤ ds.length,
      ⟨_, _, _, _, L, rfl, Kp.refl, k2.ls (by simp) hf, hL, by omega, Nat.zero_le _⟩, ?_⟩
    rintro j δ S3 ⟨a5, a6, a7, f, L', rfl, k3, hf3, hL', ll', hj⟩
    have hds3 := k3.ls (by simp) hL2
    by_cases hjl : j < ds.length
    · right
      refine ⟨hjl, .tup [.int (j : Nat), ds[j]], by dsimp only; rw [hds3]; show some (ds[j]?.map _) = _; rw [List.getElem?_eq_getElem hjl]; rfl, ?_⟩
      have hdj : ds[j]? = some ds[j] := List.getElem?_eq_getElem hjl
      have wx := wt.mem _ (List.getElem_mem hjl)
      obtain ⟨os, o1, o2, o3⟩ := others_ok wx (by omega)
      walk_at "sm"
      refine k_lcM ?_
      walk_at "sm"
      refine (o3 m S3 (by omega)).imp fun r S4 ⟨r4, e4, h4, hL4, k4⟩ => ?_
      subst e4
      refine k_lenL hL4 rfl ?_
      refine ⟨_, rfl, ⟨by omega, by omega⟩, rng os.length, [], fun _ _ => True, fun q y => ∃ o, os[q]? = some o ∧ y = .tup [.str nm, .int (j : Nat), .int (q : Nat)], by rw [rng_len]; exact Nat.le_refl _, by rw [rng_len]; omega, by simp, fun q S _ => rng_at _ _, trivial, fun _ _ _ _ => trivial, fun q d S5 hd k5 _ => ?_, fun ys S5 hyl hy hL5 k5 _ => ?_⟩
      · obtain ⟨rfl, hq⟩ := rng_val hd
        walk_at "sm"
        exact ⟨⟨os[q], List.getElem?_eq_getElem hq, rfl⟩, Kp.refl, trivial⟩
      · rw [rng_len] at hyl
        have hf5 := k5.ls (by simp) (k4.ls (by simp) hf3)
        refine k_addL (x := .ref f) hf5 (y := .ref _) hL5 (by omega) ?_
        walk_at "sm"
        refine ⟨_, _, _, _, L' ++ ys, rfl, (k3.trans (k4.trans k5)).app, ls_new, fun y hm' => ?_, by rw [List.length_append]; omega, hjl⟩
        rcases List.mem_append.mp hm' with hm' | hm'
        · exact hL' y hm'
        · obtain ⟨q, hq⟩ := List.mem_iff_getElem?.mp hm'
          obtain ⟨o, ho, rfl⟩ := hy q y hq
          refine ⟨nm, j, q, rfl, hnm.2, fun ns' b' hmm => ?_⟩
          rw [uniq ns' b' hmm]
          exact ⟨ds, _, os, o, wt, hdj, o3, ho, o2 o (List.mem_of_getElem? ho)⟩
    · left
      refine ⟨by dsimp only; rw [hds3]; show some (ds[j]?.map _) = _; rw [List.getElem?_eq_none (by omega)]; rfl, ?_⟩
      exact ⟨_, _, _, _, _, _, f, L', rfl, (k1.trans k2).trans k3, hf3, hL', by omega, hlt⟩
  · left
    refine ⟨by show some A[i]? = _; rw [List.getElem?_eq_none (by omega)], ?_⟩
    walk_at "sm"
    exact ⟨f, L, rfl, hf, hL, by omega, k1⟩
theorem bent_ok {A : List Dv} (hA : ∀ f ∈ A, FnD 5 f) (hl : A.length ≤ 6) {y : Dv} (hy : BendD A y) {m : Nat} {S : Store} (hm : 12 ≤ m) : Ok (callT m .l_bent [.tup A, y] S) fun r S' => ∃ ds, r = .tup ds ∧ ds.map fstS = A.map fstS ∧ (∀ d ∈ ds, FnD 10 d) ∧ Kp [] S S' := by
  obtain ⟨m, rfl⟩ : ∃ k, m = k + 1 := ⟨m - 1, by omega⟩
  obtain ⟨nm, p, k, rfl, hs, hP⟩ := hy
  refine w_of (f := .l_bent) ?_
  show Ok (b_l_bent (callT m) [some (.tup A), some (.tup [.str nm, .int (p : Nat), .int (k : Nat)]), none, none, none, none, none] S) _
  unfold b_l_bent
  walk_at "sm"
  refine s_for ?_
  walk_at "sm"
  refine ⟨fun i δ S' => ∃ a3 a4 a5 a6 acc, δ = [some (.tup A), some (.tup [.str nm, .int (p : Nat), .int (k : Nat)]), some (.ref S.length), a3, a4, a5, a6] ∧ Kp [] S S' ∧ lsAt S' S.length = some acc ∧ acc.map fstS = (A.take i).map fstS ∧ (∀ d ∈ acc, FnD 10 d) ∧ i ≤ A.length,
    ⟨_, _, _, _, [], rfl, Kp.refl.app, ls_new, rfl, (fun y h => by cases h), Nat.zero_le _⟩, ?_⟩
  rintro i δ S1 ⟨a3, a4, a5, a6, acc, rfl, k1, hacc, hm1, hF, hi⟩
  have la : acc.length = i := by
    have := congrArg List.length hm1
    rw [List.length_map, List.length_map, List.length_take] at this
    omega
  by_cases hlt : i < A.length
  · right
    have hat : A[i]? = some A[i] := List.getElem?_eq_getElem hlt
    refine ⟨hlt, A[i], by show some A[i]? = _; rw [hat], ?_⟩
    have hfi := hA _ (List.getElem_mem hlt)
    have hmem : A[i] ∈ A := List.getElem_mem hlt
    have htk : (A.take (i + 1)).map fstS = acc.map fstS ++ [fstS A[i]] := by rw [List.take_add_one, hat, hm1, List.map_append]; rfl
    generalize A[i] = fi at hfi hmem htk
    obtain ⟨nm', ns, b, rfl, hnm, hn1, hn2, wb⟩ := hfi
    walk_at "sm"
    refine ⟨fun c => ?_, fun c => ?_⟩
    · have c := of_decide_eq_true c
      subst c
      obtain ⟨ds, x, os, o, wt, hx, hos, ho, wo⟩ := hP _ _ hmem
      have dl := (List.getElem?_eq_some_iff.mp hx).1
      walk_at "sm"
      refine (ts_ok wt (by omega) m S1 (by omega)).imp fun r S2 ⟨r2, e2, h2, hL2, k2⟩ => ?_
      subst e2
      walk_at "sm"
      refine k_ixL hL2 (atI_nat hx) ?_
      walk_at "sm"
      refine (hos m S2 (by omega)).imp fun r S3 ⟨r3, e3, h3, hL3, k3⟩ => ?_
      subst e3
      walk_at "sm"
      refine k_ixL hL3 (atI_nat ho) ?_
      walk_at "sm"
      refine (put_ok wt (by omega) 5 o (p : Nat) m S3 wo (by omega) (by omega) (by omega)).imp fun r S4 ⟨w4, k4⟩ => ?_
      walk_at "sm"
      have hacc2 := ((k2.trans k3).trans k4).ls (by simp) hacc
      refine ⟨_, _, rfl, hacc2, ?_⟩
      walk_at "sm"
      refine k_append hacc2 (by omega) ?_
      refine ⟨_, _, _, _, acc ++ [.tup [.str nm', .tup (ns.map Dv.str), r]], rfl, (k1.trans ((k2.trans k3).trans k4)).set (.inl (Nat.le_refl _)), ls_set (ls_lt hacc2), by rw [List.map_append, htk]; rfl, fun d hd => ?_, hlt⟩
      rcases List.mem_append.mp hd with hd | hd
      · exact hF d hd
      · rw [List.mem_singleton.mp hd]
        exact ⟨nm', ns, r, rfl, hnm, hn1, hn2, w4⟩
    · walk_at "sm"
      have hacc2 := (Kp.refl (S := S1) (D := [])).ls (by simp) hacc
      refine ⟨_, _, rfl, hacc2, ?_⟩
      walk_at "sm"
      refine k_append hacc2 (by omega) ?_
      refine ⟨_, _, _, _, acc ++ [.tup [.str nm', .tup (ns.map Dv.str), b]], rfl, (k1.trans (Kp.refl (S := S1) (D := []))).set (.inl (Nat.le_refl _)), ls_set (ls_lt hacc2), by rw [List.map_append, htk]; rfl, fun d hd => ?_, hlt⟩
      rcases List.mem_append.mp hd with hd | hd
      · exact hF d hd
      · rw [List.mem_singleton.mp hd]
        exact ⟨nm', ns, b, rfl, hnm, hn1, hn2, wb.le (by omega)⟩
  · left
    have hiA : i = A.length := by omega
    subst hiA
    refine ⟨by show some A[A.length]? = _; rw [List.getElem?_eq_none (Nat.le_refl _)], ?_⟩
    rw [List.take_length] at hm1
    walk_at "sm"
    refine k_tuple hacc ?_
    exact ⟨acc, rfl, hm1, hF, k1⟩
end K61

namespace K61
open PySem L2 Sm
local macro_rules | `(tactic| walk_at "sm") => `(tactic| repeat (first | with_reducible refine k_it ?_ | with_reducible refine k_rng1 ?_ | with_reducible refine k_enS ?_ | with_reducible refine k_enL ?_ | with_reducible refine k_zipT ?_ | with_reducible refine k_pn ?_ | with_reducible refine k_pc ?_ | with_reducible refine k_c ?_ | with_reducible refine k_bin ?_ | with_reducible refine k_nil ?_ | with_reducible refine k_cons ?_ | with_reducible refine k_tup ?_ | with_reducible refine k_lst ?_ | with_reducible refine k_tst ?_ | with_reducible refine k_and ?_ | with_reducible refine k_or ?_ | with_reducible refine k_not ?_ | with_reducible refine k_ifE ?_ | with_reducible refine k_sub ?_ | with_reducible refine k_ltX ?_ | with_reducible refine k_ltSX ?_ | with_reducible refine k_lt ?_ | with_reducible refine k_le ?_ | with_reducible refine k_gt ?_ | with_reducible refine k_ge ?_ | with_reducible refine k_neg ?_ | with_reducible refine k_two ?_ | with_reducible refine k_addI ?_ | with_reducible refine k_eqS ?_ | with_reducible refine k_neS ?_ | with_reducible refine k_eqI ?_ | with_reducible refine k_neI ?_ | with_reducible refine k_slT ?_ | with_reducible refine k_sl ?_ | with_reducible refine k_no ?_ | with_reducible refine k_pt ?_ | with_reducible refine k_app ?_ | with_reducible refine k_intI ?_ | with_reducible refine k_intB ?_ | with_reducible refine k_mtS ?_ | with_reducible refine k_mtL ?_ | with_reducible refine k_mtD ?_ | with_reducible refine k_andV ?_ | with_reducible refine k_orV ?_ | with_reducible refine k_notV ?_ | with_reducible refine k_call ?_ | with_reducible refine k_dnew ?_ | with_reducible refine k_fmt ?_ | with_reducible refine k_js0 ?_ | with_reducible refine k_js ?_ | with_reducible refine k_gN ?_ | with_reducible refine k_gC ?_ | with_reducible refine k_g0 ?_ | with_reducible refine k_gStar ?_ | with_reducible refine k_gS ?_ | with_reducible refine k_kget ?_ | with_reducible refine k_un ?_ | with_reducible refine k_revT ?_ | with_reducible refine k_inSX ?_ | with_reducible refine s_set ?_ | with_reducible refine s_drop ?_ | with_reducible refine s_asg ?_ | with_reducible refine s_if ?_ | with_reducible refine s_nx ?_ | with_reducible refine s_ret ?_ | with_reducible refine s_seq ?_ | with_reducible refine l_ret ?_ | with_reducible refine l_set ?_ | with_reducible refine l_drop ?_ | with_reducible refine l_asg ?_ | with_reducible refine l_nx ?_ | with_reducible refine l_if ?_ | ((with_reducible apply k_var); rfl) | ((with_reducible apply k_ixT); rfl) | ((with_reducible apply k_inT); rfl; rfl) | ((with_reducible apply k_in); rfl; rfl; rfl) | ((with_reducible refine k_gT ?_ ?_); rfl) | ((with_reducible apply k_isi); rfl; rfl) | ((with_reducible apply k_isiT); rfl; rfl) | ((with_reducible apply k_lenL); (focus ((repeat (first | exact ls_new | assumption | refine ls_app ?_)); done)); (focus (first | (simp only [List.length_cons, List.length_nil, List.length_map]; rfl) | rfl))) | ((with_reducible apply k_lenT); (focus (first | (simp only [List.length_cons, List.length_nil, List.length_map]; rfl) | rfl))) | ((with_reducible apply k_lenS); (focus assumption)) | ((with_reducible apply k_ixL); (focus ((repeat (first | exact ls_new | assumption | refine ls_app ?_)); done)); rfl) | with_reducible refine And.intro (fun _ => ?_) (fun h => absurd h (by decide +kernel)) | with_reducible refine And.intro (fun h => absurd h (by decide +kernel)) (fun _ => ?_) | ((with_reducible refine And.intro ?_ ?_); rfl) | ((with_reducible apply Exists.intro); (with_reducible apply And.intro); rfl)))
local macro_rules | `(tactic| walk_at "smb") => `(tactic| repeat' (first | with_reducible refine k_it ?_ | with_reducible refine k_rng1 ?_ | with_reducible refine k_enS ?_ | with_reducible refine k_enL ?_ | with_reducible refine k_zipT ?_ | with_reducible refine k_pn ?_ | with_reducible refine k_pc ?_ | with_reducible refine k_c ?_ | with_reducible refine k_bin ?_ | with_reducible refine k_nil ?_ | with_reducible refine k_cons ?_ | with_reducible refine k_tup ?_ | with_reducible refine k_lst ?_ | with_reducible refine k_tst ?_ | with_reducible refine k_and ?_ | with_reducible refine k_or ?_ | with_reducible refine k_not ?_ | with_reducible refine k_ifE ?_ | with_reducible refine k_sub ?_ | with_reducible refine k_ltX ?_ | with_reducible refine k_ltSX ?_ | with_reducible refine k_lt ?_ | with_reducible refine k_le ?_ | with_reducible refine k_gt ?_ | with_reducible refine k_ge ?_ | with_reducible refine k_neg ?_ | with_reducible refine k_two ?_ | with_reducible refine k_addI ?_ | with_reducible refine k_eqS ?_ | with_reducible refine k_neS ?_ | with_reducible refine k_eqI ?_ | with_reducible refine k_neI ?_ | with_reducible refine k_slT ?_ | with_reducible refine k_sl ?_ | with_reducible refine k_no ?_ | with_reducible refine k_pt ?_ | with_reducible refine k_app ?_ | with_reducible refine k_intI ?_ | with_reducible refine k_intB ?_ | with_reducible refine k_mtS ?_ | with_reducible refine k_mtL ?_ | with_reducible refine k_mtD ?_ | with_reducible refine k_andV ?_ | with_reducible refine k_orV ?_ | with_reducible refine k_notV ?_ | with_reducible refine k_call ?_ | with_reducible refine k_dnew ?_ | with_reducible refine k_fmt ?_ | with_reducible refine k_js0 ?_ | with_reducible refine k_js ?_ | with_reducible refine k_gN ?_ | with_reducible refine k_gC ?_ | with_reducible refine k_g0 ?_ | with_reducible refine k_gStar ?_ | with_reducible refine k_gS ?_ | with_reducible refine k_kget ?_ | with_reducible refine k_un ?_ | with_reducible refine k_revT ?_ | with_reducible refine k_inSX ?_ | with_reducible refine s_set ?_ | with_reducible refine s_drop ?_ | with_reducible refine s_asg ?_ | with_reducible refine s_if ?_ | with_reducible refine s_nx ?_ | with_reducible refine s_ret ?_ | with_reducible refine s_seq ?_ | with_reducible refine l_ret ?_ | with_reducible refine l_set ?_ | with_reducible refine l_drop ?_ | with_reducible refine l_asg ?_ | with_reducible refine l_nx ?_ | with_reducible refine l_if ?_ | ((with_reducible apply k_var); rfl) | ((with_reducible apply k_ixT); rfl) | ((with_reducible apply k_inT); rfl; rfl) | ((with_reducible apply k_in); rfl; rfl; rfl) | ((with_reducible refine k_gT ?_ ?_); rfl) | ((with_reducible apply k_isi); rfl; rfl) | ((with_reducible apply k_isiT); rfl; rfl) | ((with_reducible apply k_lenL); (focus ((repeat' (first | exact ls_new | assumption | refine ls_app ?_)); done)); (focus (first | (simp only [List.length_cons, List.length_nil, List.length_map]; rfl) | rfl))) | ((with_reducible apply k_lenT); (focus (first | (simp only [List.length_cons, List.length_nil, List.length_map]; rfl) | rfl))) | ((with_reducible apply k_lenS); (focus assumption)) | ((with_reducible apply k_ixL); (focus ((repeat' (first | exact ls_new | assumption | refine ls_app ?_)); done)); rfl) | with_reducible refine And.intro (fun _ => ?_) (fun h => absurd h (by decide +kernel)) | with_reducible refine And.intro (fun h => absurd h (by decide +kernel)) (fun _ => ?_) | ((with_reducible refine And.intro ?_ ?_); rfl) | ((with_reducible apply Exists.intro); (with_reducible apply And.intro); rfl) | with_reducible refine And.intro (fun _ => ?_) (fun _ => ?_)))
local macro_rules | `(tactic| walk_at "smv") => `(tactic| repeat (first | exact val_hitS (by decide +kernel) | refine (val_missS (by decide +kernel)).trans ?_))
local macro_rules | `(tactic| walk_at "smd") => `(tactic| repeat (first | exact dc_new | exact ls_new | refine dc_app ?_ | refine ls_app ?_))
/-! ### another program -/
theorem cut_take {α : Type} (xs : List α) (k : Nat) : cutG xs none (some (k : Int)) = xs.take k := by
  unfold cutG
  rw [show HT.sIx xs.length xs.length (some (k : Int)) = min k xs.length from HT.sIx_nat xs.length xs.length k, HT.sIx_none, List.drop_zero, Nat.sub_zero]
  rcases Nat.le_total k xs.length with h | h
  · rw [Nat.min_eq_left h]
  · rw [Nat.min_eq_right h, List.take_length, List.take_of_length_le h]
theorem cut_drop {α : Type} (xs : List α) (k : Nat) : cutG xs (some (k : Int)) none = xs.drop k := by
  unfold cutG
  rw [show HT.sIx xs.length 0 (some (k : Int)) = min k xs.length from HT.sIx_nat xs.length 0 k, HT.sIx_none]
  rcases Nat.le_total k xs.length with h | h
  · rw [Nat.min_eq_left h, List.take_of_length_le (by rw [List.length_drop]; exact Nat.le_refl _)]
  · rw [Nat.min_eq_right h, List.drop_of_length_le h, List.drop_length]
    exact List.take_nil
theorem FnD.le {e e' : Nat} {d : Dv} (h : FnD e d) (k : e ≤ e') : FnD e' d := let ⟨a, b, c, h1, h2, h3, h4, h5⟩ := h; ⟨a, b, c, h1, h2, h3, h4, h5.le k⟩
/-- a program: unlike names, not many -/
def PrD (ds : List Dv) : Prop := ds.length ≤ 6 ∧ (ds.map fstS).Nodup ∧ ∀ d ∈ ds, FnD 10 d
theorem fnN_nodup : fnN.Nodup := by decide +kernel
theorem PrD.of {A : List Dv} (h : A.map fstS = fnN) (hA : ∀ f ∈ A, FnD 5 f) : PrD A := by
  refine ⟨?_, by rw [h]; exact fnN_nodup, fun d hd => (hA d hd).le (by omega)⟩
  have := congrArg List.length h
  rw [List.length_map] at this
  have e5 : fnN.length = 5 := rfl
  omega
theorem FnD.fst {e : Nat} {d : Dv} (h : FnD e d) : isFst d = true := by
  obtain ⟨nm, ns, b, rfl, _⟩ := h
  rfl
theorem aa_fn : FnD 5 (.tup [.str "aa", .tup [], .tup [.str "number", .int 1]]) := ⟨"aa", [], _, rfl, ⟨by decide, by decide +kernel⟩, by decide, (fun _ h => by cases h), .num (by unfold smallI; decide)⟩
theorem other_ok {m l : Nat} {B : Int} {A : List Dv} {S : Store} (hm : 14 ≤ m) (h : Dk l B S) (hB : B ≤ 1000000) (hA : ∀ f ∈ A, FnD 5 f) (hn : A.map fstS = fnN) :
    Ok (callT m .l_other_code [.ref l, .tup A] S) (Dr l (B + 300000) S fun v _ => ∃ ds, v = .tup ds ∧ PrD ds) := by
  obtain ⟨m, rfl⟩ : ∃ k, m = k + 1 := ⟨m - 1, by omega⟩
  have la : A.length = 5 := by
    have := congrArg List.length hn
    rw [List.length_map] at this
    exact this
  have nd : (A.map fstS).Nodup := by rw [hn]; exact fnN_nodup
  refine w_of (f := .l_other_code) ?_
  show Ok (b_l_other_code (callT m) [some (.ref l), some (.tup A), none, none, none] S) _
  unfold b_l_other_code
  walk_at "sm"
  refine use_pick (by omega) h (by omega) (by decide) (by decide) fun way S1 w0 w1 k1 d1 => ?_
  walk_at "sm"
  refine ⟨fun _ => ?_, fun _ => ?_⟩
  · walk_at "sm"
    refine (program_ok (by omega) d1 (by omega)).imp fun v S2 ⟨k2, d2, ds, ev, hds, hf⟩ => ?_
    exact ⟨k1.trans k2, d2.up (by omega), ds, ev, PrD.of hds hf⟩
  walk_at "sm"
  refine ⟨fun _ => ?_, fun _ => ?_⟩
  · walk_at "sm"
    refine use_pick (by omega) d1 (by omega) (by rw [la]; decide) (by rw [la]; decide) fun k S2 r0 r1 k2 d2 => ?_
    walk_at "sm"
    obtain ⟨k, rfl⟩ := Int.eq_ofNat_of_zero_le r0
    have ek : ((k : Int) + 1) = ((k + 1 : Nat) : Int) := by omega
    rw [cut_take, ek, cut_drop]
    have c1 : (A.take k).length ≤ 5 := by rw [List.length_take]; omega
    have c2 : (A.drop (k + 1)).length ≤ 5 := by rw [List.length_drop]; omega
    refine k_addT (by omega) ?_
    have sub : (A.take k ++ A.drop (k + 1)).Sublist A := by
      conv => rhs; rw [← List.take_append_drop k A]
      exact List.Sublist.append (List.Sublist.refl _) (List.drop_sublist_drop_left _ (Nat.le_succ k))
    refine ⟨k1.trans k2, d2.up (by omega), _, rfl, ?_, nd.sublist (sub.map fstS), fun d hd => (hA d (sub.mem hd)).le (by omega)⟩
    have := sub.length_le
    omega
  walk_at "sm"
  refine ⟨fun _ => ?_, fun _ => ?_⟩
  · walk_at "sm"
    refine k_addT (by rw [la]; show 5 + 1 ≤ _; omega) ?_
    have hA' : ∀ f ∈ A ++ [Dv.tup [.str "aa", .tup [], .tup [.str "number", .int 1]]], FnD 5 f := fun f hf => by
      rcases List.mem_append.mp hf with hf | hf
      · exact hA f hf
      · rw [List.mem_singleton.mp hf]; exact aa_fn
    have nd' : ((A ++ [Dv.tup [.str "aa", .tup [], .tup [.str "number", .int 1]]]).map fstS).Nodup := by
      rw [List.map_append, hn]
      decide +kernel
    have len' : (A ++ [Dv.tup [.str "aa", .tup [], .tup [.str "number", .int 1]]]).length = 6 := by rw [List.length_append, la]; rfl
    generalize A ++ [Dv.tup [.str "aa", .tup [], .tup [.str "number", .int 1]]] = A' at *
    walk_at "sm"
    refine k_sortX (List.all_eq_true.mpr fun f hf => (hA' f hf).fst) nd' ?_
    walk_at "sm"
    refine k_tuple (x := .ref _) ls_new ?_
    have pm : (sortX A').Perm A' := List.mergeSort_perm _ _
    exact ⟨k1.app, d1.app.up (by omega), _, rfl, by rw [pm.length_eq]; omega, (pm.map fstS).nodup_iff.mpr nd', fun d hd => (hA' d (pm.mem_iff.mp hd)).le (by omega)⟩
  walk_at "sm"
  refine (bends_ok hA nd (by omega) (by omega)).imp fun r S2 ⟨l2, L, er, hL, hy, hl, k2⟩ => ?_
  subst er
  have d2 := d1.kp k2 (by simp)
  have kk2 : Kp [l] S S2 := k1.trans k2.any
  walk_at "sm"
  refine k_neNilP (ls_app hL) (Pys.all fun y hm' => (hy y hm').py) (by decide) ls_new ?_
  refine ⟨_, rfl, fun e => ?_, fun e => ?_⟩
  · have hne : L ≠ [] := by simpa using e
    have pos : 0 < L.length := List.length_pos_iff.mpr hne
    obtain ⟨m, rfl⟩ : ∃ k, m = k + 1 := ⟨m - 1, by omega⟩
    walk_at "sm"
    refine Ok.imp (P := fun v S4 => v ∈ L ∧ Kp [l] S2 S4 ∧ Dk l (B + 3) S4) ?_ ?_
    · refine w_of (f := .l_one) ?_
      show Ok (b_l_one (callT m) [some (.ref l), some (.ref l2)] _) _
      unfold b_l_one
      walk_at "sm"
      refine k_lenL (ls_app hL) rfl ?_
      walk_at "sm"
      refine use_pick (by omega) d2.app (by omega) (by omega) (by omega) fun r S4 r0 r1 k4 d4 => ?_
      obtain ⟨y, hy', hmem⟩ := at_get r0 r1
      have l2l : l2 ≠ l := fun e => by
        subst e
        obtain ⟨a, b, c, q, _⟩ := d2
        rw [hL] at q
        cases Option.some.inj q
        obtain ⟨nm, p, k, e, _⟩ := hy _ List.mem_cons_self
        cases e
      refine k_ixL (k4.ls (not1 l2l) (ls_app hL)) hy' ?_
      exact ⟨hmem, Kp.refl.app.trans k4, d4.up (by omega)⟩
    rintro y S4 ⟨hmem, k4, d4⟩
    walk_at "sm"
    refine (bent_ok hA (by omega) (hy y hmem) (by omega)).imp fun v S5 ⟨ds, ev, hds, hf, k5⟩ => ?_
    have ld : ds.length = A.length := by
      have := congrArg List.length hds
      rwa [List.length_map, List.length_map] at this
    exact ⟨(kk2.trans k4).trans k5.any, (d4.kp k5 (by simp)).up (by omega), ds, ev, by omega, by rw [hds]; exact nd, hf⟩
  · walk_at "sm"
    exact ⟨kk2.app, d2.app.up (by omega), A, rfl, PrD.of hn hA⟩
/-! ### whether a thing is a program -/
theorem fun_ok {d : Dv} (hd : FnD 10 d) {m : Nat} {S : Store} (hm : 30 ≤ m) : Ok (callT m .is_function [d] S) (Bo S) := by
  obtain ⟨nm, ns, b, rfl, hnm, hl, hns, wb⟩ := hd
  obtain ⟨ds, wt⟩ := wb.wt
  obtain ⟨m, rfl⟩ : ∃ k, m = k + 3 := ⟨m - 3, by omega⟩
  refine w_of (f := .is_function) ?_
  show Ok (b_is_function (callT (m + 2)) [some (.tup [.str nm, .tup (ns.map Dv.str), b]), none] S) _
  unfold b_is_function
  have nml := hnm.1
  walk_at "sm"
  refine use_b (nm_ok _ (by omega) _) fun b1 S1 k1 => ⟨_, rfl, fun _ => ?_, fun _ => ?_⟩
  · walk_at "sm"
    exact bo k1
  walk_at "sm"
  refine ⟨fun _ => ?_, fun _ => ?_⟩
  · walk_at "sm"
    exact bo k1
  walk_at "sm"
  refine k_lcB ?_
  walk_at "sm"
  refine ⟨ns.map Dv.str, Nat.le_refl _, by rw [List.length_map]; omega, fun i S _ => rfl, fun i x S' hx k => ?_, fun bs S2 hL k2 => ?_⟩
  · obtain ⟨y, hy, rfl⟩ := List.mem_map.mp (List.mem_of_getElem? hx)
    have := (hns y hy).1
    walk_at "sm"
    exact nm_ok _ (by omega) _
  walk_at "sm"
  refine k_all (x := .ref _) hL ⟨_, rfl, fun _ => ?_, fun _ => ?_⟩
  · walk_at "sm"
    exact bo (k1.trans k2)
  walk_at "sm"
  refine k_lenSet ?_
  walk_at "sm"
  refine ⟨by omega, ?_⟩
  walk_at "sm"
  refine ⟨fun _ => ?_, fun _ => ?_⟩
  · walk_at "sm"
    exact bo (k1.trans k2)
  walk_at "sm"
  refine use_b (ex_ok wb (m + 2) S2 ns 8 (by omega) (by omega) (by omega)) fun b3 S3 k3 => ⟨_, rfl, fun _ => ?_, fun _ => ?_⟩
  · walk_at "sm"
    exact bo ((k1.trans k2).trans k3)
  walk_at "sm"
  refine Ok.imp (P := fun r S4 => ∃ l, r = .ref l ∧ lsAt S4 l = some ds ∧ Kp [] S3 S4) ?_ ?_
  · refine w_of (f := .spots) ?_
    show Ok (b_spots (callT (m + 1)) [some (.tup [.str nm, .tup (ns.map Dv.str), b])] S3) _
    unfold b_spots
    walk_at "sm"
    exact (sp_from wt (by omega) (m + 1) S3 (by omega)).imp fun r S4 ⟨l, e, _, h1, h2⟩ => ⟨l, e, h1, h2⟩
  rintro r S4 ⟨l, rfl, hL4, k4⟩
  refine k_lenL hL4 rfl ?_
  walk_at "sm"
  exact bo (((k1.trans k2).trans k3).trans k4)
end K61

namespace K61
open PySem L2 Sm
local macro_rules | `(tactic| walk_at "sm") => `(tactic| repeat (first | with_reducible refine k_it ?_ | with_reducible refine k_rng1 ?_ | with_reducible refine k_enS ?_ | with_reducible refine k_enL ?_ | with_reducible refine k_zipT ?_ | with_reducible refine k_pn ?_ | with_reducible refine k_pc ?_ | with_reducible refine k_c ?_ | with_reducible refine k_bin ?_ | with_reducible refine k_nil ?_ | with_reducible refine k_cons ?_ | with_reducible refine k_tup ?_ | with_reducible refine k_lst ?_ | with_reducible refine k_tst ?_ | with_reducible refine k_and ?_ | with_reducible refine k_or ?_ | with_reducible refine k_not ?_ | with_reducible refine k_ifE ?_ | with_reducible refine k_sub ?_ | with_reducible refine k_ltX ?_ | with_reducible refine k_ltSX ?_ | with_reducible refine k_lt ?_ | with_reducible refine k_le ?_ | with_reducible refine k_gt ?_ | with_reducible refine k_ge ?_ | with_reducible refine k_neg ?_ | with_reducible refine k_two ?_ | with_reducible refine k_addI ?_ | with_reducible refine k_eqS ?_ | with_reducible refine k_neS ?_ | with_reducible refine k_eqI ?_ | with_reducible refine k_neI ?_ | with_reducible refine k_slT ?_ | with_reducible refine k_sl ?_ | with_reducible refine k_no ?_ | with_reducible refine k_pt ?_ | with_reducible refine k_app ?_ | with_reducible refine k_intI ?_ | with_reducible refine k_intB ?_ | with_reducible refine k_mtS ?_ | with_reducible refine k_mtL ?_ | with_reducible refine k_mtD ?_ | with_reducible refine k_andV ?_ | with_reducible refine k_orV ?_ | with_reducible refine k_notV ?_ | with_reducible refine k_call ?_ | with_reducible refine k_dnew ?_ | with_reducible refine k_fmt ?_ | with_reducible refine k_js0 ?_ | with_reducible refine k_js ?_ | with_reducible refine k_gN ?_ | with_reducible refine k_gC ?_ | with_reducible refine k_g0 ?_ | with_reducible refine k_gStar ?_ | with_reducible refine k_gS ?_ | with_reducible refine k_kget ?_ | with_reducible refine k_un ?_ | with_reducible refine k_revT ?_ | with_reducible refine k_inSX ?_ | with_reducible refine s_set ?_ | with_reducible refine s_drop ?_ | with_reducible refine s_asg ?_ | with_reducible refine s_if ?_ | with_reducible refine s_nx ?_ | with_reducible refine s_ret ?_ | with_reducible refine s_seq ?_ | with_reducible refine l_ret ?_ | with_reducible refine l_set ?_ | with_reducible refine l_drop ?_ | with_reducible refine l_asg ?_ | with_reducible refine l_nx ?_ | with_reducible refine l_if ?_ | ((with_reducible apply k_var); rfl) | ((with_reducible apply k_ixT); rfl) | ((with_reducible apply k_inT); rfl; rfl) | ((with_reducible apply k_in); rfl; rfl; rfl) | ((with_reducible refine k_gT ?_ ?_); rfl) | ((with_reducible apply k_isi); rfl; rfl) | ((with_reducible apply k_isiT); rfl; rfl) | ((with_reducible apply k_lenL); (focus ((repeat (first | exact ls_new | assumption | refine ls_app ?_)); done)); (focus (first | (simp only [List.length_cons, List.length_nil, List.length_map]; rfl) | rfl))) | ((with_reducible apply k_lenT); (focus (first | (simp only [List.length_cons, List.length_nil, List.length_map]; rfl) | rfl))) | ((with_reducible apply k_lenS); (focus assumption)) | ((with_reducible apply k_ixL); (focus ((repeat (first | exact ls_new | assumption | refine ls_app ?_)); done)); rfl) | with_reducible refine And.intro (fun _ => ?_) (fun h => absurd h (by decide +kernel)) | with_reducible refine And.intro (fun h => absurd h (by decide +kernel)) (fun _ => ?_) | ((with_reducible refine And.intro ?_ ?_); rfl) | ((with_reducible apply Exists.intro); (with_reducible apply And.intro); rfl)))
local macro_rules | `(tactic| walk_at "smb") => `(tactic| repeat' (first | with_reducible refine k_it ?_ | with_reducible refine k_rng1 ?_ | with_reducible refine k_enS ?_ | with_reducible refine k_enL ?_ | with_reducible refine k_zipT ?_ | with_reducible refine k_pn ?_ | with_reducible refine k_pc ?_ | with_reducible refine k_c ?_ | with_reducible refine k_bin ?_ | with_reducible refine k_nil ?_ | with_reducible refine k_cons ?_ | with_reducible refine k_tup ?_ | with_reducible refine k_lst ?_ | with_reducible refine k_tst ?_ | with_reducible refine k_and ?_ | with_reducible refine k_or ?_ | with_reducible refine k_not ?_ | with_reducible refine k_ifE ?_ | with_reducible refine k_sub ?_ | with_reducible refine k_ltX ?_ | with_reducible refine k_ltSX ?_ | with_reducible refine k_lt ?_ | with_reducible refine k_le ?_ | with_reducible refine k_gt ?_ | with_reducible refine k_ge ?_ | with_reducible refine k_neg ?_ | with_reducible refine k_two ?_ | with_reducible refine k_addI ?_ | with_reducible refine k_eqS ?_ | with_reducible refine k_neS ?_ | with_reducible refine k_eqI ?_ | with_reducible refine k_neI ?_ | with_reducible refine k_slT ?_ | with_reducible refine k_sl ?_ | with_reducible refine k_no ?_ | with_reducible refine k_pt ?_ | with_reducible refine k_app ?_ | with_reducible refine k_intI ?_ | with_reducible refine k_intB ?_ | with_reducible refine k_mtS ?_ | with_reducible refine k_mtL ?_ | with_reducible refine k_mtD ?_ | with_reducible refine k_andV ?_ | with_reducible refine k_orV ?_ | with_reducible refine k_notV ?_ | with_reducible refine k_call ?_ | with_reducible refine k_dnew ?_ | with_reducible refine k_fmt ?_ | with_reducible refine k_js0 ?_ | with_reducible refine k_js ?_ | with_reducible refine k_gN ?_ | with_reducible refine k_gC ?_ | with_reducible refine k_g0 ?_ | with_reducible refine k_gStar ?_ | with_reducible refine k_gS ?_ | with_reducible refine k_kget ?_ | with_reducible refine k_un ?_ | with_reducible refine k_revT ?_ | with_reducible refine k_inSX ?_ | with_reducible refine s_set ?_ | with_reducible refine s_drop ?_ | with_reducible refine s_asg ?_ | with_reducible refine s_if ?_ | with_reducible refine s_nx ?_ | with_reducible refine s_ret ?_ | with_reducible refine s_seq ?_ | with_reducible refine l_ret ?_ | with_reducible refine l_set ?_ | with_reducible refine l_drop ?_ | with_reducible refine l_asg ?_ | with_reducible refine l_nx ?_ | with_reducible refine l_if ?_ | ((with_reducible apply k_var); rfl) | ((with_reducible apply k_ixT); rfl) | ((with_reducible apply k_inT); rfl; rfl) | ((with_reducible apply k_in); rfl; rfl; rfl) | ((with_reducible refine k_gT ?_ ?_); rfl) | ((with_reducible apply k_isi); rfl; rfl) | ((with_reducible apply k_isiT); rfl; rfl) | ((with_reducible apply k_lenL); (focus ((repeat' (first | exact ls_new | assumption | refine ls_app ?_)); done)); (focus (first | (simp only [List.length_cons, List.length_nil, List.length_map]; rfl) | rfl))) | ((with_reducible apply k_lenT); (focus (first | (simp only [List.length_cons, List.length_nil, List.length_map]; rfl) | rfl))) | ((with_reducible apply k_lenS); (focus assumption)) | ((with_reducible apply k_ixL); (focus ((repeat' (first | exact ls_new | assumption | refine ls_app ?_)); done)); rfl) | with_reducible refine And.intro (fun _ => ?_) (fun h => absurd h (by decide +kernel)) | with_reducible refine And.intro (fun h => absurd h (by decide +kernel)) (fun _ => ?_) | ((with_reducible refine And.intro ?_ ?_); rfl) | ((with_reducible apply Exists.intro); (with_reducible apply And.intro); rfl) | with_reducible refine And.intro (fun _ => ?_) (fun _ => ?_)))
local macro_rules | `(tactic| walk_at "smv") => `(tactic| repeat (first | exact val_hitS (by decide +kernel) | refine (val_missS (by decide +kernel)).trans ?_))
local macro_rules | `(tactic| walk_at "smd") => `(tactic| repeat (first | exact dc_new | exact ls_new | refine dc_app ?_ | refine ls_app ?_))
theorem Kp.new {S0 S1 S2 : Store} {l : Nat} (a : Kp [] S0 S1) (b : Kp [l] S1 S2) (h : S0.length ≤ l) : Kp [] S0 S2 := ⟨Nat.le_trans a.1 b.1, fun j o n q => b.2 j o (not1 (by have := (List.getElem?_eq_some_iff.mp q).1; omega)) (a.2 j o n q)⟩
theorem zAt_eq (ds es : List Dv) (i : Nat) : zAt ds es i = (zipD ds es)[i]? := by
  unfold zAt zipD
  rw [List.getElem?_zipWith]
  rcases ds[i]? with _ | x <;> rcases es[i]? with _ | y <;> rfl
/-- the pairs put in, their keys unlike -/
theorem puts_from {kf : Dv → Key} {vf : Dv → Dv} : ∀ (ds : List Dv) (acc : List (Key × Dv)), (acc.map (·.1) ++ ds.map kf).Nodup → ds.foldl (fun acc d => putD acc (kf d) (vf d)) acc = acc ++ ds.map fun d => (kf d, vf d)
  | [], acc, _ => by simp
  | d :: ds, acc, h => by
    have h1 : kf d ∉ acc.map (·.1) := fun z => by
      rw [List.nodup_append] at h
      exact h.2.2 _ z (kf d) (by simp) rfl
    rw [List.foldl_cons, putD_new h1, puts_from ds _ (by
      rw [List.map_append, List.append_assoc]
      exact h), List.append_assoc]
    rfl
theorem puts_nodup {kf : Dv → Key} {vf : Dv → Dv} {ds : List Dv} (h : (ds.map kf).Nodup) : puts ds kf vf = ds.map fun d => (kf d, vf d) := puts_from ds [] h
theorem keys_nodup {A : List Dv} (h : (A.map fstS).Nodup) : (A.map fun d => (Sum.inr (fstS d) : Key)).Nodup := by
  have e : (A.map fun d => (Sum.inr (fstS d) : Key)) = (A.map fstS).map Sum.inr := by rw [List.map_map]; rfl
  rw [e, List.nodup_iff_pairwise_ne, List.pairwise_map]
  exact (List.nodup_iff_pairwise_ne.mp h).imp fun h e => h (Sum.inr.inj e)
def CallD (x : Dv) : Prop := ∃ (w : Str) (as : List Dv), x = .tup [.str "call", .str w, .tup as]
theorem WE.call {d : Nat} {h : Str} {r : List Dv} (w : WE d (.tup (.str h :: r))) (e : h = "call") : CallD (.tup (.str h :: r)) := by
  have no : ∀ {x : Str}, decide (x = "call") = false → x = "call" → False := fun h1 h2 => of_decide_eq_false h1 h2
  cases w with
  | name _ _ => exact (no (by decide +kernel) e).elim
  | num _ => exact (no (by decide +kernel) e).elim
  | truth => exact (no (by decide +kernel) e).elim
  | row _ _ => exact (no (by decide +kernel) e).elim
  | doo h1 _ _ _ _ _ => subst e; exact ⟨_, _, rfl⟩
  | iff _ _ _ => exact (no (by decide +kernel) e).elim
  | lett _ _ _ _ => exact (no (by decide +kernel) e).elim
def NB : Nat := bs 10
theorem NB_le : 6 * NB < 16777216 := by decide
theorem spots_ok {nm : Str} {ps b : Dv} {ds : List Dv} (wt : WT 10 b ds) {m : Nat} {S : Store} (hm : 14 ≤ m) : Ok (callT m .spots [.tup [.str nm, ps, b]] S) (Ls S ds) := by
  obtain ⟨m, rfl⟩ : ∃ k, m = k + 1 := ⟨m - 1, by omega⟩
  refine w_of (f := .spots) ?_
  show Ok (b_spots (callT m) [some (.tup [.str nm, ps, b])] S) _
  unfold b_spots
  walk_at "sm"
  exact sp_from wt (by omega) m S (by omega)
theorem prog_ok {A : List Dv} (hA : PrD A) {m : Nat} {S : Store} (hm : 32 ≤ m) : Ok (callT m .is_program [.tup A] S) (Bo S) := by
  obtain ⟨hl, hn, hf⟩ := hA
  obtain ⟨m, rfl⟩ : ∃ k, m = k + 1 := ⟨m - 1, by omega⟩
  refine w_of (f := .is_program) ?_
  show Ok (b_is_program (callT m) [some (.tup A), none, none, none, none, none, none] S) _
  unfold b_is_program
  walk_at "sm"
  refine ⟨fun _ => ?_, fun _ => ?_⟩
  · walk_at "sm"
    exact bo Kp.refl
  walk_at "sm"
  refine k_lcB ?_
  walk_at "sm"
  refine ⟨A, Nat.le_refl _, by omega, fun i S _ => rfl, fun i x S' hx k => ?_, fun bs' S1 hL1 k1 => ?_⟩
  · walk_at "sm"
    exact fun_ok (hf x (List.mem_of_getElem? hx)) (by omega)
  walk_at "sm"
  refine k_all (x := .ref _) hL1 ⟨_, rfl, fun _ => ?_, fun _ => ?_⟩
  · walk_at "sm"
    exact bo k1
  walk_at "sm"
  refine k_lcB ?_
  walk_at "sm"
  refine ⟨_, _, rfl, ?_⟩
  refine ⟨zipD A (cutG A (some 1) none), by unfold zipD; rw [List.length_zipWith]; exact Nat.min_le_left _ _, by unfold zipD; rw [List.length_zipWith]; omega, fun i S _ => congrArg some (zAt_eq _ _ i), fun i x S' hx k => ?_, fun bs' S2 hL2 k2 => ?_⟩
  · rw [← zAt_eq] at hx
    obtain ⟨u, v, e1, e2, rfl⟩ := zAt_some hx
    obtain ⟨n1, _, _, rfl, _⟩ := hf u (List.mem_of_getElem? e1)
    obtain ⟨n2, _, _, rfl, _⟩ := hf v (cut_mem (List.mem_of_getElem? e2))
    walk_at "sm"
    exact bo Kp.refl
  walk_at "sm"
  refine k_all (x := .ref _) hL2 ⟨_, rfl, fun _ => ?_, fun _ => ?_⟩
  · walk_at "sm"
    exact bo (k1.trans k2)
  walk_at "sm"
  refine k_dcM ?_
  walk_at "sm"
  refine ⟨A, fun d => .inr (fstS d), fun d => match d with | .tup [_, .tup ps, _] => .int (ps.length : Nat) | _ => .int 0, Nat.le_refl _, by omega, fun i S _ => rfl, fun x S' hx k => ?_, fun S3 hD3 k3 => ?_⟩
  · obtain ⟨n1, ns, b, rfl, _⟩ := hf x hx
    walk_at "sm"
    exact ⟨by show Dv.int _ = Dv.int ((ns.map Dv.str).length : Nat); rw [List.length_map], Kp.refl⟩
  rw [puts_nodup (keys_nodup hn)] at hD3
  have kk3 : Kp [] S S3 := (k1.trans k2).trans k3
  generalize hkv : (A.map fun d => ((.inr (fstS d) : Key), (match d with | .tup [_, .tup ps, _] => Dv.int (ps.length : Nat) | _ => .int 0 : Dv))) = kvs at hD3
  have kvi : ∀ kv ∈ kvs, ∃ i, kv.2 = .int i := fun kv hkv' => by
    rw [← hkv] at hkv'
    obtain ⟨d, hd, rfl⟩ := List.mem_map.mp hkv'
    obtain ⟨n1, ns, b, rfl, _⟩ := hf d hd
    exact ⟨_, rfl⟩
  walk_at "sm"
  refine k_lc2 ?_
  walk_at "sm"
  refine ⟨fun i S' => Kp [] S3 S' ∧ i ≤ A.length ∧ ∃ acc, lsAt S' S3.length = some acc ∧ acc.length ≤ i * NB ∧ ∀ x ∈ acc, CallD x, ⟨Kp.refl.app, Nat.zero_le _, [], ls_new, Nat.zero_le _, fun x h => by cases h⟩, ?_⟩
  rintro i S4 ⟨k4, hi, acc, hacc, la, hcd⟩
  by_cases hlt : i < A.length
  · right
    refine ⟨hlt, A[i], by show some A[i]? = _; rw [List.getElem?_eq_getElem hlt], ?_⟩
    have hfi := hf _ (List.getElem_mem hlt)
    generalize A[i] = fi at hfi
    obtain ⟨n1, ns, b, rfl, _, _, _, wb⟩ := hfi
    obtain ⟨ds, wt⟩ := wb.wt
    have dl := wt.len
    have dl : ds.length ≤ NB := dl
    have nb := NB_le
    have m1 : i * NB ≤ 5 * NB := Nat.mul_le_mul_right _ (by omega)
    have m2 : (i + 1) * NB = i * NB + NB := Nat.succ_mul i NB
    refine k_gN ?_
    show Ok (Res.ok true S4) _
    refine ⟨rfl, ?_⟩
    walk_at "sm"
    refine (spots_ok wt (by omega)).imp fun r S5 ⟨r5, e5, h5, hL5, k5⟩ => ?_
    subst e5
    refine ⟨_, it_ref hL5, ?_⟩
    have l4 := ls_lt hacc
    have hacc5 := k5.ls (by simp) hacc
    refine loopC_ok (N := ds.length) (fun j acc' S' => Kp [S3.length] S5 S' ∧ j ≤ ds.length ∧ acc'.length ≤ i * NB + j ∧ ∀ x ∈ acc', CallD x) (P := fun _ S' => Kp [] S3 S' ∧ i + 1 ≤ A.length ∧ ∃ acc, lsAt S' S3.length = some acc ∧ acc.length ≤ (i + 1) * NB ∧ ∀ x ∈ acc, CallD x) ?_ ds.length 0 acc S5 (Nat.zero_add _) ⟨Kp.refl, Nat.zero_le _, by omega, hcd⟩ hacc5
    rintro j acc' S6 ⟨k6, hj, la', hcd'⟩ hacc6
    have hL6 := k6.ls (not1 (by omega)) hL5
    by_cases hjl : j < ds.length
    · right
      refine ⟨hjl, ds[j], by dsimp only; rw [hL6]; show some ds[j]? = _; rw [List.getElem?_eq_getElem hjl], ?_⟩
      have wx := wt.mem _ (List.getElem_mem hjl)
      generalize ds[j] = x at wx
      obtain ⟨h', r, rfl⟩ := wx.tupv
      walk_at "sm"
      refine k_ixT (atI_nat (j := 0) rfl) ?_
      walk_at "sm"
      refine ⟨fun e => ?_, fun e => ?_⟩
      · walk_at "sm"
        refine ⟨hacc6, by omega, k6.set (.inr (by simp)), hjl, by rw [List.length_append, List.length_singleton]; omega, fun y hy => ?_⟩
        rcases List.mem_append.mp hy with hy | hy
        · exact hcd' y hy
        · rw [List.mem_singleton.mp hy]
          exact wx.call (of_decide_eq_true e)
      · exact ⟨hacc6, k6, hjl, by omega, hcd'⟩
    · left
      refine ⟨by dsimp only; rw [hL6]; show some ds[j]? = _; rw [List.getElem?_eq_none (by omega)], ?_⟩
      exact ⟨Kp.new (k4.trans k5) k6 (Nat.le_refl _), hlt, acc', hacc6, by omega, hcd'⟩
  left
  refine ⟨by show some A[i]? = _; rw [List.getElem?_eq_none (by omega)], ?_⟩
  have hD4 := k4.dc (by simp) hD3
  have nb := NB_le
  have m1 : i * NB ≤ 6 * NB := Nat.mul_le_mul_right _ (by omega)
  walk_at "sm"
  refine k_lcB ?_
  walk_at "sm"
  refine ⟨_, it_ref hacc, acc, Nat.le_refl _, by omega, fun i S k => it_at hacc k (by simp), fun j x S' hx k => ?_, fun bs' S5 hL5 k5 => ?_⟩
  · obtain ⟨w, as, rfl⟩ := hcd x (List.mem_of_getElem? hx)
    have hD5 := k.dc (by simp) hD4
    refine k_gN ?_
    refine k_bin (k_get2 ?_)
    walk_at "sm"
    refine ⟨by unfold isTy; dsimp only; rw [dcAt_iff.mp hD5]; simp, ?_⟩
    walk_at "sm"
    refine ⟨_, _, _, rfl, rfl, hD5, ?_⟩
    obtain ⟨q, hq⟩ := val_getD (P := fun x => ∃ i, x = Dv.int i) (k := .inr w) kvi (y := .int (-1)) ⟨_, rfl⟩
    rw [hq]
    walk_at "sm"
    exact bo Kp.refl
  · walk_at "sm"
    refine k_all (x := .ref _) hL5 ?_
    exact bo ((kk3.trans k4).trans k5)
end K61

namespace K61
open PySem L2 Sm
local macro_rules | `(tactic| walk_at "sm") => `(tactic| repeat (first | with_reducible refine k_it ?_ | with_reducible refine k_rng1 ?_ | with_reducible refine k_enS ?_ | with_reducible refine k_enL ?_ | with_reducible refine k_zipT ?_ | with_reducible refine k_pn ?_ | with_reducible refine k_pc ?_ | with_reducible refine k_c ?_ | with_reducible refine k_bin ?_ | with_reducible refine k_nil ?_ | with_reducible refine k_cons ?_ | with_reducible refine k_tup ?_ | with_reducible refine k_lst ?_ | with_reducible refine k_tst ?_ | with_reducible refine k_and ?_ | with_reducible refine k_or ?_ | with_reducible refine k_not ?_ | with_reducible refine k_ifE ?_ | with_reducible refine k_sub ?_ | with_reducible refine k_ltX ?_ | with_reducible refine k_ltSX ?_ | with_reducible refine k_lt ?_ | with_reducible refine k_le ?_ | with_reducible refine k_gt ?_ | with_reducible refine k_ge ?_ | with_reducible refine k_neg ?_ | with_reducible refine k_two ?_ | with_reducible refine k_addI ?_ | with_reducible refine k_eqS ?_ | with_reducible refine k_neS ?_ | with_reducible refine k_eqI ?_ | with_reducible refine k_neI ?_ | with_reducible refine k_slT ?_ | with_reducible refine k_sl ?_ | with_reducible refine k_no ?_ | with_reducible refine k_pt ?_ | with_reducible refine k_app ?_ | with_reducible refine k_intI ?_ | with_reducible refine k_intB ?_ | with_reducible refine k_mtS ?_ | with_reducible refine k_mtL ?_ | with_reducible refine k_mtD ?_ | with_reducible refine k_andV ?_ | with_reducible refine k_orV ?_ | with_reducible refine k_notV ?_ | with_reducible refine k_call ?_ | with_reducible refine k_dnew ?_ | with_reducible refine k_fmt ?_ | with_reducible refine k_js0 ?_ | with_reducible refine k_js ?_ | with_reducible refine k_gN ?_ | with_reducible refine k_gC ?_ | with_reducible refine k_g0 ?_ | with_reducible refine k_gStar ?_ | with_reducible refine k_gS ?_ | with_reducible refine k_kget ?_ | with_reducible refine k_un ?_ | with_reducible refine k_revT ?_ | with_reducible refine k_inSX ?_ | with_reducible refine s_set ?_ | with_reducible refine s_drop ?_ | with_reducible refine s_asg ?_ | with_reducible refine s_if ?_ | with_reducible refine s_nx ?_ | with_reducible refine s_ret ?_ | with_reducible refine s_seq ?_ | with_reducible refine l_ret ?_ | with_reducible refine l_set ?_ | with_reducible refine l_drop ?_ | with_reducible refine l_asg ?_ | with_reducible refine l_nx ?_ | with_reducible refine l_if ?_ | ((with_reducible apply k_var); rfl) | ((with_reducible apply k_ixT); rfl) | ((with_reducible apply k_inT); rfl; rfl) | ((with_reducible apply k_in); rfl; rfl; rfl) | ((with_reducible refine k_gT ?_ ?_); rfl) | ((with_reducible apply k_isi); rfl; rfl) | ((with_reducible apply k_isiT); rfl; rfl) | ((with_reducible apply k_lenL); (focus ((repeat (first | exact ls_new | assumption | refine ls_app ?_)); done)); (focus (first | (simp only [List.length_cons, List.length_nil, List.length_map]; rfl) | rfl))) | ((with_reducible apply k_lenT); (focus (first | (simp only [List.length_cons, List.length_nil, List.length_map]; rfl) | rfl))) | ((with_reducible apply k_lenS); (focus assumption)) | ((with_reducible apply k_ixL); (focus ((repeat (first | exact ls_new | assumption | refine ls_app ?_)); done)); rfl) | with_reducible refine And.intro (fun _ => ?_) (fun h => absurd h (by decide +kernel)) | with_reducible refine And.intro (fun h => absurd h (by decide +kernel)) (fun _ => ?_) | ((with_reducible refine And.intro ?_ ?_); rfl) | ((with_reducible apply Exists.intro); (with_reducible apply And.intro); rfl)))
local macro_rules | `(tactic| walk_at "smb") => `(tactic| repeat' (first | with_reducible refine k_it ?_ | with_reducible refine k_rng1 ?_ | with_reducible refine k_enS ?_ | with_reducible refine k_enL ?_ | with_reducible refine k_zipT ?_ | with_reducible refine k_pn ?_ | with_reducible refine k_pc ?_ | with_reducible refine k_c ?_ | with_reducible refine k_bin ?_ | with_reducible refine k_nil ?_ | with_reducible refine k_cons ?_ | with_reducible refine k_tup ?_ | with_reducible refine k_lst ?_ | with_reducible refine k_tst ?_ | with_reducible refine k_and ?_ | with_reducible refine k_or ?_ | with_reducible refine k_not ?_ | with_reducible refine k_ifE ?_ | with_reducible refine k_sub ?_ | with_reducible refine k_ltX ?_ | with_reducible refine k_ltSX ?_ | with_reducible refine k_lt ?_ | with_reducible refine k_le ?_ | with_reducible refine k_gt ?_ | with_reducible refine k_ge ?_ | with_reducible refine k_neg ?_ | with_reducible refine k_two ?_ | with_reducible refine k_addI ?_ | with_reducible refine k_eqS ?_ | with_reducible refine k_neS ?_ | with_reducible refine k_eqI ?_ | with_reducible refine k_neI ?_ | with_reducible refine k_slT ?_ | with_reducible refine k_sl ?_ | with_reducible refine k_no ?_ | with_reducible refine k_pt ?_ | with_reducible refine k_app ?_ | with_reducible refine k_intI ?_ | with_reducible refine k_intB ?_ | with_reducible refine k_mtS ?_ | with_reducible refine k_mtL ?_ | with_reducible refine k_mtD ?_ | with_reducible refine k_andV ?_ | with_reducible refine k_orV ?_ | with_reducible refine k_notV ?_ | with_reducible refine k_call ?_ | with_reducible refine k_dnew ?_ | with_reducible refine k_fmt ?_ | with_reducible refine k_js0 ?_ | with_reducible refine k_js ?_ | with_reducible refine k_gN ?_ | with_reducible refine k_gC ?_ | with_reducible refine k_g0 ?_ | with_reducible refine k_gStar ?_ | with_reducible refine k_gS ?_ | with_reducible refine k_kget ?_ | with_reducible refine k_un ?_ | with_reducible refine k_revT ?_ | with_reducible refine k_inSX ?_ | with_reducible refine s_set ?_ | with_reducible refine s_drop ?_ | with_reducible refine s_asg ?_ | with_reducible refine s_if ?_ | with_reducible refine s_nx ?_ | with_reducible refine s_ret ?_ | with_reducible refine s_seq ?_ | with_reducible refine l_ret ?_ | with_reducible refine l_set ?_ | with_reducible refine l_drop ?_ | with_reducible refine l_asg ?_ | with_reducible refine l_nx ?_ | with_reducible refine l_if ?_ | ((with_reducible apply k_var); rfl) | ((with_reducible apply k_ixT); rfl) | ((with_reducible apply k_inT); rfl; rfl) | ((with_reducible apply k_in); rfl; rfl; rfl) | ((with_reducible refine k_gT ?_ ?_); rfl) | ((with_reducible apply k_isi); rfl; rfl) | ((with_reducible apply k_isiT); rfl; rfl) | ((with_reducible apply k_lenL); (focus ((repeat' (first | exact ls_new | assumption | refine ls_app ?_)); done)); (focus (first | (simp only [List.length_cons, List.length_nil, List.length_map]; rfl) | rfl))) | ((with_reducible apply k_lenT); (focus (first | (simp only [List.length_cons, List.length_nil, List.length_map]; rfl) | rfl))) | ((with_reducible apply k_lenS); (focus assumption)) | ((with_reducible apply k_ixL); (focus ((repeat' (first | exact ls_new | assumption | refine ls_app ?_)); done)); rfl) | with_reducible refine And.intro (fun _ => ?_) (fun h => absurd h (by decide +kernel)) | with_reducible refine And.intro (fun h => absurd h (by decide +kernel)) (fun _ => ?_) | ((with_reducible refine And.intro ?_ ?_); rfl) | ((with_reducible apply Exists.intro); (with_reducible apply And.intro); rfl) | with_reducible refine And.intro (fun _ => ?_) (fun _ => ?_)))
local macro_rules | `(tactic| walk_at "smv") => `(tactic| repeat (first | exact val_hitS (by decide +kernel) | refine (val_missS (by decide +kernel)).trans ?_))
local macro_rules | `(tactic| walk_at "smd") => `(tactic| repeat (first | exact dc_new | exact ls_new | refine dc_app ?_ | refine ls_app ?_))
/-! ### where two programs part -/
def getF (A : List Dv) (nm : Str) : Dv := (A.find? fun d => decide (fstS d = nm)).getD .non
theorem val_keys (A : List Dv) (nm : Str) : (valD (A.map fun d => ((.inr (fstS d) : Key), d)) (.inr nm)).getD .non = getF A nm := by
  unfold getF
  congr 1
  induction A with
  | nil => rfl
  | cons d A ih =>
    rw [List.map_cons, List.find?_cons]
    by_cases e : fstS d = nm
    · rw [val_hitS e, decide_eq_true e]
    · rw [val_missS (decide_eq_false e), decide_eq_false e, ih]
theorem keys_txs (A : List Dv) : ((A.map fun d => ((.inr (fstS d) : Key), d)).map fun kv => keyDv kv.1) = txs (A.map fstS) := by
  unfold txs
  rw [List.map_map, List.map_map]
  rfl
theorem FnD.py {e : Nat} {d : Dv} (h : FnD e d) (he : e ≤ 11) : Py d 30 := by
  obtain ⟨nm, ns, b, rfl, h1, h2, h3, h4⟩ := h
  refine (Py.tup (B := 2 * e + 2) (.cons ((Py.str h1.2).up (Nat.zero_le _)) (.cons ((Py.tup (B := 0) (Pys.all fun x hx => ?_)).up (by omega)) (.cons h4.py .nil)))).up (by omega)
  obtain ⟨y, hy, rfl⟩ := List.mem_map.mp hx
  exact Py.str (h3 y hy).2
theorem FnD.tupv {e : Nat} {d : Dv} (h : FnD e d) : ∃ h' r, d = .tup (.str h' :: r) := by
  obtain ⟨nm, ns, b, rfl, _⟩ := h
  exact ⟨_, _, rfl⟩
theorem getF_or {A : List Dv} (hA : PrD A) (nm : Str) : getF A nm = .non ∨ ∃ f ∈ A, fstS f = nm ∧ getF A nm = f := by
  unfold getF
  cases e : A.find? fun d => decide (fstS d = nm) with
  | none => exact .inl rfl
  | some f => exact .inr ⟨f, List.mem_of_find?_eq_some e, by have := List.find?_some e; simpa using this, rfl⟩
/-- a function, or None -/
def OpF (x : Dv) : Prop := x = .non ∨ FnD 10 x
theorem getF_op {A : List Dv} (hA : PrD A) (nm : Str) : OpF (getF A nm) := by
  rcases getF_or hA nm with h | ⟨f, hf, _, e⟩
  · exact .inl h
  · exact .inr (by rw [e]; exact hA.2.2 f hf)
theorem pyv_non : pyv .non = .none := rfl
theorem k_neO {x y : Dv} {S : Store} {Q : Dv → Store → Prop} (hx : OpF x) (hy : OpF y) (q : Q (.bl (neV x y)) S) : Ok (dNe x y S) Q := by
  rcases hx with rfl | hx
  · rcases hy with rfl | hy
    · refine k_scN rfl ?_
      have e : neV .non .non = false := by
        unfold neV
        rw [pyv_non]
        simp [PyData.eqv]
      rw [e] at q
      exact q
    · obtain ⟨h', r, rfl⟩ := hy.tupv
      exact k_neV rfl (Py.non.up (Nat.zero_le 30)) (hy.py (by omega)) (by decide) q
  · rcases hy with rfl | hy
    · obtain ⟨h', r, rfl⟩ := hx.tupv
      exact k_neV rfl (hx.py (by omega)) (Py.non.up (Nat.zero_le 30)) (by decide) q
    · obtain ⟨h', r, rfl⟩ := hx.tupv
      obtain ⟨h'', r', rfl⟩ := hy.tupv
      exact k_neV rfl (hx.py (by omega)) (hy.py (by omega)) (by decide) q
def nmsD (A B : List Dv) : List Str := sortS (dedup (A.map fstS ++ B.map fstS))
def ptB (A B : List Dv) (nm : Str) : Bool := neV (getF A nm) (getF B nm)
def partD (A B : List Dv) : List Str := (nmsD A B).filter (ptB A B)
theorem sorted_leS (ks : List Str) : (sortS ks).Pairwise fun a b => leS a b = true := by
  refine List.pairwise_mergeSort (fun a b c h1 h2 => ?_) (fun a b => ?_) ks
  · exact leS_iff.mpr (List.le_trans (leS_iff.mp h1) (leS_iff.mp h2))
  · have := List.le_total a.cps.toList b.cps.toList
    rw [Bool.or_eq_true]
    exact this.imp leS_iff.mpr leS_iff.mpr
theorem sort_perm (ks : List Str) : (sortS ks).Perm ks := List.mergeSort_perm _ _
theorem nms_len {A B : List Dv} (hA : A.length ≤ 6) (hB : B.length ≤ 6) : (nmsD A B).length ≤ 12 := by
  unfold nmsD
  rw [(sort_perm _).length_eq]
  have := dedup_len (A.map fstS ++ B.map fstS)
  rw [List.length_append, List.length_map, List.length_map] at this
  omega
theorem dedup_small {A B : List Dv} (hA : A.length ≤ 6) (hB : B.length ≤ 6) : (dedup (A.map fstS ++ B.map fstS)).length < 64 ∧ (A.map fstS ++ B.map fstS).length ≤ 4000 := by
  have := dedup_len (A.map fstS ++ B.map fstS)
  rw [List.length_append, List.length_map, List.length_map] at this ⊢
  omega
def strD : Dv → Str
  | .str x => x
  | _ => Str.empty
theorem filt_txs (p : Str → Bool) : ∀ ts : List Str, ((txs ts).filter fun d => p (strD d)).map id = txs (ts.filter p)
  | [] => rfl
  | t :: ts => by
    have ih := filt_txs p ts
    rw [List.map_id] at ih ⊢
    show (Dv.str t :: txs ts).filter _ = txs ((t :: ts).filter p)
    rw [List.filter_cons, List.filter_cons]
    have e : strD (.str t) = t := rfl
    rw [e]
    by_cases h : p t = true
    · rw [if_pos h, if_pos h, ih]; rfl
    · rw [if_neg h, if_neg h, ih]
theorem parted_ok {A B : List Dv} (hA : PrD A) (hB : PrD B) {m : Nat} {S : Store} (hm : 1 ≤ m) : Ok (callT m .parted [.tup A, .tup B] S) (Ls S (txs (partD A B))) := by
  obtain ⟨m, rfl⟩ : ∃ k, m = k + 1 := ⟨m - 1, by omega⟩
  refine w_of (f := .parted) ?_
  show Ok (b_parted (callT m) [some (.tup A), some (.tup B), none, none, none, none, none] S) _
  unfold b_parted
  have la := hA.1
  have lb := hB.1
  have one : ∀ {C : List Dv} {δ : Env'} {S' : Store}, PrD C → ∀ x ∈ C, Ok (gN 5 x (wipeE [some (.tup A), some (.tup B), none, none, none, none, none] [5]) S') fun δ1 S2 => Ok (cBin dIx (cVar 5) (cC (.int 0)) δ1 S2) fun y S3 => Ok (cVar 5 δ1 S3) fun z S4 => keyD y = some (.inr (fstS x)) ∧ z = x ∧ Kp [] S' S4 := fun {C δ S'} hC x hx => by
    obtain ⟨n1, ns, b, rfl, _⟩ := hC.2.2 x hx
    walk_at "sm"
    exact Kp.refl
  have one' : ∀ {C : List Dv} {l : Nat} {S' : Store}, PrD C → ∀ x ∈ C, Ok (gN 5 x (wipeE [some (.tup A), some (.tup B), some (.ref l), none, none, none, none] [5]) S') fun δ1 S2 => Ok (cBin dIx (cVar 5) (cC (.int 0)) δ1 S2) fun y S3 => Ok (cVar 5 δ1 S3) fun z S4 => keyD y = some (.inr (fstS x)) ∧ z = x ∧ Kp [] S' S4 := fun {C l S'} hC x hx => by
    obtain ⟨n1, ns, b, rfl, _⟩ := hC.2.2 x hx
    walk_at "sm"
    exact Kp.refl
  walk_at "sm"
  refine k_dcM ?_
  walk_at "sm"
  refine ⟨A, fun d => .inr (fstS d), fun d => d, Nat.le_refl _, by omega, fun i S _ => rfl, fun x S' hx k => one (δ := []) hA x hx, fun S1 hD1 k1 => ?_⟩
  rw [puts_nodup (keys_nodup hA.2.1)] at hD1
  walk_at "sm"
  refine k_dcM ?_
  walk_at "sm"
  refine ⟨B, fun d => .inr (fstS d), fun d => d, Nat.le_refl _, by omega, fun i S _ => rfl, fun x S' hx k => one' hB x hx, fun S2 hD2 k2 => ?_⟩
  rw [puts_nodup (keys_nodup hB.2.1)] at hD2
  have hD1' := k2.dc (by simp) hD1
  walk_at "sm"
  refine k_sortSet ?_
  walk_at "sm"
  refine k_listD hD1' ?_
  walk_at "sm"
  refine k_listD (dc_app hD2) ?_
  rw [keys_txs, keys_txs]
  have sm := dedup_small la lb
  refine k_addL (x := .ref _) (ls_app ls_new) (y := .ref _) ls_new (by rw [List.length_map, List.length_map, List.length_map, List.length_map]; omega) ?_
  have e1 : (txs (A.map fstS) ++ txs (B.map fstS) : List Dv) = txs (A.map fstS ++ B.map fstS) := by simp [txs]
  rw [e1]
  refine ⟨_, ls_new, sm.2, sm.1, ?_⟩
  have en : sortS (dedup (A.map fstS ++ B.map fstS)) = nmsD A B := rfl
  rw [en]
  have hD1'' := dc_app (o := Ob.lst (txs (nmsD A B))) (dc_app (o := Ob.lst (txs (A.map fstS ++ B.map fstS))) (dc_app (o := Ob.lst (txs (B.map fstS))) (dc_app (o := Ob.lst (txs (A.map fstS))) hD1')))
  have hD2'' := dc_app (o := Ob.lst (txs (nmsD A B))) (dc_app (o := Ob.lst (txs (A.map fstS ++ B.map fstS))) (dc_app (o := Ob.lst (txs (B.map fstS))) (dc_app (o := Ob.lst (txs (A.map fstS))) hD2)))
  have hL3 : lsAt (S2 ++ [Ob.lst (txs (A.map fstS))] ++ [Ob.lst (txs (B.map fstS))] ++ [Ob.lst (txs (A.map fstS ++ B.map fstS))] ++ [Ob.lst (txs (nmsD A B))]) (S2 ++ [Ob.lst (txs (A.map fstS))] ++ [Ob.lst (txs (B.map fstS))] ++ [Ob.lst (txs (A.map fstS ++ B.map fstS))]).length = some (txs (nmsD A B)) := ls_new
  have k3 : Kp [] S (S2 ++ [Ob.lst (txs (A.map fstS))] ++ [Ob.lst (txs (B.map fstS))] ++ [Ob.lst (txs (A.map fstS ++ B.map fstS))] ++ [Ob.lst (txs (nmsD A B))]) := (k1.trans k2).app.app.app.app
  generalize (S2 ++ [Ob.lst (txs (A.map fstS))] ++ [Ob.lst (txs (B.map fstS))] ++ [Ob.lst (txs (A.map fstS ++ B.map fstS))] ++ [Ob.lst (txs (nmsD A B))]) = S3 at *
  generalize (S2 ++ [Ob.lst (txs (A.map fstS))] ++ [Ob.lst (txs (B.map fstS))] ++ [Ob.lst (txs (A.map fstS ++ B.map fstS))]).length = r3 at *
  have nl := nms_len la lb
  walk_at "sm"
  refine k_lcF ?_
  walk_at "sm"
  refine ⟨_, it_ref hL3, txs (nmsD A B), fun d => ptB A B (strD d), id, Nat.le_refl _, by rw [List.length_map]; omega, fun i S k => it_at hL3 k (by simp), fun d S' hd k => ?_, fun S4 hL4 k4 => ?_⟩
  · obtain ⟨nm, _, rfl⟩ := List.mem_map.mp hd
    have h1 := k.dc (by simp) hD1''
    have h2 := k.dc (by simp) hD2''
    refine k_gN (k_tst (k_bin (k_get2 ?_)))
    walk_at "sm"
    refine ⟨by unfold isTy; dsimp only; rw [dcAt_iff.mp h1]; simp, ?_⟩
    walk_at "sm"
    refine ⟨_, _, _, rfl, rfl, h1, ?_⟩
    rw [val_keys]
    refine k_get2 ?_
    walk_at "sm"
    refine ⟨by unfold isTy; dsimp only; rw [dcAt_iff.mp h2]; simp, ?_⟩
    walk_at "sm"
    refine ⟨_, _, _, rfl, rfl, h2, ?_⟩
    rw [val_keys]
    refine k_neO (getF_op hA nm) (getF_op hB nm) ⟨_, rfl, rfl, Kp.refl, fun _ => ?_⟩
    walk_at "sm"
    exact Kp.refl
  · rw [filt_txs] at hL4
    exact ⟨_, rfl, k3.1, hL4, k3.trans k4⟩
/-! ### both ways about, with itself -/
theorem neV_comm (x y : Dv) : neV x y = neV y x := by
  unfold neV
  rw [PySem.W.eqv_comm]
theorem nms_comm (A B : List Dv) : nmsD A B = nmsD B A := by
  unfold nmsD
  have p : (dedup (A.map fstS ++ B.map fstS)).Perm (dedup (B.map fstS ++ A.map fstS)) := nodup_perm (dedup_nodup _) (dedup_nodup _) fun x => by
    rw [dedup_mem, dedup_mem, List.mem_append, List.mem_append]
    exact Or.comm
  have p1 : (sortS (dedup (A.map fstS ++ B.map fstS))).Pairwise fun a b => leS a b = true := sorted_leS _
  have p2 : (sortS (dedup (B.map fstS ++ A.map fstS))).Pairwise fun a b => leS a b = true := sorted_leS _
  refine List.Perm.eq_of_pairwise (fun a b _ _ h1 h2 => ?_) p1 p2 ((sort_perm _).trans (p.trans (sort_perm _).symm))
  exact str_ext (List.le_antisymm (leS_iff.mp h1) (leS_iff.mp h2))
theorem part_comm (A B : List Dv) : partD A B = partD B A := by
  unfold partD
  rw [nms_comm]
  congr 1
  funext nm
  exact neV_comm _ _
end K61

namespace K61
open PySem L2 Sm
local macro_rules | `(tactic| walk_at "sm") => `(tactic| repeat (first | with_reducible refine k_it ?_ | with_reducible refine k_rng1 ?_ | with_reducible refine k_enS ?_ | with_reducible refine k_enL ?_ | with_reducible refine k_zipT ?_ | with_reducible refine k_pn ?_ | with_reducible refine k_pc ?_ | with_reducible refine k_c ?_ | with_reducible refine k_bin ?_ | with_reducible refine k_nil ?_ | with_reducible refine k_cons ?_ | with_reducible refine k_tup ?_ | with_reducible refine k_lst ?_ | with_reducible refine k_tst ?_ | with_reducible refine k_and ?_ | with_reducible refine k_or ?_ | with_reducible refine k_not ?_ | with_reducible refine k_ifE ?_ | with_reducible refine k_sub ?_ | with_reducible refine k_ltX ?_ | with_reducible refine k_ltSX ?_ | with_reducible refine k_lt ?_ | with_reducible refine k_le ?_ | with_reducible refine k_gt ?_ | with_reducible refine k_ge ?_ | with_reducible refine k_neg ?_ | with_reducible refine k_two ?_ | with_reducible refine k_addI ?_ | with_reducible refine k_eqS ?_ | with_reducible refine k_neS ?_ | with_reducible refine k_eqI ?_ | with_reducible refine k_neI ?_ | with_reducible refine k_slT ?_ | with_reducible refine k_sl ?_ | with_reducible refine k_no ?_ | with_reducible refine k_pt ?_ | with_reducible refine k_app ?_ | with_reducible refine k_intI ?_ | with_reducible refine k_intB ?_ | with_reducible refine k_mtS ?_ | with_reducible refine k_mtL ?_ | with_reducible refine k_mtD ?_ | with_reducible refine k_andV ?_ | with_reducible refine k_orV ?_ | with_reducible refine k_notV ?_ | with_reducible refine k_call ?_ | with_reducible refine k_dnew ?_ | with_reducible refine k_fmt ?_ | with_reducible refine k_js0 ?_ | with_reducible refine k_js ?_ | with_reducible refine k_gN ?_ | with_reducible refine k_gC ?_ | with_reducible refine k_g0 ?_ | with_reducible refine k_gStar ?_ | with_reducible refine k_gS ?_ | with_reducible refine k_kget ?_ | with_reducible refine k_un ?_ | with_reducible refine k_revT ?_ | with_reducible refine k_inSX ?_ | with_reducible refine s_set ?_ | with_reducible refine s_drop ?_ | with_reducible refine s_asg ?_ | with_reducible refine s_if ?_ | with_reducible refine s_nx ?_ | with_reducible refine s_ret ?_ | with_reducible refine s_seq ?_ | with_reducible refine l_ret ?_ | with_reducible refine l_set ?_ | with_reducible refine l_drop ?_ | with_reducible refine l_asg ?_ | with_reducible refine l_nx ?_ | with_reducible refine l_if ?_ | ((with_reducible apply k_var); rfl) | ((with_reducible apply k_ixT); rfl) | ((with_reducible apply k_inT); rfl; rfl) | ((with_reducible apply k_in); rfl; rfl; rfl) | ((with_reducible refine k_gT ?_ ?_); rfl) | ((with_reducible apply k_isi); rfl; rfl) | ((with_reducible apply k_isiT); rfl; rfl) | ((with_reducible apply k_lenL); (focus ((repeat (first | exact ls_new | assumption | refine ls_app ?_)); done)); (focus (first | (simp only [List.length_cons, List.length_nil, List.length_map]; rfl) | rfl))) | ((with_reducible apply k_lenT); (focus (first | (simp only [List.length_cons, List.length_nil, List.length_map]; rfl) | rfl))) | ((with_reducible apply k_lenS); (focus assumption)) | ((with_reducible apply k_ixL); (focus ((repeat (first | exact ls_new | assumption | refine ls_app ?_)); done)); rfl) | with_reducible refine And.intro (fun _ => ?_) (fun h => absurd h (by decide +kernel)) | with_reducible refine And.intro (fun h => absurd h (by decide +kernel)) (fun _ => ?_) | ((with_reducible refine And.intro ?_ ?_); rfl) | ((with_reducible apply Exists.intro); (with_reducible apply And.intro); rfl)))
local macro_rules | `(tactic| walk_at "smb") => `(tactic| repeat' (first | with_reducible refine k_it ?_ | with_reducible refine k_rng1 ?_ | with_reducible refine k_enS ?_ | with_reducible refine k_enL ?_ | with_reducible refine k_zipT ?_ | with_reducible refine k_pn ?_ | with_reducible refine k_pc ?_ | with_reducible refine k_c ?_ | with_reducible refine k_bin ?_ | with_reducible refine k_nil ?_ | with_reducible refine k_cons ?_ | with_reducible refine k_tup ?_ | with_reducible refine k_lst ?_ | with_reducible refine k_tst ?_ | with_reducible refine k_and ?_ | with_reducible refine k_or ?_ | with_reducible refine k_not ?_ | with_reducible refine k_ifE ?_ | with_reducible refine k_sub ?_ | with_reducible refine k_ltX ?_ | with_reducible refine k_ltSX ?_ | with_reducible refine k_lt ?_ | with_reducible refine k_le ?_ | with_reducible refine k_gt ?_ | with_reducible refine k_ge ?_ | with_reducible refine k_neg ?_ | with_reducible refine k_two ?_ | with_reducible refine k_addI ?_ | with_reducible refine k_eqS ?_ | with_reducible refine k_neS ?_ | with_reducible refine k_eqI ?_ | with_reducible refine k_neI ?_ | with_reducible refine k_slT ?_ | with_reducible refine k_sl ?_ | with_reducible refine k_no ?_ | with_reducible refine k_pt ?_ | with_reducible refine k_app ?_ | with_reducible refine k_intI ?_ | with_reducible refine k_intB ?_ | with_reducible refine k_mtS ?_ | with_reducible refine k_mtL ?_ | with_reducible refine k_mtD ?_ | with_reducible refine k_andV ?_ | with_reducible refine k_orV ?_ | with_reducible refine k_notV ?_ | with_reducible refine k_call ?_ | with_reducible refine k_dnew ?_ | with_reducible refine k_fmt ?_ | with_reducible refine k_js0 ?_ | with_reducible refine k_js ?_ | with_reducible refine k_gN ?_ | with_reducible refine k_gC ?_ | with_reducible refine k_g0 ?_ | with_reducible refine k_gStar ?_ | with_reducible refine k_gS ?_ | with_reducible refine k_kget ?_ | with_reducible refine k_un ?_ | with_reducible refine k_revT ?_ | with_reducible refine k_inSX ?_ | with_reducible refine s_set ?_ | with_reducible refine s_drop ?_ | with_reducible refine s_asg ?_ | with_reducible refine s_if ?_ | with_reducible refine s_nx ?_ | with_reducible refine s_ret ?_ | with_reducible refine s_seq ?_ | with_reducible refine l_ret ?_ | with_reducible refine l_set ?_ | with_reducible refine l_drop ?_ | with_reducible refine l_asg ?_ | with_reducible refine l_nx ?_ | with_reducible refine l_if ?_ | ((with_reducible apply k_var); rfl) | ((with_reducible apply k_ixT); rfl) | ((with_reducible apply k_inT); rfl; rfl) | ((with_reducible apply k_in); rfl; rfl; rfl) | ((with_reducible refine k_gT ?_ ?_); rfl) | ((with_reducible apply k_isi); rfl; rfl) | ((with_reducible apply k_isiT); rfl; rfl) | ((with_reducible apply k_lenL); (focus ((repeat' (first | exact ls_new | assumption | refine ls_app ?_)); done)); (focus (first | (simp only [List.length_cons, List.length_nil, List.length_map]; rfl) | rfl))) | ((with_reducible apply k_lenT); (focus (first | (simp only [List.length_cons, List.length_nil, List.length_map]; rfl) | rfl))) | ((with_reducible apply k_lenS); (focus assumption)) | ((with_reducible apply k_ixL); (focus ((repeat' (first | exact ls_new | assumption | refine ls_app ?_)); done)); rfl) | with_reducible refine And.intro (fun _ => ?_) (fun h => absurd h (by decide +kernel)) | with_reducible refine And.intro (fun h => absurd h (by decide +kernel)) (fun _ => ?_) | ((with_reducible refine And.intro ?_ ?_); rfl) | ((with_reducible apply Exists.intro); (with_reducible apply And.intro); rfl) | with_reducible refine And.intro (fun _ => ?_) (fun _ => ?_)))
local macro_rules | `(tactic| walk_at "smv") => `(tactic| repeat (first | exact val_hitS (by decide +kernel) | refine (val_missS (by decide +kernel)).trans ?_))
local macro_rules | `(tactic| walk_at "smd") => `(tactic| repeat (first | exact dc_new | exact ls_new | refine dc_app ?_ | refine ls_app ?_))
/-! ### lists of texts told apart -/
theorem txs_py {ts : List Str} (h : ∀ t ∈ ts, PyData.strOk t = true) : Pys (txs ts) 0 := Pys.all fun d hd => by
  obtain ⟨t, ht, rfl⟩ := List.mem_map.mp hd
  exact Py.str (h t ht)
theorem ref_py {l : Nat} {ds : List Dv} {B : Nat} {S : Store} (h : lsAt S l = some ds) (hp : Pys ds B) : ∃ ps, toPy S (.ref l) = some (.list ps) ∧ PyData.canLayAll0 ps = true ∧ PyData.depthAll ps ≤ B ∧ (∀ r, toPysW r ds = some ps) := by
  obtain ⟨ps, e, c, dp, ln⟩ := hp
  refine ⟨ps, ?_, c, dp, e⟩
  unfold toPy toPyW rdr
  rw [h]
  show (toPysW (rdr S 2) ds).map PyData.list = _
  rw [e]; rfl
theorem list_ok {ps : List PyData} {B : Nat} (c : PyData.canLayAll0 ps = true) (d : PyData.depthAll ps ≤ B) (hB : B ≤ 60) : eqOk (.list ps) = true ∧ PyData.canLay0 (.list ps) = true := by
  have h1 : PyData.canLay0 (.list ps) = true := by unfold PyData.canLay0; exact c
  exact ⟨py_ok (B := B + 1) h1 (by unfold PyData.depth; omega) (by omega), h1⟩
/-- two lists of the same data -/
theorem k_eqSame {l m : Nat} {ds : List Dv} {B : Nat} {S : Store} {Q : Dv → Store → Prop} (h : lsAt S l = some ds) (h2 : lsAt S m = some ds) (hp : Pys ds B) (hB : B ≤ 60) (q : Q (.bl true) S) : Ok (dEq (.ref l) (.ref m) S) Q := by
  obtain ⟨ps, e1, c, d, e⟩ := ref_py h hp
  obtain ⟨ps', e1', c', d', e'⟩ := ref_py h2 hp
  have : ps = ps' := Option.some.inj ((e (fun _ => none)).symm.trans (e' _))
  subst this
  refine k_eq rfl e1 e1' (list_ok c d hB).1 (list_ok c d hB).1 ?_
  rw [SeqAt.eqv_refl _ (list_ok c d hB).2]; exact q
theorem k_neSame {l m : Nat} {ds : List Dv} {B : Nat} {S : Store} {Q : Dv → Store → Prop} (h : lsAt S l = some ds) (h2 : lsAt S m = some ds) (hp : Pys ds B) (hB : B ≤ 60) (q : Q (.bl false) S) : Ok (dNe (.ref l) (.ref m) S) Q := by
  obtain ⟨ps, e1, c, d, e⟩ := ref_py h hp
  obtain ⟨ps', e1', c', d', e'⟩ := ref_py h2 hp
  have : ps = ps' := Option.some.inj ((e (fun _ => none)).symm.trans (e' _))
  subst this
  refine k_ne rfl e1 e1' (list_ok c d hB).1 (list_ok c d hB).1 ?_
  rw [SeqAt.eqv_refl _ (list_ok c d hB).2]; exact q
theorem ty_ls {S : Store} {l : Nat} {ds : List Dv} (h : lsAt S l = some ds) : tyOf S (.ref l) = some .list := by
  have := lsAt_iff.mp h
  unfold tyOf
  dsimp only
  rw [this]
theorem sort_ls {m l : Nat} {ds : List Dv} {S : Store} (h : lsAt S l = some ds) : Ok (callT (m + 1) .l_sort [.ref l] S) (Pt "list" S) := by
  refine w_of (f := .l_sort) ?_
  show Ok (b_l_sort (callT m) [some (.ref l)] S) _
  unfold b_l_sort
  have ht := ty_ls h
  walk_at "sm"
  refine k_isi ht rfl ?_
  walk_at "sm"
  refine k_isi ht rfl ?_
  walk_at "sm"
  refine k_isi ht rfl ?_
  walk_at "sm"
  refine k_isi ht rfl ?_
  walk_at "sm"
  exact ⟨rfl, Kp.refl⟩
theorem sort_str {m : Nat} {x : Str} {S : Store} : Ok (callT (m + 1) .l_sort [.str x] S) (Pt "other" S) := by
  refine w_of (f := .l_sort) ?_
  show Ok (b_l_sort (callT m) [some (.str x)] S) _
  unfold b_l_sort
  walk_at "sm"
  exact ⟨rfl, Kp.refl⟩
theorem same_str {m : Nat} {x : Str} {S : Store} : Ok (callT (m + 2) .l_same [.str x, .str x] S) fun r S' => r = .bl true ∧ Kp [] S S' := by
  refine w_of (f := .l_same) ?_
  show Ok (b_l_same (callT (m + 1)) [some (.str x), some (.str x), none, none] S) _
  unfold b_l_same
  walk_at "sm"
  refine sort_str.imp fun v S1 ⟨ev, k1⟩ => ?_
  subst ev
  walk_at "sm"
  refine sort_str.imp fun v S2 ⟨ev, k2⟩ => ?_
  subst ev
  walk_at "sm"
  refine ⟨by rw [decide_eq_true rfl], k1.trans k2⟩
/-- the pairs of enumerate -/
def enumD (xs : List Dv) : List Dv := xs.zipIdx.map fun p => .tup [.int (p.2 : Nat), p.1]
theorem enum_at (xs : List Dv) (i : Nat) : (enumD xs)[i]? = xs[i]?.map fun x => Dv.tup [.int (i : Nat), x] := by
  unfold enumD
  rw [List.getElem?_map, List.getElem?_zipIdx]
  cases xs[i]? with
  | none => rfl
  | some x => simp
theorem enum_len (xs : List Dv) : (enumD xs).length = xs.length := by simp [enumD]
theorem same_ls {m a b : Nat} {ts : List Str} {S : Store} (ha : lsAt S a = some (txs ts)) (hb : lsAt S b = some (txs ts)) (hl : ts.length ≤ 1000) : Ok (callT (m + 3) .l_same [.ref a, .ref b] S) fun r S' => r = .bl true ∧ Kp [] S S' := by
  refine w_of (f := .l_same) ?_
  show Ok (b_l_same (callT (m + 2)) [some (.ref a), some (.ref b), none, none] S) _
  unfold b_l_same
  walk_at "sm"
  refine (sort_ls ha).imp fun v S1 ⟨ev, k1⟩ => ?_
  subst ev
  have ha1 := k1.ls (by simp) ha
  have hb1 := k1.ls (by simp) hb
  walk_at "sm"
  refine (sort_ls hb1).imp fun v S2 ⟨ev, k2⟩ => ?_
  subst ev
  have ha2 := k2.ls (by simp) ha1
  have hb2 := k2.ls (by simp) hb1
  have ht := ty_ls ha2
  walk_at "sm"
  refine k_isiT ht rfl ?_
  walk_at "sm"
  refine ⟨fun e => (by rw [decide_eq_true rfl] at e; cases e), fun _ => ?_⟩
  walk_at "sm"
  refine k_lcF ?_
  walk_at "sm"
  refine ⟨_, _, rfl, ha2, ?_⟩
  refine ⟨enumD (txs ts), fun _ => false, id, by rw [enum_len]; exact Nat.le_refl _, by rw [enum_len, List.length_map]; omega, fun i S k => ?_, fun d S' hd k => ?_, fun S3 hL3 k3 => ?_⟩
  · dsimp only
    rw [k.ls (by simp) ha2, enum_at]
    rfl
  · obtain ⟨i, hi⟩ := List.mem_iff_getElem?.mp hd
    rw [enum_at] at hi
    obtain ⟨x, hx, rfl⟩ := Option.map_eq_some_iff.mp hi
    obtain ⟨t, _, rfl⟩ := List.mem_map.mp (List.mem_of_getElem? hx)
    have hb3 := k.ls (by simp) hb2
    walk_at "sm"
    refine k_ixL hb3 (atI_nat hx) ?_
    walk_at "sm"
    refine same_str.imp fun v S4 ⟨ev, k4⟩ => ?_
    subst ev
    exact ⟨_, rfl, rfl, k4, fun z => by cases z⟩
  · have e0 : ((enumD (txs ts)).filter fun _ => false).map id = [] := by simp
    rw [e0] at hL3
    walk_at "sm"
    refine k_eqSame (B := 0) (ls_app hL3) ls_new Pys.nil (by decide) ?_
    exact ⟨rfl, ((k1.trans k2).trans k3).app⟩
/-! ### the functions of a name -/
def lstF (A : List Dv) (nm : Str) : List Dv := A.filter fun d => decide (fstS d = nm)
theorem lstF_eq {nm : Str} : ∀ {A : List Dv}, (A.map fstS).Nodup → (getF A nm = .non ∧ lstF A nm = []) ∨ lstF A nm = [getF A nm] ∧ ∃ f ∈ A, getF A nm = f
  | [], _ => .inl ⟨rfl, rfl⟩
  | d :: A, h => by
    rw [List.map_cons, List.nodup_cons] at h
    by_cases e : fstS d = nm
    · right
      have e1 : getF (d :: A) nm = d := by
        unfold getF
        rw [List.find?_cons, decide_eq_true e]; rfl
      have e2 : lstF A nm = [] := by
        unfold lstF
        rw [List.filter_eq_nil_iff]
        intro x hx
        simp only [decide_eq_true_eq]
        intro z
        exact h.1 (by rw [e, ← z]; exact List.mem_map_of_mem hx)
      have e3 : lstF (d :: A) nm = d :: lstF A nm := by
        unfold lstF
        rw [List.filter_cons, if_pos (decide_eq_true e)]
      rw [e3, e2, e1]
      exact ⟨rfl, d, List.mem_cons_self, rfl⟩
    · have e1 : getF (d :: A) nm = getF A nm := by
        unfold getF
        rw [List.find?_cons, decide_eq_false e]
      have e3 : lstF (d :: A) nm = lstF A nm := by
        unfold lstF
        rw [List.filter_cons, if_neg (by rw [decide_eq_false e]; decide)]
      rw [e1, e3]
      rcases lstF_eq (nm := nm) h.2 with h1 | ⟨h1, f, hf, h2⟩
      · exact .inl h1
      · exact .inr ⟨h1, f, List.mem_cons_of_mem _ hf, h2⟩
theorem pyv_of {d : Dv} {B : Nat} (h : Py d B) : ∃ p, (∀ r, toPyW r d = some p) ∧ pyv d = p ∧ p.canLay0 = true ∧ p.depth ≤ B := by
  obtain ⟨p, a, b, c⟩ := h
  exact ⟨p, a, by unfold pyv; rw [a]; rfl, b, c⟩
theorem pyv_tup {e : Nat} {d : Dv} (h : FnD e d) (he : e ≤ 11) : ∃ ps, pyv d = .tuple ps := by
  obtain ⟨p, a, b, _, _⟩ := pyv_of (h.py he)
  obtain ⟨h', r, rfl⟩ := h.tupv
  have := a (fun _ => none)
  unfold toPyW at this
  obtain ⟨ps, _, e⟩ := Option.map_eq_some_iff.mp this
  exact ⟨ps, by rw [b, ← e]⟩
theorem eqv_one (p q : PyData) : PyData.eqv (.list [p]) (.list [q]) = PyData.eqv p q := by
  simp [PyData.eqv, PyData.eqvAll]
theorem k_neLst {A B : List Dv} {nm : Str} {l m : Nat} {S : Store} {Q : Dv → Store → Prop} (hA : PrD A) (hB : PrD B) (h : lsAt S l = some (lstF A nm)) (h2 : lsAt S m = some (lstF B nm)) (q : Q (.bl (ptB A B nm)) S) : Ok (dNe (.ref l) (.ref m) S) Q := by
  have pA : ∀ {C : List Dv}, PrD C → Pys (lstF C nm) 30 := fun {C} hC => Pys.all fun d hd => (hC.2.2 d (List.mem_filter.mp hd).1).py (by omega)
  obtain ⟨ps, e1, c, d, e⟩ := ref_py h (pA hA)
  obtain ⟨qs, e1', c', d', e'⟩ := ref_py h2 (pA hB)
  refine k_ne rfl e1 e1' (list_ok c d (by decide)).1 (list_ok c' d' (by decide)).1 ?_
  have key : (!PyData.eqv (.list ps) (.list qs)) = ptB A B nm := by
    have e := e (fun _ => none)
    have e' := e' (fun _ => none)
    have one : ∀ {x : Dv} {zs : List PyData}, FnD 10 x → toPysW (fun _ => none) [x] = some zs → zs = [pyv x] := fun {x zs} hx hz => by
      obtain ⟨p, a, b, _, _⟩ := pyv_of (hx.py (by omega))
      unfold toPysW at hz
      rw [a] at hz
      have nilE : toPysW (fun _ => none) [] = some [] := by unfold toPysW; rfl
      rw [nilE] at hz
      cases hz
      rw [b]
    have nil : ∀ {zs : List PyData}, toPysW (fun _ => none) [] = some zs → zs = [] := fun {zs} hz => by
      unfold toPysW at hz
      cases hz; rfl
    unfold ptB neV
    congr 1
    rcases lstF_eq (nm := nm) hA.2.1 with ⟨a1, a2⟩ | ⟨a1, f, hf, a2⟩ <;> rcases lstF_eq (nm := nm) hB.2.1 with ⟨b1, b2⟩ | ⟨b1, g, hg, b2⟩
    · rw [a2] at e
      rw [b2] at e'
      rw [nil e, nil e', a1, b1, pyv_non]
      simp [PyData.eqv, PyData.eqvAll]
    · rw [a2] at e
      rw [b1] at e'
      have hx := hB.2.2 g hg
      rw [b2] at e' ⊢
      rw [nil e, one hx e', a1, pyv_non]
      obtain ⟨zs, ez⟩ := pyv_tup hx (by omega)
      rw [ez]
      simp [PyData.eqv, PyData.eqvAll]
    · rw [a1] at e
      rw [b2] at e'
      have hx := hA.2.2 f hf
      rw [a2] at e ⊢
      rw [one hx e, nil e', b1, pyv_non]
      obtain ⟨zs, ez⟩ := pyv_tup hx (by omega)
      rw [ez]
      simp [PyData.eqv, PyData.eqvAll]
    · rw [a1] at e
      rw [b1] at e'
      have hx := hA.2.2 f hf
      have hy := hB.2.2 g hg
      rw [a2] at e ⊢
      rw [b2] at e' ⊢
      rw [one hx e, one hy e', eqv_one]
  rw [key]; exact q
theorem part_self {A : List Dv} (hA : PrD A) : partD A A = [] := by
  unfold partD
  rw [List.filter_eq_nil_iff]
  intro nm _
  unfold ptB neV
  have : PyData.eqv (pyv (getF A nm)) (pyv (getF A nm)) = true := by
    rcases getF_op hA nm with h | h
    · rw [h, pyv_non]; simp [PyData.eqv]
    · obtain ⟨p, a, b, c, _⟩ := pyv_of (h.py (by omega))
      rw [b]
      exact SeqAt.eqv_refl _ c
  rw [this]; decide
theorem part_nil {A : List Dv} (hA : PrD A) (hn : A.map fstS = fnN) : partD [] A = fnN := by
  unfold partD nmsD
  rw [hn]
  have e0 : dedup (([] : List Dv).map fstS ++ fnN) = fnN := by decide +kernel
  have e1 : sortS (dedup (([] : List Dv).map fstS ++ fnN)) = fnN := by
    rw [e0]
    have p2 : fnN.Pairwise fun a b => leS a b = true := by decide +kernel
    refine List.Perm.eq_of_pairwise (fun a b _ _ h1 h2 => ?_) (sorted_leS _) p2 (sort_perm _)
    exact str_ext (List.le_antisymm (leS_iff.mp h1) (leS_iff.mp h2))
  rw [e1, List.filter_eq_self]
  intro nm hm
  rw [← hn] at hm
  obtain ⟨f, hf, e⟩ := List.mem_map.mp hm
  unfold ptB neV
  have hg : getF [] nm = .non := rfl
  rw [hg, pyv_non]
  rcases getF_or hA nm with h | ⟨g, hg', _, eg⟩
  · unfold getF at h
    have := List.find?_isSome (p := fun d => decide (fstS d = nm)) (xs := A)
    have h3 : (A.find? fun d => decide (fstS d = nm)).isSome = true := this.mpr ⟨f, hf, by simp [e]⟩
    obtain ⟨g, hg2⟩ := Option.isSome_iff_exists.mp h3
    rw [hg2] at h
    have h4 : g = .non := h
    obtain ⟨_, _, q⟩ := (hA.2.2 g (List.mem_of_find?_eq_some hg2)).tupv
    rw [h4] at q; cases q
  · rw [eg]
    obtain ⟨zs, ez⟩ := pyv_tup (hA.2.2 g hg') (by omega)
    rw [ez]
    simp [PyData.eqv]
theorem nms_ok {A B : List Dv} (hA : PrD A) (hB : PrD B) : ∀ t ∈ nmsD A B, PyData.strOk t = true := fun t ht => by
  have := (dedup_mem).mp ((sort_perm _).mem_iff.mp ht)
  have one : ∀ {C : List Dv}, PrD C → t ∈ C.map fstS → PyData.strOk t = true := fun {C} hC h => by
    obtain ⟨f, hf, rfl⟩ := List.mem_map.mp h
    obtain ⟨nm, _, _, rfl, h1, _⟩ := hC.2.2 f hf
    exact h1.2
  exact (List.mem_append.mp this).elim (one hA) (one hB)
theorem part_ok {A B : List Dv} (hA : PrD A) (hB : PrD B) : ∀ t ∈ partD A B, PyData.strOk t = true := fun t ht => nms_ok hA hB t (List.mem_filter.mp ht).1
theorem part_len {A B : List Dv} (hA : PrD A) (hB : PrD B) : (partD A B).length ≤ 12 := Nat.le_trans (List.length_filter_le _ _) (nms_len hA.1 hB.1)
end K61

namespace K61
open PySem L2 Sm
local macro_rules | `(tactic| walk_at "sm") => `(tactic| repeat (first | with_reducible refine k_it ?_ | with_reducible refine k_rng1 ?_ | with_reducible refine k_enS ?_ | with_reducible refine k_enL ?_ | with_reducible refine k_zipT ?_ | with_reducible refine k_pn ?_ | with_reducible refine k_pc ?_ | with_reducible refine k_c ?_ | with_reducible refine k_bin ?_ | with_reducible refine k_nil ?_ | with_reducible refine k_cons ?_ | with_reducible refine k_tup ?_ | with_reducible refine k_lst ?_ | with_reducible refine k_tst ?_ | with_reducible refine k_and ?_ | with_reducible refine k_or ?_ | with_reducible refine k_not ?_ | with_reducible refine k_ifE ?_ | with_reducible refine k_sub ?_ | with_reducible refine k_ltX ?_ | with_reducible refine k_ltSX ?_ | with_reducible refine k_lt ?_ | with_reducible refine k_le ?_ | with_reducible refine k_gt ?_ | with_reducible refine k_ge ?_ | with_reducible refine k_neg ?_ | with_reducible refine k_two ?_ | with_reducible refine k_addI ?_ | with_reducible refine k_eqS ?_ | with_reducible refine k_neS ?_ | with_reducible refine k_eqI ?_ | with_reducible refine k_neI ?_ | with_reducible refine k_slT ?_ | with_reducible refine k_sl ?_ | with_reducible refine k_no ?_ | with_reducible refine k_pt ?_ | with_reducible refine k_app ?_ | with_reducible refine k_intI ?_ | with_reducible refine k_intB ?_ | with_reducible refine k_mtS ?_ | with_reducible refine k_mtL ?_ | with_reducible refine k_mtD ?_ | with_reducible refine k_andV ?_ | with_reducible refine k_orV ?_ | with_reducible refine k_notV ?_ | with_reducible refine k_call ?_ | with_reducible refine k_dnew ?_ | with_reducible refine k_fmt ?_ | with_reducible refine k_js0 ?_ | with_reducible refine k_js ?_ | with_reducible refine k_gN ?_ | with_reducible refine k_gC ?_ | with_reducible refine k_g0 ?_ | with_reducible refine k_gStar ?_ | with_reducible refine k_gS ?_ | with_reducible refine k_kget ?_ | with_reducible refine k_un ?_ | with_reducible refine k_revT ?_ | with_reducible refine k_inSX ?_ | with_reducible refine s_set ?_ | with_reducible refine s_drop ?_ | with_reducible refine s_asg ?_ | with_reducible refine s_if ?_ | with_reducible refine s_nx ?_ | with_reducible refine s_ret ?_ | with_reducible refine s_seq ?_ | with_reducible refine l_ret ?_ | with_reducible refine l_set ?_ | with_reducible refine l_drop ?_ | with_reducible refine l_asg ?_ | with_reducible refine l_nx ?_ | with_reducible refine l_if ?_ | ((with_reducible apply k_var); rfl) | ((with_reducible apply k_ixT); rfl) | ((with_reducible apply k_inT); rfl; rfl) | ((with_reducible apply k_in); rfl; rfl; rfl) | ((with_reducible refine k_gT ?_ ?_); rfl) | ((with_reducible apply k_isi); rfl; rfl) | ((with_reducible apply k_isiT); rfl; rfl) | ((with_reducible apply k_lenL); (focus ((repeat (first | exact ls_new | assumption | refine ls_app ?_)); done)); (focus (first | (simp only [List.length_cons, List.length_nil, List.length_map]; rfl) | rfl))) | ((with_reducible apply k_lenT); (focus (first | (simp only [List.length_cons, List.length_nil, List.length_map]; rfl) | rfl))) | ((with_reducible apply k_lenS); (focus assumption)) | ((with_reducible apply k_ixL); (focus ((repeat (first | exact ls_new | assumption | refine ls_app ?_)); done)); rfl) | with_reducible refine And.intro (fun _ => ?_) (fun h => absurd h (by decide +kernel)) | with_reducible refine And.intro (fun h => absurd h (by decide +kernel)) (fun _ => ?_) | ((with_reducible refine And.intro ?_ ?_); rfl) | ((with_reducible apply Exists.intro); (with_reducible apply And.intro); rfl)))
local macro_rules | `(tactic| walk_at "smb") => `(tactic| repeat' (first | with_reducible refine k_it ?_ | with_reducible refine k_rng1 ?_ | with_reducible refine k_enS ?_ | with_reducible refine k_enL ?_ | with_reducible refine k_zipT ?_ | with_reducible refine k_pn ?_ | with_reducible refine k_pc ?_ | with_reducible refine k_c ?_ | with_reducible refine k_bin ?_ | with_reducible refine k_nil ?_ | with_reducible refine k_cons ?_ | with_reducible refine k_tup ?_ | with_reducible refine k_lst ?_ | with_reducible refine k_tst ?_ | with_reducible refine k_and ?_ | with_reducible refine k_or ?_ | with_reducible refine k_not ?_ | with_reducible refine k_ifE ?_ | with_reducible refine k_sub ?_ | with_reducible refine k_ltX ?_ | with_reducible refine k_ltSX ?_ | with_reducible refine k_lt ?_ | with_reducible refine k_le ?_ | with_reducible refine k_gt ?_ | with_reducible refine k_ge ?_ | with_reducible refine k_neg ?_ | with_reducible refine k_two ?_ | with_reducible refine k_addI ?_ | with_reducible refine k_eqS ?_ | with_reducible refine k_neS ?_ | with_reducible refine k_eqI ?_ | with_reducible refine k_neI ?_ | with_reducible refine k_slT ?_ | with_reducible refine k_sl ?_ | with_reducible refine k_no ?_ | with_reducible refine k_pt ?_ | with_reducible refine k_app ?_ | with_reducible refine k_intI ?_ | with_reducible refine k_intB ?_ | with_reducible refine k_mtS ?_ | with_reducible refine k_mtL ?_ | with_reducible refine k_mtD ?_ | with_reducible refine k_andV ?_ | with_reducible refine k_orV ?_ | with_reducible refine k_notV ?_ | with_reducible refine k_call ?_ | with_reducible refine k_dnew ?_ | with_reducible refine k_fmt ?_ | with_reducible refine k_js0 ?_ | with_reducible refine k_js ?_ | with_reducible refine k_gN ?_ | with_reducible refine k_gC ?_ | with_reducible refine k_g0 ?_ | with_reducible refine k_gStar ?_ | with_reducible refine k_gS ?_ | with_reducible refine k_kget ?_ | with_reducible refine k_un ?_ | with_reducible refine k_revT ?_ | with_reducible refine k_inSX ?_ | with_reducible refine s_set ?_ | with_reducible refine s_drop ?_ | with_reducible refine s_asg ?_ | with_reducible refine s_if ?_ | with_reducible refine s_nx ?_ | with_reducible refine s_ret ?_ | with_reducible refine s_seq ?_ | with_reducible refine l_ret ?_ | with_reducible refine l_set ?_ | with_reducible refine l_drop ?_ | with_reducible refine l_asg ?_ | with_reducible refine l_nx ?_ | with_reducible refine l_if ?_ | ((with_reducible apply k_var); rfl) | ((with_reducible apply k_ixT); rfl) | ((with_reducible apply k_inT); rfl; rfl) | ((with_reducible apply k_in); rfl; rfl; rfl) | ((with_reducible refine k_gT ?_ ?_); rfl) | ((with_reducible apply k_isi); rfl; rfl) | ((with_reducible apply k_isiT); rfl; rfl) | ((with_reducible apply k_lenL); (focus ((repeat' (first | exact ls_new | assumption | refine ls_app ?_)); done)); (focus (first | (simp only [List.length_cons, List.length_nil, List.length_map]; rfl) | rfl))) | ((with_reducible apply k_lenT); (focus (first | (simp only [List.length_cons, List.length_nil, List.length_map]; rfl) | rfl))) | ((with_reducible apply k_lenS); (focus assumption)) | ((with_reducible apply k_ixL); (focus ((repeat' (first | exact ls_new | assumption | refine ls_app ?_)); done)); rfl) | with_reducible refine And.intro (fun _ => ?_) (fun h => absurd h (by decide +kernel)) | with_reducible refine And.intro (fun h => absurd h (by decide +kernel)) (fun _ => ?_) | ((with_reducible refine And.intro ?_ ?_); rfl) | ((with_reducible apply Exists.intro); (with_reducible apply And.intro); rfl) | with_reducible refine And.intro (fun _ => ?_) (fun _ => ?_)))
local macro_rules | `(tactic| walk_at "smv") => `(tactic| repeat (first | exact val_hitS (by decide +kernel) | refine (val_missS (by decide +kernel)).trans ?_))
local macro_rules | `(tactic| walk_at "smd") => `(tactic| repeat (first | exact dc_new | exact ls_new | refine dc_app ?_ | refine ls_app ?_))
theorem PrD.fst {A : List Dv} (hA : PrD A) {i : Nat} {d : Dv} (h : A[i]? = some d) : ∃ nm r, d = .tup (.str nm :: r) ∧ fstS d = nm := by
  obtain ⟨nm, ns, b, rfl, _⟩ := hA.2.2 d (List.mem_of_getElem? h)
  exact ⟨nm, _, rfl, rfl⟩
/-- the first places of the functions -/
theorem lc_fst {ci : CI} {δ : Env'} {S : Store} {Q : Dv → Store → Prop} {X : List Dv} (hX : ∀ d ∈ X, ∃ nm r, d = .tup (.str nm :: r)) (hl : X.length ≤ 1000) (ho : 10 < δ.length)
    (h : Ok (ci δ S) fun it S1 => X.length ≤ it.n ∧ (∀ i S, Kp [] S1 S → it.f i S = some X[i]?) ∧ ∀ S', lsAt S' S1.length = some (txs (X.map fstS)) → Kp [] S1 S' → Q (.ref S1.length) S') : Ok (cLc ci [10] (gN 10) cYes (cBin dIx (cVar 10) (cC (.int 0))) δ S) Q := by
  refine lc_txt (as := X) (ts := X.map fstS) ho (fun i a δ' S' ha hδ => ?_) (by rw [List.length_map]) (by omega) h
  obtain ⟨nm, r, rfl⟩ := hX a (List.mem_of_getElem? ha)
  refine ⟨nm, by rw [List.getElem?_map, ha]; rfl, k_bin (k_var hδ (k_c (k_ixT (atI_nat (j := 0) rfl) ⟨rfl, Kp.refl⟩)))⟩
theorem law_ok {ns : List Int} {S : Store} (hl : ns.length ≤ 63) : Ok (callT 60 .law [.frl (ns.map Dv.int)] S) fun v _ => v = .bl true := by
  refine w_of (f := .law) ?_
  show Ok (b_law (callT 59) [some (.frl (ns.map Dv.int)), none, none, none, none, none, none, none, none, none, none] S) _
  unfold b_law
  refine s_for (Ok.imp (P := fun it S0 => ∃ r cells, it = ⟨cells.length, fun i S => (lsAt S r).map fun ds => ds[i]?⟩ ∧ lsAt S0 r = some cells ∧ ∀ d ∈ cells, ∃ z, d = Dv.int z) ?_ ?_)
  · refine k_it (k_sl (k_bin ?_))
    walk_at "sm"
    refine k_addL (x := .ref _) ls_new rfl (by rw [List.length_map]; show 1 + ns.length ≤ _; omega) ?_
    walk_at "sm"
    refine k_slL (x := .ref _) ls_new ?_
    refine ⟨_, it_ref ls_new, _, _, rfl, ls_new, fun d hd => ?_⟩
    rcases List.mem_append.mp (cut_mem hd) with h | h
    · exact ⟨0, by simpa using h⟩
    · obtain ⟨z, _, rfl⟩ := List.mem_map.mp h
      exact ⟨z, rfl⟩
  rintro it S0 ⟨r, cells, rfl, h0, ci⟩
  refine ⟨fun i δ S => ∃ a1 a2 a3 a4 a5 a6 a7 a8 a9 a10, δ = [some (.frl (ns.map Dv.int)), a1, a2, a3, a4, a5, a6, a7, a8, a9, a10] ∧ Kp [] S0 S, ⟨_, _, _, _, _, _, _, _, _, _, rfl, Kp.refl⟩, ?_⟩
  rintro i δ S ⟨a1, a2, a3, a4, a5, a6, a7, a8, a9, a10, rfl, k0⟩
  have hcell := k0.ls (by simp) h0
  by_cases hi : cells.length ≤ i
  · left
    refine ⟨by dsimp only; rw [hcell]; show some cells[i]? = _; rw [List.getElem?_eq_none hi], ?_⟩
    walk_at "sm"
    exact rfl
  right
  have hlt : i < cells.length := by omega
  obtain ⟨z, hz⟩ := ci _ (List.getElem_mem hlt)
  refine ⟨hlt, .int z, by dsimp only; rw [hcell]; show some cells[i]? = _; rw [List.getElem?_eq_getElem hlt, hz], ?_⟩
  walk_at "sm"
  refine (deck_ok 58).imp fun v S1 ⟨l, ev, k1, d1, hl1⟩ => ?_
  subst ev
  have kk1 : Kp [] S0 S1 := k0.trans k1
  have l0 : S0.length ≤ l := Nat.le_trans k0.1 hl1
  walk_at "sm"
  refine (program_ok (by omega) d1 (by omega)).imp fun v S2 ⟨k2, d2, A, ev, hn, hA⟩ => ?_
  subst ev
  have kk2 := Kp.new kk1 k2 l0
  have pA : PrD A := PrD.of hn hA
  walk_at "sm"
  refine (other_ok (by omega) d2 (by omega) hA hn).imp fun v S3 ⟨k3, d3, B0, ev, pB0⟩ => ?_
  subst ev
  have kk3 := Kp.new kk2 k3 l0
  refine Ok.seq (Ok.imp (P := fun fl S4 => ∃ B, PrD B ∧ fl = .nx [some (.frl (ns.map Dv.int)), some (.int z), some (.ref l), some (.tup A), some (.tup B), a5, a6, a7, a8, a9, a10] ∧ Kp [] S3 S4) ?_ ?_)
  · refine l_if ?_
    walk_at "sm"
    refine use_b (prog_ok pB0 (by omega)) fun b S4 k4 => ⟨_, rfl, fun _ => ?_, fun _ => ?_⟩
    · walk_at "sm"
      exact ⟨A, pA, rfl, k4⟩
    · walk_at "sm"
      exact ⟨B0, pB0, rfl, k4⟩
  rintro fl S4 ⟨B, pB, rfl, k4⟩
  dsimp only
  have kk4 := kk3.trans k4
  have la := pA.1
  have lb := pB.1
  have nl := nms_len la lb
  have pl := part_len pA pB
  walk_at "sm"
  refine s_for ?_
  refine Ok.imp (P := fun it S6 => ∃ rn, it = ⟨(txs (nmsD A B)).length, fun i S => (lsAt S rn).map fun ds => ds[i]?⟩ ∧ lsAt S6 rn = some (txs (nmsD A B)) ∧ S4.length < rn ∧ Kp [] (S4 ++ [Ob.lst []]) S6) ?_ ?_
  · refine k_it (k_sortSet ?_)
    have hX : ∀ d ∈ A ++ B, ∃ nm r, d = .tup (.str nm :: r) := fun d hd => by
      rcases List.mem_append.mp hd with hd | hd
      · exact (pA.2.2 d hd).tupv
      · exact (pB.2.2 d hd).tupv
    refine lc_fst (X := A ++ B) hX (by rw [List.length_append]; omega) (by simp) ?_
    walk_at "sm"
    refine k_addT (by omega) ?_
    refine ⟨_, rfl, Nat.le_refl _, fun i S _ => rfl, fun S5 hL5 k5 => ?_⟩
    have sm := dedup_small la lb
    rw [List.map_append] at hL5
    refine ⟨A.map fstS ++ B.map fstS, hL5, sm.2, sm.1, ?_⟩
    refine ⟨_, it_ref ls_new, _, rfl, ls_new, ?_, k5.app⟩
    have := k5.1
    simp at this
    omega
  rintro it S6 ⟨rn, rfl, hrn, lrn, k6⟩
  have hdue0 := k6.ls (by simp) (ls_new (S := S4) (ds := []))
  refine ⟨fun i δ S' => ∃ a6 a8 a9, δ = [some (.frl (ns.map Dv.int)), some (.int z), some (.ref l), some (.tup A), some (.tup B), some (.ref S4.length), a6, a7, a8, a9, a10] ∧ Kp [S4.length] S6 S' ∧ lsAt S' S4.length = some (txs (((nmsD A B).take i).filter (ptB A B))) ∧ i ≤ (nmsD A B).length,
    ⟨_, _, _, rfl, Kp.refl, hdue0, Nat.zero_le _⟩, ?_⟩
  rintro j δ S7 ⟨a6, a8, a9, rfl, k7, hdue, hj⟩
  have hrn7 := k7.ls (not1 (by omega)) hrn
  by_cases hjl : j < (nmsD A B).length
  · right
    have hat : (nmsD A B)[j]? = some (nmsD A B)[j] := List.getElem?_eq_getElem hjl
    refine ⟨by show j < (txs (nmsD A B)).length; rw [List.length_map]; exact hjl, .str (nmsD A B)[j], by dsimp only; rw [hrn7]; show some (txs (nmsD A B))[j]? = _; rw [List.getElem?_map, hat]; rfl, ?_⟩
    have htk : (nmsD A B).take (j + 1) = (nmsD A B).take j ++ [(nmsD A B)[j]] := by rw [List.take_add_one, hat]; rfl
    have hln : (((nmsD A B).take j).filter (ptB A B)).length ≤ 12 := by
      have := List.length_filter_le (ptB A B) ((nmsD A B).take j)
      rw [List.length_take] at this
      omega
    generalize (nmsD A B)[j] = nm at htk
    walk_at "sm"
    refine k_lcF ?_
    walk_at "sm"
    refine ⟨A, fun d => decide (fstS d = nm), id, Nat.le_refl _, by omega, fun i S _ => rfl, fun d S' hd k => ?_, fun S8 hL8 k8 => ?_⟩
    · obtain ⟨n1, ns1, b1, rfl, _⟩ := pA.2.2 d hd
      walk_at "sm"
      refine ⟨Kp.refl, fun _ => ?_⟩
      walk_at "sm"
      exact Kp.refl
    rw [List.map_id] at hL8
    have hdue8 := k8.ls (by simp) hdue
    walk_at "sm"
    refine k_lcF ?_
    walk_at "sm"
    refine ⟨B, fun d => decide (fstS d = nm), id, Nat.le_refl _, by omega, fun i S _ => rfl, fun d S' hd k => ?_, fun S9 hL9 k9 => ?_⟩
    · obtain ⟨n1, ns1, b1, rfl, _⟩ := pB.2.2 d hd
      walk_at "sm"
      refine ⟨Kp.refl, fun _ => ?_⟩
      walk_at "sm"
      exact Kp.refl
    rw [List.map_id] at hL9
    have hdue9 := k9.ls (by simp) hdue8
    have hL8' := k9.ls (by simp) hL8
    walk_at "sm"
    refine k_neLst (nm := nm) pA pB hL8' hL9 ⟨_, rfl, fun e => ?_, fun e => ?_⟩
    · walk_at "sm"
      refine ⟨_, _, rfl, hdue9, ?_⟩
      walk_at "sm"
      refine k_append hdue9 (by rw [List.length_map]; omega) ?_
      refine ⟨_, _, _, rfl, ((k7.trans k8.any).trans k9.any).set (.inr (by simp)), ?_, hjl⟩
      rw [ls_set (ls_lt hdue9), htk, List.filter_append, List.filter_cons, if_pos e, txs_snoc]
      rfl
    · walk_at "sm"
      refine ⟨_, _, _, rfl, (k7.trans k8.any).trans k9.any, ?_, hjl⟩
      rw [htk, List.filter_append, List.filter_cons, if_neg (by rw [e]; decide)]
      simpa using hdue9
  left
  refine ⟨by dsimp only; rw [hrn7]; show some (txs (nmsD A B))[j]? = _; rw [List.getElem?_eq_none (by rw [List.length_map]; omega)], ?_⟩
  have hdue : lsAt S7 S4.length = some (txs (partD A B)) := by
    rw [List.take_of_length_le (by omega)] at hdue
    exact hdue
  have kk7 : Kp [] S0 S7 := Kp.new (kk4.trans (Kp.trans (Kp.refl (D := [])).app k6)) k7 kk4.1
  have l7 := ls_lt hdue
  walk_at "sm"
  refine (parted_ok pA pB (by omega)).imp fun v S8 ⟨t, ev, ht, hT, k8⟩ => ?_
  subst ev
  have hdue8 := k8.ls (by simp) hdue
  have tok := part_ok pA pB
  walk_at "sm"
  refine (same_ls (m := 56) hT hdue8 (by omega)).imp fun v S9 ⟨ev, k9⟩ => ?_
  subst ev
  have hdue9 := k9.ls (by simp) hdue8
  walk_at "sm"
  refine (parted_ok pB pA (by omega)).imp fun v S10 ⟨t10, ev, ht10, hT10, k10⟩ => ?_
  subst ev
  have hdue10 := k10.ls (by simp) hdue9
  rw [part_comm B A] at hT10
  walk_at "sm"
  refine k_neSame hT10 hdue10 (txs_py tok) (by decide) ⟨_, rfl, fun z => (by cases z), fun _ => ?_⟩
  walk_at "sm"
  refine (parted_ok pA pA (by omega)).imp fun v S11 ⟨t11, ev, ht11, hT11, k11⟩ => ?_
  subst ev
  rw [part_self pA] at hT11
  walk_at "sm"
  refine k_neSame (B := 0) (ls_app hT11) ls_new Pys.nil (by decide) ⟨_, rfl, fun z => (by cases z), fun _ => ?_⟩
  have hT12 := ls_app (o := Ob.lst []) (k11.ls (by simp) (k10.ls (by simp) (k9.ls (by simp) hT)))
  have hdue12 := ls_app (o := Ob.lst []) (k11.ls (by simp) hdue10)
  have k12 : Kp [] S8 (S11 ++ [Ob.lst []]) := ((k9.trans k10).trans k11).app
  generalize (S11 ++ [Ob.lst []] : Store) = S12 at hT12 hdue12 k12
  walk_at "sm"
  refine ⟨_, _, rfl, hT12, ?_⟩
  walk_at "sm"
  refine k_append hT12 (by rw [List.length_map]; omega) ?_
  generalize e13 : List.set S12 t _ = S13
  have k13 : Kp [t] S12 S13 := by rw [← e13]; exact Kp.refl.set (.inr (by simp))
  clear e13
  have hdue13 := k13.ls (not1 (by omega)) hdue12
  have kk13 : Kp [] S0 S13 := Kp.new ((kk7.trans k8).trans k12) k13 (by have := kk7.1; omega)
  refine l_if ?_
  walk_at "sm"
  refine (parted_ok pA pB (by omega)).imp fun v S14 ⟨t14, ev, ht14, hT14, k14⟩ => ?_
  subst ev
  have hdue14 := k14.ls (by simp) hdue13
  walk_at "sm"
  refine k_neSame hT14 hdue14 (txs_py tok) (by decide) ⟨_, rfl, fun z => (by cases z), fun _ => ?_⟩
  walk_at "sm"
  have pN : PrD [] := ⟨by decide, List.nodup_nil, fun d h => by cases h⟩
  refine (parted_ok pN pA (by omega)).imp fun v S15 ⟨t15, ev, ht15, hT15, k15⟩ => ?_
  subst ev
  rw [part_nil pA hn] at hT15
  refine lc_fst (X := A) (fun d hd => (pA.2.2 d hd).tupv) (by omega) (by simp) ?_
  walk_at "sm"
  refine ⟨Nat.le_refl _, fun i S _ => rfl, fun S16 hL16 k16 => ?_⟩
  rw [hn] at hL16
  have nOk' : ∀ t ∈ fnN, PyData.strOk t = true := by decide +kernel
  refine k_neSame (k16.ls (by simp) hT15) hL16 (txs_py nOk') (by decide) ⟨_, rfl, fun z => (by cases z), fun _ => ?_⟩
  walk_at "sm"
  exact ⟨_, _, _, _, _, _, _, _, _, _, rfl, ((kk13.trans k14).trans k15).trans k16⟩
theorem plain : ∀ ns : List Int, ns.length ≤ 63 → ∃ S, callT 60 .law [.frl (ns.map Dv.int)] [] = .ok (.bl true) S := fun ns hl => by
  obtain ⟨v, S, e, hv⟩ := (law_ok (S := []) hl).get
  subst hv
  exact ⟨S, e⟩
end K61

namespace K61
open PySem L2 Sm
theorem small_line {n : Nat} (h : decide (n ≤ 16777216) = true) : n ≤ sizeLine := by rw [sizeLine_eq]; exact of_decide_eq_true h
end K61
open K61 (small_line)

open PySem PySem.W PyProof.Rows
set_option maxRecDepth 100000 in
set_option maxHeartbeats 0 in
theorem PySem.Challenge.cw_trialmill_k61_programs_parted_holds : PySem.Challenge.rw_trialmill_k61_programs_parted.Holds := by
  w_on; o_law; k_head; (case hw => w_witness2)
  k_fill
  refine K61.walk K61.plain (l := PySem.Challenge.rw_trialmill_k61_programs_parted) rfl rfl (fun w h Y => PySem.W.kIn_of Y) ?F
  case F =>
    intro w mg fa h KX G hmg
    refine' K61.all_mk KX G hmg ?a0 ?l0 ?c0 ?k0 ?a1 ?l1 ?c1 ?k1 ?a2 ?l2 ?c2 ?k2 ?a3 ?l3 ?c3 ?k3 ?a4 ?l4 ?c4 ?k4 ?a5 ?l5 ?c5 ?k5 ?a6 ?l6 ?c6 ?k6 ?a7 ?l7 ?c7 ?k7 ?a8 ?l8 ?c8 ?k8 ?a9 ?l9 ?c9 ?k9 ?a10 ?l10 ?c10 ?k10 ?a11 ?l11 ?c11 ?k11 ?a12 ?l12 ?c12 ?k12 ?a13 ?l13 ?c13 ?k13 ?a14 ?l14 ?c14 ?k14 ?a15 ?l15 ?c15 ?k15 ?a16 ?l16 ?c16 ?k16 ?a17 ?l17 ?c17 ?k17 ?a18 ?l18 ?c18 ?k18 ?a19 ?l19 ?c19 ?k19 ?a20 ?l20 ?c20 ?k20 ?a21 ?l21 ?c21 ?k21 ?a22 ?l22 ?c22 ?k22 ?a23 ?l23 ?c23 ?k23 ?a24 ?l24 ?c24 ?k24 ?a25 ?l25 ?c25 ?k25 ?a26 ?l26 ?c26 ?k26 ?z0 ?z1 ?z2 ?z3 ?z4 ?z5 ?z6 ?z7 ?z8 ?z9 ?z10 ?z11 ?z12 ?zc_COUNTS ?lc_COUNTS ?wc_COUNTS ?oc_COUNTS ?vc_COUNTS ?zc_KEPT ?lc_KEPT ?wc_KEPT ?vc_KEPT ?zc_LETTERS ?zc_MOST_DEEP ?zc_MOST_FUNCTIONS ?zc_MOST_PARAMETERS ?zc_MOST_ROW ?zc_MOST_SPOTS ?zc_SMALL ?zc_WORDS ?lc_WORDS ?wc_WORDS ?vc_WORDS
    (case a0 => k_is); (case l0 => k_is); (case c0 => k_is); (case k0 => k_is)
    (case a1 => k_is); (case l1 => k_is); (case c1 => k_is); (case k1 => k_is)
    (case a2 => k_is); (case l2 => k_is); (case c2 => k_is); (case k2 => k_is)
    (case a3 => k_is); (case l3 => k_is); (case c3 => k_is); (case k3 => k_is)
    (case a4 => k_is); (case l4 => k_is); (case c4 => k_is); (case k4 => k_is)
    (case a5 => k_is); (case l5 => k_is); (case c5 => k_is); (case k5 => k_is)
    (case a6 => k_is); (case l6 => k_is); (case c6 => k_is); (case k6 => k_is)
    (case a7 => k_is); (case l7 => k_is); (case c7 => k_is); (case k7 => k_is)
    (case a8 => k_is); (case l8 => k_is); (case c8 => k_is); (case k8 => k_is)
    (case a9 => k_is); (case l9 => k_is); (case c9 => k_is); (case k9 => k_is)
    (case a10 => k_is); (case l10 => k_is); (case c10 => k_is); (case k10 => k_is)
    (case a11 => k_is); (case l11 => k_is); (case c11 => k_is); (case k11 => k_is)
    (case a12 => k_is); (case l12 => k_is); (case c12 => k_is); (case k12 => k_is)
    (case a13 => k_is); (case l13 => k_is); (case c13 => k_is); (case k13 => k_is)
    (case a14 => k_is); (case l14 => k_is); (case c14 => k_is); (case k14 => k_is)
    (case a15 => k_is); (case l15 => k_is); (case c15 => k_is); (case k15 => k_is)
    (case a16 => k_is); (case l16 => k_is); (case c16 => k_is); (case k16 => k_is)
    (case a17 => k_is); (case l17 => k_is); (case c17 => k_is); (case k17 => k_is)
    (case a18 => k_is); (case l18 => k_is); (case c18 => k_is); (case k18 => k_is)
    (case a19 => k_is); (case l19 => k_is); (case c19 => k_is); (case k19 => k_is)
    (case a20 => k_is); (case l20 => k_is); (case c20 => k_is); (case k20 => k_is)
    (case a21 => k_is); (case l21 => k_is); (case c21 => k_is); (case k21 => k_is)
    (case a22 => k_is); (case l22 => k_is); (case c22 => k_is); (case k22 => k_is)
    (case a23 => k_is); (case l23 => k_is); (case c23 => k_is); (case k23 => k_is)
    (case a24 => k_is); (case l24 => k_is); (case c24 => k_is); (case k24 => k_is)
    (case a25 => k_is); (case l25 => k_is); (case c25 => k_is); (case k25 => k_is)
    (case a26 => k_is); (case l26 => k_is); (case c26 => k_is); (case k26 => k_is)
    (case z0 => k_is)
    (case z1 => k_is)
    (case z2 => k_is)
    (case z3 => k_is)
    (case z4 => k_is)
    (case z5 => k_is)
    (case z6 => k_is)
    (case z7 => k_is)
    (case z8 => k_is)
    (case z9 => k_is)
    (case z10 => k_is)
    (case z11 => k_is)
    (case z12 => k_is)
    (case zc_COUNTS => k_is)
    (case lc_COUNTS => k_is)
    (case wc_COUNTS => (repeat (first | exact trivial | refine ⟨⟨_, _, rfl, rfl⟩, ?_⟩)))
    (case oc_COUNTS => rfl)
    (case vc_COUNTS => (repeat (first | exact .nil | refine .cons ⟨⟨_, rfl⟩, _, rfl⟩ ?_)))
    (case zc_KEPT => k_is)
    (case lc_KEPT => k_is)
    (case wc_KEPT => exact small_line (by decide +kernel))
    (case vc_KEPT => repeat (first | exact .nil | refine .cons ⟨_, rfl⟩ ?_))
    (case zc_LETTERS => k_is)
    (case zc_MOST_DEEP => k_is)
    (case zc_MOST_FUNCTIONS => k_is)
    (case zc_MOST_PARAMETERS => k_is)
    (case zc_MOST_ROW => k_is)
    (case zc_MOST_SPOTS => k_is)
    (case zc_SMALL => k_is)
    (case zc_WORDS => k_is)
    (case lc_WORDS => k_is)
    (case wc_WORDS => exact small_line (by decide +kernel))
    (case vc_WORDS => repeat (first | exact .nil | refine .cons ⟨_, rfl⟩ ?_))

