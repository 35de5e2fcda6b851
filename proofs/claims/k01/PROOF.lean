import PyProof.Rows.All
import HandS.ForMost
import HandS.ForExc
import HandS.EndBits
import HandS.Defaults
import HandS.HeadHook4
import HandS.TupAny
import HandS.TupMul
import HandS.WideBits
import HandS.Wide
import HandS.IsInst
import HandS.Deep
import HandS.Style
import HandS.Flow
import HandS.Walk
import HandS.Zip
import KE.GoesEnum
import KE.SortData
import HandS.More
import HandS.Conv
import HandS.Small
import HandS.CallSlots
import HandS.WordsExc
import HandS.ExcOwn
import HandS.HeadEnd
import HandS.Words
import PyProof.ReprRoads
import PyProof.CallFns
import HandS.Head0
import HandS.Head1
import HandS.Head2
import HandS.Set
import HandS.SetFor
import HandS.Strs
import KE.KSuper
import KE.KExcSuper
import HandS.ExcInit
import HandS.ExcIs
import HandS.ExcField
import KE.KExcIs
import KE.IntBitsLaws
import PyProof.ReprText
import PyProof.StrLawsRepr
import PySem.Challenge.RW_rulesadmitted_k01_sayings_names_and_thei
set_option autoImplicit false
set_option Elab.async false
set_option linter.all false
set_option maxRecDepth 100000
set_option maxHeartbeats 4000000
set_option exponentiation.threshold 3000
namespace Fw
open PySem L2

/-! ### values, cells, results -/
inductive Val where
  | d (x : PyData)
  | r (i : Nat)
inductive Cell where
  | lst (xs : List Val)
  | dct (kvs : List (Key × Val))
  | ins (c : Str) (fs : List (Str × Val))
  | frz (x : PyData)
  | scr (xs : List PyData)
abbrev Store := List Cell
inductive R (α : Type) where
  | ok (a : α) (S : Store)
  | ex (c : Str) (x : PyData) (S : Store)
  | bad
def R.bind {α β : Type} (m : R α) (f : α → Store → R β) : R β := match m with
  | .ok a S => f a S
  | .ex c x S => .ex c x S
  | .bad => .bad
def kD : Key → PyData
  | .inl i => .int i
  | .inr x => .str x

/-! ### what stands in the heap -/
abbrev Fz := Addr → Prop
abbrev Fg := PySem.W.Frag
/-- the script's list: locked, or the module's own -/
def SqS (K : Fg) (H : Hp) (a : Addr) (xs : List V) : Prop := (∃ o, H a = some (.frz o (.lst xs))) ∨ ∀ H' : Hp, SqL K H' a xs
/-- an error object of the class cls, its dict at d -/
def ExH (cls : Value) (d : Option Addr) (a : Addr) : HO := .ext fun h => ∃ (oe : Obj) (vs : Array Value), h.get? a = some oe ∧ Zc cls d oe ∧ oe.data = .fields vs
/-- an error as a value: its class, what it holds -/
def excD (c : Str) (x : PyData) : PyData := .dict [(.bool false, .str c), (.bool false, x)]
def scrD (ds : List PyData) : PyData := .dict [(.bool true, .list ds)]
/-- a list that does not change any more -/
def FL (F : Fz) (H : Hp) (a : Addr) (xs : List V) : Prop := F a ∧ H a = some (.lst xs)
mutual
inductive Is (K : Fg) (F : Fz) (H : Hp) : V → PyData → Prop
  | non : Is K F H .non .none
  | bl (b : Bool) : Is K F H (.bl b) (.bool b)
  | int (i : Int) : Is K F H (.int i) (.int i)
  | str (x : Str) : Is K F H (.str x) (.str x)
  | lst {a : Addr} {xs : List V} {ds : List PyData} : FL F H a xs → IsAll K F H xs ds → Is K F H (.ref a) (.list ds)
  | tup {a : Addr} {xs : List V} {ds : List PyData} : SqT K H a xs → IsAll K F H xs ds → Is K F H (.ref a) (.tuple ds)
  | dct {a : Addr} {kvs : List (Key × V)} {ds : List (PyData × PyData)} : F a → H a = some (.dK kvs) → IsKV K F H kvs ds → Is K F H (.ref a) (.dict ds)
  | obj {a dx : Addr} {c : Str} {fs : List (Str × V)} {ds : List (PyData × PyData)} : F a → H a = some (.ins (He.ga K c) dx fs) → IsFs K F H fs ds → Is K F H (.ref a) (.dict ((.none, .str c) :: ds))
  | exc {a dx : Addr} {c : Str} {v : V} {x : PyData} : F a → H a = some (ExH (.ref (He.ga K c)) (some dx) a) → F dx → H dx = some (.xd [(("value" : Str), v)]) → Is K F H v x → Is K F H (.ref a) (excD c x)
  | scr {a : Addr} {xs : List V} {ds : List PyData} : SqS K H a xs → IsAll K F H xs ds → Is K F H (.ref a) (.dict [(.bool true, .list ds)])
inductive IsAll (K : Fg) (F : Fz) (H : Hp) : List V → List PyData → Prop
  | nil : IsAll K F H [] []
  | cons {v : V} {vs : List V} {d : PyData} {ds : List PyData} : Is K F H v d → IsAll K F H vs ds → IsAll K F H (v :: vs) (d :: ds)
inductive IsKV (K : Fg) (F : Fz) (H : Hp) : List (Key × V) → List (PyData × PyData) → Prop
  | nil : IsKV K F H [] []
  | cons {k : Key} {v : V} {vs : List (Key × V)} {d : PyData} {ds : List (PyData × PyData)} : Is K F H v d → IsKV K F H vs ds → IsKV K F H ((k, v) :: vs) ((kD k, d) :: ds)
inductive IsFs (K : Fg) (F : Fz) (H : Hp) : List (Str × V) → List (PyData × PyData) → Prop
  | nil : IsFs K F H [] []
  | cons {k : Str} {v : V} {vs : List (Str × V)} {d : PyData} {ds : List (PyData × PyData)} : Is K F H v d → IsFs K F H vs ds → IsFs K F H ((k, v) :: vs) ((.str k, d) :: ds)
end

/-- from one state on to a later one -/
structure Ext (F : Fz) (ι : List Addr) (H : Hp) (F' : Fz) (ι' : List Addr) (H' : Hp) : Prop where
  pre : ∃ more, ι' = ι ++ more ∧ ∀ a ∈ more, H a = none
  fz : ∀ a, F a → F' a
  keep : ∀ a o, H a = some o → (a ∉ ι ∨ F a) → H' a = some o
  new : ∀ a, F' a → F a ∨ H a = none ∨ a ∈ ι
  tr : ∀ a o, H a = some o → ∃ u, H' a = some u
  tups : ∀ a xs, H a = some (.tup xs) → H' a = some (.tup xs)
  frzs : ∀ a o u, H a = some (.frz o u) → H' a = some (.frz o u)
section
variable {F F' F2 : Fz} {ι ι' ι2 : List Addr} {H H' H2 : Hp} {K : Fg}
theorem Ext.refl (F : Fz) (ι : List Addr) (H : Hp) : Ext F ι H F ι H :=
  ⟨⟨[], by simp, by simp⟩, fun _ h => h, fun _ _ h _ => h, fun _ h => .inl h, fun _ o h => ⟨o, h⟩, fun _ _ h => h, fun _ _ _ h => h⟩
theorem none_of_tr (t : ∀ a o, H a = some o → ∃ u, H' a = some u) {a : Addr} (h : H' a = none) : H a = none := by
  cases e : H a with
  | none => rfl
  | some o =>
    obtain ⟨u, q⟩ := t a o e
    rw [h] at q
    cases q
theorem Ext.back (e : Ext F ι H F' ι' H') {a : Addr} (h : H' a = none) : H a = none := none_of_tr e.tr h
theorem Ext.trans (e : Ext F ι H F' ι' H') (g : Ext F' ι' H' F2 ι2 H2) : Ext F ι H F2 ι2 H2 := by
  obtain ⟨m1, p1, q1⟩ := e.pre
  obtain ⟨m2, p2, q2⟩ := g.pre
  refine ⟨⟨m1 ++ m2, by rw [p2, p1, List.append_assoc], fun a ha => ?_⟩, fun a h => g.fz a (e.fz a h), fun a o h k => ?_, fun a h => ?_, fun a o h => ?_, fun a xs h => g.tups a xs (e.tups a xs h), fun a o u h => g.frzs a o u (e.frzs a o u h)⟩
  · rcases List.mem_append.mp ha with h | h
    · exact q1 a h
    · exact e.back (q2 a h)
  · refine g.keep a o (e.keep a o h k) ?_
    rcases k with k | k
    · left
      rw [p1]
      intro z
      rcases List.mem_append.mp z with z | z
      · exact k z
      · rw [q1 a z] at h
        cases h
    · exact .inr (e.fz a k)
  · rcases g.new a h with k | k | k
    · exact e.new a k
    · exact .inr (.inl (e.back k))
    · rw [p1] at k
      rcases List.mem_append.mp k with z | z
      · exact .inr (.inr z)
      · exact .inr (.inl (q1 a z))
  · obtain ⟨u, q⟩ := e.tr a o h
    exact g.tr a u q
theorem Ext.fl (e : Ext F ι H F' ι' H') {a : Addr} {xs : List V} (h : FL F H a xs) : FL F' H' a xs := ⟨e.fz a h.1, e.keep a _ h.2 (.inr h.1)⟩
theorem Ext.sqt (e : Ext F ι H F' ι' H') {a : Addr} {xs : List V} (h : SqT K H a xs) : SqT K H' a xs := by
  rcases h with (h | ⟨o, h⟩) | h
  · exact .inl (.inl (e.tups a xs h))
  · exact .inl (.inr ⟨o, e.frzs a o _ h⟩)
  · exact .inr h
theorem Ext.sqs (e : Ext F ι H F' ι' H') {a : Addr} {xs : List V} (h : SqS K H a xs) : SqS K H' a xs := by
  rcases h with ⟨o, h⟩ | h
  · exact .inl ⟨o, e.frzs a o _ h⟩
  · exact .inr h
theorem SqS.sq {a : Addr} {xs : List V} (h : SqS K H a xs) : SqL K H a xs := by
  rcases h with ⟨o, h⟩ | h
  · exact .inl (.inr ⟨o, h⟩)
  · exact h H
end
mutual
theorem Is.mono {F F' : Fz} {ι ι' : List Addr} {H H' : Hp} {K : Fg} (e : Ext F ι H F' ι' H') : ∀ {w : V} {x : PyData}, Is K F H w x → Is K F' H' w x
  | _, _, .non => .non
  | _, _, .bl b => .bl b
  | _, _, .int i => .int i
  | _, _, .str x => .str x
  | _, _, .lst h r => .lst (e.fl h) (IsAll.mono e r)
  | _, _, .tup h r => .tup (e.sqt h) (IsAll.mono e r)
  | _, _, .dct f h r => .dct (e.fz _ f) (e.keep _ _ h (.inr f)) (IsKV.mono e r)
  | _, _, .obj f h r => .obj (e.fz _ f) (e.keep _ _ h (.inr f)) (IsFs.mono e r)
  | _, _, .exc f h g k r => .exc (e.fz _ f) (e.keep _ _ h (.inr f)) (e.fz _ g) (e.keep _ _ k (.inr g)) (Is.mono e r)
  | _, _, .scr h r => .scr (e.sqs h) (IsAll.mono e r)
theorem IsAll.mono {F F' : Fz} {ι ι' : List Addr} {H H' : Hp} {K : Fg} (e : Ext F ι H F' ι' H') : ∀ {ws : List V} {xs : List PyData}, IsAll K F H ws xs → IsAll K F' H' ws xs
  | _, _, .nil => .nil
  | _, _, .cons h r => .cons (Is.mono e h) (IsAll.mono e r)
theorem IsKV.mono {F F' : Fz} {ι ι' : List Addr} {H H' : Hp} {K : Fg} (e : Ext F ι H F' ι' H') : ∀ {ws : List (Key × V)} {xs : List (PyData × PyData)}, IsKV K F H ws xs → IsKV K F' H' ws xs
  | _, _, .nil => .nil
  | _, _, .cons h r => .cons (Is.mono e h) (IsKV.mono e r)
theorem IsFs.mono {F F' : Fz} {ι ι' : List Addr} {H H' : Hp} {K : Fg} (e : Ext F ι H F' ι' H') : ∀ {ws : List (Str × V)} {xs : List (PyData × PyData)}, IsFs K F H ws xs → IsFs K F' H' ws xs
  | _, _, .nil => .nil
  | _, _, .cons h r => .cons (Is.mono e h) (IsFs.mono e r)
end

/-! ### values and stores in the heap -/
def VIs (K : Fg) (F : Fz) (ι : List Addr) (H : Hp) (w : V) : Val → Prop
  | .d x => Is K F H w x
  | .r i => ∃ a, ι[i]? = some a ∧ w = .ref a
def VAll (K : Fg) (F : Fz) (ι : List Addr) (H : Hp) : List V → List Val → Prop
  | [], [] => True
  | w :: ws, v :: vs => VIs K F ι H w v ∧ VAll K F ι H ws vs
  | _, _ => False
def VKs (K : Fg) (F : Fz) (ι : List Addr) (H : Hp) {κ : Type} : List (κ × V) → List (κ × Val) → Prop
  | [], [] => True
  | (k, w) :: ws, (j, v) :: vs => k = j ∧ VIs K F ι H w v ∧ VKs K F ι H ws vs
  | _, _ => False
section
variable {F F' F2 : Fz} {ι ι' ι2 : List Addr} {H H' H2 : Hp} {K : Fg}
theorem VIs.mono (e : Ext F ι H F' ι' H') {w : V} : ∀ {v : Val}, VIs K F ι H w v → VIs K F' ι' H' w v
  | .d _, h => Is.mono e h
  | .r i, ⟨a, h, q⟩ => ⟨a, by
      obtain ⟨m, p, _⟩ := e.pre
      rw [p, List.getElem?_append_left (List.getElem?_eq_some_iff.mp h).1]
      exact h, q⟩
theorem VAll.mono (e : Ext F ι H F' ι' H') : ∀ {ws : List V} {vs : List Val}, VAll K F ι H ws vs → VAll K F' ι' H' ws vs
  | [], [], _ => trivial
  | _ :: _, _ :: _, h => ⟨VIs.mono e h.1, VAll.mono e h.2⟩
  | [], _ :: _, h => h.elim
  | _ :: _, [], h => h.elim
theorem VKs.mono (e : Ext F ι H F' ι' H') {κ : Type} : ∀ {ws : List (κ × V)} {vs : List (κ × Val)}, VKs K F ι H ws vs → VKs K F' ι' H' ws vs
  | [], [], _ => trivial
  | (_, _) :: _, (_, _) :: _, h => ⟨h.1, VIs.mono e h.2.1, VKs.mono e h.2.2⟩
  | [], _ :: _, h => h.elim
  | _ :: _, [], h => h.elim
theorem VAll.length : ∀ {ws : List V} {vs : List Val}, VAll K F ι H ws vs → ws.length = vs.length
  | [], [], _ => rfl
  | _ :: _, _ :: _, h => congrArg Nat.succ (VAll.length h.2)
  | [], _ :: _, h => h.elim
  | _ :: _, [], h => h.elim
theorem VAll.append : ∀ {ws ws2 : List V} {vs vs2 : List Val}, VAll K F ι H ws vs → VAll K F ι H ws2 vs2 → VAll K F ι H (ws ++ ws2) (vs ++ vs2)
  | [], _, [], _, _, h => h
  | _ :: _, _, _ :: _, _, h, g => ⟨h.1, VAll.append h.2 g⟩
  | [], _, _ :: _, _, h, _ => h.elim
  | _ :: _, _, [], _, h, _ => h.elim
theorem VAll.get : ∀ {ws : List V} {vs : List Val} {i : Nat} {v : Val}, VAll K F ι H ws vs → vs[i]? = some v → ∃ w, ws[i]? = some w ∧ VIs K F ι H w v
  | [], [], _, _, _, h => by simp at h
  | w :: _, v :: _, 0, _, h, q => ⟨w, rfl, by simp at q; rw [← q]; exact h.1⟩
  | _ :: _, _ :: _, i + 1, _, h, q => by
    obtain ⟨w, e, r⟩ := VAll.get (i := i) h.2 (by simpa using q)
    exact ⟨w, by simpa using e, r⟩
  | [], _ :: _, _, _, h, _ => h.elim
  | _ :: _, [], _, _, h, _ => h.elim
theorem VAll.set : ∀ {ws : List V} {vs : List Val} {w : V} {v : Val} (i : Nat), VAll K F ι H ws vs → VIs K F ι H w v → VAll K F ι H (ws.set i w) (vs.set i v)
  | [], [], _, _, _, _, _ => trivial
  | _ :: _, _ :: _, _, _, 0, h, q => ⟨q, h.2⟩
  | _ :: _, _ :: _, _, _, i + 1, h, q => ⟨h.1, VAll.set i h.2 q⟩
  | [], _ :: _, _, _, _, h, _ => h.elim
  | _ :: _, [], _, _, _, h, _ => h.elim
theorem VAll.of_all : ∀ {ws : List V} {xs : List PyData}, IsAll K F H ws xs → VAll K F ι H ws (xs.map .d)
  | _, _, .nil => trivial
  | _, _, .cons h r => ⟨h, VAll.of_all r⟩
theorem VAll.to_all : ∀ {ws : List V} {xs : List PyData}, VAll K F ι H ws (xs.map .d) → IsAll K F H ws xs
  | [], [], _ => .nil
  | _ :: _, _ :: _, h => .cons h.1 (VAll.to_all h.2)
  | [], _ :: _, h => h.elim
  | _ :: _, [], h => h.elim
end

/-- a cell's object -/
def CellIs (K : Fg) (F : Fz) (ι : List Addr) (H : Hp) (a : Addr) : Cell → Prop
  | .lst xs => ¬ F a ∧ ∃ ws, H a = some (.lst ws) ∧ VAll K F ι H ws xs
  | .dct kvs => ¬ F a ∧ ∃ ws, H a = some (.dK ws) ∧ VKs K F ι H ws kvs
  | .ins c fs => ¬ F a ∧ ∃ dx ws, H a = some (.ins (He.ga K c) dx ws) ∧ VKs K F ι H ws fs
  | .frz x => F a ∧ Is K F H (.ref a) x
  | .scr xs => ¬ F a ∧ ∃ o ws, H a = some (.frz o (.lst ws)) ∧ IsAll K F H ws xs
structure Sim (K : Fg) (F : Fz) (ι : List Addr) (S : Store) (H : Hp) : Prop where
  len : ι.length = S.length
  nd : ι.Nodup
  cl : ∀ a, F a → ∃ o, H a = some o
  tr : ∀ a ∈ ι, ∃ o, H a = some o ∧ ∀ xs, o ≠ .tup xs
  cell : ∀ (i : Nat) (a : Addr) (c : Cell), ι[i]? = some a → S[i]? = some c → CellIs K F ι H a c
theorem Sim.nil {K : Fg} {F : Fz} {H : Hp} (h : ∀ a, F a → ∃ o, H a = some o) : Sim K F [] [] H := ⟨rfl, List.nodup_nil, h, by simp, by simp⟩

/-! ### the slots -/
abbrev Env := List (Option Val)
def EIs (K : Fg) (F : Fz) (ι : List Addr) (H : Hp) (σ : St) (env : Env) : Prop :=
  σ.length = env.length ∧ ∀ (i : Nat) (v : Val), env[i]? = some (some v) → ∃ w, σ[i]? = some (some w) ∧ VIs K F ι H w v
section
variable {F F' F2 : Fz} {ι ι' ι2 : List Addr} {H H' H2 : Hp} {K : Fg} {σ : St} {env : Env}
theorem EIs.mono (e : Ext F ι H F' ι' H') (h : EIs K F ι H σ env) : EIs K F' ι' H' σ env :=
  ⟨h.1, fun i v q => by
    obtain ⟨w, h1, h2⟩ := h.2 i v q
    exact ⟨w, h1, h2.mono e⟩⟩
theorem EIs.set {w : V} {v : Val} (i : Nat) (h : EIs K F ι H σ env) (q : VIs K F ι H w v) : EIs K F ι H (σ.set i (some w)) (env.set i (some v)) := by
  refine ⟨by rw [List.length_set, List.length_set, h.1], fun j u e => ?_⟩
  by_cases hj : i = j
  · subst hj
    by_cases hl : i < env.length
    · rw [List.getElem?_set_self hl] at e
      refine ⟨w, by rw [List.getElem?_set_self (by rw [h.1]; exact hl)], ?_⟩
      have e2 := Option.some.inj (Option.some.inj e)
      rw [← e2]
      exact q
    · rw [List.getElem?_eq_none (by rw [List.length_set]; omega)] at e
      cases e
  · rw [List.getElem?_set_ne hj] at e
    obtain ⟨u', e1, e2⟩ := h.2 j u e
    exact ⟨u', by rw [List.getElem?_set_ne hj]; exact e1, e2⟩
end
end Fw
namespace Fw
open PySem L2
section
variable {K : Fg} {F F' : Fz} {ι ι' : List Addr} {S : Store} {H H' : Hp} {a p : Addr} {o : HO} {c : Cell}

theorem nd_inj {l : List Addr} {i j : Nat} {a : Addr} (h : l.Nodup) (hi : l[i]? = some a) (hj : l[j]? = some a) : i = j :=
  (List.getElem?_inj (List.getElem?_eq_some_iff.mp hi).1 h).mp (hi.trans hj.symm)
theorem Sim.none_not (s : Sim K F ι S H) (h : H p = none) : p ∉ ι := fun z => by
  obtain ⟨o, e, _⟩ := s.tr p z
  rw [h] at e
  cases e
/-- a cell's content lasts while its object lasts -/
theorem CellIs.mono (e : Ext F ι H F' ι' H') (k : ∀ o, H a = some o → H' a = some o) (nf : ¬ F a → ¬ F' a) : ∀ {c : Cell}, CellIs K F ι H a c → CellIs K F' ι' H' a c
  | .lst _, ⟨f, ws, h, r⟩ => ⟨nf f, ws, k _ h, r.mono e⟩
  | .dct _, ⟨f, ws, h, r⟩ => ⟨nf f, ws, k _ h, r.mono e⟩
  | .ins _ _, ⟨f, dx, ws, h, r⟩ => ⟨nf f, dx, ws, k _ h, r.mono e⟩
  | .frz _, ⟨f, r⟩ => ⟨e.fz _ f, r.mono e⟩
  | .scr _, ⟨f, o, ws, h, r⟩ => ⟨nf f, o, ws, k _ h, r.mono e⟩
/-- a new object that is frozen, or of no account -/
theorem Ext.alloc (s : Sim K F ι S H) (hp : H p = none) (G : Fz) (g1 : ∀ a, F a → G a) (g2 : ∀ a, G a → F a ∨ a = p) : Ext F ι H G ι (upd H p o) := by
  refine ⟨⟨[], by simp, by simp⟩, g1, fun a u h _ => ?_, fun a h => ?_, fun a u h => ?_, fun a xs h => ?_, fun a u v h => ?_⟩
  · rw [upd_ne (ne_of_none h hp)]
    exact h
  · rcases g2 a h with k | k
    · exact .inl k
    · rw [k]
      exact .inr (.inl hp)
  · exact ⟨u, by rw [upd_ne (ne_of_none h hp)]; exact h⟩
  · rw [upd_ne (ne_of_none h hp)]
    exact h
  · rw [upd_ne (ne_of_none h hp)]
    exact h
theorem Sim.ext (s : Sim K F ι S H) (e : Ext F ι H F' ι H') (k : ∀ a ∈ ι, ∀ o, H a = some o → H' a = some o) (nf : ∀ a ∈ ι, ¬ F a → ¬ F' a) (cl : ∀ a, F' a → ∃ o, H' a = some o) : Sim K F' ι S H' :=
  ⟨s.len, s.nd, cl, fun a ha => by
    obtain ⟨o, h, q⟩ := s.tr a ha
    exact ⟨o, k a ha o h, q⟩, fun i a c ha hc => (s.cell i a c ha hc).mono e (k a (List.mem_of_getElem? ha)) (nf a (List.mem_of_getElem? ha))⟩
/-- a new frozen object at p -/
def Fz.add (F : Fz) (p : Addr) : Fz := fun a => F a ∨ a = p
theorem Ext.frozen (s : Sim K F ι S H) (hp : H p = none) : Ext F ι H (F.add p) ι (upd H p o) := .alloc s hp _ (fun _ h => .inl h) fun _ h => h
theorem Sim.frozen (s : Sim K F ι S H) (hp : H p = none) : Sim K (F.add p) ι S (upd H p o) :=
  s.ext (.frozen s hp) (fun a ha u h => by rw [upd_ne (ne_of_none h hp)]; exact h) (fun a ha nf h => by
    rcases h with h | h
    · exact nf h
    · rw [h] at ha
      exact s.none_not hp ha) fun a h => by
    rcases h with h | h
    · obtain ⟨u, q⟩ := s.cl a h
      exact ⟨u, by rw [upd_ne (ne_of_none q hp)]; exact q⟩
    · exact ⟨o, by rw [h]; exact upd_same⟩
theorem Ext.plain (s : Sim K F ι S H) (hp : H p = none) : Ext F ι H F ι (upd H p o) := .alloc s hp _ (fun _ h => h) fun _ h => .inl h
theorem Sim.plain (s : Sim K F ι S H) (hp : H p = none) : Sim K F ι S (upd H p o) :=
  s.ext (.plain s hp) (fun a ha u h => by rw [upd_ne (ne_of_none h hp)]; exact h) (fun a ha nf h => nf h) fun a h => by
    obtain ⟨u, q⟩ := s.cl a h
    exact ⟨u, by rw [upd_ne (ne_of_none q hp)]; exact q⟩
/-- a new cell at p -/
theorem Ext.cell (s : Sim K F ι S H) (hp : H p = none) : Ext F ι H F (ι ++ [p]) (upd H p o) := by
  refine ⟨⟨[p], rfl, fun a ha => ?_⟩, fun _ h => h, fun a u h _ => ?_, fun a h => .inl h, fun a u h => ?_, fun a xs h => ?_, fun a u v h => ?_⟩
  · rw [List.mem_singleton.mp ha]
    exact hp
  · rw [upd_ne (ne_of_none h hp)]
    exact h
  · exact ⟨u, by rw [upd_ne (ne_of_none h hp)]; exact h⟩
  · rw [upd_ne (ne_of_none h hp)]
    exact h
  · rw [upd_ne (ne_of_none h hp)]
    exact h
theorem Sim.newCell (s : Sim K F ι S H) (hp : H p = none) (n1 : ∀ xs, o ≠ .tup xs) (hc : CellIs K F (ι ++ [p]) (upd H p o) p c) : Sim K F (ι ++ [p]) (S ++ [c]) (upd H p o) := by
  have e : Ext F ι H F (ι ++ [p]) (upd H p o) := .cell s hp
  refine ⟨by simp [s.len], ?_, fun a h => (by
    obtain ⟨u, q⟩ := s.cl a h
    exact ⟨u, by rw [upd_ne (ne_of_none q hp)]; exact q⟩), fun a ha => ?_, fun i a c' ha hc' => ?_⟩
  · rw [List.nodup_append]
    refine ⟨s.nd, by simp, fun x hx y hy => ?_⟩
    rw [List.mem_singleton.mp hy]
    intro z
    rw [z] at hx
    exact s.none_not hp hx
  · rcases List.mem_append.mp ha with h | h
    · obtain ⟨u, q, r⟩ := s.tr a h
      exact ⟨u, by rw [upd_ne (ne_of_none q hp)]; exact q, r⟩
    · rw [List.mem_singleton.mp h]
      exact ⟨o, upd_same, n1⟩
  · by_cases hi : i < ι.length
    · rw [List.getElem?_append_left hi] at ha
      rw [List.getElem?_append_left (by rw [← s.len]; exact hi)] at hc'
      exact (s.cell i a c' ha hc').mono e (fun u h => by rw [upd_ne (ne_of_none h hp)]; exact h) fun nf => nf
    · have h1 := (List.getElem?_eq_some_iff.mp ha).1
      have hi2 : i = ι.length := by
        rw [List.length_append] at h1
        simp at h1
        omega
      subst hi2
      rw [List.getElem?_append_right (Nat.le_refl _)] at ha
      simp at ha
      rw [s.len, List.getElem?_append_right (Nat.le_refl _)] at hc'
      simp at hc'
      rw [← hc', ← ha]
      exact hc
theorem Sim.fresh (s : Sim K F ι S H) (hp : H p = none) : ¬ F p := fun f => by
  obtain ⟨u, q⟩ := s.cl p f
  rw [hp] at q
  cases q
/-- a cell's object is changed -/
theorem Ext.mut {i : Nat} (s : Sim K F ι S H) (ha : ι[i]? = some a) (nf : ¬ F a) (n2 : ∀ u v, H a ≠ some (.frz u v)) : Ext F ι H F ι (upd H a o) := by
  obtain ⟨u0, h0, n1⟩ := s.tr a (List.mem_of_getElem? ha)
  refine ⟨⟨[], by simp, by simp⟩, fun _ h => h, fun b u h k => ?_, fun a h => .inl h, fun b u h => ?_, fun b xs h => ?_, fun b u v h => ?_⟩
  · by_cases e : b = a
    · subst e
      rcases k with k | k
      · exact (k (List.mem_of_getElem? ha)).elim
      · exact (nf k).elim
    · rw [upd_ne e]
      exact h
  · by_cases e : b = a
    · subst e
      exact ⟨o, upd_same⟩
    · exact ⟨u, by rw [upd_ne e]; exact h⟩
  · by_cases e : b = a
    · subst e
      rw [h] at h0
      cases h0
      exact (n1 _ rfl).elim
    · rw [upd_ne e]
      exact h
  · by_cases e : b = a
    · subst e
      exact (n2 _ _ h).elim
    · rw [upd_ne e]
      exact h
theorem Sim.mut {i : Nat} (s : Sim K F ι S H) (ha : ι[i]? = some a) (nf : ¬ F a) (n1 : ∀ xs, o ≠ .tup xs) (n2 : ∀ u v, H a ≠ some (.frz u v)) (hc : CellIs K F ι (upd H a o) a c) : Sim K F ι (S.set i c) (upd H a o) := by
  have e : Ext F ι H F ι (upd H a o) := .mut s ha nf n2
  have ndi : ∀ j b, ι[j]? = some b → j ≠ i → b ≠ a := fun j b hb hj z => by
    subst z
    exact hj (nd_inj s.nd hb ha)
  refine ⟨by rw [List.length_set, s.len], s.nd, fun b f => (by
    obtain ⟨u, q⟩ := s.cl b f
    exact e.tr b u q), fun b hb => ?_, fun j b c' hb hc' => ?_⟩
  · by_cases q : b = a
    · subst q
      exact ⟨o, upd_same, n1⟩
    · obtain ⟨u, h, r⟩ := s.tr b hb
      exact ⟨u, by rw [upd_ne q]; exact h, r⟩
  · by_cases hj : i = j
    · subst hj
      rw [ha] at hb
      cases hb
      rw [List.getElem?_set_self (by rw [← s.len]; exact (List.getElem?_eq_some_iff.mp ha).1)] at hc'
      cases hc'
      exact hc
    · rw [List.getElem?_set_ne hj] at hc'
      have q := ndi j b hb (Ne.symm hj)
      exact (s.cell j b c' hb hc').mono e (fun u h => by rw [upd_ne q]; exact h) fun nf => nf
/-- a cell is frozen -/
theorem Ext.freeze (G : Fz) (g1 : ∀ a, F a → G a) (g2 : ∀ a, G a → F a ∨ a ∈ ι) : Ext F ι H G ι H :=
  ⟨⟨[], by simp, by simp⟩, g1, fun _ _ h _ => h, fun a h => by
    rcases g2 a h with k | k
    · exact .inl k
    · exact .inr (.inr k), fun _ o h => ⟨o, h⟩, fun _ _ h => h, fun _ _ _ h => h⟩
theorem Sim.freeze {i : Nat} {x : PyData} (s : Sim K F ι S H) (ha : ι[i]? = some a) (hx : Is K (F.add a) H (.ref a) x) : Sim K (F.add a) ι (S.set i (.frz x)) H := by
  have e : Ext F ι H (F.add a) ι H := .freeze _ (fun _ h => .inl h) fun b h => by
    rcases h with h | h
    · exact .inl h
    · rw [h]
      exact .inr (List.mem_of_getElem? ha)
  refine ⟨by rw [List.length_set, s.len], s.nd, fun b f => (by
    rcases f with f | f
    · exact s.cl b f
    · obtain ⟨u, q, _⟩ := s.tr a (List.mem_of_getElem? ha)
      exact ⟨u, by rw [f]; exact q⟩), s.tr, fun j b c' hb hc' => ?_⟩
  by_cases hj : i = j
  · subst hj
    rw [ha] at hb
    cases hb
    rw [List.getElem?_set_self (by rw [← s.len]; exact (List.getElem?_eq_some_iff.mp ha).1)] at hc'
    cases hc'
    exact ⟨.inr rfl, hx⟩
  · rw [List.getElem?_set_ne hj] at hc'
    refine (s.cell j b c' hb hc').mono e (fun u h => h) fun nf h => ?_
    rcases h with h | h
    · exact nf h
    · rw [h] at hb
      exact hj (nd_inj s.nd ha hb)
end

/-! ### data of values -/
/-- the items of a list of data -/
def pureAll : List Val → Option (List PyData)
  | [] => some []
  | .d x :: vs => match pureAll vs with
    | some xs => some (x :: xs)
    | none => none
  | .r _ :: _ => none
def pureKV : List (Key × Val) → Option (List (PyData × PyData))
  | [] => some []
  | (k, .d x) :: vs => match pureKV vs with
    | some xs => some ((kD k, x) :: xs)
    | none => none
  | (_, .r _) :: _ => none
def pureFs : List (Str × Val) → Option (List (PyData × PyData))
  | [] => some []
  | (k, .d x) :: vs => match pureFs vs with
    | some xs => some ((.str k, x) :: xs)
    | none => none
  | (_, .r _) :: _ => none
def pureCell : Cell → Option PyData
  | .lst xs => (pureAll xs).map .list
  | .dct kvs => (pureKV kvs).map .dict
  | .ins c fs => (pureFs fs).map fun l => .dict ((.none, .str c) :: l)
  | .frz x => some x
  | .scr _ => none
/-- a value as data; a cell of data is frozen -/
def toD : Val → Store → Option (PyData × Store)
  | .d x, S => some (x, S)
  | .r i, S => match S[i]? with
    | some c => match pureCell c with
      | some x => some (x, S.set i (.frz x))
      | none => none
    | none => none
section
variable {K : Fg} {F : Fz} {ι : List Addr} {S S' : Store} {H : Hp} {w : V} {x : PyData}
theorem pureAll_ok : ∀ {vs : List Val} {xs : List PyData} {ws : List V}, pureAll vs = some xs → VAll K F ι H ws vs → IsAll K F H ws xs
  | [], xs, [], h, _ => by
    cases h
    exact .nil
  | .d x :: vs, xs, w :: ws, h, q => by
    unfold pureAll at h
    split at h
    · next ys e =>
      cases h
      exact .cons q.1 (pureAll_ok e q.2)
    · cases h
  | .r _ :: _, _, _, h, _ => by cases h
  | [], _, _ :: _, _, q => q.elim
  | .d _ :: _, _, [], _, q => q.elim
theorem pureKV_ok : ∀ {vs : List (Key × Val)} {xs : List (PyData × PyData)} {ws : List (Key × V)}, pureKV vs = some xs → VKs K F ι H ws vs → IsKV K F H ws xs
  | [], xs, [], h, _ => by
    cases h
    exact .nil
  | (k, .d x) :: vs, xs, (k', w) :: ws, h, q => by
    unfold pureKV at h
    split at h
    · next ys e =>
      cases h
      obtain ⟨q1, q2, q3⟩ := q
      subst q1
      exact .cons q2 (pureKV_ok e q3)
    · cases h
  | (_, .r _) :: _, _, _, h, _ => by cases h
  | [], _, _ :: _, _, q => q.elim
  | (_, .d _) :: _, _, [], _, q => q.elim
theorem pureFs_ok : ∀ {vs : List (Str × Val)} {xs : List (PyData × PyData)} {ws : List (Str × V)}, pureFs vs = some xs → VKs K F ι H ws vs → IsFs K F H ws xs
  | [], xs, [], h, _ => by
    cases h
    exact .nil
  | (k, .d x) :: vs, xs, (k', w) :: ws, h, q => by
    unfold pureFs at h
    split at h
    · next ys e =>
      cases h
      obtain ⟨q1, q2, q3⟩ := q
      subst q1
      exact .cons q2 (pureFs_ok e q3)
    · cases h
  | (_, .r _) :: _, _, _, h, _ => by cases h
  | [], _, _ :: _, _, q => q.elim
  | (_, .d _) :: _, _, [], _, q => q.elim
theorem Ext.add {a : Addr} {i : Nat} (ha : ι[i]? = some a) : Ext F ι H (F.add a) ι H := .freeze _ (fun _ h => .inl h) fun b h => by
    rcases h with h | h
    · exact .inl h
    · rw [h]
      exact .inr (List.mem_of_getElem? ha)
theorem pureCell_ok {c : Cell} {a : Addr} {i : Nat} (ha : ι[i]? = some a) (h : pureCell c = some x) (q : CellIs K F ι H a c) : Is K (F.add a) H (.ref a) x := by
  have e : Ext F ι H (F.add a) ι H := .add ha
  cases c with
  | lst vs =>
    obtain ⟨_, ws, h1, r⟩ := q
    obtain ⟨ys, hy, rfl⟩ := Option.map_eq_some_iff.mp h
    exact .lst ⟨.inr rfl, h1⟩ ((pureAll_ok hy r).mono e)
  | dct vs =>
    obtain ⟨_, ws, h1, r⟩ := q
    obtain ⟨ys, hy, rfl⟩ := Option.map_eq_some_iff.mp h
    exact .dct (.inr rfl) h1 ((pureKV_ok hy r).mono e)
  | ins c fs =>
    obtain ⟨_, dx, ws, h1, r⟩ := q
    obtain ⟨ys, hy, rfl⟩ := Option.map_eq_some_iff.mp h
    exact .obj (.inr rfl) h1 ((pureFs_ok hy r).mono e)
  | frz y =>
    cases h
    exact q.2.mono e
  | scr xs => cases h
/-- the value is data, once the cell is frozen -/
theorem toD_ok {v : Val} (s : Sim K F ι S H) (q : VIs K F ι H w v) (h : toD v S = some (x, S')) : ∃ F', Ext F ι H F' ι H ∧ Sim K F' ι S' H ∧ Is K F' H w x := by
  cases v with
  | d y =>
    cases h
    exact ⟨F, .refl _ _ _, s, q⟩
  | r i =>
    obtain ⟨a, ha, rfl⟩ := q
    unfold toD at h
    simp only at h
    cases hc : S[i]? with
    | none =>
      rw [hc] at h
      cases h
    | some c =>
      rw [hc] at h
      simp only at h
      cases hx : pureCell c with
      | none =>
        rw [hx] at h
        cases h
      | some y =>
        rw [hx] at h
        cases h
        have z := pureCell_ok ha hx (s.cell i a c ha hc)
        exact ⟨F.add a, .add ha, s.freeze ha z, z⟩
end
/-- a list of values as data, from the left -/
def toDs : List Val → Store → Option (List PyData × Store)
  | [], S => some ([], S)
  | v :: vs, S => match toD v S with
    | some (x, S1) => match toDs vs S1 with
      | some (xs, S2) => some (x :: xs, S2)
      | none => none
    | none => none
theorem toDs_ok {K : Fg} : ∀ {vs : List Val} {F : Fz} {ι : List Addr} {S S' : Store} {H : Hp} {ws : List V} {xs : List PyData}, Sim K F ι S H → VAll K F ι H ws vs → toDs vs S = some (xs, S') →
    ∃ F', Ext F ι H F' ι H ∧ Sim K F' ι S' H ∧ IsAll K F' H ws xs
  | [], F, ι, S, S', H, [], xs, s, _, h => by
    cases h
    exact ⟨F, .refl _ _ _, s, .nil⟩
  | v :: vs, F, ι, S, S', H, w :: ws, xs, s, q, h => by
    unfold toDs at h
    split at h
    · next x S1 e1 =>
      split at h
      · next ys S2 e2 =>
        cases h
        obtain ⟨F1, x1, s1, i1⟩ := toD_ok s q.1 e1
        obtain ⟨F2, x2, s2, i2⟩ := toDs_ok s1 (q.2.mono x1) e2
        exact ⟨F2, x1.trans x2, s2, .cons (i1.mono x2) i2⟩
      · cases h
    · cases h
  | [], _, _, _, _, _, _ :: _, _, _, q, _ => q.elim
  | _ :: _, _, _, _, _, _, [], _, _, q, _ => q.elim
end Fw
namespace Fw
open PySem L2

/-! ### meanings, judgements -/
abbrev EF := Env → Store → R Val
abbrev BF := Env → Store → R Bool
abbrev AF := Env → Store → R (List Val)
/-- how a statement ends -/
inductive Fl where
  | nx | bk | ct
  | rt (v : Val)
  | rs (c : Str) (x : PyData)
abbrev SF := Env → Store → R (Fl × Env)

/-- an error's own dict -/
def ExV (K : Fg) (F : Fz) (H : Hp) (dx : Addr) (x : PyData) : Prop := ∃ v, F dx ∧ H dx = some (.xd [(("value" : Str), v)]) ∧ Is K F H v x
theorem ExV.mono {K : Fg} {F F' : Fz} {ι ι' : List Addr} {H H' : Hp} {dx : Addr} {x : PyData} (e : Ext F ι H F' ι' H') (h : ExV K F H dx x) : ExV K F' H' dx x := by
  obtain ⟨v, f, h1, h2⟩ := h
  exact ⟨v, e.fz _ f, e.keep _ _ h1 (.inr f), h2.mono e⟩
abbrev Rel (α β : Type) := Fz → List Addr → Hp → β → α → Prop
def Lands {α β : Type} (K : Fg) (E : WX) (σ : St) (F : Fz) (ι : List Addr) (H : Hp) (rel : Rel α β) (m : R α) (Q : β → Hp → Prop) : Prop := match m with
  | .ok a S' => ∀ F' ι' H' b, Ext F ι H F' ι' H' → Sim K F' ι' S' H' → rel F' ι' H' b a → Q b H'
  | .ex c x S' => ∀ F' ι' H' dx, Ext F ι H F' ι' H' → Sim K F' ι' S' H' → ExV K F' H' dx x → E (.ref (He.ga K c)) (some dx) σ H'
  | .bad => False
abbrev relV (K : Fg) : Rel Val V := fun F ι H w v => VIs K F ι H w v
abbrev relB : Rel Bool Bool := fun _ _ _ b a => b = a
abbrev relA (K : Fg) : Rel (List Val) (List V) := fun F ι H ws vs => VAll K F ι H ws vs
section
variable {α β γ δ : Type} {K : Fg} {E : WX} {σ : St} {F F1 : Fz} {ι ι1 : List Addr} {H H1 : Hp}
theorem Lands.imp {rel : Rel α β} {m : R α} {Q Q' : β → Hp → Prop} (h : Lands K E σ F ι H rel m Q) (i : ∀ b H', Q b H' → Q' b H') : Lands K E σ F ι H rel m Q' := by
  cases m with
  | ok a S => exact fun F' ι' H' b e s r => i b H' (h F' ι' H' b e s r)
  | ex c x S => exact h
  | bad => exact h
theorem Lands.shift {rel : Rel α β} {m : R α} {Q : β → Hp → Prop} (e : Ext F ι H F1 ι1 H1) (h : Lands K E σ F ι H rel m Q) : Lands K E σ F1 ι1 H1 rel m Q := by
  cases m with
  | ok a S => exact fun F' ι' H' b e1 s r => h F' ι' H' b (e.trans e1) s r
  | ex c x S => exact fun F' ι' H' dx e1 s r => h F' ι' H' dx (e.trans e1) s r
  | bad => exact h
/-- what comes first, then the rest -/
theorem Lands.bind {rel : Rel α β} {rel2 : Rel γ δ} {m : R α} {k : α → Store → R γ} {Q : δ → Hp → Prop} (h : Lands K E σ F ι H rel2 (m.bind k) Q) :
    Lands K E σ F ι H rel m fun b H1 => ∃ F1 ι1 a S1, Ext F ι H F1 ι1 H1 ∧ Sim K F1 ι1 S1 H1 ∧ rel F1 ι1 H1 b a ∧ Lands K E σ F1 ι1 H1 rel2 (k a S1) Q := by
  cases m with
  | ok a S => exact fun F' ι' H' b e s r => ⟨F', ι', a, S, e, s, r, Lands.shift (E := E) e h⟩
  | ex c x S => exact h
  | bad => exact h
end
def TEf (E : WX) (K : Fg) (f : EF) : TE := fun σ H Q => ∃ F ι env S, Sim K F ι S H ∧ EIs K F ι H σ env ∧ Lands K E σ F ι H (relV K) (f env S) Q
def TBf (E : WX) (K : Fg) (f : BF) : TT := fun σ H Q => ∃ F ι env S, Sim K F ι S H ∧ EIs K F ι H σ env ∧ Lands K E σ F ι H relB (f env S) Q
def TAf (E : WX) (K : Fg) (f : AF) : TA := fun σ H Q => ∃ F ι env S, Sim K F ι S H ∧ EIs K F ι H σ env ∧ Lands K E σ F ι H (relA K) (f env S) Q
def TSf (E : WX) (K : Fg) (f : SF) : TS := fun D σ H => ∃ F ι env S, Sim K F ι S H ∧ EIs K F ι H σ env ∧ match f env S with
  | .ok (.nx, env') S' => ∀ F' ι' H' σ', Ext F ι H F' ι' H' → Sim K F' ι' S' H' → EIs K F' ι' H' σ' env' → D.nx σ' H'
  | .ok (.bk, env') S' => ∀ F' ι' H' σ', Ext F ι H F' ι' H' → Sim K F' ι' S' H' → EIs K F' ι' H' σ' env' → D.bk σ' H'
  | .ok (.ct, env') S' => ∀ F' ι' H' σ', Ext F ι H F' ι' H' → Sim K F' ι' S' H' → EIs K F' ι' H' σ' env' → D.ct σ' H'
  | .ok (.rt v, _) S' => ∀ F' ι' H' w, Ext F ι H F' ι' H' → Sim K F' ι' S' H' → VIs K F' ι' H' w v → D.rt w H'
  | .ok (.rs c x, env') S' => ∀ F' ι' H' σ' dx, Ext F ι H F' ι' H' → Sim K F' ι' S' H' → EIs K F' ι' H' σ' env' → ExV K F' H' dx x → E (.ref (He.ga K c)) (some dx) σ' H'
  | _ => False
structure SE (X : Cx) (E : WX) (e : Expr) (f : EF) : Prop where
  pe : PE X e (TEf E X.K f)
structure SB (X : Cx) (E : WX) (e : Expr) (f : BF) : Prop where
  pt : PT X e (TBf E X.K f)
structure SA (X : Cx) (E : WX) (es : List Expr) (f : AF) : Prop where
  pa : PA X es (TAf E X.K f)
structure SS (X : Cx) (E : WX) (st : Stmt) (f : SF) : Prop where
  ps : PS X st (TSf E X.K f)
structure SSs (X : Cx) (E : WX) (st : List Stmt) (f : SF) : Prop where
  ps : PSs X st (TSf E X.K f)
theorem PE.imp {X : Cx} {e : Expr} {t t' : TE} (h : PE X e t) (i : ∀ σ H Q, t' σ H Q → t σ H Q) : PE X e t' := ⟨fun pins s σ H Q I q => h.run pins s σ H Q I (i σ H Q q)⟩
theorem PT.imp {X : Cx} {e : Expr} {t t' : TT} (h : PT X e t) (i : ∀ σ H Q, t' σ H Q → t σ H Q) : PT X e t' := ⟨fun pins s σ H Q I q => h.run pins s σ H Q I (i σ H Q q)⟩
theorem PA.imp {X : Cx} {e : List Expr} {t t' : TA} (h : PA X e t) (i : ∀ σ H Q, t' σ H Q → t σ H Q) : PA X e t' := ⟨fun pos pins s σ H Q I q => h.run pos pins s σ H Q I (i σ H Q q)⟩
theorem PS.imp {X : Cx} {e : Stmt} {t t' : TS} (h : PS X e t) (i : ∀ D σ H, t' D σ H → t D σ H) : PS X e t' := ⟨fun pins s σ H D I q => h.run pins s σ H D I (i D σ H q)⟩
theorem PSs.imp {X : Cx} {e : List Stmt} {t t' : TS} (h : PSs X e t) (i : ∀ D σ H, t' D σ H → t D σ H) : PSs X e t' := ⟨fun pins s σ H D I q => h.run pins s σ H D I (i D σ H q)⟩

/-! ### constants, names -/
def eVar (i : Nat) : EF := fun env S => match env[i]? with
  | some (some v) => .ok v S
  | _ => .bad
def eC (x : PyData) : EF := fun _ S => .ok (.d x) S
section
variable {X : Cx} {E : WX} {pos : Pos}
theorem se_var {i : Nat} {x : Str} (h : PE X (.Name x pos) (tVar i)) : SE X E (.Name x pos) (eVar i) := ⟨PE.imp h fun σ H Q ⟨F, ι, env, S, s, en, l⟩ => by
  unfold eVar at l
  split at l
  · next v hv =>
    obtain ⟨w, h1, h2⟩ := en.2 i v hv
    exact ⟨w, h1, l F ι H w (.refl _ _ _) s h2⟩
  · exact l.elim⟩
theorem se_c {e : Expr} {v : V} {x : PyData} (h : PE X e (tC v)) (hx : ∀ F H, Is X.K F H v x) : SE X E e (eC x) := ⟨PE.imp h fun σ H Q ⟨F, ι, env, S, s, en, l⟩ => l F ι H v (.refl _ _ _) s (hx F H)⟩
theorem se_int {i : Int} {j : Nat} : SE X E (.Constant (.int i) j pos) (eC (.int i)) := se_c pe_int fun _ _ => .int i
theorem se_bl {b : Bool} {j : Nat} : SE X E (.Constant (.bool b) j pos) (eC (.bool b)) := se_c pe_bl fun _ _ => .bl b
theorem se_non {j : Nat} : SE X E (.Constant .none j pos) (eC .none) := se_c pe_non fun _ _ => .non
theorem se_str {x : Str} {j : Nat} : SE X E (.Constant (.str x) j pos) (eC (.str x)) := se_c pe_str fun _ _ => .str x
end

/-! ### two-place operations -/
/-- a value-level operation: no error -/
abbrev O2 := Val → Val → Store → Option (Val × Store)
abbrev O1 := Val → Store → Option (Val × Store)
abbrev OA := List Val → Store → Option (Val × Store)
def lift {α : Type} : Option (α × Store) → R α
  | some (a, S) => .ok a S
  | none => .bad
def e2 (o : O2) (f g : EF) : EF := fun env S => (f env S).bind fun a S1 => (g env S1).bind fun b S2 => lift (o a b S2)
def e1 (o : O1) (f : EF) : EF := fun env S => (f env S).bind fun a S1 => lift (o a S1)
def eA (o : OA) (f : AF) : EF := fun env S => (f env S).bind fun a S1 => lift (o a S1)
/-- the reading of a value-level operation -/
def Then (K : Fg) (F : Fz) (ι : List Addr) (H : Hp) (v : Val) (S' : Store) (Q : VK) : Prop := ∀ F' ι' H' w, Ext F ι H F' ι' H' → Sim K F' ι' S' H' → VIs K F' ι' H' w v → Q w H'
def r2 (K : Fg) (o : O2) : R2 := fun x y H Q => ∃ F ι S a b v S', Sim K F ι S H ∧ VIs K F ι H x a ∧ VIs K F ι H y b ∧ o a b S = some (v, S') ∧ Then K F ι H v S' Q
def r1 (K : Fg) (o : O1) : V → Hp → VK → Prop := fun x H Q => ∃ F ι S a v S', Sim K F ι S H ∧ VIs K F ι H x a ∧ o a S = some (v, S') ∧ Then K F ι H v S' Q
def rA (K : Fg) (o : OA) : List V → Hp → VK → Prop := fun xs H Q => ∃ F ι S vs v S', Sim K F ι S H ∧ VAll K F ι H xs vs ∧ o vs S = some (v, S') ∧ Then K F ι H v S' Q
section
variable {K : Fg} {E : WX}
theorem lift_ok {F : Fz} {ι : List Addr} {σ : St} {H : Hp} {o : Option (Val × Store)} {Q : VK} (h : Lands K E σ F ι H (relV K) (lift o) Q) : ∃ v S', o = some (v, S') ∧ Then K F ι H v S' Q := by
  cases o with
  | none => exact h.elim
  | some p => exact ⟨p.1, p.2, rfl, h⟩
theorem t_e2 {o : O2} {f g : EF} {σ : St} {H : Hp} {Q : VK} (h : TEf E K (e2 o f g) σ H Q) : tOp (r2 K o) (TEf E K f) (TEf E K g) σ H Q := by
  obtain ⟨F, ι, env, S, s, en, l⟩ := h
  refine ⟨F, ι, env, S, s, en, (l.bind (rel := relV K)).imp ?_⟩
  rintro w H1 ⟨F1, ι1, a, S1, x1, s1, q1, l1⟩
  refine ⟨F1, ι1, env, S1, s1, en.mono x1, (l1.bind (rel := relV K)).imp ?_⟩
  rintro w2 H2 ⟨F2, ι2, b, S2, x2, s2, q2, l2⟩
  obtain ⟨v, S', e, t⟩ := lift_ok l2
  exact ⟨F2, ι2, S2, a, b, v, S', s2, q1.mono x2, q2, e, t⟩
theorem t_e1 {o : O1} {f : EF} {σ : St} {H : Hp} {Q : VK} (h : TEf E K (e1 o f) σ H Q) : tUn (r1 K o) (TEf E K f) σ H Q := by
  obtain ⟨F, ι, env, S, s, en, l⟩ := h
  refine ⟨F, ι, env, S, s, en, (l.bind (rel := relV K)).imp ?_⟩
  rintro w H1 ⟨F1, ι1, a, S1, x1, s1, q1, l1⟩
  obtain ⟨v, S', e, t⟩ := lift_ok l1
  exact ⟨F1, ι1, S1, a, v, S', s1, q1, e, t⟩
theorem t_eA {o : OA} {f : AF} {σ : St} {H : Hp} {Q : VK} (h : TEf E K (eA o f) σ H Q) : tCB (rA K o) (TAf E K f) σ H Q := by
  obtain ⟨F, ι, env, S, s, en, l⟩ := h
  refine ⟨F, ι, env, S, s, en, (l.bind (rel := relA K)).imp ?_⟩
  rintro w H1 ⟨F1, ι1, a, S1, x1, s1, q1, l1⟩
  obtain ⟨v, S', e, t⟩ := lift_ok l1
  exact ⟨F1, ι1, S1, a, v, S', s1, q1, e, t⟩
end
section
variable {X : Cx} {E : WX} {a b : Expr} {f g : EF} {pos : Pos}
theorem se_op {op : Operator} {o : O2} (ho : OpR X (binaryOp op) (r2 X.K o)) (ha : SE X E a f) (hb : SE X E b g) : SE X E (.BinOp a op b pos) (e2 o f g) := ⟨PE.imp (pe_op ho ha.pe hb.pe) fun _ _ _ h => t_e2 h⟩
theorem se_cmp {op : CmpOp} {o : O2} (ho : OpR X (compareOp op) (r2 X.K o)) (ha : SE X E a f) (hb : SE X E b g) (hm : behindInMarks op b = false := by first | exact nobehind _ (by decide) (by decide) | rfl) : SE X E (.Compare a [op] [b] pos) (e2 o f g) := ⟨PE.imp (pe_cmpR ho ha.pe hb.pe hm) fun _ _ _ h => t_e2 h⟩
end
/-! ### argument lists -/
def aNil : AF := fun _ S => .ok [] S
def aCons (f : EF) (g : AF) : AF := fun env S => (f env S).bind fun v S1 => (g env S1).bind fun vs S2 => .ok (v :: vs) S2
section
variable {X : Cx} {E : WX} {e : Expr} {es : List Expr} {f : EF} {g : AF}
theorem sa_nil : SA X E [] aNil := ⟨PA.imp pa_nil fun σ H Q ⟨F, ι, env, S, s, en, l⟩ => l F ι H [] (.refl _ _ _) s trivial⟩
theorem sa_cons (ha : SE X E e f) (hr : SA X E es g) (hs : starEach (e :: es) X.env = (false, eval e X.env) :: starEach es X.env := by rfl) : SA X E (e :: es) (aCons f g) := ⟨PA.imp (pa_cons ha.pe hr.pa hs) fun σ H Q ⟨F, ι, env, S, s, en, l⟩ => by
  refine ⟨F, ι, env, S, s, en, (l.bind (rel := relV X.K)).imp ?_⟩
  rintro w H1 ⟨F1, ι1, a, S1, x1, s1, q1, l1⟩
  refine ⟨F1, ι1, env, S1, s1, en.mono x1, (l1.bind (rel := relA X.K)).imp ?_⟩
  rintro ws H2 ⟨F2, ι2, vs, S2, x2, s2, q2, l2⟩
  exact l2 F2 ι2 H2 (w :: ws) (.refl _ _ _) s2 ⟨q1.mono x2, q2⟩⟩
end

/-! ### displays -/
/-- a tuple, a list of data; a list that is to change -/
def oTup : OA := fun vs S => match toDs vs S with
  | some (xs, S') => match decide (xs.length ≤ 100000) with
    | true => some (.d (.tuple xs), S')
    | false => none
  | none => none
def oLst : OA := fun vs S => match toDs vs S with
  | some (xs, S') => match decide (xs.length ≤ 100000) with
    | true => some (.d (.list xs), S')
    | false => none
  | none => none
def oLstM : OA := fun vs S => match decide (vs.length ≤ 100000) with
    | true => some (.r S.length, S ++ [.lst vs])
    | false => none
theorem IsAll.length {K : Fg} {F : Fz} {H : Hp} : ∀ {ws : List V} {xs : List PyData}, IsAll K F H ws xs → ws.length = xs.length
  | _, _, .nil => rfl
  | _, _, .cons _ r => congrArg Nat.succ (IsAll.length r)
theorem big_line {n : Nat} (h : n ≤ 100000) : n ≤ sizeLine := Nat.le_trans h (by decide)
section
variable {K : Fg} {F : Fz} {ι : List Addr} {S : Store} {H : Hp} {p : Addr}
/-- a new tuple, list of data -/
theorem new_tup {ws : List V} {xs : List PyData} (s : Sim K F ι S H) (hp : H p = none) (h : IsAll K F H ws xs) :
    Ext F ι H F ι (upd H p (.tup ws)) ∧ Sim K F ι S (upd H p (.tup ws)) ∧ Is K F (upd H p (.tup ws)) (.ref p) (.tuple xs) :=
  ⟨.plain s hp, .plain s hp, .tup (.of upd_same) (h.mono (.plain (o := .tup ws) s hp))⟩
theorem new_lst {ws : List V} {xs : List PyData} (s : Sim K F ι S H) (hp : H p = none) (h : IsAll K F H ws xs) :
    Ext F ι H (F.add p) ι (upd H p (.lst ws)) ∧ Sim K (F.add p) ι S (upd H p (.lst ws)) ∧ Is K (F.add p) (upd H p (.lst ws)) (.ref p) (.list xs) :=
  ⟨.frozen s hp, .frozen s hp, .lst ⟨.inr rfl, upd_same⟩ (h.mono (.frozen (o := .lst ws) s hp))⟩
/-- a new list that is to change -/
theorem new_cell {ws : List V} {vs : List Val} (s : Sim K F ι S H) (hp : H p = none) (h : VAll K F ι H ws vs) :
    Ext F ι H F (ι ++ [p]) (upd H p (.lst ws)) ∧ Sim K F (ι ++ [p]) (S ++ [.lst vs]) (upd H p (.lst ws)) ∧ VIs K F (ι ++ [p]) (upd H p (.lst ws)) (.ref p) (.r S.length) := by
  have e : Ext F ι H F (ι ++ [p]) (upd H p (.lst ws)) := .cell s hp
  refine ⟨e, s.newCell hp (fun _ => by simp) ⟨s.fresh hp, ws, upd_same, h.mono e⟩, p, ?_, rfl⟩
  rw [← s.len, List.getElem?_append_right (Nat.le_refl _)]
  simp
end
section
variable {X : Cx} {E : WX} {es : List Expr} {g : AF} {pos : Pos}
theorem se_tup {c} (h : SA X E es g) : SE X E (.Tuple es c pos) (eA oTup g) := ⟨PE.imp (pe_tup h.pa) fun σ H Q h => by
  obtain ⟨F, ι, env, S, s, en, l⟩ := h
  refine ⟨F, ι, env, S, s, en, (l.bind (rel := relA X.K)).imp ?_⟩
  rintro ws H1 ⟨F1, ι1, vs, S1, x1, s1, q1, l1⟩
  obtain ⟨v, S', e, t⟩ := lift_ok l1
  unfold oTup at e
  split at e
  · next xs S2 hd =>
    split at e
    · next hl =>
      cases e
      obtain ⟨F2, x2, s2, q2⟩ := toDs_ok s1 q1 hd
      refine ⟨big_line (by rw [q2.length]; exact of_decide_eq_true hl), fun p hp => ?_⟩
      obtain ⟨y1, y2, y3⟩ := new_tup s2 hp q2
      exact t _ _ _ _ (x2.trans y1) y2 y3
    · cases e
  · cases e⟩
theorem se_lst (h : SA X E es g) : SE X E (.List es pos) (eA oLst g) := ⟨PE.imp (pe_lst h.pa) fun σ H Q h => by
  obtain ⟨F, ι, env, S, s, en, l⟩ := h
  refine ⟨F, ι, env, S, s, en, (l.bind (rel := relA X.K)).imp ?_⟩
  rintro ws H1 ⟨F1, ι1, vs, S1, x1, s1, q1, l1⟩
  obtain ⟨v, S', e, t⟩ := lift_ok l1
  unfold oLst at e
  split at e
  · next xs S2 hd =>
    split at e
    · next hl =>
      cases e
      obtain ⟨F2, x2, s2, q2⟩ := toDs_ok s1 q1 hd
      refine ⟨big_line (by rw [q2.length]; exact of_decide_eq_true hl), fun p hp => ?_⟩
      obtain ⟨y1, y2, y3⟩ := new_lst s2 hp q2
      exact t _ _ _ _ (x2.trans y1) y2 y3
    · cases e
  · cases e⟩
theorem se_lstM (h : SA X E es g) : SE X E (.List es pos) (eA oLstM g) := ⟨PE.imp (pe_lst h.pa) fun σ H Q h => by
  obtain ⟨F, ι, env, S, s, en, l⟩ := h
  refine ⟨F, ι, env, S, s, en, (l.bind (rel := relA X.K)).imp ?_⟩
  rintro ws H1 ⟨F1, ι1, vs, S1, x1, s1, q1, l1⟩
  obtain ⟨v, S', e, t⟩ := lift_ok l1
  unfold oLstM at e
  split at e
  · next hl =>
    cases e
    refine ⟨big_line (by rw [q1.length]; exact of_decide_eq_true hl), fun p hp => ?_⟩
    obtain ⟨y1, y2, y3⟩ := new_cell s1 hp q1
    exact t _ _ _ _ y1 y2 y3
  · cases e⟩
end
end Fw
namespace Fw
open PySem L2

/-! ### operations on data -/
abbrev P2 := PyData → PyData → Option PyData
def rP (K : Fg) (p : P2) : R2 := fun x y H Q => ∃ F ι S xa ya z, Sim K F ι S H ∧ Is K F H x xa ∧ Is K F H y ya ∧ p xa ya = some z ∧ ∀ F' H' w, Ext F ι H F' ι H' → Sim K F' ι S H' → Is K F' H' w z → Q w H'
def oP (p : P2) : O2 := fun a b S => match toD a S with
  | some (x, S1) => match toD b S1 with
    | some (y, S2) => match p x y with
      | some z => some (.d z, S2)
      | none => none
    | none => none
  | none => none
theorem r_P {K : Fg} {p : P2} {x y : V} {H : Hp} {Q : VK} (h : r2 K (oP p) x y H Q) : rP K p x y H Q := by
  obtain ⟨F, ι, S, a, b, v, S', s, ha, hb, e, t⟩ := h
  unfold oP at e
  split at e
  · next xa S1 e1 =>
    split at e
    · next ya S2 e2 =>
      split at e
      · next z e3 =>
        cases e
        obtain ⟨F1, x1, s1, i1⟩ := toD_ok s ha e1
        obtain ⟨F2, x2, s2, i2⟩ := toD_ok s1 (hb.mono x1) e2
        exact ⟨F2, ι, _, xa, ya, z, s2, i1.mono x2, i2, e3, fun F' H' w x3 s3 i3 => t F' ι H' w ((x1.trans x2).trans x3) s3 i3⟩
      · cases e
    · cases e
  · cases e
theorem op_P {X : Cx} {f : Value → Value → Sem Value} {p : P2} (h : OpR X f (rP X.K p)) : OpR X f (r2 X.K (oP p)) := fun pins s σ H x y v u Q I rx ry q => h pins s σ H x y v u Q I rx ry (r_P q)
theorem opr_imp {X : Cx} {f : Value → Value → Sem Value} {r r' : R2} (h : OpR X f r) (i : ∀ x y H Q, r' x y H Q → r x y H Q) : OpR X f r' := fun pins s σ H x y v u Q I rx ry q => h pins s σ H x y v u Q I rx ry (i x y H Q q)

/-- ints alone -/
def pI (g : Int → Int → Option PyData) : P2
  | .int i, .int j => g i j
  | _, _ => none
theorem opr_I {X : Cx} {f : Value → Value → Sem Value} {g : Int → Int → Option PyData} {C : Int → Int → Prop} {h : Int → Int → V} (o : OpR X f (rI C h)) (hg : ∀ i j z, g i j = some z → C i j ∧ ∀ K F H, Is K F H (h i j) z) : OpR X f (rP X.K (pI g)) :=
  opr_imp o fun x y H Q ⟨F, ι, S, xa, ya, z, s, ix, iy, e, t⟩ => by
    unfold pI at e
    split at e
    · next i j =>
      cases ix
      cases iy
      obtain ⟨c, iz⟩ := hg i j z e
      exact ⟨i, j, rfl, rfl, c, t F H _ (.refl _ _ _) s (iz _ _ _)⟩
    · cases e
theorem opr_I0 {X : Cx} {f : Value → Value → Sem Value} {g : Int → Int → Option PyData} {h : Int → Int → V} (o : OpR X f (rI0 h)) (hg : ∀ i j z, g i j = some z → ∀ K F H, Is K F H (h i j) z) : OpR X f (rP X.K (pI g)) :=
  opr_imp o fun x y H Q ⟨F, ι, S, xa, ya, z, s, ix, iy, e, t⟩ => by
    unfold pI at e
    split at e
    · next i j =>
      cases ix
      cases iy
      exact ⟨i, j, rfl, rfl, t F H _ (.refl _ _ _) s (hg i j z e _ _ _)⟩
    · cases e
def when {α : Type} (b : Bool) (x : α) : Option α := match b with
  | true => some x
  | false => none
theorem when_some {α : Type} {b : Bool} {x y : α} (h : when b x = some y) : b = true ∧ y = x := by
  cases b with
  | true =>
    cases h
    exact ⟨rfl, rfl⟩
  | false => cases h
def pSub : P2 := pI fun i j => some (.int (i - j))
def pFdiv : P2 := pI fun i j => when (decide (0 < j ∧ j.natAbs.log2 < 9000)) (.int (i / j))
def pMod : P2 := pI fun i j => when (decide (0 < j)) (.int (i % j))
def pPow : P2 := pI fun i j => when (decide (0 ≤ j ∧ j ≤ 1000000 ∧ i.natAbs < 2 ^ 64)) (.int (i ^ j.toNat))
def pShl : P2 := pI fun i j => when (decide (0 ≤ j ∧ j ≤ 1000000 ∧ i.natAbs < 2 ^ 64)) (.int (i * 2 ^ j.toNat))
def pShr : P2 := pI fun i j => when (decide (0 ≤ j)) (.int (i / 2 ^ j.toNat))
def pBand : P2 := pI fun i j => some (.int (Builtin.bitAnd i j))
def pBor : P2 := pI fun i j => some (.int (Builtin.bitOr i j))
section
variable {X : Cx}
theorem or_sub : OpR X (binaryOp .Sub) (r2 X.K (oP pSub)) := op_P (opr_I0 op_sub fun i j z e K F H => by cases e; exact .int _)
theorem or_fdiv : OpR X (binaryOp .FloorDiv) (r2 X.K (oP pFdiv)) := op_P (opr_I op_fdivW fun i j z e => by
  obtain ⟨h, rfl⟩ := when_some e
  exact ⟨show _ ∧ _ from of_decide_eq_true h, fun _ _ _ => .int _⟩)
theorem or_mod : OpR X (binaryOp .Mod) (r2 X.K (oP pMod)) := op_P (opr_I op_mod fun i j z e => by
  obtain ⟨h, rfl⟩ := when_some e
  exact ⟨of_decide_eq_true h, fun _ _ _ => .int _⟩)
theorem or_pow : OpR X (binaryOp .Pow) (r2 X.K (oP pPow)) := op_P (opr_I op_pow fun i j z e => by
  obtain ⟨h, rfl⟩ := when_some e
  exact ⟨show _ ∧ _ ∧ _ from of_decide_eq_true h, fun _ _ _ => .int _⟩)
theorem or_shl : OpR X (binaryOp .LShift) (r2 X.K (oP pShl)) := op_P (opr_I op_shl fun i j z e => by
  obtain ⟨h, rfl⟩ := when_some e
  exact ⟨show _ ∧ _ ∧ _ from of_decide_eq_true h, fun _ _ _ => .int _⟩)
theorem or_shr : OpR X (binaryOp .RShift) (r2 X.K (oP pShr)) := op_P (opr_I op_shr fun i j z e => by
  obtain ⟨h, rfl⟩ := when_some e
  exact ⟨of_decide_eq_true h, fun _ _ _ => .int _⟩)
theorem or_band : OpR X (binaryOp .BitAnd) (r2 X.K (oP pBand)) := op_P (opr_I0 op_and fun i j z e K F H => by cases e; exact .int _)
theorem or_bor : OpR X (binaryOp .BitOr) (r2 X.K (oP pBor)) := op_P (opr_I0 op_or fun i j z e K F H => by cases e; exact .int _)
end

/-! ### + and * -/
def bitsI (i : Int) : Nat := Builtin.Int.intBits i
def pAdd : P2
  | .int i, .int j => some (.int (i + j))
  | .str x, .str y => when (decide (x.length + y.length ≤ 100000)) (.str (x ++ y))
  | .list xs, .list ys => when (decide (xs.length + ys.length ≤ 100000)) (.list (xs ++ ys))
  | .tuple xs, .tuple ys => when (decide (xs.length + ys.length ≤ 100000)) (.tuple (xs ++ ys))
  | _, _ => none
def pMul : P2
  | .int i, .int j => when (decide ((bitsI i : Int) + (bitsI j : Int) ≤ 134217728 ∨ bitsI i ≤ 64 ∨ bitsI j ≤ 64)) (.int (i * j))
  | .list xs, .int k => when (decide (0 ≤ k ∧ k ≤ 100000 ∧ xs.length * k.toNat ≤ 100000)) (.list (List.replicate k.toNat xs).flatten)
  | .tuple xs, .int k => when (decide (xs ≠ [] ∧ 2 ≤ k ∧ k ≤ 1000 ∧ xs.length ≤ 1000)) (.tuple (List.replicate k.toNat xs).flatten)
  | _, _ => none
theorem IsAll.append {K : Fg} {F : Fz} {H : Hp} : ∀ {ws us : List V} {xs ys : List PyData}, IsAll K F H ws xs → IsAll K F H us ys → IsAll K F H (ws ++ us) (xs ++ ys)
  | _, _, _, _, .nil, h => h
  | _, _, _, _, .cons a r, h => .cons a (r.append h)
theorem IsAll.rep {K : Fg} {F : Fz} {H : Hp} {ws : List V} {xs : List PyData} (h : IsAll K F H ws xs) : ∀ n : Nat, IsAll K F H (List.replicate n ws).flatten (List.replicate n xs).flatten
  | 0 => .nil
  | n + 1 => by
    rw [List.replicate_succ, List.replicate_succ, List.flatten_cons, List.flatten_cons]
    exact h.append (IsAll.rep h n)
theorem opr_or {X : Cx} {f : Value → Value → Sem Value} {r r' : R2} (h : OpR X f r) (h' : OpR X f r') : OpR X f (fun x y H Q => r x y H Q ∨ r' x y H Q) := fun pins s σ H x y v u Q I rx ry q => by
  rcases q with q | q
  · exact h pins s σ H x y v u Q I rx ry q
  · exact h' pins s σ H x y v u Q I rx ry q
section
variable {X : Cx}
theorem or_add : OpR X (binaryOp .Add) (r2 X.K (oP pAdd)) := op_P (opr_imp (opr_or (opr_or op_add op_add_str) (opr_or op_cat op_catA)) fun x y H Q ⟨F, ι, S, xa, ya, z, s, ix, iy, e, t⟩ => by
  unfold pAdd at e
  split at e
  · next i j =>
    cases ix
    cases iy
    cases e
    exact .inl (.inl ⟨i, j, rfl, rfl, t F H _ (.refl _ _ _) s (.int _)⟩)
  · next i j =>
    cases ix
    cases iy
    obtain ⟨h, rfl⟩ := when_some e
    exact .inl (.inr ⟨i, j, rfl, rfl, big_line (of_decide_eq_true h), t F H _ (.refl _ _ _) s (.str _)⟩)
  · next xs ys =>
    cases ix with
    | lst hx ax =>
      cases iy with
      | lst hy ay =>
        obtain ⟨h, rfl⟩ := when_some e
        refine .inr (.inl ⟨_, _, _, _, rfl, rfl, hx.2, hy.2, big_line (by rw [ax.length, ay.length]; exact of_decide_eq_true h), fun p hp => ?_⟩)
        obtain ⟨y1, y2, y3⟩ := new_lst s hp (ax.append ay)
        exact t _ _ _ y1 y2 y3
  · next xs ys =>
    cases ix with
    | tup hx ax =>
      cases iy with
      | tup hy ay =>
        obtain ⟨h, rfl⟩ := when_some e
        refine .inr (.inr ⟨_, _, _, _, rfl, rfl, hx, hy, big_line (by rw [ax.length, ay.length]; exact of_decide_eq_true h), fun q => ?_, fun q1 q2 => ?_, fun q1 q2 p hp => ?_⟩)
        · subst q
          cases ax
          exact t F H _ (.refl _ _ _) s (.tup hy ay)
        · subst q2
          cases ay
          rw [List.append_nil] at t
          exact t F H _ (.refl _ _ _) s (.tup hx ax)
        · obtain ⟨y1, y2, y3⟩ := new_tup s hp (ax.append ay)
          exact t _ _ _ y1 y2 y3
  · cases e)
/-- * of two factors, one of them short or both of bounded length -/
def CMulY (i j : Int) : Prop := CMulX i j ∨ Builtin.Int.intBits i ≤ 64 ∨ Builtin.Int.intBits j ≤ 64
theorem CMulY.ok {i j : Int} (h : CMulY i j) : IntMulOk i j := by
  rcases h with h | h | h
  · exact h.ok
  · exact .of_left h
  · exact .of_right h
theorem op_mulY : OpR X (binaryOp .Mult) (rI CMulY fun i j => .int (i * j)) := opI fun _ _ _ _ _ _ _ hc q => P.mul_int q hc.ok
theorem or_mul : OpR X (binaryOp .Mult) (r2 X.K (oP pMul)) := op_P (opr_imp (opr_or op_mulY (opr_or op_rep op_repT)) fun x y H Q ⟨F, ι, S, xa, ya, z, s, ix, iy, e, t⟩ => by
  unfold pMul at e
  split at e
  · next i j =>
    cases ix
    cases iy
    obtain ⟨h, rfl⟩ := when_some e
    exact .inl ⟨i, j, rfl, rfl, (show (_ ≤ _ ∨ _ ≤ _ ∨ _ ≤ _) from of_decide_eq_true h), t F H _ (.refl _ _ _) s (.int _)⟩
  · next xs k =>
    cases iy
    cases ix with
    | lst hx ax =>
      obtain ⟨h, rfl⟩ := when_some e
      obtain ⟨h0, h1, h2⟩ := of_decide_eq_true h
      refine .inr (.inl ⟨_, _, _, rfl, rfl, hx.2, by omega, by omega, big_line (by rw [ax.length]; exact h2), fun p hp => ?_⟩)
      obtain ⟨y1, y2, y3⟩ := new_lst s hp (ax.rep k.toNat)
      exact t _ _ _ y1 y2 y3
  · next xs k =>
    cases iy
    cases ix with
    | tup hx ax =>
      obtain ⟨h, rfl⟩ := when_some e
      obtain ⟨h0, h1, h2, h3⟩ := of_decide_eq_true h
      refine .inr (.inr ⟨_, _, _, rfl, rfl, hx, ?_, h1, h2, by rw [ax.length]; exact h3, fun p hp => ?_⟩)
      · intro z
        subst z
        cases ax
        exact h0 rfl
      · obtain ⟨y1, y2, y3⟩ := new_tup s hp (ax.rep k.toNat)
        exact t _ _ _ y1 y2 y3
  · cases e)
end

/-! ### comparisons of data -/
mutual
theorem Is.dp {K : Fg} {F : Fz} {H : Hp} : ∀ {w : V} {x : PyData}, Is K F H w x → x.canLay0 = true → Dp K H w x
  | _, _, .non, _ => .non
  | _, _, .bl b, _ => .bl b
  | _, _, .int i, _ => .int i
  | _, _, .str x, _ => .str x
  | _, _, .lst h r, c => .lst (.of h.2) (IsAll.dp r c)
  | _, _, .tup h r, c => .tup h (IsAll.dp r c)
  | _, _, .dct f h r, c => by cases c
  | _, _, .obj f h r, c => by cases c
  | _, _, .scr h r, c => by cases c
theorem IsAll.dp {K : Fg} {F : Fz} {H : Hp} : ∀ {ws : List V} {xs : List PyData}, IsAll K F H ws xs → PyData.canLayAll0 xs = true → DpAll K H ws xs
  | _, _, .nil, _ => .nil
  | _, _, .cons h r, c => .cons (Is.dp h (Bool.and_eq_true_iff.mp c).1) (IsAll.dp r (Bool.and_eq_true_iff.mp c).2)
end
abbrev shaped := SeqAt.shaped
theorem shaped_lay {x : PyData} (h : shaped x = true) : x.canLay0 = true := (Bool.and_eq_true_iff.mp h).1
def flat : PyData → Bool
  | .none | .bool _ | .int _ | .str _ => true
  | _ => false
/-- x == y -/
def dEq : PyData → PyData → Option Bool
  | .int i, .int j => some (decide (i = j))
  | .str x, .str y => some (decide (x = y))
  | .bool a, .bool b => some (decide (a = b))
  | .none, .none => some true
  | x, y => when (shaped x && shaped y) (PyData.eqv x y)
def pEq : P2 := fun x y => (dEq x y).map .bool
def pNe : P2 := fun x y => (dEq x y).map fun b => .bool !b
section
variable {X : Cx}
theorem dec_v {α : Type} [DecidableEq α] {f : α → V} (hf : ∀ a b, f a = f b → a = b) (a b : α) : decide (f a = f b) = decide (a = b) := by
  by_cases h : a = b
  · subst h
    simp
  · rw [decide_eq_false h, decide_eq_false fun z => h (hf a b z)]
theorem or_eq (hu : X.A.units + 64 < cLine) : OpR X (compareOp .Eq) (r2 X.K (oP pEq)) := op_P (opr_imp (opr_or op_eq (op_eqD hu)) fun x y H Q ⟨F, ι, S, xa, ya, z, s, ix, iy, e, t⟩ => by
  unfold pEq at e
  obtain ⟨b, eb, rfl⟩ := Option.map_eq_some_iff.mp e
  clear e
  have fin := fun b => t F H (.bl b) (.refl _ _ _) s
  unfold dEq at eb
  split at eb
  · next i j =>
    cases ix
    cases iy
    cases eb
    exact .inl ⟨rfl, by rw [dec_v (f := V.int) fun _ _ h => by injection h]; exact fin _ (.bl _)⟩
  · next i j =>
    cases ix
    cases iy
    cases eb
    exact .inl ⟨rfl, by rw [dec_v (f := V.str) fun _ _ h => by injection h]; exact fin _ (.bl _)⟩
  · next i j =>
    cases ix
    cases iy
    cases eb
    exact .inl ⟨rfl, by rw [dec_v (f := V.bl) fun _ _ h => by injection h]; exact fin _ (.bl _)⟩
  · cases ix
    cases iy
    cases eb
    exact .inl ⟨rfl, by simpa using fin true (.bl _)⟩
  · obtain ⟨h, rfl⟩ := when_some eb
    obtain ⟨h1, h2⟩ := Bool.and_eq_true_iff.mp h
    exact .inr ⟨_, _, ix.dp (shaped_lay h1), iy.dp (shaped_lay h2), h1, h2, fin _ (.bl _)⟩)
theorem or_ne (hu : X.A.units + 64 < cLine) : OpR X (compareOp .NotEq) (r2 X.K (oP pNe)) := op_P (opr_imp (opr_or op_ne (op_neD hu)) fun x y H Q ⟨F, ι, S, xa, ya, z, s, ix, iy, e, t⟩ => by
  unfold pNe at e
  obtain ⟨b, eb, rfl⟩ := Option.map_eq_some_iff.mp e
  clear e
  have fin := fun b => t F H (.bl b) (.refl _ _ _) s
  unfold dEq at eb
  split at eb
  · next i j =>
    cases ix
    cases iy
    cases eb
    exact .inl ⟨rfl, by rw [dec_v (f := V.int) fun _ _ h => by injection h]; exact fin _ (.bl _)⟩
  · next i j =>
    cases ix
    cases iy
    cases eb
    exact .inl ⟨rfl, by rw [dec_v (f := V.str) fun _ _ h => by injection h]; exact fin _ (.bl _)⟩
  · next i j =>
    cases ix
    cases iy
    cases eb
    exact .inl ⟨rfl, by rw [dec_v (f := V.bl) fun _ _ h => by injection h]; exact fin _ (.bl _)⟩
  · cases ix
    cases iy
    cases eb
    exact .inl ⟨rfl, by simpa using fin false (.bl _)⟩
  · obtain ⟨h, rfl⟩ := when_some eb
    obtain ⟨h1, h2⟩ := Bool.and_eq_true_iff.mp h
    exact .inr ⟨_, _, ix.dp (shaped_lay h1), iy.dp (shaped_lay h2), h1, h2, fin _ (.bl _)⟩)
end
end Fw
namespace Fw
open PySem L2

/-! ### sequences that are read -/
/-- the items of a list or tuple, as they stand -/
def seqOf : Val → Store → Option (List Val)
  | .d (.list xs), _ => some (xs.map .d)
  | .d (.tuple xs), _ => some (xs.map .d)
  | .d (.dict [(.bool true, .list xs)]), _ => some (xs.map .d)
  | .d _, _ => none
  | .r i, S => match S[i]? with
    | some (.lst vs) => some vs
    | some (.frz (.list xs)) => some (xs.map .d)
    | some (.scr xs) => some (xs.map .d)
    | _ => none
section
variable {K : Fg} {F : Fz} {ι : List Addr} {S : Store} {H : Hp} {w : V}
theorem scr_key {ws : List (Key × V)} {l : List (PyData × PyData)} (h : IsKV K F H ws l) : ∀ x ds, l = (.bool true, x) :: ds → False := fun x ds e => by
  cases h with
  | nil => cases e
  | cons a r =>
    rename_i k _ _ _ _
    cases k <;> cases e
theorem scr_ok {xs : List PyData} (q : Is K F H w (.dict [(.bool true, .list xs)])) : ∃ a ws, w = .ref a ∧ (SqL K H a ws ∨ SqT K H a ws) ∧ VAll K F ι H ws (xs.map .d) := by
  cases q with
  | dct f hx ax => exact (scr_key ax _ _ rfl).elim
  | scr hx ax => exact ⟨_, _, rfl, .inl hx.sq, .of_all ax⟩
theorem seqOf_ok {v : Val} {vs : List Val} (s : Sim K F ι S H) (q : VIs K F ι H w v) (h : seqOf v S = some vs) : ∃ a ws, w = .ref a ∧ (SqL K H a ws ∨ SqT K H a ws) ∧ VAll K F ι H ws vs := by
  unfold seqOf at h
  split at h
  · cases h
    cases q with
    | lst hx ax => exact ⟨_, _, rfl, .inl (.of hx.2), .of_all ax⟩
  · cases h
    cases q with
    | tup hx ax => exact ⟨_, _, rfl, .inr hx, .of_all ax⟩
  · cases h
    exact scr_ok q
  · cases h
  · next i =>
    obtain ⟨a, ha, rfl⟩ := q
    split at h
    · next vs' hc =>
      cases h
      obtain ⟨_, ws, h1, h2⟩ := s.cell i a _ ha hc
      exact ⟨a, ws, rfl, .inl (.of h1), h2⟩
    · next xs hc =>
      cases h
      obtain ⟨_, h2⟩ := s.cell i a _ ha hc
      cases h2 with
      | lst hx ax => exact ⟨_, _, rfl, .inl (.of hx.2), .of_all ax⟩
    · next xs hc =>
      cases h
      obtain ⟨_, o, ws, h1, h2⟩ := s.cell i a _ ha hc
      exact ⟨a, ws, rfl, .inl (.inl (.inr ⟨o, h1⟩)), .of_all h2⟩
    · cases h
end
theorem ixN_len {α β : Type} {xs : List α} {ys : List β} (h : xs.length = ys.length) (i : Int) : ixN xs.length i = ixN ys.length i := by rw [h]
theorem vall_atI {K : Fg} {F : Fz} {ι : List Addr} {H : Hp} {ws : List V} {vs : List Val} {i : Int} {v : Val} (h : VAll K F ι H ws vs) (e : atI vs i = some v) : ∃ w, atI ws i = some w ∧ VIs K F ι H w v := by
  unfold atI at e ⊢
  rw [ixN_len h.length]
  cases q : ixN vs.length i with
  | none =>
    rw [q] at e
    cases e
  | some j =>
    rw [q] at e
    obtain ⟨w, e1, e2⟩ := h.get e
    exact ⟨w, e1, e2⟩
/-- a[i] of a list, a tuple, a text -/
def oIx : O2 := fun a b S => match b with
  | .d (.int i) => match a with
    | .d (.str z) => match decide (z.length ≤ 100000) with
      | true => (atI z.cps.toList i).map fun c => (.d (.str ⟨#[c]⟩), S)
      | false => none
    | a => match seqOf a S with
      | some vs => (atI vs i).map fun v => (v, S)
      | none => none
  | _ => none
section
variable {X : Cx} {E : WX} {a b : Expr} {f g : EF} {pos : Pos}
theorem ixr_ix : IxR X (r2 X.K oIx) := fun value slice pins s σ H x y v u Q I rx ry h hs => by
  refine ix_seq value slice pins s σ H x y v u Q I rx ry ?_ hs
  obtain ⟨F, ι, S, a, b, r, S', sm, ia, ib, e, t⟩ := h
  unfold oIx at e
  split at e
  · next i =>
    cases ib
    split at e
    · next z =>
      split at e
      · next hz =>
        obtain ⟨c, hc, e⟩ := Option.map_eq_some_iff.mp e
        cases e
        cases ia
        exact .inr (.inr ⟨z, i, c, rfl, rfl, big_line (of_decide_eq_true hz), hc, t F ι H _ (.refl _ _ _) sm (.str _)⟩)
      · cases e
    · split at e
      · next vs hv =>
        obtain ⟨c, hc, e⟩ := Option.map_eq_some_iff.mp e
        cases e
        obtain ⟨p, ws, rfl, hp, hw⟩ := seqOf_ok sm ia hv
        obtain ⟨w, h1, h2⟩ := vall_atI hw hc
        rcases hp with hp | hp
        · exact .inl ⟨p, ws, i, w, rfl, rfl, hp, h1, t F ι H _ (.refl _ _ _) sm h2⟩
        · exact .inr (.inl ⟨p, ws, i, w, rfl, rfl, hp, h1, t F ι H _ (.refl _ _ _) sm h2⟩)
      · cases e
  · cases e
theorem se_ix (ha : SE X E a f) (hb : SE X E b g) (hs : PlainIx b := by exact fun _ _ => rfl) : SE X E (.Subscript a b pos) (e2 oIx f g) := ⟨PE.imp (pe_ix ixr_ix ha.pe hb.pe hs) fun _ _ _ h => t_e2 h⟩
end

/-! ### in, not in -/
def flatD : PyData → Bool
  | .none | .bool _ | .int _ | .str _ => true
  | _ => false
def vOf : PyData → V
  | .none => .non
  | .bool b => .bl b
  | .int i => .int i
  | .str x => .str x
  | _ => .non
theorem is_flat {K : Fg} {F : Fz} {H : Hp} {w : V} {x : PyData} (h : Is K F H w x) (f : flatD x = true) : w = vOf x ∧ flatV w = true := by
  cases h <;> first | exact ⟨rfl, rfl⟩ | cases f
theorem isall_flat {K : Fg} {F : Fz} {H : Hp} : ∀ {ws : List V} {xs : List PyData}, IsAll K F H ws xs → xs.all flatD = true → ws = xs.map vOf ∧ ws.all flatV = true
  | _, _, .nil, _ => ⟨rfl, rfl⟩
  | _, _, .cons h r, f => by
    rw [List.all_cons, Bool.and_eq_true] at f
    obtain ⟨h1, h2⟩ := is_flat h f.1
    obtain ⟨h3, h4⟩ := isall_flat r f.2
    refine ⟨by rw [List.map_cons, ← h1, ← h3], ?_⟩
    rw [List.all_cons, h2, h4]
    rfl
/-- x in xs -/
def dIn (x : PyData) (xs : List PyData) : Option Bool := match flatD x && xs.all flatD with
  | true => some (inV (vOf x) (xs.map vOf))
  | false => when (shaped x && shaped (.list xs)) (xs.any fun y => PyData.eqv y x)
def oIn (neg : Bool) : O2 := fun a b S => match a with
  | .d x => match seqOf b S with
    | some vs => match pureAll vs with
      | some xs => (dIn x xs).map fun r => (.d (.bool (if neg then !r else r)), S)
      | none => none
    | none => none
  | .r _ => none
section
variable {X : Cx}
def rInS (K : Fg) (neg : Bool) : R2 := fun x y H Q => ∃ d ds p, Dp K H x d ∧ y = .ref p ∧ ((∃ ws, SqL K H p ws ∧ DpAll K H ws ds) ∨ (∃ ws, SqT K H p ws ∧ DpAll K H ws ds)) ∧ shaped d = true ∧ shaped (.list ds) = true ∧ Q (.bl (if neg then !(ds.any fun z => PyData.eqv z d) else ds.any fun z => PyData.eqv z d)) H
theorem op_inS (hu : X.A.units + 65 < cLine) : OpR X (compareOp .In) (rInS X.K false) := by
  intro pins s σ H x y v u Q I rx ry h
  obtain ⟨d, ds, p, hd, rfl, he, sd, se, q⟩ := h
  obtain ⟨as, r1⟩ := Dp.reads I d x v hd rx
  rcases he with ⟨ws, hp, ha⟩ | ⟨ws, hp, ha⟩
  · obtain ⟨bs, r2⟩ := Dp.reads I (.list ds) _ u (.lst hp ha) ry
    exact SeqAt.in_list_reads r2 r1 (SeqAt.canLay_of_shaped se) (SeqAt.canLay_of_shaped sd) (PyProof.Rows.room_in_shaped sd hu) ⟨.bl _, H, I, rfl, q⟩
  · obtain ⟨bs, r2⟩ := Dp.reads I (.tuple ds) _ u (.tup hp ha) ry
    exact SeqAt.in_tuple_reads r2 r1 (SeqAt.canLay_of_shaped se) (SeqAt.canLay_of_shaped sd) (PyProof.Rows.room_in_shaped sd hu) ⟨.bl _, H, I, rfl, q⟩
theorem op_ninS (hu : X.A.units + 65 < cLine) : OpR X (compareOp .NotIn) (rInS X.K true) := by
  intro pins s σ H x y v u Q I rx ry h
  obtain ⟨d, ds, p, hd, rfl, he, sd, se, q⟩ := h
  obtain ⟨as, r1⟩ := Dp.reads I d x v hd rx
  rcases he with ⟨ws, hp, ha⟩ | ⟨ws, hp, ha⟩
  · obtain ⟨bs, r2⟩ := Dp.reads I (.list ds) _ u (.lst hp ha) ry
    exact SeqAt.notIn_list_reads r2 r1 (SeqAt.canLay_of_shaped se) (SeqAt.canLay_of_shaped sd) (PyProof.Rows.room_in_shaped sd hu) ⟨.bl _, H, I, rfl, q⟩
  · obtain ⟨bs, r2⟩ := Dp.reads I (.tuple ds) _ u (.tup hp ha) ry
    exact SeqAt.notIn_tuple_reads r2 r1 (SeqAt.canLay_of_shaped se) (SeqAt.canLay_of_shaped sd) (PyProof.Rows.room_in_shaped sd hu) ⟨.bl _, H, I, rfl, q⟩
theorem r_in {neg : Bool} {x y : V} {H : Hp} {Q : VK} (h : r2 X.K (oIn neg) x y H Q) : rIn X.K neg x y H Q ∨ rInS X.K neg x y H Q := by
  obtain ⟨F, ι, S, a, b, r, S', sm, ia, ib, e, t⟩ := h
  unfold oIn at e
  split at e
  · next x' =>
    split at e
    · next vs hv =>
      split at e
      · next xs hp =>
        obtain ⟨k, hk, e⟩ := Option.map_eq_some_iff.mp e
        cases e
        obtain ⟨p, ws, rfl, hq, hw⟩ := seqOf_ok sm ib hv
        have iw := pureAll_ok hp hw
        have fin := t F ι H _ (.refl _ _ _) sm (.bl _)
        unfold dIn at hk
        split at hk
        · next hf =>
          cases hk
          obtain ⟨f1, f2⟩ := Bool.and_eq_true_iff.mp hf
          obtain ⟨g1, g2⟩ := is_flat ia f1
          obtain ⟨g3, g4⟩ := isall_flat iw f2
          refine .inl ⟨p, ws, rfl, hq, g2, g4, ?_⟩
          rw [g1, g3]
          exact fin
        · obtain ⟨hs, rfl⟩ := when_some hk
          obtain ⟨f1, f2⟩ := Bool.and_eq_true_iff.mp hs
          refine .inr ⟨x', xs, p, ia.dp (shaped_lay f1), rfl, ?_, f1, f2, fin⟩
          have dw := iw.dp (show PyData.canLayAll0 xs = true from shaped_lay f2)
          rcases hq with hq | hq
          · exact .inl ⟨ws, hq, dw⟩
          · exact .inr ⟨ws, hq, dw⟩
      · cases e
    · cases e
  · cases e
theorem or_in (hu : X.A.units + 65 < cLine) : OpR X (compareOp .In) (r2 X.K (oIn false)) := opr_imp (opr_or op_in_seq (op_inS hu)) fun _ _ _ _ h => r_in h
theorem or_nin (hu : X.A.units + 65 < cLine) : OpR X (compareOp .NotIn) (r2 X.K (oIn true)) := opr_imp (opr_or op_notIn_seq (op_ninS hu)) fun _ _ _ _ h => r_in h
end

/-! ### order of ints and texts, is -/
def cpsLt (x y : Str) : Bool := decide (x.cps.toList < y.cps.toList)
def pLt : P2
  | .int i, .int j => some (.bool (decide (i < j)))
  | .str x, .str y => some (.bool (cpsLt x y))
  | _, _ => none
def pLe : P2
  | .int i, .int j => some (.bool (decide (i ≤ j)))
  | .str x, .str y => some (.bool (!cpsLt y x))
  | _, _ => none
def pGt : P2
  | .int i, .int j => some (.bool (decide (j < i)))
  | .str x, .str y => some (.bool (cpsLt y x))
  | _, _ => none
def pGe : P2
  | .int i, .int j => some (.bool (decide (j ≤ i)))
  | .str x, .str y => some (.bool (!cpsLt x y))
  | _, _ => none
def pIs : P2
  | .bool a, .bool b => some (.bool (decide (a = b)))
  | x, .none => some (.bool (match x with
    | .none => true
    | _ => false))
  | _, _ => none
def pIsNot : P2
  | .bool a, .bool b => some (.bool (!decide (a = b)))
  | x, .none => some (.bool (match x with
    | .none => false
    | _ => true))
  | _, _ => none
section
variable {X : Cx}
theorem or_lt : OpR X (compareOp .Lt) (r2 X.K (oP pLt)) := op_P (opr_imp (opr_or op_lt op_lt_str) fun x y H Q ⟨F, ι, S, xa, ya, z, s, ix, iy, e, t⟩ => by
  unfold pLt at e
  split at e
  · cases ix
    cases iy
    cases e
    exact .inl ⟨_, _, rfl, rfl, t F H _ (.refl _ _ _) s (.bl _)⟩
  · cases ix
    cases iy
    cases e
    exact .inr ⟨_, _, rfl, rfl, t F H _ (.refl _ _ _) s (.bl _)⟩
  · cases e)
theorem or_le : OpR X (compareOp .LtE) (r2 X.K (oP pLe)) := op_P (opr_imp (opr_or op_le op_le_str) fun x y H Q ⟨F, ι, S, xa, ya, z, s, ix, iy, e, t⟩ => by
  unfold pLe at e
  split at e
  · cases ix
    cases iy
    cases e
    exact .inl ⟨_, _, rfl, rfl, t F H _ (.refl _ _ _) s (.bl _)⟩
  · cases ix
    cases iy
    cases e
    exact .inr ⟨_, _, rfl, rfl, t F H _ (.refl _ _ _) s (.bl _)⟩
  · cases e)
theorem or_gt : OpR X (compareOp .Gt) (r2 X.K (oP pGt)) := op_P (opr_imp (opr_or op_gt op_gt_str) fun x y H Q ⟨F, ι, S, xa, ya, z, s, ix, iy, e, t⟩ => by
  unfold pGt at e
  split at e
  · cases ix
    cases iy
    cases e
    exact .inl ⟨_, _, rfl, rfl, t F H _ (.refl _ _ _) s (.bl _)⟩
  · cases ix
    cases iy
    cases e
    exact .inr ⟨_, _, rfl, rfl, t F H _ (.refl _ _ _) s (.bl _)⟩
  · cases e)
theorem or_ge : OpR X (compareOp .GtE) (r2 X.K (oP pGe)) := op_P (opr_imp (opr_or op_ge op_ge_str) fun x y H Q ⟨F, ι, S, xa, ya, z, s, ix, iy, e, t⟩ => by
  unfold pGe at e
  split at e
  · cases ix
    cases iy
    cases e
    exact .inl ⟨_, _, rfl, rfl, t F H _ (.refl _ _ _) s (.bl _)⟩
  · cases ix
    cases iy
    cases e
    exact .inr ⟨_, _, rfl, rfl, t F H _ (.refl _ _ _) s (.bl _)⟩
  · cases e)
theorem or_is : OpR X (compareOp .Is) (r2 X.K (oP pIs)) := op_P (opr_imp (opr_or op_isBl op_isN) fun x y H Q ⟨F, ι, S, xa, ya, z, s, ix, iy, e, t⟩ => by
  unfold pIs at e
  split at e
  · cases ix
    cases iy
    cases e
    exact .inl ⟨_, _, rfl, rfl, t F H _ (.refl _ _ _) s (.bl _)⟩
  · cases iy
    cases e
    refine .inr ⟨rfl, ?_⟩
    have fin := fun b => t F H (.bl b) (.refl _ _ _) s
    cases ix <;> exact fin _ (.bl _)
  · cases e)
theorem or_isnot : OpR X (compareOp .IsNot) (r2 X.K (oP pIsNot)) := op_P (opr_imp (opr_or op_notBl op_notN) fun x y H Q ⟨F, ι, S, xa, ya, z, s, ix, iy, e, t⟩ => by
  unfold pIsNot at e
  split at e
  · cases ix
    cases iy
    cases e
    exact .inl ⟨_, _, rfl, rfl, t F H _ (.refl _ _ _) s (.bl _)⟩
  · cases iy
    cases e
    refine .inr ⟨rfl, ?_⟩
    have fin := fun b => t F H (.bl b) (.refl _ _ _) s
    cases ix <;> exact fin _ (.bl _)
  · cases e)
end
end Fw
namespace Fw
open PySem L2

/-! ### truth -/
def truthD : PyData → Option Bool
  | .none => some false
  | .bool b => some b
  | .int i => some (i != 0)
  | .str x => when (decide (x.length ≤ 100000)) ((x.length : Int) != 0)
  | .list xs => some (!xs.isEmpty)
  | .tuple xs => some (!xs.isEmpty)
  | .dict _ => none
def truth : Val → Store → Option Bool
  | .d x, _ => truthD x
  | .r i, S => match S[i]? with
    | some (.lst vs) => some (!vs.isEmpty)
    | some (.frz x) => truthD x
    | some (.dct vs) => some (!vs.isEmpty)
    | _ => none
theorem vall_empty {K : Fg} {F : Fz} {ι : List Addr} {H : Hp} : ∀ {ws : List V} {vs : List Val}, VAll K F ι H ws vs → ws.isEmpty = vs.isEmpty
  | [], [], _ => rfl
  | _ :: _, _ :: _, _ => rfl
  | [], _ :: _, h => h.elim
  | _ :: _, [], h => h.elim
theorem vks_empty {K : Fg} {F : Fz} {ι : List Addr} {H : Hp} {κ : Type} : ∀ {ws : List (κ × V)} {vs : List (κ × Val)}, VKs K F ι H ws vs → ws.isEmpty = vs.isEmpty
  | [], [], _ => rfl
  | _ :: _, _ :: _, _ => rfl
  | [], _ :: _, h => h.elim
  | _ :: _, [], h => h.elim
theorem isall_empty {K : Fg} {F : Fz} {H : Hp} {ws : List V} {xs : List PyData} (h : IsAll K F H ws xs) : ws.isEmpty = xs.isEmpty := by
  cases h <;> rfl
section
variable {K : Fg} {F : Fz} {ι : List Addr} {S : Store} {H : Hp} {w : V}
theorem truthD_ok {x : PyData} {k : Bool} (q : Is K F H w x) (h : truthD x = some k) : TruV K w H k := by
  cases q with
  | non =>
    cases h
    exact rfl
  | bl b =>
    cases h
    exact rfl
  | int i =>
    cases h
    exact rfl
  | str x =>
    obtain ⟨h1, rfl⟩ := when_some h
    exact ⟨big_line (of_decide_eq_true h1), rfl⟩
  | lst hx ax =>
    cases h
    exact .inl ⟨_, .of hx.2, by rw [isall_empty ax]⟩
  | tup hx ax =>
    cases h
    exact .inr (.inl ⟨_, hx, by rw [isall_empty ax]⟩)
  | dct f hx ax => cases h
  | obj f hx ax => cases h
  | exc => cases h
  | scr hx ax => cases h
theorem truth_ok {v : Val} {k : Bool} (s : Sim K F ι S H) (q : VIs K F ι H w v) (h : truth v S = some k) : TruV K w H k := by
  cases v with
  | d x => exact truthD_ok q h
  | r i =>
    obtain ⟨a, ha, rfl⟩ := q
    unfold truth at h
    simp only at h
    split at h
    · next vs hc =>
      cases h
      obtain ⟨_, ws, h1, h2⟩ := s.cell i a _ ha hc
      exact .inl ⟨ws, .of h1, by rw [vall_empty h2]⟩
    · next x hc => exact truthD_ok (s.cell i a _ ha hc).2 h
    · next vs hc =>
      cases h
      obtain ⟨_, ws, h1, h2⟩ := s.cell i a _ ha hc
      exact .inr (.inr ⟨ws, h1, by rw [vks_empty h2]⟩)
    · cases h
end
def liftB : Option Bool → Store → R Bool
  | some b, S => .ok b S
  | none, _ => .bad
def bT (f : EF) : BF := fun env S => (f env S).bind fun v S1 => liftB (truth v S1) S1
/-- of a bool alone -/
def asB : Val → Option Bool
  | .d (.bool b) => some b
  | _ => none
def bV (f : EF) : BF := fun env S => (f env S).bind fun v S1 => liftB (asB v) S1
def bNot (f : BF) : BF := fun env S => (f env S).bind fun b S1 => .ok (!b) S1
def bAnd (f g : BF) : BF := fun env S => (f env S).bind fun b S1 => match b with
  | true => g env S1
  | false => .ok false S1
def bOr (f g : BF) : BF := fun env S => (f env S).bind fun b S1 => match b with
  | true => .ok true S1
  | false => g env S1
def eAnd (f g : EF) : EF := fun env S => (f env S).bind fun v S1 => match truth v S1 with
  | some true => g env S1
  | some false => .ok v S1
  | none => .bad
def eOr (f g : EF) : EF := fun env S => (f env S).bind fun v S1 => match truth v S1 with
  | some true => .ok v S1
  | some false => g env S1
  | none => .bad
def eNot (f : EF) : EF := fun env S => (f env S).bind fun v S1 => match truth v S1 with
  | some b => .ok (.d (.bool (!b))) S1
  | none => .bad
def eIf (c : BF) (f g : EF) : EF := fun env S => (c env S).bind fun b S1 => match b with
  | true => f env S1
  | false => g env S1
def eChain (o o' : O2) (f g h : EF) : EF := fun env S => (f env S).bind fun a S1 => (g env S1).bind fun b S2 => (lift (o a b S2)).bind fun r S3 => match asB r with
  | some true => (h env S3).bind fun c S4 => lift (o' b c S4)
  | some false => .ok (.d (.bool false)) S3
  | none => .bad
structure SW (X : Cx) (E : WX) (e : Expr) (f : BF) : Prop where
  pw : PW X e (TBf E X.K f)
theorem PW.imp {X : Cx} {e : Expr} {t t' : TT} (h : PW X e t) (i : ∀ σ H Q, t' σ H Q → t σ H Q) : PW X e t' := ⟨fun wh pins s σ H Q I q => h.run wh pins s σ H Q I (i σ H Q q)⟩
section
variable {X : Cx} {E : WX} {a b c : Expr} {rest : List Expr} {f g h : EF} {p q : BF} {pos : Pos}
theorem liftB_ok {K : Fg} {σ : St} {F : Fz} {ι : List Addr} {H : Hp} {o : Option Bool} {S : Store} {Q : Bool → Hp → Prop} (s : Sim K F ι S H) (l : Lands K E σ F ι H relB (liftB o S) Q) : ∃ k, o = some k ∧ Q k H := by
  cases o with
  | none => exact l.elim
  | some k => exact ⟨k, rfl, l F ι H k (.refl _ _ _) s rfl⟩
theorem sb_t (ha : SE X E a f) (he : ∀ whole, isTrue a X.env whole = (do let v ← whole; standAt a.pos; holding [v] (truthy v)) := by intro _; rfl) : SB X E a (bT f) := ⟨PT.imp (pt_truth ha.pe he) fun σ H Q ⟨F, ι, env, S, s, en, l⟩ => by
  refine ⟨F, ι, env, S, s, en, (l.bind (rel := relV X.K)).imp ?_⟩
  rintro w H1 ⟨F1, ι1, v, S1, x1, s1, q1, l1⟩
  obtain ⟨k, e, qk⟩ := liftB_ok s1 l1
  exact ⟨k, truth_ok s1 q1 e, qk⟩⟩
theorem asB_ok {K : Fg} {F : Fz} {ι : List Addr} {H : Hp} {w : V} {v : Val} {k : Bool} (q : VIs K F ι H w v) (h : asB v = some k) : w = .bl k := by
  unfold asB at h
  split at h
  · cases h
    cases q
    rfl
  · cases h
/-- a comparison as a test -/
theorem sb_cmp {op : CmpOp} {o : O2} (ho : OpR X (compareOp op) (r2 X.K o)) (ha : SE X E a f) (hb : SE X E b g) (hm : behindInMarks op b = false := by first | exact nobehind _ (by decide) (by decide) | rfl) : SB X E (.Compare a [op] [b] pos) (bV (e2 o f g)) := ⟨PT.imp (pt_cmpR ho ha.pe hb.pe hm) fun σ H Q ⟨F, ι, env, S, s, en, l⟩ => by
  have hh : TEf E X.K (e2 o f g) σ H fun x H' => ∃ k, x = .bl k ∧ Q k H' := by
    refine ⟨F, ι, env, S, s, en, (l.bind (rel := relV X.K)).imp ?_⟩
    rintro w H1 ⟨F1, ι1, v, S1, x1, s1, q1, l1⟩
    obtain ⟨k, e, qk⟩ := liftB_ok s1 l1
    exact ⟨k, asB_ok q1 e, qk⟩
  exact t_e2 hh⟩
theorem sb_not (ha : SB X E a p) : SB X E (.UnaryOp .Not a pos) (bNot p) := ⟨PT.imp (pt_not ha.pt) fun σ H Q ⟨F, ι, env, S, s, en, l⟩ => by
  refine ⟨F, ι, env, S, s, en, (l.bind (rel := relB)).imp ?_⟩
  rintro w H1 ⟨F1, ι1, v, S1, x1, s1, q1, l1⟩
  subst q1
  exact l1 F1 ι1 H1 _ (.refl _ _ _) s1 rfl⟩
theorem sw_and1 (ha : SB X E a p) : SW X E (.BoolOp .And [a] pos) p := ⟨pw_and1 ha.pt⟩
theorem sw_or1 (ha : SB X E a p) : SW X E (.BoolOp .Or [a] pos) p := ⟨pw_or1 ha.pt⟩
theorem sw_and (ha : SB X E a p) (hb : SW X E (.BoolOp .And (b :: rest) pos) q) : SW X E (.BoolOp .And (a :: b :: rest) pos) (bAnd p q) := ⟨PW.imp (pw_and ha.pt hb.pw) fun σ H Q ⟨F, ι, env, S, s, en, l⟩ => by
  refine ⟨F, ι, env, S, s, en, (l.bind (rel := relB)).imp ?_⟩
  rintro w H1 ⟨F1, ι1, v, S1, x1, s1, q1, l1⟩
  subst q1
  cases w with
  | true => exact ⟨F1, ι1, env, S1, s1, en.mono x1, l1⟩
  | false => exact l1 F1 ι1 H1 _ (.refl _ _ _) s1 rfl⟩
theorem sw_or (ha : SB X E a p) (hb : SW X E (.BoolOp .Or (b :: rest) pos) q) : SW X E (.BoolOp .Or (a :: b :: rest) pos) (bOr p q) := ⟨PW.imp (pw_or ha.pt hb.pw) fun σ H Q ⟨F, ι, env, S, s, en, l⟩ => by
  refine ⟨F, ι, env, S, s, en, (l.bind (rel := relB)).imp ?_⟩
  rintro w H1 ⟨F1, ι1, v, S1, x1, s1, q1, l1⟩
  subst q1
  cases w with
  | true => exact l1 F1 ι1 H1 _ (.refl _ _ _) s1 rfl
  | false => exact ⟨F1, ι1, env, S1, s1, en.mono x1, l1⟩⟩
theorem sb_w (h : SW X E a p) : SB X E a p := ⟨h.pw.pt⟩
/-! ### as values -/
theorem se_one {op : _} (ha : SE X E a f) : SE X E (.BoolOp op [a] pos) f := ⟨pe_one ha.pe⟩
theorem se_and (ha : SE X E a f) (hb : SE X E (.BoolOp .And (b :: rest) pos) g) : SE X E (.BoolOp .And (a :: b :: rest) pos) (eAnd f g) := ⟨PE.imp (pe_andT ha.pe hb.pe) fun σ H Q ⟨F, ι, env, S, s, en, l⟩ => by
  refine ⟨F, ι, env, S, s, en, (l.bind (rel := relV X.K)).imp ?_⟩
  rintro w H1 ⟨F1, ι1, v, S1, x1, s1, q1, l1⟩
  split at l1
  · next e =>
    refine ⟨true, truth_ok s1 q1 e, ?_⟩
    rw [if_pos rfl]
    exact ⟨F1, ι1, env, S1, s1, en.mono x1, l1⟩
  · next e =>
    refine ⟨false, truth_ok s1 q1 e, ?_⟩
    rw [if_neg Bool.false_ne_true]
    exact l1 F1 ι1 H1 _ (.refl _ _ _) s1 q1
  · exact l1.elim⟩
theorem se_or (ha : SE X E a f) (hb : SE X E (.BoolOp .Or (b :: rest) pos) g) : SE X E (.BoolOp .Or (a :: b :: rest) pos) (eOr f g) := ⟨PE.imp (pe_orT ha.pe hb.pe) fun σ H Q ⟨F, ι, env, S, s, en, l⟩ => by
  refine ⟨F, ι, env, S, s, en, (l.bind (rel := relV X.K)).imp ?_⟩
  rintro w H1 ⟨F1, ι1, v, S1, x1, s1, q1, l1⟩
  split at l1
  · next e =>
    refine ⟨true, truth_ok s1 q1 e, ?_⟩
    rw [if_pos rfl]
    exact l1 F1 ι1 H1 _ (.refl _ _ _) s1 q1
  · next e =>
    refine ⟨false, truth_ok s1 q1 e, ?_⟩
    rw [if_neg Bool.false_ne_true]
    exact ⟨F1, ι1, env, S1, s1, en.mono x1, l1⟩
  · exact l1.elim⟩
theorem se_not (ha : SE X E a f) : SE X E (.UnaryOp .Not a pos) (eNot f) := ⟨PE.imp (pe_notT ha.pe) fun σ H Q ⟨F, ι, env, S, s, en, l⟩ => by
  refine ⟨F, ι, env, S, s, en, (l.bind (rel := relV X.K)).imp ?_⟩
  rintro w H1 ⟨F1, ι1, v, S1, x1, s1, q1, l1⟩
  split at l1
  · next k e => exact ⟨k, truth_ok s1 q1 e, l1 F1 ι1 H1 _ (.refl _ _ _) s1 (.bl _)⟩
  · exact l1.elim⟩
theorem se_if (hc : SB X E c p) (ha : SE X E a f) (hb : SE X E b g) : SE X E (.IfExp c a b pos) (eIf p f g) := ⟨PE.imp (pe_ifExp hc.pt ha.pe hb.pe) fun σ H Q ⟨F, ι, env, S, s, en, l⟩ => by
  refine ⟨F, ι, env, S, s, en, (l.bind (rel := relB)).imp ?_⟩
  rintro w H1 ⟨F1, ι1, v, S1, x1, s1, q1, l1⟩
  subst q1
  cases w with
  | true =>
    rw [if_pos rfl]
    exact ⟨F1, ι1, env, S1, s1, en.mono x1, l1⟩
  | false =>
    rw [if_neg Bool.false_ne_true]
    exact ⟨F1, ι1, env, S1, s1, en.mono x1, l1⟩⟩
theorem t_chain {K : Fg} {o o' : O2} {σ : St} {H : Hp} {Q : VK} (hh : TEf E K (eChain o o' f g h) σ H Q) : tChain (r2 K o) (r2 K o') (TEf E K f) (TEf E K g) (TEf E K h) σ H Q := by
  obtain ⟨F, ι, env, S, s, en, l⟩ := hh
  refine ⟨F, ι, env, S, s, en, (l.bind (rel := relV K)).imp ?_⟩
  rintro w H1 ⟨F1, ι1, v, S1, x1, s1, q1, l1⟩
  refine ⟨F1, ι1, env, S1, s1, en.mono x1, (l1.bind (rel := relV K)).imp ?_⟩
  rintro w2 H2 ⟨F2, ι2, v2, S2, x2, s2, q2, l2⟩
  cases ho : o v v2 S2 with
  | none =>
    rw [ho] at l2
    exact l2.elim
  | some r =>
    obtain ⟨r, S3⟩ := r
    rw [ho] at l2
    refine ⟨F2, ι2, S2, v, v2, r, S3, s2, q1.mono x2, q2, ho, fun F3 ι3 H3 w3 x3 s3 q3 => ?_⟩
    have l3 : Lands K E σ F2 ι2 H2 (relV K) (match asB r with
      | some true => (h env S3).bind fun c S4 => lift (o' v2 c S4)
      | some false => .ok (.d (.bool false)) S3
      | none => .bad) Q := l2
    split at l3
    · next e =>
      refine ⟨true, asB_ok q3 e, ?_⟩
      rw [if_pos rfl]
      have l4 := Lands.shift (E := E) x3 l3
      refine ⟨F3, ι3, env, S3, s3, ((en.mono x1).mono x2).mono x3, (l4.bind (rel := relV K)).imp ?_⟩
      rintro w4 H4 ⟨F4, ι4, v4, S4, x4, s4, q4, l5⟩
      obtain ⟨v5, S5, e5, t5⟩ := lift_ok l5
      exact ⟨F4, ι4, S4, v2, v4, v5, S5, s4, (q2.mono x3).mono x4, q4, e5, t5⟩
    · next e =>
      refine ⟨false, asB_ok q3 e, ?_⟩
      rw [if_neg Bool.false_ne_true]
      exact l3 F3 ι3 H3 _ x3 s3 (.bl _)
    · exact l3.elim
theorem se_chain {op op' : CmpOp} {o o' : O2} (ho : OpR X (compareOp op) (r2 X.K o)) (ho' : OpR X (compareOp op') (r2 X.K o')) (ha : SE X E a f) (hb : SE X E b g) (hc : SE X E c h) (hm : lastMarks [op, op'] [b, c] = false := by with_unfolding_all rfl) :
    SE X E (.Compare a [op, op'] [b, c] pos) (eChain o o' f g h) := ⟨PE.imp (pe_chain ho ho' ha.pe hb.pe hc.pe hm) fun _ _ _ hh => t_chain hh⟩
theorem sb_chain {op op' : CmpOp} {o o' : O2} (ho : OpR X (compareOp op) (r2 X.K o)) (ho' : OpR X (compareOp op') (r2 X.K o')) (ha : SE X E a f) (hb : SE X E b g) (hc : SE X E c h) (hm : lastMarks [op, op'] [b, c] = false := by with_unfolding_all rfl) :
    SB X E (.Compare a [op, op'] [b, c] pos) (bV (eChain o o' f g h)) := ⟨PT.imp (pt_chain ho ho' ha.pe hb.pe hc.pe hm) fun σ H Q ⟨F, ι, env, S, s, en, l⟩ => by
  have hh : TEf E X.K (eChain o o' f g h) σ H fun x H' => ∃ k, x = .bl k ∧ Q k H' := by
    refine ⟨F, ι, env, S, s, en, (l.bind (rel := relV X.K)).imp ?_⟩
    rintro w H1 ⟨F1, ι1, v, S1, x1, s1, q1, l1⟩
    obtain ⟨k, e, qk⟩ := liftB_ok s1 l1
    exact ⟨k, asB_ok q1 e, qk⟩
  exact t_chain hh⟩
/-! ### unary minus -/
def oNeg : O1 := fun v S => match v with
  | .d (.int i) => some (.d (.int (-i)), S)
  | _ => none
theorem se_neg (ha : SE X E a f) : SE X E (.UnaryOp .USub a pos) (e1 oNeg f) := ⟨PE.imp (pe_un un_neg ha.pe) fun σ H Q hh => by
  have h2 := t_e1 hh
  obtain ⟨F, ι, env, S, s, en, l⟩ := h2
  refine ⟨F, ι, env, S, s, en, l.imp fun w H1 ⟨F, ι, S, v, r, S', sm, q, e, t⟩ => ?_⟩
  unfold oNeg at e
  split at e
  · next i =>
    cases e
    cases q
    exact ⟨i, rfl, t F ι H1 _ (.refl _ _ _) sm (.int _)⟩
  · cases e⟩
end
end Fw
namespace Fw
open PySem L2

/-! ### calls of what is built in -/
theorem callr_imp {X : Cx} {f : Value} {r r' : List V → Hp → VK → Prop} (h : CallR X f r) (i : ∀ xs H Q, r' xs H Q → r xs H Q) : CallR X f r' := fun pins s σ H xs us Q I rs q => h pins s σ H xs us Q I rs (i xs H Q q)
section
variable {X : Cx} {E : WX} {x : Str} {p pos : Pos} {e : Expr} {es : List Expr} {g : AF} {o : OA} {id T : String}
theorem se_callB (hc : CallR X (.builtin id) (rA X.K o)) (hg : Gl X x) (hm : X.mg x = none) (hv : bootBuiltins x = some (.builtin id)) (ha : SA X E (e :: es) g) (hn : x ≠ "__name__" := by decide) (hdb : (x == ("__debug__" : Str)) = false := by decide)
    (he : starEach (e :: es) X.env = (false, eval e X.env) :: starEach es X.env := by rfl) (hpl : (backTo pos (starEach es X.env)).any (·.1) = false := by rfl) : SE X E (.Call (.Name x p) (e :: es) [] pos) (eA o g) := ⟨PE.imp (pe_callB hc hg hm hv ha.pa hn hdb he hpl) fun _ _ _ h => t_eA h⟩
theorem se_callTy (hc : CallR X (.type T) (rA X.K o)) (hg : Gl X x) (hm : X.mg x = none) (hv : bootBuiltins x = some (.type T)) (ha : SA X E (e :: es) g) (hn : x ≠ "__name__" := by decide) (hdb : (x == ("__debug__" : Str)) = false := by decide)
    (he : starEach (e :: es) X.env = (false, eval e X.env) :: starEach es X.env := by rfl) (hpl : (backTo pos (starEach es X.env)).any (·.1) = false := by rfl) : SE X E (.Call (.Name x p) (e :: es) [] pos) (eA o g) := ⟨PE.imp (pe_callTy hc hg hm hv ha.pa hn hdb he hpl) fun _ _ _ h => t_eA h⟩
end
/-- one value -/
theorem vall1 {K : Fg} {F : Fz} {ι : List Addr} {H : Hp} {xs : List V} {v : Val} (h : VAll K F ι H xs [v]) : ∃ w, xs = [w] ∧ VIs K F ι H w v := by
  match xs, h with
  | [w], h => exact ⟨w, rfl, h.1⟩
theorem vall2 {K : Fg} {F : Fz} {ι : List Addr} {H : Hp} {xs : List V} {v u : Val} (h : VAll K F ι H xs [v, u]) : ∃ w y, xs = [w, y] ∧ VIs K F ι H w v ∧ VIs K F ι H y u := by
  match xs, h with
  | [w, y], h => exact ⟨w, y, rfl, h.1, h.2.1⟩

/-! ### len -/
def isObj : List (PyData × PyData) → Bool
  | (.none, _) :: _ => true
  | (.bool _, _) :: _ => true
  | _ => false
/-- how long a value is -/
def lenOf (v : Val) (S : Store) : Option Nat := match seqOf v S with
  | some ws => some ws.length
  | none => match v with
    | .d (.str z) => when (decide (z.length ≤ 100000)) z.length
    | .d (.dict kvs) => when (!isObj kvs) kvs.length
    | .r i => match S[i]? with
      | some (.dct kvs) => some kvs.length
      | _ => none
    | _ => none
def oLen : OA := fun vs S => match vs with
  | [v] => (lenOf v S).map fun (n : Nat) => (.d (.int (n : Int)), S)
  | _ => none
theorem iskv_length {K : Fg} {F : Fz} {H : Hp} : ∀ {ws : List (Key × V)} {xs : List (PyData × PyData)}, IsKV K F H ws xs → ws.length = xs.length
  | _, _, .nil => rfl
  | _, _, .cons _ r => congrArg Nat.succ (iskv_length r)
theorem vks_length {K : Fg} {F : Fz} {ι : List Addr} {H : Hp} {κ : Type} : ∀ {ws : List (κ × V)} {vs : List (κ × Val)}, VKs K F ι H ws vs → ws.length = vs.length
  | [], [], _ => rfl
  | (_, _) :: _, (_, _) :: _, h => congrArg Nat.succ (vks_length h.2.2)
  | [], _ :: _, h => h.elim
  | _ :: _, [], h => h.elim
section
variable {X : Cx}
theorem cr_len : CallR X (.builtin "len") (rA X.K oLen) := callr_imp (CallR.or call_len call_lenD) fun xs H Q ⟨F, ι, S, vs, v, S', s, q, e, t⟩ => by
  unfold oLen at e
  split at e
  · next v =>
    obtain ⟨w, rfl, q1⟩ := vall1 q
    obtain ⟨n, hn, e⟩ := Option.map_eq_some_iff.mp e
    cases e
    have fin := t F ι H _ (.refl _ _ _) s (.int _)
    unfold lenOf at hn
    split at hn
    · next ws hw =>
      cases hn
      obtain ⟨a, us, rfl, h1, h2⟩ := seqOf_ok s q1 hw
      refine .inl ⟨_, us.length, rfl, ?_, by rw [h2.length]; exact fin⟩
      rcases h1 with h1 | h1
      · exact .inl ⟨us, h1, rfl⟩
      · exact .inr ⟨us, h1, rfl⟩
    · split at hn
      · next z _ =>
        obtain ⟨h1, rfl⟩ := when_some hn
        cases q1
        exact .inl ⟨.str z, z.length, rfl, ⟨big_line (of_decide_eq_true h1), rfl⟩, fin⟩
      · next kvs _ =>
        obtain ⟨h1, rfl⟩ := when_some hn
        cases q1 with
        | dct f hx ax => exact .inr ⟨_, _, rfl, hx, by rw [iskv_length ax]; exact fin⟩
        | obj f hx ax => cases h1
        | scr hx ax => cases h1
        | exc => cases h1
      · next i _ =>
        split at hn
        · next kvs hc =>
          cases hn
          obtain ⟨a, ha, rfl⟩ := q1
          obtain ⟨_, ws, h1, h2⟩ := s.cell i a _ ha hc
          exact .inr ⟨a, ws, rfl, h1, by rw [vks_length h2]; exact fin⟩
        · cases hn
      · cases hn
  · cases e

/-! ### tuple(..), list(..), int(..), abs, max, min -/
def oTuple : OA := fun vs S => match vs with
  | [v] => match seqOf v S with
    | some ws => (pureAll ws).map fun xs => (.d (.tuple xs), S)
    | none => none
  | _ => none
/-- list(..): data; a list that is to change -/
def oList : OA := fun vs S => match vs with
  | [v] => match seqOf v S with
    | some ws => (pureAll ws).map fun xs => (.d (.list xs), S)
    | none => none
  | _ => none
def oListM : OA := fun vs S => match vs with
  | [v] => match seqOf v S with
    | some ws => some (.r S.length, S ++ [.lst ws])
    | none => none
  | _ => none
theorem cr_tuple : CallR X (.type "tuple") (rA X.K oTuple) := callr_imp call_tuple_of fun xs H Q ⟨F, ι, S, vs, v, S', s, q, e, t⟩ => by
  unfold oTuple at e
  split at e
  · next v =>
    obtain ⟨w, rfl, q1⟩ := vall1 q
    split at e
    · next ws hw =>
      obtain ⟨ys, hy, e⟩ := Option.map_eq_some_iff.mp e
      cases e
      obtain ⟨a, us, rfl, h1, h2⟩ := seqOf_ok s q1 hw
      have h3 := pureAll_ok hy h2
      rcases h1 with h1 | h1
      · refine ⟨a, us, rfl, .inl ⟨h1, fun p hp => ?_⟩⟩
        obtain ⟨y1, y2, y3⟩ := new_tup s hp h3
        exact t _ _ _ _ y1 y2 y3
      · exact ⟨a, us, rfl, .inr ⟨h1, t F ι H _ (.refl _ _ _) s (.tup h1 h3)⟩⟩
    · cases e
  · cases e
theorem cr_list : CallR X (.type "list") (rA X.K oList) := callr_imp call_list_of fun xs H Q ⟨F, ι, S, vs, v, S', s, q, e, t⟩ => by
  unfold oList at e
  split at e
  · next v =>
    obtain ⟨w, rfl, q1⟩ := vall1 q
    split at e
    · next ws hw =>
      obtain ⟨ys, hy, e⟩ := Option.map_eq_some_iff.mp e
      cases e
      obtain ⟨a, us, rfl, h1, h2⟩ := seqOf_ok s q1 hw
      refine ⟨a, us, rfl, h1, fun p hp => ?_⟩
      obtain ⟨y1, y2, y3⟩ := new_lst s hp (pureAll_ok hy h2)
      exact t _ _ _ _ y1 y2 y3
    · cases e
  · cases e
theorem cr_listM : CallR X (.type "list") (rA X.K oListM) := callr_imp call_list_of fun xs H Q ⟨F, ι, S, vs, v, S', s, q, e, t⟩ => by
  unfold oListM at e
  split at e
  · next v =>
    obtain ⟨w, rfl, q1⟩ := vall1 q
    split at e
    · next ws hw =>
      cases e
      obtain ⟨a, us, rfl, h1, h2⟩ := seqOf_ok s q1 hw
      refine ⟨a, us, rfl, h1, fun p hp => ?_⟩
      obtain ⟨y1, y2, y3⟩ := new_cell s hp h2
      exact t _ _ _ _ y1 y2 y3
    · cases e
  · cases e
def oInt : OA := fun vs S => match vs with
  | [.d (.int i)] => some (.d (.int i), S)
  | [.d (.bool b)] => some (.d (.int (if b then 1 else 0)), S)
  | _ => none
theorem cr_int : CallR X (.type "int") (rA X.K oInt) := callr_imp call_int1 fun xs H Q ⟨F, ι, S, vs, v, S', s, q, e, t⟩ => by
  unfold oInt at e
  split at e
  · obtain ⟨w, rfl, q1⟩ := vall1 q
    cases e
    cases q1
    exact .inl ⟨_, rfl, t F ι H _ (.refl _ _ _) s (.int _)⟩
  · obtain ⟨w, rfl, q1⟩ := vall1 q
    cases e
    cases q1
    exact .inr ⟨_, rfl, t F ι H _ (.refl _ _ _) s (.int _)⟩
  · cases e
def oAbs : OA := fun vs S => match vs with
  | [.d (.int i)] => some (.d (.int (if i < 0 then -i else i)), S)
  | _ => none
theorem cr_abs : CallR X (.builtin "abs") (rA X.K oAbs) := callr_imp call_abs fun xs H Q ⟨F, ι, S, vs, v, S', s, q, e, t⟩ => by
  unfold oAbs at e
  split at e
  · obtain ⟨w, rfl, q1⟩ := vall1 q
    cases e
    cases q1
    exact ⟨_, rfl, t F ι H _ (.refl _ _ _) s (.int _)⟩
  · cases e
def oMax2 : OA := fun vs S => match vs with
  | [.d (.int i), .d (.int j)] => some (.d (.int (if j > i then j else i)), S)
  | _ => none
def oMin2 : OA := fun vs S => match vs with
  | [.d (.int i), .d (.int j)] => some (.d (.int (if j < i then j else i)), S)
  | _ => none
theorem cr_max2 (hc : X.calm = true) : CallR X (.builtin "max") (rA X.K oMax2) := callr_imp (call_max2 hc) fun xs H Q ⟨F, ι, S, vs, v, S', s, q, e, t⟩ => by
  unfold oMax2 at e
  split at e
  · obtain ⟨w, y, rfl, q1, q2⟩ := vall2 q
    cases e
    cases q1
    cases q2
    exact ⟨_, _, rfl, t F ι H _ (.refl _ _ _) s (.int _)⟩
  · cases e
theorem cr_min2 (hc : X.calm = true) : CallR X (.builtin "min") (rA X.K oMin2) := callr_imp (call_min2 hc) fun xs H Q ⟨F, ι, S, vs, v, S', s, q, e, t⟩ => by
  unfold oMin2 at e
  split at e
  · obtain ⟨w, y, rfl, q1, q2⟩ := vall2 q
    cases e
    cases q1
    cases q2
    exact ⟨_, _, rfl, t F ι H _ (.refl _ _ _) s (.int _)⟩
  · cases e

/-! ### sum, any, all -/
def ints? : List PyData → Option (List Int)
  | [] => some []
  | .int i :: xs => (ints? xs).map (i :: ·)
  | _ => none
theorem ints_ok {K : Fg} {F : Fz} {H : Hp} : ∀ {ws : List V} {xs : List PyData} {ns : List Int}, IsAll K F H ws xs → ints? xs = some ns → ws = ns.map V.int
  | _, _, ns, .nil, h => by
    cases h
    rfl
  | _, x :: xs, ns, .cons a r, h => by
    cases x with
    | int i =>
      obtain ⟨ms, h1, rfl⟩ := Option.map_eq_some_iff.mp h
      cases a
      rw [ints_ok r h1]
      rfl
    | _ => cases h
def oSum : OA := fun vs S => match vs with
  | [v] => match toD v S with
    | some (.list xs, S1) => (ints? xs).map fun ns => (.d (.int ns.sum), S1)
    | _ => none
  | _ => none
theorem cr_sum' (hc : X.calm = true) : CallR X (.builtin "sum") (rA X.K oSum) := callr_imp (cr_sum hc) fun xs H Q ⟨F, ι, S, vs, v, S', s, q, e, t⟩ => by
  unfold oSum at e
  split at e
  · next v =>
    obtain ⟨w, rfl, q1⟩ := vall1 q
    split at e
    · next ys S1 hd =>
      obtain ⟨ns, hn, e⟩ := Option.map_eq_some_iff.mp e
      cases e
      obtain ⟨F1, x1, s1, i1⟩ := toD_ok s q1 hd
      cases i1 with
      | lst hx ax => exact ⟨_, ns, rfl, by rw [← ints_ok ax hn]; exact .of hx.2, t F1 ι H _ x1 s1 (.int _)⟩
    · cases e
  · cases e
/-- the truth of whole numbers and truth values -/
def trues? : List PyData → Option (List Bool)
  | [] => some []
  | .bool b :: xs => (trues? xs).map (b :: ·)
  | .int i :: xs => (trues? xs).map ((i != 0) :: ·)
  | _ => none
def tV : V → Bool
  | .bl b => b
  | .int i => i != 0
  | _ => false
def bi : V → Bool
  | .bl _ => true
  | .int _ => true
  | _ => false
theorem trues_ok {K : Fg} {F : Fz} {H : Hp} : ∀ {ws : List V} {xs : List PyData} {bs : List Bool}, IsAll K F H ws xs → trues? xs = some bs → ws.all bi = true ∧ bs = ws.map tV
  | _, _, ns, .nil, h => by
    cases h
    exact ⟨rfl, rfl⟩
  | _, x :: xs, ns, .cons a r, h => by
    cases x with
    | int i =>
      obtain ⟨ms, h1, rfl⟩ := Option.map_eq_some_iff.mp h
      cases a
      obtain ⟨g1, g2⟩ := trues_ok r h1
      exact ⟨g1, by rw [g2]; rfl⟩
    | bool i =>
      obtain ⟨ms, h1, rfl⟩ := Option.map_eq_some_iff.mp h
      cases a
      obtain ⟨g1, g2⟩ := trues_ok r h1
      exact ⟨g1, by rw [g2]; rfl⟩
    | _ => cases h
theorem truth_bi {prog : Program} {w : World} {A : Around} {ws : List V} {its : List Value} (r : Vals ws its) (hb : ws.all bi = true) :
    PySem.TruthOf prog w A (fun i v => its.toArray[i]? = some v) (fun i => (ws.map tV).getD i false) := fun i v s Q E hv hq => by
  have hv' : its[i]? = some v := by simpa using hv
  have hi : i < ws.length := by rw [r.length]; exact (List.getElem?_eq_some_iff.mp hv').1
  obtain ⟨u, h1, h2⟩ := r.get (List.getElem?_eq_getElem hi)
  rw [hv'] at h1
  cases h1
  have hbi : bi ws[i] = true := List.all_eq_true.mp hb _ (List.getElem_mem hi)
  have hg : (ws.map tV).getD i false = tV ws[i] := by rw [List.getD_eq_getElem?_getD, List.getElem?_map, List.getElem?_eq_getElem hi] <;> rfl
  have hq' : Q ((ws.map tV).getD i false) s := hq
  rw [hg] at hq'
  generalize ws[i] = y at *
  cases y with
  | bl b =>
    cases h2
    exact wpAny_truthy_bool hq'
  | int j =>
    obtain ⟨t, rfl⟩ := h2
    exact PySem.P.truthy_int hq'
  | _ => cases hbi
def rAnyB (K : Fg) (op : List Bool → Bool) : List V → Hp → VK → Prop := fun vs H Q => ∃ (a : Addr) (ws : List V), vs = [V.ref a] ∧ SqL K H a ws ∧ ws.all bi = true ∧ Q (.bl (op (ws.map tV))) H
theorem cr_anyB (hc : X.calm = true) : CallR X (.builtin "any") (rAnyB X.K fun bs => bs.any id) := by
  intro pins s σ H vs us Q I r h
  obtain ⟨a, ws, rfl, hs, hb, q⟩ := h
  obtain ⟨its, rv, hl, _⟩ := I.list hs
  rw [Vals.ref1 r]
  refine PySem.call_any_walk (iter_any hl.isList fun s₂ e2 st hne => ?_)
  subst e2
  refine ⟨_, _, _, _, _, _, _, rfl, PySem.Walks.list (A := X.A.in1) (I.ok.hd hc) _ a hne its.toArray, st, truth_bi rv hb, fun h' tk hk => ?_⟩
  refine ⟨.bl _, H, I.kept fun b o eo => hk b o (fun hmem => ?_) (Heap.get?_push_of_some _ eo), ?_, q⟩
  · rcases List.mem_cons.mp hmem with e1 | hmem
    · exact absurd (e1 ▸ Heap.lt_size eo) (Nat.lt_irrefl _)
    · cases hmem
  · show Value.bool _ = Value.bool _
    show _ = Value.bool ((ws.map tV).any id)
    rw [← any_range, List.size_toArray, List.length_map, rv.length]
theorem cr_allB (hc : X.calm = true) : CallR X (.builtin "all") (rAnyB X.K fun bs => bs.all id) := by
  intro pins s σ H vs us Q I r h
  obtain ⟨a, ws, rfl, hs, hb, q⟩ := h
  obtain ⟨its, rv, hl, _⟩ := I.list hs
  rw [Vals.ref1 r]
  refine PySem.call_all_walk (iter_any hl.isList fun s₂ e2 st hne => ?_)
  subst e2
  refine ⟨_, _, _, _, _, _, _, rfl, PySem.Walks.list (A := X.A.in1) (I.ok.hd hc) _ a hne its.toArray, st, truth_bi rv hb, fun h' tk hk => ?_⟩
  refine ⟨.bl _, H, I.kept fun b o eo => hk b o (fun hmem => ?_) (Heap.get?_push_of_some _ eo), ?_, q⟩
  · rcases List.mem_cons.mp hmem with e1 | hmem
    · exact absurd (e1 ▸ Heap.lt_size eo) (Nat.lt_irrefl _)
    · cases hmem
  · show Value.bool _ = Value.bool _
    show _ = Value.bool ((ws.map tV).all id)
    rw [← all_range, List.size_toArray, List.length_map, rv.length]
def oAnyB (op : List Bool → Bool) : OA := fun vs S => match vs with
  | [v] => match toD v S with
    | some (.list xs, S1) => (trues? xs).map fun bs => (.d (.bool (op bs)), S1)
    | _ => none
  | _ => none
theorem r_anyB {op : List Bool → Bool} {xs : List V} {H : Hp} {Q : VK} (h : rA X.K (oAnyB op) xs H Q) : rAnyB X.K op xs H Q := by
  obtain ⟨F, ι, S, vs, v, S', s, q, e, t⟩ := h
  unfold oAnyB at e
  split at e
  · next v =>
    obtain ⟨w, rfl, q1⟩ := vall1 q
    split at e
    · next ys S1 hd =>
      obtain ⟨bs, hn, e⟩ := Option.map_eq_some_iff.mp e
      cases e
      obtain ⟨F1, x1, s1, i1⟩ := toD_ok s q1 hd
      cases i1 with
      | lst hx ax =>
        obtain ⟨g1, rfl⟩ := trues_ok ax hn
        exact ⟨_, _, rfl, .of hx.2, g1, t F1 ι H _ x1 s1 (.bl _)⟩
    · cases e
  · cases e
abbrev oAny : OA := oAnyB fun bs => bs.any id
abbrev oAll : OA := oAnyB fun bs => bs.all id
theorem cr_any' (hc : X.calm = true) : CallR X (.builtin "any") (rA X.K oAny) := callr_imp (cr_anyB hc) fun _ _ _ h => r_anyB h
theorem cr_all' (hc : X.calm = true) : CallR X (.builtin "all") (rA X.K oAll) := callr_imp (cr_allB hc) fun _ _ _ h => r_anyB h
end

/-! ### isinstance(x, T) -/
def dTy : PyData → Option String
  | .none => some "NoneType"
  | .bool _ => some "bool"
  | .int _ => some "int"
  | .str _ => some "str"
  | .list _ => some "list"
  | .tuple _ => some "tuple"
  | .dict _ => none
def isTab (T : String) (a : String) : Bool := a == T || (a == "bool" && T == "int")
def oIsi (T : String) : O1 := fun v S => match v with
  | .d x => (dTy x).map fun a => (.d (.bool (isTab T a)), S)
  | .r i => match S[i]? with
    | some (.lst _) => some (.d (.bool (isTab T "list")), S)
    | some (.frz x) => (dTy x).map fun a => (.d (.bool (isTab T a)), S)
    | some (.scr _) => some (.d (.bool (isTab T "list")), S)
    | _ => none
def isNames : List String := ["NoneType", "bool", "int", "str", "list", "tuple"]
theorem isTab_ok {T : String} (hT : T ∈ ["bool", "int", "str", "list", "tuple"]) {a : String} (ha : a ∈ isNames) : kitB a T = some (isTab T a) := by
  have h : ∀ T ∈ ["bool", "int", "str", "list", "tuple"], ∀ a ∈ isNames, kitB a T = some (isTab T a) := by decide +kernel
  exact h T hT a ha
theorem dTy_ok {K : Fg} {F : Fz} {H : Hp} {w : V} {x : PyData} {a : String} (q : Is K F H w x) (h : dTy x = some a) : TyX K H w (.type a) ∧ a ∈ isNames := by
  cases q with
  | non => cases h; exact ⟨.base .non, by decide⟩
  | bl b => cases h; exact ⟨.base (.bl b), by decide⟩
  | int i => cases h; exact ⟨.base (.int i), by decide⟩
  | str z => cases h; exact ⟨.base (.str z), by decide⟩
  | lst hx ax => cases h; exact ⟨.base (.lst hx.2), by decide⟩
  | tup hx ax =>
    cases h
    refine ⟨?_, by decide⟩
    rcases hx with (hx | ⟨o, hx⟩) | ⟨o, its, n, h1, h2, _⟩
    · exact .base (.tup hx)
    · exact .fTuple hx
    · exact .kTuple h1 h2
  | dct f hx ax => cases h
  | obj f hx ax => cases h
  | exc => cases h
  | scr hx ax => cases h
section
variable {X : Cx} {E : WX} {x y : Str} {p p2 pos : Pos} {e : Expr} {f : EF} {T : String}
theorem se_isi (hT : T ∈ ["bool", "int", "str", "list", "tuple"]) (hg : Gl X x) (hm : X.mg x = none) (hv : bootBuiltins x = some (.builtin "isinstance")) (hg2 : Gl X y) (hm2 : X.mg y = none) (hv2 : bootBuiltins y = some (.type T)) (ha : SE X E e f)
    (hn : x ≠ "__name__" := by decide) (hdb : (x == ("__debug__" : Str)) = false := by decide) (hn2 : y ≠ "__name__" := by decide) (hdb2 : (y == ("__debug__" : Str)) = false := by decide)
    (he1 : starEach [e, .Name y p2] X.env = (false, eval e X.env) :: starEach [.Name y p2] X.env := by rfl) (he2 : starEach [.Name y p2] X.env = (false, eval (.Name y p2) X.env) :: starEach [] X.env := by rfl) (hpl : (backTo pos (starEach [.Name y p2] X.env)).any (·.1) = false := by rfl) :
    SE X E (.Call (.Name x p) [e, .Name y p2] [] pos) (e1 (oIsi T) f) := ⟨PE.imp (pe_callB call_isi hg hm hv (pa_cons ha.pe (pa_cons (pe_bltn (v := .ty T) hg2 hm2 hv2 rfl hn2 hdb2) pa_nil he2) he1) hn hdb he1 hpl) fun σ H Q hh => by
  have h2 := t_e1 hh
  obtain ⟨F, ι, env, S, s, en, l⟩ := h2
  refine ⟨F, ι, env, S, s, en, l.imp fun w H1 ⟨F, ι, S, v, r, S', sm, q, e, t⟩ => ?_⟩
  have fin : ∀ {a : String}, TyX X.K H1 w (.type a) → a ∈ isNames → r = .d (.bool (isTab T a)) → S' = S → rIsi X.K [w, .ty T] H1 Q := fun {a} h1 h2 h3 h4 => by
    subst h3 h4
    exact ⟨w, .ty T, .type a, .type T, isTab T a, rfl, .ty T, h1, kit_ty (isTab_ok hT h2), t F ι H1 _ (.refl _ _ _) sm (.bl _)⟩
  unfold oIsi at e
  split at e
  · next x =>
    obtain ⟨a, ha, e⟩ := Option.map_eq_some_iff.mp e
    obtain ⟨h1, h2⟩ := dTy_ok q ha
    cases e
    exact fin h1 h2 rfl rfl
  · next i =>
    obtain ⟨a, ha, rfl⟩ := q
    split at e
    · next xs hc =>
      cases e
      obtain ⟨_, ws, h1, h2⟩ := sm.cell i a _ ha hc
      exact fin (.base (.lst h1)) (by decide) rfl rfl
    · next x hc =>
      obtain ⟨n, hn, e⟩ := Option.map_eq_some_iff.mp e
      obtain ⟨h1, h2⟩ := dTy_ok (sm.cell i a _ ha hc).2 hn
      cases e
      exact fin h1 h2 rfl rfl
    · next xs hc =>
      cases e
      obtain ⟨_, o, ws, h1, h2⟩ := sm.cell i a _ ha hc
      exact fin (.base (.frz h1)) (by decide) rfl rfl
    · cases e⟩
end
end Fw
namespace Fw
open PySem L2

/-! ### how statements land -/
def SLands (K : Fg) (E : WX) (F : Fz) (ι : List Addr) (H : Hp) (m : R (Fl × Env)) (D : Ends) : Prop := match m with
  | .ok (.nx, env') S' => ∀ F' ι' H' σ', Ext F ι H F' ι' H' → Sim K F' ι' S' H' → EIs K F' ι' H' σ' env' → D.nx σ' H'
  | .ok (.bk, env') S' => ∀ F' ι' H' σ', Ext F ι H F' ι' H' → Sim K F' ι' S' H' → EIs K F' ι' H' σ' env' → D.bk σ' H'
  | .ok (.ct, env') S' => ∀ F' ι' H' σ', Ext F ι H F' ι' H' → Sim K F' ι' S' H' → EIs K F' ι' H' σ' env' → D.ct σ' H'
  | .ok (.rt v, _) S' => ∀ F' ι' H' w, Ext F ι H F' ι' H' → Sim K F' ι' S' H' → VIs K F' ι' H' w v → D.rt w H'
  | .ok (.rs c x, env') S' => ∀ F' ι' H' σ' dx, Ext F ι H F' ι' H' → Sim K F' ι' S' H' → EIs K F' ι' H' σ' env' → ExV K F' H' dx x → E (.ref (He.ga K c)) (some dx) σ' H'
  | _ => False
theorem tsf_iff {K : Fg} {E : WX} {f : SF} {D : Ends} {σ : St} {H : Hp} : TSf E K f D σ H ↔ ∃ F ι env S, Sim K F ι S H ∧ EIs K F ι H σ env ∧ SLands K E F ι H (f env S) D := Iff.rfl
section
variable {α β : Type} {K : Fg} {E : WX} {σ : St} {F F1 : Fz} {ι ι1 : List Addr} {H H1 : Hp} {D D' : Ends} {env : Env}
theorem SLands.shift {m : R (Fl × Env)} (e : Ext F ι H F1 ι1 H1) (h : SLands K E F ι H m D) : SLands K E F1 ι1 H1 m D := by
  match m, h with
  | .ok (.nx, env') S', h => exact fun F' ι' H' σ' x s q => h F' ι' H' σ' (e.trans x) s q
  | .ok (.bk, env') S', h => exact fun F' ι' H' σ' x s q => h F' ι' H' σ' (e.trans x) s q
  | .ok (.ct, env') S', h => exact fun F' ι' H' σ' x s q => h F' ι' H' σ' (e.trans x) s q
  | .ok (.rt v, env') S', h => exact fun F' ι' H' σ' x s q => h F' ι' H' σ' (e.trans x) s q
  | .ok (.rs c x, env') S', h => exact fun F' ι' H' σ' dx x s q => h F' ι' H' σ' dx (e.trans x) s q
  | .ex _ _ _, h => exact h
  | .bad, h => exact h
/-- an expression's outcome, then the rest of the statement -/
def sB {α : Type} (m : R α) (env : Env) (k : α → Store → R (Fl × Env)) : R (Fl × Env) := match m with
  | .ok a S => k a S
  | .ex c x S => .ok (.rs c x, env) S
  | .bad => .bad
theorem SLands.bind {rel : Rel α β} {m : R α} {k : α → Store → R (Fl × Env)} (en : EIs K F ι H σ env) (h : SLands K E F ι H (sB m env k) D) :
    Lands K E σ F ι H rel m fun b H1 => ∃ F1 ι1 a S1, Ext F ι H F1 ι1 H1 ∧ Sim K F1 ι1 S1 H1 ∧ rel F1 ι1 H1 b a ∧ SLands K E F1 ι1 H1 (k a S1) D := by
  cases m with
  | ok a S => exact fun F' ι' H' b e s r => ⟨F', ι', a, S, e, s, r, SLands.shift (E := E) e h⟩
  | ex c x S => exact fun F' ι' H' dx e s q => h F' ι' H' σ dx e s (en.mono e) q
  | bad => exact h
/-- a statement's outcome, then the next one -/
def sThen (m : R (Fl × Env)) (k : Env → Store → R (Fl × Env)) : R (Fl × Env) := match m with
  | .ok (.nx, env) S => k env S
  | m => m
theorem SLands.then {m : R (Fl × Env)} {k : Env → Store → R (Fl × Env)} (h : SLands K E F ι H (sThen m k) D) :
    SLands K E F ι H m { D with nx := fun σ1 H1 => ∃ F1 ι1 env1 S1, Sim K F1 ι1 S1 H1 ∧ EIs K F1 ι1 H1 σ1 env1 ∧ SLands K E F1 ι1 H1 (k env1 S1) D } := by
  match m, h with
  | .ok (.nx, env') S', h => exact fun F' ι' H' σ' e s q => ⟨F', ι', env', S', s, q, SLands.shift (E := E) e h⟩
  | .ok (.bk, env') S', h => exact h
  | .ok (.ct, env') S', h => exact h
  | .ok (.rt v, env') S', h => exact h
  | .ok (.rs c x, env') S', h => exact h
  | .ex _ _ _, h => exact h
  | .bad, h => exact h
end
def sSkip : SF := fun env S => .ok (.nx, env) S
def sSeq (f g : SF) : SF := fun env S => sThen (f env S) g
def sBrk : SF := fun env S => .ok (.bk, env) S
def sCont : SF := fun env S => .ok (.ct, env) S
def sExpr (f : EF) : SF := fun env S => sB (f env S) env fun _ S1 => .ok (.nx, env) S1
def sRet (f : EF) : SF := fun env S => sB (f env S) env fun v S1 => .ok (.rt v, env) S1
def sRetN : SF := fun env S => .ok (.rt (.d .none), env) S
def sIf (c : BF) (f g : SF) : SF := fun env S => sB (c env S) env fun b S1 => match b with
  | true => f env S1
  | false => g env S1
section
variable {X : Cx} {E : WX} {st : Stmt} {rest a b : List Stmt} {f g : SF} {e c : Expr} {h : EF} {p : BF} {pos : Pos}
theorem sss_nil : SSs X E [] sSkip := ⟨PSs.imp pss_nil fun D σ H ⟨F, ι, env, S, s, en, l⟩ => l F ι H σ (.refl _ _ _) s en⟩
theorem sss_cons (h1 : SS X E st f) (h2 : SSs X E rest g) : SSs X E (st :: rest) (sSeq f g) := ⟨PSs.imp (pss_cons h1.ps h2.ps) fun D σ H ⟨F, ι, env, S, s, en, l⟩ => ⟨F, ι, env, S, s, en, SLands.then l⟩⟩
theorem sss_one (h1 : SS X E st f) : SSs X E [st] f := ⟨pss_one h1.ps⟩
theorem ss_pass : SS X E (.Pass pos) sSkip := ⟨PS.imp ps_pass fun D σ H ⟨F, ι, env, S, s, en, l⟩ => l F ι H σ (.refl _ _ _) s en⟩
theorem ss_brk : SS X E (.Break pos) sBrk := ⟨PS.imp ps_break fun D σ H ⟨F, ι, env, S, s, en, l⟩ => l F ι H σ (.refl _ _ _) s en⟩
theorem ss_cont : SS X E (.Continue pos) sCont := ⟨PS.imp ps_continue fun D σ H ⟨F, ι, env, S, s, en, l⟩ => l F ι H σ (.refl _ _ _) s en⟩
theorem ss_expr (he : SE X E e h) (hs : swapsWith e none pos.line X.env = pure false := by rfl) : SS X E (.Expr e pos) (sExpr h) := ⟨PS.imp (ps_expr he.pe hs) fun D σ H ⟨F, ι, env, S, s, en, l⟩ =>
  ⟨F, ι, env, S, s, en, (SLands.bind (rel := relV X.K) en l).imp fun w H1 ⟨F1, ι1, v, S1, x1, s1, q1, l1⟩ => l1 F1 ι1 H1 σ (.refl _ _ _) s1 (en.mono x1)⟩⟩
theorem ss_ret (he : SE X E e h) : SS X E (.Return (some e) pos) (sRet h) := ⟨PS.imp (ps_ret he.pe) fun D σ H ⟨F, ι, env, S, s, en, l⟩ =>
  ⟨F, ι, env, S, s, en, (SLands.bind (rel := relV X.K) en l).imp fun w H1 ⟨F1, ι1, v, S1, x1, s1, q1, l1⟩ => l1 F1 ι1 H1 w (.refl _ _ _) s1 q1⟩⟩
theorem ss_retN : SS X E (.Return none pos) sRetN := ⟨PS.imp ps_retN fun D σ H ⟨F, ι, env, S, s, en, l⟩ => l F ι H .non (.refl _ _ _) s .non⟩
theorem ss_if (hc : SB X E c p) (ha : SSs X E a f) (hb : SSs X E b g) : SS X E (.If c a b pos) (sIf p f g) := ⟨PS.imp (ps_if hc.pt ha.ps hb.ps) fun D σ H ⟨F, ι, env, S, s, en, l⟩ => by
  refine ⟨F, ι, env, S, s, en, (SLands.bind (rel := relB) en l).imp ?_⟩
  rintro w H1 ⟨F1, ι1, v, S1, x1, s1, q1, l1⟩
  subst q1
  cases w with
  | true =>
    rw [if_pos rfl]
    exact ⟨F1, ι1, env, S1, s1, en.mono x1, l1⟩
  | false =>
    rw [if_neg Bool.false_ne_true]
    exact ⟨F1, ι1, env, S1, s1, en.mono x1, l1⟩⟩
end

/-! ### targets -/
abbrev GF := Val → Env → Store → R Env
/-- a target: no error -/
structure SG (X : Cx) (t : Expr) (f : GF) : Prop where
  pg : PG X t (fun v σ H Q => ∃ F ι env S a env' S', Sim X.K F ι S H ∧ EIs X.K F ι H σ env ∧ VIs X.K F ι H v a ∧ f a env S = .ok env' S' ∧ ∀ F' ι' H' σ', Ext F ι H F' ι' H' → Sim X.K F' ι' S' H' → EIs X.K F' ι' H' σ' env' → Q σ' H')
def gN (i : Nat) : GF := fun v env S => .ok (env.set i (some v)) S
/-- a row of names -/
def gNs : List Nat → List PyData → Env → Option Env
  | [], [], env => some env
  | i :: is, x :: xs, env => gNs is xs (env.set i (some (.d x)))
  | _, _, _ => none
def gT (is : List Nat) : GF := fun v env S => match v with
  | .d (.tuple xs) => match gNs is xs env with
    | some env' => .ok env' S
    | none => .bad
  | _ => .bad
def sAsg (f : EF) (g : GF) : SF := fun env S => sB (f env S) env fun v S1 => match g v env S1 with
  | .ok env' S2 => .ok (.nx, env') S2
  | _ => .bad
section
variable {X : Cx} {E : WX} {pos pos' : Pos} {e tg : Expr} {f : EF} {g : GF}
theorem PG.imp {t t' : TG} (h : PG X e t) (i : ∀ v σ H Q, t' v σ H Q → t v σ H Q) : PG X e t' := ⟨fun pins s σ H v u Q I r q => h.run pins s σ H v u Q I r (i v σ H Q q)⟩
theorem sg_name {i : Nat} {x : Str} (hN : X.N.Nodup) (hi : X.N[i]? = some x) (hx : L2.Loc X.env.scope x) (hf : X.fn x = true ∨ X.env.scope.names.lookup x = some .local := by first | exact .inl rfl | exact .inr rfl | assumption) : SG X (.Name x pos) (gN i) :=
  ⟨PG.imp (pg_name hN hi hx hf) fun v σ H Q ⟨F, ι, env, S, a, env', S', s, en, q, e, k⟩ => by
    cases e
    exact k F ι H _ (.refl _ _ _) s (en.set i q)⟩
/-- targets that are names, by their slots -/
inductive GNames (X : Cx) : List Expr → List Nat → Prop where
  | nil : GNames X [] []
  | cons {i : Nat} {x : Str} {p : Pos} {es : List Expr} {is : List Nat} : PG X (.Name x p) (gName i) → (assignEach (.Name x p :: es) X.env).map (·.2) = assign (.Name x p) X.env :: (assignEach es X.env).map (·.2) → GNames X es is → GNames X (.Name x p :: es) (i :: is)
def gAll : List Nat → TGs
  | [] => gNil
  | i :: is => gCons (gName i) (gAll is)
theorem GNames.pgs : ∀ {es : List Expr} {is : List Nat}, GNames X es is → PGs X es (gAll is)
  | _, _, .nil => pgs_nil
  | _, _, .cons h a r => pgs_cons h r.pgs a
theorem gAll_ok {K : Fg} : ∀ {is : List Nat} {xs : List PyData} {ws : List V} {F : Fz} {ι : List Addr} {H : Hp} {σ : St} {env env' : Env} {Q : St → Hp → Prop}, gNs is xs env = some env' → IsAll K F H ws xs → EIs K F ι H σ env → (∀ σ', EIs K F ι H σ' env' → Q σ' H) → gAll is ws σ H Q
  | [], [], _, F, ι, H, σ, env, env', Q, h, .nil, en, k => by
    cases h
    exact ⟨rfl, k σ en⟩
  | i :: is, x :: xs, _, F, ι, H, σ, env, env', Q, h, .cons a r, en, k => ⟨_, _, rfl, gAll_ok h r (en.set (v := .d x) i a) k⟩
  | [], _ :: _, _, _, _, _, _, _, _, _, h, _, _, _ => by cases h
  | _ :: _, [], _, _, _, _, _, _, _, _, h, _, _, _ => by cases h
theorem gNs_len : ∀ {is : List Nat} {xs : List PyData} {env env' : Env}, gNs is xs env = some env' → xs.length = is.length
  | [], [], _, _, _ => rfl
  | _ :: is, _ :: xs, _, _, h => congrArg Nat.succ (gNs_len (is := is) (xs := xs) h)
  | [], _ :: _, _, _, h => by cases h
  | _ :: _, [], _, _, h => by cases h
theorem sg_tup {es : List Expr} {c} {is : List Nat} (hc : X.calm = true) (h : GNames X es is)
    (hn : (assignEach es X.env).length = is.length := by rfl) (hst : (assignEach es X.env).findIdx? (·.1) = none := by rfl) : SG X (.Tuple es c pos) (gT is) :=
  ⟨PG.imp (pg_tup hc h.pgs hn hst) fun v σ H Q ⟨F, ι, env, S, a, env', S', s, en, q, e, k⟩ => by
    unfold gT at e
    split at e
    · next xs =>
      split at e
      · next env2 h2 =>
        cases e
        cases q with
        | tup hx ax => exact ⟨_, _, rfl, hx, by rw [ax.length, gNs_len h2], gAll_ok h2 ax en fun σ' en' => k F ι H σ' (.refl _ _ _) s en'⟩
      · cases e
    · cases e⟩
theorem t_asg {D : Ends} {σ : St} {H : Hp} (hh : TSf E X.K (sAsg f g) D σ H) : tAsg (TEf E X.K f) (fun v σ H Q => ∃ F ι env S a env' S', Sim X.K F ι S H ∧ EIs X.K F ι H σ env ∧ VIs X.K F ι H v a ∧ g a env S = .ok env' S' ∧ ∀ F' ι' H' σ', Ext F ι H F' ι' H' → Sim X.K F' ι' S' H' → EIs X.K F' ι' H' σ' env' → Q σ' H') D σ H := by
  obtain ⟨F, ι, env, S, s, en, l⟩ := hh
  refine ⟨F, ι, env, S, s, en, (SLands.bind (rel := relV X.K) en l).imp ?_⟩
  rintro w H1 ⟨F1, ι1, v, S1, x1, s1, q1, l1⟩
  split at l1
  · next env' S2 hg => exact ⟨F1, ι1, env, S1, v, env', S2, s1, en.mono x1, q1, hg, l1⟩
  · exact l1.elim
theorem ss_asg (he : SE X E e f) (hg : SG X tg g) (hs : swapsWithSole [tg] e pos.line X.env = pure false := by rfl) (hw : swappedStores [tg] e X.env = pure none := by rfl)
    (h1 : (assignEach [tg] X.env).map (·.2) = [assign tg X.env] := by rfl) : SS X E (.Assign [tg] e pos) (sAsg f g) := ⟨PS.imp (ps_asg he.pe hg.pg hs hw h1) fun _ _ _ hh => t_asg hh⟩
/-- x = e -/
def sSet (i : Nat) (f : EF) : SF := fun env S => sB (f env S) env fun v S1 => .ok (.nx, env.set i (some v)) S1
theorem t_set {K : Fg} {i : Nat} {D : Ends} {σ : St} {H : Hp} (hh : TSf E K (sSet i f) D σ H) : tAsg (TEf E K f) (gName i) D σ H := by
  obtain ⟨F, ι, env, S, s, en, l⟩ := hh
  refine ⟨F, ι, env, S, s, en, (SLands.bind (rel := relV K) en l).imp ?_⟩
  rintro w H1 ⟨F1, ι1, v, S1, x1, s1, q1, l1⟩
  exact l1 F1 ι1 H1 _ (.refl _ _ _) s1 ((en.mono x1).set i q1)
theorem ss_set {i : Nat} {x : Str} (hN : X.N.Nodup) (hi : X.N[i]? = some x) (hx : L2.Loc X.env.scope x) (he : SE X E e f) (hs : swapsWith e (some (.Name x pos')) pos.line X.env = pure false := by rfl) (hf : X.fn x = true ∨ X.env.scope.names.lookup x = some .local := by first | exact .inl rfl | exact .inr rfl | assumption) :
    SS X E (.Assign [.Name x pos'] e pos) (sSet i f) := ⟨PS.imp (ps_set hN hi hx he.pe hs hf) fun _ _ _ hh => t_set hh⟩
/-- a, b = x, y (no tuple stays) -/
def gVs : List Nat → List Val → Env → Option Env
  | [], [], env => some env
  | i :: is, v :: vs, env => gVs is vs (env.set i (some v))
  | _, _, _ => none
def sPar (is : List Nat) (f : AF) : SF := fun env S => sB (f env S) env fun vs S1 => match gVs is vs env with
  | some env' => .ok (.nx, env') S1
  | none => .bad
theorem t_par2 {K : Fg} {i j : Nat} {af : AF} {D : Ends} {σ : St} {H : Hp} (hh : TSf E K (sPar [i, j] af) D σ H) : tPar i j (TAf E K af) D σ H := by
  obtain ⟨F, ι, env, S, s, en, l⟩ := hh
  refine ⟨F, ι, env, S, s, en, (SLands.bind (rel := relA K) en l).imp ?_⟩
  rintro ws H1 ⟨F1, ι1, vs, S1, x1, s1, q1, l1⟩
  match vs, ws, q1, l1 with
  | [a, b], [w, y], q1, l1 =>
    exact ⟨w, y, rfl, l1 F1 ι1 H1 _ (.refl _ _ _) s1 (((en.mono x1).set i q1.1).set j q1.2.1)⟩
  | [], _, _, l1 => exact l1.elim
  | [_], _, _, l1 => exact l1.elim
  | _ :: _ :: _ :: _, _, _, l1 => exact l1.elim
  | [_, _], [], q1, _ => exact q1.elim
  | [_, _], [_], q1, _ => exact q1.2.elim
  | [_, _], _ :: _ :: _ :: _, q1, _ => exact q1.2.2.elim
theorem ss_par2 {i j : Nat} {x y : Str} {a b : Expr} {af : AF} {px py pt : Pos} {kt k2 pt2} (hc : X.calm = true) (hN : X.N.Nodup) (hi : X.N[i]? = some x) (hj : X.N[j]? = some y) (hij : i ≠ j)
    (hx : X.env.scope.names.lookup x = some .local) (hy : X.env.scope.names.lookup y = some .local) (ha : SA X E [a, b] af)
    (hw : swappedStores [.Tuple [.Name x px, .Name y py] kt pt] (.Tuple [a, b] k2 pt2) X.env = pure (some [x, y]))
    (hs : swapsWithSole [.Tuple [.Name x px, .Name y py] kt pt] (.Tuple [a, b] k2 pt2) pos.line X.env = pure false := by rfl) :
    SS X E (.Assign [.Tuple [.Name x px, .Name y py] kt pt] (.Tuple [a, b] k2 pt2) pos) (sPar [i, j] af) := ⟨PS.imp (ps_par hc hN hi hj hij hx hy ha.pa hw hs) fun _ _ _ hh => t_par2 hh⟩
theorem t_par3 {K : Fg} {i j k : Nat} {af : AF} {D : Ends} {σ : St} {H : Hp} (hh : TSf E K (sPar [i, j, k] af) D σ H) : tPar3 i j k (TAf E K af) D σ H := by
  obtain ⟨F, ι, env, S, s, en, l⟩ := hh
  refine ⟨F, ι, env, S, s, en, (SLands.bind (rel := relA K) en l).imp ?_⟩
  rintro ws H1 ⟨F1, ι1, vs, S1, x1, s1, q1, l1⟩
  match vs, ws, q1, l1 with
  | [a, b, c], [w, y, z], q1, l1 =>
    exact ⟨w, y, z, rfl, l1 F1 ι1 H1 _ (.refl _ _ _) s1 ((((en.mono x1).set i q1.1).set j q1.2.1).set k q1.2.2.1)⟩
  | [], _, _, l1 => exact l1.elim
  | [_], _, _, l1 => exact l1.elim
  | [_, _], _, _, l1 => exact l1.elim
  | _ :: _ :: _ :: _ :: _, _, _, l1 => exact l1.elim
  | [_, _, _], [], q1, _ => exact q1.elim
  | [_, _, _], [_], q1, _ => exact q1.2.elim
  | [_, _, _], [_, _], q1, _ => exact q1.2.2.elim
  | [_, _, _], _ :: _ :: _ :: _ :: _, q1, _ => exact q1.2.2.2.elim
theorem ss_par3 {i j l : Nat} {x y z : Str} {a b c : Expr} {af : AF} {px py pz pt : Pos} {kt k2 pt2} (hc : X.calm = true) (hN : X.N.Nodup) (hi : X.N[i]? = some x) (hj : X.N[j]? = some y) (hl : X.N[l]? = some z) (hij : i ≠ j) (hil : i ≠ l) (hjl : j ≠ l)
    (hx : X.env.scope.names.lookup x = some .local) (hy : X.env.scope.names.lookup y = some .local) (hz : X.env.scope.names.lookup z = some .local) (ha : SA X E [a, b, c] af)
    (hw : swappedStores [.Tuple [.Name x px, .Name y py, .Name z pz] kt pt] (.Tuple [a, b, c] k2 pt2) X.env = pure (some [x, y, z]))
    (hs : swapsWithSole [.Tuple [.Name x px, .Name y py, .Name z pz] kt pt] (.Tuple [a, b, c] k2 pt2) pos.line X.env = pure false := by rfl) :
    SS X E (.Assign [.Tuple [.Name x px, .Name y py, .Name z pz] kt pt] (.Tuple [a, b, c] k2 pt2) pos) (sPar [i, j, l] af) := ⟨PS.imp (ps_par3 hc hN hi hj hl hij hil hjl hx hy hz ha.pa hw hs) fun _ _ _ hh => t_par3 hh⟩
/-- the same where the tuple is made -/
theorem gAllV_ok {K : Fg} : ∀ {is : List Nat} {vs : List Val} {ws : List V} {F : Fz} {ι : List Addr} {H : Hp} {σ : St} {env env' : Env} {Q : St → Hp → Prop}, gVs is vs env = some env' → VAll K F ι H ws vs → EIs K F ι H σ env → (∀ σ', EIs K F ι H σ' env' → Q σ' H) → gAll is ws σ H Q
  | [], [], [], F, ι, H, σ, env, env', Q, h, _, en, k => by
    cases h
    exact ⟨rfl, k σ en⟩
  | i :: is, v :: vs, w :: ws, F, ι, H, σ, env, env', Q, h, a, en, k => ⟨_, _, rfl, gAllV_ok h a.2 (en.set i a.1) k⟩
  | [], _ :: _, _, _, _, _, _, _, _, _, h, _, _, _ => by cases h
  | _ :: _, [], _, _, _, _, _, _, _, _, h, _, _, _ => by cases h
  | [], [], _ :: _, _, _, _, _, _, _, _, _, a, _, _ => a.elim
  | _ :: _, _ :: _, [], _, _, _, _, _, _, _, _, a, _, _ => a.elim
theorem gVs_len : ∀ {is : List Nat} {xs : List Val} {env env' : Env}, gVs is xs env = some env' → xs.length = is.length
  | [], [], _, _, _ => rfl
  | _ :: is, _ :: xs, _, _, h => congrArg Nat.succ (gVs_len (is := is) (xs := xs) h)
  | [], _ :: _, _, _, h => by cases h
  | _ :: _, [], _, _, h => by cases h
theorem ss_parT {es ts : List Expr} {af : AF} {is : List Nat} {kt k2 pt pt2} (hc : X.calm = true) (h : GNames X ts is) (ha : SA X E es af) (hz : decide (is.length ≤ 1000) = true := by rfl)
    (hs : swapsWithSole [.Tuple ts kt pt] (.Tuple es k2 pt2) pos.line X.env = pure false := by rfl) (hw : swappedStores [.Tuple ts kt pt] (.Tuple es k2 pt2) X.env = pure none := by rfl)
    (h1 : (assignEach [.Tuple ts kt pt] X.env).map (·.2) = [assign (.Tuple ts kt pt) X.env] := by rfl)
    (hn : (assignEach ts X.env).length = is.length := by rfl) (hst : (assignEach ts X.env).findIdx? (·.1) = none := by rfl) : SS X E (.Assign [.Tuple ts kt pt] (.Tuple es k2 pt2) pos) (sPar is af) := ⟨PS.imp (ps_asg (pe_tup ha.pa) (pg_tup hc h.pgs hn hst) hs hw h1) fun D σ H ⟨F, ι, env, S, s, en, l⟩ => by
  refine ⟨F, ι, env, S, s, en, (SLands.bind (rel := relA X.K) en l).imp ?_⟩
  rintro ws H1 ⟨F1, ι1, vs, S1, x1, s1, q1, l1⟩
  split at l1
  · next env' hg =>
    have hl := gVs_len hg
    refine ⟨?_, fun p hp => ?_⟩
    · rw [q1.length, hl]
      exact Nat.le_trans (of_decide_eq_true hz) (by decide)
    · have x2 : Ext F1 ι1 H1 F1 ι1 (upd H1 p (.tup ws)) := .plain s1 hp
      refine ⟨p, ws, rfl, .of upd_same, by rw [q1.length, hl], gAllV_ok hg (q1.mono x2) ((en.mono x1).mono x2) fun σ' en' => ?_⟩
      exact l1 F1 ι1 _ σ' x2 (.plain s1 hp) en'
  · exact l1.elim⟩
end

/-! ### while -/
/-- how a loop goes on behind its body -/
def sLoop (m : R (Fl × Env)) (k : Env → Store → R (Fl × Env)) : R (Fl × Env) := match m with
  | .ok (.nx, env) S => k env S
  | .ok (.ct, env) S => k env S
  | .ok (.bk, env) S => .ok (.nx, env) S
  | m => m
def sWhile : Nat → BF → SF → SF
  | 0, _, _ => fun _ _ => .bad
  | n + 1, c, f => fun env S => sB (c env S) env fun b S1 => match b with
    | true => sLoop (f env S1) (sWhile n c f)
    | false => .ok (.nx, env) S1
section
variable {X : Cx} {E : WX} {c : Expr} {body : List Stmt} {f : SF} {p : BF} {pos : Pos} {K : Fg} {F : Fz} {ι : List Addr} {H : Hp} {D : Ends}
theorem SLands.loop {m : R (Fl × Env)} {k : Env → Store → R (Fl × Env)} {N : St → Hp → Prop} (h : SLands K E F ι H (sLoop m k) D)
    (hN : ∀ σ1 H1, (∃ F1 ι1 env1 S1, Sim K F1 ι1 S1 H1 ∧ EIs K F1 ι1 H1 σ1 env1 ∧ SLands K E F1 ι1 H1 (k env1 S1) D) → N σ1 H1) :
    SLands K E F ι H m { D with nx := N, ct := N, bk := D.nx } := by
  match m, h with
  | .ok (.nx, env') S', h => exact fun F' ι' H' σ' e s q => hN _ _ ⟨F', ι', env', S', s, q, SLands.shift (E := E) e h⟩
  | .ok (.bk, env') S', h => exact h
  | .ok (.ct, env') S', h => exact fun F' ι' H' σ' e s q => hN _ _ ⟨F', ι', env', S', s, q, SLands.shift (E := E) e h⟩
  | .ok (.rt v, env') S', h => exact h
  | .ok (.rs c x, env') S', h => exact h
  | .ex _ _ _, h => exact h
  | .bad, h => exact h
theorem ss_while (n : Nat) (hp : PassesOwn (model X.prog X.w) X.A X.env X.xe) (hc : SB X E c p) (hb : SSs X E body f) : SS X E (.While c body [] pos) (sWhile n p f) := ⟨PS.imp (ps_while hp hc.pt hb.ps) fun D σ H ⟨F, ι, env, S, s, en, l⟩ => by
  refine ⟨fun m σ H => ∃ F ι env S, Sim X.K F ι S H ∧ EIs X.K F ι H σ env ∧ SLands X.K E F ι H (sWhile m p f env S) D, ⟨n, F, ι, env, S, s, en, l⟩, ?_⟩
  rintro m σ H ⟨F, ι, env, S, s, en, l⟩
  cases m with
  | zero => exact l.elim
  | succ m =>
    refine ⟨F, ι, env, S, s, en, (SLands.bind (rel := relB) en l).imp ?_⟩
    rintro w H1 ⟨F1, ι1, v, S1, x1, s1, q1, l1⟩
    subst q1
    cases w with
    | true =>
      rw [if_pos rfl]
      exact ⟨fun σ1 H1 => ∃ F1 ι1 env1 S1, Sim X.K F1 ι1 S1 H1 ∧ EIs X.K F1 ι1 H1 σ1 env1 ∧ SLands X.K E F1 ι1 H1 (sWhile m p f env1 S1) D, fun σ' H' h => ⟨m, Nat.lt_succ_self m, h⟩, F1, ι1, env, S1, s1, en.mono x1, SLands.loop l1 fun _ _ h => h⟩
    | false =>
      rw [if_neg Bool.false_ne_true]
      exact l1 F1 ι1 H1 σ (.refl _ _ _) s1 (en.mono x1)⟩
end
end Fw
/-! enumerate over a tuple -/
namespace PySem
open Sem (wp)
set_option maxHeartbeats 1000000 in
theorem fw_enum_new {v : Value} {ob : Obj} {H : Heap → Prop} (B : Begins v ob H) :
    Meets (Builtin.«enumerate.__new__» ⟨[.type "enumerate", v], []⟩) (fun _ R s => H s.heap ∧
      R (.ok (.ret (.ref (s.heap.push ob).objs.size))) { s with heap := (s.heap.push ob).push { cls := .type "enumerate", data := .fields #[.none, .bool false, .ref s.heap.objs.size, rawInt 0, .none, .none] } }) :=
  .of_wp fun prog w A R s hh => by
    obtain ⟨hp, gs, dr, tk, os⟩ := s
    obtain ⟨h1, h2⟩ := hh
    have hsub := sub_enumerate
    have go : ∀ {A2 : Around} {E : Value → Shared → Prop} {Q : Value → Shared → Prop}, Q (.ref hp.objs.size) ⟨hp.push ob, gs, dr, tk, os⟩ → wpAny (model prog w) A2 (pyIter v) Q E ⟨hp, gs, dr, tk, os⟩ :=
      fun q => B.iter prog w _ _ ⟨hp, gs, dr, tk, os⟩ _ h1 q
    wp_walk using go
    refine wpAny_stack_any fun st => wpAny_pure ?_
    split
    · rename_i c _ _ _ _ _
      cases (c == Value.type "enumerate") <;> (wp_walk using go) <;> exact ⟨_, rfl, h2⟩
    · wp_walk using go
      exact ⟨_, rfl, h2⟩
section
variable {prog : Program} {w : World} {A : Around} {E : Value → Shared → Prop} {s : Shared}
theorem fw_enum_call {v : Value} {ob : Obj} {H : Heap → Prop} {Q : Value → Shared → Prop} (B : Begins v ob H) (h1 : H s.heap)
    (hq : ∀ h', IsEnum h' (s.heap.objs.size + 1) s.heap.objs.size 0 .none → h'.get? s.heap.objs.size = some ob → h'.objs.size = s.heap.objs.size + 2 →
      (∀ b u, s.heap.get? b = some u → h'.get? b = some u) → Q (.ref (s.heap.objs.size + 1)) { s with heap := h' }) :
    wpAny (model prog w) A (call (.type "enumerate") [v]) Q E s := by
  refine callType_new F.called_enumerate (by decide) (F.typeCall_enumerate_1 _) (F.newCall_enumerate_1 _) (fun obj => F.args_object_init_2 obj _) F.entry_enumerate_new (fw_enum_new B) ⟨h1, ?_⟩
  have hz : (s.heap.push ob).objs.size = s.heap.objs.size + 1 := Heap.size_push ..
  show _ ∧ _
  rw [hz]
  have he : IsEnum ((s.heap.push ob).push { cls := .type "enumerate", data := .fields #[.none, .bool false, .ref s.heap.objs.size, rawInt 0, .none, .none] }) (s.heap.objs.size + 1) s.heap.objs.size 0 .none := by
    have e1 := Heap.get?_push_size (s.heap.push ob) (o := { cls := .type "enumerate", data := .fields #[.none, .bool false, .ref s.heap.objs.size, rawInt 0, .none, .none] }) rfl
    rw [hz] at e1
    exact e1
  exact ⟨⟨_, he, rfl⟩, hq _ he (Heap.get?_push_of_some _ (Heap.get?_push_size _ B.free)) (by rw [Heap.size_push, hz]) fun b u x => Heap.get?_push_of_some _ (Heap.get?_push_of_some _ x)⟩
end
end PySem
namespace Fw
open PySem PySem.Spec PyProof.Rows L2
/-- the tuple at a, each item in a new pair with its place -/
def IteT (K : PySem.W.Frag) (a : Addr) : It :=
  ⟨fun i H => ∃ (xs : List V) (x : V), SqT K H a xs ∧ xs[i]? = some x, fun i H v H' => ∃ T x, v = .ref T ∧ H T = none ∧ H' = upd H T (.tup [.int (i : Nat), x]) ∧ ∀ xs, SqT K H a xs → xs[i]? = some x, fun i H => ∃ xs : List V, SqT K H a xs ∧ xs.length ≤ i⟩
theorem turn_enumT {P : Program} {w : World} {K : PySem.W.Frag} {elts : List Expr} {kk : Nat} {tpos : Pos} (a e it : Addr) :
    Turn P w K (.Tuple elts kk tpos) (IteT K a) [e, it] e (fun i h => (∃ old, IsEnum h e it ((i : Nat) : Int) old) ∧ h.IsTupleIter it a i ∧ e ≠ it) where
  mem := by simp
  obj := fun i h st b hb => by
    obtain ⟨⟨old, he⟩, ⟨u, ho, _, hd⟩, _⟩ := st
    have hc : b = e ∨ b = it := by simpa using hb
    rcases hc with rfl | rfl
    · exact ⟨_, he, fun v q => nomatch q⟩
    · exact ⟨u, ho, fun v q => by rw [hd] at q; cases q⟩
  keep := fun i h h' st k => by
    obtain ⟨⟨old, he⟩, hi, hne⟩ := st
    exact ⟨⟨old, k e (by simp) _ he⟩, hi.at fun u q => k it (by simp) u q, hne⟩
  item := by
    intro X hP hw hK hc i pins s σ H E I hf st hg
    subst hP hw hK
    obtain ⟨⟨old, he⟩, hit, hne⟩ := st
    obtain ⟨xs, x, hq, hx⟩ := hg
    obtain ⟨its, rv, p, hz⟩ := I.tuple hq
    obtain ⟨u, hu, ru⟩ := rv.get hx
    have hel : e < s.heap.objs.size := Heap.lt_size he
    have hil : it < s.heap.objs.size := by
      obtain ⟨_, q, _⟩ := hit
      exact Heap.lt_size q
    have hai : a ≠ it := fun z => by
      obtain ⟨o1, g1, g2, _⟩ := p
      obtain ⟨o2, g3, g4, _⟩ := hit
      rw [z, g3] at g1
      cases g1
      rw [g4] at g2
      exact absurd g2 (by simp)
    have hea : e ≠ a := fun z => by
      obtain ⟨o1, g1, g2, _⟩ := p
      rw [← z, he] at g1
      cases g1
      exact absurd g2 (by simp)
    have D := Draws.tuple (prog := X.prog) (w := X.w) (A := X.A.in1) (I.ok.hd hc) it a hai its.toArray
    have hlt : i < its.toArray.size := by simpa using (List.getElem?_eq_some_iff.mp hu).1
    refine wpAny_pyNext_enum_itemD D he (i := i) ⟨hit, p⟩ hlt hne (by simp [hne, hea]) fun y h' tk hy ho st' hT hsz hk => ?_
    have hyu : y = u := by
      have h0 : its.toArray[i]? = some y := hy
      rw [List.getElem?_toArray, hu] at h0
      exact (Option.some.inj h0).symm
    subst hyu
    refine ⟨_, rfl, wpAny_letOwnedTupleGo_enum (s := { s with heap := h', toks := tk + 1 }) ho fun h2 he2 sb => ?_⟩
    have hT2 : h2.get? s.heap.objs.size = some { cls := .type "tuple", data := .seq #[.int i tk, y] } := (sb.2 _ (Nat.ne_of_gt hel)).trans hT
    have new : ObjOk X.prog X.w (upd H s.heap.objs.size (.tup [.int (i : Nat), x])) h2 s.heap.objs.size (.tup [.int (i : Nat), x]) :=
      ⟨by show 2 ≤ sizeLine; decide, [.int i tk, y], .cons ⟨_, rfl⟩ (.cons ru .nil), ⟨_, hT2, rfl, _, rfl⟩⟩
    have I1 : Inv X pins σ (upd H s.heap.objs.size (.tup [.int (i : Nat), x])) { s with heap := h2, toks := tk + 1 } :=
      I.turnedNew (ch := [e, it]) (fun b ob hb q => (sb.2 b fun z => hb (by simp [z])).trans (hk b ob (fun z => hb (by simp [z])) (fun z => hb (by simp [z])) q)) hf (Nat.le_refl _) new
    refine ⟨.ref s.heap.objs.size, _, I1, rfl, ⟨_, x, rfl, I.hok.fresh (Nat.le_refl _), rfl, fun ys hy => ?_⟩, ⟨⟨y, ?_⟩, st'.1.at fun ob q => (sb.2 it (Ne.symm hne)).trans q, hne⟩, fun b hb => ?_⟩
    · rw [I.tuple_inj hy hq]
      exact hx
    · have e1 : ((i + 1 : Nat) : Int) = (i : Int) + 1 := by omega
      rw [e1]
      exact he2
    · have hb2 : b < s.heap.objs.size := by
        have hcase : b = e ∨ b = it := by simpa using hb
        rcases hcase with z | z
        · rw [z]; exact hel
        · rw [z]; exact hil
      rw [upd_ne (Nat.ne_of_lt hb2)]
      exact (hf b hb).1
  done := by
    intro X hP hw hK hc i pins s σ H E I hf st hg
    subst hP hw hK
    obtain ⟨⟨old, he⟩, hit, hne⟩ := st
    obtain ⟨xs, hq, hx⟩ := hg
    obtain ⟨its, rv, p, hz⟩ := I.tuple hq
    obtain ⟨f0, f1, f2, f3, f4, f5⟩ := hf it (by simp)
    have hai : a ≠ it := fun z => by
      obtain ⟨o1, g1, g2, _⟩ := p
      obtain ⟨o2, g3, g4, _⟩ := hit
      rw [z, g3] at g1
      cases g1
      rw [g4] at g2
      exact absurd g2 (by simp)
    unfold pyNext
    have hTy : s.TypeIs (.ref e) "enumerate" := ⟨_, he, rfl⟩
    refine wpAny_bind (wpAny_attempt (wpAny_callSpecial?_slot (name := Str.ofString "__next__") hTy F.slot_enumerate_next
      (wpAny_call_entry F.slot_enumerate_next hTy F.entry_enumerate_next ?_ (F.args_enumerate_next_1 _))))
    show wpAny _ _ (field (.ref e) 2 >>= _) _ _ _
    refine wpAny_bind (wpAny_field he rfl (x := .ref it) rfl ?_)
    have hend : its.toArray[i]? = none := by
      have := rv.length
      simp
      omega
    refine wpAny_bind (wpAny_nextOf_tuple_end (I.ok.hd hc) hit p hend fun h' x hk hx' => ?_)
    obtain ⟨u, ho, hcl⟩ := hx'
    refine wpAny_bind (wpAny_isInstance (T := "StopIteration") (b := true) ⟨u, ho, hcl⟩ isSubtype_stop ?_)
    exact wpAny_pure ⟨rfl, I.turned (t' := s.toks) (fun b ob hb q => hk b ob hb q) f0 f1 f3 f4 f5⟩
  self := fun A i s Q E st h => by
    obtain ⟨⟨_, he⟩, _⟩ := st
    exact wpAny_pyIter_enum he h
theorem two_le {n b : Nat} (hb : b ∈ [n + 1, n]) : n ≤ b := by
  rcases List.mem_cons.mp hb with z | z
  · omega
  · have := List.mem_singleton.mp z
    omega
/-- enumerate over a list or a tuple -/
theorem pi_enumB {X : Cx} {e : Expr} {ta : TA} {p pos tpos : Pos} {elts : List Expr} {kk : Nat} (hg : Gl X "enumerate") (hm : X.mg "enumerate" = none) (ha : PA X [e] ta) (hs : starEach [e] X.env = [(false, eval e X.env)] := by rfl) :
    PI X (.Tuple elts kk tpos) (.Call (.Name "enumerate" p) [e] [] pos) (fun σ H R0 => ta σ H fun ws H1 => (∃ a xs, ws = [.ref a] ∧ SqL X.K H1 a xs ∧ R0 (Ite X.K a) H1) ∨ (∃ a xs, ws = [.ref a] ∧ SqT X.K H1 a xs ∧ R0 (IteT X.K a) H1)) := ⟨fun pins s σ H R0 I h => by
  have go := ha.run pos pins s σ H _ I h
  refine Call_ (ld_blt I hg hm PyProof.Rows.boot_enumerate (PyProof.Rows.callWith_type1 (thn go ?_) hs rfl))
  rintro us s1 ⟨vs, H1, I1, r1, q1⟩
  have hn : ∀ b ∈ [s1.heap.objs.size + 1, s1.heap.objs.size], FpOk X pins H1 b := fun b hb => I1.fpOk (two_le hb) (I1.hok.fresh (two_le hb))
  rcases q1 with ⟨a, xs, ex, hq, q⟩ | ⟨a, xs, ex, hq, q⟩ <;> subst ex <;> cases r1 with
  | cons r rr => ?_
  · cases rr
    cases r
    obtain ⟨its, _, hl, _⟩ := I1.list hq
    refine call_enumerate_list hl.isList fun h' he hit _ hk => wpAny_pyIter_enum he ?_
    exact ⟨s1.heap.objs.size + 1, _, _, _, H1, rfl, I1.kept (t' := s1.toks) hk, turn_enum a (s1.heap.objs.size + 1) s1.heap.objs.size, ⟨⟨.none, he⟩, hit, Nat.succ_ne_self _⟩, hn, q⟩
  · cases rr
    cases r
    obtain ⟨its, _, hl, _⟩ := I1.tuple hq
    refine fw_enum_call (begins_tuple a its.toArray) hl fun h' he hit _ hk => wpAny_pyIter_enum he ?_
    exact ⟨s1.heap.objs.size + 1, _, _, _, H1, rfl, I1.kept (t' := s1.toks) hk, turn_enumT a (s1.heap.objs.size + 1) s1.heap.objs.size, ⟨⟨.none, he⟩, ⟨_, hit, rfl, rfl⟩, Nat.succ_ne_self _⟩, hn, q⟩⟩
end Fw
namespace Fw
open PySem L2

/-! ### what a loop stores its items to -/
inductive Tg where
  | nm (i : Nat)
  | tup (ts : List Tg)
mutual
def Tg.go : Tg → PyData → Env → Option Env
  | .nm i, x, env => some (env.set i (some (.d x)))
  | .tup ts, x, env => match x with
    | .tuple xs => Tg.goAll ts xs env
    | _ => none
def Tg.goAll : List Tg → List PyData → Env → Option Env
  | [], [], env => some env
  | t :: ts, x :: xs, env => match Tg.go t x env with
    | some env1 => Tg.goAll ts xs env1
    | none => none
  | _, _, _ => none
end
mutual
def Tg.tg (K : Fg) : Tg → TG
  | .nm i => gName i
  | .tup ts => gTup K (Tg.len ts) (Tg.tgs K ts)
def Tg.tgs (K : Fg) : List Tg → TGs
  | [] => gNil
  | t :: ts => gCons (Tg.tg K t) (Tg.tgs K ts)
def Tg.len : List Tg → Nat
  | [] => 0
  | _ :: ts => Tg.len ts + 1
end
mutual
def Tg.slots : Tg → List Nat
  | .nm i => [i]
  | .tup ts => Tg.slotsAll ts
def Tg.slotsAll : List Tg → List Nat
  | [] => []
  | t :: ts => Tg.slots t ++ Tg.slotsAll ts
end
theorem wipe_len (σ : St) (vs : List Nat) : (wipe σ vs).length = σ.length := wipe_length σ vs
theorem wipe_set {σ : St} {i : Nat} {x : Option V} : ∀ {vs : List Nat}, i ∈ vs → wipe (σ.set i x) vs = wipe σ vs
  | v :: vs, h => by
    unfold wipe
    by_cases e : i ∈ vs
    · rw [wipe_set e]
    · have hv : i = v := by
        rcases List.mem_cons.mp h with h | h
        · exact h
        · exact (e h).elim
      subst hv
      rw [wipe_set_out e, List.set_set]
where
  wipe_set_out {σ : St} {i : Nat} {x : Option V} : ∀ {vs : List Nat}, i ∉ vs → wipe (σ.set i x) vs = (wipe σ vs).set i x
  | [], _ => rfl
  | v :: vs, h => by
    unfold wipe
    rw [wipe_set_out fun z => h (List.mem_cons_of_mem _ z), List.set_comm _ _ fun z => h (by rw [z]; exact List.mem_cons_self)]
theorem wipe_wipe {σ : St} : ∀ {us vs : List Nat}, (∀ i ∈ us, i ∈ vs) → wipe (wipe σ us) vs = wipe σ vs
  | [], _, _ => rfl
  | u :: us, vs, h => by
    show wipe ((wipe σ us).set u none) vs = wipe σ vs
    rw [wipe_set (h u List.mem_cons_self), wipe_wipe fun i hi => h i (List.mem_cons_of_mem _ hi)]
mutual
/-- the store of an item: what stands in the slots afterwards, and where nothing changed -/
theorem Tg.ok {K : Fg} {F : Fz} {ι : List Addr} {H : Hp} : ∀ (t : Tg) {x : PyData} {w : V} {σ : St} {env env' : Env} {Q : St → Hp → Prop}, Tg.go t x env = some env' → Is K F H w x → EIs K F ι H σ env →
    (∀ σ', EIs K F ι H σ' env' → (∀ vs : List Nat, (∀ i ∈ Tg.slots t, i ∈ vs) → wipe σ' vs = wipe σ vs) → Q σ' H) → Tg.tg K t w σ H Q
  | .nm i, x, w, σ, env, env', Q, h, q, en, k => by
    unfold Tg.go at h
    cases h
    exact k _ (en.set (v := .d x) i q) fun vs hv => wipe_set (hv i (by unfold Tg.slots; exact List.mem_singleton.mpr rfl))
  | .tup ts, x, w, σ, env, env', Q, h, q, en, k => by
    unfold Tg.go at h
    split at h
    · next xs =>
      cases q with
      | tup hx ax =>
        refine ⟨_, _, rfl, hx, ?_, Tg.okAll ts h ax en k⟩
        rw [ax.length]
        exact Tg.lenOk ts h
    · cases h
theorem Tg.okAll {K : Fg} {F : Fz} {ι : List Addr} {H : Hp} : ∀ (ts : List Tg) {xs : List PyData} {ws : List V} {σ : St} {env env' : Env} {Q : St → Hp → Prop}, Tg.goAll ts xs env = some env' → IsAll K F H ws xs → EIs K F ι H σ env →
    (∀ σ', EIs K F ι H σ' env' → (∀ vs : List Nat, (∀ i ∈ Tg.slotsAll ts, i ∈ vs) → wipe σ' vs = wipe σ vs) → Q σ' H) → Tg.tgs K ts ws σ H Q
  | [], xs, ws, σ, env, env', Q, h, q, en, k => by
    cases q with
    | nil =>
      unfold Tg.goAll at h
      cases h
      exact ⟨rfl, k σ en fun _ _ => rfl⟩
    | cons a r =>
      unfold Tg.goAll at h
      cases h
  | t :: ts, xs, ws, σ, env, env', Q, h, q, en, k => by
    cases q with
    | nil =>
      unfold Tg.goAll at h
      cases h
    | cons a r =>
      unfold Tg.goAll at h
      split at h
      · next env1 h1 =>
        refine ⟨_, _, rfl, Tg.ok t h1 a en fun σ1 en1 w1 => Tg.okAll ts h r en1 fun σ2 en2 w2 => k σ2 en2 fun vs hv => ?_⟩
        unfold Tg.slotsAll at hv
        rw [w2 vs fun i hi => hv i (List.mem_append_right _ hi), w1 vs fun i hi => hv i (List.mem_append_left _ hi)]
      · cases h
theorem Tg.lenOk : ∀ (ts : List Tg) {xs : List PyData} {env env' : Env}, Tg.goAll ts xs env = some env' → xs.length = Tg.len ts
  | [], xs, _, _, h => by
    cases xs with
    | nil => rfl
    | cons x xs =>
      unfold Tg.goAll at h
      cases h
  | t :: ts, xs, env, env', h => by
    cases xs with
    | nil =>
      unfold Tg.goAll at h
      cases h
    | cons x xs =>
      unfold Tg.goAll at h
      split at h
      · next env1 h1 => exact congrArg Nat.succ (Tg.lenOk ts h)
      · cases h
end

/-! ### what is walked -/
abbrev IF := Env → Store → R (List PyData)
/-- J gives the items xs, from this state on -/
def Yields (K : Fg) (F : Fz) (ι : List Addr) (H : Hp) (J : It) (xs : List PyData) : Prop :=
  ∀ (i : Nat) (F1 : Fz) (ι1 : List Addr) (S1 : Store) (H1 : Hp), Ext F ι H F1 ι1 H1 → Sim K F1 ι1 S1 H1 →
    (∀ x, xs[i]? = some x → J.go i H1 ∧ ∀ w H2, J.yld i H1 w H2 → ∃ F2, Ext F1 ι1 H1 F2 ι1 H2 ∧ Sim K F2 ι1 S1 H2 ∧ Is K F2 H2 w x ∧ ∀ a, H1 a ≠ none → H2 a = H1 a) ∧ (i = xs.length → J.stop i H1)
def ILands (K : Fg) (E : WX) (σ : St) (F : Fz) (ι : List Addr) (H : Hp) (m : R (List PyData)) (R0 : It → Hp → Prop) : Prop := match m with
  | .ok xs S' => ∀ F' ι' H' J, Ext F ι H F' ι' H' → Sim K F' ι' S' H' → Yields K F' ι' H' J xs → R0 J H'
  | .ex c x S' => ∀ F' ι' H' dx, Ext F ι H F' ι' H' → Sim K F' ι' S' H' → ExV K F' H' dx x → E (.ref (He.ga K c)) (some dx) σ H'
  | .bad => False
theorem ILands.shift {K : Fg} {E : WX} {σ : St} {F F1 : Fz} {ι ι1 : List Addr} {H H1 : Hp} {m : R (List PyData)} {R0 : It → Hp → Prop} (e : Ext F ι H F1 ι1 H1) (h : ILands K E σ F ι H m R0) : ILands K E σ F1 ι1 H1 m R0 := by
  cases m with
  | ok xs S => exact fun F2 ι2 H2 J e2 s2 y => h F2 ι2 H2 J (e.trans e2) s2 y
  | ex c x S => exact fun F2 ι2 H2 dx e2 s2 y => h F2 ι2 H2 dx (e.trans e2) s2 y
  | bad => exact h
theorem ILands.bind {α β : Type} {K : Fg} {E : WX} {σ : St} {F : Fz} {ι : List Addr} {H : Hp} {rel : Rel α β} {m : R α} {k : α → Store → R (List PyData)} {R0 : It → Hp → Prop} (h : ILands K E σ F ι H (m.bind k) R0) :
    Lands K E σ F ι H rel m fun b H1 => ∃ F1 ι1 a S1, Ext F ι H F1 ι1 H1 ∧ Sim K F1 ι1 S1 H1 ∧ rel F1 ι1 H1 b a ∧ ILands K E σ F1 ι1 H1 (k a S1) R0 := by
  cases m with
  | ok a S => exact fun F' ι' H' b e s r => ⟨F', ι', a, S, e, s, r, ILands.shift (E := E) e h⟩
  | ex c x S => exact h
  | bad => exact h
def TIf (E : WX) (K : Fg) (f : IF) : TI := fun σ H R0 => ∃ F ι env S, Sim K F ι S H ∧ EIs K F ι H σ env ∧ ILands K E σ F ι H (f env S) R0
structure SI (X : Cx) (E : WX) (tg it : Expr) (f : IF) : Prop where
  pi : PI X tg it (TIf E X.K f)
theorem PI.imp {X : Cx} {tg e : Expr} {t t' : TI} (h : PI X tg e t) (i : ∀ σ H R, t' σ H R → t σ H R) : PI X tg e t' := ⟨fun pins s σ H R I q => h.run pins s σ H R I (i σ H R q)⟩
theorem pi_or {X : Cx} {tg e : Expr} {t t' : TI} (h : PI X tg e t) (h' : PI X tg e t') : PI X tg e (fun σ H R => t σ H R ∨ t' σ H R) := ⟨fun pins s σ H R I q => by
  rcases q with q | q
  · exact h.run pins s σ H R I q
  · exact h'.run pins s σ H R I q⟩
section
variable {K : Fg} {F : Fz} {ι : List Addr} {S : Store} {H : Hp} {a : Addr} {xs : List PyData} {ws : List V}
theorem IsAll.get {i : Nat} {x : PyData} : ∀ {ws : List V} {xs : List PyData} {i : Nat}, IsAll K F H ws xs → xs[i]? = some x → ∃ w, ws[i]? = some w ∧ Is K F H w x
  | _, _, _, .nil, h => by simp at h
  | w :: _, _, 0, .cons a r, h => ⟨w, rfl, by simp at h; rw [← h]; exact a⟩
  | _, _, i + 1, .cons a r, h => by
    obtain ⟨w, h1, h2⟩ := IsAll.get (i := i) (x := x) r (by simpa using h)
    exact ⟨w, by simpa using h1, h2⟩
theorem yields_list (h : FL F H a ws) (ax : IsAll K F H ws xs) : Yields K F ι H (Itl K a) xs := fun i F1 ι1 S1 H1 e s => by
  have h1 : SqL K H1 a ws := .of (e.fl h).2
  refine ⟨fun x hx => ?_, fun hi => ⟨ws, h1, by rw [ax.length]; omega⟩⟩
  obtain ⟨w, hw, iw⟩ := ax.get (i := 0) hx
  refine ⟨⟨ws, w, h1, hw⟩, fun y H2 ⟨e2, hy⟩ => ?_⟩
  subst e2
  have := hy ws h1
  rw [hw] at this
  cases this
  exact ⟨F1, .refl _ _ _, s, iw.mono e, fun _ _ => rfl⟩
theorem yields_tup (h : SqT K H a ws) (ax : IsAll K F H ws xs) : Yields K F ι H (Itt K a) xs := fun i F1 ι1 S1 H1 e s => by
  have h1 : SqT K H1 a ws := e.sqt h
  refine ⟨fun x hx => ?_, fun hi => ⟨ws, h1, by rw [ax.length]; omega⟩⟩
  obtain ⟨w, hw, iw⟩ := ax.get (i := 0) hx
  refine ⟨⟨ws, w, h1, hw⟩, fun y H2 ⟨e2, hy⟩ => ?_⟩
  subst e2
  have := hy ws h1
  rw [hw] at this
  cases this
  exact ⟨F1, .refl _ _ _, s, iw.mono e, fun _ _ => rfl⟩
/-- the signs of a text -/
def signs (z : Str) : List PyData := z.cps.toList.map fun c => .str ⟨#[c]⟩
theorem yields_str {z : Str} : Yields K F ι H (Its z) (signs z) := fun i F1 ι1 S1 H1 e s => by
  refine ⟨fun x hx => ?_, fun hi => ?_⟩
  · unfold signs at hx
    rw [List.getElem?_map] at hx
    obtain ⟨c, hc, rfl⟩ := Option.map_eq_some_iff.mp hx
    have hc2 : z.cps[i]? = some c := by rw [← Array.getElem?_toList]; exact hc
    have hi : i < z.cps.size := (Array.getElem?_eq_some_iff.mp hc2).1
    refine ⟨hi, fun w H2 ⟨e2, c', h1, h2⟩ => ?_⟩
    subst e2 h2
    rw [hc2] at h1
    cases h1
    exact ⟨F1, .refl _ _ _, s, .str _, fun _ _ => rfl⟩
  · subst hi
    unfold signs
    rw [List.length_map, Array.length_toList]
    exact Nat.le_refl _
/-- lo, lo + c, .. -/
def steps (lo c : Int) (n : Nat) : List PyData := (List.range n).map fun (i : Nat) => .int (lo + (i : Int) * c)
theorem steps_get {lo c : Int} {n i : Nat} {x : PyData} (h : (steps lo c n)[i]? = some x) : i < n ∧ x = .int (lo + (i : Int) * c) := by
  unfold steps at h
  rw [List.getElem?_map] at h
  obtain ⟨j, hj, rfl⟩ := Option.map_eq_some_iff.mp h
  obtain ⟨h1, h2⟩ := List.getElem?_eq_some_iff.mp hj
  rw [List.length_range] at h1
  rw [List.getElem_range] at h2
  subst h2
  exact ⟨h1, rfl⟩
theorem steps_len {lo c : Int} {n : Nat} : (steps lo c n).length = n := by
  unfold steps
  rw [List.length_map, List.length_range]
theorem yields_range {lo : Int} {n : Nat} : Yields K F ι H (Itr lo n) (steps lo 1 n) := fun i F1 ι1 S1 H1 e s => by
  refine ⟨fun x hx => ?_, fun hi => ?_⟩
  · obtain ⟨hi, rfl⟩ := steps_get hx
    refine ⟨hi, fun w H2 ⟨e2, h2⟩ => ?_⟩
    subst e2 h2
    rw [Int.mul_one]
    exact ⟨F1, .refl _ _ _, s, .int _, fun _ _ => rfl⟩
  · subst hi
    rw [steps_len]
    exact Nat.le_refl _
theorem yields_rangeC {lo c : Int} {n : Nat} : Yields K F ι H (Itc lo c n) (steps lo c n) := fun i F1 ι1 S1 H1 e s => by
  refine ⟨fun x hx => ?_, fun hi => ?_⟩
  · obtain ⟨hi, rfl⟩ := steps_get hx
    refine ⟨hi, fun w H2 ⟨e2, h2⟩ => ?_⟩
    subst e2 h2
    exact ⟨F1, .refl _ _ _, s, .int _, fun _ _ => rfl⟩
  · subst hi
    rw [steps_len]
    exact Nat.le_refl _
/-- pairs -/
def pairs (xs ys : List PyData) : List PyData := (xs.zip ys).map fun p => .tuple [p.1, p.2]
theorem pairs_get {xs ys : List PyData} {i : Nat} {x : PyData} (h : (pairs xs ys)[i]? = some x) : ∃ a b, xs[i]? = some a ∧ ys[i]? = some b ∧ x = .tuple [a, b] := by
  unfold pairs at h
  rw [List.getElem?_map] at h
  obtain ⟨p, hp, rfl⟩ := Option.map_eq_some_iff.mp h
  obtain ⟨h1, h2⟩ := List.getElem?_zip_eq_some.mp hp
  exact ⟨p.1, p.2, h1, h2, rfl⟩
theorem pairs_len {xs ys : List PyData} : (pairs xs ys).length = min xs.length ys.length := by
  unfold pairs
  rw [List.length_map, List.length_zip]
theorem new_pair {F1 : Fz} {ι1 : List Addr} {S1 : Store} {H1 : Hp} {T : Addr} {v w : V} {x y : PyData} (s : Sim K F1 ι1 S1 H1) (hT : H1 T = none) (hx : Is K F1 H1 v x) (hy : Is K F1 H1 w y) :
    ∃ F2, Ext F1 ι1 H1 F2 ι1 (upd H1 T (.tup [v, w])) ∧ Sim K F2 ι1 S1 (upd H1 T (.tup [v, w])) ∧ Is K F2 (upd H1 T (.tup [v, w])) (.ref T) (.tuple [x, y]) ∧ ∀ a, H1 a ≠ none → upd H1 T (.tup [v, w]) a = H1 a := by
  obtain ⟨y1, y2, y3⟩ := new_tup s hT (.cons hx (.cons hy .nil))
  exact ⟨F1, y1, y2, y3, fun a h => upd_ne fun z => h (by rw [z]; exact hT)⟩
theorem yields_enumL (h : ∀ F1 ι1 H1, Ext F ι H F1 ι1 H1 → SqL K H1 a ws) (ax : IsAll K F H ws xs) : Yields K F ι H (Ite K a) (pairs (steps 0 1 xs.length) xs) := fun i F1 ι1 S1 H1 e s => by
  have h1 : SqL K H1 a ws := h F1 ι1 H1 e
  refine ⟨fun p hp => ?_, fun hi => ⟨ws, h1, by rw [pairs_len, steps_len, Nat.min_self] at hi; rw [ax.length]; omega⟩⟩
  obtain ⟨k, x, hk, hx, rfl⟩ := pairs_get hp
  obtain ⟨_, rfl⟩ := steps_get hk
  obtain ⟨w, hw, iw⟩ := ax.get (i := 0) hx
  refine ⟨⟨ws, w, h1, hw⟩, fun y H2 ⟨T, z, e1, hT, e2, hz⟩ => ?_⟩
  subst e1 e2
  have := hz ws h1
  rw [hw] at this
  cases this
  rw [Int.mul_one, Int.zero_add]
  exact new_pair s hT (.int _) (iw.mono e)
theorem yields_enumT (h : SqT K H a ws) (ax : IsAll K F H ws xs) : Yields K F ι H (IteT K a) (pairs (steps 0 1 xs.length) xs) := fun i F1 ι1 S1 H1 e s => by
  have h1 : SqT K H1 a ws := e.sqt h
  refine ⟨fun p hp => ?_, fun hi => ⟨ws, h1, by rw [pairs_len, steps_len, Nat.min_self] at hi; rw [ax.length]; omega⟩⟩
  obtain ⟨k, x, hk, hx, rfl⟩ := pairs_get hp
  obtain ⟨_, rfl⟩ := steps_get hk
  obtain ⟨w, hw, iw⟩ := ax.get (i := 0) hx
  refine ⟨⟨ws, w, h1, hw⟩, fun y H2 ⟨T, z, e1, hT, e2, hz⟩ => ?_⟩
  subst e1 e2
  have := hz ws h1
  rw [hw] at this
  cases this
  rw [Int.mul_one, Int.zero_add]
  exact new_pair s hT (.int _) (iw.mono e)
theorem yields_zipL {b : Addr} {us : List V} {ys : List PyData} (h : FL F H a ws) (ax : IsAll K F H ws xs) (h' : FL F H b us) (ay : IsAll K F H us ys) : Yields K F ι H (Itz K a b) (pairs xs ys) := fun i F1 ι1 S1 H1 e s => by
  have h1 : SqL K H1 a ws := .of (e.fl h).2
  have h2 : SqL K H1 b us := .of (e.fl h').2
  refine ⟨fun p hp => ?_, fun hi => ⟨ws, us, h1, h2, by rw [pairs_len] at hi; rw [ax.length, ay.length]; omega⟩⟩
  obtain ⟨x, y, hx, hy, rfl⟩ := pairs_get hp
  obtain ⟨w, hw, iw⟩ := ax.get (i := 0) hx
  obtain ⟨u, hu, iu⟩ := ay.get (i := 0) hy
  refine ⟨⟨ws, us, w, u, h1, h2, hw, hu⟩, fun v H2 ⟨T, z, z', e1, hT, e2, hz, hz'⟩ => ?_⟩
  subst e1 e2
  have q1 := hz ws h1
  rw [hw] at q1
  cases q1
  have q2 := hz' us h2
  rw [hu] at q2
  cases q2
  exact new_pair s hT (iw.mono e) (iu.mono e)
theorem yields_zipT {b : Addr} {us : List V} {ys : List PyData} (h : SqT K H a ws) (ax : IsAll K F H ws xs) (h' : SqT K H b us) (ay : IsAll K F H us ys) : Yields K F ι H (RZ.ItzT K a b) (pairs xs ys) := fun i F1 ι1 S1 H1 e s => by
  have h1 : SqT K H1 a ws := e.sqt h
  have h2 : SqT K H1 b us := e.sqt h'
  refine ⟨fun p hp => ?_, fun hi => ⟨ws, us, h1, h2, by rw [pairs_len] at hi; rw [ax.length, ay.length]; omega⟩⟩
  obtain ⟨x, y, hx, hy, rfl⟩ := pairs_get hp
  obtain ⟨w, hw, iw⟩ := ax.get (i := 0) hx
  obtain ⟨u, hu, iu⟩ := ay.get (i := 0) hy
  refine ⟨⟨ws, us, w, u, h1, h2, hw, hu⟩, fun v H2 ⟨T, z, z', e1, hT, e2, hz, hz'⟩ => ?_⟩
  subst e1 e2
  have q1 := hz ws h1
  rw [hw] at q1
  cases q1
  have q2 := hz' us h2
  rw [hu] at q2
  cases q2
  exact new_pair s hT (iw.mono e) (iu.mono e)
end
/-- the items of a list, a tuple, a text -/
def itemsD : PyData → Option (List PyData)
  | .list xs => some xs
  | .tuple xs => some xs
  | .str z => some (signs z)
  | _ => none
def iSeq (f : EF) : IF := fun env S => (f env S).bind fun v S1 => match toD v S1 with
  | some (x, S2) => match itemsD x with
    | some xs => .ok xs S2
    | none => .bad
  | none => .bad
section
variable {X : Cx} {E : WX} {e tg : Expr} {f : EF}
theorem si_seq (he : SE X E e f) : SI X E tg e (iSeq f) := ⟨PI.imp (pi_or (pi_list he.pe) (pi_or (pi_tup he.pe) (pi_str he.pe))) fun σ H R0 ⟨F, ι, env, S, s, en, l⟩ => by
  unfold iSeq at l
  cases hf : f env S with
  | bad =>
    rw [hf] at l
    exact l.elim
  | ex c x S1 =>
    rw [hf] at l
    exact .inl ⟨F, ι, env, S, s, en, by rw [hf]; exact l⟩
  | ok v S1 =>
    rw [hf] at l
    simp only [Fw.R.bind] at l
    split at l
    · next x S2 hd =>
      cases x with
      | list xs =>
        refine .inl ⟨F, ι, env, S, s, en, ?_⟩
        rw [hf]
        intro F1 ι1 H1 w x1 s1 q1
        obtain ⟨F2, x2, s2, i2⟩ := toD_ok s1 q1 hd
        cases i2 with
        | lst hx ax => exact ⟨_, rfl, ⟨_, .of hx.2⟩, l F2 ι1 H1 _ (x1.trans x2) s2 (yields_list hx ax)⟩
      | tuple xs =>
        refine .inr (.inl ⟨F, ι, env, S, s, en, ?_⟩)
        rw [hf]
        intro F1 ι1 H1 w x1 s1 q1
        obtain ⟨F2, x2, s2, i2⟩ := toD_ok s1 q1 hd
        cases i2 with
        | tup hx ax => exact ⟨_, rfl, ⟨_, hx⟩, l F2 ι1 H1 _ (x1.trans x2) s2 (yields_tup hx ax)⟩
      | str z =>
        refine .inr (.inr ⟨F, ι, env, S, s, en, ?_⟩)
        rw [hf]
        intro F1 ι1 H1 w x1 s1 q1
        obtain ⟨F2, x2, s2, i2⟩ := toD_ok s1 q1 hd
        cases i2
        exact ⟨_, rfl, l F2 ι1 H1 _ (x1.trans x2) s2 yields_str⟩
      | _ => exact l.elim
    · exact l.elim⟩
end

/-! ### range -/
def okR (i : Int) : Bool := decide (-(2 ^ 62) ≤ i ∧ i < 2 ^ 62)
def iRange1 (f : AF) : IF := fun env S => (f env S).bind fun vs S1 => match vs with
  | [.d (.int j)] => match okR j with
    | true => .ok (steps 0 1 j.toNat) S1
    | false => .bad
  | _ => .bad
def iRange2 (f : AF) : IF := fun env S => (f env S).bind fun vs S1 => match vs with
  | [.d (.int i), .d (.int j)] => match okR i && okR j with
    | true => .ok (steps i 1 (j - i).toNat) S1
    | false => .bad
  | _ => .bad
/-- down by ones -/
def iRangeD (f : AF) : IF := fun env S => (f env S).bind fun vs S1 => match vs with
  | [.d (.int i), .d (.int j), .d (.int c)] => match decide (c = -1) && (okR i && okR j) with
    | true => .ok (steps i (-1) (i - j).toNat) S1
    | false => .bad
  | _ => .bad
/-- pairs of places and items; pairs -/
def iEnum' (f : AF) : IF := fun env S => (f env S).bind fun vs S1 => match vs with
  | [v] => match toD v S1 with
    | some (.list xs, S2) => .ok (pairs (steps 0 1 xs.length) xs) S2
    | some (.tuple xs, S2) => .ok (pairs (steps 0 1 xs.length) xs) S2
    | some (.dict [(.bool true, .list xs)], S2) => .ok (pairs (steps 0 1 xs.length) xs) S2
    | _ => .bad
  | _ => .bad
def iZip' (f : AF) : IF := fun env S => (f env S).bind fun vs S1 => match toDs vs S1 with
  | some ([.list xs, .list ys], S2) => .ok (pairs xs ys) S2
  | some ([.tuple xs, .tuple ys], S2) => .ok (pairs xs ys) S2
  | _ => .bad
theorem vall3 {K : Fg} {F : Fz} {ι : List Addr} {H : Hp} {xs : List V} {v u t : Val} (h : VAll K F ι H xs [v, u, t]) : ∃ w y z, xs = [w, y, z] ∧ VIs K F ι H w v ∧ VIs K F ι H y u ∧ VIs K F ι H z t := by
  match xs, h with
  | [w, y, z], h => exact ⟨w, y, z, rfl, h.1, h.2.1, h.2.2.1⟩
section
variable {X : Cx} {E : WX} {a b c tg : Expr} {f : AF} {p pos : Pos}
theorem si_range1 (hg : Gl X "range") (hm : X.mg "range" = none) (ha : SA X E [a] f) (hs : starEach [a] X.env = [(false, eval a X.env)] := by rfl) : SI X E tg (.Call (.Name "range" p) [a] [] pos) (iRange1 f) := ⟨PI.imp (pi_range1 hg hm ha.pa hs) fun σ H R0 ⟨F, ι, env, S, s, en, l⟩ => by
  refine ⟨F, ι, env, S, s, en, (ILands.bind (rel := relA X.K) l).imp ?_⟩
  rintro ws H1 ⟨F1, ι1, vs, S1, x1, s1, q1, l1⟩
  split at l1
  · next j =>
    split at l1
    · next hj =>
      obtain ⟨w, rfl, qw⟩ := vall1 q1
      cases qw
      obtain ⟨h1, h2⟩ := of_decide_eq_true hj
      exact ⟨j, rfl, h1, h2, l1 F1 ι1 H1 _ (.refl _ _ _) s1 yields_range⟩
    · exact l1.elim
  · exact l1.elim⟩
theorem si_range2 (hg : Gl X "range") (hm : X.mg "range" = none) (ha : SA X E [a, b] f) (hs : starEach [a, b] X.env = [(false, eval a X.env), (false, eval b X.env)] := by rfl) (hs2 : starEach [b] X.env = [(false, eval b X.env)] := by rfl) : SI X E tg (.Call (.Name "range" p) [a, b] [] pos) (iRange2 f) := ⟨PI.imp (pi_range2 hg hm ha.pa hs hs2) fun σ H R0 ⟨F, ι, env, S, s, en, l⟩ => by
  refine ⟨F, ι, env, S, s, en, (ILands.bind (rel := relA X.K) l).imp ?_⟩
  rintro ws H1 ⟨F1, ι1, vs, S1, x1, s1, q1, l1⟩
  split at l1
  · next i j =>
    split at l1
    · next hj =>
      obtain ⟨w, y, rfl, qw, qy⟩ := vall2 q1
      cases qw
      cases qy
      obtain ⟨g1, g2⟩ := Bool.and_eq_true_iff.mp hj
      obtain ⟨h1, h2⟩ := of_decide_eq_true g1
      obtain ⟨h3, h4⟩ := of_decide_eq_true g2
      exact ⟨i, j, rfl, ⟨h1, h2, h3, h4⟩, l1 F1 ι1 H1 _ (.refl _ _ _) s1 yields_range⟩
    · exact l1.elim
  · exact l1.elim⟩
theorem si_rangeD (hg : Gl X "range") (hm : X.mg "range" = none) (ha : SA X E [a, b, c] f) (hs : starEach [a, b, c] X.env = (false, eval a X.env) :: starEach [b, c] X.env := by rfl) (hpl : (backTo pos (starEach [b, c] X.env)).any (·.1) = false := by rfl) : SI X E tg (.Call (.Name "range" p) [a, b, c] [] pos) (iRangeD f) := ⟨PI.imp (pi_range3 hg hm ha.pa hs hpl) fun σ H R0 ⟨F, ι, env, S, s, en, l⟩ => by
  refine ⟨F, ι, env, S, s, en, (ILands.bind (rel := relA X.K) l).imp ?_⟩
  rintro ws H1 ⟨F1, ι1, vs, S1, x1, s1, q1, l1⟩
  split at l1
  · next i j c =>
    split at l1
    · next hj =>
      obtain ⟨w, y, z, rfl, qw, qy, qz⟩ := vall3 q1
      cases qw
      cases qy
      cases qz
      obtain ⟨g0, g⟩ := Bool.and_eq_true_iff.mp hj
      obtain ⟨g1, g2⟩ := Bool.and_eq_true_iff.mp g
      obtain ⟨h1, h2⟩ := of_decide_eq_true g1
      obtain ⟨h3, h4⟩ := of_decide_eq_true g2
      have hc := of_decide_eq_true g0
      subst hc
      exact ⟨i, j, -1, (i - j).toNat, rfl, RgC.neg h1 h2 h3 h4, l1 F1 ι1 H1 _ (.refl _ _ _) s1 yields_rangeC⟩
    · exact l1.elim
  · exact l1.elim⟩
theorem si_enum {elts : List Expr} {kk : Nat} {tpos : Pos} (hg : Gl X "enumerate") (hm : X.mg "enumerate" = none) (ha : SA X E [a] f) (hs : starEach [a] X.env = [(false, eval a X.env)] := by rfl) : SI X E (.Tuple elts kk tpos) (.Call (.Name "enumerate" p) [a] [] pos) (iEnum' f) := ⟨by
  have L := ha.pa
  refine PI.imp (t := fun σ H R0 => ∃ F ι env S, Sim X.K F ι S H ∧ EIs X.K F ι H σ env ∧ Lands X.K E σ F ι H (relA X.K) (f env S) fun ws H1 => (∃ a xs, ws = [.ref a] ∧ SqL X.K H1 a xs ∧ R0 (Ite X.K a) H1) ∨ (∃ a xs, ws = [.ref a] ∧ SqT X.K H1 a xs ∧ R0 (IteT X.K a) H1)) (pi_enumB hg hm (ta := TAf E X.K f) L hs) fun σ H R0 ⟨F, ι, env, S, s, en, l⟩ => ?_
  refine ⟨F, ι, env, S, s, en, (ILands.bind (rel := relA X.K) l).imp ?_⟩
  rintro ws H1 ⟨F1, ι1, vs, S1, x1, s1, q1, l1⟩
  split at l1
  · next v =>
    split at l1
    · next xs S2 hd =>
      obtain ⟨w, rfl, qw⟩ := vall1 q1
      obtain ⟨F2, x2, s2, i2⟩ := toD_ok s1 qw hd
      cases i2 with
      | lst hx ax => exact .inl ⟨_, _, rfl, .of hx.2, l1 F2 ι1 H1 _ x2 s2 (yields_enumL (fun _ _ _ e => .of (e.fl hx).2) ax)⟩
    · next xs S2 hd =>
      obtain ⟨w, rfl, qw⟩ := vall1 q1
      obtain ⟨F2, x2, s2, i2⟩ := toD_ok s1 qw hd
      cases i2 with
      | tup hx ax => exact .inr ⟨_, _, rfl, hx, l1 F2 ι1 H1 _ x2 s2 (yields_enumT hx ax)⟩
    · next xs S2 hd =>
      obtain ⟨w, rfl, qw⟩ := vall1 q1
      obtain ⟨F2, x2, s2, i2⟩ := toD_ok s1 qw hd
      cases i2 with
      | dct f hx ax => exact (scr_key ax _ _ rfl).elim
      | scr hx ax => exact .inl ⟨_, _, rfl, hx.sq, l1 F2 ι1 H1 _ x2 s2 (yields_enumL (fun _ _ _ e => (e.sqs hx).sq) ax)⟩
    · exact l1.elim
  · exact l1.elim⟩
theorem si_zip {elts : List Expr} {kk : Nat} {tpos : Pos} (hg : Gl X "zip") (hm : X.mg "zip" = none) (ha : SA X E [a, b] f) (hs : starEach [a, b] X.env = (false, eval a X.env) :: starEach [b] X.env := by rfl) (hpl : (backTo pos (starEach [b] X.env)).any (·.1) = false := by rfl) : SI X E (.Tuple elts kk tpos) (.Call (.Name "zip" p) [a, b] [] pos) (iZip' f) := ⟨PI.imp (RZ.pi_zipA hg hm ha.pa hs hpl) fun σ H R0 ⟨F, ι, env, S, s, en, l⟩ => by
  refine ⟨F, ι, env, S, s, en, (ILands.bind (rel := relA X.K) l).imp ?_⟩
  rintro ws H1 ⟨F1, ι1, vs, S1, x1, s1, q1, l1⟩
  split at l1
  · next xs ys S2 hd =>
    obtain ⟨F2, x2, s2, i2⟩ := toDs_ok s1 q1 hd
    cases i2 with
    | cons a1 r1 =>
      cases r1 with
      | cons a2 r2 =>
        cases r2
        cases a1 with
        | lst hx ax =>
          cases a2 with
          | lst hy ay => exact ⟨_, _, _, _, rfl, .inl ⟨.of hx.2, .of hy.2, l1 F2 ι1 H1 _ x2 s2 (yields_zipL hx ax hy ay)⟩⟩
  · next xs ys S2 hd =>
    obtain ⟨F2, x2, s2, i2⟩ := toDs_ok s1 q1 hd
    cases i2 with
    | cons a1 r1 =>
      cases r1 with
      | cons a2 r2 =>
        cases r2
        cases a1 with
        | tup hx ax =>
          cases a2 with
          | tup hy ay => exact ⟨_, _, _, _, rfl, .inr ⟨hx, hy, l1 F2 ι1 H1 _ x2 s2 (yields_zipT hx ax hy ay)⟩⟩
  · exact l1.elim⟩
end
end Fw
namespace Fw
open PySem L2

/-! ### for -/
def forGo (t : Tg) (p : SF) : List PyData → Env → Store → R (Fl × Env)
  | [], env, S => .ok (.nx, env) S
  | x :: xs, env, S => match t.go x env with
    | some env1 => sLoop (p env1 S) (forGo t p xs)
    | none => .bad
def sFor (f : IF) (t : Tg) (p : SF) : SF := fun env S => sB (f env S) env fun xs S1 => forGo t p xs env S1
section
variable {X : Cx} {E : WX} {tg it : Expr} {body : List Stmt} {f : IF} {t : Tg} {p : SF} {pos : Pos} {K : Fg} {F : Fz} {ι : List Addr} {H : Hp} {D : Ends} {σ : St} {env : Env}
theorem ILands.sbind {m : R (List PyData)} {k : List PyData → Store → R (Fl × Env)} (en : EIs K F ι H σ env) (h : SLands K E F ι H (sB m env k) D) :
    ILands K E σ F ι H m fun J H1 => ∃ F1 ι1 xs S1, Ext F ι H F1 ι1 H1 ∧ Sim K F1 ι1 S1 H1 ∧ Yields K F1 ι1 H1 J xs ∧ SLands K E F1 ι1 H1 (k xs S1) D := by
  cases m with
  | ok a S => exact fun F' ι' H' b e s r => ⟨F', ι', a, S, e, s, r, SLands.shift (E := E) e h⟩
  | ex c x S => exact fun F' ι' H' dx e s q => h F' ι' H' σ dx e s (en.mono e) q
  | bad => exact h
theorem ILands.imp {m : R (List PyData)} {Q Q' : It → Hp → Prop} (h : ILands K E σ F ι H m Q) (i : ∀ b H', Q b H' → Q' b H') : ILands K E σ F ι H m Q' := by
  cases m with
  | ok a S => exact fun F' ι' H' b e s r => i b H' (h F' ι' H' b e s r)
  | ex c x S => exact h
  | bad => exact h
theorem Yields.mono {F1 : Fz} {ι1 : List Addr} {H1 : Hp} {J : It} {xs : List PyData} (e : Ext F ι H F1 ι1 H1) (h : Yields K F ι H J xs) : Yields K F1 ι1 H1 J xs := fun i F2 ι2 S2 H2 x s => h i F2 ι2 S2 H2 (e.trans x) s
theorem SLands.loopX {m : R (Fl × Env)} {k : Env → Store → R (Fl × Env)} {N : St → Hp → Prop} (h : SLands K E F ι H (sLoop m k) D)
    (hN : ∀ σ1 H1, (∃ F1 ι1 env1 S1, Ext F ι H F1 ι1 H1 ∧ Sim K F1 ι1 S1 H1 ∧ EIs K F1 ι1 H1 σ1 env1 ∧ SLands K E F1 ι1 H1 (k env1 S1) D) → N σ1 H1) :
    SLands K E F ι H m { D with nx := N, ct := N, bk := D.nx } := by
  match m, h with
  | .ok (.nx, env') S', h => exact fun F' ι' H' σ' e s q => hN _ _ ⟨F', ι', env', S', e, s, q, SLands.shift (E := E) e h⟩
  | .ok (.bk, env') S', h => exact h
  | .ok (.ct, env') S', h => exact fun F' ι' H' σ' e s q => hN _ _ ⟨F', ι', env', S', e, s, q, SLands.shift (E := E) e h⟩
  | .ok (.rt v, env') S', h => exact h
  | .ok (.rs c x, env') S', h => exact h
  | .ex _ _ _, h => exact h
  | .bad, h => exact h
theorem ss_for (hp : PassesOwn (model X.prog X.w) X.A X.env X.xe) (hc : X.calm = true) (hi : SI X E tg it f) (hg : PG X tg (Tg.tg X.K t)) (hb : SSs X E body p) (hs : ∀ x, foldedSetIterable it X.env x = pure x := by intro _; rfl) :
    SS X E (.For tg it body [] pos) (sFor f t p) := ⟨PS.imp (ps_for hp hc hi.pi hg hb.ps hs) fun D σ H ⟨F, ι, env, S, s, en, l⟩ => by
  refine ⟨F, ι, env, S, s, en, (ILands.sbind en l).imp ?_⟩
  rintro J H1 ⟨F1, ι1, xs, S1, x1, s1, y, l1⟩
  refine ⟨fun i m σ H => i + m = xs.length ∧ ∃ F ι env S, Ext F1 ι1 H1 F ι H ∧ Sim X.K F ι S H ∧ EIs X.K F ι H σ env ∧ SLands X.K E F ι H (forGo t p (xs.drop i) env S) D, ⟨xs.length, Nat.zero_add _, F1, ι1, env, S1, .refl _ _ _, s1, en.mono x1, l1⟩, ?_⟩
  rintro i m σ H ⟨hm, F, ι, env, S, x, s, en, l⟩
  obtain ⟨y1, y2⟩ := y i F ι S H x s
  by_cases hi : i < xs.length
  · have hx : xs[i]? = some xs[i] := List.getElem?_eq_getElem hi
    obtain ⟨go, yl⟩ := y1 _ hx
    refine .inr ⟨go, fun σ' H' => ∃ F ι env S, Ext F1 ι1 H1 F ι H' ∧ Sim X.K F ι S H' ∧ EIs X.K F ι H' σ' env ∧ SLands X.K E F ι H' (forGo t p (xs.drop (i + 1)) env S) D, fun σ' H' h => ⟨m - 1, by omega, by omega, h⟩, ?_⟩
    intro w H' hw
    obtain ⟨F2, x2, s2, iw, _⟩ := yl w H' hw
    rw [List.drop_eq_getElem_cons hi] at l
    unfold forGo at l
    split at l
    · next env1 hg1 =>
      refine Tg.ok t hg1 iw (en.mono x2) fun σ' en' _ => ?_
      refine ⟨F2, ι, env1, S, s2, en', (SLands.shift x2 l).loopX ?_⟩
      rintro σ3 H3 ⟨F3, ι3, env3, S3, x3, s3, en3, l3⟩
      exact ⟨F3, ι3, env3, S3, (x.trans x2).trans x3, s3, en3, l3⟩
    · exact l.elim
  · have hi' : i = xs.length := by omega
    rw [List.drop_eq_nil_of_le (by omega)] at l
    exact .inl ⟨y2 hi', l F ι H σ (.refl _ _ _) s en⟩⟩
end
end Fw
namespace Fw
open PySem L2
section
variable {K : Fg} {F F' F1 : Fz} {ι ι' ι1 : List Addr} {S : Store} {H H' H1 : Hp} {D : Addr} {o : HO}
/-- contents last by the frozen things alone -/
theorem VIs.at {j j' : List Addr} (e : Ext F j H F' j' H') {w : V} : ∀ {v : Val}, VIs K F ι H w v → VIs K F' ι H' w v
  | .d _, h => Is.mono e h
  | .r _, h => h
theorem VAll.at {j j' : List Addr} (e : Ext F j H F' j' H') : ∀ {ws : List V} {vs : List Val}, VAll K F ι H ws vs → VAll K F' ι H' ws vs
  | [], [], _ => trivial
  | _ :: _, _ :: _, h => ⟨h.1.at e, VAll.at e h.2⟩
  | [], _ :: _, h => h.elim
  | _ :: _, [], h => h.elim
theorem VKs.at {j j' : List Addr} (e : Ext F j H F' j' H') {κ : Type} : ∀ {ws : List (κ × V)} {vs : List (κ × Val)}, VKs K F ι H ws vs → VKs K F' ι H' ws vs
  | [], [], _ => trivial
  | (_, _) :: _, (_, _) :: _, h => ⟨h.1, h.2.1.at e, VKs.at e h.2.2⟩
  | [], _ :: _, h => h.elim
  | _ :: _, [], h => h.elim
theorem CellIs.at {j j' : List Addr} {a : Addr} (e : Ext F j H F' j' H') (k : ∀ o, H a = some o → H' a = some o) (nf : ¬ F a → ¬ F' a) : ∀ {c : Cell}, CellIs K F ι H a c → CellIs K F' ι H' a c
  | .lst _, ⟨f, ws, h, r⟩ => ⟨nf f, ws, k _ h, r.at e⟩
  | .dct _, ⟨f, ws, h, r⟩ => ⟨nf f, ws, k _ h, r.at e⟩
  | .ins _ _, ⟨f, dx, ws, h, r⟩ => ⟨nf f, dx, ws, k _ h, r.at e⟩
  | .frz _, ⟨f, r⟩ => ⟨e.fz _ f, r.mono e⟩
  | .scr _, ⟨f, o, ws, h, r⟩ => ⟨nf f, o, ws, k _ h, r.mono e⟩
/-- an object of no account is changed -/
theorem Ext.off (nf : ¬ F D) {l : List V} (hl : H D = some (.lst l)) : Ext F [D] H F [D] (upd H D o) := by
  refine ⟨⟨[], by simp, by simp⟩, fun _ h => h, fun b u h k => ?_, fun a h => .inl h, fun b u h => ?_, fun b xs h => ?_, fun b u v h => ?_⟩
  · have hb : b ≠ D := fun z => by
      subst z
      rcases k with k | k
      · exact k List.mem_cons_self
      · exact nf k
    rw [upd_ne hb]
    exact h
  · by_cases z : b = D
    · subst z
      exact ⟨o, upd_same⟩
    · exact ⟨u, by rw [upd_ne z]; exact h⟩
  · have hb : b ≠ D := fun z => by
      subst z
      rw [hl] at h
      cases h
    rw [upd_ne hb]
    exact h
  · have hb : b ≠ D := fun z => by
      subst z
      rw [hl] at h
      cases h
    rw [upd_ne hb]
    exact h
theorem Sim.off (s : Sim K F ι S H) (hD : D ∉ ι) (nf : ¬ F D) {l : List V} (hl : H D = some (.lst l)) : Sim K F ι S (upd H D o) :=
  ⟨s.len, s.nd, fun a h => by
    obtain ⟨u, q⟩ := s.cl a h
    exact (Ext.off nf hl).tr a u q, fun a ha => by
    obtain ⟨u, q, r⟩ := s.tr a ha
    exact ⟨u, by rw [upd_ne (show a ≠ D from fun z => hD (by rw [← z]; exact ha))]; exact q, r⟩, fun i a c ha hc => (s.cell i a c ha hc).at (Ext.off nf hl) (fun u h => by rw [upd_ne (show a ≠ D from fun z => hD (by rw [← z]; exact List.mem_of_getElem? ha))]; exact h) fun h => h⟩
theorem Ext.offs (e : Ext F1 ι1 H1 F ι H) (hn : H1 D = none) : Ext F1 ι1 H1 F ι (upd H D o) :=
  ⟨e.pre, e.fz, fun a u h k => by rw [upd_ne (ne_of_none h hn)]; exact e.keep a u h k, e.new, fun a u h => by rw [upd_ne (ne_of_none h hn)]; exact e.tr a u h, fun a xs h => by rw [upd_ne (ne_of_none h hn)]; exact e.tups a xs h, fun a u v h => by rw [upd_ne (ne_of_none h hn)]; exact e.frzs a u v h⟩
/-- an object of no account stays one -/
theorem Ext.stayOff (e : Ext F ι H F' ι' H') (hD : D ∉ ι) (nf : ¬ F D) (hl : H D = some o) : D ∉ ι' ∧ ¬ F' D ∧ H' D = some o := by
  refine ⟨fun z => ?_, fun z => ?_, e.keep _ _ hl (.inl hD)⟩
  · obtain ⟨m, p, q⟩ := e.pre
    rw [p] at z
    rcases List.mem_append.mp z with z | z
    · exact hD z
    · rw [q _ z] at hl
      cases hl
  · rcases e.new _ z with z | z | z
    · exact nf z
    · rw [z] at hl
      cases hl
    · exact hD z
/-- it becomes frozen data, or a cell -/
theorem Ext.offAdd (e : Ext F1 ι1 H1 F ι H) (hn : H1 D = none) : Ext F1 ι1 H1 (F.add D) ι H :=
  ⟨e.pre, fun a h => .inl (e.fz a h), e.keep, fun a h => by
    rcases h with h | h
    · exact e.new a h
    · rw [h]
      exact .inr (.inl hn), e.tr, e.tups, e.frzs⟩
theorem Sim.offAdd (s : Sim K F ι S H) (hD : D ∉ ι) (hl : H D = some o) : Sim K (F.add D) ι S H := by
  have e : Ext F [D] H (F.add D) [D] H := .freeze _ (fun _ h => .inl h) fun b h => by
    rcases h with h | h
    · exact .inl h
    · rw [h]
      exact .inr List.mem_cons_self
  exact ⟨s.len, s.nd, fun a h => by
    rcases h with h | h
    · exact s.cl a h
    · exact ⟨o, by rw [h]; exact hl⟩, s.tr, fun i a c ha hc => (s.cell i a c ha hc).at e (fun _ h => h) fun nf h => by
      rcases h with h | h
      · exact nf h
      · rw [h] at ha
        exact hD (List.mem_of_getElem? ha)⟩
theorem Is.offAdd {ws : List V} {xs : List PyData} (hl : H D = some (.lst ws)) (h : IsAll K F H ws xs) : Is K (F.add D) H (.ref D) (.list xs) := by
  have e : Ext F [D] H (F.add D) [D] H := .freeze _ (fun _ h => .inl h) fun b h => by
    rcases h with h | h
    · exact .inl h
    · rw [h]
      exact .inr List.mem_cons_self
  exact .lst ⟨.inr rfl, hl⟩ (h.mono e)
theorem Ext.offCell (e : Ext F1 ι1 H1 F ι H) (hn : H1 D = none) : Ext F1 ι1 H1 F (ι ++ [D]) H := by
  obtain ⟨m, p, q⟩ := e.pre
  refine ⟨⟨m ++ [D], by rw [p, List.append_assoc], fun a ha => ?_⟩, e.fz, e.keep, e.new, e.tr, e.tups, e.frzs⟩
  rcases List.mem_append.mp ha with h | h
  · exact q a h
  · rw [List.mem_singleton.mp h]
    exact hn
theorem Sim.offCell {ws : List V} {vs : List Val} (s : Sim K F ι S H) (hD : D ∉ ι) (nf : ¬ F D) (hl : H D = some (.lst ws)) (h : VAll K F ι H ws vs) : Sim K F (ι ++ [D]) (S ++ [.lst vs]) H := by
  have up : ∀ {w : V} {v : Val}, VIs K F ι H w v → VIs K F (ι ++ [D]) H w v := fun {w v} q => by
    cases v with
    | d x => exact q
    | r i =>
      obtain ⟨a, h1, h2⟩ := q
      exact ⟨a, by rw [List.getElem?_append_left (List.getElem?_eq_some_iff.mp h1).1]; exact h1, h2⟩
  have upA : ∀ {ws : List V} {vs : List Val}, VAll K F ι H ws vs → VAll K F (ι ++ [D]) H ws vs := by
    intro ws
    induction ws with
    | nil =>
      intro vs q
      cases vs with
      | nil => trivial
      | cons _ _ => exact q.elim
    | cons w ws ih =>
      intro vs q
      cases vs with
      | nil => exact q.elim
      | cons v vs => exact ⟨up q.1, ih q.2⟩
  have upK : ∀ {κ : Type} {ws : List (κ × V)} {vs : List (κ × Val)}, VKs K F ι H ws vs → VKs K F (ι ++ [D]) H ws vs := by
    intro κ ws
    induction ws with
    | nil =>
      intro vs q
      cases vs with
      | nil => trivial
      | cons _ _ => exact q.elim
    | cons w ws ih =>
      intro vs q
      obtain ⟨k, w⟩ := w
      cases vs with
      | nil => exact q.elim
      | cons v vs =>
        obtain ⟨k', v⟩ := v
        exact ⟨q.1, up q.2.1, ih q.2.2⟩
  have upC : ∀ {a : Addr} {c : Cell}, CellIs K F ι H a c → CellIs K F (ι ++ [D]) H a c := fun {a c} q => by
    cases c with
    | lst xs =>
      obtain ⟨f, ws, h1, r⟩ := q
      exact ⟨f, ws, h1, upA r⟩
    | dct xs =>
      obtain ⟨f, ws, h1, r⟩ := q
      exact ⟨f, ws, h1, upK r⟩
    | ins c xs =>
      obtain ⟨f, dx, ws, h1, r⟩ := q
      exact ⟨f, dx, ws, h1, upK r⟩
    | frz x => exact q
    | scr x => exact q
  refine ⟨by simp [s.len], ?_, s.cl, fun a ha => ?_, fun i a c' ha hc' => ?_⟩
  · rw [List.nodup_append]
    refine ⟨s.nd, by simp, fun x hx y hy => ?_⟩
    rw [List.mem_singleton.mp hy]
    intro z
    rw [z] at hx
    exact hD hx
  · rcases List.mem_append.mp ha with h | h
    · exact s.tr a h
    · rw [List.mem_singleton.mp h]
      exact ⟨_, hl, fun _ => by simp⟩
  · by_cases hi : i < ι.length
    · rw [List.getElem?_append_left hi] at ha
      rw [List.getElem?_append_left (by rw [← s.len]; exact hi)] at hc'
      exact upC (s.cell i a c' ha hc')
    · have h1 := (List.getElem?_eq_some_iff.mp ha).1
      have hi2 : i = ι.length := by
        rw [List.length_append] at h1
        simp at h1
        omega
      subst hi2
      rw [List.getElem?_append_right (Nat.le_refl _)] at ha
      simp at ha
      rw [s.len, List.getElem?_append_right (Nat.le_refl _)] at hc'
      simp at hc'
      rw [← hc', ← ha]
      exact ⟨nf, ws, hl, upA h⟩
end

/-! ### list comprehensions -/
def wipeE (env : Env) : List Nat → Env
  | [] => env
  | v :: vs => (wipeE env vs).set v none
theorem EIs.wiped {K : Fg} {F : Fz} {ι : List Addr} {H : Hp} {σ : St} {env : Env} (h : EIs K F ι H σ env) : ∀ vs : List Nat, EIs K F ι H (wipe σ vs) (wipeE env vs)
  | [] => h
  | v :: vs => by
    obtain ⟨h1, h2⟩ := EIs.wiped h vs
    refine ⟨by unfold wipe wipeE; rw [List.length_set, List.length_set, h1], fun i u e => ?_⟩
    unfold wipeE at e
    unfold wipe
    by_cases hi : v = i
    · subst hi
      by_cases hl : v < (wipeE env vs).length
      · rw [List.getElem?_set_self hl] at e
        cases e
      · rw [List.getElem?_eq_none (by rw [List.length_set]; omega)] at e
        cases e
    · rw [List.getElem?_set_ne hi] at e ⊢
      exact h2 i u e
abbrev E0 : WX := fun _ _ _ _ => False
/-- the turns; acc: what is made so far -/
def lcGo (t : Tg) (c : BF) (f : EF) (env : Env) : List PyData → Store → List Val → R (List Val)
  | [], S, acc => .ok acc S
  | x :: xs, S, acc => match t.go x env with
    | some env1 => (c env1 S).bind fun b S1 => match b with
      | true => (f env1 S1).bind fun v S2 => match decide (acc.length < 100000) with
        | true => lcGo t c f env xs S2 (acc ++ [v])
        | false => .bad
      | false => lcGo t c f env xs S1 acc
    | none => .bad
def lcFin (m : Bool) : R (List Val) → R Val
  | .ok acc S => match m with
    | true => .ok (.r S.length) (S ++ [.lst acc])
    | false => match toDs acc S with
      | some (xs, S') => .ok (.d (.list xs)) S'
      | none => .bad
  | _ => .bad
/-- m: the list is to change -/
def eLc (m : Bool) (vs : List Nat) (it : IF) (t : Tg) (c : BF) (f : EF) : EF := fun env S => (it env S).bind fun xs S1 => lcFin m (lcGo t c f (wipeE env vs) xs S1 [])
def bYes : BF := fun _ S => .ok true S
structure SBs (X : Cx) (E : WX) (es : List Expr) (f : BF) : Prop where
  pt : PTs X es (TBf E X.K f)
theorem sbs_nil {X : Cx} {E : WX} : SBs X E [] bYes := ⟨⟨fun pins s σ H Q I ⟨F, ι, env, S, s', en, l⟩ => (pts_nil (X := X)).run pins s σ H Q I (l F ι H true (.refl _ _ _) s' rfl)⟩⟩
theorem sbs_one {X : Cx} {E : WX} {e : Expr} {f : BF} (h : SB X E e f) : SBs X E [e] f := ⟨pts_one h.pt⟩
section
variable {K : Fg} {σ : St} {F F1 : Fz} {ι ι1 : List Addr} {H H1 : Hp} {D : Addr} {Q : VK}
/-- how the turns land, seen from the state before the list -/
def LcL (K : Fg) (D : Addr) (F1 : Fz) (ι1 : List Addr) (H1 : Hp) (Q : VK) (m : R (List Val)) : Prop := match m with
  | .ok acc S' => ∀ F' ι' H' ws, Ext F1 ι1 H1 F' ι' H' → Sim K F' ι' S' H' → D ∉ ι' → ¬ F' D → H' D = some (.lst ws) → VAll K F' ι' H' ws acc → Q (.ref D) H'
  | _ => False
theorem lcl_fin {E : WX} {fr : Bool} {m : R (List Val)} (hn : H1 D = none) (h : Lands K E σ F1 ι1 H1 (relV K) (lcFin fr m) Q) : LcL K D F1 ι1 H1 Q m := by
  cases m with
  | bad => exact h
  | ex c x S => exact h
  | ok acc S =>
    intro F' ι' H' ws e s hD nf hl q
    unfold lcFin at h
    cases fr with
    | true => exact h F' (ι' ++ [D]) H' (.ref D) (e.offCell hn) (s.offCell hD nf hl q) ⟨D, by rw [← s.len, List.getElem?_append_right (Nat.le_refl _)]; simp, rfl⟩
    | false =>
      simp only at h
      split at h
      · next xs S2 hd =>
        obtain ⟨F2, x2, s2, i2⟩ := toDs_ok s q hd
        obtain ⟨hD2, nf2, hl2⟩ := x2.stayOff hD nf hl
        exact h (F2.add D) ι' H' (.ref D) ((e.trans x2).offAdd hn) (s2.offAdd hD2 hl) (Is.offAdd hl i2)
      · exact h.elim
/-- an inner step -/
theorem LcL.inner {α β : Type} {rel : Rel α β} {m : R α} {k : α → Store → R (List Val)} (h : LcL K D F1 ι1 H1 Q (m.bind k)) :
    Lands K E0 σ F ι H rel m fun b H' => ∃ F' ι' a S', Ext F ι H F' ι' H' ∧ Sim K F' ι' S' H' ∧ rel F' ι' H' b a ∧ LcL K D F1 ι1 H1 Q (k a S') := by
  cases m with
  | ok a S => exact fun F' ι' H' b e s r => ⟨F', ι', a, S, e, s, r, h⟩
  | ex c x S => exact h.elim
  | bad => exact h.elim
end
section
variable {X : Cx} {E : WX} {elt tg it : Expr} {ifs : List Expr} {scope : Scope} {own : List (Str × Nat)} {pos : Pos} {fi : IF} {t : Tg} {c : BF} {f : EF}
theorem t_lc {K : Fg} {m : Bool} {vs : List Nat} (ht : ∀ i ∈ Tg.slots t, i ∈ vs) {σ : St} {H : Hp} {Q : VK} (h : TEf E K (eLc m vs fi t c f) σ H Q) : tLc (TIf E K fi) (Tg.tg K t) (TBf E0 K c) (TEf E0 K f) vs σ H Q := by
  obtain ⟨F, ι, env, S, s, en, l⟩ := h
  refine ⟨F, ι, env, S, s, en, ?_⟩
  have l : ILands K E σ F ι H (fi env S) fun J H1 => ∃ F1 ι1 xs S1, Ext F ι H F1 ι1 H1 ∧ Sim K F1 ι1 S1 H1 ∧ Yields K F1 ι1 H1 J xs ∧ Lands K E σ F1 ι1 H1 (relV K) (lcFin m (lcGo t c f (wipeE env vs) xs S1 [])) Q := by
    unfold eLc at l
    cases hf : fi env S with
    | bad =>
      rw [hf] at l
      exact l
    | ex c x S1 =>
      rw [hf] at l
      exact l
    | ok xs S1 =>
      rw [hf] at l
      exact fun F' ι' H' J e s r => ⟨F', ι', xs, S1, e, s, r, Lands.shift (E := E) e l⟩
  refine l.imp ?_
  rintro J H1 ⟨F1, ι1, xs, S1, x1, s1, y, l1⟩ D hD
  have l2 := lcl_fin hD l1
  have en1 := (en.mono x1).wiped vs
  refine ⟨fun i m H => i + m = xs.length ∧ ∃ F ι S acc ws, Ext F1 ι1 H1 F ι H ∧ Sim K F ι S H ∧ D ∉ ι ∧ ¬ F D ∧ H D = some (.lst ws) ∧ VAll K F ι H ws acc ∧ LcL K D F1 ι1 H1 Q (lcGo t c f (wipeE env vs) (xs.drop i) S acc),
    ⟨xs.length, Nat.zero_add _, F1, ι1, S1, [], [], .plain s1 hD, .plain s1 hD, s1.none_not hD, s1.fresh hD, upd_same, trivial, l2⟩, ?_⟩
  rintro i m H ⟨hm, F, ι, S, acc, ws, x, s, hDi, nf, hl, q, l⟩
  obtain ⟨y1, y2⟩ := y i F ι S H x s
  by_cases hi : i < xs.length
  · have hx : xs[i]? = some xs[i] := List.getElem?_eq_getElem hi
    obtain ⟨go, yl⟩ := y1 _ hx
    refine .inr ⟨go, fun H' => ∃ F ι S acc ws, Ext F1 ι1 H1 F ι H' ∧ Sim K F ι S H' ∧ D ∉ ι ∧ ¬ F D ∧ H' D = some (.lst ws) ∧ VAll K F ι H' ws acc ∧ LcL K D F1 ι1 H1 Q (lcGo t c f (wipeE env vs) (xs.drop (i + 1)) S acc), fun H' h => ⟨m - 1, by omega, by omega, h⟩, ?_⟩
    intro w H' hw
    obtain ⟨F2, x2, s2, iw, _⟩ := yl w H' hw
    obtain ⟨d2, n2, h2⟩ := x2.stayOff hDi nf hl
    rw [List.drop_eq_getElem_cons hi] at l
    unfold lcGo at l
    split at l
    · next env1 hg1 =>
      refine Tg.ok t hg1 iw ((en1.mono x).mono x2) fun σ' en' hw' => ⟨?_, ?_⟩
      · rw [hw' vs ht, wipe_wipe fun i hi => hi]
      refine ⟨F2, ι, env1, S, s2, en', (LcL.inner (rel := relB) l).imp ?_⟩
      rintro b H3 ⟨F3, ι3, b', S3, x3, s3, e3, l3⟩
      subst e3
      obtain ⟨d3, n3, h3⟩ := x3.stayOff d2 n2 h2
      cases b with
      | false =>
        rw [if_neg Bool.false_ne_true]
        exact ⟨F3, ι3, S3, acc, ws, (x.trans x2).trans x3, s3, d3, n3, h3, (q.mono x2).mono x3, l3⟩
      | true =>
        rw [if_pos rfl]
        refine ⟨F3, ι3, env1, S3, s3, en'.mono x3, (LcL.inner (rel := relV K) l3).imp ?_⟩
        rintro v H4 ⟨F4, ι4, v', S4, x4, s4, q4, l4⟩
        obtain ⟨d4, n4, h4⟩ := x4.stayOff d3 n3 h3
        have qa := ((q.mono x2).mono x3).mono x4
        split at l4
        · next hlen =>
          have hlen := of_decide_eq_true hlen
          refine ⟨ws, h4, by rw [qa.length]; exact Nat.lt_of_lt_of_le hlen (by decide), F4, ι4, S4, acc ++ [v'], ws ++ [v], (((x.trans x2).trans x3).trans x4).offs hD, s4.off d4 n4 h4, d4, n4, upd_same, ?_, l4⟩
          exact VAll.append (qa.at (.off n4 h4)) ⟨q4.at (.off n4 h4), trivial⟩
        · exact l4.elim
    · exact l.elim
  · have hi' : i = xs.length := by omega
    rw [List.drop_eq_nil_of_le (by omega)] at l
    exact .inl ⟨y2 hi', l F ι H ws x s hDi nf hl q⟩
theorem slots_by {t : Tg} {vs : List Nat} (h : (Tg.slots t).all (fun i => vs.contains i) = true) : ∀ i ∈ Tg.slots t, i ∈ vs := fun i hi => by
  have := List.all_eq_true.mp h i hi
  exact List.contains_iff_mem.mp this
theorem se_lc (m : Bool) (hc : X.calm = true) (hN : X.N.Nodup) (hi : SI X E tg it fi) (ok : BlkOk X.N X.env.scope scope own) (hsl : (Tg.slots t).all (fun i => (own.map (·.2)).contains i) = true)
    (hg : ∀ (s : Shared) (H : Hp) (C : Addr) (cl : List (Str × Addr)) (fp : List Addr), PG (X.blk s H scope (compEnvC scope cl C X.env) fp) tg (Tg.tg X.K t))
    (ht : ∀ (s : Shared) (H : Hp) (C : Addr) (cl : List (Str × Addr)) (fp : List Addr), SBs (X.blk s H scope (compEnvC scope cl C X.env) fp) E0 ifs c)
    (he : ∀ (s : Shared) (H : Hp) (C : Addr) (cl : List (Str × Addr)) (fp : List Addr), SE (X.blk s H scope (compEnvC scope cl C X.env) fp) E0 elt f) (hs : ∀ x, foldedSetIterable it X.env x = pure x := by intro _; rfl) :
    SE X E (.ListComp elt [⟨tg, it, ifs, 0⟩] scope pos) (eLc m (own.map (·.2)) fi t c f) :=
  ⟨PE.imp (pe_lc hc hN hi.pi ok hg (fun s H C cl fp => (ht s H C cl fp).pt) (fun s H C cl fp => (he s H C cl fp).pe) hs) fun _ _ _ h => t_lc (slots_by hsl) h⟩
/-- name = [..] on one line -/
theorem ss_setLc (m : Bool) {i : Nat} {y : Str} {py spos : Pos} (hc : X.calm = true) (hN : X.N.Nodup) (hy : X.N[i]? = some y) (hyl : X.env.scope.names.lookup y = some .local)
    (hsw : swapsWith (.ListComp elt [⟨tg, it, ifs, 0⟩] scope pos) (some (.Name y py)) spos.line X.env = pure true) (hi : SI X E tg it fi) (ok : BlkOk X.N X.env.scope scope own) (hsl : (Tg.slots t).all (fun i => (own.map (·.2)).contains i) = true)
    (hg : ∀ (s : Shared) (H : Hp) (C : Addr) (cl : List (Str × Addr)) (fp : List Addr), PG (X.blk s H scope (compEnvC scope cl C X.env) fp) tg (Tg.tg X.K t))
    (ht : ∀ (s : Shared) (H : Hp) (C : Addr) (cl : List (Str × Addr)) (fp : List Addr), SBs (X.blk s H scope (compEnvC scope cl C X.env) fp) E0 ifs c)
    (he : ∀ (s : Shared) (H : Hp) (C : Addr) (cl : List (Str × Addr)) (fp : List Addr), SE (X.blk s H scope (compEnvC scope cl C X.env) fp) E0 elt f) (hs : ∀ x, foldedSetIterable it X.env x = pure x := by intro _; rfl) :
    SS X E (.Assign [.Name y py] (.ListComp elt [⟨tg, it, ifs, 0⟩] scope pos) spos) (sSet i (eLc m (own.map (·.2)) fi t c f)) :=
  ⟨PS.imp (ps_setLc hc hN hy hyl hsw hi.pi ok hg (fun s H C cl fp => (ht s H C cl fp).pt) (fun s H C cl fp => (he s H C cl fp).pe) hs) fun D σ H h => by
    obtain ⟨F, ι, env, S, s, en, l⟩ := h
    refine t_lc (E := E) (m := m) (slots_by hsl) ⟨F, ι, env, S, s, en, (SLands.bind (rel := relV X.K) en l).imp ?_⟩
    rintro w H1 ⟨F1, ι1, v, S1, x1, s1, q1, l1⟩
    exact l1 F1 ι1 H1 _ (.refl _ _ _) s1 ((en.mono x1).set i q1)⟩
end
end Fw
namespace Fw
open PySem PySem.Spec PyProof.Rows L2

/-! ### dicts that are read -/
def keyOf : PyData → Option Key
  | .int i => some (.inl i)
  | .str x => some (.inr x)
  | _ => none
def kvOf : List (PyData × PyData) → Option (List (Key × Val))
  | [] => some []
  | (k, x) :: r => match keyOf k, kvOf r with
    | some j, some l => some ((j, .d x) :: l)
    | _, _ => none
/-- the entries, as they stand -/
def dictOf : Val → Store → Option (List (Key × Val))
  | .d (.dict ds), _ => kvOf ds
  | .d _, _ => none
  | .r i, S => match S[i]? with
    | some (.dct kvs) => some kvs
    | some (.frz (.dict ds)) => kvOf ds
    | _ => none
def getK : List (Key × Val) → Key → Option Val
  | [], _ => none
  | (j, v) :: r, k => match decide (j = k) with
    | true => some v
    | false => getK r k
def hasK (kvs : List (Key × Val)) (k : Key) : Bool := kvs.any fun kv => decide (kv.1 = k)
def putV (kvs : List (Key × Val)) (k : Key) (v : Val) : List (Key × Val) := match hasK kvs k with
  | true => kvs.map fun kv => match decide (kv.1 = k) with
    | true => (kv.1, v)
    | false => kv
  | false => kvs ++ [(k, v)]
section
variable {K : Fg} {F : Fz} {ι : List Addr} {S : Store} {H : Hp} {w : V}
theorem keyOf_ok {x : PyData} {k : Key} (q : Is K F H w x) (h : keyOf x = some k) : w = kV k := by
  cases x <;> cases h <;> cases q <;> rfl
theorem kD_key (k : Key) : keyOf (kD k) = some k := by
  cases k <;> rfl
theorem kvOf_ok : ∀ {ds : List (PyData × PyData)} {kvs : List (Key × Val)} {ws : List (Key × V)}, IsKV K F H ws ds → kvOf ds = some kvs → VKs K F ι H ws kvs
  | _, _, _, .nil, h => by
    cases h
    trivial
  | _, _, _, .cons (k := k) a r, h => by
    unfold kvOf at h
    rw [kD_key] at h
    split at h
    · next j l e1 e2 =>
      cases h
      cases e1
      exact ⟨rfl, a, kvOf_ok r e2⟩
    · cases h
theorem fs_kv {fs : List (Str × V)} {ds : List (PyData × PyData)} {c : Str} (h : kvOf ((.none, .str c) :: ds) = none) : True := trivial
theorem dictOf_ok {v : Val} {kvs : List (Key × Val)} (s : Sim K F ι S H) (q : VIs K F ι H w v) (h : dictOf v S = some kvs) : ∃ a ws, w = .ref a ∧ H a = some (.dK ws) ∧ VKs K F ι H ws kvs := by
  unfold dictOf at h
  split at h
  · next ds _ =>
    cases q with
    | dct f hx ax => exact ⟨_, _, rfl, hx, kvOf_ok ax h⟩
    | obj f hx ax =>
      unfold kvOf at h
      simp [keyOf] at h
    | scr hx ax =>
      unfold kvOf at h
      simp [keyOf] at h
    | exc =>
      unfold kvOf at h
      simp [keyOf] at h
  · cases h
  · next i =>
    obtain ⟨a, ha, rfl⟩ := q
    split at h
    · next kvs' hc =>
      cases h
      obtain ⟨_, ws, h1, h2⟩ := s.cell i a _ ha hc
      exact ⟨a, ws, rfl, h1, h2⟩
    · next ds hc =>
      obtain ⟨_, h2⟩ := s.cell i a _ ha hc
      cases h2 with
      | dct f hx ax => exact ⟨_, _, rfl, hx, kvOf_ok ax h⟩
      | obj f hx ax =>
        unfold kvOf at h
        simp [keyOf] at h
      | scr hx ax =>
        unfold kvOf at h
        simp [keyOf] at h
      | exc =>
        unfold kvOf at h
        simp [keyOf] at h
    · cases h
theorem getK_ok {k : Key} : ∀ {ws : List (Key × V)} {kvs : List (Key × Val)}, VKs K F ι H ws kvs → (∀ v, getK kvs k = some v → ∃ w, valV ws k = some w ∧ VIs K F ι H w v) ∧ (getK kvs k = none → valV ws k = none)
  | [], [], _ => ⟨fun v h => (by cases h), fun _ => rfl⟩
  | (j, w) :: ws, (j', v) :: kvs, ⟨e, q, r⟩ => by
    subst e
    unfold getK
    by_cases hj : j = k
    · rw [decide_eq_true hj, valV_pos (p := (j, w)) hj]
      exact ⟨fun v' h => by
        cases h
        exact ⟨w, rfl, q⟩, fun h => (by cases h)⟩
    · rw [decide_eq_false hj, valV_neg (p := (j, w)) hj]
      exact getK_ok r
  | [], _ :: _, h => h.elim
  | _ :: _, [], h => h.elim
theorem getK_has {k : Key} : ∀ {kvs : List (Key × Val)}, (getK kvs k).isSome = hasK kvs k
  | [] => rfl
  | (j, v) :: r => by
    unfold getK hasK
    rw [List.any_cons]
    by_cases hj : j = k
    · rw [decide_eq_true hj]
      rfl
    · rw [decide_eq_false hj, Bool.false_or]
      exact getK_has
theorem putV_ok {k : Key} {v : Val} {ws : List (Key × V)} {kvs : List (Key × Val)} (h : VKs K F ι H ws kvs) (q : VIs K F ι H w v) : VKs K F ι H (putK ws k w) (putV kvs k v) := by
  have hb : (ws.any fun kv => decide (kv.1 = k)) = hasK kvs k := by
    clear q
    induction ws generalizing kvs with
    | nil =>
      cases kvs with
      | nil => rfl
      | cons _ _ => exact h.elim
    | cons p ws ih =>
      obtain ⟨j, u⟩ := p
      cases kvs with
      | nil => exact h.elim
      | cons p' kvs =>
        obtain ⟨j', u'⟩ := p'
        obtain ⟨e, _, r⟩ := h
        subst e
        show (_ || _) = (_ || _)
        rw [ih r]
        rfl
  unfold putK putV
  rw [hb]
  cases hk : hasK kvs k with
  | true =>
    rw [if_pos rfl]
    clear hb hk
    show VKs K F ι H (ws.map _) (kvs.map _)
    induction ws generalizing kvs with
    | nil =>
      cases kvs with
      | nil => trivial
      | cons _ _ => exact h.elim
    | cons p ws ih =>
      obtain ⟨j, u⟩ := p
      cases kvs with
      | nil => exact h.elim
      | cons p' kvs =>
        obtain ⟨j', u'⟩ := p'
        obtain ⟨e, q1, r⟩ := h
        subst e
        rw [List.map_cons, List.map_cons]
        by_cases hj : j = k
        · rw [if_pos hj]
          simp only [decide_eq_true hj]
          exact ⟨rfl, q, ih r⟩
        · rw [if_neg hj]
          simp only [decide_eq_false hj]
          exact ⟨rfl, q1, ih r⟩
  | false =>
    rw [if_neg Bool.false_ne_true]
    clear hb hk
    show VKs K F ι H (ws ++ [(k, w)]) (kvs ++ [(k, v)])
    induction ws generalizing kvs with
    | nil =>
      cases kvs with
      | nil => exact ⟨rfl, q, trivial⟩
      | cons _ _ => exact h.elim
    | cons p ws ih =>
      obtain ⟨j, u⟩ := p
      cases kvs with
      | nil => exact h.elim
      | cons p' kvs =>
        obtain ⟨j', u'⟩ := p'
        obtain ⟨e, q1, r⟩ := h
        exact ⟨e, q1, ih r⟩
end
/-! ### a[i] of anything; in -/
def oSub : O2 := fun a b S => match dictOf a S with
  | some kvs => match b with
    | .d y => match keyOf y with
      | some k => (getK kvs k).map fun v => (v, S)
      | none => none
    | .r _ => none
  | none => oIx a b S
def oInD (neg : Bool) : O2 := fun a b S => match dictOf b S with
  | some kvs => match a with
    | .d y => match keyOf y with
      | some k => some (.d (.bool (if neg then !(hasK kvs k) else hasK kvs k)), S)
      | none => none
    | .r _ => none
  | none => oIn neg a b S
section
variable {X : Cx} {E : WX} {a b : Expr} {f g : EF} {pos : Pos}
theorem ixr_sub (hu : X.A.units + 64 < cLine) : IxR X (r2 X.K oSub) := fun value slice pins s σ H x y v u Q I rx ry h hs => by
  obtain ⟨F, ι, S, a, b, r, S', sm, ia, ib, e, t⟩ := h
  unfold oSub at e
  split at e
  · next kvs hd =>
    obtain ⟨p, ws, rfl, hp, hw⟩ := dictOf_ok sm ia hd
    split at e
    · next z =>
      split at e
      · next k hk =>
        have ey := keyOf_ok ib hk
        obtain ⟨c, hc, e⟩ := Option.map_eq_some_iff.mp e
        cases e
        obtain ⟨w, h1, h2⟩ := (getK_ok hw).1 _ hc
        have gg : DGet H p y (some w) := by
          rw [ey, ← h1]
          exact .k hp
        cases rx
        exact tail_any (dict_typeIs I gg) PySem.F.slot_dict_getitem.lookup (d_getItem (by omega) I gg ry fun w' s' I' rw' => ⟨w, H, I', rw', t F ι H w (.refl _ _ _) sm h2⟩) hs
      · cases e
    · cases e
  · exact ixr_ix value slice pins s σ H x y v u Q I rx ry ⟨F, ι, S, a, b, r, S', sm, ia, ib, e, t⟩ hs
theorem se_sub (hu : X.A.units + 64 < cLine) (ha : SE X E a f) (hb : SE X E b g) (hs : PlainIx b := by exact fun _ _ => rfl) : SE X E (.Subscript a b pos) (e2 oSub f g) := ⟨PE.imp (pe_ix (ixr_sub hu) ha.pe hb.pe hs) fun _ _ _ h => t_e2 h⟩
theorem or_inD (hu : X.A.units + 65 < cLine) : OpR X (compareOp .In) (r2 X.K (oInD false)) := fun pins s σ H x y v u Q I rx ry h => by
  obtain ⟨F, ι, S, a, b, r, S', sm, ia, ib, e, t⟩ := h
  unfold oInD at e
  split at e
  · next kvs hd =>
    obtain ⟨p, ws, rfl, hp, hw⟩ := dictOf_ok sm ib hd
    split at e
    · next z =>
      split at e
      · next k hk =>
        cases e
        have ex := keyOf_ok ia hk
        cases ry
        have gg : DGet H p x (valV ws k) := by
          rw [ex]
          exact .k hp
        have hb : (valV ws k).isSome = hasK kvs k := by
          rw [← getK_has]
          cases hg : getK kvs k with
          | none =>
            rw [(getK_ok hw).2 hg]
            rfl
          | some c =>
            obtain ⟨w, h1, _⟩ := (getK_ok hw).1 _ hg
            rw [h1]
            rfl
        refine d_in (by omega) I gg rx fun s' I' => ⟨.bl (valV ws k).isSome, H, I', rfl, ?_⟩
        rw [hb]
        exact t F ι H _ (.refl _ _ _) sm (.bl _)
      · cases e
    · cases e
  · exact or_in hu pins s σ H x y v u Q I rx ry ⟨F, ι, S, a, b, r, S', sm, ia, ib, e, t⟩
theorem or_ninD (hu : X.A.units + 65 < cLine) : OpR X (compareOp .NotIn) (r2 X.K (oInD true)) := fun pins s σ H x y v u Q I rx ry h => by
  obtain ⟨F, ι, S, a, b, r, S', sm, ia, ib, e, t⟩ := h
  unfold oInD at e
  split at e
  · next kvs hd =>
    obtain ⟨p, ws, rfl, hp, hw⟩ := dictOf_ok sm ib hd
    split at e
    · next z =>
      split at e
      · next k hk =>
        cases e
        have ex := keyOf_ok ia hk
        cases ry
        have gg : DGet H p x (valV ws k) := by
          rw [ex]
          exact .k hp
        have hb : (valV ws k).isSome = hasK kvs k := by
          rw [← getK_has]
          cases hg : getK kvs k with
          | none =>
            rw [(getK_ok hw).2 hg]
            rfl
          | some c =>
            obtain ⟨w, h1, _⟩ := (getK_ok hw).1 _ hg
            rw [h1]
            rfl
        refine d_notIn (by omega) I gg rx fun s' I' => ⟨.bl (!(valV ws k).isSome), H, I', rfl, ?_⟩
        rw [hb]
        exact t F ι H _ (.refl _ _ _) sm (.bl _)
      · cases e
    · cases e
  · exact or_nin hu pins s σ H x y v u Q I rx ry ⟨F, ι, S, a, b, r, S', sm, ia, ib, e, t⟩
end

/-! ### slices -/
abbrev OF := Env → Store → R (Option Int)
abbrev relO : Rel (Option Int) (Option Int) := fun _ _ _ b a => b = a
def TOf (E : WX) (K : Fg) (f : OF) : TO := fun σ H Q => ∃ F ι env S, Sim K F ι S H ∧ EIs K F ι H σ env ∧ Lands K E σ F ι H relO (f env S) Q
structure SO (X : Cx) (E : WX) (e : Option Expr) (f : OF) : Prop where
  po : PO X e (TOf E X.K f)
theorem PO.imp {X : Cx} {e : Option Expr} {t t' : TO} (h : PO X e t) (i : ∀ σ H Q, t' σ H Q → t σ H Q) : PO X e t' := ⟨fun pins s σ H Q I q => h.run pins s σ H Q I (i σ H Q q)⟩
def oNo : OF := fun _ S => .ok none S
def oAt (f : EF) : OF := fun env S => (f env S).bind fun v S1 => match v with
  | .d (.int i) => .ok (some i) S1
  | _ => .bad
def cutL {α : Type} (xs : List α) (lo hi : Option Int) : List α := (xs.drop (HT.sIx xs.length 0 lo)).take (HT.sIx xs.length xs.length hi - HT.sIx xs.length 0 lo)
def pCut (lo hi : Option Int) : PyData → Option PyData
  | .tuple xs => some (.tuple (cutL xs lo hi))
  | .list xs => some (.list (cutL xs lo hi))
  | .str z => when (decide (z.length ≤ 100000)) (.str (cutS z lo hi))
  | _ => none
def eCut (f : EF) (l h : OF) : EF := fun env S => (f env S).bind fun v S1 => (l env S1).bind fun lo S2 => (h env S2).bind fun hi S3 => match toD v S3 with
  | some (x, S4) => match pCut lo hi x with
    | some y => .ok (.d y) S4
    | none => .bad
  | none => .bad
section
variable {X : Cx} {E : WX} {e : Expr} {lo hi : Option Expr} {f : EF} {l h : OF} {pos p2 : Pos}
theorem so_none : SO X E none oNo := ⟨PO.imp po_none fun σ H Q ⟨F, ι, env, S, s, en, l⟩ => l F ι H none (.refl _ _ _) s rfl⟩
theorem so_some (he : SE X E e f) : SO X E (some e) (oAt f) := ⟨PO.imp (po_some he.pe) fun σ H Q ⟨F, ι, env, S, s, en, l⟩ => by
  refine ⟨F, ι, env, S, s, en, (l.bind (rel := relV X.K)).imp ?_⟩
  rintro w H1 ⟨F1, ι1, a, S1, x1, s1, q1, l1⟩
  split at l1
  · next i =>
    cases q1
    exact ⟨i, rfl, l1 F1 ι1 H1 _ (.refl _ _ _) s1 rfl⟩
  · exact l1.elim⟩
theorem IsAll.drop {K : Fg} {F : Fz} {H : Hp} : ∀ {ws : List V} {xs : List PyData} (n : Nat), IsAll K F H ws xs → IsAll K F H (ws.drop n) (xs.drop n)
  | _, _, 0, h => h
  | _, _, _ + 1, .nil => .nil
  | _, _, n + 1, .cons _ r => IsAll.drop n r
theorem IsAll.take {K : Fg} {F : Fz} {H : Hp} : ∀ {ws : List V} {xs : List PyData} (n : Nat), IsAll K F H ws xs → IsAll K F H (ws.take n) (xs.take n)
  | _, _, 0, _ => .nil
  | _, _, _ + 1, .nil => .nil
  | _, _, n + 1, .cons a r => .cons a (IsAll.take n r)
theorem IsAll.cut {K : Fg} {F : Fz} {H : Hp} {ws : List V} {xs : List PyData} (h : IsAll K F H ws xs) (lo hi : Option Int) : IsAll K F H (cutV ws lo hi) (cutL xs lo hi) := by
  unfold cutV cutL
  rw [h.length]
  exact (h.drop _).take _
theorem cut_whole {α : Type} {xs : List α} {lo hi : Option Int} (h : HT.sIx xs.length 0 lo = 0 ∧ HT.sIx xs.length xs.length hi = xs.length) : cutL xs lo hi = xs := by
  unfold cutL
  rw [h.1, h.2]
  simp
theorem se_cut (he : SE X E e f) (hl : SO X E lo l) (hh : SO X E hi h) : SE X E (.Subscript e (.Slice lo hi none p2) pos) (eCut f l h) := ⟨PE.imp (pe_slice (SlR.or sl_tupA (SlR.or sl_list sl_str)) he.pe hl.po hh.po) fun σ H Q ⟨F, ι, env, S, s, en, l⟩ => by
  refine ⟨F, ι, env, S, s, en, (l.bind (rel := relV X.K)).imp ?_⟩
  rintro w H1 ⟨F1, ι1, v, S1, x1, s1, q1, l1⟩
  refine ⟨F1, ι1, env, S1, s1, en.mono x1, (l1.bind (rel := relO)).imp ?_⟩
  rintro lo' H2 ⟨F2, ι2, lo, S2, x2, s2, q2, l2⟩
  subst q2
  refine ⟨F2, ι2, env, S2, s2, (en.mono x1).mono x2, (l2.bind (rel := relO)).imp ?_⟩
  rintro hi' H3 ⟨F3, ι3, hi, S3, x3, s3, q3, l3⟩
  subst q3
  split at l3
  · next x S4 hd =>
    obtain ⟨F4, x4, s4, i4⟩ := toD_ok s3 ((q1.mono x2).mono x3) hd
    split at l3
    · next y hy =>
      cases x with
      | tuple xs =>
        cases hy
        cases i4 with
        | tup hx ax =>
          refine .inl ⟨_, _, rfl, hx, fun hw => ?_, fun _ p hp => ?_⟩
          · rw [ax.length] at hw
            rw [cut_whole hw] at l3
            exact l3 F4 ι3 H3 _ x4 s4 (.tup hx ax)
          · obtain ⟨y1, y2, y3⟩ := new_tup s4 hp (ax.cut lo' hi')
            exact l3 F4 ι3 _ _ (x4.trans y1) y2 y3
      | list xs =>
        cases hy
        cases i4 with
        | lst hx ax =>
          refine .inr (.inl ⟨_, _, rfl, .of hx.2, fun p hp => ?_⟩)
          obtain ⟨y1, y2, y3⟩ := new_lst s4 hp (ax.cut lo' hi')
          exact l3 _ ι3 _ _ (x4.trans y1) y2 y3
      | str z =>
        obtain ⟨hz, rfl⟩ := when_some hy
        cases i4
        exact .inr (.inr ⟨z, rfl, big_line (of_decide_eq_true hz), l3 F4 ι3 H3 _ x4 s4 (.str _)⟩)
      | _ => cases hy
    · exact l3.elim
  · exact l3.elim⟩
end
end Fw
namespace Fw
open PySem PySem.Spec PyProof.Rows L2

/-! ### stores into lists and dicts -/
def putAt (c : Cell) (y : Val) (v : Val) : Option Cell := match c with
  | .lst xs => match y with
    | .d (.int k) => (ixN xs.length k).map fun j => .lst (xs.set j v)
    | _ => none
  | .dct kvs => match y with
    | .d z => match keyOf z with
      | some k => when (decide (kvs.length < 100000)) (.dct (putV kvs k v))
      | none => none
    | .r _ => none
  | _ => none
/-- o[i] = v -/
def gSubs (fo fi : EF) : GF := fun v env S => (fo env S).bind fun o S1 => (fi env S1).bind fun y S2 => match o with
  | .r i => match S2[i]? with
    | some c => match putAt c y v with
      | some c' => .ok env (S2.set i c')
      | none => .bad
    | none => .bad
  | .d _ => .bad
def set_or {X : Cx} {t t' : TSet} (h : PSet X t) (h' : PSet X t') : PSet X (fun o i v H Q => t o i v H Q ∨ t' o i v H Q) := fun pins s σ H o i v ov iv u Q I ro ri rv q => by
  rcases q with q | q
  · exact h pins s σ H o i v ov iv u Q I ro ri rv q
  · exact h' pins s σ H o i v ov iv u Q I ro ri rv q
section
variable {K : Fg} {F : Fz} {ι : List Addr} {S : Store} {H : Hp} {w : V}
theorem lt_line {n : Nat} (h : decide (n < 100000) = true) : n < sizeLine := Nat.lt_of_lt_of_le (of_decide_eq_true h) (by decide)
theorem Lands.okk {α β : Type} {E : WX} {σ : L2.St} {rel : Rel α β} {m : R α} {a : α} {S' : Store} {Q : β → Hp → Prop} (e : m = .ok a S') (k : ∀ F' ι' H' b, Ext F ι H F' ι' H' → Sim K F' ι' S' H' → rel F' ι' H' b a → Q b H') : Lands K E σ F ι H rel m Q := by
  rw [e]
  exact k
theorem bind_ok {α β : Type} {m : R α} {k : α → Store → R β} {b : β} {S' : Store} (h : m.bind k = .ok b S') : ∃ a S1, m = .ok a S1 ∧ k a S1 = .ok b S' := by
  cases m with
  | ok a S1 => exact ⟨a, S1, rfl, h⟩
  | ex c x S1 => cases h
  | bad => cases h
end
section
variable {X : Cx} {E : WX} {o i : Expr} {f g : EF} {pos : Pos}
theorem sg_sub (hu : X.A.units + 64 < cLine) (ho : SE X E o f) (hi : SE X E i g) (ha : ∀ v, assign (.Subscript o i pos) X.env v = (do
      let ov ← holding [v] (eval o X.env)
      let iv ← holding [v, ov] (eval i X.env)
      standAt pos
      holding [v, ov, iv] (setItem ov iv v)
      release [v, ov, iv] []) := by intro _; rfl) : SG X (.Subscript o i pos) (gSubs f g) :=
  ⟨PG.imp (pg_sub ho.pe hi.pe (set_or set_list (set_dict (by omega))) ha) fun v σ H Q ⟨F, ι, env, S, a, env', S', s, en, q, e, k⟩ => by
    obtain ⟨o', S1, e1, e⟩ := bind_ok e
    obtain ⟨y, S2, e2, e⟩ := bind_ok e
    refine ⟨F, ι, env, S, s, en, Lands.okk e1 fun F1 ι1 H1 w1 x1 s1 q1 => ⟨F1, ι1, env, S1, s1, en.mono x1, Lands.okk e2 fun F2 ι2 H2 w2 x2 s2 q2 => ?_⟩⟩
    have qa := (q.mono x1).mono x2
    split at e
    · next j q1 =>
      obtain ⟨p, hp, rfl⟩ := q1.mono x2
      split at e
      · next c hc =>
        split at e
        · next c' hc' =>
          cases e
          have cc := s2.cell j p c hp hc
          unfold putAt at hc'
          split at hc'
          · next xs =>
            obtain ⟨nf, ws, h1, h2⟩ := cc
            split at hc'
            · next z =>
              cases q2
              obtain ⟨m, hm, rfl⟩ := Option.map_eq_some_iff.mp hc'
              have x3 : Ext F2 ι2 H2 F2 ι2 (upd H2 p (.lst (ws.set m v))) := .mut s2 hp nf (by rw [h1]; simp)
              refine .inl ⟨p, ws, z, m, rfl, rfl, h1, by rw [h2.length]; exact hm, k F2 ι2 _ σ ((x1.trans x2).trans x3) ?_ (((en.mono x1).mono x2).mono x3)⟩
              exact s2.mut hp nf (by simp) (by rw [h1]; simp) ⟨nf, _, upd_same, (h2.set m qa).mono x3⟩
            · cases hc'
          · next kvs =>
            obtain ⟨nf, ws, h1, h2⟩ := cc
            split at hc'
            · next z =>
              split at hc'
              · next k' hk =>
                obtain ⟨hl, rfl⟩ := when_some hc'
                have x3 : Ext F2 ι2 H2 F2 ι2 (upd H2 p (.dK (putK ws k' v))) := .mut s2 hp nf (by rw [h1]; simp)
                refine .inr ⟨p, _, rfl, ?_, k F2 ι2 _ σ ((x1.trans x2).trans x3) ?_ (((en.mono x1).mono x2).mono x3)⟩
                · rw [keyOf_ok q2 hk]
                  exact .k h1 (by rw [vks_length h2]; exact lt_line hl)
                · exact s2.mut hp nf (by simp) (by rw [h1]; simp) ⟨nf, _, upd_same, (putV_ok h2 qa).mono x3⟩
              · cases hc'
            · cases hc'
          · cases hc'
        · cases e
      · cases e
    · cases e⟩
end

/-! ### methods of lists -/
/-- a method that changes the list in its cell: what comes out, the new cell -/
abbrev OM := List Val → List Val → Store → Option (Val × List Val)
def eMth (o : OM) (f : EF) (g : AF) : EF := fun env S => (f env S).bind fun v S1 => match v with
  | .r i => match S1[i]? with
    | some (.lst _) => (g env S1).bind fun vs S2 => match S2[i]? with
      | some (.lst xs) => match o xs vs S2 with
        | some (r, ys) => .ok r (S2.set i (.lst ys))
        | none => .bad
      | _ => .bad
    | _ => .bad
  | .d _ => .bad
def mAppend : OM := fun xs vs _ => match vs with
  | [v] => when (decide (xs.length < 100000)) (.d .none, xs ++ [v])
  | _ => none
/-- the items of a list -/
def listOf : Val → Store → Option (List Val)
  | .d (.list xs), _ => some (xs.map .d)
  | .d _, _ => none
  | .r i, S => match S[i]? with
    | some (.lst vs) => some vs
    | some (.frz (.list xs)) => some (xs.map .d)
    | _ => none
def mExtend : OM := fun xs vs S => match vs with
  | [v] => match listOf v S with
    | some ys => when (decide (xs.length + ys.length ≤ 100000)) (.d .none, xs ++ ys)
    | none => match v with
      | .d (.tuple ys) => when (decide (xs.length + ys.length ≤ 100000)) (.d .none, xs ++ ys.map .d)
      | _ => none
  | _ => none
def mPop : OM := fun xs vs _ => match vs with
  | [] => match xs[xs.length - 1]? with
    | some v => some (v, xs.dropLast)
    | none => none
  | _ => none
/-- a list extended by a tuple -/
theorem list_ext_tup (l : Addr) (items : Array Value) (n : Nat) (b : Addr) (items2 : Array Value) (n2 : Nat) (dd : Option Addr) (sl : Array (Option Value)) (hs0 : ¬(!items.isEmpty && Builtin.List.listTooLong (items.size + items2.size)) = true) (hs1 : items.size ≤ sizeLine) (hs2 : items.size + items2.size ≤ sizeLine + 1) :
    Meets (Builtin.«list.extend» ⟨[.ref l, .ref b], []⟩) (fun _ R s => s.heap.get? l = some { cls := .type "list", dict := none, data := .seq items n, slots := #[] } ∧ s.heap.get? b = some { cls := .type "tuple", dict := dd, data := .seq items2 n2, slots := sl } ∧ R (.ok (.ret Value.none)) { s with heap := s.heap.update l (Obj.mapSeq fun x => x ++ items2), toks := s.toks }) :=
  .of_wp fun prog w A R s h => by
    obtain ⟨hp, g, d, tk, os⟩ := s
    obtain ⟨hl, hb, h⟩ := h
    have f1 := AutoSeq1.idx_int
    have f2 := AutoSeq1.sub_tuple_tuple
    have f3 := AutoSeq1.sub_list_list
    have f4 := AutoSeq1.sub_tuple_list
    have f5 := AutoSeq1.sub_list_tuple
    have hz' : (items ++ items2).size ≤ sizeLine + 1 := by rw [Array.size_append]; exact hs2
    wp_walk using (wpAny_updateSeq hl rfl (hz := hs1) (_hz' := hz')), AutoSeq1.wpAny_loadPart' hl, AutoSeq1.wpAny_loadPart' hb
    exact ⟨_, rfl, h⟩
def rExtendT (K : Fg) : V → List V → Hp → VK → Prop := fun x vs H Q => ∃ l b xs zs, x = .ref l ∧ vs = [.ref b] ∧ H l = some (.lst xs) ∧ SqT K H b zs ∧ xs.length + zs.length ≤ sizeLine ∧ Q .non (upd H l (.lst (xs ++ zs)))
theorem mt_extendT {X : Cx} : MtM X "list.extend" (fun x vs H Q => rExtend x vs H Q ∨ rExtendT X.K x vs H Q) := by
  intro pins s σ H x vs v us Q I rx rv h
  rcases h with h | h
  · exact mt_extend pins s σ H x vs v us Q I rx rv h
  obtain ⟨l, b, xs, zs, rfl, rfl, hH, hB, hz, q⟩ := h
  cases rx
  obtain ⟨u, rfl, ru⟩ := rv.one
  cases ru
  obtain ⟨z, its, n, r, hl, e⟩ := I.lstM hH
  obtain ⟨its2, r2, ⟨⟨cls, dd, data, sl⟩, ho, hc, n2, hd⟩, _⟩ := I.tuple hB
  simp only at hc hd
  subst hc hd
  have hl2 := r2.length
  have hsz : its.toArray.size + its2.toArray.size ≤ sizeLine := by rw [List.size_toArray, List.size_toArray]; omega
  have hlong : ¬ (!its.toArray.isEmpty && Builtin.List.listTooLong (its.toArray.size + its2.toArray.size)) = true := by
    rw [notLongL hsz, Bool.and_false]
    exact Bool.false_ne_true
  refine call_meets F.slot_list_extend ⟨_, e, rfl⟩ F.entry_list_extend (F.args_list_extend_2 _ _)
    (list_ext_tup l its.toArray n b its2.toArray n2 dd sl hlong (by rw [List.size_toArray]; omega) (by omega)) ⟨e, ho, ?_⟩
  refine ⟨.non, _, I.lset (its' := its ++ its2) hH e (by simp) (r.append r2) ?_, rfl, q⟩
  rw [List.length_append]
  omega
section
variable {K : Fg} {F : Fz} {ι : List Addr} {S : Store} {H : Hp} {w : V}
theorem listOf_ok {v : Val} {vs : List Val} (s : Sim K F ι S H) (q : VIs K F ι H w v) (h : listOf v S = some vs) : ∃ a ws, w = .ref a ∧ H a = some (.lst ws) ∧ VAll K F ι H ws vs := by
  unfold listOf at h
  split at h
  · cases h
    cases q with
    | lst hx ax => exact ⟨_, _, rfl, hx.2, .of_all ax⟩
  · cases h
  · next i =>
    obtain ⟨a, ha, rfl⟩ := q
    split at h
    · next vs' hc =>
      cases h
      obtain ⟨_, ws, h1, h2⟩ := s.cell i a _ ha hc
      exact ⟨a, ws, rfl, h1, h2⟩
    · next xs hc =>
      cases h
      obtain ⟨_, h2⟩ := s.cell i a _ ha hc
      cases h2 with
      | lst hx ax => exact ⟨_, _, rfl, hx.2, .of_all ax⟩
    · cases h
/-- what a method's rule is to give -/
def MOk (K : Fg) (o : OM) (r : V → List V → Hp → VK → Prop) : Prop := ∀ {F : Fz} {ι : List Addr} {S : Store} {H : Hp} {p : Addr} {ws us : List V} {xs vs ys : List Val} {z : Val} {Q : VK},
  Sim K F ι S H → H p = some (.lst ws) → VAll K F ι H ws xs → VAll K F ι H us vs → o xs vs S = some (z, ys) →
    (∀ w ws', VIs K F ι H w z → VAll K F ι H ws' ys → Q w (upd H p (.lst ws'))) → r (.ref p) us H Q
theorem mok_append : MOk K mAppend rAppend := fun {F ι S H p ws us xs vs ys z Q} s hp hx hu e k => by
  unfold mAppend at e
  split at e
  · next v =>
    obtain ⟨hl, e⟩ := when_some e
    cases e
    obtain ⟨u, rfl, qu⟩ := vall1 hu
    exact ⟨p, ws, u, rfl, rfl, hp, by rw [hx.length]; exact lt_line hl, k .non _ .non (VAll.append hx ⟨qu, trivial⟩)⟩
  · cases e
theorem mok_extend : MOk K mExtend (fun x vs H Q => rExtend x vs H Q ∨ rExtendT K x vs H Q) := fun {F ι S H p ws us xs vs ys z Q} s hp hx hu e k => by
  unfold mExtend at e
  split at e
  · next v =>
    obtain ⟨u, rfl, qu⟩ := vall1 hu
    split at e
    · next zs hz =>
      obtain ⟨hl, e⟩ := when_some e
      cases e
      obtain ⟨b, us', rfl, hb, hy⟩ := listOf_ok s qu hz
      exact .inl ⟨p, b, ws, us', rfl, rfl, hp, hb, by rw [hx.length, hy.length]; exact big_line (of_decide_eq_true hl), k .non _ .non (VAll.append hx hy)⟩
    · split at e
      · rename_i zs _
        obtain ⟨hl, e⟩ := when_some e
        cases e
        have qu' : Is K F H u (.tuple zs) := qu
        cases qu' with
        | tup hq ha => exact .inr ⟨p, _, ws, _, rfl, rfl, hp, hq, by rw [hx.length, ha.length]; exact big_line (of_decide_eq_true hl), k .non _ .non (VAll.append hx (.of_all ha))⟩
      · cases e
  · cases e
theorem VAll.dropLast : ∀ {ws : List V} {vs : List Val}, VAll K F ι H ws vs → VAll K F ι H ws.dropLast vs.dropLast
  | [], [], _ => trivial
  | [_], [_], _ => trivial
  | _ :: _ :: _, _ :: _ :: _, h => ⟨h.1, VAll.dropLast h.2⟩
  | [_], _ :: _ :: _, h => h.2.elim
  | _ :: _ :: _, [_], h => h.2.elim
  | [], _ :: _, h => h.elim
  | _ :: _, [], h => h.elim
theorem mok_pop : MOk K mPop rPop := fun {F ι S H p ws us xs vs ys z Q} s hp hx hu e k => by
  unfold mPop at e
  split at e
  · split at e
    · next v hv =>
      cases e
      cases us with
      | cons _ _ => exact hu.elim
      | nil =>
        obtain ⟨w, h1, h2⟩ := hx.get hv
        rw [← hx.length] at h1
        exact ⟨p, ws, w, rfl, rfl, hp, h1, k w _ h2 hx.dropLast⟩
    · cases e
  · cases e
theorem t_mth {E : WX} {o : OM} {f : EF} {g : AF} {r : V → List V → Hp → VK → Prop} (ho : MOk K o r) {σ : L2.St} {H : Hp} {Q : VK} (h : TEf E K (eMth o f g) σ H Q) : tBM K "list" r (TEf E K f) (TAf E K g) σ H Q := by
  obtain ⟨F, ι, env, S, s, en, l⟩ := h
  refine ⟨F, ι, env, S, s, en, (l.bind (rel := relV K)).imp ?_⟩
  rintro w H1 ⟨F1, ι1, v, S1, x1, s1, q1, l1⟩
  split at l1
  · next i =>
    obtain ⟨p, hp, rfl⟩ := q1
    split at l1
    · next vs0 hc =>
      obtain ⟨nf, ws, h1, h2⟩ := s1.cell i p _ hp hc
      refine ⟨.inl ⟨rfl, ws, .of h1⟩, F1, ι1, env, S1, s1, en.mono x1, (l1.bind (rel := relA K)).imp ?_⟩
      rintro us H2 ⟨F2, ι2, vs, S2, x2, s2, q2, l2⟩
      have hp2 : ι2[i]? = some p := by
        obtain ⟨m, e, _⟩ := x2.pre
        rw [e, List.getElem?_append_left (List.getElem?_eq_some_iff.mp hp).1]
        exact hp
      split at l2
      · next xs hc2 =>
        obtain ⟨nf2, ws2, h3, h4⟩ := s2.cell i p _ hp2 hc2
        split at l2
        · next z ys hz =>
          refine ho s2 h3 h4 q2 hz fun w ws' hw hws => ?_
          have x3 : Ext F2 ι2 H2 F2 ι2 (upd H2 p (.lst ws')) := .mut s2 hp2 nf2 (by rw [h3]; simp)
          exact l2 F2 ι2 _ w x3 (s2.mut hp2 nf2 (by simp) (by rw [h3]; simp) ⟨nf2, _, upd_same, hws.mono x3⟩) (hw.mono x3)
        · exact l2.elim
      · exact l2.elim
    · exact l1.elim
  · exact l1.elim
end
section
variable {X : Cx} {E : WX} {o e : Expr} {es : List Expr} {f : EF} {g : AF} {apos cpos : Pos} {name : Str} {id : String} {m : OM} {r : V → List V → Hp → VK → Prop}
theorem se_mth (slot : Slot "list" name id) (hty : typeOf (.builtin id) = pure (.type "method_descriptor")) (hm : MtR X id r) (ho : MOk X.K m r) (hf : SE X E o f) (hg : SA X E (e :: es) g)
    (hbase : attributeBase o name X.env (eval o X.env) = eval o X.env := by rfl)
    (hfew : ((backTo cpos (starEach (e :: es) X.env)).all (fun x => !x.1) && (backToKw cpos (keywordEach [] X.env)).all (fun x => x.1.isSome)
      && decide ((e :: es).length + ([] : List Keyword).length + (if ([] : List Keyword).isEmpty then 0 else 1) < 30)) = true := by rfl)
    (hline : (apos.endLine == cpos.line) = true := by rfl) (hs : starEach (e :: es) X.env = (false, eval e X.env) :: starEach es X.env := by rfl) (hplain : (backTo cpos (starEach es X.env)).any (·.1) = false := by rfl) :
    SE X E (.Call (.Attribute o name apos) (e :: es) [] cpos) (eMth m f g) := ⟨PE.imp (pe_bm PySem.F.plainAttrs_list slot hty hm hf.pe hg.pa hbase hfew hline hs hplain) fun _ _ _ h => t_mth ho h⟩
theorem t_mth0 {K : Fg} {o : OM} {f : EF} (ho : MOk K o r) {σ : L2.St} {H : Hp} {Q : VK} (h : TEf E K (eMth o f aNil) σ H Q) : tBM0 K "list" r (TEf E K f) σ H Q := by
  obtain ⟨F, ι, env, S, s, en, l⟩ := h
  refine ⟨F, ι, env, S, s, en, (l.bind (rel := relV K)).imp ?_⟩
  rintro w H1 ⟨F1, ι1, v, S1, x1, s1, q1, l1⟩
  split at l1
  · next i =>
    obtain ⟨p, hp, rfl⟩ := q1
    split at l1
    · next vs0 hc =>
      obtain ⟨nf, ws, h1, h2⟩ := s1.cell i p _ hp hc
      refine ⟨.inl ⟨rfl, ws, .of h1⟩, ?_⟩
      simp only [aNil, Fw.R.bind, hc] at l1
      split at l1
      · next z ys hz =>
        refine ho s1 h1 h2 (us := []) (vs := []) trivial hz fun w ws' hw hws => ?_
        have x3 : Ext F1 ι1 H1 F1 ι1 (upd H1 p (.lst ws')) := .mut s1 hp nf (by rw [h1]; simp)
        exact l1 F1 ι1 _ w x3 (s1.mut hp nf (by simp) (by rw [h1]; simp) ⟨nf, _, upd_same, hws.mono x3⟩) (hw.mono x3)
      · exact l1.elim
    · exact l1.elim
  · exact l1.elim
theorem se_mth0 (slot : Slot "list" name id) (hty : typeOf (.builtin id) = pure (.type "method_descriptor")) (hm : MtR X id r) (ho : MOk X.K m r) (hf : SE X E o f)
    (hbase : attributeBase o name X.env (eval o X.env) = eval o X.env := by rfl) (hline : (apos.endLine == cpos.line) = true := by rfl) :
    SE X E (.Call (.Attribute o name apos) [] [] cpos) (eMth m f aNil) := ⟨PE.imp (pe_bm0 PySem.F.plainAttrs_list slot hty hm hf.pe hbase hline) fun _ _ _ h => t_mth0 ho h⟩
theorem se_append (hf : SE X E o f) (hg : SA X E [e] g) (hbase : attributeBase o "append" X.env (eval o X.env) = eval o X.env := by rfl)
    (hfew : ((backTo cpos (starEach [e] X.env)).all (fun x => !x.1) && (backToKw cpos (keywordEach [] X.env)).all (fun x => x.1.isSome)
      && decide ([e].length + ([] : List Keyword).length + (if ([] : List Keyword).isEmpty then 0 else 1) < 30)) = true := by rfl)
    (hline : (apos.endLine == cpos.line) = true := by rfl) (hs : starEach [e] X.env = [(false, eval e X.env)] := by rfl) : SE X E (.Call (.Attribute o "append" apos) [e] [] cpos) (eMth mAppend f g) :=
  se_mth PySem.F.slot_list_append PySem.F.type_list_append mt_append mok_append hf hg hbase hfew hline hs rfl
theorem se_extend (hf : SE X E o f) (hg : SA X E [e] g) (hbase : attributeBase o "extend" X.env (eval o X.env) = eval o X.env := by rfl)
    (hfew : ((backTo cpos (starEach [e] X.env)).all (fun x => !x.1) && (backToKw cpos (keywordEach [] X.env)).all (fun x => x.1.isSome)
      && decide ([e].length + ([] : List Keyword).length + (if ([] : List Keyword).isEmpty then 0 else 1) < 30)) = true := by rfl)
    (hline : (apos.endLine == cpos.line) = true := by rfl) (hs : starEach [e] X.env = [(false, eval e X.env)] := by rfl) : SE X E (.Call (.Attribute o "extend" apos) [e] [] cpos) (eMth mExtend f g) :=
  se_mth PySem.F.slot_list_extend PySem.F.type_list_extend mt_extendT mok_extend hf hg hbase hfew hline hs rfl
theorem se_pop (hf : SE X E o f) (hbase : attributeBase o "pop" X.env (eval o X.env) = eval o X.env := by rfl) (hline : (apos.endLine == cpos.line) = true := by rfl) : SE X E (.Call (.Attribute o "pop" apos) [] [] cpos) (eMth mPop f aNil) :=
  se_mth0 PySem.F.slot_list_pop PySem.F.type_list_pop mt_pop mok_pop hf hbase hline
end
end Fw
namespace Fw
open PySem PySem.Spec PyProof.Rows L2

/-! ### dicts -/
/-- {} that is to change -/
def eDctM : EF := fun _ S => .ok (.r S.length) (S ++ [.dct []])
section
variable {X : Cx} {E : WX} {o e e2 : Expr} {f g h : EF} {apos cpos pos : Pos}
theorem se_dctM : SE X E (.Dict [] [] pos) eDctM := ⟨PE.imp pe_dnewK fun σ H Q ⟨F, ι, env, S, s, en, l⟩ p hp => by
  have e : Ext F ι H F (ι ++ [p]) (upd H p (.dK [])) := .cell s hp
  exact l F _ _ _ e (s.newCell hp (fun _ => by simp) ⟨s.fresh hp, [], upd_same, trivial⟩) ⟨p, by rw [← s.len, List.getElem?_append_right (Nat.le_refl _)]; simp, rfl⟩⟩
/-- d.get(y, z) -/
def eGet2 (f g h : EF) : EF := fun env S => (f env S).bind fun v S1 => match dictOf v S1 with
  | some _ => (g env S1).bind fun y S2 => (h env S2).bind fun z S3 => match dictOf v S3 with
    | some kvs => match y with
      | .d y => match keyOf y with
        | some k => match getK kvs k with
          | some u => .ok u S3
          | none => .ok z S3
        | none => .bad
      | .r _ => .bad
    | none => .bad
  | none => .bad
def eGet1 (f g : EF) : EF := eGet2 f g (eC .none)
theorem se_get2 (hu : X.A.units + 64 < cLine) (ho : SE X E o f) (he : SE X E e g) (hf : SE X E e2 h) (m : M2 X o "get" apos e e2 cpos := by exact ⟨rfl, rfl, rfl, rfl⟩) : SE X E (.Call (.Attribute o "get" apos) [e, e2] [] cpos) (eGet2 f g h) := ⟨PE.imp (pe_dget2 (by omega) ho.pe he.pe hf.pe m) fun σ H Q ⟨F, ι, env, S, s, en, l⟩ => by
  refine ⟨F, ι, env, S, s, en, (l.bind (rel := relV X.K)).imp ?_⟩
  rintro w H1 ⟨F1, ι1, v, S1, x1, s1, q1, l1⟩
  split at l1
  · next kvs0 hd0 =>
    obtain ⟨p, ws0, rfl, hp0, hw0⟩ := dictOf_ok s1 q1 hd0
    refine ⟨p, rfl, .inl ⟨ws0, .of hp0⟩, F1, ι1, env, S1, s1, en.mono x1, (l1.bind (rel := relV X.K)).imp ?_⟩
    rintro wy H2 ⟨F2, ι2, y, S2, x2, s2, q2, l2⟩
    refine ⟨F2, ι2, env, S2, s2, (en.mono x1).mono x2, (l2.bind (rel := relV X.K)).imp ?_⟩
    rintro wz H3 ⟨F3, ι3, z, S3, x3, s3, q3, l3⟩
    split at l3
    · next kvs hd =>
      obtain ⟨p', ws, e', hp, hw⟩ := dictOf_ok s3 ((q1.mono x2).mono x3) hd
      cases e'
      split at l3
      · next y' =>
        split at l3
        · next k hk =>
          have ey := keyOf_ok q2 hk
          refine ⟨valV ws k, by rw [ey]; exact .k hp, ?_⟩
          split at l3
          · next u hg =>
            obtain ⟨w', h1, h2⟩ := (getK_ok hw).1 _ hg
            rw [h1]
            exact l3 F3 ι3 H3 _ (.refl _ _ _) s3 h2
          · next hg =>
            rw [(getK_ok hw).2 hg]
            exact l3 F3 ι3 H3 _ (.refl _ _ _) s3 q3
        · exact l3.elim
      · exact l3.elim
    · exact l3.elim
  · exact l1.elim⟩
end
/-- the pairs of a list of pairs -/
def pairsOf : List PyData → Option (List (Key × Val))
  | [] => some []
  | .tuple [k, x] :: r => match keyOf k, pairsOf r with
    | some j, some l => some ((j, .d x) :: l)
    | _, _ => none
  | _ :: _ => none
def mergeV (kvs more : List (Key × Val)) : List (Key × Val) := more.foldl (fun acc kv => putV acc kv.1 kv.2) kvs
/-- dict(pairs) -/
def oDict : OA := fun vs S => match vs with
  | [v] => match toD v S with
    | some (.list xs, S1) => match pairsOf xs with
      | some kvs => match pureKV (mergeV [] kvs) with
        | some ds => some (.d (.dict ds), S1)
        | none => none
      | none => none
    | _ => none
  | _ => none
def oDictM : OA := fun vs S => match vs with
  | [v] => match toD v S with
    | some (.list xs, S1) => match pairsOf xs with
      | some kvs => some (.r S1.length, S1 ++ [.dct (mergeV [] kvs)])
      | none => none
    | _ => none
  | _ => none
section
variable {K : Fg} {F : Fz} {ι : List Addr} {S : Store} {H : Hp} {w : V}
theorem pairsOf_ok : ∀ {ws : List V} {xs : List PyData} {kvs : List (Key × Val)}, IsAll K F H ws xs → pairsOf xs = some kvs → ∃ (ps : List Addr) (us : List (Key × V)), ws = ps.map V.ref ∧ Paired (fun p kv => SqT K H p [kV kv.1, kv.2]) ps us ∧ VKs K F ι H us kvs
  | _, _, _, .nil, h => by
    cases h
    exact ⟨[], [], rfl, .nil, trivial⟩
  | _, _, _, .cons (d := d) a r, h => by
    unfold pairsOf at h
    split at h
    · next he => cases he
    · next k x r' he =>
      cases he
      split at h
      · next j l e1 e2 =>
        cases h
        obtain ⟨ps, us, h1, h2, h3⟩ := pairsOf_ok r e2
        cases a with
        | tup hx ax =>
          cases ax with
          | cons a1 ax =>
            cases ax with
            | cons a2 ax =>
              cases ax
              have e := keyOf_ok a1 e1
              subst e
              exact ⟨_ :: ps, (j, _) :: us, by rw [h1]; rfl, .cons hx h2, rfl, a2, h3⟩
      · cases h
    · cases h
theorem mergeV_ok : ∀ {more : List (Key × V)} {moreV : List (Key × Val)} {ws : List (Key × V)} {kvs : List (Key × Val)}, VKs K F ι H more moreV → VKs K F ι H ws kvs → VKs K F ι H (mergeK ws more) (mergeV kvs moreV)
  | [], [], _, _, _, h => h
  | (k, w) :: more, (k', v) :: moreV, ws, kvs, ⟨e, q, r⟩, h => by
    subst e
    exact mergeV_ok (more := more) (moreV := moreV) r (putV_ok h q)
  | [], _ :: _, _, _, h, _ => h.elim
  | _ :: _, [], _, _, h, _ => h.elim
theorem new_dct {ws : List (Key × V)} {ds : List (PyData × PyData)} {p : Addr} (s : Sim K F ι S H) (hp : H p = none) (h : IsKV K F H ws ds) :
    Ext F ι H (F.add p) ι (upd H p (.dK ws)) ∧ Sim K (F.add p) ι S (upd H p (.dK ws)) ∧ Is K (F.add p) (upd H p (.dK ws)) (.ref p) (.dict ds) :=
  ⟨.frozen s hp, .frozen s hp, .dct (.inr rfl) upd_same (h.mono (.frozen (o := .dK ws) s hp))⟩
end
section
variable {X : Cx}
theorem cr_dict (hc : X.calm = true) : CallR X (.type "dict") (rA X.K oDict) := callr_imp (call_dictP hc) fun xs H Q ⟨F, ι, S, vs, v, S', s, q, e, t⟩ => by
  unfold oDict at e
  split at e
  · next v0 =>
    split at e
    · next ys S1 hd =>
      split at e
      · next kvs hk =>
        split at e
        · next ds hds =>
          cases e
          obtain ⟨w, rfl, qw⟩ := vall1 q
          obtain ⟨F1, x1, s1, i1⟩ := toD_ok s qw hd
          cases i1 with
          | lst hx ax =>
            obtain ⟨ps, us, rfl, h2, h3⟩ := pairsOf_ok (ι := ι) ax hk
            refine ⟨_, ps, us, rfl, .of hx.2, h2, fun p hp => ?_⟩
            obtain ⟨y1, y2, y3⟩ := new_dct s1 hp (pureKV_ok hds (mergeV_ok h3 (ws := []) (kvs := []) trivial))
            exact t _ _ _ _ (x1.trans y1) y2 y3
        · cases e
      · cases e
    · cases e
  · cases e
theorem cr_dictM (hc : X.calm = true) : CallR X (.type "dict") (rA X.K oDictM) := callr_imp (call_dictP hc) fun xs H Q ⟨F, ι, S, vs, v, S', s, q, e, t⟩ => by
  unfold oDictM at e
  split at e
  · next v0 =>
    split at e
    · next ys S1 hd =>
      split at e
      · next kvs hk =>
        cases e
        obtain ⟨w, rfl, qw⟩ := vall1 q
        obtain ⟨F1, x1, s1, i1⟩ := toD_ok s qw hd
        cases i1 with
        | lst hx ax =>
          obtain ⟨ps, us, rfl, h2, h3⟩ := pairsOf_ok (ι := ι) ax hk
          refine ⟨_, ps, us, rfl, .of hx.2, h2, fun p hp => ?_⟩
          have h4 := mergeV_ok h3 (ws := []) (kvs := []) trivial
          have e : Ext F1 ι H F1 (ι ++ [p]) (upd H p (.dK (mergeK [] us))) := .cell s1 hp
          exact t _ _ _ _ (x1.trans e) (s1.newCell hp (fun _ => by simp) ⟨s1.fresh hp, _, upd_same, h4.mono e⟩) ⟨p, by rw [← s1.len, List.getElem?_append_right (Nat.le_refl _)]; simp, rfl⟩
      · cases e
    · cases e
  · cases e
/-- list(d), list(xs) -/
def keysV (kvs : List (Key × Val)) : List PyData := kvs.map fun kv => kD kv.1
def oListD (m : Bool) : OA := fun vs S => match vs with
  | [v] => match dictOf v S with
    | some kvs => match m with
      | true => some (.r S.length, S ++ [.lst ((keysV kvs).map .d)])
      | false => some (.d (.list (keysV kvs)), S)
    | none => match m with
      | true => oListM vs S
      | false => oList vs S
  | _ => none
theorem keys_is {K : Fg} {F : Fz} {ι : List Addr} {H : Hp} : ∀ {ws : List (Key × V)} {kvs : List (Key × Val)}, VKs K F ι H ws kvs → IsAll K F H (ws.map fun kv => kV kv.1) (keysV kvs)
  | [], [], _ => .nil
  | (k, w) :: ws, (k', v) :: kvs, ⟨e, _, r⟩ => by
    subst e
    refine .cons ?_ (keys_is r)
    cases k with
    | inl i => exact .int i
    | inr x => exact .str x
  | [], _ :: _, h => h.elim
  | _ :: _, [], h => h.elim
theorem cr_listD (hc : X.calm = true) (m : Bool) : CallR X (.type "list") (rA X.K (oListD m)) := fun pins s σ H xs us Q I rs h => by
  obtain ⟨F, ι, S, vs, v, S', sm, q, e, t⟩ := h
  unfold oListD at e
  split at e
  · next v0 =>
    split at e
    · next kvs hd =>
      obtain ⟨w, rfl, qw⟩ := vall1 q
      obtain ⟨p, ws, rfl, hp, hw⟩ := dictOf_ok sm qw hd
      refine call_list_dK hc pins s σ H _ us Q I rs ⟨p, ws, rfl, hp, fun a ha => ?_⟩
      have ik := keys_is hw
      split at e
      · cases e
        obtain ⟨y1, y2, y3⟩ := new_cell sm ha (VAll.of_all ik)
        exact t _ _ _ _ y1 y2 y3
      · cases e
        obtain ⟨y1, y2, y3⟩ := new_lst sm ha ik
        exact t _ _ _ _ y1 y2 y3
    · split at e
      · exact cr_listM pins s σ H xs us Q I rs ⟨F, ι, S, _, v, S', sm, q, e, t⟩
      · exact cr_list pins s σ H xs us Q I rs ⟨F, ι, S, _, v, S', sm, q, e, t⟩
  · cases e
end
end Fw
namespace Fw
open PySem PySem.W PySem.SeqAt PyProof.Rows

/-! ### x < y where the places behind the first that differs may be of any kinds -/
mutual
/-- the two can be compared up to the first place that differs -/
def cmpb : PyData → PyData → Bool
  | .tuple xs, .tuple ys => cmpbL xs ys
  | .none, .none => true
  | .bool _, .bool _ => true
  | .int _, .int _ => true
  | .str _, .str _ => true
  | .list xs, .list ys => alikeAll xs ys
  | _, _ => false
def cmpbL : List PyData → List PyData → Bool
  | x :: xs, y :: ys => cmpb x y && (!(PyData.eqv x y) || cmpbL xs ys)
  | [], _ => true
  | _ :: _, [] => true
end
/-- neither is a tuple -/
theorem cmpb_alike {x y : PyData} (h : cmpb x y = true) (hx : ∀ xs, x ≠ .tuple xs) : alike x y = true := by
  cases x with
  | tuple xs => exact absurd rfl (hx xs)
  | list xs =>
    cases y with
    | list ys =>
      unfold cmpb at h
      unfold alike
      exact h
    | _ => exact absurd h (by simp [cmpb])
  | _ => cases y <;> first | (simp [alike]; done) | exact absurd h (by simp [cmpb])
theorem cmpb_tup {xs : List PyData} {y : PyData} (h : cmpb (.tuple xs) y = true) : ∃ ys, y = .tuple ys ∧ cmpbL xs ys = true := by
  cases y with
  | tuple ys =>
    unfold cmpb at h
    exact ⟨ys, rfl, h⟩
  | _ => exact absurd h (by simp [cmpb])
theorem cmpbL_cons {x y : PyData} {xs ys : List PyData} (h : cmpbL (x :: xs) (y :: ys) = true) : cmpb x y = true ∧ (PyData.eqv x y = true → cmpbL xs ys = true) := by
  unfold cmpbL at h
  obtain ⟨h1, h2⟩ := Bool.and_eq_true_iff.mp h
  refine ⟨h1, fun e => ?_⟩
  rw [e] at h2
  exact h2
theorem alike_nil {ys : List PyData} : alikeAll [] ys = true := by unfold alikeAll; rfl
theorem alike_nil' {x : PyData} {xs : List PyData} : alikeAll (x :: xs) [] = true := by unfold alikeAll; rfl
mutual
theorem cmp_toks : ∀ (x y : PyData), cmpb x y = true → (PyData.eqv x y = true → keyToks x = keyToks y) ∧ (PyData.eqv x y = false → ∀ l m, PyProof.Rows.lexLt itemOrd (keyToks x ++ l) (keyToks y ++ m) = PyProof.Rows.lexLt itemOrd (keyToks x) (keyToks y))
  | .tuple xs, y, h => by
    obtain ⟨ys, rfl, h2⟩ := cmpb_tup h
    have t := cmp_toksL xs ys h2
    simp only [keyToks, PyData.eqv]
    exact t
  | .none, y, h => toks_eqv _ y (cmpb_alike h fun _ e => by cases e)
  | .bool _, y, h => toks_eqv _ y (cmpb_alike h fun _ e => by cases e)
  | .int _, y, h => toks_eqv _ y (cmpb_alike h fun _ e => by cases e)
  | .str _, y, h => toks_eqv _ y (cmpb_alike h fun _ e => by cases e)
  | .list _, y, h => toks_eqv _ y (cmpb_alike h fun _ e => by cases e)
  | .dict _, y, h => absurd h (by cases y <;> simp [cmpb])
theorem cmp_toksL : ∀ (xs ys : List PyData), cmpbL xs ys = true → (PyData.eqvAll xs ys = true → keyToksAll xs = keyToksAll ys) ∧ (PyData.eqvAll xs ys = false → ∀ l m, PyProof.Rows.lexLt itemOrd (keyToksAll xs ++ l) (keyToksAll ys ++ m) = PyProof.Rows.lexLt itemOrd (keyToksAll xs) (keyToksAll ys))
  | [], ys, _ => toksAll_eqv [] ys alike_nil
  | x :: xs, [], _ => toksAll_eqv (x :: xs) [] alike_nil'
  | x :: xs, y :: ys, h => by
    obtain ⟨h1, h2⟩ := cmpbL_cons h
    obtain ⟨a1, a2⟩ := cmp_toks x y h1
    rw [eqv_all_cons, toks_all_cons, toks_all_cons]
    cases hx : PyData.eqv x y with
    | true =>
      obtain ⟨b1, b2⟩ := cmp_toksL xs ys (h2 hx)
      rw [a1 hx, Bool.true_and]
      refine ⟨fun e => by rw [b1 e], fun e l m => ?_⟩
      simp only [List.cons_append, List.append_assoc]
      rw [lex_self (O := itemOrd), lex_self (O := itemOrd), lex_pre, lex_pre]
      exact b2 e l m
    | false =>
      rw [Bool.false_and]
      refine ⟨fun e => absurd e Bool.false_ne_true, fun _ l m => ?_⟩
      simp only [List.cons_append, List.append_assoc]
      rw [lex_self (O := itemOrd), lex_self (O := itemOrd), a2 hx, a2 hx]
end
theorem cmpLt_yes {x y : PyData} {xs ys : List PyData} (h : cmpb x y = true) (e : PyData.eqv x y = true) : PyProof.Rows.lexLt itemOrd (keyToksAll (x :: xs)) (keyToksAll (y :: ys)) = PyProof.Rows.lexLt itemOrd (keyToksAll xs) (keyToksAll ys) := by
  rw [toks_all_cons, toks_all_cons, (cmp_toks x y h).1 e, lex_self (O := itemOrd), lex_pre]
theorem cmpLt_no {x y : PyData} {xs ys : List PyData} (h : cmpb x y = true) (e : PyData.eqv x y = false) : PyProof.Rows.lexLt itemOrd (keyToksAll (x :: xs)) (keyToksAll (y :: ys)) = dataLt x y := by
  rw [toks_all_cons, toks_all_cons, lex_self (O := itemOrd)]
  exact (cmp_toks x y h).2 e _ _
theorem firstLt_cmp : ∀ (xs ys : List PyData), cmpbL xs ys = true →
    firstLt (pairEq xs ys) (fun j => dataLt (xs.getD j .none) (ys.getD j .none)) (decide (xs.length < ys.length)) (List.range (min xs.length ys.length)) = PyProof.Rows.lexLt itemOrd (keyToksAll xs) (keyToksAll ys)
  | [], ys, _ => firstLt_toks [] ys alike_nil
  | x :: xs, [], _ => firstLt_toks (x :: xs) [] alike_nil'
  | x :: xs, y :: ys, h => by
    obtain ⟨h1, h2⟩ := cmpbL_cons h
    have em : min (x :: xs).length (y :: ys).length = min xs.length ys.length + 1 := by
      rw [List.length_cons, List.length_cons]
      omega
    have ed : decide ((x :: xs).length < (y :: ys).length) = decide (xs.length < ys.length) := by
      rw [List.length_cons, List.length_cons]
      exact decide_eq_decide.mpr (by omega)
    rw [em, ed, List.range_succ_eq_map]
    cases hx : PyData.eqv x y with
    | true =>
      rw [firstLt_yes (show pairEq (x :: xs) (y :: ys) 0 = true from hx), firstLt_map, cmpLt_yes h1 hx, ← firstLt_cmp xs ys (h2 hx)]
      rfl
    | false =>
      rw [firstLt_no (show pairEq (x :: xs) (y :: ys) 0 = false from hx), cmpLt_no h1 hx]
      rfl
/-! one value reads as one datum -/
mutual
theorem cmp_unique {h : Heap} : ∀ (d d' : PyData) (v : Value) (as as' : List Addr), d.canLay0 = true → cmpb d d' = true → Reads h v d as → Reads h v d' as' → d = d'
  | .tuple xs, d', v, as, as', hl, hc, r, r' => by
    obtain ⟨ys, rfl, h2⟩ := cmpb_tup hc
    cases r with
    | tuple h1 h2' h3 h4 =>
      cases r' with
      | tuple k1 k2 k3 k4 =>
        rw [h1] at k1; cases k1
        rw [h3] at k3; cases k3
        rw [cmp_uniqueL xs ys _ _ _ hl h2 h4 k4]
  | .none, d', v, as, as', _, hc, r, r' => alike_unique _ _ v as as' (cmpb_alike hc fun _ e => by cases e) r r'
  | .bool _, d', v, as, as', _, hc, r, r' => alike_unique _ _ v as as' (cmpb_alike hc fun _ e => by cases e) r r'
  | .int _, d', v, as, as', _, hc, r, r' => alike_unique _ _ v as as' (cmpb_alike hc fun _ e => by cases e) r r'
  | .str _, d', v, as, as', _, hc, r, r' => alike_unique _ _ v as as' (cmpb_alike hc fun _ e => by cases e) r r'
  | .list _, d', v, as, as', _, hc, r, r' => alike_unique _ _ v as as' (cmpb_alike hc fun _ e => by cases e) r r'
  | .dict _, d', _, _, _, _, hc, _, _ => absurd hc (by cases d' <;> simp [cmpb])
theorem cmp_uniqueL {h : Heap} : ∀ (xs ys : List PyData) (vs : List Value) (as as' : List Addr), PyData.canLayAll0 xs = true → cmpbL xs ys = true → ReadsAll h vs xs as → ReadsAll h vs ys as' → xs = ys
  | [], _, _, _, _, _, _, r, r' => by cases r; cases r'; rfl
  | x :: xs, [], _, _, _, _, _, r, r' => by cases r'; cases r
  | x :: xs, y :: ys, _, _, _, hl, hc, r, r' => by
    have hl' : x.canLay0 = true ∧ PyData.canLayAll0 xs = true := by simpa [PyData.canLayAll0] using hl
    obtain ⟨c1, c2⟩ := cmpbL_cons hc
    cases r with
    | cons h1 h2 =>
      cases r' with
      | cons k1 k2 =>
        have e := cmp_unique x y _ _ _ hl'.1 c1 h1 k1
        subst e
        rw [cmp_uniqueL xs ys _ _ _ hl'.2 (c2 (SeqAt.eqv_refl x hl'.1)) h2 k2]
end
end Fw
namespace Fw
open PySem PySem.W PySem.SeqAt PyProof.Rows
open AutoSeq1 (wpAny_loadPart')
open MeetsSeq MeetsSeq2 MeetsSeq3 SeqRoads2

/-! ### tuples: only the first place that differs is compared by < -/
theorem tuple_ltFirst (l b : Addr) (items items2 : Array Value) (n n2 : Nat) (dd dd2 : Option Addr) (sl sl2 : Array (Option Value)) (e r : Nat → Bool) :
    Meets (Builtin.«tuple.__lt__» ⟨[.ref l, .ref b], []⟩)
      (fun A R s => s.heap.get? l = some { cls := .type "tuple", dict := dd, data := .seq items n, slots := sl } ∧ s.heap.get? b = some { cls := .type "tuple", dict := dd2, data := .seq items2 n2, slots := sl2 } ∧
        (∀ j (h1 : j < items.size) (h2 : j < items2.size), EqAt A.in1 s items[j] items2[j] (e j)) ∧ (∀ j (h1 : j < items.size) (h2 : j < items2.size), (∀ i, i < j → e i = true) → e j = false → RcLt A.in1 s items[j] items2[j] (r j)) ∧
        R (.ok (.ret (.bool (firstLt e r (decide (items.size < items2.size)) (List.range (min items.size items2.size)))))) s) :=
  .of_wp fun prog w A R s h => by
    obtain ⟨hp, g, d, tk, os⟩ := s
    obtain ⟨hl, hb, he, hr, h⟩ := h
    have f2 := AutoSeq1.sub_tuple_tuple
    have hZ : (items.toList.zip items2.toList).length = min items.size items2.size := by simp
    wp_walk using wpAny_loadPart' hl, wpAny_loadPart' hb, wpAny_forIn_list _ (fun rest b s' => b.1 = none ∧ s' = ⟨hp, g, d, tk, os⟩ ∧ ∃ i, rest = (items.toList.zip items2.toList).drop i ∧ (∀ j, j < i → e j = true) ∧
      R (.ok (.ret (.bool (firstLt e r (decide (items.size < items2.size)) ((List.range (min items.size items2.size)).drop i))))) ⟨hp, g, d, tk, os⟩) _
    case turn =>
      rintro ⟨y, x⟩ rest b s' ⟨hb', rfl, i, hz, hp', hR⟩
      have hlt : i < (items.toList.zip items2.toList).length := by
        rcases Nat.lt_or_ge i (items.toList.zip items2.toList).length with h' | h'
        · exact h'
        · rw [List.drop_of_length_le h'] at hz
          cases hz
      have hm : i < min items.size items2.size := hZ ▸ hlt
      have h1 : i < items.size := Nat.lt_of_lt_of_le hm (Nat.min_le_left _ _)
      have h2 : i < items2.size := Nat.lt_of_lt_of_le hm (Nat.min_le_right _ _)
      rw [List.drop_eq_getElem_cons hlt] at hz
      injection hz with hyx hrest
      have hy : y = items[i] := by
        have := congrArg Prod.fst hyx
        simpa using this
      have hx : x = items2[i] := by
        have := congrArg Prod.snd hyx
        simpa using this
      subst hy hx
      have hd : (List.range (min items.size items2.size)).drop i = i :: (List.range (min items.size items2.size)).drop (i + 1) := by simp [List.drop_eq_getElem_cons, hm]
      rw [hd] at hR
      refine wpAny_bind (he i h1 h2 prog w _ _ ?_)
      cases hy : e i with
      | true =>
        rw [firstLt_yes hy] at hR
        wp_walk
        refine ⟨rfl, rfl, i + 1, hrest, fun j hj => ?_, hR⟩
        by_cases hji : j = i
        · rw [hji]
          exact hy
        · exact hp' j (by omega)
      | false =>
        rw [firstLt_no hy] at hR
        rw [if_pos (show (!false) = true from rfl)]
        refine wpAny_bind (wpAny_rule ?_)
        refine wpAny_bind (hr i h1 h2 hp' hy prog w _ _ ?_)
        wp_walk
        exact ⟨_, rfl, hR⟩
    case fin =>
      rintro ⟨b1, b2⟩ s' ⟨hb', rfl, i, hz, _, hR⟩
      simp only at hb'
      subst hb'
      have hge : min items.size items2.size ≤ i := by
        rcases Nat.lt_or_ge i (items.toList.zip items2.toList).length with h' | h'
        · rw [List.drop_eq_getElem_cons h'] at hz
          cases hz
        · exact hZ ▸ h'
      rw [List.drop_of_length_le (by simpa using hge)] at hR
      wp_walk
      exact ⟨_, rfl, by simpa [Builtin.Tuple.tupleCompareSizes, firstLt] using hR⟩
    case h =>
      exact ⟨rfl, rfl, 0, rfl, fun j hj => absurd hj (Nat.not_lt_zero _), by simpa using h⟩
section
variable {A : Around} {s : Shared}
theorem rcLt_tups {l b : Addr} {items items2 : Array Value} {e r : Nat → Bool} (hl : s.heap.IsTuple l items) (hb : s.heap.IsTuple b items2) (hu : A.units < cLine)
    (he : ∀ j (h1 : j < items.size) (h2 : j < items2.size), EqAt A.in1 s items[j] items2[j] (e j)) (hr : ∀ j (h1 : j < items.size) (h2 : j < items2.size), (∀ i, i < j → e i = true) → e j = false → RcLt A.in1 s items[j] items2[j] (r j)) :
    RcLt A s (.ref l) (.ref b) (firstLt e r (decide (items.size < items2.size)) (List.range (min items.size items2.size))) := fun prog w E Q h => by
  obtain ⟨⟨cls, dd, data, sl⟩, ho, hc, n, hd⟩ := id hl
  obtain ⟨⟨cls2, dd2, data2, sl2⟩, ho2, hc2, n2, hd2⟩ := id hb
  simp only at hc hd hc2 hd2
  subst hc hd hc2 hd2
  exact richCompare_meets_room (op := .Lt) ⟨_, ho, rfl⟩ ⟨_, ho2, rfl⟩ F.slot_tuple_lt F.entry_tuple_lt (F.args_tuple_lt_2 _ _) (tuple_ltFirst l b items items2 n n2 dd dd2 sl sl2 e r)
    ⟨ho, ho2, he, hr, show Value.bool (firstLt e r (decide (items.size < items2.size)) (List.range (min items.size items2.size))) ≠ Value.notImplemented ∧ Q (.bool (firstLt e r (decide (items.size < items2.size)) (List.range (min items.size items2.size)))) s from ⟨(fun x => nomatch x), h⟩⟩ hu
/-- the call of tuple's own __lt__, as sorting makes it -/
theorem call_tup_lt {prog : Program} {w : World} {E : Value → Shared → Prop} {Q : Value → Shared → Prop} {l b : Addr} {items items2 : Array Value} {e r : Nat → Bool} (hl : s.heap.IsTuple l items) (hb : s.heap.IsTuple b items2)
    (he : ∀ j (h1 : j < items.size) (h2 : j < items2.size), EqAt A.in1 s items[j] items2[j] (e j)) (hr : ∀ j (h1 : j < items.size) (h2 : j < items2.size), (∀ i, i < j → e i = true) → e j = false → RcLt A.in1 s items[j] items2[j] (r j))
    (h : Q (.bool (firstLt e r (decide (items.size < items2.size)) (List.range (min items.size items2.size)))) s) : wpAny (model prog w) A (call (.builtin "tuple.__lt__") [.ref l, .ref b]) Q E s := by
  obtain ⟨⟨cls, dd, data, sl⟩, ho, hc, n, hd⟩ := id hl
  obtain ⟨⟨cls2, dd2, data2, sl2⟩, ho2, hc2, n2, hd2⟩ := id hb
  simp only at hc hd hc2 hd2
  subst hc hd hc2 hd2
  exact call_meets F.slot_tuple_lt ⟨_, ho, rfl⟩ F.entry_tuple_lt (F.args_tuple_lt_2 _ _) (tuple_ltFirst l b items items2 n n2 dd dd2 sl sl2 e r) ⟨ho, ho2, he, hr, h⟩
end
/-! ### a < b for values that read as such data -/
theorem cmpb_none {x y : PyData} (h : cmpb x y = true) (e : PyData.eqv x y = false) : x ≠ .none := by
  rintro rfl
  cases y with
  | none => exact absurd e (by simp [PyData.eqv])
  | _ => exact absurd h (by simp [cmpb])
mutual
theorem rcLt_cmp : ∀ (da db : PyData) (A : Around) (s : Shared) (a b : Value) (as bs : List Addr), Reads s.heap a da as → Reads s.heap b db bs → da.canLay0 = true → db.canLay0 = true → cmpb da db = true → da ≠ .none → A.units + min da.depth db.depth < cLine → RcLt A s a b (dataLt da db)
  | .tuple xs, db, A, s, a, b, as, bs, ra, rb, la, lb, h, hn, hu => by
    obtain ⟨ys, rfl, h2⟩ := cmpb_tup h
    cases ra with
    | @tuple l o vs n _ as₁ h1 h2' h3 h4 =>
      cases rb with
      | @tuple l' o' vs' n' _ bs₁ k1 k2 k3 k4 =>
        have n1 : vs.size = xs.length := by simpa using ReadsAll.length _ _ _ h4
        have n2 : vs'.size = ys.length := by simpa using ReadsAll.length _ _ _ k4
        rw [dataLt_tuple, ← firstLt_cmp xs ys h2, ← n1, ← n2]
        refine rcLt_tups ⟨_, h1, h2', _, h3⟩ ⟨_, k1, k2, _, k3⟩ (room_here hu) (fun j j1 j2 => ?_) fun j j1 j2 hp hj => ?_
        · have := eqAt_readsAll xs ys A.in1 s vs.toList vs'.toList _ _ h4 k4 la lb (room_in hu) j (by simpa using j1) (by simpa using j2)
          simpa using this
        · have := rcLt_cmpL xs ys A.in1 s vs.toList vs'.toList _ _ h4 k4 la lb h2 (room_in hu) j (by simpa using j1) (by simpa using j2) hp hj
          simpa using this
  | .none, _, _, _, _, _, _, _, _, _, _, _, _, hn, _ => absurd rfl hn
  | .bool _, db, A, s, a, b, as, bs, ra, rb, la, lb, h, hn, hu => rcLt_alike _ db A s a b as bs ra rb (cmpb_alike h fun _ e => by cases e) hn hu
  | .int _, db, A, s, a, b, as, bs, ra, rb, la, lb, h, hn, hu => rcLt_alike _ db A s a b as bs ra rb (cmpb_alike h fun _ e => by cases e) hn hu
  | .str _, db, A, s, a, b, as, bs, ra, rb, la, lb, h, hn, hu => rcLt_alike _ db A s a b as bs ra rb (cmpb_alike h fun _ e => by cases e) hn hu
  | .list _, db, A, s, a, b, as, bs, ra, rb, la, lb, h, hn, hu => rcLt_alike _ db A s a b as bs ra rb (cmpb_alike h fun _ e => by cases e) hn hu
  | .dict _, db, _, _, _, _, _, _, _, _, _, _, h, _, _ => absurd h (by cases db <;> simp [cmpb])
theorem rcLt_cmpL : ∀ (xs ys : List PyData) (A : Around) (s : Shared) (vs ws : List Value) (as bs : List Addr), ReadsAll s.heap vs xs as → ReadsAll s.heap ws ys bs → PyData.canLayAll0 xs = true → PyData.canLayAll0 ys = true → cmpbL xs ys = true →
    A.units + min (PyData.depthAll xs) (PyData.depthAll ys) < cLine → ∀ j (h1 : j < vs.length) (h2 : j < ws.length), (∀ i, i < j → pairEq xs ys i = true) → pairEq xs ys j = false → RcLt A s vs[j] ws[j] (dataLt (xs.getD j .none) (ys.getD j .none))
  | [], _, _, _, _, _, _, _, ra, _, _, _, _, _, j, h1, _, _, _ => by cases ra; exact absurd h1 (Nat.not_lt_zero _)
  | _ :: _, [], _, _, _, _, _, _, _, rb, _, _, _, _, j, _, h2, _, _ => by cases rb; exact absurd h2 (Nat.not_lt_zero _)
  | x :: xs, y :: ys, A, s, _, _, _, _, ra, rb, la, lb, h, hu, j, h1, h2, hp, hj => by
    have la' : x.canLay0 = true ∧ PyData.canLayAll0 xs = true := by simpa [PyData.canLayAll0] using la
    have lb' : y.canLay0 = true ∧ PyData.canLayAll0 ys = true := by simpa [PyData.canLayAll0] using lb
    obtain ⟨c1, c2⟩ := cmpbL_cons h
    cases ra with
    | cons r rs =>
      cases rb with
      | cons r' rs' =>
        cases j with
        | zero => exact rcLt_cmp x y A s _ _ _ _ r r' la'.1 lb'.1 c1 (cmpb_none c1 hj) (room_head hu)
        | succ j => exact rcLt_cmpL xs ys A s _ _ _ _ rs rs' la'.2 lb'.2 (c2 (hp 0 (Nat.succ_pos _))) (room_tail hu) j (Nat.lt_of_succ_lt_succ h1) (Nat.lt_of_succ_lt_succ h2) (fun i hi => hp (i + 1) (Nat.succ_lt_succ hi)) hj
end
end Fw
namespace Fw
open PySem PySem.W PySem.Calls PySem.SeqAt PyProof.Rows
/-! ### as sorting compares -/
section
variable {prog : Program} {w : World} {A : Around} {E : Value → Shared → Prop} {s : Shared}
theorem oneLt_cmp {f : Bool} {da db : PyData} {a b : Value} {as bs : List Addr} {Q : Bool → Shared → Prop} (ra : Reads s.heap a da as) (rb : Reads s.heap b db bs) (la : da.canLay0 = true) (lb : db.canLay0 = true) (h : cmpb da db = true) (hn : da ≠ .none)
    (hu : A.units + min da.depth db.depth < cLine) (hq : Q (dataLt da db) s) : wpAny (model prog w) A (oneLt' f a b) Q E s := by
  cases f with
  | false =>
    rw [oneLt'_eq]
    simp only [Bool.false_eq_true, if_false]
    exact wpAny_bind (rcLt_cmp da db A s a b as bs ra rb la lb h hn hu prog w E _ (wpAny_truthy_bool hq))
  | true =>
    by_cases ht : ∀ xs, da ≠ .tuple xs
    · exact oneLt_alike (fun _ => ht) ra rb (cmpb_alike h ht) hn hu hq
    · obtain ⟨xs, rfl⟩ : ∃ xs, da = .tuple xs := Classical.byContradiction fun z => ht fun xs e => z ⟨xs, e⟩
      obtain ⟨ys, rfl, h2⟩ := cmpb_tup h
      cases ra with
      | @tuple l o vs n _ as₁ h1 h2' h3 h4 =>
        cases rb with
        | @tuple l' o' vs' n' _ bs₁ k1 k2 k3 k4 =>
          have n1 : vs.size = xs.length := by simpa using ReadsAll.length _ _ _ h4
          have n2 : vs'.size = ys.length := by simpa using ReadsAll.length _ _ _ k4
          rw [dataLt_tuple, ← firstLt_cmp xs ys h2, ← n1, ← n2] at hq
          rw [oneLt'_eq]
          simp only [if_true]
          refine wpAny_bind (wpAny_cRoomFor (room_here hu) ?_)
          refine wpAny_bind (wpAny_callSpecialIfBound?_slot (T := "tuple") ⟨_, h1, h2'⟩ F.slot_tuple_lt (call_tup_lt (e := pairEq xs ys) (r := fun j => dataLt (xs.getD j .none) (ys.getD j .none)) ⟨_, h1, h2', _, h3⟩ ⟨_, k1, k2, _, k3⟩ (fun j j1 j2 => ?_) (fun j j1 j2 hp hj => ?_) ?_))
          · have := eqAt_readsAll xs ys A.in1 s vs.toList vs'.toList _ _ h4 k4 la lb (room_in hu) j (by simpa using j1) (by simpa using j2)
            simpa using this
          · have := rcLt_cmpL xs ys A.in1 s vs.toList vs'.toList _ _ h4 k4 la lb h2 (room_in hu) j (by simpa using j1) (by simpa using j2) hp hj
            simpa using this
          · exact wpAny_truthy_bool hq
theorem katLex_cmp {b fin : Bool} {Q : Bool → Shared → Prop} : ∀ (xs ys : List PyData) (i : Nat) (vs ws : List Value) (as bs : List Addr), ReadsAll s.heap vs xs as → ReadsAll s.heap ws ys bs → PyData.canLayAll0 xs = true → PyData.canLayAll0 ys = true → cmpbL xs ys = true →
    A.units + min (PyData.depthAll xs) (PyData.depthAll ys) < cLine → fin = decide (xs.length < ys.length) → Q (PyProof.Rows.lexLt itemOrd (keyToksAll xs) (keyToksAll ys)) s → KatLex prog w A b fin Q (vs.zip ws) i s
  | [], ys, i, _, ws, _, _, ra, rb, _, _, _, hu, hf, hq => katLex_alike [] ys i _ ws _ _ ra rb alike_nil hu (fun _ _ _ _ _ e => by cases e) hf hq
  | x :: xs, [], i, vs, _, _, _, ra, rb, _, _, _, _, hf, hq => by
    cases rb
    have e : fin = false := by rw [hf]; exact decide_eq_false (Nat.not_lt_zero _)
    subst e
    rw [toks_all_cons] at hq
    simp only [keyToksAll] at hq
    rw [lex_diff (O := itemOrd) (by simp)] at hq
    rw [List.zip_nil_right]
    exact kat_nil (by simpa [itemLt] using hq)
  | x :: xs, y :: ys, i, _, _, _, _, ra, rb, la, lb, h, hu, hf, hq => by
    have la' : x.canLay0 = true ∧ PyData.canLayAll0 xs = true := by simpa [PyData.canLayAll0] using la
    have lb' : y.canLay0 = true ∧ PyData.canLayAll0 ys = true := by simpa [PyData.canLayAll0] using lb
    obtain ⟨h1, h2⟩ := cmpbL_cons h
    have hf' : fin = decide (xs.length < ys.length) := by
      rw [hf]
      simp only [List.length_cons, Nat.add_lt_add_iff_right]
    cases ra with
    | cons r rs =>
      cases rb with
      | cons r' rs' =>
        rw [List.zip_cons_cons]
        refine kat_cons (eqAt_reads x y A s _ _ _ _ r r' la'.1 lb'.1 (room_head hu) prog w _ _ ?_)
        cases hx : PyData.eqv x y with
        | true =>
          rw [cmpLt_yes h1 hx] at hq
          exact kat_yes (katLex_cmp xs ys (i + 1) _ _ _ _ rs rs' la'.2 lb'.2 (h2 hx) (room_tail hu) hf' hq)
        | false =>
          rw [cmpLt_no h1 hx] at hq
          exact kat_no (oneLt_cmp r r' la'.1 lb'.1 h1 (cmpb_none h1 hx) (room_head hu) hq)
end
/-- every two of them can be compared -/
def AllCmp (ds : List PyData) : Prop := (∀ d ∈ ds, d.canLay0 = true) ∧ ∀ d, d ∈ ds → ∀ d', d' ∈ ds → cmpb d d' = true
theorem kindC_some {h : Heap} {ds : List PyData} (hal : AllCmp ds) {v : Value} {d : PyData} {as : List Addr} (hd : d ∈ ds) (r : Reads h v d as) : (dataKind h ds).keyOf v = some (keyToks d) := by
  have q : ∃ d, d ∈ ds ∧ ∃ as, Reads h v d as := ⟨d, hd, as, r⟩
  have e : (dataKind h ds).keyOf v = some (keyToks q.choose) := by
    show (open Classical in if q : ∃ d, d ∈ ds ∧ ∃ as, Reads h v d as then some (keyToks q.choose) else none) = _
    rw [dif_pos q]
  obtain ⟨h1, as', h2⟩ := q.choose_spec
  rw [e, cmp_unique _ _ _ _ _ (hal.1 _ h1) (hal.2 _ h1 _ hd) h2 r]
theorem cmpb_type {x y : PyData} (h : cmpb x y = true) : dataType x = dataType y := by
  cases x <;> cases y <;> first | rfl | exact absurd h (by simp [cmpb])
/-- all are tuples with an item at least; or all are tuples, the first one empty; or none is a tuple or None -/
def SortableC (ds : List PyData) : Prop := (∀ d, d ∈ ds → ∃ x r, d = .tuple (x :: r)) ∨ ((∀ d, d ∈ ds → ∃ r, d = .tuple r) ∧ ∃ d, d ∈ ds ∧ d = .tuple []) ∨ ∀ d, d ∈ ds → d ≠ .none ∧ ∀ xs, d ≠ .tuple xs
/-! ### tuples of which some are empty -/
def Tups0 (h : Heap) : List Value → List (Option Value) → Prop
  | [], [] => True
  | v :: vs, f :: fs => (∃ a o xs n, v = .ref a ∧ h.get? a = some o ∧ o.cls = .type "tuple" ∧ o.data = .seq xs n ∧ xs[0]? = f) ∧ Tups0 h vs fs
  | _, _ => False
section
variable {M : Model} {A : Around} {E : Value → Shared → Prop} {s : Shared}
theorem firsts_go : ∀ (vs : List Value) (fs : List (Option Value)) {Q : List (Option Value) → Shared → Prop}, Tups0 s.heap vs fs → Q fs s → wpAny M A (vs.mapM firstOfTuple') Q E s
  | [], [], _, _, h => by rw [List.mapM_nil]; exact wpAny_pure h
  | [], _ :: _, _, t, _ => t.elim
  | _ :: _, [], _, t, _ => t.elim
  | v :: vs, f :: fs, Q, t, h => by
    obtain ⟨⟨a, o, xs, n, rfl, ho, hc, hd, hf⟩, t⟩ := t
    rw [List.mapM_cons]
    refine wpAny_bind ?_
    rw [kas_first_eq]
    refine wpAny_bind (Looks.here (show Looks M s.heap (typeOf (.ref a)) o.cls from (Looks.ld ho).andThen .now) ?_)
    rw [hc, if_neg (by first | decide | simp)]
    refine wpAny_bind (listItems_at ho hd (wpAny_pure ?_))
    rw [hf]
    exact wpAny_bind (firsts_go vs fs (Q := fun bs s' => wpAny M A (pure (f :: bs)) Q E s') t (wpAny_pure h))
def kind0 : List (Option Value) → SortKind
  | some _ :: _ => general'
  | _ => oneType'
theorem tups0_look : ∀ {vs : List Value} {fs : List (Option Value)}, Tups0 s.heap vs fs → ∀ v ∈ vs, Looks M s.heap (typeOf v) (.type "tuple")
  | [], _, _, v, hv => by cases hv
  | v :: vs, [], t, _, _ => t.elim
  | v :: vs, f :: fs, t, u, hu => by
    obtain ⟨⟨a, o, xs, n, rfl, ho, hc, hd, hf⟩, t⟩ := t
    rcases List.mem_cons.mp hu with rfl | hu
    · rw [← hc]
      exact (Looks.ld ho).andThen .now
    · exact tups0_look t u hu
theorem kind0_ok {vs : List Value} {fs : List (Option Value)} {Q : SortKind → Shared → Prop} (t : Tups0 s.heap vs fs) (hn : none ∈ fs) (h : Q (kind0 fs) s) : wpAny M A (keyKind' vs.toArray) Q E s := by
  rw [kat_kind_eq, List.mapM_toArray, map_eq_pure_bind]
  refine wpAny_bind (wpAny_bind (firsts_go vs fs t (wpAny_pure ?_)))
  have hall : (fs.toArray.all fun x => x.isSome) = false := by
    rw [List.all_toArray]
    cases e : fs.all fun x => x.isSome with
    | false => rfl
    | true =>
      have := List.all_eq_true.mp e _ hn
      cases this
  rw [if_neg (by rw [hall]; simp)]
  match fs, vs, t, hn, h with
  | some f :: fs, vs, t, hn, h =>
    rw [if_pos (by simp)]
    exact wpAny_pure h
  | none :: fs, [], t, _, _ => exact t.elim
  | none :: fs, v :: vs, t, hn, h =>
    rw [if_neg (by simp)]
    rw [oneTypeOnly'_eq, List.mapM_toArray, map_eq_pure_bind]
    refine wpAny_bind (wpAny_bind (wpAny_bind (kas_mapM (r := Value.type "tuple") _ (fun v hv Q' hq => (tups0_look t v hv).here hq) (wpAny_pure ?_))))
    have hall : ((List.map (fun _ => Value.type "tuple") (v :: vs)).toArray.all fun x => x == Value.type "tuple") = true := by
      simp only [List.all_toArray, List.all_map, List.all_eq_true]
      intro _ _
      exact beq_self_eq_true _
    have h0 : (List.map (fun _ => Value.type "tuple") (v :: vs)).toArray[0]? = some (Value.type "tuple") := by simp
    rw [h0]
    simp only [hall, if_true]
    exact wpAny_pure (wpAny_pure h)
end
theorem each_tups0 {h : Heap} : ∀ {vs : List Value} {ds : List PyData}, EachIs (fun v d => ∃ as, Reads h v d as) vs ds → (∀ d, d ∈ ds → ∃ r, d = .tuple r) → ∃ fs, Tups0 h vs fs ∧ ((∃ d, d ∈ ds ∧ d = .tuple []) → none ∈ fs)
  | _, _, .nil, _ => ⟨[], trivial, fun ⟨d, hd, _⟩ => by cases hd⟩
  | _, _, .cons (b := d) ⟨as, r⟩ t, ht => by
    obtain ⟨fs, h1, h2⟩ := each_tups0 t fun d hd => ht d (List.mem_cons_of_mem _ hd)
    obtain ⟨xs, rfl⟩ := ht d (List.mem_cons_self ..)
    cases r with
    | @tuple a o vs' n _ _ ho hc hd hr =>
      refine ⟨vs'[0]? :: fs, ⟨⟨a, o, vs', n, rfl, ho, hc, hd, rfl⟩, h1⟩, fun ⟨d, hd, e⟩ => ?_⟩
      rcases List.mem_cons.mp hd with h | h
      · rw [e] at h
        cases h
        have : vs'.toList = [] := by
          cases q : vs'.toList with
          | nil => rfl
          | cons f fr =>
            rw [q] at hr
            cases hr
        have e0 : vs'[0]? = none := by rw [← Array.getElem?_toList, this]; rfl
        rw [e0]
        exact List.mem_cons_self
      · exact List.mem_cons_of_mem _ (h2 ⟨d, h, e⟩)
section
variable {prog : Program} {w : World} {A : Around} {s : Shared}
/-- values that read as such data can be sorted -/
theorem SortsAt.cmp {vs : List Value} {ds : List PyData} (e : EachIs (fun v d => ∃ as, Reads s.heap v d as) vs ds) (hal : AllCmp ds) (hk : SortableC ds) (hu : ∀ d, d ∈ ds → A.units + d.depth < cLine) : SortsAt prog w A s (dataKind s.heap ds) vs := by
  have room : ∀ {d d' : PyData}, d ∈ ds → A.units + min d.depth d'.depth < cLine := fun {d d'} hd => Nat.lt_of_le_of_lt (Nat.add_le_add_left (Nat.min_le_left _ _) _) (hu d hd)
  have both : ∀ (kd : SortKind) (f : Bool), (∀ x y, keyLt' kd x y = oneLt' f x y) → (∀ d ∈ ds, d ≠ .none) → H.LtAt prog w A s (dataKind s.heap ds) kd := fun kd f hf hn => by
    intro E x y a b Q ha hb hq
    obtain ⟨d, as, hd, ra, rfl⟩ := dataKind_inv ha
    obtain ⟨d', as', hd', rb, rfl⟩ := dataKind_inv hb
    rw [hf]
    exact oneLt_cmp ra rb (hal.1 d hd) (hal.1 d' hd') (hal.2 d hd d' hd') (hn d hd) (room hd) hq
  refine ⟨fun v hv => ?_, ?_⟩
  · obtain ⟨d, hd, as, r⟩ := e.left v hv
    exact ⟨_, kindC_some hal hd r⟩
  rcases hk with ht | ⟨ht, hz⟩ | hn
  · cases ds with
    | nil =>
      cases e
      exact ⟨general', fun E x y a b Q ha _ _ => (by
        obtain ⟨d, _, hd, _⟩ := dataKind_inv ha
        exact absurd hd (by simp)), fun h2 => absurd h2 (by simp)⟩
    | cons d₀ ds₀ =>
      obtain ⟨x₀, r₀, e₀⟩ := ht d₀ (List.mem_cons_self ..)
      have hfirst : ∀ x r, PyData.tuple (x :: r) ∈ d₀ :: ds₀ → dataType x = dataType x₀ := by
        intro x r hm
        have q := hal.2 _ hm d₀ (List.mem_cons_self ..)
        rw [e₀] at q
        obtain ⟨ys, ey, q2⟩ := cmpb_tup q
        cases ey
        exact cmpb_type (cmpbL_cons q2).1
      refine ⟨tuples' (dataType x₀ != Value.type "tuple"), ?_, fun h2 E Q hq => ?_⟩
      · intro E x y a b Q ha hb hq
        obtain ⟨d, as, hd, ra, rfl⟩ := dataKind_inv ha
        obtain ⟨d', as', hd', rb, rfl⟩ := dataKind_inv hb
        have hdd := hal.2 d hd d' hd'
        have hroom := room (d' := d') hd
        have la := hal.1 d hd
        have lb := hal.1 d' hd'
        obtain ⟨x1, r1, rfl⟩ := ht d hd
        obtain ⟨x2, r2, rfl⟩ := ht d' hd'
        obtain ⟨ys, ey, hc⟩ := cmpb_tup hdd
        cases ey
        have hq' : Q (dataLt (.tuple (x1 :: r1)) (.tuple (x2 :: r2))) s := hq
        rw [dataLt_tuple] at hq'
        cases ra with
        | @tuple l o xs n _ _ h1 h2 h3 h4 =>
          cases rb with
          | @tuple l' o' xs' n' _ _ k1 k2 k3 k4 =>
            have n1 : xs.size = (x1 :: r1).length := by simpa using SeqAt.ReadsAll.length _ _ _ h4
            have n2 : xs'.size = (x2 :: r2).length := by simpa using SeqAt.ReadsAll.length _ _ _ k4
            exact kat_lt h1 h3 k1 k3 (katLex_cmp (x1 :: r1) (x2 :: r2) 0 _ _ _ _ h4 k4 la lb hc (by have q := SeqAt.room_in hroom; omega) (by rw [n1, n2]) hq')
      · obtain ⟨fs, t1, t2, t3⟩ := each_katTups e ht
        refine kat_kind (T := dataType x₀) t1 (by omega) (fun f hf => ?_) (beq_self_eq_true _) hq
        obtain ⟨x, r, as, m1, m2⟩ := t3 f hf
        rw [← hfirst x r m1]
        exact looks_reads m2
  · obtain ⟨fs, t1, t2⟩ := each_tups0 e ht
    refine ⟨kind0 fs, ?_, fun h2 E Q hq => kind0_ok t1 (t2 hz) hq⟩
    have hnn : ∀ d ∈ ds, d ≠ .none := fun d hd e => by
      obtain ⟨r, h⟩ := ht d hd
      rw [e] at h
      cases h
    match fs with
    | some _ :: _ => exact both general' false (fun _ _ => rfl) hnn
    | none :: _ => exact both oneType' true (fun _ _ => rfl) hnn
    | [] => exact both oneType' true (fun _ _ => rfl) hnn
  · refine ⟨oneType', both oneType' true (fun _ _ => rfl) fun d hd => (hn d hd).1, fun h2 E Q hq => ?_⟩
    cases ds with
    | nil =>
      cases e
      exact absurd h2 (by simp)
    | cons d₀ ds₀ =>
      refine kas_kind (T := dataType d₀) h2 (fun v hv => ?_) (dataType_other (hn d₀ (List.mem_cons_self ..)).2) (beq_self_eq_true _) hq
      obtain ⟨d, hd, as, r⟩ := e.left v hv
      rw [← cmpb_type (hal.2 _ hd _ (List.mem_cons_self ..))]
      exact looks_reads r
end
section
variable {prog : Program} {w : World} {A : Around} {E : Value → Shared → Prop} {s : Shared} {β : Type} {vs : List Value} {bs : List β} {enc : β → PyData} {R : Value → β → Prop}
theorem sortValsC {h : Heap} (e : EachIs R vs bs) (er : EachIs (fun v b => ∃ as, Reads h v (enc b) as) vs bs) (hal : AllCmp (bs.map enc)) : EachIs R (sortVals (dataKind h (bs.map enc)) false vs vs) (bs.mergeSort (dataLe false enc)) := by
  refine sortVals_each (κ := dataKind h (bs.map enc)) (fun b => keyToks (enc b)) e ?_
  exact (each_mem er).mono fun v b ⟨⟨as, r⟩, hb⟩ => kindC_some hal (List.mem_map.mpr ⟨b, hb, rfl⟩) r
/-- sorted(xs) -/
theorem sortedC {l : Addr} {Q : Value → Shared → Prop} (hl : s.heap.IsList l vs.toArray) (e : EachIs R vs bs) (er : EachIs (fun v b => ∃ as, Reads s.heap v (enc b) as) vs bs) (hal : AllCmp (bs.map enc)) (hk : SortableC (bs.map enc)) (hL : bs.length ≤ sizeLine)
    (hu : ∀ b, b ∈ bs → A.units + 2 + (enc b).depth < cLine) (h : ∀ out, out.length = bs.length → EachIs R out (bs.mergeSort (dataLe false enc)) → Q (.ref (s.heap.objs.size + 1)) { s with heap := sortedAll s.heap vs (List.toArray out) }) :
    wpAny (model prog w) A (call (.builtin "sorted") [.ref l]) Q E s := by
  have er' : EachIs (fun v b => ∃ as, Reads (sortingHeap (copyHeap s.heap vs) (s.heap.objs.size + 1) vs) v (enc b) as) vs bs := er.mono fun _ _ ⟨as, r⟩ => ⟨as, PyProof.Rows.Reads.keeps (fun _ _ => sorting_copy_old) r⟩
  refine sorted_vals hl (SortsAt.cmp (s := { s with heap := sortingHeap (copyHeap s.heap vs) (s.heap.objs.size + 1) vs }) (each_map (R := fun v d => ∃ as, Reads (sortingHeap (copyHeap s.heap vs) (s.heap.objs.size + 1) vs) v d as) enc er') hal hk fun d hd => ?_) (by rw [e.length]; exact hL) (h _ (by rw [sortVals_length false rfl]; exact e.length) (sortValsC e er' hal))
  obtain ⟨b, hb, rfl⟩ := List.mem_map.mp hd
  exact hu b hb
end
end Fw
namespace Fw
open PySem PySem.Spec PySem.W PyProof.Rows L2

/-! ### sorted -/
def sortL (xs : List PyData) : List PyData := xs.mergeSort (dataLe false id)
def cmpBs (xs : List PyData) : Bool := xs.all fun x => xs.all fun y => cmpb x y
def isTup : PyData → Bool
  | .tuple _ => true
  | _ => false
def isTup0 : PyData → Bool
  | .tuple [] => true
  | _ => false
def isTupS : PyData → Bool
  | .tuple (_ :: _) => true
  | _ => false
def notTup : PyData → Bool
  | .tuple _ => false
  | .none => false
  | _ => true
def sortable (xs : List PyData) : Bool := cmpBs xs && (((xs.all isTupS || xs.all notTup) || (xs.all isTup && xs.any isTup0)) && (decide (xs.length ≤ 100000) && xs.all fun x => x.canLay0 && decide (x.depth ≤ 60)))
def isStrD : PyData → Bool
  | .str _ => true
  | _ => false
def oSorted (m : Bool) : OA := fun vs S => match vs with
  | [v] => match dictOf v S with
    | some kvs => match (keysV kvs).all isStrD && decide (kvs.length < 64) with
      | true => match m with
        | true => some (.r S.length, S ++ [.lst ((sortL (keysV kvs)).map .d)])
        | false => some (.d (.list (sortL (keysV kvs))), S)
      | false => none
    | none => match listOf v S with
      | some ws => match pureAll ws with
        | some xs => match sortable xs with
          | true => match m with
            | true => some (.r S.length, S ++ [.lst ((sortL xs).map .d)])
            | false => some (.d (.list (sortL xs)), S)
          | false => none
        | none => none
      | none => none
  | _ => none
theorem sortable_ok {xs : List PyData} (h : sortable xs = true) : AllCmp xs ∧ SortableC xs ∧ xs.length ≤ sizeLine ∧ ∀ x ∈ xs, x.canLay0 = true ∧ x.depth ≤ 60 := by
  obtain ⟨h1, h2⟩ := Bool.and_eq_true_iff.mp h
  obtain ⟨h2, h3⟩ := Bool.and_eq_true_iff.mp h2
  obtain ⟨h3, h4⟩ := Bool.and_eq_true_iff.mp h3
  have hl : ∀ x ∈ xs, x.canLay0 = true ∧ x.depth ≤ 60 := fun x hx => by
    obtain ⟨h5, h6⟩ := Bool.and_eq_true_iff.mp (List.all_eq_true.mp h4 x hx)
    exact ⟨h5, of_decide_eq_true h6⟩
  refine ⟨⟨fun d hd => (hl d hd).1, fun d hd d' hd' => List.all_eq_true.mp (List.all_eq_true.mp h1 d hd) d' hd'⟩, ?_, big_line (of_decide_eq_true h3), hl⟩
  rcases Bool.or_eq_true_iff.mp h2 with h2 | h2
  · rcases Bool.or_eq_true_iff.mp h2 with h2 | h2
    · refine .inl fun d hd => ?_
      have h5 := List.all_eq_true.mp h2 d hd
      cases d with
      | tuple xs =>
        cases xs with
        | nil => cases h5
        | cons x r => exact ⟨x, r, rfl⟩
      | _ => cases h5
    · refine .inr (.inr fun d hd => ?_)
      have h5 := List.all_eq_true.mp h2 d hd
      cases d with
      | tuple xs => cases h5
      | none => cases h5
      | _ => exact ⟨fun e => (by cases e), fun _ e => (by cases e)⟩
  · obtain ⟨h2, h5⟩ := Bool.and_eq_true_iff.mp h2
    refine .inr (.inl ⟨fun d hd => ?_, ?_⟩)
    · have h6 := List.all_eq_true.mp h2 d hd
      cases d with
      | tuple r => exact ⟨r, rfl⟩
      | _ => cases h6
    · obtain ⟨d, hd, h6⟩ := List.any_eq_true.mp h5
      refine ⟨d, hd, ?_⟩
      cases d with
      | tuple r =>
        cases r with
        | nil => rfl
        | cons x r => cases h6
      | _ => cases h6
theorem sortL_str (ks : List Str) : sortL (ks.map .str) = (ks.mergeSort fun a b => decide (a.cps.toList ≤ b.cps.toList)).map .str := by
  unfold sortL
  rw [← dataLe_str (fun k => k)]
  exact (List.map_mergeSort (f := PyData.str) (r := dataLe false fun b => PyData.str b) fun a _ b _ => rfl).symm
/-- a list of data, sorted: its values and its data together -/
def rSortedD (K : Fg) : List V → Hp → VK → Prop := fun vs H Q => ∃ (a : Addr) (bs : List (V × PyData)), vs = [V.ref a] ∧ SqL K H a (bs.map (·.1)) ∧ (∀ b ∈ bs, Dp K H b.1 b.2 ∧ b.2.depth ≤ 60) ∧ AllCmp (bs.map (·.2)) ∧ SortableC (bs.map (·.2)) ∧ bs.length ≤ sizeLine ∧
  ∀ p, H p = none → Q (.ref p) (upd H p (.lst ((bs.mergeSort (dataLe false (·.2))).map (·.1))))
section
variable {X : Cx}
theorem each_vals {R : Value → V × PyData → Prop} (hR : ∀ v b, RelV b.1 v → R v b) : ∀ {bs : List (V × PyData)} {us : List Value}, Vals (bs.map (·.1)) us → EachIs R us bs
  | [], _, .nil => .nil
  | b :: bs, _, .cons h r => .cons (hR _ b h) (each_vals hR r)
theorem vals_each : ∀ {bs : List (V × PyData)} {us : List Value}, EachIs (fun v b => RelV b.1 v) us bs → Vals (bs.map (·.1)) us
  | _, _, .nil => .nil
  | _, _, .cons h r => .cons h (vals_each r)
theorem each_reads {pins : List (Addr × Obj)} {σ : L2.St} {H : Hp} {s : Shared} (I : Inv X pins σ H s) : ∀ {bs : List (V × PyData)} {us : List Value}, (∀ b ∈ bs, Dp X.K H b.1 b.2) → Vals (bs.map (·.1)) us → EachIs (fun v b => ∃ as, Reads s.heap v b.2 as) us bs
  | [], _, _, .nil => .nil
  | b :: bs, _, hd, .cons h r => .cons (Dp.reads I b.2 b.1 _ (hd b List.mem_cons_self) h) (each_reads I (fun b hb => hd b (List.mem_cons_of_mem _ hb)) r)
theorem cr_sortedD (hu : X.A.units + 64 < cLine) : CallR X (.builtin "sorted") (rSortedD X.K) := by
  intro pins s σ H vs us Q I r h
  obtain ⟨a, bs, rfl, hs, hd, hal, hso, hz, q⟩ := h
  obtain ⟨its, rv, hl, _⟩ := I.list hs
  rw [Vals.ref1 r]
  refine sortedC (enc := fun b : V × PyData => b.2) (R := fun v b => RelV b.1 v) hl.isList (each_vals (fun _ _ h => h) rv) (each_reads I (fun b hb => (hd b hb).1) rv) hal hso hz (fun b hb => by have := (hd b hb).2; omega) fun out h1 h2 => ?_
  obtain ⟨ep, he'⟩ := PyProof.Rows.sortedAll_at s.heap its out.toArray
  have hlen : ((bs.mergeSort (dataLe false fun b : V × PyData => b.2)).map (·.1)).length ≤ sizeLine := by
    rw [List.length_map, List.length_mergeSort]
    exact hz
  exact ⟨.ref _, upd H (s.heap.objs.size + 1) (.lst ((bs.mergeSort (dataLe false (·.2))).map (·.1))), I.laid (t' := s.toks) (fun _ _ => PyProof.Rows.sortedAll_old) (Nat.le_succ _) ⟨hlen, out, ep, vals_each h2, he'⟩, rfl, q _ (I.hok.fresh (Nat.le_succ _))⟩
end
/-- values and their data as pairs -/
theorem IsAll.zip {K : Fg} {F : Fz} {H : Hp} : ∀ {ws : List V} {xs : List PyData}, IsAll K F H ws xs → (ws.zip xs).map (·.1) = ws ∧ (ws.zip xs).map (·.2) = xs ∧ ∀ b ∈ ws.zip xs, Is K F H b.1 b.2
  | _, _, .nil => ⟨rfl, rfl, fun b hb => by cases hb⟩
  | w :: ws, x :: xs, .cons a r => by
    obtain ⟨h1, h2, h3⟩ := IsAll.zip r
    refine ⟨by rw [List.zip_cons_cons, List.map_cons, h1], by rw [List.zip_cons_cons, List.map_cons, h2], fun b hb => ?_⟩
    rcases List.mem_cons.mp (List.zip_cons_cons ▸ hb) with h | h
    · rw [h]
      exact a
    · exact h3 b h
theorem IsAll.ofPairs {K : Fg} {F : Fz} {H : Hp} : ∀ {bs : List (V × PyData)}, (∀ b ∈ bs, Is K F H b.1 b.2) → IsAll K F H (bs.map (·.1)) (bs.map (·.2))
  | [], _ => .nil
  | b :: bs, h => .cons (h b List.mem_cons_self) (IsAll.ofPairs fun c hc => h c (List.mem_cons_of_mem _ hc))
theorem sort_pairs (bs : List (V × PyData)) : (bs.mergeSort (dataLe false fun b : V × PyData => b.2)).map (·.2) = sortL (bs.map (·.2)) := by
  unfold sortL
  exact List.map_mergeSort (f := fun b : V × PyData => b.2) (r := dataLe false fun b : V × PyData => b.2) fun a _ b _ => rfl
theorem risingS_pw : ∀ {ys : List Str} {x : Str}, risingS x ys = true → (x :: ys).Pairwise fun a b => a.cps.toList ≤ b.cps.toList
  | [], x, _ => .cons (fun b hb => by cases hb) .nil
  | y :: ys, x, h => by
    obtain ⟨h1, h2⟩ := Bool.and_eq_true_iff.mp (show (!ltCps y.cps.toList x.cps.toList && risingS y ys) = true from h)
    have h3 := risingS_pw h2
    have hxy : x.cps.toList ≤ y.cps.toList := by
      rw [ltCps_eq] at h1
      have h4 : ¬ y.cps.toList < x.cps.toList := by simpa using h1
      exact List.not_lt.mp h4
    refine .cons (fun b hb => ?_) h3
    rcases List.mem_cons.mp hb with h | h
    · rw [h]
      exact hxy
    · cases h3 with
      | cons h4 _ => exact List.le_trans hxy (h4 b h)
theorem sortedS_pw : ∀ {ys : List Str}, sortedS ys = true → ys.Pairwise fun a b => a.cps.toList ≤ b.cps.toList
  | [], _ => .nil
  | _ :: _, h => risingS_pw h
theorem str_ext {a b : Str} (h : a.cps.toList = b.cps.toList) : a = b := by
  cases a
  cases b
  exact congrArg _ (Array.toList_inj.mp h)
theorem sortS_unique {ks ys : List Str} (hp : ys.Perm ks) (hs : sortedS ys = true) : ys.map PyData.str = sortL (ks.map .str) := by
  rw [sortL_str]
  refine congrArg _ (List.Perm.eq_of_pairwise (le := fun a b : Str => a.cps.toList ≤ b.cps.toList) (fun a b _ _ h1 h2 => str_ext (List.le_antisymm h1 h2)) (sortedS_pw hs) ?_ (hp.trans (List.mergeSort_perm ks _).symm))
  refine (List.pairwise_mergeSort (le := fun a b : Str => decide (a.cps.toList ≤ b.cps.toList)) (fun a b c h1 h2 => ?_) (fun a b => ?_) ks).imp (fun h => of_decide_eq_true h)
  · exact decide_eq_true (List.le_trans (of_decide_eq_true h1) (of_decide_eq_true h2))
  · rcases List.le_total a.cps.toList b.cps.toList with h | h
    · rw [decide_eq_true h]
      rfl
    · rw [decide_eq_true h, Bool.or_true]
theorem strs_of : ∀ {kvs : List (Key × Val)}, (keysV kvs).all isStrD = true → ∃ ks : List Str, kvs.map (·.1) = ks.map Sum.inr ∧ keysV kvs = ks.map .str
  | [], _ => ⟨[], rfl, rfl⟩
  | (k, v) :: r, h => by
    obtain ⟨h1, h2⟩ := Bool.and_eq_true_iff.mp (show (isStrD (kD k) && (keysV r).all isStrD) = true from h)
    obtain ⟨ks, e1, e2⟩ := strs_of h2
    cases k with
    | inl i => cases h1
    | inr x => exact ⟨x :: ks, by rw [List.map_cons, e1]; rfl, by show kD (.inr x) :: keysV r = _; rw [e2]; rfl⟩
theorem is_strs {K : Fg} {F : Fz} {H : Hp} : ∀ ys : List Str, IsAll K F H (ys.map V.str) (ys.map PyData.str)
  | [] => .nil
  | y :: ys => .cons (.str y) (is_strs ys)
section
variable {X : Cx}
theorem cr_sort (hc : X.calm = true) (hu : X.A.units + 64 < cLine) (m : Bool) : CallR X (.builtin "sorted") (rA X.K (oSorted m)) := fun pins s σ H xs us Q I rs h => by
  obtain ⟨F, ι, S, vs, v, S', sm, q, e, t⟩ := h
  unfold oSorted at e
  split at e
  · next v0 =>
    split at e
    · next kvs hd =>
      obtain ⟨w, rfl, qw⟩ := vall1 q
      obtain ⟨p, ws, rfl, hp, hw⟩ := dictOf_ok sm qw hd
      split at e
      · next hb =>
        obtain ⟨h1, h2⟩ := Bool.and_eq_true_iff.mp hb
        obtain ⟨ks, e1, e2⟩ := strs_of h1
        have hl : ks.length < 64 := by
          have := congrArg List.length e1
          rw [List.length_map, List.length_map] at this
          have h3 := of_decide_eq_true h2
          omega
        have e3 : ws.map (·.1) = kvs.map (·.1) := by
          clear e e1 e2 hd h1 h2 hb t hp qw q
          induction ws generalizing kvs with
          | nil =>
            cases kvs with
            | nil => rfl
            | cons _ _ => exact hw.elim
          | cons a ws ih =>
            obtain ⟨k, w⟩ := a
            cases kvs with
            | nil => exact hw.elim
            | cons b kvs =>
              obtain ⟨k', v'⟩ := b
              rw [List.map_cons, List.map_cons, ih _ hw.2.2]
              exact congrArg (· :: _) hw.1
        refine call_sortedD hc pins s σ H _ us Q I rs ⟨p, ws, ks, rfl, .of hp, by rw [e3, e1], hl, fun ys a hy hs ha => ?_⟩
        have hq := sortS_unique hy hs
        rw [e2, ← hq] at e
        split at e
        · cases e
          obtain ⟨y1, y2, y3⟩ := new_cell sm ha (VAll.of_all (is_strs ys))
          exact t _ _ _ _ y1 y2 y3
        · cases e
          obtain ⟨y1, y2, y3⟩ := new_lst sm ha (is_strs ys)
          exact t _ _ _ _ y1 y2 y3
      · cases e
    · split at e
      · next ws hd =>
        obtain ⟨w, rfl, qw⟩ := vall1 q
        obtain ⟨p, us', rfl, hp, hw⟩ := listOf_ok sm qw hd
        split at e
        · next xs hx =>
          have hi := pureAll_ok hx hw
          obtain ⟨z1, z2, z3⟩ := hi.zip
          split at e
          · next hb =>
            obtain ⟨h1, h2, h3, h4⟩ := sortable_ok hb
            have hmem : ∀ b ∈ us'.zip xs, b.2 ∈ xs := fun b hb => by
              rw [← z2]
              exact List.mem_map_of_mem hb
            refine cr_sortedD hu pins s σ H _ us Q I rs ⟨p, us'.zip xs, rfl, by rw [z1]; exact .of hp, fun b hb => ⟨(z3 b hb).dp (h4 _ (hmem b hb)).1, (h4 _ (hmem b hb)).2⟩, by rw [z2]; exact h1, by rw [z2]; exact h2, ?_, fun a ha => ?_⟩
            · have := congrArg List.length z2
              rw [List.length_map] at this
              omega
            · have hs := IsAll.ofPairs (K := X.K) (F := F) (H := H) (bs := (us'.zip xs).mergeSort (dataLe false fun b : V × PyData => b.2)) fun b hb => z3 b ((List.mergeSort_perm _ _).mem_iff.mp hb)
              rw [sort_pairs, z2] at hs
              split at e
              · cases e
                obtain ⟨y1, y2, y3⟩ := new_cell sm ha (VAll.of_all hs)
                exact t _ _ _ _ y1 y2 y3
              · cases e
                obtain ⟨y1, y2, y3⟩ := new_lst sm ha hs
                exact t _ _ _ _ y1 y2 y3
          · cases e
        · cases e
      · cases e
  · cases e
end
end Fw
namespace Fw
open PySem PySem.Spec PyProof.Rows L2
/-! ### functions where no object is being shown -/
/-- room, and no repr is on its way -/
structure Rm (k : Nat) (A : Around) : Prop where
  room : Room k A
  gd : A.guards = some []
theorem Rm.mono {j k : Nat} {A : Around} (r : Rm k A) (h : j ≤ k) : Rm j A := ⟨r.room.mono h, r.gd⟩
theorem Rm.deeper {k : Nat} {A : Around} (r : Rm (k + 1) A) (env : PySem.Env) : Rm k (A.deeper env) := ⟨r.room.deeper env, r.gd⟩
theorem Rm.make {k : Nat} {A : Around} (r : Rm (k + 1) A) (C : Addr) (us : List Value) (kw : List (Str × Value)) : Rm k (A.under (.builtin "type.__call__" ⟨.ref C :: us, kw⟩)) :=
  ⟨r.room.make C us kw, by
    unfold Around.under
    simp only [r.gd]
    first
      | rfl
      | simp [pushGuards, Code.guards, Code.isGuard, guardIds]⟩
theorem Rm.units {k : Nat} {A : Around} (r : Rm k A) : A.units + 64 < cLine := r.room.units
theorem units65 {k : Nat} {A : Around} (r : Rm k A) : A.units + 65 < cLine := by
  have := r.room.un
  omega
structure FnG (P : Program) (w : World) (K : PySem.W.Frag) (mg : Str → Option Value) (base : Heap) (k : Nat) (f : Addr) (fd : FuncData) (ps : List Str) (sp : Sp) : Prop where
  len : ∀ vs H Q E, sp vs H Q E → vs.length = ps.length
  run : ∀ (A : Around) (outer : List PySem.Env) (s : Shared) (H : Hp) (args : Args) (us : List Value) (vs : List V) (Q : VK) (E : XK), Rm k A → Env0 P w K mg base A outer s H → BindsTo s fd args (ps.zip us) → Vals vs us → sp vs H Q E →
    codeAny (model P w) A (.call (.ref f) args) (CR (L2.CX P w) outer P w H s Q E) s
theorem FnG.mono {P : Program} {w : World} {K : PySem.W.Frag} {mg : Str → Option Value} {base : Heap} {j k : Nat} {f : Addr} {fd : FuncData} {ps : List Str} {sp : Sp} (F : FnG P w K mg base j f fd ps sp) (h : j ≤ k) : FnG P w K mg base k f fd ps sp :=
  ⟨F.len, fun A outer s H args us vs Q E r => F.run A outer s H args us vs Q E (r.mono h)⟩
section
variable {P : Program} {w : World} {K : PySem.W.Frag} {mg : Str → Option Value} {base : Heap} {x qual : Str} {params : Arguments} {body : List Stmt} {scope : Scope} {dvs : List V} {kws : List (Str × V)} {f : Addr} {fd : FuncData}
theorem fnG_of {N ps : List Str} {k : Nat} {sp : Sp} (F : FunD K x qual params body scope dvs kws f fd) (S : FnScope N ps scope) (len : ∀ vs H Q E, sp vs H Q E → vs.length = ps.length)
    (hb : ∀ (cdv : Value) (A : Around) (outer : List PySem.Env) (s : Shared) (H : Hp) (vs : List V) (Q : VK) (E : XK), Rm k (A.deeper (envOfC qual scope s.heap.objs.size f cdv)) → sp vs H Q E →
      ∃ t, PSs (cxOf (L2.CX P w) P w K mg base N qual scope f cdv A outer s H E) body t ∧ t { nx := fun _ H' => Q .non H', rt := Q } (L2.start N vs) H) : FnG P w K mg base (k + 1) f fd ps sp := by
  obtain ⟨oc, od, dV, kV, doc, pm, an, cdv, ct, osl, rfl, lk, hcd, _, _⟩ := F.ex
  refine ⟨len, ?_⟩
  intro A outer s H args us vs Q E hr e0 bnd r hsp
  have same : ∀ b o, base.get? b = some o → s.heap.get? b = some o := fun b o e => (e0.bs b o e).1
  have inK := e0.mod.kin.keeps same
  refine codeAny_call_function hr.room.depth (inK _ _ lk) rfl S.co S.gen rfl (PySem.W.codeRec_of inK hcd) (bnd _ _ _ _ (wpAny_newFunctionEnv_cells S.kind ?_ ?_))
  · rintro ⟨n, v⟩ hy
    rcases S.par n (List.of_mem_zip hy).1 with q | q
    · exact .inl q
    · exact .inr ⟨q, PySem.W.cellsFrom_some _ _ _ (.inl q)⟩
  · rintro env he s1 x
    subst he
    refine ⟨(e0.mod.nolimit.keeps same).keeps x.toInCall.keep, codeAny_func ?_⟩
    obtain ⟨t, ht, hq⟩ := hb cdv A outer s H vs Q E (hr.deeper _) hsp
    have I : Inv (cxOf (L2.CX P w) P w K mg base N qual scope f cdv A outer s H E) [] (L2.start N vs) H s1 := inv_start S hr.room.hd e0 (len _ _ _ _ hsp) r x
    refine wpAny_mono (ht.run [] s1 (L2.start N vs) H _ I hq) ?_ fun e s' hs => hs
    intro fl s' hs
    cases fl with
    | ret u =>
      obtain ⟨v, σ', H', J, rv, q⟩ := hs
      exact ⟨v, H', J.os, J.bare, J.base, J.hok, rv, q⟩
    | next =>
      obtain ⟨σ', H', J, q⟩ := hs
      exact ⟨.non, H', J.os, J.bare, J.base, J.hok, rfl, q⟩
    | brk => exact hs.elim fun _ h => h.elim fun _ h => h.2.elim
    | cont => exact hs.elim fun _ h => h.elim fun _ h => h.2.elim
end
section
variable {X : Cx} {k : Nat} {f C : Addr} {fd : FuncData} {ps : List Str} {sp : Sp} {x m : Str} {p pos apos : Pos} {e o : Expr} {es : List Expr} {ta : TE} {t : TA} {E : L2.St → XK}
theorem run_fnG {pins : List (Addr × Obj)} {σ : L2.St} {H : Hp} {s : Shared} {Q : VK} {args : Args} {us : List Value} {vs : List V} (F : FnG X.prog X.w X.K X.mg X.base k f fd ps sp) (hr : Rm k X.A) (hx : PassesAt (L2.CX X.prog X.w) X σ (E σ))
    (I : Inv X pins σ H s) (b : BindsTo s fd args (ps.zip us)) (r : Vals vs us) (h : sp vs H Q (E σ)) : wpAny (model X.prog X.w) X.A (call (.ref f) args.pos args.kw) (EP X pins σ Q) X.xe s := by
  refine wpAny_call (codeAny_mono (F.run X.A X.stack s H args us vs Q (E σ) hr I.env0 b r h) ?_)
  intro r s' hq
  cases r with
  | error e => exact hx pins H s e s' I hq
  | ok fl =>
    cases fl with
    | ret u => exact I.after hq
    | _ => exact hq.elim
theorem bind_of {s : Shared} {us : List Value} {vs : List V} {H : Hp} {Q : VK} {E' : XK} (F : FnG X.prog X.w X.K X.mg X.base k f fd ps sp) (hb : Binds X.K fd ps []) (hK : X.K.In s.heap) (r : Vals vs us) (h : sp vs H Q E') : BindsTo s fd ⟨us, []⟩ (ps.zip us) := by
  have b := hb s us hK (by rw [List.append_nil, ← r.length]; exact F.len _ _ _ _ h)
  rw [List.append_nil] at b
  exact b
theorem pe_callG (F : FnG X.prog X.w X.K X.mg X.base k f fd ps sp) (hr : Rm k X.A) (hg : Gl X x) (hm : X.mg x = some (.ref f)) (hk : PySem.W.keepIn X.K (.ref f) = true) (hb : Binds X.K fd ps []) (hx : ∀ σ, PassesAt (L2.CX X.prog X.w) X σ (E σ))
    (ha : PA X (e :: es) t) (hdb : (x == ("__debug__" : Str)) = false := by decide) (he : starEach (e :: es) X.env = (false, eval e X.env) :: starEach es X.env := by rfl) (hpl : (backTo pos (starEach es X.env)).any (·.1) = false := by rfl) :
    PE X (.Call (.Name x p) (e :: es) [] pos) (tCallS sp E t) := ⟨fun pins s σ H Q I h => by
  refine wpAny_Call_Name_kw (ld_glob I hg hm (PySem.W.callWith_K (h₀ := X.base) I.ok.mod.kin hk (thn (ha.run pos pins s σ H _ I h) ?_) he hpl) hdb)
  rintro us s1 ⟨vs, H1, I1, r, q⟩
  exact ⟨I1.kIn, run_fnG (args := ⟨us, []⟩) F hr (hx σ) I1 (bind_of F hb I1.kIn r q) r q⟩⟩
theorem pe_callG0 (F : FnG X.prog X.w X.K X.mg X.base k f fd ps sp) (hr : Rm k X.A) (hg : Gl X x) (hm : X.mg x = some (.ref f)) (hk : PySem.W.keepIn X.K (.ref f) = true) (hb : Binds X.K fd ps []) (hx : ∀ σ, PassesAt (L2.CX X.prog X.w) X σ (E σ))
    (hdb : (x == ("__debug__" : Str)) = false := by decide) : PE X (.Call (.Name x p) [] [] pos) (tCallS sp E tNil) := ⟨fun pins s σ H Q I h => by
  refine wpAny_Call_Name_kw (ld_glob I hg hm (PySem.W.callWith_K0 I.kIn hk ?_) hdb)
  exact run_fnG (args := ⟨[], []⟩) (us := []) F hr (hx σ) I (bind_of (us := []) F hb I.kIn .nil h) .nil h⟩
/-! ### calls of methods, of classes: errors by the slots -/
def tMethW (C : Addr) (m : Str) (sp : Sp) (E : L2.St → XK) (ta : TE) (t : TA) : TE := fun σ H Q => ta σ H fun x H1 => ∃ a dx fs, x = .ref a ∧ H1 a = some (.ins C dx fs) ∧ fs.lookup m = none ∧ t σ H1 fun vs H2 => sp (x :: vs) H2 Q (E σ)
theorem pe_methW {pl : Sem Bool} (he : PE X o ta) (c : Cls X.K C) (hm : Meth X.K C m f) (F : FnG X.prog X.w X.K X.mg X.base k f fd ps sp) (hr : Rm k X.A) (hb : Binds X.K fd ps []) (hx : ∀ σ, PassesAt (L2.CX X.prog X.w) X σ (E σ)) (ha : PA X (e :: es) t)
    (hst : starEach (e :: es) X.env = (false, eval e X.env) :: starEach es X.env := by rfl) (hpl : (backTo pos (starEach es X.env)).any (·.1) = false := by rfl)
    (ht : eval (.Call (.Attribute o m apos) (e :: es) [] pos) X.env = (do
      let ov ← eval o X.env
      standAt apos.atName
      let (f, first) ← holding [ov] (getMethod ov m pl)
      callWith pos f first (backTo pos (starEach (e :: es) X.env)) (backToKw pos (keywordEach [] X.env))) := by rfl) :
    PE X (.Call (.Attribute o m apos) (e :: es) [] pos) (tMethW C m sp E ta t) := ⟨fun pins s σ H Q I h => by
  refine PySem.W.methodCall_KW (pl := pl) (thn (he.run pins s σ H _ I h) ?_) ht
  rintro u s1 ⟨x, H1, I1, rx, a, dx, fs, rfl, ea, l, q⟩
  obtain rfl : u = Value.ref a := rx
  refine getmeth_ok I1 ea c hm l (PySem.W.callWith_K (first := [.ref a]) (h₀ := X.base) I.ok.mod.kin hm.kp (thn (ha.run pos pins s1 σ H1 _ I1 q) ?_) hst hpl)
  rintro us s2 ⟨vs, H2, I2, r, q2⟩
  have r2 : Vals (.ref a :: vs) (.ref a :: us) := .cons rfl r
  exact ⟨I2.kIn, run_fnG (args := ⟨.ref a :: us, []⟩) F hr (hx σ) I2 (bind_of F hb I2.kIn r2 q2) r2 q2⟩⟩
theorem pe_methW0 {pl : Sem Bool} (he : PE X o ta) (c : Cls X.K C) (hm : Meth X.K C m f) (F : FnG X.prog X.w X.K X.mg X.base k f fd ps sp) (hr : Rm k X.A) (hb : Binds X.K fd ps []) (hx : ∀ σ, PassesAt (L2.CX X.prog X.w) X σ (E σ))
    (ht : eval (.Call (.Attribute o m apos) [] [] pos) X.env = (do
      let ov ← eval o X.env
      standAt apos.atName
      let (f, first) ← holding [ov] (getMethod ov m pl)
      callWith pos f first (backTo pos (starEach [] X.env)) (backToKw pos (keywordEach [] X.env))) := by rfl) :
    PE X (.Call (.Attribute o m apos) [] [] pos) (tMethW C m sp E ta tNil) := ⟨fun pins s σ H Q I h => by
  refine PySem.W.methodCall_KW (pl := pl) (thn (he.run pins s σ H _ I h) ?_) ht
  rintro u s1 ⟨x, H1, I1, rx, a, dx, fs, rfl, ea, l, q⟩
  obtain rfl : u = Value.ref a := rx
  have r2 : Vals [V.ref a] [Value.ref a] := .cons rfl .nil
  exact getmeth_ok I1 ea c hm l (PySem.W.callWith_K0 (first := [.ref a]) I1.kIn hm.kp (run_fnG (args := ⟨[.ref a], []⟩) F hr (hx σ) I1 (bind_of F hb I1.kIn r2 q) r2 q))⟩
def tMakeW (C : Addr) (sp : Sp) (E : L2.St → XK) (t : TA) : TE := fun σ H Q => t σ H fun vs H1 => ∀ x dx, H1 x = none → H1 dx = none → dx ≠ x →
  sp (.ref x :: vs) (upd (upd H1 dx (.own x)) x (.ins C dx [])) (fun v H2 => v = .non ∧ Q (.ref x) H2) (E σ)
theorem run_makeS {pins : List (Addr × Obj)} {σ : L2.St} {H : Hp} {s : Shared} {Q : VK} {us : List Value} {vs : List V} (M : Mk X.K C f) (F : FnG X.prog X.w X.K X.mg X.base k f fd ps sp) (hr : Rm (k + 1) X.A) (hb : Binds X.K fd ps [])
    (hx : PassesAt (L2.CX X.prog X.w) X σ (E σ)) (I : Inv X pins σ H s) (r : Vals vs us)
    (h : ∀ x dx, H x = none → H dx = none → dx ≠ x → sp (.ref x :: vs) (upd (upd H dx (.own x)) x (.ins C dx [])) (fun v H2 => v = .non ∧ Q (.ref x) H2) (E σ)) :
    wpAny (model X.prog X.w) X.A (call (.ref C) us) (EP X pins σ Q) X.xe s := by
  obtain ⟨n, hn⟩ : ∃ n, n = s.heap.objs.size := ⟨_, rfl⟩
  have hq := h (n + 1) n (I.hok.fresh (by rw [hn]; exact Nat.le_succ _)) (I.hok.fresh (by rw [hn]; exact Nat.le_refl _)) (Nat.ne_of_lt (Nat.lt_succ_self n))
  subst hn
  have I2 := Inv.made (C := C) I
  have r2 : Vals (V.ref (s.heap.objs.size + 1) :: vs) (Value.ref (s.heap.objs.size + 1) :: us) := .cons rfl r
  have b := bind_of F hb I2.kIn r2 hq
  refine wpAny_call (make_map (f := f) I.kIn M.makes M.init (beq_iff_eq.mp M.fn) (codeAny_mono (F.run _ X.stack _ _ ⟨Value.ref (s.heap.objs.size + 1) :: us, []⟩ _ _ _ (E σ) (hr.make C us []) (I2.env0.make C us []) b r2 hq) ?_))
  intro r s' hq'
  cases r with
  | error e => exact hx pins _ _ e s' I2 hq'
  | ok fl =>
    cases fl with
    | ret u =>
      obtain ⟨v, H', I3, rv, ev, q3⟩ := I2.after hq'
      subst ev
      exact ⟨rv, V.ref (s.heap.objs.size + 1), H', I3, rfl, q3⟩
    | _ => exact hq'.elim
theorem pe_makeW (M : Mk X.K C f) (F : FnG X.prog X.w X.K X.mg X.base k f fd ps sp) (hr : Rm (k + 1) X.A) (hg : Gl X x) (hm : X.mg x = some (.ref C)) (hb : Binds X.K fd ps []) (hx : ∀ σ, PassesAt (L2.CX X.prog X.w) X σ (E σ))
    (ha : PA X (e :: es) t) (hdb : (x == ("__debug__" : Str)) = false := by decide) (he : starEach (e :: es) X.env = (false, eval e X.env) :: starEach es X.env := by rfl) (hpl : (backTo pos (starEach es X.env)).any (·.1) = false := by rfl) :
    PE X (.Call (.Name x p) (e :: es) [] pos) (tMakeW C sp E t) := ⟨fun pins s σ H Q I h => by
  refine wpAny_Call_Name_kw (ld_glob I hg hm (PySem.W.callWith_K (h₀ := X.base) I.ok.mod.kin M.kp (thn (ha.run pos pins s σ H _ I h) ?_) he hpl) hdb)
  rintro us s1 ⟨vs, H1, I1, r, q⟩
  exact ⟨I1.kIn, run_makeS M F hr hb (hx σ) I1 r q⟩⟩
end
end Fw
namespace Fw
open PySem PySem.Spec PyProof.Rows L2

/-! ### functions -/
abbrev FnV := List Val → Store → R Val
/-- what leaves a body -/
def outOf : R (Fl × Env) → R Val
  | .ok (.nx, _) S => .ok (.d .none) S
  | .ok (.rt v, _) S => .ok v S
  | .ok (.rs c x, _) S => .ex c x S
  | _ => .bad
/-- the function of a body: n parameters, m more slots -/
def fnV (n m : Nat) (p : SF) : FnV := fun vs S => match decide (vs.length = n) with
  | true => outOf (p (vs.map some ++ List.replicate m none) S)
  | false => .bad
def CLands (K : Fg) (E : XK) (F : Fz) (ι : List Addr) (H : Hp) (m : R Val) (Q : VK) : Prop := match m with
  | .ok v S' => ∀ F' ι' H' w, Ext F ι H F' ι' H' → Sim K F' ι' S' H' → VIs K F' ι' H' w v → Q w H'
  | .ex c x S' => ∀ F' ι' H' dx, Ext F ι H F' ι' H' → Sim K F' ι' S' H' → ExV K F' H' dx x → E (.ref (He.ga K c)) (some dx) H'
  | .bad => False
/-- the promise -/
def SpS (K : Fg) (n : Nat) (ev : FnV) : Sp := fun ws H Q E => ∃ F ι S vs, Sim K F ι S H ∧ VAll K F ι H ws vs ∧ vs.length = n ∧ CLands K E F ι H (ev vs S) Q
theorem sps_bad {P : Program} {w : World} {K : Fg} {mg : Str → Option Value} {base : Heap} {k n : Nat} {f : Addr} {fd : FuncData} {ps : List Str} : FnG P w K mg base k f fd ps (SpS K n fun _ _ => .bad) :=
  ⟨fun vs H Q E ⟨_, _, _, _, _, _, _, h⟩ => h.elim, fun A outer s H args us vs Q E _ _ _ _ ⟨_, _, _, _, _, _, _, h⟩ => h.elim⟩
theorem start_env {K : Fg} {F : Fz} {ι : List Addr} {H : Hp} : ∀ {ws : List V} {vs : List Val} (N : List Str) (m : Nat), VAll K F ι H ws vs → N.length = vs.length + m → EIs K F ι H (L2.start N ws) (vs.map some ++ List.replicate m none) := fun {ws vs} N m h hl => by
  have h0 := h.length
  refine ⟨by unfold L2.start; simp only [List.length_append, List.length_map, List.length_replicate]; omega, fun i v e => ?_⟩
  unfold L2.start
  by_cases hi : i < vs.length
  · rw [List.getElem?_append_left (by simpa using hi), List.getElem?_map] at e
    cases hv : vs[i]? with
    | none =>
      rw [hv] at e
      cases e
    | some u =>
      rw [hv] at e
      cases e
      obtain ⟨w, h1, h2⟩ := h.get hv
      refine ⟨w, ?_, h2⟩
      rw [List.getElem?_append_left (by rw [List.length_map]; omega), List.getElem?_map, h1]
      rfl
  · rw [List.getElem?_append_right (by rw [List.length_map]; omega), List.getElem?_replicate] at e
    split at e <;> cases e
theorem fn_lands {K : Fg} {F : Fz} {ι : List Addr} {H : Hp} {m : R (Fl × Env)} {Q : VK} {E : XK} (h : CLands K E F ι H (outOf m) Q) : SLands K (fun c d _ H => E c d H) F ι H m { nx := fun _ H' => Q .non H', rt := Q } := by
  match m, h with
  | .ok (.nx, env') S', h => exact fun F' ι' H' σ' e s q => h F' ι' H' .non e s .non
  | .ok (.bk, env') S', h => exact h.elim
  | .ok (.ct, env') S', h => exact h.elim
  | .ok (.rt v, env') S', h => exact h
  | .ok (.rs c x, env') S', h => exact fun F' ι' H' σ' dx e s q r => h F' ι' H' dx e s r
  | .ex _ _ _, h => exact h.elim
  | .bad, h => exact h.elim
section
variable {P : Program} {w : World} {K : Fg} {mg : Str → Option Value} {base : Heap} {x qual : Str} {params : Arguments} {body : List Stmt} {scope : Scope} {dvs : List V} {kws : List (Str × V)} {f : Addr} {fd : FuncData}
theorem fn_ok {N ps : List Str} {k n m : Nat} {p : SF} (F : FunD K x qual params body scope dvs kws f fd) (S : FnScope N ps scope) (hn : ps.length = n) (hm : N.length = n + m)
    (hb : ∀ (cdv : Value) (A : Around) (outer : List PySem.Env) (s : Shared) (H : Hp) (E : XK), Rm k (A.deeper (envOfC qual scope s.heap.objs.size f cdv)) →
      SSs (cxOf (L2.CX P w) P w K mg base N qual scope f cdv A outer s H E) (fun c d _ H => E c d H) body p) : FnG P w K mg base (k + 1) f fd ps (SpS K n (fnV n m p)) := by
  refine fnG_of F S (fun vs H Q E ⟨F, ι, S, us, s, hv, hl, _⟩ => by rw [hv.length, hl, hn]) fun cdv A outer s H vs Q E hr ⟨F, ι, S, us, sm, hv, hl, l⟩ => ⟨_, (hb cdv A outer s H E hr).ps, F, ι, us.map some ++ List.replicate m none, S, sm, start_env N m hv (by omega), ?_⟩
  unfold fnV at l
  rw [decide_eq_true hl] at l
  exact fn_lands l
end
/-! ### calls -/
/-- over the caller's store -/
def eCall (ev : FnV) (g : AF) : EF := fun env S => (g env S).bind fun vs S1 => ev vs S1
/-- a function of data -/
inductive Out where
  | ok (x : PyData)
  | ex (c : Str) (x : PyData)
  | bad
def outD : R Val → Out
  | .ok v S => match toD v S with
    | some (x, _) => .ok x
    | none => .bad
  | .ex c x _ => .ex c x
  | .bad => .bad
def pureF (ev : FnV) : List PyData → Out := fun xs => outD (ev (xs.map .d) [])
def liftO : Out → Store → R Val
  | .ok x, S => .ok (.d x) S
  | .ex c x, S => .ex c x S
  | .bad, _ => .bad
def eP (f : List PyData → Out) (g : AF) : EF := fun env S => (g env S).bind fun vs S1 => match toDs vs S1 with
  | some (xs, S2) => liftO (f xs) S2
  | none => .bad
section
variable {K : Fg} {F F' : Fz} {ι ι' : List Addr} {S S' : Store} {H H' : Hp}
/-- behind a call that knew no cell -/
theorem Ext.drop (e : Ext F [] H F' ι' H') : Ext F ι H F' ι H' :=
  ⟨⟨[], by simp, by simp⟩, e.fz, fun a o h _ => e.keep a o h (.inl (by simp)), fun a h => by
    rcases e.new a h with h | h | h
    · exact .inl h
    · exact .inr (.inl h)
    · exact (List.not_mem_nil h).elim, e.tr, e.tups, e.frzs⟩
theorem Sim.drop (s : Sim K F ι S H) (e : Ext F [] H F' ι' H') (s' : Sim K F' ι' S' H') : Sim K F' ι S H' := by
  refine s.ext (.drop e) (fun a ha o h => e.keep a o h (.inl (by simp))) (fun a ha nf h => ?_) s'.cl
  rcases e.new a h with h | h | h
  · exact nf h
  · exact s.none_not h ha
  · cases h
theorem Sim.empty (s : Sim K F ι S H) : Sim K F [] [] H := .nil s.cl
theorem pure_lands {ev : FnV} {xs : List PyData} {Q : VK} {E : XK} (s : Sim K F ι S H) (h : CLands K E F ι H (liftO (pureF ev xs) S) Q) : CLands K E F [] H (ev (xs.map .d) []) Q := by
  unfold pureF at h
  cases he : ev (xs.map .d) [] with
  | bad =>
    rw [he] at h
    exact h
  | ex c x S1 =>
    rw [he] at h
    exact fun F' ι' H' dx e s' q => h F' ι H' dx e.drop (s.drop e s') q
  | ok v S1 =>
    rw [he] at h
    intro F' ι' H' w e s' q
    simp only [outD] at h
    split at h
    · next x S2 hd =>
      obtain ⟨F2, x2, s2, i2⟩ := toD_ok s' q hd
      exact h F2 ι H' w (e.trans x2).drop (s.drop (e.trans x2) s2) i2
    · exact h.elim
theorem clands {E : WX} {σ : L2.St} {m : R Val} {Q : VK} (h : Lands K E σ F ι H (relV K) m Q) : CLands K (WE E σ) F ι H m Q := by
  cases m with
  | ok a S => exact h
  | ex c x S => exact h
  | bad => exact h
theorem clands_shift {E : XK} {m : R Val} {Q : VK} (e : Ext F ι H F' ι' H') (h : CLands K E F ι H m Q) : CLands K E F' ι' H' m Q := by
  cases m with
  | ok a S => exact fun F2 ι2 H2 b e1 s r => h F2 ι2 H2 b (e.trans e1) s r
  | ex c x S => exact fun F2 ι2 H2 dx e1 s r => h F2 ι2 H2 dx (e.trans e1) s r
  | bad => exact h
theorem liftO_cases {o : Out} {S : Store} : o ≠ .bad ∨ liftO o S = .bad := by
  cases o with
  | bad => exact .inr rfl
  | _ => exact .inl (by simp)
end
theorem pureF_len {n : Nat} {ev : FnV} {xs : List PyData} (hev : ∀ vs S, vs.length ≠ n → ev vs S = .bad) (h : xs.length ≠ n) : pureF ev xs = .bad := by
  unfold pureF
  rw [hev _ _ (by rw [List.length_map]; exact h)]
  rfl
/-- an evaluator that takes n -/
def Takes' (n : Nat) (ev : FnV) : Prop := ∀ vs S, vs.length ≠ n → ev vs S = .bad
theorem takes_fnV {n m : Nat} {p : SF} : Takes' n (fnV n m p) := fun vs S h => by
  unfold fnV
  rw [decide_eq_false h]
theorem takes_bad {n : Nat} : Takes' n fun _ _ => .bad := fun _ _ _ => rfl
section
variable {X : Cx} {E : WX} {k n : Nat} {f : Addr} {fd : FuncData} {ps : List Str} {ev : FnV} {x : Str} {p pos : Pos} {e : Expr} {es : List Expr} {g : AF}
theorem len_of {K : Fg} {F : Fz} {ι : List Addr} {H : Hp} {S : Store} {vs : List Val} {E : XK} {Q : VK} (t : Takes' n ev) (h : CLands K E F ι H (ev vs S) Q) : vs.length = n := by
  by_cases hl : vs.length = n
  · exact hl
  · rw [t vs S hl] at h
    exact h.elim
theorem t_call {K : Fg} (tk : Takes' n ev) {σ : L2.St} {H : Hp} {Q : VK} (h : TEf E K (eCall ev g) σ H Q) : tCallS (SpS K n ev) (WE E) (TAf E K g) σ H Q := by
  obtain ⟨F, ι, env, S, s, en, l⟩ := h
  refine ⟨F, ι, env, S, s, en, (l.bind (rel := relA K)).imp ?_⟩
  rintro ws H1 ⟨F1, ι1, vs, S1, x1, s1, q1, l1⟩
  have l2 := clands l1
  exact ⟨F1, ι1, S1, vs, s1, q1, len_of tk l2, l2⟩
theorem all_d {K : Fg} {F : Fz} {ι : List Addr} {H : Hp} {ws : List V} {xs : List PyData} (h : IsAll K F H ws xs) : VAll K F ι H ws (xs.map .d) := .of_all h
theorem t_callP {K : Fg} (tk : Takes' n ev) {σ : L2.St} {H : Hp} {Q : VK} (h : TEf E K (eP (pureF ev) g) σ H Q) : tCallS (SpS K n ev) (WE E) (TAf E K g) σ H Q := by
  obtain ⟨F, ι, env, S, s, en, l⟩ := h
  refine ⟨F, ι, env, S, s, en, (l.bind (rel := relA K)).imp ?_⟩
  rintro ws H1 ⟨F1, ι1, vs, S1, x1, s1, q1, l1⟩
  split at l1
  · next xs S2 hd =>
    obtain ⟨F2, x2, s2, i2⟩ := toDs_ok s1 q1 hd
    have l2 := pure_lands s2 (clands_shift x2 (clands l1))
    exact ⟨F2, [], [], xs.map .d, s2.empty, .of_all i2, len_of tk l2, l2⟩
  · exact l1.elim
theorem se_call (tk : Takes X E) (F : FnG X.prog X.w X.K X.mg X.base k f fd ps (SpS X.K n ev)) (te : Takes' n ev) (hr : Rm k X.A) (hg : Gl X x) (hm : X.mg x = some (.ref f)) (hk : PySem.W.keepIn X.K (.ref f) = true) (hb : Binds X.K fd ps [])
    (ha : SA X E (e :: es) g) (hdb : (x == ("__debug__" : Str)) = false := by decide) (he : starEach (e :: es) X.env = (false, eval e X.env) :: starEach es X.env := by rfl) (hpl : (backTo pos (starEach es X.env)).any (·.1) = false := by rfl) :
    SE X E (.Call (.Name x p) (e :: es) [] pos) (eCall ev g) := ⟨PE.imp (pe_callG F hr hg hm hk hb (fun σ => passAt tk σ) ha.pa hdb he hpl) fun _ _ _ h => t_call te h⟩
theorem se_callP (tk : Takes X E) (F : FnG X.prog X.w X.K X.mg X.base k f fd ps (SpS X.K n ev)) (te : Takes' n ev) (hr : Rm k X.A) (hg : Gl X x) (hm : X.mg x = some (.ref f)) (hk : PySem.W.keepIn X.K (.ref f) = true) (hb : Binds X.K fd ps [])
    (ha : SA X E (e :: es) g) (hdb : (x == ("__debug__" : Str)) = false := by decide) (he : starEach (e :: es) X.env = (false, eval e X.env) :: starEach es X.env := by rfl) (hpl : (backTo pos (starEach es X.env)).any (·.1) = false := by rfl) :
    SE X E (.Call (.Name x p) (e :: es) [] pos) (eP (pureF ev) g) := ⟨PE.imp (pe_callG F hr hg hm hk hb (fun σ => passAt tk σ) ha.pa hdb he hpl) fun _ _ _ h => t_callP te h⟩
end
end Fw
namespace Fw
open PySem PySem.Spec PyProof.Rows L2

/-! ### what is known of the program's own names -/
def fdW (K : Fg) (d : He.DefD) : FuncData := match K.lookup (He.fAd K d.at_) with
  | some ⟨_, _, .func fd, _⟩ => fd
  | _ => PySem.W.fnOf d.name d.qual d.params d.body d.scope .none .none .none .none none .none .none
abbrev DefOk (K : Fg) (d : He.DefD) : Prop := FunD K d.name d.qual d.params d.body d.scope (d.dvs K) (d.kws K) (He.fAd K d.at_) (fdW K d)
structure Wd (fa : List He.Fa) (fn : List He.DefD) (ex : Fg → Bool) (K : Fg) (mg : Str → Option Value) (base : Heap) : Prop where
  say : He.SaysD fa fn K
  more : ex K = true
  inn : K.In base
  ns : base.Ns mainGlobals mg
section
variable {fa : List He.Fa} {fn : List He.DefD} {ex : Fg → Bool} {K : Fg} {mg : Str → Option Value} {base : Heap}
theorem Wd.def_ (c : Wd fa fn ex K mg base) (i : Nat) {d : He.DefD} (h : fn[i]? = some d) : DefOk K d := by
  obtain ⟨fd, F⟩ := c.say.def_ i h
  have e : fdW K d = fd := by
    obtain ⟨oc, od, dV, kV, doc, pm, an, cdv, ct, osl, _, lk, _⟩ := F.ex
    unfold fdW
    rw [lk]
  unfold DefOk
  rw [e]
  exact F
theorem Wd.glo (c : Wd fa fn ex K mg base) (i : Nat) {x : Str} (h : fa[i]? = some (.glo x)) : mg x = some (.ref (He.ga K x)) := He.glo_ok c.inn c.ns (c.say.fact i h)
theorem Wd.free (c : Wd fa fn ex K mg base) (i : Nat) {x : Str} (h : fa[i]? = some (.free x)) : mg x = none := He.free_ok c.inn c.ns (c.say.fact i h)
theorem Wd.int (c : Wd fa fn ex K mg base) (i : Nat) {x : Str} {z : Int} (h : fa[i]? = some (.int x z)) : ∃ t, mg x = some (.int z t) := He.int_ok c.inn c.ns (c.say.fact i h)
theorem Wd.str (c : Wd fa fn ex K mg base) (i : Nat) {x z : Str} (h : fa[i]? = some (.str x z)) : ∃ t, mg x = some (.str z t) := He.str_ok c.inn c.ns (c.say.fact i h)
theorem Wd.cls (c : Wd fa fn ex K mg base) (i : Nat) {x : Str} (h : fa[i]? = some (.cls x)) : Cls K (He.ga K x) := He.cls_ok (c.say.fact i h)
theorem Wd.noat (c : Wd fa fn ex K mg base) (i : Nat) {x f : Str} (h : fa[i]? = some (.noat x f)) : NoAttr K (He.ga K x) f := He.noat_ok (c.say.fact i h)
theorem Wd.meth (c : Wd fa fn ex K mg base) (i : Nat) {x m : Str} (h : fa[i]? = some (.meth x m)) : Meth K (He.ga K x) m (He.ma K (He.ga K x) m) := He.meth_ok (c.say.fact i h)
theorem Wd.mkr (c : Wd fa fn ex K mg base) (i : Nat) {x : Str} (h : fa[i]? = some (.mkr x)) : Mk K (He.ga K x) (He.ma K (He.ga K x) "__init__") := He.mkr_ok (c.say.fact i h)
end
/-! ### the module's constants -/
/-- flat data as the fragment's values -/
def dvOf : PyData → He.Dv
  | .bool b => .bl b
  | .int i => .int i
  | .str x => .str x
  | _ => .non
def flatK : PyData → Bool
  | .none => true
  | .bool _ => true
  | .int _ => true
  | .str _ => true
  | _ => false
section
variable {X : Cx} {E : WX} {x : Str} {pos : Pos}
theorem se_gstr {z : Str} (hg : Gl X x) (h : ∃ t, X.mg x = some (.str z t)) (hd : (x == ("__debug__" : Str)) = false := by decide) : SE X E (.Name x pos) (eC (.str z)) := by
  obtain ⟨t, h⟩ := h
  exact se_c (pe_glob (v := .str z) hg h ⟨_, rfl⟩ hd) fun _ _ => .str z
theorem se_gint {z : Int} (hg : Gl X x) (h : ∃ t, X.mg x = some (.int z t)) (hd : (x == ("__debug__" : Str)) = false := by decide) : SE X E (.Name x pos) (eC (.int z)) := by
  obtain ⟨t, h⟩ := h
  exact se_c (pe_glob (v := .int z) hg h ⟨_, rfl⟩ hd) fun _ _ => .int z
theorem isall_dv {K : Fg} {F : Fz} {H : Hp} : ∀ {ds : List PyData}, ds.all flatK = true → IsAll K F H ((ds.map dvOf).map (He.Dv.v K)) ds
  | [], _ => .nil
  | d :: ds, h => by
    obtain ⟨h1, h2⟩ := Bool.and_eq_true_iff.mp (show (flatK d && ds.all flatK) = true from h)
    refine .cons ?_ (isall_dv h2)
    cases d with
    | none => exact .non
    | bool b => exact .bl b
    | int i => exact .int i
    | str z => exact .str z
    | _ => cases h1
/-- a tuple of flat constants -/
theorem se_gtup {ds : List PyData} (hg : Gl X x) (hm : X.mg x = some (.ref (He.ga X.K x))) (ht : He.tupB X.K x (ds.map dvOf) = true) (hf : ds.all flatK = true) (hd : (x == ("__debug__" : Str)) = false := by decide) : SE X E (.Name x pos) (eC (.tuple ds)) :=
  se_c (v := .ref (He.ga X.K x)) (pe_glob hg hm rfl hd) fun _ H => .tup (He.tupB_ok ht H) (isall_dv hf)
end
/-! ### fields -/
def putFV (f : Str) (v : Val) : List (Str × Val) → List (Str × Val)
  | [] => [(f, v)]
  | (g, x) :: r => match decide (g = f) with
    | true => (g, v) :: r
    | false => (g, x) :: putFV f v r
def getFV (f : Str) : List (Str × Val) → Option Val
  | [] => none
  | (g, x) :: r => match decide (g = f) with
    | true => some x
    | false => getFV f r
def fsOf : List (PyData × PyData) → Option (List (Str × Val))
  | [] => some []
  | (.str k, x) :: r => match fsOf r with
    | some l => some ((k, .d x) :: l)
    | none => none
  | _ :: _ => none
/-- an instance of c: its fields as they stand -/
def insOf (c : Str) : Val → Store → Option (List (Str × Val))
  | .d (.dict ((.none, .str c') :: ds)), _ => match decide (c' = c) with
    | true => fsOf ds
    | false => none
  | .d _, _ => none
  | .r i, S => match S[i]? with
    | some (.ins c' fs) => match decide (c' = c) with
      | true => some fs
      | false => none
    | some (.frz (.dict ((.none, .str c') :: ds))) => match decide (c' = c) with
      | true => fsOf ds
      | false => none
    | _ => none
section
variable {K : Fg} {F : Fz} {ι : List Addr} {S : Store} {H : Hp} {w : V}
theorem fsOf_ok : ∀ {ds : List (PyData × PyData)} {fs : List (Str × Val)} {ws : List (Str × V)}, IsFs K F H ws ds → fsOf ds = some fs → VKs K F ι H ws fs
  | _, _, _, .nil, h => by
    cases h
    trivial
  | _, _, _, .cons (k := k) a r, h => by
    unfold fsOf at h
    split at h
    · next l e2 =>
      cases h
      exact ⟨rfl, a, fsOf_ok r e2⟩
    · cases h
theorem kv_key {ws : List (Key × V)} {l : List (PyData × PyData)} (h : IsKV K F H ws l) : ∀ x ds, l = (.none, x) :: ds → False := fun x ds e => by
  cases h with
  | nil => cases e
  | cons a r =>
    rename_i k _ _ _ _
    cases k <;> cases e
theorem kv_obj {ws : List (Key × V)} {x : PyData} {ds : List (PyData × PyData)} (h : IsKV K F H ws ((.none, x) :: ds)) : False := kv_key h x ds rfl
theorem insOf_ok {c : Str} {v : Val} {fs : List (Str × Val)} (s : Sim K F ι S H) (q : VIs K F ι H w v) (h : insOf c v S = some fs) : ∃ a dx ws, w = .ref a ∧ H a = some (.ins (He.ga K c) dx ws) ∧ VKs K F ι H ws fs := by
  unfold insOf at h
  split at h
  · next c' ds _ =>
    split at h
    · next hc =>
      have hc := of_decide_eq_true hc
      subst hc
      cases q with
      | obj f hx ax => exact ⟨_, _, _, rfl, hx, fsOf_ok ax h⟩
      | dct f hx ax => exact (kv_obj ax).elim
    · cases h
  · cases h
  · next i =>
    obtain ⟨a, ha, rfl⟩ := q
    split at h
    · next c' fs' hc =>
      split at h
      · next hcc =>
        have hcc := of_decide_eq_true hcc
        subst hcc
        cases h
        obtain ⟨_, dx, ws, h1, h2⟩ := s.cell i a _ ha hc
        exact ⟨a, dx, ws, rfl, h1, h2⟩
      · cases h
    · next c' ds hc =>
      split at h
      · next hcc =>
        have hcc := of_decide_eq_true hcc
        subst hcc
        obtain ⟨_, h2⟩ := s.cell i a _ ha hc
        cases h2 with
        | obj f hx ax => exact ⟨_, _, _, rfl, hx, fsOf_ok ax h⟩
        | dct f hx ax => exact (kv_obj ax).elim
      · cases h
    · cases h
theorem getFV_ok {f : Str} : ∀ {ws : List (Str × V)} {fs : List (Str × Val)}, VKs K F ι H ws fs → (∀ v, getFV f fs = some v → ∃ w, ws.lookup f = some w ∧ VIs K F ι H w v) ∧ (getFV f fs = none → ws.lookup f = none)
  | [], [], _ => ⟨fun v h => (by cases h), fun _ => rfl⟩
  | (j, w) :: ws, (j', v) :: fs, ⟨e, q, r⟩ => by
    subst e
    unfold getFV
    rw [List.lookup_cons]
    by_cases hj : j = f
    · subst hj
      rw [decide_eq_true rfl, beq_self_eq_true]
      exact ⟨fun v' h => by
        cases h
        exact ⟨w, rfl, q⟩, fun h => (by cases h)⟩
    · rw [decide_eq_false hj, show (f == j) = false from by rw [beq_eq_false_iff_ne]; exact fun z => hj z.symm]
      exact getFV_ok r
  | [], _ :: _, h => h.elim
  | _ :: _, [], h => h.elim
theorem putFV_ok {f : Str} {v : Val} (q : VIs K F ι H w v) : ∀ {ws : List (Str × V)} {fs : List (Str × Val)}, VKs K F ι H ws fs → VKs K F ι H (putF f w ws) (putFV f v fs)
  | [], [], _ => ⟨rfl, q, trivial⟩
  | (j, u) :: ws, (j', u') :: fs, ⟨e, q1, r⟩ => by
    subst e
    unfold putF putFV
    by_cases hj : j = f
    · rw [if_pos hj, decide_eq_true hj]
      exact ⟨rfl, q, r⟩
    · rw [if_neg hj, decide_eq_false hj]
      exact ⟨rfl, q1, putFV_ok q r⟩
  | [], _ :: _, h => h.elim
  | _ :: _, [], h => h.elim
end
/-- e.f, e an instance of c -/
def oFld (c f : Str) : O1 := fun v S => match insOf c v S with
  | some fs => (getFV f fs).map fun u => (u, S)
  | none => none
/-- o.f = e -/
def sFldS (c f : Str) (fo fe : EF) : SF := fun env S => sB (fe env S) env fun v S1 => sB (fo env S1) env fun o S2 => match o with
  | .r i => match S2[i]? with
    | some (.ins c' fs) => match decide (c' = c ∧ fs.length < 1000) with
      | true => .ok (.nx, env) (S2.set i (.ins c' (putFV f v fs)))
      | false => .bad
    | _ => .bad
  | .d _ => .bad
section
variable {X : Cx} {E : WX} {o e : Expr} {g h : EF} {f : Str} {c : Str} {pos pos' : Pos}
theorem se_fld (hc : Cls X.K (He.ga X.K c)) (hn : NoAttr X.K (He.ga X.K c) f) (ho : SE X E o g) (hb : attributeBase o f X.env (eval o X.env) = eval o X.env := by rfl) : SE X E (.Attribute o f pos) (e1 (oFld c f) g) := ⟨PE.imp (pe_fld ho.pe hb) fun σ H Q hh => by
  obtain ⟨F, ι, env, S, s, en, l⟩ := hh
  refine ⟨F, ι, env, S, s, en, (l.bind (rel := relV X.K)).imp ?_⟩
  rintro w H1 ⟨F1, ι1, v, S1, x1, s1, q1, l1⟩
  obtain ⟨v', S', e, t⟩ := lift_ok l1
  unfold oFld at e
  split at e
  · next fs hf =>
    obtain ⟨a, dx, ws, rfl, h1, h2⟩ := insOf_ok s1 q1 hf
    obtain ⟨u, hu, e⟩ := Option.map_eq_some_iff.mp e
    cases e
    obtain ⟨w', h3, h4⟩ := (getFV_ok h2).1 _ hu
    exact ⟨a, He.ga X.K c, dx, ws, w', rfl, h1, hc, hn, h3, t F1 ι1 H1 _ (.refl _ _ _) s1 h4⟩
  · cases e⟩
theorem ss_fld (hc : Cls X.K (He.ga X.K c)) (hn : NoAttr X.K (He.ga X.K c) f) (ho : SE X E o g) (he : SE X E e h) (hs : swapsWith e (some (.Attribute o f pos')) pos.line X.env = pure false := by rfl) : SS X E (.Assign [.Attribute o f pos'] e pos) (sFldS c f g h) := ⟨PS.imp (ps_fld ho.pe he.pe hs) fun D σ H ⟨F, ι, env, S, s, en, l⟩ => by
  refine ⟨F, ι, env, S, s, en, (SLands.bind (rel := relV X.K) en l).imp ?_⟩
  rintro w H1 ⟨F1, ι1, v, S1, x1, s1, q1, l1⟩
  refine ⟨F1, ι1, env, S1, s1, en.mono x1, (SLands.bind (rel := relV X.K) (en.mono x1) l1).imp ?_⟩
  rintro w2 H2 ⟨F2, ι2, o', S2, x2, s2, q2, l2⟩
  split at l2
  · next i =>
    obtain ⟨a, ha, rfl⟩ := q2
    split at l2
    · next c' fs hcell =>
      split at l2
      · next hd =>
        obtain ⟨rfl, hl⟩ := of_decide_eq_true hd
        obtain ⟨nf, dx, ws, h1, h2⟩ := s2.cell i a _ ha hcell
        have x3 : Ext F2 ι2 H2 F2 ι2 (upd H2 a (.ins (He.ga X.K c') dx (putF f w ws))) := .mut s2 ha nf (by rw [h1]; simp)
        refine ⟨a, He.ga X.K c', dx, ws, rfl, h1, hc, hn, by rw [vks_length h2]; exact hl, l2 F2 ι2 _ σ x3 ?_ (((en.mono x1).mono x2).mono x3)⟩
        exact s2.mut ha nf (by simp) (by rw [h1]; simp) ⟨nf, dx, _, upd_same, (putFV_ok (q1.mono x2) h2).mono x3⟩
      · exact l2.elim
    · exact l2.elim
  · exact l2.elim⟩
end
end Fw
namespace Fw
open PySem PySem.Spec PyProof.Rows L2
/-! ### their evaluators -/
/-- o.m(..) of an instance of c, a function of data -/
def eMthP (c m : Str) (pf : List PyData → Out) (fo : EF) (g : AF) : EF := fun env S => (fo env S).bind fun v S1 => match insOf c v S1 with
  | some fs => match getFV m fs with
    | some _ => .bad
    | none => match toD v S1 with
      | some (x, S2) => (g env S2).bind fun vs S3 => match toDs vs S3 with
        | some (xs, S4) => liftO (pf (x :: xs)) S4
        | none => .bad
      | none => .bad
  | none => .bad
/-- .. over the caller's store -/
def eMthS (c m : Str) (ev : FnV) (fo : EF) (g : AF) : EF := fun env S => (fo env S).bind fun v S1 => match insOf c v S1 with
  | some fs => match getFV m fs with
    | some _ => .bad
    | none => (g env S1).bind fun vs S2 => ev (v :: vs) S2
  | none => .bad
/-- c(..), then frozen -/
def outMk : R Val → Out
  | .ok (.d .none) S => match toD (.r 0) S with
    | some (x, _) => .ok x
    | none => .bad
  | .ok _ _ => .bad
  | .ex c x _ => .ex c x
  | .bad => .bad
def mkF (c : Str) (ev : FnV) : List PyData → Out := fun xs => outMk (ev (.r 0 :: xs.map .d) [.ins c []])
/-- c(..) over the caller's store -/
def eMkS (c : Str) (ev : FnV) (g : AF) : EF := fun env S => (g env S).bind fun vs S1 => match ev (.r S1.length :: vs) (S1 ++ [.ins c []]) with
  | .ok (.d .none) S2 => .ok (.r S1.length) S2
  | .ok _ _ => .bad
  | .ex c x S2 => .ex c x S2
  | .bad => .bad
section
variable {K : Fg} {F : Fz} {ι : List Addr} {S : Store} {H : Hp}
theorem made_ok {c : Str} {x dx : Addr} (s : Sim K F ι S H) (hx : H x = none) (hd : H dx = none) (hne : dx ≠ x) :
    Ext F ι H F (ι ++ [x]) (upd (upd H dx (.own x)) x (.ins (He.ga K c) dx [])) ∧ Sim K F (ι ++ [x]) (S ++ [.ins c []]) (upd (upd H dx (.own x)) x (.ins (He.ga K c) dx [])) := by
  have s1 : Sim K F ι S (upd H dx (.own x)) := .plain s hd
  have hx1 : upd H dx (.own x) x = none := by rw [upd_ne (Ne.symm hne)]; exact hx
  have e2 : Ext F ι (upd H dx (.own x)) F (ι ++ [x]) (upd (upd H dx (.own x)) x (.ins (He.ga K c) dx [])) := .cell s1 hx1
  exact ⟨(Ext.plain s hd).trans e2, s1.newCell hx1 (fun _ => by simp) ⟨s1.fresh hx1, dx, [], upd_same, trivial⟩⟩
/-- behind a call that knew one new cell alone -/
theorem Ext.drop1 {F' : Fz} {ι' : List Addr} {H1 H' : Hp} {x : Addr} (e1 : Ext F [] H F [x] H1) (e : Ext F [x] H1 F' ι' H') : Ext F ι H F' ι H' := (e1.trans e).drop
end
section
variable {X : Cx} {E : WX} {k n : Nat} {f : Addr} {fd : FuncData} {ps : List Str} {ev : FnV} {x m c : Str} {p pos apos : Pos} {e o : Expr} {es : List Expr} {g : AF} {fo : EF}
theorem t_mthP {K : Fg} (tk : Takes' n ev) {σ : L2.St} {H : Hp} {Q : VK} (h : TEf E K (eMthP c m (pureF ev) fo g) σ H Q) : tMethW (He.ga K c) m (SpS K n ev) (WE E) (TEf E K fo) (TAf E K g) σ H Q := by
  obtain ⟨F, ι, env, S, s, en, l⟩ := h
  refine ⟨F, ι, env, S, s, en, (l.bind (rel := relV K)).imp ?_⟩
  rintro w H1 ⟨F1, ι1, v, S1, x1, s1, q1, l1⟩
  split at l1
  · next fs hf =>
    obtain ⟨a, dx, ws, rfl, h1, h2⟩ := insOf_ok s1 q1 hf
    split at l1
    · exact l1.elim
    · next hg =>
      split at l1
      · next x' S2 hd =>
        obtain ⟨F2, x2, s2, i2⟩ := toD_ok s1 q1 hd
        refine ⟨a, dx, ws, rfl, h1, (getFV_ok h2).2 hg, F2, ι1, env, S2, s2, (en.mono x1).mono x2, ((l1.shift x2).bind (rel := relA K)).imp ?_⟩
        rintro us H3 ⟨F3, ι3, vs, S3, x3, s3, q3, l3⟩
        split at l3
        · next xs S4 hds =>
          obtain ⟨F4, x4, s4, i4⟩ := toDs_ok s3 q3 hds
          have l4 := pure_lands s4 (clands_shift x4 (clands l3))
          exact ⟨F4, [], [], (x' :: xs).map .d, s4.empty, ⟨(i2.mono x3).mono x4, .of_all i4⟩, len_of tk l4, l4⟩
        · exact l3.elim
      · exact l1.elim
  · exact l1.elim
theorem t_mthS {K : Fg} (tk : Takes' n ev) {σ : L2.St} {H : Hp} {Q : VK} (h : TEf E K (eMthS c m ev fo g) σ H Q) : tMethW (He.ga K c) m (SpS K n ev) (WE E) (TEf E K fo) (TAf E K g) σ H Q := by
  obtain ⟨F, ι, env, S, s, en, l⟩ := h
  refine ⟨F, ι, env, S, s, en, (l.bind (rel := relV K)).imp ?_⟩
  rintro w H1 ⟨F1, ι1, v, S1, x1, s1, q1, l1⟩
  split at l1
  · next fs hf =>
    obtain ⟨a, dx, ws, rfl, h1, h2⟩ := insOf_ok s1 q1 hf
    split at l1
    · exact l1.elim
    · next hg =>
      refine ⟨a, dx, ws, rfl, h1, (getFV_ok h2).2 hg, F1, ι1, env, S1, s1, en.mono x1, (l1.bind (rel := relA K)).imp ?_⟩
      rintro us H3 ⟨F3, ι3, vs, S3, x3, s3, q3, l3⟩
      have l4 := clands l3
      exact ⟨F3, ι3, S3, v :: vs, s3, ⟨q1.mono x3, q3⟩, len_of tk l4, l4⟩
  · exact l1.elim
theorem t_mkP {K : Fg} (tk : Takes' n ev) {σ : L2.St} {H : Hp} {Q : VK} (h : TEf E K (eP (mkF c ev) g) σ H Q) : tMakeW (He.ga K c) (SpS K n ev) (WE E) (TAf E K g) σ H Q := by
  obtain ⟨F, ι, env, S, s, en, l⟩ := h
  refine ⟨F, ι, env, S, s, en, (l.bind (rel := relA K)).imp ?_⟩
  rintro ws H1 ⟨F1, ι1, vs, S1, x1, s1, q1, l1⟩ x dx hx hd hne
  split at l1
  · next xs S2 hds =>
    obtain ⟨F2, x2, s2, i2⟩ := toDs_ok s1 q1 hds
    obtain ⟨e3, s3⟩ := made_ok (c := c) s2.empty hx hd hne
    have l2 := clands_shift x2 (clands l1)
    have hl : CLands K (WE E σ) F2 [x] (upd (upd H1 dx (.own x)) x (.ins (He.ga K c) dx [])) (ev (.r 0 :: xs.map .d) [.ins c []]) (fun v H2 => v = .non ∧ Q (.ref x) H2) := by
      unfold mkF at l2
      cases he : ev (.r 0 :: xs.map .d) [.ins c []] with
      | bad =>
        rw [he] at l2
        exact l2
      | ex c' y S3 =>
        rw [he] at l2
        intro F4 ι4 H4 dx4 e4 s4 q4
        have e5 := e3.trans e4
        exact l2 F4 ι1 H4 dx4 e5.drop (s2.drop e5 s4) q4
      | ok v S3 =>
        rw [he] at l2
        intro F4 ι4 H4 w e4 s4 q4
        have e5 := e3.trans e4
        unfold outMk at l2
        split at l2
        · next S5 hz =>
          cases hz
          split at l2
          · next y S6 hd6 =>
            have hx0 : ι4[0]? = some x := by
              obtain ⟨m', hm, _⟩ := e4.pre
              rw [hm]
              rfl
            obtain ⟨F6, x6, s6, i6⟩ := toD_ok (w := .ref x) (v := .r 0) s4 ⟨x, hx0, rfl⟩ hd6
            cases q4
            exact ⟨rfl, l2 F6 ι1 H4 _ (e5.trans x6).drop (s2.drop (e5.trans x6) s6) i6⟩
          · exact l2.elim
        · exact l2.elim
        · next hz => cases hz
        · next hz => cases hz
    refine ⟨F2, [x], [.ins c []], .r 0 :: xs.map .d, s3, ⟨⟨x, rfl, rfl⟩, ?_⟩, len_of tk hl, hl⟩
    have hv := VAll.mono e3 (VAll.of_all (ι := []) i2)
    exact hv
  · exact l1.elim
theorem t_mkS {K : Fg} (tk : Takes' n ev) {σ : L2.St} {H : Hp} {Q : VK} (h : TEf E K (eMkS c ev g) σ H Q) : tMakeW (He.ga K c) (SpS K n ev) (WE E) (TAf E K g) σ H Q := by
  obtain ⟨F, ι, env, S, s, en, l⟩ := h
  refine ⟨F, ι, env, S, s, en, (l.bind (rel := relA K)).imp ?_⟩
  rintro ws H1 ⟨F1, ι1, vs, S1, x1, s1, q1, l1⟩ x dx hx hd hne
  obtain ⟨e3, s3⟩ := made_ok (c := c) s1 hx hd hne
  have hi : (ι1 ++ [x])[S1.length]? = some x := by
    rw [← s1.len, List.getElem?_append_right (Nat.le_refl _)]
    simp
  have hl : CLands K (WE E σ) F1 (ι1 ++ [x]) (upd (upd H1 dx (.own x)) x (.ins (He.ga K c) dx [])) (ev (.r S1.length :: vs) (S1 ++ [.ins c []])) (fun v H2 => v = .non ∧ Q (.ref x) H2) := by
    cases he : ev (.r S1.length :: vs) (S1 ++ [.ins c []]) with
    | bad =>
      rw [he] at l1
      exact l1
    | ex c' y S3 =>
      rw [he] at l1
      exact fun F4 ι4 H4 dx4 e4 s4 q4 => l1 F4 ι4 H4 dx4 (e3.trans e4) s4 q4
    | ok v S3 =>
      rw [he] at l1
      intro F4 ι4 H4 w e4 s4 q4
      split at l1
      · next S5 hz =>
        cases hz
        cases q4
        refine ⟨rfl, l1 F4 ι4 H4 _ (e3.trans e4) s4 ⟨x, ?_, rfl⟩⟩
        obtain ⟨m', hm, _⟩ := e4.pre
        rw [hm, List.getElem?_append_left (List.getElem?_eq_some_iff.mp hi).1]
        exact hi
      · exact l1.elim
      · next hz => cases hz
      · next hz => cases hz
  exact ⟨F1, ι1 ++ [x], S1 ++ [.ins c []], .r S1.length :: vs, s3, ⟨⟨x, hi, rfl⟩, q1.mono e3⟩, len_of tk hl, hl⟩
end
end Fw
namespace Fw
open PySem PySem.Spec PyProof.Rows L2
def sBad : SF := fun _ _ => .bad
section
variable {X : Cx} {E : WX} {k n : Nat} {f : Addr} {fd : FuncData} {ps : List Str} {ev : FnV} {x m c : Str} {p pos apos : Pos} {e o : Expr} {es : List Expr} {g : AF} {fo : EF} {st : Stmt}
theorem ss_bad : SS X E st sBad := ⟨⟨fun pins s σ H D I ⟨F, ι, env, S, s', en, l⟩ => l.elim⟩⟩
theorem se_mkP (tk : Takes X E) (F : FnG X.prog X.w X.K X.mg X.base k f fd ps (SpS X.K n ev)) (te : Takes' n ev) (hr : Rm (k + 1) X.A) (M : Mk X.K (He.ga X.K c) f) (hg : Gl X x) (hm : X.mg x = some (.ref (He.ga X.K c))) (hb : Binds X.K fd ps [])
    (ha : SA X E (e :: es) g) (hdb : (x == ("__debug__" : Str)) = false := by decide) (he : starEach (e :: es) X.env = (false, eval e X.env) :: starEach es X.env := by rfl) (hpl : (backTo pos (starEach es X.env)).any (·.1) = false := by rfl) :
    SE X E (.Call (.Name x p) (e :: es) [] pos) (eP (mkF c ev) g) := ⟨PE.imp (pe_makeW M F hr hg hm hb (fun σ => passAt tk σ) ha.pa hdb he hpl) fun _ _ _ h => t_mkP te h⟩
theorem se_mkS (tk : Takes X E) (F : FnG X.prog X.w X.K X.mg X.base k f fd ps (SpS X.K n ev)) (te : Takes' n ev) (hr : Rm (k + 1) X.A) (M : Mk X.K (He.ga X.K c) f) (hg : Gl X x) (hm : X.mg x = some (.ref (He.ga X.K c))) (hb : Binds X.K fd ps [])
    (ha : SA X E (e :: es) g) (hdb : (x == ("__debug__" : Str)) = false := by decide) (he : starEach (e :: es) X.env = (false, eval e X.env) :: starEach es X.env := by rfl) (hpl : (backTo pos (starEach es X.env)).any (·.1) = false := by rfl) :
    SE X E (.Call (.Name x p) (e :: es) [] pos) (eMkS c ev g) := ⟨PE.imp (pe_makeW M F hr hg hm hb (fun σ => passAt tk σ) ha.pa hdb he hpl) fun _ _ _ h => t_mkS te h⟩
theorem se_mthP {pl : Sem Bool} (tk : Takes X E) (F : FnG X.prog X.w X.K X.mg X.base k f fd ps (SpS X.K n ev)) (te : Takes' n ev) (hr : Rm k X.A) (hc : Cls X.K (He.ga X.K c)) (hm : Meth X.K (He.ga X.K c) m f) (hb : Binds X.K fd ps []) (ho : SE X E o fo)
    (ha : SA X E (e :: es) g) (hst : starEach (e :: es) X.env = (false, eval e X.env) :: starEach es X.env := by rfl) (hpl : (backTo pos (starEach es X.env)).any (·.1) = false := by rfl)
    (ht : eval (.Call (.Attribute o m apos) (e :: es) [] pos) X.env = (do
      let ov ← eval o X.env
      standAt apos.atName
      let (f, first) ← holding [ov] (getMethod ov m pl)
      callWith pos f first (backTo pos (starEach (e :: es) X.env)) (backToKw pos (keywordEach [] X.env))) := by rfl) :
    SE X E (.Call (.Attribute o m apos) (e :: es) [] pos) (eMthP c m (pureF ev) fo g) := ⟨PE.imp (pe_methW ho.pe hc hm F hr hb (fun σ => passAt tk σ) ha.pa hst hpl ht) fun _ _ _ h => t_mthP te h⟩
theorem se_mthS {pl : Sem Bool} (tk : Takes X E) (F : FnG X.prog X.w X.K X.mg X.base k f fd ps (SpS X.K n ev)) (te : Takes' n ev) (hr : Rm k X.A) (hc : Cls X.K (He.ga X.K c)) (hm : Meth X.K (He.ga X.K c) m f) (hb : Binds X.K fd ps []) (ho : SE X E o fo)
    (ha : SA X E (e :: es) g) (hst : starEach (e :: es) X.env = (false, eval e X.env) :: starEach es X.env := by rfl) (hpl : (backTo pos (starEach es X.env)).any (·.1) = false := by rfl)
    (ht : eval (.Call (.Attribute o m apos) (e :: es) [] pos) X.env = (do
      let ov ← eval o X.env
      standAt apos.atName
      let (f, first) ← holding [ov] (getMethod ov m pl)
      callWith pos f first (backTo pos (starEach (e :: es) X.env)) (backToKw pos (keywordEach [] X.env))) := by rfl) :
    SE X E (.Call (.Attribute o m apos) (e :: es) [] pos) (eMthS c m ev fo g) := ⟨PE.imp (pe_methW ho.pe hc hm F hr hb (fun σ => passAt tk σ) ha.pa hst hpl ht) fun _ _ _ h => t_mthS te h⟩
end
end Fw
namespace Fw
open PySem PySem.Spec PyProof.Rows L2
/-! ### repr of a list, a tuple -/
def canShow (x : PyData) : Bool := x.canLay0 && (x.showable && (decide (x.depth ≤ 60) && decide (x.shown.length ≤ 100000)))
def isSeqD : PyData → Bool
  | .list _ => true
  | .tuple _ => true
  | _ => false
def oRepr : OA := fun vs S => match vs with
  | [v] => match toD v S with
    | some (x, S') => when (canShow x) (.d (.str x.shown), S')
    | none => none
  | _ => none
section
variable {X : Cx}
theorem cr_repr (hg : X.A.guards = some []) (hu : X.A.units + 64 < cLine) : CallR X (.builtin "repr") (rA X.K oRepr) := fun pins s σ H xs us Q I rs h => by
  obtain ⟨F, ι, S, vs, v, S', sm, q, e, t⟩ := h
  unfold oRepr at e
  split at e
  · next v0 =>
    split at e
    · next x S1 hd =>
      obtain ⟨hc, e⟩ := when_some e
      cases e
      obtain ⟨w, rfl, qw⟩ := vall1 q
      obtain ⟨F1, x1, s1, i1⟩ := toD_ok sm qw hd
      obtain ⟨h1, h2⟩ := Bool.and_eq_true_iff.mp hc
      obtain ⟨h2, h3⟩ := Bool.and_eq_true_iff.mp h2
      obtain ⟨h3, h4⟩ := Bool.and_eq_true_iff.mp h3
      have h3 := of_decide_eq_true h3
      have h4 := of_decide_eq_true h4
      have seq : ∀ a, w = .ref a → wpAny (model X.prog X.w) X.A (call (.builtin "repr") us) (EP X pins σ Q) X.xe s := fun a ha => by
        subst ha
        cases rs with
        | cons r rr =>
          cases rr
          cases r
          obtain ⟨as, rd⟩ := Dp.reads I x (.ref a) _ (i1.dp h1) rfl
          refine repr_of_reads' (h₀ := s.heap) rd h2 (fun z => by rw [PyData.hasDict_of_canLay x h1] at z; cases z) hg (by omega) (fun _ _ e => e) (fun h' u tk k => ?_) (big_line h4)
          exact ⟨.str x.shown, H, I.kept (t' := tk) k, ⟨_, rfl⟩, t F1 ι H _ x1 s1 (.str _)⟩
      have fin : ∀ tk, EP X pins σ Q (.str x.shown tk) { s with toks := tk + 1 } := fun tk => ⟨.str x.shown, H, I.kept (h' := s.heap) (t' := tk + 1) (fun _ _ e => e), ⟨_, rfl⟩, t F1 ι H _ x1 s1 (.str _)⟩
      cases x with
      | list xs => cases i1 with | lst hx ax => exact seq _ rfl
      | tuple xs => cases i1 with | tup hx ax => exact seq _ rfl
      | none =>
        cases i1
        cases rs with
        | cons r rr =>
          cases rr
          cases r
          exact PySem.P.repr_of_none (fin _)
      | bool b =>
        cases i1
        cases rs with
        | cons r rr =>
          cases rr
          cases r
          exact PySem.P.repr_of_bool (by cases b <;> exact fin _)
      | int i =>
        cases i1
        cases rs with
        | cons r rr =>
          cases rr
          obtain ⟨_, rfl⟩ := r
          exact PySem.P.repr_of_int (by simpa [PyData.showable] using h2) (fin _)
      | str z =>
        cases i1
        cases rs with
        | cons r rr =>
          cases rr
          obtain ⟨_, rfl⟩ := r
          exact PySem.P.repr_of_str (fin _) (big_line h4)
      | dict kvs => cases h1
    · cases e
  · cases e
end
/-! ### keywords -/
structure SK (X : Cx) (E : WX) (kws : List Keyword) (f : AF) : Prop where
  pk : PK X kws (TAf E X.K f)
theorem PK.imp {X : Cx} {kws : List Keyword} {t t' : TA} (h : PK X kws t) (i : ∀ σ H Q, t' σ H Q → t σ H Q) : PK X kws t' := ⟨fun pos pins s σ H Q I q => h.run pos pins s σ H Q I (i σ H Q q)⟩
def pick {α : Type} (idx : List Nat) (xs : List α) : List α := idx.filterMap fun i => xs[i]?
/-- the positional arguments, the keywords, in the parameters' order -/
def kwGo (idx : List Nat) (nu nk : Nat) (g gk : AF) (k : List Val → Store → R Val) : EF := fun env S => (g env S).bind fun vs S1 => match decide (vs.length = nu) with
  | true => (gk env S1).bind fun us S2 => match decide (us.length = nk) with
    | true => k (pick idx (vs ++ us)) S2
    | false => .bad
  | false => .bad
/-- a function of data, over a store -/
def runP (f : List PyData → Out) : List Val → Store → R Val := fun vs S => match toDs vs S with
  | some (xs, S2) => liftO (f xs) S2
  | none => .bad
theorem VAll.pick {K : Fg} {F : Fz} {ι : List Addr} {H : Hp} {ws : List V} {vs : List Val} (h : VAll K F ι H ws vs) : ∀ idx : List Nat, VAll K F ι H (Fw.pick idx ws) (Fw.pick idx vs)
  | [] => trivial
  | i :: idx => by
    unfold Fw.pick
    rw [List.filterMap_cons, List.filterMap_cons]
    have hl := h.length
    cases hv : vs[i]? with
    | none =>
      have : ws[i]? = none := by
        rw [List.getElem?_eq_none_iff] at hv ⊢
        omega
      rw [this]
      exact VAll.pick h idx
    | some v =>
      obtain ⟨w, h1, h2⟩ := h.get hv
      rw [h1]
      exact ⟨h2, VAll.pick h idx⟩
theorem vals_pick {ws : List V} {us : List Value} (h : Vals ws us) : ∀ idx : List Nat, Vals (Fw.pick idx ws) (Fw.pick idx us)
  | [] => .nil
  | i :: idx => by
    unfold Fw.pick
    rw [List.filterMap_cons, List.filterMap_cons]
    have hl := h.length
    cases hv : ws[i]? with
    | none =>
      have : us[i]? = none := by
        rw [List.getElem?_eq_none_iff] at hv ⊢
        omega
      rw [this]
      exact vals_pick h idx
    | some v =>
      obtain ⟨u, h1, h2⟩ := h.get hv
      rw [h1]
      exact .cons h2 (vals_pick h idx)
/-- how such a call binds -/
def KwB (K : Fg) (fd : FuncData) (ps ks : List Str) (idx : List Nat) (nu : Nat) : Prop := ∀ (s : Shared) (us ws : List Value), K.In s.heap → us.length = nu → ws.length = ks.length → BindsTo s fd ⟨us, ks.zip ws⟩ (ps.zip (Fw.pick idx (us ++ ws)))
theorem kwb_of {K : Fg} {x qual : Str} {params : Arguments} {body : List Stmt} {scope : Scope} {kws : List (Str × V)} {f : Addr} {fd : FuncData} {ps ks : List Str} {idx : List Nat} {nu : Nat} (F : FunD K x qual params body scope [] kws f fd)
    (h : ∀ (kV doc pm : Value) (an : Option Addr) (cdv ct : Value) (us ws : List Value), us.length = nu → ws.length = ks.length → bindArgs (PySem.W.fnOf x qual params body scope .none kV doc pm an cdv ct) ⟨us, ks.zip ws⟩ = pure (ps.zip (Fw.pick idx (us ++ ws)))) : KwB K fd ps ks idx nu := by
  obtain ⟨oc, od, dV, kV, doc, pm, an, cdv, ct, osl, rfl, lk, hcd, hD, hK⟩ := F.ex
  have e : dV = .none := by
    rcases hD with ⟨_, e⟩ | ⟨e, _⟩
    · exact e
    · exact absurd rfl e
  subst e
  exact fun s us ws _ h1 h2 => .of_eq (h kV doc pm an cdv ct us ws h1 h2)
section
variable {X : Cx} {E : WX} {k n nu : Nat} {f : Addr} {fd : FuncData} {ps ks : List Str} {idx : List Nat} {ev : FnV} {sp : Sp} {x : Str} {p pos kpos : Pos} {e : Expr} {es : List Expr} {kws : List Keyword} {g gk : AF} {ef : EF} {nm : Option Str} {t tk : TA} {E' : L2.St → XK}
theorem sk_nil : SK X E [] aNil := ⟨PK.imp pk_nil fun σ H Q ⟨F, ι, env, S, s, en, l⟩ => l F ι H [] (.refl _ _ _) s trivial⟩
theorem sk_cons (ha : SE X E e ef) (hr : SK X E kws g) : SK X E (⟨nm, e, kpos⟩ :: kws) (aCons ef g) := ⟨PK.imp (pk_cons ha.pe hr.pk) fun σ H Q ⟨F, ι, env, S, s, en, l⟩ => by
  refine ⟨F, ι, env, S, s, en, (l.bind (rel := relV X.K)).imp ?_⟩
  rintro w H1 ⟨F1, ι1, a, S1, x1, s1, q1, l1⟩
  refine ⟨F1, ι1, env, S1, s1, en.mono x1, (l1.bind (rel := relA X.K)).imp ?_⟩
  rintro ws H2 ⟨F2, ι2, vs, S2, x2, s2, q2, l2⟩
  exact l2 F2 ι2 H2 (w :: ws) (.refl _ _ _) s2 ⟨q1.mono x2, q2⟩⟩
def tKw (idx : List Nat) (nu nk : Nat) (t tk : TA) (sp : Sp) (E' : L2.St → XK) : TE := fun σ H Q => t σ H fun vs H1 => vs.length = nu ∧ tk σ H1 fun us H2 => us.length = nk ∧ sp (Fw.pick idx (vs ++ us)) H2 Q (E' σ)
theorem pe_callKG (F : FnG X.prog X.w X.K X.mg X.base k f fd ps sp) (hr : Rm k X.A) (hg : Gl X x) (hm : X.mg x = some (.ref f)) (hk : PySem.W.keepIn X.K (.ref f) = true) (hb : KwB X.K fd ps ks idx nu) (hx : ∀ σ, PassesAt (L2.CX X.prog X.w) X σ (E' σ))
    (ha : PA X (e :: es) t) (hkw : PK X kws tk) (hall : (backToKw pos (keywordEach kws X.env)).all (·.1.isSome) = true := by rfl) (hks : (backToKw pos (keywordEach kws X.env)).filterMap (·.1) = ks := by rfl)
    (hdb : (x == ("__debug__" : Str)) = false := by decide) (he : starEach (e :: es) X.env = (false, eval e X.env) :: starEach es X.env := by rfl)
    (hpl : ((backTo pos (starEach (e :: es) X.env)).any (·.1) || (backToKw pos (keywordEach kws X.env)).any (·.1.isNone)) = false := by rfl) :
    PE X (.Call (.Name x p) (e :: es) kws pos) (tKw idx nu ks.length t tk sp E') := ⟨fun pins s σ H Q I h => by
  refine wpAny_Call_Name_kw (ld_glob I hg hm (PySem.W.callWith_KW (h₀ := X.base) I.ok.mod.kin hk hall (thn (ha.run pos pins s σ H _ I h) ?_) hpl he) hdb)
  rintro us s1 ⟨vs, H1, I1, r, hn, q⟩
  refine thn (hkw.run pos pins s1 σ H1 _ I1 q) ?_
  rintro ws s2 ⟨zs, H2, I2, rz, hn2, q2⟩
  refine ⟨I2.kIn, ?_⟩
  rw [hks]
  have rr := vals_pick (r.append rz) idx
  exact run_fnG (args := ⟨us, ks.zip ws⟩) F hr (hx σ) I2 (hb s2 us ws I2.kIn (by rw [← r.length]; exact hn) (by rw [← rz.length]; exact hn2)) rr q2⟩
theorem pe_callKG0 (F : FnG X.prog X.w X.K X.mg X.base k f fd ps sp) (hr : Rm k X.A) (hg : Gl X x) (hm : X.mg x = some (.ref f)) (hk : PySem.W.keepIn X.K (.ref f) = true) (hb : KwB X.K fd ps ks idx 0) (hx : ∀ σ, PassesAt (L2.CX X.prog X.w) X σ (E' σ))
    (hkw : PK X kws tk) (hall : (backToKw pos (keywordEach kws X.env)).all (·.1.isSome) = true := by rfl) (hks : (backToKw pos (keywordEach kws X.env)).filterMap (·.1) = ks := by rfl)
    (hdb : (x == ("__debug__" : Str)) = false := by decide)
    (hpl : ((backTo pos (starEach [] X.env)).any (·.1) || (backToKw pos (keywordEach kws X.env)).any (·.1.isNone)) = false := by rfl) :
    PE X (.Call (.Name x p) [] kws pos) (tKw idx 0 ks.length tNil tk sp E') := ⟨fun pins s σ H Q I h => by
  refine wpAny_Call_Name_kw (ld_glob I hg hm (PySem.W.callWith_KW0 (h₀ := X.base) I.ok.mod.kin hk hall (thn (hkw.run pos pins s σ H _ I h.2) ?_) hpl) hdb)
  rintro ws s2 ⟨zs, H2, I2, rz, hn2, q2⟩
  refine ⟨I2.kIn, ?_⟩
  rw [hks]
  have rr := vals_pick rz idx
  exact run_fnG (args := ⟨[], ks.zip ws⟩) F hr (hx σ) I2 (hb s2 [] ws I2.kIn rfl (by rw [← rz.length]; exact hn2)) rr q2⟩
theorem kw_lands {K : Fg} {ev' : List Val → Store → R Val} {nk : Nat} {σ : L2.St} {H : Hp} {Q : VK} (h : TEf E K (kwGo idx nu nk g gk ev') σ H Q) (hsp : ∀ (F : Fz) (ι : List Addr) (S : Store) (H : Hp) (ws : List V) (vs : List Val), Sim K F ι S H → VAll K F ι H ws vs → Lands K E σ F ι H (relV K) (ev' vs S) Q → sp ws H Q (WE E σ)) :
    tKw idx nu nk (TAf E K g) (TAf E K gk) sp (WE E) σ H Q := by
  obtain ⟨F, ι, env, S, s, en, l⟩ := h
  refine ⟨F, ι, env, S, s, en, (l.bind (rel := relA K)).imp ?_⟩
  rintro ws H1 ⟨F1, ι1, vs, S1, x1, s1, q1, l1⟩
  split at l1
  · next hz =>
    refine ⟨by rw [q1.length]; exact of_decide_eq_true hz, F1, ι1, env, S1, s1, en.mono x1, (l1.bind (rel := relA K)).imp ?_⟩
    rintro us H2 ⟨F2, ι2, vs2, S2, x2, s2, q2, l2⟩
    split at l2
    · next hd => exact ⟨by rw [q2.length]; exact of_decide_eq_true hd, hsp F2 ι2 S2 H2 _ _ s2 (VAll.pick (VAll.append (q1.mono x2) q2) idx) l2⟩
    · exact l2.elim
  · exact l1.elim
theorem sps_call {K : Fg} (te : Takes' n ev) {σ : L2.St} {Q : VK} (F : Fz) (ι : List Addr) (S : Store) (H : Hp) (ws : List V) (vs : List Val) (s : Sim K F ι S H) (q : VAll K F ι H ws vs) (l : Lands K E σ F ι H (relV K) (ev vs S) Q) : SpS K n ev ws H Q (WE E σ) :=
  have l2 := clands l
  ⟨F, ι, S, vs, s, q, len_of te l2, l2⟩
theorem sps_callP {K : Fg} (te : Takes' n ev) {σ : L2.St} {Q : VK} (F : Fz) (ι : List Addr) (S : Store) (H : Hp) (ws : List V) (vs : List Val) (s : Sim K F ι S H) (q : VAll K F ι H ws vs) (l : Lands K E σ F ι H (relV K) (runP (pureF ev) vs S) Q) : SpS K n ev ws H Q (WE E σ) := by
  unfold runP at l
  split at l
  · next xs S2 hd =>
    obtain ⟨F2, x2, s2, i2⟩ := toDs_ok s q hd
    have l2 := pure_lands s2 (clands_shift x2 (clands l))
    exact ⟨F2, [], [], xs.map .d, s2.empty, .of_all i2, len_of te l2, l2⟩
  · exact l.elim
theorem se_callK (tk : Takes X E) (F : FnG X.prog X.w X.K X.mg X.base k f fd ps (SpS X.K n ev)) (te : Takes' n ev) (hr : Rm k X.A) (hg : Gl X x) (hm : X.mg x = some (.ref f)) (hk : PySem.W.keepIn X.K (.ref f) = true) (hb : KwB X.K fd ps ks idx nu)
    (ha : SA X E (e :: es) g) (hkw : SK X E kws gk) (hall : (backToKw pos (keywordEach kws X.env)).all (·.1.isSome) = true := by rfl) (hks : (backToKw pos (keywordEach kws X.env)).filterMap (·.1) = ks := by rfl)
    (hdb : (x == ("__debug__" : Str)) = false := by decide) (he : starEach (e :: es) X.env = (false, eval e X.env) :: starEach es X.env := by rfl)
    (hpl : ((backTo pos (starEach (e :: es) X.env)).any (·.1) || (backToKw pos (keywordEach kws X.env)).any (·.1.isNone)) = false := by rfl) : SE X E (.Call (.Name x p) (e :: es) kws pos) (kwGo idx nu ks.length g gk ev) :=
  ⟨PE.imp (pe_callKG F hr hg hm hk hb (fun σ => passAt tk σ) ha.pa hkw.pk hall hks hdb he hpl) fun _ _ _ h => kw_lands h (sps_call te)⟩
theorem se_callKP (tk : Takes X E) (F : FnG X.prog X.w X.K X.mg X.base k f fd ps (SpS X.K n ev)) (te : Takes' n ev) (hr : Rm k X.A) (hg : Gl X x) (hm : X.mg x = some (.ref f)) (hk : PySem.W.keepIn X.K (.ref f) = true) (hb : KwB X.K fd ps ks idx nu)
    (ha : SA X E (e :: es) g) (hkw : SK X E kws gk) (hall : (backToKw pos (keywordEach kws X.env)).all (·.1.isSome) = true := by rfl) (hks : (backToKw pos (keywordEach kws X.env)).filterMap (·.1) = ks := by rfl)
    (hdb : (x == ("__debug__" : Str)) = false := by decide) (he : starEach (e :: es) X.env = (false, eval e X.env) :: starEach es X.env := by rfl)
    (hpl : ((backTo pos (starEach (e :: es) X.env)).any (·.1) || (backToKw pos (keywordEach kws X.env)).any (·.1.isNone)) = false := by rfl) : SE X E (.Call (.Name x p) (e :: es) kws pos) (kwGo idx nu ks.length g gk (runP (pureF ev))) :=
  ⟨PE.imp (pe_callKG F hr hg hm hk hb (fun σ => passAt tk σ) ha.pa hkw.pk hall hks hdb he hpl) fun _ _ _ h => kw_lands h (sps_callP te)⟩
theorem kw_lands0 {K : Fg} {ev' : List Val → Store → R Val} {nk : Nat} {σ : L2.St} {H : Hp} {Q : VK} (h : TEf E K (kwGo idx 0 nk aNil gk ev') σ H Q) (hsp : ∀ (F : Fz) (ι : List Addr) (S : Store) (H : Hp) (ws : List V) (vs : List Val), Sim K F ι S H → VAll K F ι H ws vs → Lands K E σ F ι H (relV K) (ev' vs S) Q → sp ws H Q (WE E σ)) :
    tKw idx 0 nk tNil (TAf E K gk) sp (WE E) σ H Q := by
  obtain ⟨F, ι, env, S, s, en, l⟩ := h
  have l1 : Lands K E σ F ι H (relV K) ((gk env S).bind fun us S2 => match decide (us.length = nk) with
    | true => ev' (Fw.pick idx us) S2
    | false => .bad) Q := l
  refine ⟨rfl, F, ι, env, S, s, en, (l1.bind (rel := relA K)).imp ?_⟩
  rintro us H2 ⟨F2, ι2, vs2, S2, x2, s2, q2, l2⟩
  split at l2
  · next hd => exact ⟨by rw [q2.length]; exact of_decide_eq_true hd, hsp F2 ι2 S2 H2 _ _ s2 (VAll.pick q2 idx) l2⟩
  · exact l2.elim
theorem se_callK0 (tk : Takes X E) (F : FnG X.prog X.w X.K X.mg X.base k f fd ps (SpS X.K n ev)) (te : Takes' n ev) (hr : Rm k X.A) (hg : Gl X x) (hm : X.mg x = some (.ref f)) (hk : PySem.W.keepIn X.K (.ref f) = true) (hb : KwB X.K fd ps ks idx 0)
    (hkw : SK X E kws gk) (hall : (backToKw pos (keywordEach kws X.env)).all (·.1.isSome) = true := by rfl) (hks : (backToKw pos (keywordEach kws X.env)).filterMap (·.1) = ks := by rfl)
    (hdb : (x == ("__debug__" : Str)) = false := by decide)
    (hpl : ((backTo pos (starEach [] X.env)).any (·.1) || (backToKw pos (keywordEach kws X.env)).any (·.1.isNone)) = false := by rfl) : SE X E (.Call (.Name x p) [] kws pos) (kwGo idx 0 ks.length aNil gk ev) :=
  ⟨PE.imp (pe_callKG0 F hr hg hm hk hb (fun σ => passAt tk σ) hkw.pk hall hks hdb hpl) fun _ _ _ h => kw_lands0 h (sps_call te)⟩
theorem se_callKP0 (tk : Takes X E) (F : FnG X.prog X.w X.K X.mg X.base k f fd ps (SpS X.K n ev)) (te : Takes' n ev) (hr : Rm k X.A) (hg : Gl X x) (hm : X.mg x = some (.ref f)) (hk : PySem.W.keepIn X.K (.ref f) = true) (hb : KwB X.K fd ps ks idx 0)
    (hkw : SK X E kws gk) (hall : (backToKw pos (keywordEach kws X.env)).all (·.1.isSome) = true := by rfl) (hks : (backToKw pos (keywordEach kws X.env)).filterMap (·.1) = ks := by rfl)
    (hdb : (x == ("__debug__" : Str)) = false := by decide)
    (hpl : ((backTo pos (starEach [] X.env)).any (·.1) || (backToKw pos (keywordEach kws X.env)).any (·.1.isNone)) = false := by rfl) : SE X E (.Call (.Name x p) [] kws pos) (kwGo idx 0 ks.length aNil gk (runP (pureF ev))) :=
  ⟨PE.imp (pe_callKG0 F hr hg hm hk hb (fun σ => passAt tk σ) hkw.pk hall hks hdb hpl) fun _ _ _ h => kw_lands0 h (sps_callP te)⟩
end
end Fw
namespace Fw
open PySem PySem.Spec PyProof.Rows L2
theorem sss_bad {X : Cx} {E : WX} {st : List Stmt} : SSs X E st sBad := ⟨⟨fun pins s σ H D I ⟨F, ι, env, S, s', en, l⟩ => l.elim⟩⟩
/-! ### a law's end -/
theorem rm_caller {k : Nat} (h : Room k callerA) : Rm k callerA := ⟨h, rfl⟩
/-- nothing is tracked but perhaps the script -/
structure Lone (K : Fg) (s : Shared) (a : Addr) (H : Hp) : Prop where
  only : ∀ b, H b = none ∨ ∃ o xs, H b = some (.frz o (.lst xs))
  at_ : ∀ b, H b ≠ none → b = a
  out : H a ≠ none → K.lookup a = none
section
variable {P : Program} {w : World} {K : Fg} {mg mb : Str → Option Value} {k : Nat} {fa a : Addr} {fd : FuncData} {x : Str} {sp : Sp} {s₁ : Shared} {vs : List Value} {ns : List Int} {H : Hp}
theorem lone_run (L : Lone K s₁ a H) (KX : K.In s₁.heap) (hns : s₁.heap.Ns mainGlobals mg) (hb : s₁.heap.Ns builtinsNs mb) (hbb : ∀ x : Str, x ≠ "__name__" → mb x = bootBuiltins x) (hlim : s₁.heap.NoLimit) (hg : s₁.gens = #[])
    (ha : s₁.heap.get? a = some { cls := .type "list", data := .seq vs.toArray }) (hr : Rm k callerA)
    (F : ∀ base : Heap, K.In base → base.Ns mainGlobals mg → FnG P w K mg base k fa fd [x] sp) (hbind : ∀ (s : Shared) (u : Value), BindsTo s fd ⟨[u], []⟩ [(x, u)]) (hok : HOk P w H s₁.heap)
    (hsp : sp [.ref a] H (fun v _ => v = .bl true) fun _ _ _ => False) (hCX : ∀ e s', L2.CX P w [] H s₁ (fun _ _ _ => False) e s' → False) :
    codeAny (model P w) callerA (.call (.ref fa) ⟨[.ref a], []⟩) (fun r s' => r = .ok (.ret (.bool true)) ∧ OldK s₁.heap s'.heap ∧ s'.os = s₁.os ∧ AllBare s'.gens) s₁ := by
  have keepNs : ∀ {b : Addr} {m : Str → Option Value}, s₁.heap.Ns b m → (hidT s₁.heap H).Ns b m := by
    rintro b m ⟨o, es, ep, e, d, r⟩
    refine ⟨o, es, ep, hidT_get e ?_, d, r⟩
    cases q : H b with
    | none => rfl
    | some u =>
      have hba := L.at_ b (by rw [q]; intro z; cases z)
      rw [hba, ha] at e
      cases e
      exact absurd (show Data.seq vs.toArray _ = Data.dict es ep from d) (by intro z; cases z)
  have inB : K.In (hidT s₁.heap H) := by
    intro b o e
    refine hidT_get (KX b o e) ?_
    cases q : H b with
    | none => rfl
    | some u =>
      have hq : H b ≠ none := by
        rw [q]
        intro z
        cases z
      have hba := L.at_ b hq
      rw [hba] at hq e
      rw [L.out hq] at e
      cases e
  have md : Mod K mg (hidT s₁.heap H) := ⟨inB, keepNs hns, ⟨mb, keepNs hb, hbb⟩, hlim.elim fun mc h => ⟨mc, keepNs h.1, h.2⟩⟩
  have none_in : ∀ b : Addr, b ∈ ([] : List Addr) → False := fun b hb => List.not_mem_nil hb
  have e0 : Env0 P w K mg (hidT s₁.heap H) callerA [] s₁ H := ⟨rfl, md, fun b o e => of_hidT e, Nat.le_of_eq (hidT_size _ _), trivial, fun b hb => (none_in b hb).elim, hok, .of_eq hg⟩
  refine codeAny_mono ((F _ inB (keepNs hns)).run callerA [] s₁ H ⟨[.ref a], []⟩ [.ref a] [.ref a] _ _ hr e0 (hbind s₁ (.ref a)) (.cons rfl .nil) hsp) ?_
  intro r s' h
  cases r with
  | error e => exact (hCX e s' h).elim
  | ok fl =>
    cases fl with
    | ret u =>
      obtain ⟨v, H', os, bare, un, hok', r', rfl⟩ := h
      obtain rfl : u = Value.bool true := r'
      refine ⟨rfl, OldK.of_keep ?_, os, bare⟩
      intro b o e
      cases q : H b with
      | none => exact un.keep b o e q (fun z => none_in b z) (by simp)
      | some u =>
        obtain z | ⟨ob, xs, z⟩ := L.only b
        · rw [q] at z
          cases z
        · obtain ⟨e1, _⟩ := hok b _ z
          obtain ⟨e2, _⟩ := hok' b _ (un.frzs b ob _ z)
          rw [e] at e1
          cases e1
          exact e2
    | _ => exact h.elim
/-- the call of the law -/
theorem law_callG (KX : K.In s₁.heap) (hns : s₁.heap.Ns mainGlobals mg) (hb : s₁.heap.Ns builtinsNs mb) (hbb : ∀ x : Str, x ≠ "__name__" → mb x = bootBuiltins x) (hlim : s₁.heap.NoLimit) (hg : s₁.gens = #[])
    (ha : s₁.heap.get? a = some { cls := .type "list", data := .seq vs.toArray }) (hi : IntsAre vs ns) (hl : ns.length ≤ sizeLine) (hr : Rm k callerA)
    (F : ∀ base : Heap, K.In base → base.Ns mainGlobals mg → FnG P w K mg base k fa fd [x] sp) (hbind : ∀ (s : Shared) (u : Value), BindsTo s fd ⟨[u], []⟩ [(x, u)])
    (hsp : ∀ H : Hp, Only H → SqL K H a (ns.map V.int) → sp [.ref a] H (fun v _ => v = .bl true) fun _ _ _ => False) (hCX : ∀ H e s', L2.CX P w [] H s₁ (fun _ _ _ => False) e s' → False) :
    codeAny (model P w) callerA (.call (.ref fa) ⟨[.ref a], []⟩) (fun r s' => r = .ok (.ret (.bool true)) ∧ OldK s₁.heap s'.heap ∧ s'.os = s₁.os ∧ AllBare s'.gens) s₁ := by
  have rv := vals_ints hi
  cases hk : K.lookup a with
  | some o =>
    have e := KX a o hk
    rw [ha] at e
    cases e
    have L : Lone K s₁ a fun _ => none := ⟨fun _ => .inl rfl, fun b z => absurd rfl z, fun z => absurd rfl z⟩
    have hS : SqL K (fun _ => none) a (ns.map V.int) := .inr ⟨_, vs.toArray, _, hk, rfl, rfl, rfl, by rw [List.size_toArray, hi.length]; exact hl, rv⟩
    exact lone_run L KX hns hb hbb hlim hg ha hr F hbind (fun b u z => by cases z) (hsp _ L.only hS) (hCX _)
  | none =>
    obtain ⟨H, hH⟩ : ∃ H : Hp, H = fun b => if b = a then some (.frz { cls := .type "list", data := .seq vs.toArray } (.lst (ns.map V.int))) else none := ⟨_, rfl⟩
    have h1 : H a = some (.frz { cls := .type "list", data := .seq vs.toArray } (.lst (ns.map V.int))) := by rw [hH]; exact if_pos rfl
    have h2 : ∀ b, b ≠ a → H b = none := fun b hb => by rw [hH]; exact if_neg hb
    have L : Lone K s₁ a H := by
      refine ⟨fun b => ?_, fun b z => ?_, fun _ => hk⟩
      · by_cases hb : b = a
        · rw [hb]
          exact .inr ⟨_, _, h1⟩
        · exact .inl (h2 b hb)
      · by_cases hb : b = a
        · exact hb
        · exact absurd (h2 b hb) z
    refine lone_run L KX hns hb hbb hlim hg ha hr F hbind (fun b u z => ?_) (hsp _ L.only (.inl (.inr ⟨_, h1⟩))) (hCX _)
    by_cases hb : b = a
    · rw [hb, h1] at z
      cases z
      rw [hb]
      exact ⟨ha, by rw [List.length_map]; exact hl, vs, _, rv, ha⟩
    · rw [h2 b hb] at z
      cases z
end
/-- a law over facts, for promises where no repr is on its way -/
theorem walk_ofG {l : PySem.W.OpenLaw} {n k : Nat} {q : Program} {loose : List Str} {XP : (Str → Option Value) → Heap → Prop} {YP : World → Heap → Prop} {d : DefRec} {x : Str}
    (hn : l.most = some n) (hn2 : n ≤ sizeLine) (hdf : d.params.defaults = []) (hr : Room k callerA)
    (F : ∀ (w : World) (mg : Str → Option Value) (fa : Addr) (h : Heap), YP w h → h.Ns mainGlobals mg → mg d.name = some (.ref fa) →
      ∃ (K : Fg) (fd : FuncData) (sp : Sp), K.In h ∧ (∀ (s : Shared) (u : Value), BindsTo s fd ⟨[u], []⟩ [(x, u)]) ∧
        (∀ (H : Hp) (a : Addr) (ns : List Int), ns.length ≤ n → Only H → SqL K H a (ns.map V.int) → sp [.ref a] H (fun v _ => v = .bl true) fun _ _ _ => False) ∧
        ∀ base : Heap, K.In base → base.Ns mainGlobals mg → FnG l.prog w K mg base k fa fd [x] sp)
    (hCX : ∀ (w : World) (H : Hp) (s : Shared) (e : Value) (s' : Shared), L2.CX l.prog w [] H s (fun _ _ _ => False) e s' → False) :
    PySem.W.WalkO q loose XP YP l.row.toRowW d [] (fun f vs => PySem.call f vs) := by
  refine Att.attach_call hn hdf ?_
  intro w s₀ s₁ mg mb fa o pm cd doc a vs ns G Y ho hd hcd hmg hobj hints hlen hg
  obtain ⟨K, fd, sp, KX, hb, hsp, hF⟩ := F w mg fa _ Y G.T.g hmg
  exact law_callG KX G.T.g G.T.b G.T.builtins G.T.nolimit hg hobj hints (Nat.le_trans hlen hn2) (rm_caller hr) hF hb (fun H hO hS => hsp H a ns hlen hO hS) fun H e s' => hCX w H s₁ e s'
theorem no_cx {P : Program} {w : World} (H : Hp) (s : Shared) (e : Value) (s' : Shared) (h : L2.CX P w [] H s (fun _ _ _ => False) e s') : False := by
  obtain ⟨_, _, _, _, _, _, _, _, _, _, _, _, z⟩ := h
  exact z
/-- the script as a value -/
def scrV (ns : List Int) : Val := .d (scrD (ns.map PyData.int))
theorem is_ints {K : Fg} {F : Fz} {H : Hp} : ∀ ns : List Int, IsAll K F H (ns.map V.int) (ns.map PyData.int)
  | [] => .nil
  | n :: ns => .cons (.int n) (is_ints ns)
/-- the law's promise from its evaluator's answer -/
theorem law_sp {K : Fg} {ev : FnV} {H : Hp} {a : Addr} {ns : List Int} (hO : Only H) (hS : SqL K H a (ns.map V.int)) (h : ∃ S', ev [scrV ns] [] = .ok (.d (.bool true)) S') : SpS K 1 ev [.ref a] H (fun v _ => v = .bl true) fun _ _ _ => False := by
  have hs : SqS K H a (ns.map V.int) := by
    rcases hS with (h1 | h1) | h1
    · rcases hO a with z | ⟨o, xs, z⟩
      · rw [z] at h1
        cases h1
      · rw [z] at h1
        cases h1
    · exact .inl h1
    · exact .inr fun H' => .inr h1
  obtain ⟨S', h⟩ := h
  refine ⟨fun _ => False, [], [], [scrV ns], .nil (fun _ z => z.elim), ⟨.scr hs (is_ints ns), trivial⟩, rfl, ?_⟩
  rw [h]
  intro F' ι' H' w _ _ q
  cases q
  rfl
end Fw
namespace Fw
open PySem PySem.Spec PyProof.Rows L2
/-! ### sets of texts -/
def txtOf (e : Int × Value) : Str := match e.2 with
  | .str x _ => x
  | _ => Str.empty
/-- a new set -/
abbrev setO (w : World) : Obj := { cls := .type "set", dict := none, data := .set #[] 0 (.fresh 0 0 (!w.params.followText "set-order")) }
/-- an entry: a text by its hash -/
def TxtE (P : Program) (w : World) (e : Int × Value) : Prop := ∃ k tk, e.2 = .str k tk ∧ e.1 = (PySem.strKind P w).hash k
/-- the set of texts at a: S its members, n their number -/
def SetX (P : Program) (w : World) (h : Heap) (a : Addr) (S : Str → Bool) (n : Nat) : Prop :=
  ∃ o es ep t, h.get? a = some o ∧ o.ExactSet ∧ o.data = .set es ep t ∧ (∀ e ∈ es.toList, TxtE P w e) ∧ (es.toList.map txtOf).Nodup ∧ (∀ k, S k = true ↔ k ∈ es.toList.map txtOf) ∧
    es.size < scanBound ∧ t.fits es.size = true ∧ es.size = n ∧ Ris t.place.toList ∧ (w.params.followText "set-order" = true ∨ t.led = true)
section
variable {P : Program} {w : World} {h h' : Heap} {a : Addr} {S : Str → Bool} {n : Nat}
theorem SetX.at (R : SetX P w h a S n) (k : ∀ o, h.get? a = some o → h'.get? a = some o) : SetX P w h' a S n := by
  obtain ⟨o, es, ep, t, ho, r⟩ := R
  exact ⟨o, es, ep, t, k o ho, r⟩
theorem SetX.congr {S' : Str → Bool} (R : SetX P w h a S n) (e : ∀ k, S' k = S k) : SetX P w h a S' n := by
  rw [show S' = S from funext e]
  exact R
theorem txt_elems {l : List (Int × Value)} (g : ∀ e ∈ l, TxtE P w e) : ElemsOf (PySem.strKind P w) l := fun e he => by
  obtain ⟨k, tk, h1, h2⟩ := g e he
  exact ⟨⟨k, by rw [h1]; exact strKind_is P w k tk, h2⟩, by rw [h1] <;> rfl⟩
theorem txt_is {e : Int × Value} (g : TxtE P w e) (k : Str) : (PySem.strKind P w).is k e.2 = true ↔ txtOf e = k := by
  obtain ⟨k0, tk, h1, _⟩ := g
  have e2 : txtOf e = k0 := by
    unfold txtOf
    rw [h1]
  rw [h1, e2]
  constructor
  · intro z
    obtain ⟨t, z2⟩ := Value.isStrOf_shape (x := k) (v := .str k0 tk) z
    cases z2
    rfl
  · intro z
    rw [← z]
    exact strKind_is P w k0 tk
theorem txt_mem {l : List (Int × Value)} (g : ∀ e ∈ l, TxtE P w e) (k : Str) : k ∈ l.map txtOf ↔ ∃ e ∈ l, (PySem.strKind P w).is k e.2 = true := by
  rw [List.mem_map]
  exact ⟨fun ⟨e, he, q⟩ => ⟨e, he, (txt_is (g e he) k).2 q⟩, fun ⟨e, he, q⟩ => ⟨e, he, (txt_is (g e he) k).1 q⟩⟩
end
section
variable {P : Program} {w : World} {A : Around} {E : Value → Shared → Prop} {s : Shared} {a : Addr} {S : Str → Bool} {n : Nat}
theorem setX_tail {g : Bool → Sem Unit} (hg : ∀ (b : Bool) (s₁ : Shared) (Q' : Unit → Shared → Prop), Q' () s₁ → wpAny (model P w) A (g b) Q' E s₁)
    {o : Obj} {es : Array (Int × Value)} {ep : Nat} {t : SetTable} (ho : s.heap.get? a = some o) (hex : o.ExactSet) (hd : o.data = .set es ep t)
    {es1 : Array (Int × Value)} {t2 : SetTable} {S' : Str → Bool} (g1 : ∀ e ∈ es1.toList, TxtE P w e) (nd1 : (es1.toList.map txtOf).Nodup) (m1 : ∀ k, S' k = true ↔ k ∈ es1.toList.map txtOf)
    (hb1 : es1.size < scanBound) (hf2 : t2.fits es1.size = true) (hr : Ris t2.place.toList) (hl : w.params.followText "set-order" = true ∨ t2.led = true) {wasDummy : Bool} {R : Option Bool → Shared → Prop}
    (hR : ∀ h', Heap.SameBut a s.heap h' → SetX P w h' a S' es1.size → R (some true) { s with heap := h' }) :
    wpAny (model P w) A (do
        storeSet a es1 t2
        if (!wasDummy && t2.tooFull) = true then do
            g (relayAll t2 es1 (SetTable.grown es1.size)).2.2
            storeSet a (relayAll t2 es1 (SetTable.grown es1.size)).1 (relayAll t2 es1 (SetTable.grown es1.size)).2.1
            pure (some true)
          else pure (some true)) R E s := by
  refine wpAny_bind (wpAny_storeSet_of ho hd ?_ (fits_of_scanBound hb1))
  have ho1 := store_at (es' := es1) (t' := t2) ho hd
  have sb1 := Heap.SameBut.update s.heap a (Obj.putSet es1 t2)
  split
  · have pm := relayAll_perm t2 es1 (SetTable.grown es1.size)
    have hf3 := relayAll_fits t2 es1 (SetTable.grown es1.size)
    have hr3 := relayAll_ris t2 es1 (SetTable.grown es1.size)
    have hl3 := relayAll_led t2 es1 (SetTable.grown es1.size)
    generalize relayAll t2 es1 (SetTable.grown es1.size) = Z at pm hf3 hr3 hl3 ⊢
    obtain ⟨es2, t3, gave⟩ := Z
    dsimp only at pm hf3 hr3 hl3 ⊢
    have hsz : es2.size = es1.size := by rw [← Array.length_toList, pm.length_eq, Array.length_toList]
    have hb2 : es2.size < scanBound := by rw [hsz]; exact hb1
    refine wpAny_bind (hg _ _ _ ?_)
    refine wpAny_bind (wpAny_storeSet_of ho1 rfl ?_ (fits_of_scanBound hb2))
    have ho2 := store_at (es' := es2) (t' := t3) ho1 rfl
    refine wpAny_pure (hR _ (sb1.trans (Heap.SameBut.update _ a _)) ?_)
    exact ⟨_, es2, _, t3, ho2, hex, rfl, fun e he => g1 e (pm.mem_iff.mp he), (pm.map txtOf).nodup_iff.mpr nd1, fun k => (m1 k).trans (pm.map txtOf).mem_iff.symm, hb2, hf3, hsz, hr3,
      hl.imp id fun z => by rw [hl3]; exact z⟩
  · exact wpAny_pure (hR _ sb1 ⟨_, es1, _, t2, ho1, hex, rfl, g1, nd1, m1, hb1, hf2, rfl, hr, hl⟩)
theorem setX_add {k : Str} {tk : Tok} {Q : Bool → Shared → Prop} (R : SetX P w s.heap a S n) (room : n + 1 < scanBound)
    (hQ : ∀ h', Heap.SameBut a s.heap h' → SetX P w h' a (fun j => S j || decide (j = k)) (if S k = true then n else n + 1) → Q (!S k) { s with heap := h' }) :
    wpAny (model P w) A (setAddHashed a (.str k tk) ((PySem.strKind P w).hash k)) Q E s := by
  obtain ⟨o, es, ep, t, ho, hex, hd, g, nd, hm, hb, hf, hn, hr, hl⟩ := R
  have hkey : (PySem.strKind P w).is k (.str k tk) = true := strKind_is P w k tk
  have hsc : (Value.str k tk).scannable = true := rfl
  have hel : ElemsOf (PySem.strKind P w) es.toList := txt_elems g
  unfold setAddHashed setAddHashedIn
  refine wpAny_holding (wpAny_bind (wpAny_setState_of ho hd hf ?_))
  dsimp only
  rw [byScan_of hsc hb hel]
  simp only [↓reduceIte]
  unfold setAddByScan
  refine wpAny_bind ?_
  refine wpAny_bind (wpAny_rule ?_)
  refine wpAny_bind (wpAny_setScan_of hkey ho hd hf hel ?_)
  cases hfi : List.findIdx? (fun e => (PySem.strKind P w).is k e.2) es.toList with
  | some j =>
    dsimp only
    obtain ⟨hj, pj, _⟩ := List.findIdx?_eq_some_iff_getElem.mp hfi
    have hSk : S k = true := (hm k).2 ((txt_mem (P := P) (w := w) g k).2 ⟨es.toList[j], List.getElem_mem hj, pj⟩)
    refine wpAny_pure (wpAny_pure ?_)
    have q := hQ s.heap (Heap.SameBut.refl a s.heap) ⟨o, es, ep, t, ho, hex, hd, g, nd, fun i => by
      rw [Bool.or_eq_true, decide_eq_true_eq, ← hm i]
      exact ⟨fun z => z.elim id (fun e => e ▸ hSk), .inl⟩, hb, hf, by rw [if_pos hSk]; exact hn, hr, hl⟩
    rw [hSk] at q
    exact q
  | none =>
    dsimp only
    have hnk : k ∉ es.toList.map txtOf := fun z => by
      obtain ⟨e, he, q⟩ := (txt_mem (P := P) (w := w) g k).1 z
      have c := List.findIdx?_eq_none_iff.mp hfi e he
      rw [q] at c
      cases c
    have hSk : S k = false := by
      cases q : S k with
      | false => rfl
      | true => exact absurd ((hm k).1 q) hnk
    have hgw : ∀ (b : Bool) {s₁ : Shared} {Q' : Unit → Shared → Prop}, Q' () s₁ → wpAny (model P w) A (match b with | true => rule "set.scan.the-table-gave-way" | false => pure ()) Q' E s₁ :=
      fun b s₁ Q' q => by cases b <;> first | exact wpAny_pure q | exact wpAny_rule q
    have pm := layNew_perm t es ((PySem.strKind P w).hash k) (.str k tk)
    have hf1 := layNew_fits t es ((PySem.strKind P w).hash k) (.str k tk)
    have hr1 := layNew_ris t es ((PySem.strKind P w).hash k) (.str k tk) hr
    have hl1 := layNew_led t es ((PySem.strKind P w).hash k) (.str k tk)
    generalize layNew t es ((PySem.strKind P w).hash k) (.str k tk) = Z at pm hf1 hr1 hl1 ⊢
    obtain ⟨es1, t1, wasDummy, gave⟩ := Z
    dsimp only at pm hf1 hr1 hl1 ⊢
    rw [Array.toList_push] at pm
    have pc : es1.toList.Perm (((PySem.strKind P w).hash k, Value.str k tk) :: es.toList) := pm.trans (List.perm_append_singleton _ _)
    have pk : (es1.toList.map txtOf).Perm (k :: es.toList.map txtOf) := pc.map txtOf
    have g1 : ∀ e ∈ es1.toList, TxtE P w e := fun e he => by
      rcases List.mem_cons.mp (pc.mem_iff.mp he) with z | z
      · rw [z]; exact ⟨k, tk, rfl, rfl⟩
      · exact g e z
    have nd1 : (es1.toList.map txtOf).Nodup := pk.nodup_iff.mpr (List.nodup_cons.mpr ⟨hnk, nd⟩)
    have m1 : ∀ i, (S i || decide (i = k)) = true ↔ i ∈ es1.toList.map txtOf := fun i => by
      rw [Bool.or_eq_true, decide_eq_true_eq, hm i, pk.mem_iff, List.mem_cons]
      exact Or.comm
    have hsz : es1.size = n + 1 := by rw [← Array.length_toList, pc.length_eq, List.length_cons, Array.length_toList, hn]
    have hb1 : es1.size < scanBound := by rw [hsz]; exact room
    have hled : w.params.followText "set-order" = true ∨ t1.led = true := hl.imp id fun z => by rw [hl1]; exact z
    have fin : ∀ h', Heap.SameBut a s.heap h' → SetX P w h' a (fun j => S j || decide (j = k)) es1.size → Q true { s with heap := h' } := fun h' sb r => by
      have q := hQ h' sb
      rw [hSk] at q
      rw [hsz] at r
      exact q r
    refine wpAny_bind (hgw _ ?_)
    split
    · refine wpAny_bind ?_
      rw [hashByValue_scannable 8 hsc]
      refine wpAny_pure ?_
      refine setX_tail ?_ ho hex hd g1 nd1 m1 hb1 ?_ ?_ ?_ ?_
      · intro b s₁ Q' q; cases b <;> first | exact wpAny_pure q | exact wpAny_rule q
      · first | (split <;> first | exact hf1 | exact SetTable.fits_plain_off hf1) | exact hf1
      · first | (split <;> exact hr1) | exact hr1
      · first | (split <;> exact hled) | exact hled
      · intro h' sb r; dsimp only; exact wpAny_pure (fin h' sb r)
    · refine wpAny_bind (wpAny_pure ?_)
      simp only [↓reduceIte]
      refine setX_tail ?_ ho hex hd g1 nd1 m1 hb1 hf1 hr1 hled ?_
      · intro b s₁ Q' q; cases b <;> first | exact wpAny_pure q | exact wpAny_rule q
      · intro h' sb r; dsimp only; exact wpAny_pure (fin h' sb r)
theorem set_update_txt {I : Addr} {fp wr : List Addr} {G : Array GenState → Array GenState → Prop} {n : Nat} {Pv : Nat → Value → Prop} {St : Nat → Shared → Prop} {R : Result → Shared → Prop}
    (W : WalksS P w A.in1 I fp wr G n Pv St) (S : Addr) (hSf : S ∉ fp) (ns : List Str) (hn : n = ns.length) (hb : ns.length + 1 < scanBound) (hval : ∀ i v, Pv i v → ∃ k t, ns[i]? = some k ∧ v = .str k t) :
    ∀ (k i : Nat) (s : Shared), n - i = k → i ≤ n → St i s → (∃ c, c ≤ i ∧ SetX P w s.heap S (fun j => decide (j ∈ ns.take i)) c) →
      (∀ s' c, Moved (S :: wr) G s s' → c ≤ n → SetX P w s'.heap S (fun j => decide (j ∈ ns)) c → R (.ok (.ret .none)) s') →
      codeAny (model P w) A (.builtin "set.update.loop" ⟨[.ref S, .ref I], []⟩) R s := by
  have hSw : S ∉ wr := fun h => hSf (W.sub _ h)
  have hsub : ∀ b ∈ wr, b ∈ S :: wr := fun b hb => List.mem_cons_of_mem _ hb
  intro k
  induction k with
  | zero =>
    intro i s hk' hi hst ⟨c, hc, hS⟩ hR
    obtain rfl : i = n := by omega
    refine codeAny_builtin F.entry_set_update_loop ?_
    rw [Around.under_plainId F.plain_set_update_loop _]
    show wpAny _ A.in1 (pyNext (.ref I) >>= _) _ _ s
    refine wpAny_bind (W.done s _ _ hst fun s' hm => ?_)
    show wpAny _ A.in1 (ret Value.none) _ _ s'
    have e : ns.take i = ns := List.take_of_length_le (by omega)
    rw [e] at hS
    exact wpAny_pure (hR s' c (hm.mono hsub) hc (hS.at fun o e => hm.heap S o hSw e))
  | succ k ih =>
    intro i s hk' hi hst ⟨c, hc, hS⟩ hR
    have hlt : i < n := by omega
    refine codeAny_builtin F.entry_set_update_loop ?_
    rw [Around.under_plainId F.plain_set_update_loop _]
    show wpAny _ A.in1 (pyNext (.ref I) >>= _) _ _ s
    refine wpAny_bind (W.item i s _ _ hlt hst fun v s' hP hst' hm => ?_)
    obtain ⟨z, t, hz, rfl⟩ := hval i v hP
    have hS' : SetX P w s'.heap S (fun j => decide (j ∈ ns.take i)) c := hS.at fun o e => hm.heap S o hSw e
    show wpAny _ A.in1 (holding [Value.str z t] (setAdd S (.str z t)) >>= _) _ _ s'
    refine wpAny_bind (wpAny_holding ?_)
    unfold setAdd
    refine wpAny_holding ?_
    refine wpAny_bind ((PySem.strKind P w).pyHash (k := z) (strKind_is _ _ _ _) ?_)
    refine setX_add (s := { s' with toks := s'.toks + 1 }) hS' (by omega) fun h' hsb hS2 => ?_
    have hS3 : SetX P w h' S (fun j => decide (j ∈ ns.take (i + 1))) (if decide (z ∈ ns.take i) = true then c else c + 1) := hS2.congr fun j => by
      rw [List.take_add_one, hz]
      simp [List.mem_append]
    have hc3 : (if decide (z ∈ ns.take i) = true then c else c + 1) ≤ i + 1 := by
      split <;> omega
    refine wpAny_pure ⟨plainId_quiet F.plain_set_update_loop _, ih (i + 1) _ (by omega) hlt (W.frame _ s' _ _ hst' (Nat.le_succ _) fun b hb o e => ?_) ⟨_, hc3, hS3⟩ fun s'' c2 hm'' hc'' hS'' => ?_⟩
    · rw [hsb.2 b (fun h : b = S => hSf (by rw [← h]; exact hb))]; exact e
    · refine hR s'' c2 (Moved.trans W.gtrans ((hm.mono hsub).then_heap (Nat.le_succ _) fun b o hb e => ?_) hm'') hc'' hS''
      rw [hsb.2 b (fun h : b = S => hb (by rw [h]; exact List.mem_cons_self))]; exact e
theorem setX_fresh {h : Heap} {ns : List Str} (ho : h.get? a = some (setO w)) : SetX P w h a (fun j => decide (j ∈ ns.take 0)) 0 :=
  ⟨_, #[], 0, _, ho, ⟨rfl, rfl, rfl⟩, rfl, (fun e he => by simp at he), (by simp), (fun k => by simp), (by decide), (by rfl), rfl, List.Pairwise.nil, by
    show _ ∨ (!w.params.followText "set-order") = true
    cases w.params.followText "set-order"
    · exact .inr rfl
    · exact .inl rfl⟩
set_option maxHeartbeats 3200000 in
theorem call_set_listX {l : Addr} {items : Array Value} (ns : List Str) {Q : Value → Shared → Prop} (hh : A.handled = none) (hl : s.heap.IsList l items) (hit : StrsAre items.toList ns) (hb : ns.length + 1 < scanBound)
    (h : ∀ (h' : Heap) (tk c : Nat), SetX P w h' s.heap.objs.size (fun j => decide (j ∈ ns)) c → c ≤ ns.length → (∀ b o, s.heap.get? b = some o → h'.get? b = some o) → Q (.ref s.heap.objs.size) { s with heap := h', toks := tk }) :
    wpAny (model P w) A (call (.type "set") [.ref l]) Q E s := by
  have hisz : items.size = ns.length := by
    have q := StrsAre.len_eq hit
    rw [Array.length_toList] at q
    exact q
  obtain ⟨c, tl, hmro⟩ := PySem.F.called_set.mro
  have hmade := PySem.F.called_set.made
  have hsub := PySem.F.called_set.sub
  refine wpAny_call (codeAny_of_tree ?_)
  show wpAny _ _ (callAny (.type "set") _) _ _ _
  refine wpAny_pure ⟨Code.quiet_builtin _ (by decide +kernel), codeAny_builtin PySem.F.entry_type_call ?_⟩
  rw [Around.under_plain (weight_type_call_type "set" [.ref l] []) rfl]
  have h1 := PySem.F.called_set.notType
  have h2 := PySem.F.called_set.canCreate
  have hct := PySem.F.typeCall_set_1 (.ref l)
  repeat (any_goals (first | assumption | wp_step))
  refine codeAny_mono (code_set_led1 (.ref l) (E := E) (Q₁ := fun obj s₁ => obj = .ref s.heap.objs.size ∧ s₁ = { s with heap := s.heap.push (setO w) }) ⟨rfl, rfl⟩) fun r s₁ hr => ?_
  cases r with
  | error e => exact hr
  | ok fl =>
    cases fl with
    | ret obj =>
      obtain ⟨rfl, rfl⟩ := hr
      have hS : (s.heap.push (setO w)).get? s.heap.objs.size = some (setO w) := Heap.get?_push_size _ rfl
      have hT : Shared.TypeIs { s with heap := s.heap.push (setO w) } (.ref s.heap.objs.size) "set" := ⟨_, hS, rfl⟩
      have hli := PySem.F.called_set.init.lookup
      have hbi := PySem.F.called_set.init.bind (.ref s.heap.objs.size)
      repeat (any_goals (first | assumption | wp_step))
      refine codeAny_mono (codeAny_call_builtin (R := wants (fun r s₂ => r = .none ∧ ∃ h' tk c, s₂ = { s with heap := h', toks := tk } ∧ SetX P w h' s.heap.objs.size (fun j => decide (j ∈ ns)) c ∧ c ≤ ns.length ∧
          (∀ b o, s.heap.get? b = some o → h'.get? b = some o)) E) PySem.F.called_set.init.plain PySem.F.entry_set_init (check_set_init_1 hT ?_)) fun r₂ s₂ hr₂ => ?_
      · obtain ⟨ol, hol, hcl, nl, hdl⟩ := hl
        obtain ⟨ocls, odict, odata, oslots⟩ := ol
        simp only at hcl hdl
        subst hcl; subst hdl
        have hol' : (s.heap.push (setO w)).get? l = some { cls := .type "list", dict := odict, data := .seq items nl, slots := oslots } := Heap.get?_push_of_some _ hol
        have hsls := PySem.F.sub_list_set
        have hslf := PySem.F.sub_list_frozenset
        have hne : (Value.type "list" == Value.type "dict") = false := by decide
        have hl1 : (s.heap.push (setO w)).IsList l items := ⟨_, hol', rfl, nl, rfl⟩
        unfold Builtin.«set.__init__» noKeywords Builtin.Frozenset.updateFrom
        generalize hPI : pyIter = PI
        wp_walk
        subst hPI
        refine wpAny_pyIter_list hl1 ?_
        refine wpAny_bind (wpAny_runValue ?_)
        have hlS : l < s.heap.objs.size := Heap.lt_size hol
        have hh3 : A.in1.in1.in1.handled = none := by simp [hh]
        have hneI : l ≠ (s.heap.push (setO w)).objs.size := by
          rw [Heap.size_push]; exact Nat.ne_of_lt (Nat.lt_succ_of_lt hlS)
        have hSf : s.heap.objs.size ∉ [(s.heap.push (setO w)).objs.size, l] := by
          rw [Heap.size_push]; simp only [List.mem_cons, List.mem_singleton, List.not_mem_nil, or_false, not_or]
          exact ⟨Nat.ne_of_lt (Nat.lt_succ_self _), Nat.ne_of_gt hlS⟩
        have hval : ∀ (i : Nat) (v : Value), items[i]? = some v → ∃ k t, ns[i]? = some k ∧ v = .str k t := fun i v hv => by
          have hi : i < ns.length := by rw [← hisz]; exact (Array.getElem?_eq_some_iff.mp hv).1
          obtain ⟨t, e⟩ := StrsAre.at hit (List.getElem?_eq_getElem hi)
          rw [Array.getElem?_toList, hv] at e
          exact ⟨ns[i], t, List.getElem?_eq_getElem hi, Option.some.inj e⟩
        refine set_update_txt ((Walks.list hh3 _ l hneI items).toS) s.heap.objs.size
          hSf ns hisz hb hval (items.size - 0) 0 _ (by omega) (Nat.zero_le _)
          ⟨⟨_, Heap.get?_push_size _ rfl, rfl, rfl⟩, (hl1.push _)⟩ ?hS0 ?hR
        case hS0 =>
          exact ⟨0, Nat.le_refl 0, setX_fresh (Heap.get?_push_of_some _ hS)⟩
        case hR =>
          intro s' c' hm hc' hS'
          obtain ⟨h', g2, d', tk', os'⟩ := s'
          have eg : g2 = s.gens := hm.gens
          have ed : d' = s.drawn := hm.drawn
          have eo : os' = s.os := hm.os
          subst eg; subst ed; subst eo
          show wpAny _ _ _ _ _ _
          refine wpAny_pure ?_
          show wpAny _ _ (ret Value.none) _ _ _
          rw [hisz] at hc'
          refine wpAny_pure ⟨rfl, h', tk', c', rfl, hS', hc', fun b o e => ?_⟩
          have hb0 : b < s.heap.objs.size := Heap.lt_size e
          have hb1 : b ≠ s.heap.objs.size := Nat.ne_of_lt hb0
          have hb2 : b ≠ (s.heap.push (setO w)).objs.size := by
            rw [Heap.size_push]; exact Nat.ne_of_lt (Nat.lt_succ_of_lt hb0)
          exact hm.heap b o (by simp only [List.mem_cons, List.mem_singleton, List.not_mem_nil, or_false, not_or]; exact ⟨hb1, hb2⟩) (Heap.get?_push_of_some _ (Heap.get?_push_of_some _ e))
      · cases r₂ with
        | error e => exact hr₂
        | ok fl₂ =>
          cases fl₂ with
          | ret r =>
            obtain ⟨rfl, h', tk, c', rfl, hS', hc', hk'⟩ := hr₂
            repeat (any_goals (first | assumption | wp_step))
            exact h _ _ _ hS' hc' hk'
          | _ => exact hr₂.elim
    | _ => exact hr.elim
end
end Fw
namespace Fw
open PySem PySem.Spec PySem.W PyProof.Rows L2
/-! ### sorted(set of texts) -/
theorem strs_of_all : ∀ (l : List Value), (∀ v ∈ l, ∃ k tk, v = Value.str k tk) → ∃ ks : List Str, StrsAre l ks ∧ ks = l.map (fun v => txtOf (0, v))
  | [], _ => ⟨[], .nil, rfl⟩
  | v :: l, h => by
    obtain ⟨k, tk, rfl⟩ := h v List.mem_cons_self
    obtain ⟨ks, h1, h2⟩ := strs_of_all l fun u hu => h u (List.mem_cons_of_mem _ hu)
    exact ⟨k :: ks, .cons k tk h1, by rw [h2]; rfl⟩
theorem each_txt {h : Heap} : ∀ {vs : List Value} {ks : List Str}, StrsAre vs ks → EachIs (fun v (k : Str) => ∃ as, Reads h v (.str k) as) vs ks
  | _, _, .nil => .nil
  | _, _, .cons k t r => .cons ⟨_, Reads.str k t⟩ (each_txt r)
theorem each_str : ∀ {vs : List Value} {ks : List Str}, StrsAre vs ks → EachIs (fun v (k : Str) => ∃ t, v = Value.str k t) vs ks
  | _, _, .nil => .nil
  | _, _, .cons k t r => .cons ⟨t, rfl⟩ (each_str r)
theorem strs_each : ∀ {vs : List Value} {ks : List Str}, EachIs (fun v (k : Str) => ∃ t, v = Value.str k t) vs ks → Vals (ks.map V.str) vs
  | _, _, .nil => .nil
  | _, _, .cons h r => .cons h (strs_each r)
section
variable {P : Program} {w : World} {A : Around} {E : Value → Shared → Prop} {s : Shared} {a : Addr} {S : Str → Bool} {n : Nat}
theorem sorted_setX {Q : Value → Shared → Prop} (R : SetX P w s.heap a S n) (hh : A.handled = none) (hu : A.units + 10 < cLine)
    (hQ : ∀ s' p (out : List Value) (c : Nat) (ks : List Str), (∀ b o, s.heap.get? b = some o → s'.heap.get? b = some o) → s'.gens = s.gens → s'.os = s.os → s.heap.objs.size ≤ p →
      s'.heap.get? p = some (seqObj "list" out.toArray c) → Vals ((ks.mergeSort (dataLe false PyData.str)).map V.str) out → ks.Nodup → (∀ k, k ∈ ks ↔ S k = true) → ks.length ≤ sizeLine → Q (.ref p) s') :
    wpAny (model P w) A (call (.builtin "sorted") [.ref a]) Q E s := by
  obtain ⟨o, es, ep, t, ho, hex, hd, g, nd, hm, hb, hf, hn, hr, hl⟩ := R
  refine Calls.call_function_entry kind_sorted plain_sorted entry_sorted (args_sorted1 _) ?_
  unfold Builtin.«sorted»
  refine wpAny_bind (m := checkCount "sorted" 1 1 _) (wpAny_pure ?_)
  refine wpAny_bind (collect_set (A := A.in1) hh ⟨o, ho, hex.1, hd⟩ hf hb hr hl fun s1 vs k1 hz g1 o1 pm => ?_)
  have hfit : es.size ≤ sizeLine := fits_of_scanBound hb
  have hvl : vs.length ≤ sizeLine := by rw [pm.length_eq, List.length_map, Array.length_toList]; exact hfit
  obtain ⟨ks, hks, eks⟩ := strs_of_all vs fun v hv => by
    obtain ⟨e, he, q⟩ := List.mem_map.mp (pm.mem_iff.mp hv)
    obtain ⟨k, tk, h1, _⟩ := g e he
    exact ⟨k, tk, by rw [← q]; exact h1⟩
  have pk : ks.Perm (es.toList.map txtOf) := by
    have q := pm.map fun v => txtOf (0, v)
    rw [List.map_map, ← eks] at q
    exact q
  refine wpAny_bind (wpAny_newList ?_ hvl)
  have hoL : (s1.heap.push (seqObj "list" vs.toArray 0)).get? s1.heap.objs.size = some (seqObj "list" vs.toArray 0) := Heap.get?_push_size _ rfl
  have hal : AllAlike (ks.map PyData.str) := AllAlike.of fun _ _ => rfl
  have hso : Sortable (ks.map PyData.str) := Sortable.others fun b => ⟨by simp, by simp⟩
  have hdp : ∀ d ∈ ks.map PyData.str, A.in1.in1.units + d.depth < cLine := fun d hd => by
    obtain ⟨k, _, rfl⟩ := List.mem_map.mp hd
    show A.units + 1 + 1 + 0 < cLine
    omega
  have er : ∀ h : Heap, EachIs (fun v d => ∃ as, Reads h v d as) vs (ks.map PyData.str) := fun h => each_map (R := fun v d => ∃ as, Reads h v d as) PyData.str (each_txt hks)
  refine wpAny_bind (wpAny_holding (wpAny_call_entry slot_list_sort ⟨_, hoL, rfl⟩ entry_list_sort (list_sort_vals hoL (SortsAt.data (er _) hal hso hdp) hvl ⟨_, rfl, ?_⟩) (args_list_sort _)))
  have hout := sortVals_data (h' := sortingHeap (s1.heap.push (seqObj "list" vs.toArray 0)) s1.heap.objs.size vs) (R := fun v (k : Str) => ∃ t, v = Value.str k t) (enc := PyData.str) false (each_str hks) (each_txt hks) hal
  obtain ⟨c, hc⟩ := sortedHeap_at (vs := vs) (out := (sortVals (dataKind (sortingHeap (s1.heap.push (seqObj "list" vs.toArray 0)) s1.heap.objs.size vs) (ks.map PyData.str)) false vs vs).toArray) hoL
  refine wpAny_pure ⟨_, rfl, hQ _ s1.heap.objs.size _ c ks (fun b u e => ?_) g1 o1 hz hc (strs_each hout) (pk.nodup_iff.mpr nd) (fun k => by rw [pk.mem_iff, ← hm k]) (by rw [pk.length_eq, List.length_map, Array.length_toList]; exact hfit)⟩
  have q := k1 b u e
  have hlt := Heap.lt_size q
  show (sortedHeap (s1.heap.push (seqObj "list" vs.toArray 0)) s1.heap.objs.size vs _).get? b = some u
  rw [sortedHeap_old (Nat.ne_of_lt hlt) (by rw [Heap.size_push]; exact Nat.lt_succ_of_lt hlt)]
  exact Heap.get?_push_of_some _ q
end
/-- the set as an object of the layer -/
def SetHO (P : Program) (w : World) (a : Addr) (S : Str → Bool) (n : Nat) : HO := .ext fun h => SetX P w h a S n
theorem setHO_ok {P : Program} {w : World} {H : Hp} {h : Heap} {a : Addr} {S : Str → Bool} {n : Nat} (R : SetX P w h a S n) : ObjOk P w H h a (SetHO P w a S n) := by
  have ⟨o, _, _, _, ho, _⟩ := R
  exact ⟨R, ⟨o, ho⟩, fun h1 h2 p k => p.at k⟩
section
variable {X : Cx}
theorem cr_setX (hc : X.calm = true) : CallR X (.type "set") (fun xs H Q => ∃ (a : Addr) (ks : List Str), xs = [.ref a] ∧ SqL X.K H a (ks.map V.str) ∧ ks.length + 1 < scanBound ∧
    ∀ (p : Addr) (c : Nat), H p = none → Q (.ref p) (upd H p (SetHO X.prog X.w p (fun j => decide (j ∈ ks)) c))) := by
  intro pins s σ H xs us Q I r h
  obtain ⟨a, ks, rfl, hs, hb, q⟩ := h
  obtain ⟨its, rv, pl, hz⟩ := I.list hs
  rw [Vals.ref1 r]
  refine call_set_listX ks (I.ok.hd hc) pl.isList (by simpa using strsAre_of rv) hb fun h' tk c R hcl k => ?_
  exact ⟨.ref _, upd H s.heap.objs.size (SetHO X.prog X.w s.heap.objs.size (fun j => decide (j ∈ ks)) c), I.laid (t' := tk) k (Nat.le_refl _) (setHO_ok R), rfl, q _ c (I.hok.fresh (Nat.le_refl _))⟩
theorem cr_sortedX (hc : X.calm = true) (hu : X.A.units + 64 < cLine) : CallR X (.builtin "sorted") (fun xs H Q => ∃ (a : Addr) (S : Str → Bool) (n : Nat), xs = [.ref a] ∧ H a = some (SetHO X.prog X.w a S n) ∧
    ∀ (ks : List Str) (p : Addr), ks.Nodup → (∀ k, k ∈ ks ↔ S k = true) → H p = none → Q (.ref p) (upd H p (.lst ((ks.mergeSort (dataLe false PyData.str)).map V.str)))) := by
  intro pins s σ H vs us Q I r h
  obtain ⟨a, S, n, rfl, ha, q⟩ := h
  have R : SetX X.prog X.w s.heap a S n := (I.hok a _ ha).1
  rw [Vals.ref1 r]
  refine sorted_setX R (I.ok.hd hc) (by omega) fun s' p out c ks k g o hp hg hi hs hm hl => ?_
  have hlen : ((ks.mergeSort (dataLe false PyData.str)).map V.str).length ≤ sizeLine := by rw [List.length_map, List.length_mergeSort]; exact hl
  have hn : H p = none := I.hok.fresh hp
  have J : Inv X pins σ (upd H p (.lst ((ks.mergeSort (dataLe false PyData.str)).map V.str))) { s with heap := s'.heap, gens := s'.gens, drawn := s'.drawn, toks := s'.toks } :=
    I.call (ch := []) (Un.laid k hp hn) (I.hok.laid k hp ⟨hlen, out, c, hi, hg⟩) (by rw [g]; exact I.bare) (fun _ z => nomatch z)
  have e : s' = { s with heap := s'.heap, gens := s'.gens, drawn := s'.drawn, toks := s'.toks } := by
    cases s'
    cases s
    cases o
    rfl
  rw [e]
  exact ⟨.ref p, _, J, rfl, q ks p hs hm hn⟩
end
end Fw
namespace Fw
open PySem PySem.Spec PySem.W PyProof.Rows L2
/-! ### sorted(set(texts)) -/
def strs? : List PyData → Option (List Str)
  | [] => some []
  | .str x :: r => match strs? r with
    | some l => some (x :: l)
    | none => none
  | _ :: _ => none
def dedupS : List Str → List Str
  | [] => []
  | x :: r => match decide (x ∈ dedupS r) with
    | true => dedupS r
    | false => x :: dedupS r
theorem mem_dedup {k : Str} : ∀ {l : List Str}, k ∈ dedupS l ↔ k ∈ l
  | [] => Iff.rfl
  | x :: r => by
    unfold dedupS
    have ih := mem_dedup (k := k) (l := r)
    by_cases h : x ∈ dedupS r
    · rw [decide_eq_true h]
      simp only
      rw [ih, List.mem_cons]
      constructor
      · exact .inr
      · rintro (z | z)
        · rw [z]
          exact mem_dedup.mp h
        · exact z
    · rw [decide_eq_false h]
      simp only
      rw [List.mem_cons, List.mem_cons, ih]
theorem nodup_dedup : ∀ {l : List Str}, (dedupS l).Nodup
  | [] => List.nodup_nil
  | x :: r => by
    unfold dedupS
    by_cases h : x ∈ dedupS r
    · rw [decide_eq_true h]
      exact nodup_dedup
    · rw [decide_eq_false h]
      exact List.nodup_cons.mpr ⟨h, nodup_dedup⟩
theorem sortL_perm {ks ys : List Str} (hp : ks.Perm ys) : sortL (ks.map PyData.str) = sortL (ys.map .str) := by
  rw [sortL_str, sortL_str]
  have srt : ∀ l : List Str, (l.mergeSort fun a b => decide (a.cps.toList ≤ b.cps.toList)).Pairwise fun a b => a.cps.toList ≤ b.cps.toList := fun l => by
    refine (List.pairwise_mergeSort (le := fun a b : Str => decide (a.cps.toList ≤ b.cps.toList)) (fun a b c h1 h2 => ?_) (fun a b => ?_) l).imp (fun h => of_decide_eq_true h)
    · exact decide_eq_true (List.le_trans (of_decide_eq_true h1) (of_decide_eq_true h2))
    · rcases List.le_total a.cps.toList b.cps.toList with h | h
      · rw [decide_eq_true h]
        rfl
      · rw [decide_eq_true h, Bool.or_true]
  exact congrArg _ (List.Perm.eq_of_pairwise (le := fun a b : Str => a.cps.toList ≤ b.cps.toList) (fun a b _ _ h1 h2 => str_ext (List.le_antisymm h1 h2)) (srt ks) (srt ys) ((List.mergeSort_perm ks _).trans (hp.trans (List.mergeSort_perm ys _).symm)))
theorem sort_str (ks : List Str) : (ks.mergeSort (dataLe false PyData.str)).map PyData.str = sortL (ks.map .str) := by
  unfold sortL
  exact List.map_mergeSort (f := PyData.str) (r := dataLe false PyData.str) fun a _ b _ => rfl
theorem strs_ok {K : Fg} {F : Fz} {H : Hp} : ∀ {ws : List V} {xs : List PyData} {ks : List Str}, IsAll K F H ws xs → strs? xs = some ks → ws = ks.map V.str
  | _, _, _, .nil, h => by
    cases h
    rfl
  | _, _, _, .cons (d := d) a r, h => by
    cases d with
    | str x =>
      unfold strs? at h
      split at h
      · next l e =>
        cases h
        cases a
        rw [strs_ok r e]
        rfl
      · cases h
    | _ => cases h
def oSortSet (m : Bool) : OA := fun vs S => match vs with
  | [v] => match listOf v S with
    | some ws => match pureAll ws with
      | some xs => match strs? xs with
        | some ks => match decide (ks.length < 4000) with
          | true => match m with
            | true => some (.r S.length, S ++ [.lst ((sortL ((dedupS ks).map .str)).map .d)])
            | false => some (.d (.list (sortL ((dedupS ks).map .str))), S)
          | false => none
        | none => none
      | none => none
    | none => none
  | _ => none
theorem Un2 {K : Fg} {F : Fz} {ι : List Addr} {S : Store} {H : Hp} {p : Addr} {o : HO} (s : Sim K F ι S H) (hp : H p = none) : Ext F ι H F ι (upd H p o) ∧ Sim K F ι S (upd H p o) := ⟨.plain s hp, .plain s hp⟩
section
variable {X : Cx} {E : WX} {e : Expr} {g : AF} {p p2 q pos : Pos}
theorem se_sortSet (m : Bool) (hc : X.calm = true) (hu : X.A.units + 64 < cLine) (hg : Gl X "sorted") (hm : X.mg "sorted" = none) (hg2 : Gl X "set") (hm2 : X.mg "set" = none) (ha : SA X E [e] g)
    (he : starEach [.Call (.Name "set" p2) [e] [] q] X.env = (false, eval (.Call (.Name "set" p2) [e] [] q) X.env) :: starEach [] X.env := by rfl) (he2 : starEach [e] X.env = (false, eval e X.env) :: starEach [] X.env := by rfl)
    (hpl : (backTo pos (starEach [] X.env)).any (·.1) = false := by rfl) (hpl2 : (backTo q (starEach [] X.env)).any (·.1) = false := by rfl) :
    SE X E (.Call (.Name "sorted" p) [.Call (.Name "set" p2) [e] [] q] [] pos) (eA (oSortSet m) g) :=
  ⟨PE.imp (pe_callB (cr_sortedX hc hu) hg hm boot_sorted (pa_cons (pe_callTy (cr_setX hc) hg2 hm2 boot_set ha.pa (by decide) (by decide) he2 hpl2) pa_nil he) (by decide) (by decide) he hpl) fun σ H Q hh => by
    obtain ⟨F, ι, env, S, s, en, l⟩ := hh
    refine ⟨F, ι, env, S, s, en, (l.bind (rel := relA X.K)).imp ?_⟩
    rintro us H1 ⟨F1, ι1, vs, S1, x1, s1, q1, l1⟩
    obtain ⟨z, S2, hz, t⟩ := lift_ok l1
    unfold oSortSet at hz
    split at hz
    · next v0 =>
      split at hz
      · next ws hw =>
        split at hz
        · next xs hx =>
          split at hz
          · next ks hk =>
            split at hz
            · next hl =>
              have hl := of_decide_eq_true hl
              obtain ⟨w, rfl, qw⟩ := vall1 q1
              obtain ⟨a, us', rfl, hp, hv⟩ := listOf_ok s1 qw hw
              have e1 := strs_ok (pureAll_ok hx hv) hk
              subst e1
              refine ⟨a, ks, rfl, .of hp, by unfold scanBound; omega, fun p c hn => ?_⟩
              obtain ⟨y1, y2⟩ := Un2 (o := SetHO X.prog X.w p (fun j => decide (j ∈ ks)) c) s1 hn
              refine ⟨p, _, c, rfl, upd_same, fun ks' p' hnd hmem hn' => ?_⟩
              have hperm : ks'.Perm (dedupS ks) := (List.perm_ext_iff_of_nodup hnd nodup_dedup).mpr fun k => by
                rw [hmem k, decide_eq_true_eq, mem_dedup]
              have ei := is_strs (K := X.K) (F := F1) (H := upd H1 p (SetHO X.prog X.w p (fun j => decide (j ∈ ks)) c)) (ks'.mergeSort (dataLe false PyData.str))
              rw [sort_str, sortL_perm hperm] at ei
              split at hz
              · cases hz
                obtain ⟨z1, z2, z3⟩ := new_cell y2 hn' (VAll.of_all ei)
                exact t _ _ _ _ (y1.trans z1) z2 z3
              · cases hz
                obtain ⟨z1, z2, z3⟩ := new_lst y2 hn' ei
                exact t _ _ _ _ (y1.trans z1) z2 z3
            · cases hz
          · cases hz
        · cases hz
      · cases hz
    · cases hz⟩
end
end Fw
namespace Fw
open PySem PySem.Spec PySem.W PySem.Calls PyProof.Rows L2
/-! ### an error class whose __init__(self, value) says super().__init__("rulesadmitted"); self.value = value -/
def riA (p1 p2 : Pos) : Arguments := { posonlyargs := [], args := [{ arg := "self", annotation := none, pos := p1 }, { arg := "value", annotation := none, pos := p2 }], vararg := none, kwonlyargs := [], kw_defaults := [], kwarg := none, defaults := [] }
def riB (t : Str) (n : Nat) (q0 q1 q2 q3 q4 q5 q6 q7 q8 q9 : Pos) : List Stmt :=
  [.Expr (.Call (.Attribute (.Call (.Name "super" q0) [] [] q1) "__init__" q2) [.Constant (.str t) n q3] [] q4) q5, .Assign [.Attribute (.Name "self" q6) "value" q7] (.Name "value" q8) q9]
def riS : Scope := { kind := .function, names := [("self", .local), ("value", .local), ("__class__", .free), ("super", .globalImplicit)], isGenerator := false, isCoroutine := false, more := [] }
/-- what the written part says of such a class: C, the class that has the def: D, the def: fI, its cell: cc -/
structure XTxt (P : Program) (K : Frag) (C D fI cc : Addr) : Prop where
  cls : ∃ nm q N bs bm sn sub ab col dd k0 k1 k2 k3 k5, K.lookup C = some (excClassObj nm q C N bs bm true sn sub ab col dd k0 k1 k2 k3 k5 "ValueError.__new__") ∧ HandSPX.refsVE bm = true
  sa : findIn K (.ref C) "__setattr__" = some (some (.builtin "object.__setattr__"))
  noN : findIn K (.ref C) "value" = some none
  iC : findIn K (.ref C) "__init__" = some (some (.ref fI))
  tI : typeIn K (.ref fI) = some (.type "function")
  kC : keepIn K (.ref C) = true
  exC : subIn K (.ref C) (.type "BaseException") = some true
  tyC : typeIn K (.ref C) = some (.type "type")
  fn : ∃ (oc : Value) (od : Option Addr) (osl : Array (Option Value)) (doc pm : Value) (an : Option Addr) (cda : Addr) (ct : Value) (p1 p2 : Pos) (t : Str) (n : Nat) (q0 q1 q2 q3 q4 q5 q6 q7 q8 q9 : Pos) (ccl : Value) (cdd : Option Addr) (vs : Array Value) (ccs : Array (Option Value)) (file : Str) (tf : Tok),
    K.lookup fI = some ⟨oc, od, .func (ksFn "__init__" "RuleError.__init__" (riA p1 p2) (riB t n q0 q1 q2 q3 q4 q5 q6 q7 q8 q9) riS .none .none doc pm an (.ref cda) ct cc), osl⟩ ∧ codeIn K (.ref cda) "RuleError.__init__" = true ∧
      K.lookup cda = some ⟨ccl, cdd, .fields vs, ccs⟩ ∧ vs[2]? = some (.str file tf) ∧ ((P.main.file : Str) == file) = true ∧ q2.endLine = q4.line
  top : (P.main.scope.names.lookup ("super" : Str)).isSome = false
  cell : ∃ cl cld csl, K.lookup cc = some ⟨cl, cld, .cell (some (.ref D)), csl⟩
  clsD : (clsIn K D).isSome = true
  mro : mroIn K C (.ref D) = some true
  opq : nsIn K cStatics "thirdparty.any" = some none
  sup : ks_superIn K C D "__init__" = some (some (.builtin "ValueError.__init__"))
  subV : subIn K (.ref C) (.type "ValueError") = some true
section
variable {P : Program} {w : World} {A : Around} {E : Value → Shared → Prop} {K : Frag} {C D fI cc : Addr}
/-- the built-in's __init__, bound, called -/
theorem mw_call {h : Heap} {g : Array GenState} {d : Drawn} {t : Nat} {os : OsState} {nm q : Str} {N : Addr} {bs bm : List Value} {hdct : Bool} {sn : List Str} {sub : List Value} {ab : Bool} {col : Option Bool} {dd : Option Addr} {k0 k1 k2 k3 k5 : Option Value} {u e t0 : Addr} {rest : List Value} {Q : Value → Shared → Prop}
    (hC : h.get? C = some (excClassObj nm q C N bs bm hdct sn sub ab col dd k0 k1 k2 k3 k5 "ValueError.__new__")) (he : h.get? e = some (HandSPX.excO C t0)) (hu : h.get? u = some (kxs_mw "ValueError.__init__" e)) (hr : rest.length ≤ sizeLine)
    (hq : ∀ h' t1, (∀ b o, b ≠ e → h.get? b = some o → h'.get? b = some o) → h'.get? e = some (HandSPX.excO C t1) → Q .none ⟨h', g, d, t, os⟩) :
    wpAny (model P w) A (call (.ref u) rest) Q E ⟨h, g, d, t, os⟩ := by
  refine wpAny_call (codeAny_of_tree ?_)
  show wpAny _ A.in1 (callAny (.ref u) ⟨rest, []⟩) _ _ _
  simp only [callAny]
  refine wpAny_bind (wpAny_load hu ?_)
  simp only [kxs_mw, show (Value.type "method-wrapper" == Value.type "method" || Value.type "method-wrapper" == Value.type "builtin_function_or_method" || Value.type "method-wrapper" == Value.type "method-wrapper") = true by decide, if_true]
  refine KFB.if_so (by decide) ?_
  have F := PySem.F.excBase_ValueError
  refine wpAny_bind (check_bound_init F.toExcCallFacts hC he rfl ?_)
  refine wpAny_bind (wpAny_pure (wpAny_pure ⟨plainId_quiet F.init.plain _, codeAny_builtin F.initEntry ?_⟩))
  rw [Around.under_plainId F.init.plain _]
  wp_walk
  refine hq _ h.objs.size (fun b o hb ho => ?_) ?_
  · rw [Heap.get?_update_other _ _ (Ne.symm hb), Heap.get?_push_of_some _ ho]
  · rw [Heap.get?_update_self _ (Heap.get?_push_of_some _ he) rfl] <;> rfl
/-- what __init__ leaves of a fresh error at x -/
structure InitLeft (h h' : Heap) (x C dx t1 : Addr) (v : Value) : Prop where
  keep : ∀ b o, b ≠ x → h.get? b = some o → h'.get? b = some o
  obj : h'.get? x = some { cls := .ref C, dict := some dx, data := .fields #[.ref t1, .none, .none, .none, .bool false, .none] }
  big : h.objs.size ≤ dx
  ne : dx ≠ x
  ns : h'.Ns1 dx (fun y => if y = "value" then some v else none)
theorem meth_eval {o : Expr} {nm : Str} {ap ps : Pos} {e : Expr} {env : PySem.Env} (hl : ap.endLine = ps.line) (ho : importBound o env = pure (some false)) (hs : starEach [e] env = (false, eval e env) :: starEach [] env) : eval (.Call (.Attribute o nm ap) [e] [] ps) env = (do
      let ov ← attributeBase o nm env (eval o env)
      standAt ap.atName
      let (f, first) ← holding [ov] (getMethod ov nm (do return (← importBound o env).getD true))
      callWith ps f first (backTo ps (starEach [e] env)) []) := by
  show (do let ov ← attributeBase o nm env (eval o env); standAt ap.atName; methodCall o nm ap ps env ov 1 (backTo ps (starEach [e] env)) []) = _
  have hf : methodCallForm 1 (backTo ps (starEach [e] env)) [] = true := by
    rw [hs]
    rfl
  unfold methodCall calleeOf methodCallPos
  simp only [hf, hl, beq_self_eq_true, Bool.or_true, if_true, Bool.not_true, pure_bind]
theorem rule_init (T : XTxt P K C D fI cc) {s : Shared} {mg mb : Str → Option Value} {R : Result → Shared → Prop} {x t0 : Addr} {v : Value} (X : K.In s.heap) (hg : s.heap.Ns mainGlobals mg) (hs : mg "super" = none) (hb : s.heap.Ns builtinsNs mb) (hbb : mb "super" = some (.type "super"))
    (hlim : s.heap.NoLimit) (hx : s.heap.get? x = some (HandSPX.excO C t0)) (hnx : K.lookup x = none) (hroom : A.depth < recursionLimit) (hq : ∀ h' tk dx t1, InitLeft s.heap h' x C dx t1 v → R (.ok (.ret .none)) { s with heap := h', toks := tk }) :
    codeAny (model P w) A (.call (.ref fI) ⟨[.ref x, v], []⟩) R s := by
  obtain ⟨oc, od, osl, doc, pm, an, cda, ct, p1, p2, t, n, q0, q1, q2, q3, q4, q5, q6, q7, q8, q9, ccl, cdd, vs, ccs, file, tf, hF, hcd, hcda, hvs, hfile, hln⟩ := T.fn
  obtain ⟨nm, q, N, bs, bm, sn, sub, ab, col, dd, k0, k1, k2, k3, k5, hC, hbm⟩ := T.cls
  obtain ⟨cl, cld, csl, hcell⟩ := T.cell
  have hcl : clsIn K C = some { name := nm, bases := bs, mro := .ref C :: bm, ns := N, qualname := q, hasDict := true, slotNames := sn, subclasses := sub, abstract := ab, collection := col, hasDel := false } := by unfold clsIn; rw [hC] <;> rfl
  obtain ⟨cdD, hD⟩ := Option.isSome_iff_exists.mp T.clsD
  refine ks_codeAny_call_defAt (fd := ksFn "__init__" "RuleError.__init__" (riA p1 p2) (riB t n q0 q1 q2 q3 q4 q5 q6 q7 q8 q9) riS .none .none doc pm an (.ref cda) ct cc) (body := riB t n q0 q1 q2 q3 q4 q5 q6 q7 q8 q9) (binds := [("self", .ref x), ("value", v)])
    hroom (X _ _ hF) rfl hlim (codeRec_of X hcd) rfl (BindsTo.of_eq (by first | rfl | with_unfolding_all rfl)) (show ∀ y ∈ riS.names, y.2 ≠ .cell from by decide +kernel) (fun y hy => ?_) (fun h₁ hn hk => ?_)
  · rcases List.mem_cons.mp hy with rfl | hy
    · exact (by decide +kernel : riS.names.lookup ("self" : Str) = some .local)
    · rw [List.mem_singleton.mp hy]
      exact (by decide +kernel : riS.names.lookup ("value" : Str) = some .local)
  have X1 : K.In h₁ := X.keeps hk
  have hx1 := hk _ _ hx
  have hxL : x ≠ s.heap.objs.size := Nat.ne_of_lt (Heap.lt_size hx)
  obtain ⟨oD, hD1, hD2⟩ : ∃ oD, h₁.get? D = some oD ∧ oD.data = .cls cdD := by
    unfold clsIn at hD
    split at hD
    · rename_i ho
      cases hD
      exact ⟨_, X1 _ _ ho, rfl⟩
    · cases hD
  obtain ⟨hp, g, dr, tk0, os⟩ := s
  have I1 : InstAt h₁ x (HandSPX.excO C t0) C none := ⟨hx1, rfl, rfl, trivial⟩
  refine ks_wpAt_execs_cons (ks_wpAt_Expr_any (ks_wpAt_MethodCall ?_ (meth_eval hln rfl rfl)))
  have hks : riS.names.lookup ("super" : Str) = some .globalImplicit := by decide +kernel
  have hkc : riS.names.lookup ("__class__" : Str) = some .free := by decide +kernel
  have hkl : riS.names.lookup ("self" : Str) = some .local := by decide +kernel
  have hkv : riS.names.lookup ("value" : Str) = some .local := by decide +kernel
  refine ks_wpAt_super_base hks hkc (by decide +kernel) rfl (X1 _ _ hF) rfl rfl rfl (X1 _ _ hcda) rfl hvs hfile T.top ?_
  refine ks_loadName_global rfl hks (loadGlobal_builtin (hg.keeps hk) hs (hb.keeps hk) hbb ⟨rfl, ?_⟩)
  refine wpAny_loadName_free rfl hkc rfl ⟨_, X1 _ _ hcell, rfl⟩ ?_
  refine wpAny_loadName_local rfl hkl hn rfl ?_
  refine ks_wpAny_isType_cls hD1 hD2 ⟨rfl, ?_⟩
  refine ks_wpAny_call_super hD1 hD2 hx1 rfl (fun c e => by cases e) (looks_mroIn X1 T.mro) (fun h₂ e2 k2 => ?_)
  have X2 : K.In h₂ := X1.keeps k2
  have I2 : InstAt h₂ x (HandSPX.excO C t0) C none := ⟨k2 _ _ hx1, rfl, rfl, trivial⟩
  have hsup := T.sup
  unfold ks_superIn at hsup
  rw [hcl] at hsup
  have hxC : x ≠ C := ks_ne X1 I1 hcl
  refine kxs_getMethod kxs_ValueError e2 (looks_opaque X2 T.opq) (l₀ := .ref C :: bm) (fun A Q E s k q => wpAny_bind ((looks_clsIn X2 hcl) A _ E s k (wpAny_pure q))) rfl X2 hsup (I2.type.andThen (looks_subIn X2 T.subV)) hxC (by decide +kernel) ?_
  have k3 : ∀ b o, h₂.get? b = some o → (h₂.push (kxs_mw "ValueError.__init__" x)).get? b = some o := fun b o e => Heap.get?_push_of_some _ e
  have hu3 : (h₂.push (kxs_mw "ValueError.__init__" x)).get? h₂.objs.size = some (kxs_mw "ValueError.__init__" x) := Heap.get?_push_at rfl rfl
  refine kxs_callWith (i := "ValueError.__init__") (x := x) rfl (evalArgs_plain (spliced_cons (wpAny_Constant_str (k := n) (pos := q3) (spliced_nil ⟨hu3, ?_⟩))))
  refine mw_call (C := C) (N := N) (X2.keeps k3 _ _ hC) (k3 _ _ (k2 _ _ hx1)) hu3 (by show 1 ≤ sizeLine; rw [sizeLine_eq]; omega) (fun h₄ t1 k4 e4 => ?_)
  have kk : ∀ b o, b ≠ x → hp.get? b = some o → h₄.get? b = some o := fun b o hne e => k4 b o hne (k3 _ _ (k2 _ _ (hk _ _ e)))
  have X4 : K.In h₄ := fun b o e => kk b o (fun z => by rw [z, hnx] at e; cases e) (X b o e)
  obtain ⟨oL, esL, epL, hL, dL, rL⟩ := hn
  have hLx : hp.objs.size ≠ x := fun z => hxL z.symm
  have hn4 : h₄.Ns hp.objs.size (fun y => ([("self", Value.ref x), ("value", v)] : List (Str × Value)).reverse.lookup y) := ⟨oL, esL, epL, k4 _ _ hLx (k3 _ _ (k2 _ _ hL)), dL, rL⟩
  refine ks_wpAt_execs_cons (ks_wpAt_Assign_Attr (wpAt_of_wpAny (wpAny_Name (wpAny_loadName_local rfl hkv hn4 rfl (wpAny_Name (wpAny_loadName_local rfl hkl hn4 rfl ?_))))))
  refine set_plain X4 (ox := HandSPX.excO C t1) (od := none) ⟨e4, rfl, rfl, trivial⟩ T.sa ?_
  refine HandSPX.exc_osa X4 e4 hcl (show HandSPX.refsVE (.ref C :: bm) = true from hbm) rfl T.noN (fun h₅ tk₅ dx k₅ dn dne hx₅ hn₅ => ?_)
  show PySem.wpAt _ _ _ (execs [] _) _ _ _
  refine wpAt_of_wpAny (wpAny_execs_nil (hq h₅ _ dx t1 ⟨fun b o hb e => k₅ b o hb (kk b o hb e), hx₅, Nat.le_trans (Nat.le_of_lt (Heap.lt_size hn4.choose_spec.choose_spec.choose_spec.1)) dn, dne, hn₅⟩))
/-- a made error -/
structure Made (h h' : Heap) (e C d : Addr) (v : Value) : Prop where
  keep : ∀ b o, h.get? b = some o → h'.get? b = some o
  new : h.objs.size ≤ e
  obj : ∃ t1 : Addr, h'.get? e = some { cls := .ref C, dict := some d, data := .fields #[.ref t1, .none, .none, .none, .bool false, .none] }
  big : h.objs.size ≤ d
  ne : d ≠ e
  ns : h'.Ns1 d (fun y => if y = "value" then some v else none)
theorem rule_made (T : XTxt P K C D fI cc) {s : Shared} {mg mb : Str → Option Value} {R : Result → Shared → Prop} {v : Value} (X : K.In s.heap) (hg : s.heap.Ns mainGlobals mg) (hs : mg "super" = none) (hb : s.heap.Ns builtinsNs mb) (hbb : mb "super" = some (.type "super"))
    (hlim : s.heap.NoLimit) (hroom : A.depth + 1 < recursionLimit) (hq : ∀ h' tk e d, Made s.heap h' e C d v → R (.ok (.ret (.ref e))) { s with heap := h', toks := tk }) : codeAny (model P w) A (.call (.ref C) ⟨[v], []⟩) R s := by
  obtain ⟨nm, q, N, bs, bm, sn, sub, ab, col, dd, k0, k1, k2, k3, k5, hC, hbm⟩ := T.cls
  obtain ⟨hp, g, dr, tk, os⟩ := s
  have k : ∀ b o, hp.get? b = some o → ((hp.push (kdv_tup [v])).push (HandSPX.excO C hp.objs.size)).get? b = some o := fun b o e => Heap.get?_push_of_some _ (Heap.get?_push_of_some _ e)
  have hget : ((hp.push (kdv_tup [v])).push (HandSPX.excO C hp.objs.size)).get? (hp.objs.size + 1) = some (HandSPX.excO C hp.objs.size) := by heap_get
  have hnx : K.lookup (hp.objs.size + 1) = none := by
    cases e : K.lookup (hp.objs.size + 1) with
    | none => rfl
    | some o => exact absurd (Nat.lt_of_succ_lt (Heap.lt_size (show hp.get? _ = some o from X _ _ e))) (Nat.lt_irrefl _)
  refine HandSPX.call_own PySem.F.excBase_ValueError (fun X => HandSPX.refsVE_contains X bm hbm) (X _ _ hC) (looks_findIn X T.iC) (fun self => bind_fn X self T.tI) (by show 1 ≤ sizeLine; rw [sizeLine_eq]; omega) ?_
  refine rule_init (s := ⟨(hp.push (kdv_tup [v])).push (HandSPX.excO C hp.objs.size), g, dr, tk, os⟩) T (X.keeps k) (hg.keeps k) hs (hb.keeps k) hbb (hlim.keeps k) hget hnx hroom fun h' tk' dx t1 J => ?_
  have old : ∀ b o, hp.get? b = some o → h'.get? b = some o := fun b o e => J.keep b o (Nat.ne_of_lt (Nat.lt_succ_of_lt (Heap.lt_size e))) (k b o e)
  have z : hp.objs.size + 1 + 1 ≤ dx := by
    have q := J.big
    rw [Heap.size_push, Heap.size_push] at q
    exact q
  exact ⟨rfl, hq h' tk' (hp.objs.size + 1) dx ⟨old, Nat.le_succ _, ⟨t1, J.obj⟩, Nat.le_trans (Nat.le_trans (Nat.le_succ _) (Nat.le_succ _)) z, J.ne, J.ns⟩⟩
end
end Fw
namespace Fw
open PySem PySem.Spec PyProof.Rows L2
/-! ### raise c(e) -/
/-- the reading of c(e) -/
def tMkX (C : Addr) (ta : TA) : L2.St → Hp → XK → Prop := fun σ H Q => ta σ H fun vs H1 => ∃ v, vs = [v] ∧ ∀ d, H1 d = none → Q (.ref C) (some d) (upd H1 d (.xd [(("value" : Str), v)]))
theorem rel_value {v : V} {u : Value} (r : RelV v u) (f : Str) : RelO (List.lookup f [(("value" : Str), v)]) (if f = "value" then some u else none) := by
  by_cases h : f = "value"
  · subst h
    rw [if_pos rfl, show List.lookup ("value" : Str) [(("value" : Str), v)] = some v by simp [List.lookup]]
    exact r
  · rw [if_neg h, show List.lookup f [(("value" : Str), v)] = none by simp [List.lookup, (by simpa using h : (f == ("value" : Str)) = false)]]
    trivial
section
variable {X : Cx} {E : WX} {C D fI cc : Addr} {x c : Str} {a : Expr} {p pos pos2 : Pos} {k : Nat}
theorem pmk_x {ta : TA} (T : XTxt X.prog X.K C D fI cc) (hsu : X.mg "super" = none) (hr : Room 2 X.A) (hg : Gl X x) (hm : X.mg x = some (.ref C)) (ha : PA X [a] ta) (hdb : (x == ("__debug__" : Str)) = false := by decide)
    (he : starEach (a :: []) X.env = (false, eval a X.env) :: starEach [] X.env := by rfl) (hpl : (backTo pos (starEach [] X.env)).any (·.1) = false := by rfl) : PMk X (.Call (.Name x p) [a] [] pos) (tMkX C ta) := by
  intro pins s σ H Q I h
  refine wpAny_Call_Name_kw (ld_glob I hg hm ?_ hdb)
  refine PySem.W.callWith_K (h₀ := X.base) I.ok.mod.kin T.kC (thn (ha.run pos pins s σ H _ I h) fun us s1 ⟨vs, H1, I1, r1, v, ev, q1⟩ => ⟨I1.kIn, ?_⟩) he hpl
  subst ev
  obtain ⟨u, rfl, rv⟩ : ∃ u, us = [u] ∧ RelV v u := by
    cases r1 with
    | cons r rr =>
      cases rr
      exact ⟨_, rfl, r⟩
  show wpAny _ _ (call (.ref C) [u]) _ _ _
  obtain ⟨mb, b1, b2⟩ := I1.mod.blt
  obtain ⟨hp, g, dr, tk, os⟩ := s1
  refine wpAny_call (rule_made T I1.kIn (I1.mod.glob.keeps I1.bk) hsu (b1.keeps I1.bk) ((b2 _ (by decide)).trans PyProof.Rows.Boot.«super») I1.nolimit (by have := hr.dp; omega) fun h' tk' e d M => ?_)
  show MkP X pins σ Q (.ref e) ⟨h', g, dr, tk', os⟩
  obtain ⟨t1, ho⟩ := M.obj
  have hns := M.ns
  obtain ⟨G, g1, g2⟩ := restrict h' fun b => decide (b ≠ e)
  have gk : ∀ b, b ≠ e → G.get? b = h'.get? b := fun b hb => g1 b (decide_eq_true hb)
  have ge : G.get? e = none := g2 e (by simp)
  have old : ∀ b o, hp.get? b = some o → G.get? b = some o := fun b o q => (gk b (Nat.ne_of_lt (Nat.lt_of_lt_of_le (Heap.lt_size q) M.new))).trans (M.keep b o q)
  have ob : ObjOk X.prog X.w (upd H1 d (.xd [(("value" : Str), v)])) G d (.xd [(("value" : Str), v)]) := ⟨_, hns.at (fun o q => (gk d M.ne).trans q), fun f => rel_value rv f⟩
  have J : Inv X pins σ (upd H1 d (.xd [(("value" : Str), v)])) ⟨G, g, dr, tk', os⟩ := I1.laid (t' := tk') old M.big ob
  refine ⟨e, _, _, ⟨G, g, dr, tk', os⟩, _, .ref C, some d, rfl, J, fun b o q => ?_, ge, ho, ⟨rfl, rfl⟩, rfl, rfl, ?_, rfl, I1.bare, raises_own T.exC T.tyC, q1 d (I1.hok.fresh M.big)⟩
  · have q' : G.get? b = some o := q
    by_cases hb : b = e
    · rw [hb, ge] at q'
      cases q'
    · exact (gk b hb).symm.trans q'
  · rw [upd_ne (Ne.symm M.ne)]
    exact I1.hok.fresh M.new
theorem ps_raiseX {W : WX} {ta : TA} (hc : X.calm = true) (T : XTxt X.prog X.K C D fI cc) (hsu : X.mg "super" = none) (hr : Room 2 X.A) (tk : Takes X W) (hg : Gl X x) (hm : X.mg x = some (.ref C)) (ha : PA X [a] ta) (hdb : (x == ("__debug__" : Str)) = false := by decide)
    (he : starEach (a :: []) X.env = (false, eval a X.env) :: starEach [] X.env := by rfl) (hpl : (backTo pos (starEach [] X.env)).any (·.1) = false := by rfl) :
    PS X (.Raise (some (.Call (.Name x p) [a] [] pos)) none pos2) (fun _ σ H => tMkX C ta σ H fun cls d H' => W cls d σ H') := ps_raise hc tk (pmk_x T hsu hr hg hm ha hdb he hpl)
end
/-- raise c(e) -/
def sRaise (c : Str) (f : EF) : SF := fun env S => sB (f env S) env fun v S1 => match toD v S1 with
  | some (x, S2) => .ok (.rs c x, env) S2
  | none => .bad
section
variable {X : Cx} {E : WX} {D fI cc : Addr} {c : Str} {a : Expr} {f : EF} {p pos pos2 : Pos}
theorem ss_raise (hc : X.calm = true) (T : XTxt X.prog X.K (He.ga X.K c) D fI cc) (hsu : X.mg "super" = none) (hr : Rm 2 X.A) (tk : Takes X E) (hg : Gl X c) (hm : X.mg c = some (.ref (He.ga X.K c))) (ha : SE X E a f) (hdb : (c == ("__debug__" : Str)) = false := by decide)
    (he : starEach (a :: []) X.env = (false, eval a X.env) :: starEach [] X.env := by rfl) (hpl : (backTo pos (starEach [] X.env)).any (·.1) = false := by rfl) :
    SS X E (.Raise (some (.Call (.Name c p) [a] [] pos)) none pos2) (sRaise c f) := ⟨PS.imp (ps_raiseX hc T hsu hr.room tk hg hm (sa_cons ha sa_nil he).pa hdb he hpl) fun Dn σ H h => by
  obtain ⟨F, ι, env, S, s, en, l⟩ := h
  refine ⟨F, ι, env, S, s, en, ?_⟩
  show Lands X.K E σ F ι H (relA X.K) ((f env S).bind fun v S1 => (aNil env S1).bind fun vs S2 => .ok (v :: vs) S2) _
  have l1 := SLands.bind (rel := relV X.K) en l
  cases hf : f env S with
  | bad =>
    rw [hf] at l1
    exact l1.elim
  | ex k y S1 =>
    rw [hf] at l1
    exact l1
  | ok v S1 =>
    rw [hf] at l1
    intro F' ι' H' ws e1 s1 q1
    cases ws with
    | nil => exact q1.elim
    | cons w ws =>
      cases ws with
      | cons _ _ => exact q1.2.elim
      | nil =>
        refine ⟨w, rfl, fun d hd => ?_⟩
        obtain ⟨F1, ι1, v1, S2, x1, s2, r2, l2⟩ := l1 F' ι' H' w e1 s1 q1.1
        split at l2
        · next y S3 hd3 =>
          obtain ⟨F2, x3, s3, i3⟩ := toD_ok s2 r2 hd3
          have x4 : Ext F2 ι1 H' (F2.add d) ι1 (upd H' d (.xd [(("value" : Str), w)])) := .frozen s3 hd
          exact l2 (F2.add d) ι1 _ σ d (x3.trans x4) (s3.frozen hd) (((en.mono x1).mono x3).mono x4) ⟨w, .inr rfl, upd_same, i3.mono x4⟩
        · exact l2.elim⟩
/-! ### try: f; except C as e: n = e -/
/-- what the clause wishes of an error of the body: i the clause's name's slot, j the name's -/
def wVal (K : PySem.W.Frag) (c : Value) (i j : Nat) (Wout : WX) (D : Ends) : WX := fun cls d σ H =>
  ∃ b, PySem.W.exmOne K cls c = some b ∧ (b = true → ∀ a, H a = none → D.nx ((((σ.set i (some (.ref a))).set j (some (.ref a)))).set i none) (upd H a (ExH cls d a))) ∧ (b = false → Wout cls d σ H)
theorem exh_ok {P : Program} {w : World} {H : Hp} {h : Heap} {a : Addr} {cls : Value} {d : Option Addr} {oe : Obj} {vs : Array Value} (e : h.get? a = some oe) (z : Zc cls d oe) (dt : oe.data = .fields vs) : ObjOk P w H h a (ExH cls d a) :=
  ⟨⟨oe, vs, e, z, dt⟩, ⟨oe, e⟩, fun _ _ ⟨o, v, q, r⟩ k => ⟨o, v, k o q, r⟩⟩
section
variable {X : Cx} {pins : List (Addr × Obj)} {σ : L2.St} {H : Hp} {s : Shared}
/-- an object that is not tracked becomes tracked -/
theorem inv_track {a : Addr} {φ : Heap → Prop} (I : L2.Inv X pins σ H s) (ha : H a = none) (h0 : X.s_0.heap.get? a = none) (nL : a ≠ X.env.locals) (nC : ∀ x c, X.env.cells.lookup x = some c → c ≠ a) (nP : ∀ p ∈ X.pn ++ pins, p.1 ≠ a) (ok : ObjOk X.prog X.w (upd H a (.ext φ)) s.heap a (.ext φ)) :
    L2.Inv X pins σ (upd H a (.ext φ)) s := by
  have ne0 : ∀ b o, X.s_0.heap.get? b = some o → b ≠ a := fun b o e z => by
    rw [z, h0] at e
    cases e
  refine ⟨I.ok, I.os, I.bare, ⟨I.base.keep, I.base.slot, fun b o e n hb => ?_, I.base.there, fun b xs e => ?_, fun b o u e => ?_, fun b ps e => ?_⟩, I.loc, I.cell, ?_, fun x c e => ?_, fun p hp => ?_, fun b u e => ?_, I.len⟩
  · rw [upd_ne (ne0 b o e)]
    exact I.base.free b o e n hb
  · have q := I.base.tups b xs e
    rw [upd_ne (ne_of_none q ha)]
    exact q
  · have q := I.base.frzs b o u e
    rw [upd_ne (ne_of_none q ha)]
    exact q
  · obtain ⟨m, q⟩ := I.base.tbls b ps e
    exact ⟨m, by rw [upd_ne (ne_of_none q ha)]; exact q⟩
  · rw [upd_ne (Ne.symm nL)]
    exact I.free
  · rw [upd_ne (nC x c e)]
    exact I.freeC x c e
  · obtain ⟨e, n, r⟩ := I.pin p hp
    exact ⟨e, by rw [upd_ne (nP p hp)]; exact n, r⟩
  · by_cases hb : b = a
    · subst hb
      rw [upd_same] at e
      cases e
      exact ok
    · rw [upd_ne hb] at e
      exact (I.hok b u e).stay (fun c v _ q => q) (fun c q => by rw [upd_ne (ne_of_none q ha)]; exact q) fun c xs q => by rw [upd_ne (ne_of_none q ha)]; exact q

end
end
section
variable {X : Cx} {x n m : Str} {c : Value} {i j : Nat} {body : List Stmt} {np p1 p2 p3 pos pos' : Pos} {tb : WX → TS} {Wout : WX}
theorem ps_try_val (hs : X.stack = X.env :: X.outer) (hf : X.env.frame = some X.env.locals) (hex : X.ex = []) (hN : X.N.Nodup) (hi : X.N[i]? = some n) (hln : X.env.kindOf n = some .local) (hj : X.N[j]? = some m) (hlm : X.env.kindOf m = some .local) (hc : Names X x c) (tk : Takes X Wout)
    (hdb : (n == ("__debug__" : Str)) = false) (hcd : (n == ("__classdict__" : Str)) = false) (hb : ∀ (W : WX) (pn : List (Addr × Obj)) (xe : Value → Shared → Prop), Takes (X.tr pn xe) W → PassesOwn (model X.prog X.w) X.A X.env xe → PSs (X.tr pn xe) body (tb W)) :
    PS X (.Try body [.ExceptHandler (some (.Name x np)) (some n) [.Assign [.Name m p1] (.Name n p2) p3] pos'] [] [] pos) (fun D σ H => tb (wVal X.K c i j Wout D) D σ H) := by
  refine ⟨fun pins s σ H D I h => ?_⟩
  have ok := I.ok
  have hfr : X.A.frames = some (X.env :: X.outer) := by rw [ok.frames, hs]
  have hloc : Loc X.env.scope n := .inl hln
  refine wpAny_Try_except ?_
  refine wpAny_mono ((hb (wVal X.K c i j Wout D) (X.pn ++ pins) (fun e s₁ => wpAny (model X.prog X.w) X.A (noteFrame e X.env) (fun _ s₂ => wpAny (model X.prog X.w) X.A (setFlight e none) (fun _ s₃ =>
    wpAny (model X.prog X.w) X.A (handleBy e X.env [.ExceptHandler (some (.Name x np)) (some n) [.Assign [.Name m p1] (.Name n p2) p3] pos']) (SP X pins D) X.xe s₃) X.xe s₂) X.xe s₁) (fun u s' xx => ?_) PassesOwn.looking).run [] s σ H D (I.toTry _) h) (fun f s1 hsp => ?_) (fun e s1 he => he)
  · obtain ⟨a, B, sI, pins', σ', H', cls, d, rfl, J', nb, up, sky, na, os, ag, b, hb1, hyes, hno⟩ := xx
    have J : L2.Inv X pins σ' H' sI := J'.ofTry ok
    have sky' : Sky B (X.env :: X.outer) a (Zc cls d) X.env.locals s'.heap := by rw [← hs]; exact sky
    show wpAny (model X.prog X.w) X.A (noteFrame (.ref a) X.env) _ _ _
    refine Sky.land Zc.steady hfr hf sky' fun h3 fl3 up3 => ?_
    have J3 : L2.Inv X pins σ' H' { s' with heap := h3 } := J.landed nb fl3.1 (up.trans up3) os ag
    obtain ⟨oe3, vs3, he3, hz3, hd3⟩ := fl3.there
    have notFr : ∀ {h : Heap} {o : Obj} {vs : Array Value}, h.FunFrames B (X.env :: X.outer) → h.get? a = some o → o.data = .fields vs → a ∉ frs (X.env :: X.outer) := fun {h o vs} ff e dd hm => by
      obtain ⟨_, o', e', hnf⟩ := ff.mem hm
      rw [e] at e'; cases e'
      exact hnf _ dd
    have nfr := notFr fl3.2.2.1 he3 hd3
    have nL : a ≠ X.env.locals := fun z => nfr (List.mem_filterMap.mpr ⟨X.env, List.mem_cons_self, by rw [hf, z]⟩)
    have nF : a ∉ X.fs := fun hm => by
      obtain ⟨e, he, q⟩ := List.mem_filterMap.mp hm
      exact nfr (List.mem_filterMap.mpr ⟨e, List.mem_cons_of_mem _ he, q⟩)
    -- the error's object is none of the state's
    have nI : sI.heap.get? a = none := by
      cases e : sI.heap.get? a with
      | none => rfl
      | some o =>
        have z := nb a o e (by rw [hs]; exact nfr)
        rw [fl3.2.1] at z
        cases z
    have n0 : X.s_0.heap.get? a = none := by
      cases e : X.s_0.heap.get? a with
      | none => rfl
      | some o =>
        by_cases hx : a ∈ X.ex
        · rw [hex] at hx
          cases hx
        · obtain ⟨o', z⟩ := J.base.there a o e hx
          rw [nI] at z
          cases z
    have nP : ∀ p ∈ X.pn ++ pins, p.1 ≠ a := fun p hp z => by
      have q := (J.pin p hp).1
      rw [z, nI] at q
      cases q
    have nC : ∀ y k, X.env.cells.lookup y = some k → k ≠ a := fun y k e z => by
      obtain ⟨v, o, ho, _⟩ := J.cell y k e
      rw [z, nI] at ho
      cases ho
    have S3 := J3.suite he3 hd3 na nL nF
    refine wpAny_handleBy_cons (codeAny_handlers_test ?_) (by intro q; cases q)
    have LT : PySem.W.Looks (model X.prog X.w) h3 (typeOf (.ref a)) cls := fun A Q E s k q => wpAny_typeOf_ref (k _ _ he3) (by rw [hz3.1]; exact q)
    have LM := PySem.W.exm_one (M := model X.prog X.w) (J3.kIn) LT hb1
    have test : ∀ {Q : Value → Shared → Prop} {E : Value → Shared → Prop}, Q c { s' with heap := h3 } → wpAny (model X.prog X.w) (X.A.mark (some (.ref a))) (eval (.Name x np) X.env) Q E { s' with heap := h3 } := fun {Q E} q => by
      obtain ⟨hg, hdbg, hm | ⟨hm, hv, hnn⟩⟩ := hc
      · exact ld_glob (X := X.suite a ((a, oe3) :: (X.pn ++ pins))) S3 hg hm q hdbg
      · exact ld_blt (X := X.suite a ((a, oe3) :: (X.pn ++ pins))) S3 hg hm hv q hnn hdbg
    refine test (LM.here ?_)
    cases b with
    | true =>
      refine codeAny_handlers_suite_as ?_
      refine HandSPX.lands_againZ fl3 fun h4 fl4 up4 => ?_
      have J4 : L2.Inv X pins σ' H' { s' with heap := h4 } := J.landed nb fl4.1 ((up.trans up3).trans up4) os ag
      obtain ⟨oe4, vs4, he4, hz4, hd4⟩ := fl4.there
      have S4 := J4.suite he4 hd4 na nL nF
      refine store_ok (X := X.suite a ((a, oe4) :: (X.pn ++ pins))) (v := .ref a) S4 hN hi hloc rfl (fun s5 S5 => ?_) (.inr hln)
      have hsu : PSs (X.suite a ((a, oe4) :: (X.pn ++ pins))) [.Assign [.Name m p1] (.Name n p2) p3] (tAsg (tVar i) (gName j)) :=
        pss_one (ps_set (X := X.suite a ((a, oe4) :: (X.pn ++ pins))) hN hj (.inl hlm) (pe_var (X := X.suite a ((a, oe4) :: (X.pn ++ pins))) hi (.inl hln) hdb hcd) rfl (.inr hlm))
      have hwish := hyes rfl a na
      refine wpAny_mono (hsu.run [] s5 _ H' { nx := fun σ6 H6 => H6 = H' ∧ σ6 = (σ'.set i (some (.ref a))).set j (some (.ref a)), rt := fun _ _ => False } S5 ?_) (fun f s6 hsp => ?_) (fun _ _ z => False.elim z)
      · have hlt : i < σ'.length := by rw [J.len]; exact (List.getElem?_eq_some_iff.mp hi).1
        exact ⟨.ref a, List.getElem?_set_self hlt, rfl, rfl⟩
      · cases f with
        | next =>
          obtain ⟨σ6, H6, S6, rfl, rfl⟩ := hsp
          have T6 : L2.Inv X pins _ (upd H6 a (ExH cls d a)) s6 := inv_track (S6.unsuite ok) na n0 nL nC nP (exh_ok (S6.pin (a, oe4) (List.mem_append_left _ List.mem_cons_self)).1 hz4 hd4)
          exact gone_ok T6 hN hi hln fun s7 J7 => ⟨_, _, J7, hwish⟩
        | brk =>
          obtain ⟨σ6, H6, S6, q6⟩ := hsp
          exact q6.elim
        | cont =>
          obtain ⟨σ6, H6, S6, q6⟩ := hsp
          exact q6.elim
        | ret u =>
          obtain ⟨v6, σ6, H6, S6, r6, q6⟩ := hsp
          exact q6.elim
    | false =>
      show wpAny _ X.A (handleBy (.ref a) X.env []) _ _ _
      refine wpAny_handleBy_nil ?_
      obtain ⟨k1, k2, k3, oe, vs, T, oT, ts', he, hz, hd, h1, hr⟩ := id fl3
      unfold PySem.passOn
      refine wpAny_bind (wpAny_field he hd h1 ?_)
      rw [if_neg (show ¬ ((Value.ref T == Value.none) = true) from by simp)]
      have fin : wpAny (model X.prog X.w) X.A (setFlight (.ref a) X.env.frame) (fun _ s4 => wpAny (model X.prog X.w) X.A (throw (.ref a) : Sem Flow) (SP X pins D) X.xe s4) X.xe { s' with heap := h3 } := by
        rw [hf]
        refine HandSPX.setFlight_upZ fl3 fun h4 hh4 up4 => wpAny_throw (tk _ _ ?_)
        exact ⟨a, B, sI, pins, σ', H', cls, d, rfl, J, nb, (up.trans up3).trans up4, .inr (.inr (by rw [hs]; exact hh4)), na, os, ag, hno rfl⟩
      first
        | exact wpAny_bind (wpAny_pure (wpAny_bind fin))
        | exact wpAny_bind fin
  · cases f with
    | next =>
      obtain ⟨σ', H', J', q⟩ := hsp
      exact wpAny_execs_nil ⟨σ', H', J'.ofTry ok, q⟩
    | brk =>
      obtain ⟨σ', H', J', q⟩ := hsp
      exact ⟨σ', H', J'.ofTry ok, q⟩
    | cont =>
      obtain ⟨σ', H', J', q⟩ := hsp
      exact ⟨σ', H', J'.ofTry ok, q⟩
    | ret u =>
      obtain ⟨v, σ', H', J', r, q⟩ := hsp
      exact ⟨v, σ', H', J'.ofTry ok, r, q⟩
end
end Fw
namespace Fw
open PySem PySem.Spec PyProof.Rows L2
/-- try: f; except T as n_i: n_j = n_i; cs: the classes that T catches -/
def sTry (cs : List Str) (i j : Nat) (f : SF) : SF := fun env S => match f env S with
  | .ok (.rs c x, env') S' => match decide (c ∈ cs) with
    | true => .ok (.nx, ((env'.set i (some (.d (excD c x)))).set j (some (.d (excD c x)))).set i none) S'
    | false => .bad
  | m => m
theorem EIs.unset {K : Fg} {F : Fz} {ι : List Addr} {H : Hp} {σ : L2.St} {env : Env} (i : Nat) (h : EIs K F ι H σ env) : EIs K F ι H (σ.set i none) (env.set i none) := by
  refine ⟨by rw [List.length_set, List.length_set, h.1], fun k u e => ?_⟩
  by_cases hk : i = k
  · subst hk
    by_cases hl : i < env.length
    · rw [List.getElem?_set_self hl] at e
      cases e
    · rw [List.getElem?_eq_none (by rw [List.length_set]; omega)] at e
      cases e
  · rw [List.getElem?_set_ne hk] at e ⊢
    exact h.2 k u e
section
variable {X : Cx} {E : WX} {x n m : Str} {i j : Nat} {cs : List Str} {body : List Stmt} {np p1 p2 p3 pos pos' : Pos} {f : SF}
theorem ss_try (hs : X.stack = X.env :: X.outer) (hf : X.env.frame = some X.env.locals) (hex : X.ex = []) (hN : X.N.Nodup) (hi : X.N[i]? = some n) (hln : X.env.kindOf n = some .local) (hj : X.N[j]? = some m) (hlm : X.env.kindOf m = some .local) (hg : Gl X x) (hm : X.mg x = some (.ref (He.ga X.K x))) (tk : Takes X E)
    (hcs : ∀ c ∈ cs, PySem.W.exmOne X.K (.ref (He.ga X.K c)) (.ref (He.ga X.K x)) = some true) (hb : ∀ (W : WX) (pn : List (Addr × Obj)) (xe : Value → Shared → Prop), Takes (X.tr pn xe) W → PassesOwn (model X.prog X.w) X.A X.env xe → SSs (X.tr pn xe) W body f)
    (hdx : (x == ("__debug__" : Str)) = false := by decide) (hdb : (n == ("__debug__" : Str)) = false := by decide) (hcd : (n == ("__classdict__" : Str)) = false := by decide) :
    SS X E (.Try body [.ExceptHandler (some (.Name x np)) (some n) [.Assign [.Name m p1] (.Name n p2) p3] pos'] [] [] pos) (sTry cs i j f) :=
  ⟨PS.imp (ps_try_val (tb := fun W => TSf W X.K f) hs hf hex hN hi hln hj hlm ⟨hg, hdx, .inl hm⟩ tk hdb hcd fun W pn xe t po => (hb W pn xe t po).ps) fun D σ H h => by
    obtain ⟨F, ι, env, S, s, en, l⟩ := h
    refine ⟨F, ι, env, S, s, en, ?_⟩
    have l : SLands X.K E F ι H (sTry cs i j f env S) D := l
    show SLands X.K _ F ι H (f env S) D
    unfold sTry at l
    match hr : f env S with
    | .ok (.nx, env') S' =>
      rw [hr] at l
      exact l
    | .ok (.bk, env') S' =>
      rw [hr] at l
      exact l
    | .ok (.ct, env') S' =>
      rw [hr] at l
      exact l
    | .ok (.rt v, env') S' =>
      rw [hr] at l
      exact l
    | .ex c y S' =>
      rw [hr] at l
      exact l
    | .bad =>
      rw [hr] at l
      exact l
    | .ok (.rs c y, env') S' =>
      rw [hr] at l
      simp only at l
      by_cases hc : c ∈ cs
      · rw [decide_eq_true hc] at l
        intro F' ι' H' σ' dx e1 s1 q1 z1
        refine ⟨true, hcs c hc, fun _ a ha => ?_, fun z => by cases z⟩
        obtain ⟨v, g1, g2, g3⟩ := z1
        have e2 : Ext F' ι' H' (F'.add a) ι' (upd H' a (ExH (.ref (He.ga X.K c)) (some dx) a)) := .frozen s1 ha
        have hdx : dx ≠ a := fun z => by
          rw [z, ha] at g2
          cases g2
        have iv : Is X.K (F'.add a) (upd H' a (ExH (.ref (He.ga X.K c)) (some dx) a)) (.ref a) (excD c y) := .exc (.inr rfl) upd_same (.inl g1) (by rw [upd_ne hdx]; exact g2) (g3.mono e2)
        exact l (F'.add a) ι' _ _ (e1.trans e2) (s1.frozen ha) ((((q1.mono e2).set (v := .d (excD c y)) i iv).set (v := .d (excD c y)) j iv).unset i)
      · rw [decide_eq_false hc] at l
        exact l.elim⟩
end
end Fw
namespace Fw
open PySem PySem.Spec PyProof.Rows L2
/-! ### what an error's class must say: isinstance, its fields -/
structure XCls (K : Fg) (D : Addr) : Prop where
  cl : (PySem.W.clsIn K D).isSome = true
  ga : PySem.W.findIn K (.ref D) "__getattribute__" = some (some (.builtin "BaseException.__getattribute__"))
  gg : PySem.W.findIn K (.ref D) "__getattr__" = some none
  ex : PySem.W.subIn K (.ref D) (.type "BaseException") = some true
  cs : PySem.W.findIn K (.ref D) "__class__" = some (some (.builtin "object.__class__"))
  sp : PySem.W.specialIn K (.builtin "object.__class__") "__get__" = some (some (.builtin "getset_descriptor.__get__"))
  tk : PySem.W.takesIn K (.builtin "object.__class__") = some true
  mo : PySem.W.mroIn K D (.type "object") = some true
  hd : PySem.W.hasDictIn K D = true
  nv : PySem.W.findIn K (.ref D) "value" = some none
  kp : PySem.W.keepIn K (.ref D) = true
/-- isinstance(x, C): x an error or None -/
def rIsX (K : Fg) : List V → Hp → VK → Prop := fun xs H Q => ∃ x C, xs = [x, .ref C] ∧ ((x = .non ∧ ∃ b, PySem.W.kitOne K (.type "NoneType") (.ref C) = some b ∧ Q (.bl b) H) ∨
  ∃ a D dx v b, x = .ref a ∧ H a = some (ExH (.ref D) (some dx) a) ∧ H dx = some (.xd [(("value" : Str), v)]) ∧ XCls K D ∧ PySem.W.kitOne K (.ref D) (.ref C) = some b ∧ Q (.bl b) H)
section
variable {X : Cx}
theorem exh_at {P : Program} {w : World} {H : Hp} {h : Heap} {a : Addr} {cls : Value} {d : Option Addr} (ok : HOk P w H h) (e : H a = some (ExH cls d a)) : ∃ (oe : Obj) (vs : Array Value), h.get? a = some oe ∧ Zc cls d oe ∧ oe.data = .fields vs := by
  have x : ObjOk P w H h a (.ext fun h => ∃ (oe : Obj) (vs : Array Value), h.get? a = some oe ∧ Zc cls d oe ∧ oe.data = .fields vs) := ok a _ e
  exact x.1
theorem exh_inst {pins : List (Addr × Obj)} {σ : L2.St} {H : Hp} {s : Shared} {a D dx : Addr} {fs : List (Str × V)} (I : L2.Inv X pins σ H s) (e : H a = some (ExH (.ref D) (some dx) a)) (ed : H dx = some (.xd fs)) :
    ∃ (oe od : Obj) (mA : Str → Option Value), PySem.W.InstAt s.heap a oe D (some od) ∧ (∀ f, RelO (fs.lookup f) (mA f)) ∧ ∀ f, PySem.W.lookIn f od = some (mA f) := by
  obtain ⟨oe, vs, h1, hz, hd⟩ := exh_at I.hok e
  have hx : ObjOk X.prog X.w H s.heap dx (.xd fs) := I.hok dx _ ed
  obtain ⟨mA, hns, hr⟩ := hx
  obtain ⟨od, ho, hl⟩ := lookIn_ns hns
  exact ⟨oe, od, mA, ⟨h1, hz.1, by unfold PySem.W.notCls; rw [hd] <;> rfl, by rw [hz.2]; exact ho⟩, hr, fun f => hl f⟩
theorem call_isX : CallR X (.builtin "isinstance") (rIsX X.K) := by
  intro pins s σ H xs us Q I r h
  obtain ⟨x, C, rfl, h⟩ := h
  cases r with
  | cons rx rr =>
    cases rr with
    | cons rt rr =>
      cases rr
      cases rt
      rcases h with ⟨rfl, b, e, q⟩ | ⟨a, D, dx, v, b, rfl, e1, e2, T, e, q⟩
      · cases rx
        exact PySem.W.kia_one PySem.W.kitx_none I.kIn True.intro e (fun z => nomatch z) fun tk => ⟨.bl b, H, I.kept (t' := tk) fun _ _ z => z, rfl, q⟩
      · cases rx
        obtain ⟨oe, od, mA, J, _, _⟩ := exh_inst I e1 e2
        exact PySem.W.kia_one (PySem.W.kitx_exc T.cl T.ga T.gg T.ex T.cs T.sp T.tk T.mo) I.kIn J e (fun z => nomatch z) fun tk => ⟨.bl b, H, I.kept (t' := tk) fun _ _ z => z, rfl, q⟩
/-- e.value -/
def tXv (K : Fg) (te : TE) : TE := fun σ H Q => te σ H fun x H1 => ∃ a D dx v, x = .ref a ∧ H1 a = some (ExH (.ref D) (some dx) a) ∧ H1 dx = some (.xd [(("value" : Str), v)]) ∧ XCls K D ∧ Q v H1
theorem pe_xv {e : Expr} {te : TE} {pos : Pos} (he : PE X e te) (hb : attributeBase e "value" X.env (eval e X.env) = eval e X.env := by rfl) : PE X (.Attribute e "value" pos) (tXv X.K te) := by
  refine ⟨fun pins s σ H Q I h => ?_⟩
  refine attr_of hb (thn (he.run pins s σ H _ I h) fun u s1 hh => ?_)
  obtain ⟨x, H1, I1, rx, a, D, dx, v, rfl, e1, e2, T, q⟩ := hh
  obtain rfl : u = Value.ref a := rx
  obtain ⟨oe, od, mA, J, hr, hl⟩ := exh_inst I1 e1 e2
  have l : List.lookup ("value" : Str) [(("value" : Str), v)] = some v := by simp [List.lookup]
  obtain ⟨u, hu, ru⟩ := RelO.some_of (v := v) (o := mA "value") (by rw [← l]; exact hr "value")
  exact HandSPX.exc_get I1.kIn J T.ga T.gg T.ex (PySem.W.findObj_own T.hd T.nv rfl (by rw [hl, hu])) (handed_of ru) ⟨v, H1, I1.tok _, ru, q⟩
end
/-! ### their evaluators; all: the classes of errors -/
def excOf (all : List Str) : Val → Option (Str × PyData)
  | .d (.dict [(.bool false, .str c), (.bool false, x)]) => match decide (c ∈ all) with
    | true => some (c, x)
    | false => none
  | _ => none
def oVal (all : List Str) : O1 := fun v S => (excOf all v).map fun p => (.d p.2, S)
def oIsX (all : List Str) (C : Str) : O1 := fun v S => match v with
  | .d .none => some (.d (.bool false), S)
  | v => (excOf all v).map fun p => (.d (.bool (decide (p.1 = C) || decide (C = "RuleError"))), S)
/-- the facts of all classes -/
structure XAll (K : Fg) (all : List Str) : Prop where
  cls : ∀ c ∈ all, XCls K (He.ga K c)
  one : ∀ c ∈ all, ∀ d ∈ all, PySem.W.kitOne K (.ref (He.ga K c)) (.ref (He.ga K d)) = some (decide (c = d) || decide (d = "RuleError"))
  non : ∀ d ∈ all, PySem.W.kitOne K (.type "NoneType") (.ref (He.ga K d)) = some false
  exm : ∀ c ∈ all, PySem.W.exmOne K (.ref (He.ga K c)) (.ref (He.ga K "RuleError")) = some true
section
variable {K : Fg} {F : Fz} {H : Hp} {w : V} {all : List Str}
theorem exkv {ws : List (Key × V)} {y z : PyData} {l : List (PyData × PyData)} (h : IsKV K F H ws ((.bool false, y) :: l)) : False := by
  rcases ws with _ | ⟨⟨k, v⟩, ws⟩
  · cases h
  · generalize hl : (PyData.bool false, y) :: l = m at h
    cases h with
    | cons a r =>
      cases k <;> cases hl
theorem exc_is {ι : List Addr} {v : Val} {c : Str} {x : PyData} (q : VIs K F ι H w v) (h : excOf all v = some (c, x)) : c ∈ all ∧ ∃ a dx u, w = .ref a ∧ H a = some (ExH (.ref (He.ga K c)) (some dx) a) ∧ H dx = some (.xd [(("value" : Str), u)]) ∧ Is K F H u x := by
  unfold excOf at h
  split at h
  · next c' x' =>
    by_cases hc : c' ∈ all
    · rw [decide_eq_true hc] at h
      cases h
      refine ⟨hc, ?_⟩
      have q' : Is K F H w (.dict [(.bool false, .str c), (.bool false, x)]) := q
      cases q' with
      | dct f hx ax => exact (exkv (z := .none) ax).elim
      | exc f1 h1 f2 h2 i => exact ⟨_, _, _, rfl, h1, h2, i⟩
    · rw [decide_eq_false hc] at h
      cases h
  · cases h
end
section
variable {X : Cx} {E : WX} {all : List Str} {C x : Str} {e : Expr} {f : EF} {p p2 pos : Pos}
theorem se_val (T : XAll X.K all) (ha : SE X E e f) (hb : attributeBase e "value" X.env (eval e X.env) = eval e X.env := by rfl) : SE X E (.Attribute e "value" pos) (e1 (oVal all) f) := ⟨PE.imp (pe_xv ha.pe hb) fun σ H Q hh => by
  have h2 := t_e1 hh
  obtain ⟨F, ι, env, S, s, en, l⟩ := h2
  refine ⟨F, ι, env, S, s, en, l.imp fun w H1 ⟨F, ι, S, v, r, S', sm, q, e, t⟩ => ?_⟩
  unfold oVal at e
  obtain ⟨⟨c, y⟩, he, e⟩ := Option.map_eq_some_iff.mp e
  cases e
  obtain ⟨hc, a, dx, u, rfl, h1, h2, i⟩ := exc_is q he
  exact ⟨a, _, dx, u, rfl, h1, h2, T.cls c hc, t F ι H1 u (.refl _ _ _) sm i⟩⟩
theorem se_isX (T : XAll X.K all) (hC : C ∈ all) (hg : Gl X "isinstance") (hm : X.mg "isinstance" = none) (hg2 : Gl X C) (hm2 : X.mg C = some (.ref (He.ga X.K C))) (ha : SE X E e f) (hdb2 : (C == ("__debug__" : Str)) = false := by decide)
    (he1 : starEach [e, .Name C p2] X.env = (false, eval e X.env) :: starEach [.Name C p2] X.env := by rfl) (he2 : starEach [.Name C p2] X.env = (false, eval (.Name C p2) X.env) :: starEach [] X.env := by rfl) (hpl : (backTo pos (starEach [.Name C p2] X.env)).any (·.1) = false := by rfl) :
    SE X E (.Call (.Name "isinstance" p) [e, .Name C p2] [] pos) (e1 (oIsX all C) f) := ⟨PE.imp (pe_callB call_isX hg hm boot_isinstance (pa_cons ha.pe (pa_cons (pe_glob (v := .ref (He.ga X.K C)) hg2 hm2 rfl hdb2) pa_nil he2) he1) (by decide) (by decide) he1 hpl) fun σ H Q hh => by
  have h2 := t_e1 hh
  obtain ⟨F, ι, env, S, s, en, l⟩ := h2
  refine ⟨F, ι, env, S, s, en, l.imp fun w H1 ⟨F, ι, S, v, r, S', sm, q, e, t⟩ => ?_⟩
  unfold oIsX at e
  split at e
  · cases e
    cases q
    exact ⟨.non, _, rfl, .inl ⟨rfl, false, T.non C hC, t F ι H1 _ (.refl _ _ _) sm (.bl _)⟩⟩
  · obtain ⟨⟨c, y⟩, he, e⟩ := Option.map_eq_some_iff.mp e
    cases e
    obtain ⟨hc, a, dx, u, rfl, h1, h2, i⟩ := exc_is q he
    exact ⟨_, _, rfl, .inr ⟨a, _, dx, u, _, rfl, h1, h2, T.cls c hc, T.one c hc C hC, t F ι H1 _ (.refl _ _ _) sm (.bl _)⟩⟩⟩
end
end Fw
namespace Fw
open PySem PySem.Spec PySem.W PyProof.Rows L2
/-! ### the facts of the classes of errors, as tests of the written part -/
def xParB : Arguments → Bool
  | ⟨[], [⟨a1, none, _⟩, ⟨a2, none, _⟩], none, [], [], none, []⟩ => decide (a1 = "self" ∧ a2 = "value")
  | _ => false
def xBodB : FuncBody → Bool
  | .stmts [.Expr (.Call (.Attribute (.Call (.Name s0 _) [] [] _) i0 q2) [.Constant (.str _) _ _] [] q4) _, .Assign [.Attribute (.Name s1 _) v1 _] (.Name v2 _) _] => decide ((s0 = "super" ∧ i0 = "__init__" ∧ s1 = "self") ∧ v1 = "value" ∧ v2 = "value" ∧ q2.endLine = q4.line)
  | _ => false
def cloOf (K : Fg) (f : Addr) : Addr := match K.lookup f with
  | some ⟨_, _, .func fd, _⟩ => match fd.closure with
    | [(_, c)] => c
    | _ => 0
  | _ => 0
def isNon : Value → Bool
  | .none => true
  | _ => false
def fileB (K : Fg) (file : Str) : Value → Bool
  | .ref c => match K.lookup c with
    | some ⟨_, _, .fields vs, _⟩ => match (vs[2]? : Option Value) with
      | some (.str f _) => decide (f = file)
      | _ => false
    | _ => false
  | _ => false
def xFnB (K : Fg) (file : Str) (f : Addr) : Bool := match K.lookup f with
  | some ⟨_, _, .func fd, _⟩ => (decide (fd.name = "__init__" ∧ fd.qualname = "RuleError.__init__" ∧ fd.scope = riS ∧ fd.globals = mainGlobals ∧ fd.builtins = builtinsNs) && (xParB fd.params && xBodB fd.body)) &&
      ((isNon fd.defaults && isNon fd.kwdefaults) && (decide (fd.closure = [(("__class__" : Str), cloOf K f)]) && (codeIn K fd.code "RuleError.__init__" && fileB K file fd.code)))
  | _ => false
def xCelB (K : Fg) (c D : Addr) : Bool := match K.lookup c with
  | some ⟨_, _, .cell (some (.ref a)), _⟩ => decide (a = D)
  | _ => false
def xClsB (K : Fg) (C : Addr) : Bool := match K.lookup C with
  | some ⟨.type "type", _, .cls cd, sl⟩ => (match cd.mro, sl.toList with
    | .ref C' :: bm, [_, _, _, _, some (.builtin n), _] => decide (C' = C ∧ n = "ValueError.__new__") && ((!cd.hasDel && cd.hasDict) && HandSPX.refsVE bm)
    | _, _ => false)
  | _ => false
abbrev rE (K : Fg) : Addr := He.ga K "RuleError"
abbrev rI (K : Fg) : Addr := He.ma K (rE K) "__init__"
def xTxtB (K : Fg) (file : Str) (C : Addr) : Bool :=
  (xClsB K C && (decide (findIn K (.ref C) "__setattr__" = some (some (.builtin "object.__setattr__"))) && (decide (findIn K (.ref C) "value" = some none) && decide (findIn K (.ref C) "__init__" = some (some (.ref (rI K))))))) &&
  ((decide (typeIn K (.ref (rI K)) = some (.type "function")) && (keepIn K (.ref C) && (decide (subIn K (.ref C) (.type "BaseException") = some true) && decide (typeIn K (.ref C) = some (.type "type"))))) &&
  ((xFnB K file (rI K) && (xCelB K (cloOf K (rI K)) (rE K) && ((clsIn K (rE K)).isSome && decide (mroIn K C (.ref (rE K)) = some true)))) &&
  (decide (nsIn K cStatics "thirdparty.any" = some none) && (decide (ks_superIn K C (rE K) "__init__" = some (some (.builtin "ValueError.__init__"))) && decide (subIn K (.ref C) (.type "ValueError") = some true)))))
theorem ba {a b : Bool} (h : (a && b) = true) : a = true ∧ b = true := Bool.and_eq_true_iff.mp h
theorem isNon_ok {v : Value} (h : isNon v = true) : v = .none := by
  cases v <;> first | rfl | cases h
theorem xPar_ok {p : Arguments} (h : xParB p = true) : ∃ p1 p2, p = riA p1 p2 := by
  unfold xParB at h
  split at h
  · obtain ⟨rfl, rfl⟩ := of_decide_eq_true h
    exact ⟨_, _, rfl⟩
  · cases h
theorem xBod_ok {b : FuncBody} (h : xBodB b = true) : ∃ t n q0 q1 q2 q3 q4 q5 q6 q7 q8 q9, b = .stmts (riB t n q0 q1 q2 q3 q4 q5 q6 q7 q8 q9) ∧ q2.endLine = q4.line := by
  unfold xBodB at h
  split at h
  · obtain ⟨⟨rfl, rfl, rfl⟩, rfl, rfl, hl⟩ := of_decide_eq_true h
    exact ⟨_, _, _, _, _, _, _, _, _, _, _, _, rfl, hl⟩
  · cases h
theorem xCls_ok {K : Fg} {C : Addr} (h : xClsB K C = true) : ∃ nm q N bs bm sn sub ab col dd k0 k1 k2 k3 k5, K.lookup C = some (excClassObj nm q C N bs bm true sn sub ab col dd k0 k1 k2 k3 k5 "ValueError.__new__") ∧ HandSPX.refsVE bm = true := by
  unfold xClsB at h
  split at h
  · rename_i dd cd sl ho
    split at h
    · rename_i C' bm k0 k1 k2 k3 n k5 hm hs
      obtain ⟨h1, h2⟩ := ba h
      obtain ⟨h2, h3⟩ := ba h2
      obtain ⟨h2, h4⟩ := ba h2
      obtain ⟨rfl, rfl⟩ := of_decide_eq_true h1
      obtain ⟨nm, bs, mro, ns, qn, hd, sn, sub, ab, col, del⟩ := cd
      dsimp only at hm h2 h4
      subst hm h4
      have hdel : del = false := by simpa using h2
      subst hdel
      have hsl : sl = #[k0, k1, k2, k3, some (.builtin "ValueError.__new__"), k5] := by
        obtain ⟨l⟩ := sl
        simp only at hs
        rw [hs]
      subst hsl
      exact ⟨nm, qn, ns, bs, bm, sn, sub, ab, col, dd, k0, k1, k2, k3, k5, ho, h3⟩
    · cases h
  · cases h
/-- what is to be known of the program -/
structure PFile (P : Program) (file : Str) : Prop where
  file : ((P.main.file : Str) == file) = true
  top : (P.main.scope.names.lookup ("super" : Str)).isSome = false
theorem xtxt_of {P : Program} {K : Fg} {file : Str} {C : Addr} (pf : PFile P file) (h : xTxtB K file C = true) : XTxt P K C (rE K) (rI K) (cloOf K (rI K)) := by
  obtain ⟨ha, h⟩ := ba h
  obtain ⟨hb, h⟩ := ba h
  obtain ⟨hc, h⟩ := ba h
  obtain ⟨a1, a2⟩ := ba ha
  obtain ⟨a2, a3⟩ := ba a2
  obtain ⟨a3, a4⟩ := ba a3
  obtain ⟨b1, b2⟩ := ba hb
  obtain ⟨b2, b3⟩ := ba b2
  obtain ⟨b3, b4⟩ := ba b3
  obtain ⟨c1, c2⟩ := ba hc
  obtain ⟨c2, c3⟩ := ba c2
  obtain ⟨c3, c4⟩ := ba c3
  obtain ⟨d1, d2⟩ := ba h
  obtain ⟨d2, d3⟩ := ba d2
  refine ⟨xCls_ok a1, of_decide_eq_true a2, of_decide_eq_true a3, of_decide_eq_true a4, of_decide_eq_true b1, b2, of_decide_eq_true b3, of_decide_eq_true b4, ?_, pf.top, ?_, c3, of_decide_eq_true c4, of_decide_eq_true d1, of_decide_eq_true d2, of_decide_eq_true d3⟩
  · unfold xFnB at c1
    split at c1
    · rename_i oc od fd osl ho
      obtain ⟨e1, e2⟩ := ba c1
      obtain ⟨e1, e3⟩ := ba e1
      obtain ⟨e3, e4⟩ := ba e3
      obtain ⟨e5, e6⟩ := ba e2
      obtain ⟨e5, e7⟩ := ba e5
      obtain ⟨e6, e8⟩ := ba e6
      obtain ⟨e8, e9⟩ := ba e8
      obtain ⟨n1, n2, n3, n4, n5, n6, n7, n8, n9, n10, n11, n12, n13, n14, n15⟩ := fd
      dsimp only at e1 e3 e4 e5 e7 e6 e8 e9
      clear c1 e2
      obtain ⟨r1, r2, r3, r4, r5⟩ := of_decide_eq_true e1
      obtain ⟨p1, p2, r6⟩ := xPar_ok e3
      obtain ⟨t, n, q0, q1, q2, q3, q4, q5, q6, q7, q8, q9, r7, hl⟩ := xBod_ok e4
      have r8 := isNon_ok e5
      have r9 := isNon_ok e7
      have r10 := of_decide_eq_true e6
      cases n13 with
      | ref cda =>
        have e9 : (match K.lookup cda with
          | some ⟨_, _, .fields vs, _⟩ => match (vs[2]? : Option Value) with
            | some (.str f _) => decide (f = file)
            | _ => false
          | _ => false) = true := e9
        split at e9
        · next ccl cdd vs ccs hcd =>
          split at e9
          · next f tf hv =>
            have r11 := of_decide_eq_true e9
            rw [r1, r2, r6, r7, r3, r4, r10, r8, r9, r5] at ho
            rw [r11] at hv
            exact ⟨oc, od, osl, n10, n11, n12, cda, n14, p1, p2, t, n, q0, q1, q2, q3, q4, q5, q6, q7, q8, q9, ccl, cdd, vs, ccs, file, tf, ho, e8, hcd, hv, pf.file, hl⟩
          · cases e9
        · cases e9
      | _ => cases e9
    · cases c1
  · unfold xCelB at c2
    split at c2
    · rename_i cl cld a csl ho
      have e := of_decide_eq_true c2
      rw [e] at ho
      exact ⟨cl, cld, csl, ho⟩
    · cases c2
def xAskB (K : Fg) (D : Addr) : Bool :=
  ((clsIn K D).isSome && (decide (findIn K (.ref D) "__getattribute__" = some (some (.builtin "BaseException.__getattribute__"))) && (decide (findIn K (.ref D) "__getattr__" = some none) && decide (subIn K (.ref D) (.type "BaseException") = some true)))) &&
  ((decide (findIn K (.ref D) "__class__" = some (some (.builtin "object.__class__"))) && (decide (specialIn K (.builtin "object.__class__") "__get__" = some (some (.builtin "getset_descriptor.__get__"))) && decide (takesIn K (.builtin "object.__class__") = some true))) &&
  (decide (mroIn K D (.type "object") = some true) && (hasDictIn K D && (decide (findIn K (.ref D) "value" = some none) && keepIn K (.ref D)))))
theorem xAsk_ok {K : Fg} {D : Addr} (h : xAskB K D = true) : XCls K D := by
  obtain ⟨ha, h⟩ := ba h
  obtain ⟨hb, h⟩ := ba h
  obtain ⟨a1, a2⟩ := ba ha
  obtain ⟨a2, a3⟩ := ba a2
  obtain ⟨a3, a4⟩ := ba a3
  obtain ⟨b1, b2⟩ := ba hb
  obtain ⟨b2, b3⟩ := ba b2
  obtain ⟨c1, c2⟩ := ba h
  obtain ⟨c2, c3⟩ := ba c2
  obtain ⟨c3, c4⟩ := ba c3
  exact ⟨a1, of_decide_eq_true a2, of_decide_eq_true a3, of_decide_eq_true a4, of_decide_eq_true b1, of_decide_eq_true b2, of_decide_eq_true b3, of_decide_eq_true c1, c2, of_decide_eq_true c3, c4⟩
def xAllB (K : Fg) (all : List Str) : Bool := all.all fun c => xAskB K (He.ga K c) && (decide (kitOne K (.type "NoneType") (.ref (He.ga K c)) = some false) && (decide (exmOne K (.ref (He.ga K c)) (.ref (rE K)) = some true) &&
  all.all fun d => decide (kitOne K (.ref (He.ga K c)) (.ref (He.ga K d)) = some (decide (c = d) || decide (d = "RuleError")))))
theorem xAll_ok {K : Fg} {all : List Str} (h : xAllB K all = true) : XAll K all := by
  have h := List.all_eq_true.mp h
  refine ⟨fun c hc => xAsk_ok (ba (h c hc)).1, fun c hc d hd => ?_, fun d hd => of_decide_eq_true (ba (ba (h d hd)).2).1, fun c hc => of_decide_eq_true (ba (ba (ba (h c hc)).2).2).1⟩
  exact of_decide_eq_true (List.all_eq_true.mp (ba (ba (ba (h c hc)).2).2).2 d hd)
/-! ### the head's look, the statics with it -/
def asZ (g : Addr → Option Obj) (n : Nat) : List Addr := He.asD g n ++ [cStatics]
def obsZ (n : Nat) (fa : List He.Fa) (fn : List He.DefD) (ex : Fg → Bool) (g : Addr → Option Obj) : He.AlX := (He.obsT fa fn [] (He.frT g (asZ g n)), ex (He.frT g (asZ g n)))
theorem saysZ_of {n : Nat} {fa : List He.Fa} {fn : List He.DefD} {ex : Fg → Bool} {w : World} {h : Heap} (e : obsZ n fa fn ex h.get? = He.valX fn [] w) : He.SaysX fa fn [] [] ex w h (He.frT h.get? (asZ h.get? n)) :=
  ⟨congrArg (fun z : He.AlX => z.1) e, congrArg (fun z : He.AlX => z.2) e, fun p hp => absurd hp List.not_mem_nil, fun p hp => absurd hp List.not_mem_nil, fun p hp => absurd hp List.not_mem_nil⟩
def hookZ (n : Nat) (fa : List He.Fa) (fn : List He.DefD) (ex : Fg → Bool) : Hook where
  α := He.AlX
  obs := fun s => obsZ n fa fn ex s.heap.get?
  val := fun w => He.valX fn [] w
  says := fun w h => ∃ K : Fg, K.In h ∧ He.SaysX fa fn [] [] ex w h K
  of := fun _ _ e => ⟨_, He.frT_in, saysZ_of e⟩
  keeps := fun _ _ _ ⟨K, hK, c⟩ k => ⟨K, Frag.In.keeps hK k, ⟨c.t, c.more, c.hd, c.out, fun p hp => k _ _ (c.empty p hp)⟩⟩
theorem obsZ_eq {n : Nat} {fa : List He.Fa} {fn : List He.DefD} {ex : Fg → Bool} {g : Addr → Option Obj} {s : Shared} (h : ∀ a, g a = s.heap.get? a) : obsZ n fa fn ex g = (hookZ n fa fn ex).obs s := by
  rw [show g = s.heap.get? from funext h] <;> rfl
end Fw
namespace Fw
open PySem PySem.Spec PyProof.Rows L2
open Sem (wp)

/-! ### sum(rows, []) -/
theorem args_sum2 (a b : Value) : argsOk "sum" ⟨[a, b], []⟩ := by unfold argsOk; kernel_rfl
abbrev listO (x : List Value) (n : Nat) : Obj := { cls := .type "list", data := .seq x.toArray n }
section
variable {prog : Program} {w : World} {A : Around} {R : Result → Shared → Prop} {s : Shared} {h₀ : Heap} {it l S : Addr} {items : List Value} {ls : List (List Value)}
theorem sumL_loop (hh : A.handled = none) (hl : h₀.IsList l items.toArray) (hlen : ls.length = items.length) (hi : ∀ (j : Nat) (v : Value), items[j]? = some v → ∃ (a : Addr) (x : List Value) (n : Nat), v = Value.ref a ∧ ls[j]? = some x ∧ h₀.get? a = some (listO x n)) (nit : h₀.get? it = none) (nS : h₀.get? S = none) (hne : S ≠ it) :
    ∀ (k i : Nat) (h : Heap) (tk : Nat) (t : Addr) (acc : List Value) (n c : Nat), items.length - i = k → i ≤ items.length → (∀ b o, h₀.get? b = some o → h.get? b = some o) → h.IsListIter it l i → h.get? S = some (listO [.ref t] c) → h.get? t = some (listO acc n) → t ≠ S → t ≠ it →
      acc.length + (ls.drop i).flatten.length ≤ sizeLine → h₀.objs.size ≤ h.objs.size →
      (∀ h' tk' t' n', (∀ b o, h₀.get? b = some o → h'.get? b = some o) → h'.get? t' = some (listO (acc ++ (ls.drop i).flatten) n') → (t' = t ∧ ls.drop i = [] ∨ h₀.objs.size ≤ t') → R (.ok (.ret (.ref t'))) { s with heap := h', toks := tk' }) →
      codeAny (model prog w) A (.builtin "sum.loop" ⟨[.ref it, .ref S, rawInt 2, rawInt 0], []⟩) R { s with heap := h, toks := tk } := by
  intro k
  induction k with
  | zero =>
    intro i h tk t acc n c hk hi' hkeep hit hS ht htS htI hz hsz hR
    have hin : i = items.length := by omega
    refine codeAny_builtin F.entry_sum_loop ?_
    rw [Around.under_plainId F.plain_sum_loop _]
    show wpAny _ A.in1 (seqItems? (.ref S) >>= _) _ _ _
    refine wpAny_bind (wpAny_seqItems hS rfl ?_)
    show wpAny _ A.in1 (tryCatch (pyNext (.ref it)) _ >>= _) _ _ _
    have hl' : h.IsList l items.toArray := hl.at (hkeep l)
    have e0 : items.toArray[i]? = none := by simp [hin]
    refine wpAny_bind (wpAny_tryCatch (wpAny_pyNext_list_end hh hit hl' e0 fun h' hx => ?_))
    have ed : ls.drop i = [] := List.drop_of_length_le (by omega)
    refine wpAny_pure (hR h' tk t n (fun b o e => hx b o (fun e2 => by rw [e2, nit] at e; cases e) (hkeep b o e)) ?_ (.inl ⟨rfl, ed⟩))
    rw [ed]
    simpa using hx t _ htI ht
  | succ k ih =>
    intro i h tk t acc n c hk hi' hkeep hit hS ht htS htI hz hsz hR
    have hlt : i < items.length := by omega
    refine codeAny_builtin F.entry_sum_loop ?_
    rw [Around.under_plainId F.plain_sum_loop _]
    show wpAny _ A.in1 (seqItems? (.ref S) >>= _) _ _ _
    refine wpAny_bind (wpAny_seqItems hS rfl ?_)
    show wpAny _ A.in1 (tryCatch (pyNext (.ref it)) _ >>= _) _ _ _
    have hl' : h.IsList l items.toArray := hl.at (hkeep l)
    obtain ⟨a, x, m, ev, ex, ha⟩ := hi i items[i] (List.getElem?_eq_getElem hlt)
    have e0 : items.toArray[i]? = some (.ref a) := by simp [hlt, ev]
    have hdrop : ls.drop i = x :: ls.drop (i + 1) := by
      have hl2 : i < ls.length := by omega
      rw [List.drop_eq_getElem_cons hl2]
      rw [List.getElem?_eq_getElem hl2] at ex
      rw [Option.some.inj ex]
    rw [hdrop, List.flatten_cons, List.length_append] at hz
    refine wpAny_bind (wpAny_tryCatch (wpAny_pyNext_list_item hit hl' e0 fun h' hit' hb => ?_))
    have k' : ∀ b o, b ≠ it → h.get? b = some o → h'.get? b = some o := fun b o hb' e => (hb.2 b hb').trans e
    have ha' : h'.get? a = some (listO x m) := k' a _ (fun e => by rw [e, nit] at ha; cases ha) (hkeep a _ ha)
    have ht' : h'.get? t = some (listO acc n) := k' t _ htI ht
    have hS' : h'.get? S = some (listO [.ref t] c) := k' S _ hne hS
    show wpAny _ A.in1 ((holding [Value.ref a] (binaryOp .Add (.ref t) (.ref a))).attempt >>= _) _ _ _
    refine wpAny_bind (wpAny_attempt (wpAny_holding (P.add_list ht' ha' ?_ (by rw [List.size_toArray, List.size_toArray]; omega))))
    have ea : acc.toArray ++ x.toArray = (acc ++ x).toArray := by simp
    rw [ea]
    have nn : h'.get? h'.objs.size = none := by simp [Heap.get?]
    have hS2 : (h'.push (listO (acc ++ x) 0)).get? S = some (listO [.ref t] c) := Heap.get?_push_of_some _ hS'
    show wpAny _ A.in1 (updateSeq S (fun _ => #[Value.ref h'.objs.size]) >>= _) _ _ _
    refine wpAny_bind (wpAny_updateSeq hS2 rfl ?_)
    have hS3 := Heap.get?_update_self (Obj.mapSeq fun _ => #[Value.ref h'.objs.size]) hS2 rfl
    refine wpAny_bind (wpAny_letGo ?_)
    refine wpAny_bind (wpAny_updateSeq hS3 rfl (wpAny_pure ⟨plainId_quiet F.plain_sum_loop _, ?_⟩))
    have keep2 : ∀ b o, b ≠ S → h'.get? b = some o → (((h'.push (listO (acc ++ x) 0)).update S (Obj.mapSeq fun _ => #[Value.ref h'.objs.size])).update S (Obj.mapSeq fun _ => #[Value.ref h'.objs.size])).get? b = some o := fun b o hb' e => by
      rw [Heap.get?_update_other _ _ (Ne.symm hb'), Heap.get?_update_other _ _ (Ne.symm hb')]
      exact Heap.get?_push_of_some _ e
    have hnS : h'.objs.size ≠ S := fun e => by rw [e] at nn; rw [nn] at hS'; cases hS'
    have hnI : h'.objs.size ≠ it := fun e => by
      obtain ⟨o, ho, _⟩ := hit'
      rw [e] at nn
      rw [nn] at ho
      cases ho
    obtain ⟨c2, hS4⟩ : ∃ c2, (((h'.push (listO (acc ++ x) 0)).update S (Obj.mapSeq fun _ => #[Value.ref h'.objs.size])).update S (Obj.mapSeq fun _ => #[Value.ref h'.objs.size])).get? S = some (listO [.ref h'.objs.size] c2) := ⟨_, Heap.get?_update_self _ hS3 rfl⟩
    refine ih (i + 1) _ _ h'.objs.size (acc ++ x) 0 c2 (by omega) hlt (fun b o e => keep2 b o (fun e2 => by rw [e2, nS] at e; cases e) (k' b o (fun e2 => by rw [e2, nit] at e; cases e) (hkeep b o e))) ?_ hS4 ?_ hnS hnI (by rw [List.length_append]; omega) ?_ fun h2 tk2 t2 n2 g1 g2 g3 => ?_
    · obtain ⟨o, ho, q⟩ := hit'
      exact ⟨o, keep2 it o (Ne.symm hne) ho, q⟩
    · rw [Heap.get?_update_other _ _ (Ne.symm hnS), Heap.get?_update_other _ _ (Ne.symm hnS)]
      exact Heap.get?_push_size _ rfl
    · have e9 : h'.objs.size = h.objs.size := hb.1
      rw [Heap.size_update, Heap.size_update, size_push', e9]
      omega
    · refine hR h2 tk2 t2 n2 g1 ?_ (.inr ?_)
      · rw [hdrop, List.flatten_cons, ← List.append_assoc]
        exact g2
      · rcases g3 with ⟨g3, _⟩ | g3
        · have e9 : h'.objs.size = h.objs.size := hb.1
          rw [g3, e9]
          exact hsz
        · exact g3
end
section
variable {prog : Program} {w : World} {A : Around} {E : Value → Shared → Prop} {s : Shared}
theorem sumL_call {l e : Addr} {items : List Value} {ls : List (List Value)} {ne : Nat} {Q : Value → Shared → Prop} (hh : A.handled = none) (hl : s.heap.IsList l items.toArray) (hlen : ls.length = items.length) (hi : ∀ (j : Nat) (v : Value), items[j]? = some v → ∃ (a : Addr) (x : List Value) (n : Nat), v = Value.ref a ∧ ls[j]? = some x ∧ s.heap.get? a = some (listO x n))
    (he : s.heap.get? e = some (listO [] ne)) (hz : ls.flatten.length ≤ sizeLine)
    (h : ∀ h' tk t n, (∀ b o, s.heap.get? b = some o → h'.get? b = some o) → h'.get? t = some (listO ls.flatten n) → (t = e ∧ ls = [] ∨ s.heap.objs.size ≤ t) → Q (.ref t) { s with heap := h', toks := tk }) :
    wpAny (model prog w) A (call (.builtin "sum") [.ref l, .ref e]) Q E s := by
  refine call_function_tree F.kind_sum F.plain_sum F.entry_sum (args_sum2 _ _) ?_
  unfold Builtin.«sum»
  simp only [List.length_cons, List.length_nil]
  rw [if_neg (by decide)]
  refine wpAny_bind (wpAny_of_eq (show Builtin.Builtins.bindParams "sum" ["start"] 0 ⟨[.ref e], []⟩ = pure [some (.ref e)] from rfl) ?_)
  refine wpAny_bind (wpAny_pyIter_list hl ?_)
  refine wpAny_bind (wpAny_pure ?_)
  have te : ({ s with heap := s.heap.push { cls := .type "list_iterator", data := .fields #[.ref l, .int 0 0] } } : Shared).TypeIs (.ref e) "list" := ⟨_, Heap.get?_push_of_some _ he, rfl⟩
  simp only [List.forIn_cons, List.forIn_nil]
  refine wpAny_bind (wpAny_bind (wpAny_bind (wpAny_isInstance (T := "list") (b := false) te F.sub_list_str ?_)))
  simp only [Bool.false_eq_true, if_false]
  refine wpAny_pure (wpAny_bind (wpAny_bind (wpAny_isInstance (T := "list") (b := false) te F.sub_list_bytes ?_)))
  simp only [Bool.false_eq_true, if_false]
  refine wpAny_pure (wpAny_bind (wpAny_bind (wpAny_isInstance (T := "list") (b := false) te F.sub_list_bytearray ?_)))
  simp only [Bool.false_eq_true, if_false]
  refine wpAny_pure (wpAny_pure ?_)
  refine wpAny_bind (wpAny_newObj_type ?_)
  have n0 : s.heap.get? s.heap.objs.size = none := by simp [Heap.get?]
  have n1 : s.heap.get? (s.heap.push { cls := .type "list_iterator", data := .fields #[.ref l, .int 0 0] }).objs.size = none := by simp [Heap.get?, size_push']
  refine wpAny_pure ⟨plainId_quiet F.plain_sum_loop _, ?_⟩
  refine sumL_loop (h₀ := s.heap) (it := s.heap.objs.size) (l := l) (items := items) (ls := ls) hh hl hlen hi n0 n1 (by rw [size_push']; exact Nat.succ_ne_self _) items.length 0 _ s.toks e [] ne 0 rfl (Nat.zero_le _) (fun b o q => Heap.get?_push_of_some _ (Heap.get?_push_of_some _ q)) ?_ (Heap.get?_push_size _ rfl) (Heap.get?_push_of_some _ (Heap.get?_push_of_some _ he)) ?_ ?_ (by simpa using hz) (by rw [size_push', size_push']; omega) fun h' tk t n k1 k2 k3 => ?_
  · exact ⟨_, Heap.get?_push_of_some _ (Heap.get?_push_size _ rfl), rfl, rfl⟩
  · intro q
    rw [q, n1] at he
    cases he
  · intro q
    rw [q, n0] at he
    cases he
  · exact h h' tk t n k1 (by simpa using k2) (by simpa using k3)
end
end Fw
namespace Fw
open PySem PySem.Spec PyProof.Rows L2
open PySem.W (EachIs)

/-- rows that are lists -/
def RowsIn (H : Hp) : List V → List (List V) → Prop
  | [], [] => True
  | w :: ws, r :: rs => (∃ b : Addr, w = .ref b ∧ H b = some (.lst r)) ∧ RowsIn H ws rs
  | _, _ => False
def rSumL (K : Fg) : List V → Hp → VK → Prop := fun vs H Q => ∃ (a e : Addr) (ws : List V) (rows : List (List V)), vs = [V.ref a, V.ref e] ∧ H a = some (.lst ws) ∧ RowsIn H ws rows ∧ H e = some (.lst []) ∧ rows.flatten.length ≤ sizeLine ∧ (rows = [] → Q (.ref e) H) ∧ ∀ p, H p = none → Q (.ref p) (upd H p (.lst rows.flatten))
section
variable {X : Cx}
theorem rows_vals {pins : List (Addr × Obj)} {σ : L2.St} {H : Hp} {s : Shared} (I : Inv X pins σ H s) : ∀ {ws : List V} {rows : List (List V)} {its : List Value}, RowsIn H ws rows → Vals ws its →
    ∃ ls : List (List Value), ls.length = its.length ∧ (rows = [] ↔ ls = []) ∧ Vals rows.flatten ls.flatten ∧ ∀ (j : Nat) (v : Value), its[j]? = some v → ∃ (a : Addr) (x : List Value) (n : Nat), v = Value.ref a ∧ ls[j]? = some x ∧ s.heap.get? a = some (listO x n)
  | [], [], _, _, .nil => ⟨[], rfl, by simp, .nil, fun j v h => by simp at h⟩
  | [], _ :: _, _, h, _ => h.elim
  | _ :: _, [], _, h, _ => h.elim
  | w :: ws, r :: rows, _, ⟨⟨b, e, hb⟩, h⟩, .cons rv rvs => by
    subst e
    obtain ⟨ls, h1, h2, h3, h4⟩ := rows_vals I h rvs
    obtain ⟨z, its, n, hv, hl, ho⟩ := I.lstM hb
    cases rv
    refine ⟨its :: ls, by rw [List.length_cons, List.length_cons, h1], by simp, ?_, fun j v hj => ?_⟩
    · rw [List.flatten_cons, List.flatten_cons]
      exact hv.append h3
    · cases j with
      | zero =>
        rw [List.getElem?_cons_zero] at hj
        cases hj
        exact ⟨b, its, n, rfl, rfl, ho⟩
      | succ j =>
        rw [List.getElem?_cons_succ] at hj
        obtain ⟨a, x, m, e1, e2, e3⟩ := h4 j v hj
        exact ⟨a, x, m, e1, by rw [List.getElem?_cons_succ]; exact e2, e3⟩
theorem cr_sumL (hc : X.calm = true) : CallR X (.builtin "sum") (rSumL X.K) := by
  intro pins s σ H vs us Q I r h
  obtain ⟨a, e, ws, rows, rfl, ha, hr, he, hz, q1, q2⟩ := h
  obtain ⟨u1, u2, rfl, r1, r2⟩ := vals2 r
  cases r1
  cases r2
  obtain ⟨z, its, n, rv, hl, ho⟩ := I.lstM ha
  obtain ⟨z2, its2, n2, rv2, hl2, ho2⟩ := I.lstM he
  cases rv2
  obtain ⟨ls, h1, h2, h3, h4⟩ := rows_vals I hr rv
  refine sumL_call (items := its) (ls := ls) (I.ok.hd hc) ⟨_, ho, rfl, _, rfl⟩ h1 h4 ho2 (by rw [← h3.length]; exact hz) fun h' tk t m k1 k2 k3 => ?_
  rcases k3 with ⟨rfl, k3⟩ | k3
  · exact ⟨.ref _, H, I.kept k1, rfl, q1 (h2.mpr k3)⟩
  · exact ⟨.ref t, upd H t (.lst rows.flatten), I.laid (t' := tk) k1 k3 ⟨hz, ls.flatten, m, h3, k2⟩, rfl, q2 _ (I.hok.fresh k3)⟩
end
def lists? : List PyData → Option (List (List PyData))
  | [] => some []
  | .list xs :: r => (lists? r).map (xs :: ·)
  | _ :: _ => none
theorem lists_ok {K : Fg} {F : Fz} {H : Hp} : ∀ {xs : List PyData} {ws : List V} {rs : List (List PyData)}, lists? xs = some rs → IsAll K F H ws xs → ∃ rows : List (List V), RowsIn H ws rows ∧ IsAll K F H rows.flatten rs.flatten ∧ (rs = [] ↔ rows = [])
  | [], _, _, h, i => by
    cases h
    cases i
    exact ⟨[], trivial, .nil, by simp⟩
  | .list ys :: xs, _, _, h, i => by
    obtain ⟨rs', h1, rfl⟩ := Option.map_eq_some_iff.mp (show (lists? xs).map (ys :: ·) = some _ from h)
    cases i with
    | cons i t =>
      obtain ⟨rows, h2, h3, h4⟩ := lists_ok h1 t
      cases i with
      | @lst a zs _ hf ha =>
        refine ⟨zs :: rows, ⟨⟨a, rfl, hf.2⟩, h2⟩, ?_, by simp⟩
        rw [List.flatten_cons, List.flatten_cons]
        exact ha.append h3
  | .none :: _, _, _, h, _ => by cases h
  | .bool _ :: _, _, _, h, _ => by cases h
  | .int _ :: _, _, _, h, _ => by cases h
  | .str _ :: _, _, _, h, _ => by cases h
  | .tuple _ :: _, _, _, h, _ => by cases h
  | .dict _ :: _, _, _, h, _ => by cases h
def oSumL : OA := fun vs S => match vs with
  | [v, u] => match toD v S with
    | some (.list xs, S1) => match toD u S1 with
      | some (.list [], S2) => match lists? xs with
        | some rs => when (decide (rs.flatten.length ≤ 100000)) (.d (.list rs.flatten), S2)
        | none => none
      | _ => none
    | _ => none
  | _ => none
theorem cr_sumL' {X : Cx} (hc : X.calm = true) : CallR X (.builtin "sum") (rA X.K oSumL) := callr_imp (cr_sumL hc) fun xs H Q ⟨F, ι, S, vs, v, S', s, q, e, t⟩ => by
  unfold oSumL at e
  split at e
  · next v u =>
    obtain ⟨w, w2, rfl, q1, q2⟩ := vall2 q
    split at e
    · next ys S1 hd =>
      obtain ⟨F1, x1, s1, i1⟩ := toD_ok s q1 hd
      split at e
      · next S2 hd2 =>
        obtain ⟨F2, x2, s2, i2⟩ := toD_ok s1 (q2.mono x1) hd2
        split at e
        · next rs hr =>
          obtain ⟨hz, e⟩ := when_some e
          cases e
          have i1 := i1.mono x2
          cases i1 with
          | lst hx ax =>
            cases i2 with
            | lst hy ay =>
              cases ay
              obtain ⟨rows, h1, h2, h3⟩ := lists_ok hr ax
              refine ⟨_, _, _, rows, rfl, hx.2, h1, hy.2, big_line (by rw [h2.length]; exact of_decide_eq_true hz), fun hn => ?_, fun p hp => ?_⟩
              · have := h3.mpr hn
                subst this
                exact t F2 ι H _ (x1.trans x2) s2 (.lst hy .nil)
              · obtain ⟨y1, y2, y3⟩ := new_lst s2 hp h2
                exact t _ ι _ _ ((x1.trans x2).trans y1) y2 y3
        · cases e
      · cases e
    · cases e
  · cases e
end Fw
namespace G01
open PySem PySem.Spec PyProof.Rows L2 Fw
def top (i : Nat) : Stmt := PySem.Challenge.pw_rulesadmitted_k01_sayings_names_and_thei.main.body.getD i (.Pass ⟨0, 0, 0, 0⟩)
def mth (s : Stmt) (i : Nat) : Stmt := match s with
  | .ClassDef (body := b) .. => b.getD i (.Pass ⟨0, 0, 0, 0⟩)
  | _ => .Pass ⟨0, 0, 0, 0⟩
abbrev s__law_source : Stmt := top 31
def d__law_source : He.DefD := ⟨("_law_source", none), "_law_source", "_law_source", defArgs s__law_source, defBody s__law_source, defScope s__law_source, [], []⟩
abbrev s__law_pick : Stmt := top 32
def d__law_pick : He.DefD := ⟨("_law_pick", none), "_law_pick", "_law_pick", defArgs s__law_pick, defBody s__law_pick, defScope s__law_pick, [], []⟩
abbrev s__law_not : Stmt := top 35
def d__law_not : He.DefD := ⟨("_law_not", none), "_law_not", "_law_not", defArgs s__law_not, defBody s__law_not, defScope s__law_not, [], []⟩
abbrev s__law_saying : Stmt := top 40
def d__law_saying : He.DefD := ⟨("_law_saying", none), "_law_saying", "_law_saying", defArgs s__law_saying, defBody s__law_saying, defScope s__law_saying, [], []⟩
abbrev s_is_name_in : Stmt := top 15
def d_is_name_in : He.DefD := ⟨("is_name_in", none), "is_name_in", "is_name_in", defArgs s_is_name_in, defBody s_is_name_in, defScope s_is_name_in, [], []⟩
abbrev s_is_saying_in : Stmt := top 16
def d_is_saying_in : He.DefD := ⟨("is_saying_in", none), "is_saying_in", "is_saying_in", defArgs s_is_saying_in, defBody s_is_saying_in, defScope s_is_saying_in, [], []⟩
abbrev s_is_saying : Stmt := top 26
def d_is_saying : He.DefD := ⟨("is_saying", none), "is_saying", "is_saying", defArgs s_is_saying, defBody s_is_saying, defScope s_is_saying, [], []⟩
abbrev s_anew : Stmt := top 4
def d_anew : He.DefD := ⟨("anew", none), "anew", "anew", defArgs s_anew, defBody s_anew, defScope s_anew, [], []⟩
abbrev s_need_saying : Stmt := top 24
def d_need_saying : He.DefD := ⟨("need_saying", none), "need_saying", "need_saying", defArgs s_need_saying, defBody s_need_saying, defScope s_need_saying, [], []⟩
abbrev s_inner : Stmt := top 17
def d_inner : He.DefD := ⟨("inner", none), "inner", "inner", defArgs s_inner, defBody s_inner, defScope s_inner, [], []⟩
abbrev s_count_words : Stmt := top 18
def d_count_words : He.DefD := ⟨("count_words", none), "count_words", "count_words", defArgs s_count_words, defBody s_count_words, defScope s_count_words, [], []⟩
abbrev s_words_in : Stmt := top 27
def d_words_in : He.DefD := ⟨("words_in", none), "words_in", "words_in", defArgs s_words_in, defBody s_words_in, defScope s_words_in, [], []⟩
abbrev s__law_inner : Stmt := top 33
def d__law_inner : He.DefD := ⟨("_law_inner", none), "_law_inner", "_law_inner", defArgs s__law_inner, defBody s__law_inner, defScope s__law_inner, [], []⟩
abbrev s__law_all : Stmt := top 34
def d__law_all : He.DefD := ⟨("_law_all", none), "_law_all", "_law_all", defArgs s__law_all, defBody s__law_all, defScope s__law_all, [], []⟩
abbrev s_once : Stmt := top 20
def d_once : He.DefD := ⟨("once", none), "once", "once", defArgs s_once, defBody s_once, defScope s_once, [], []⟩
abbrev s_all_in : Stmt := top 21
def d_all_in : He.DefD := ⟨("all_in", none), "all_in", "all_in", defArgs s_all_in, defBody s_all_in, defScope s_all_in, [], []⟩
abbrev s_names_in : Stmt := top 22
def d_names_in : He.DefD := ⟨("names_in", none), "names_in", "names_in", defArgs s_names_in, defBody s_names_in, defScope s_names_in, [], []⟩
abbrev s_letters_of : Stmt := top 28
def d_letters_of : He.DefD := ⟨("letters_of", none), "letters_of", "letters_of", defArgs s_letters_of, defBody s_letters_of, defScope s_letters_of, [], []⟩
abbrev s__law_names : Stmt := top 36
def d__law_names : He.DefD := ⟨("_law_names", none), "_law_names", "_law_names", defArgs s__law_names, defBody s__law_names, defScope s__law_names, [], []⟩
abbrev s_not_of : Stmt := top 19
def d_not_of : He.DefD := ⟨("not_of", none), "not_of", "not_of", defArgs s_not_of, defBody s_not_of, defScope s_not_of, [], []⟩
abbrev s_denied : Stmt := top 29
def d_denied : He.DefD := ⟨("denied", none), "denied", "denied", defArgs s_denied, defBody s_denied, defScope s_denied, [], []⟩
abbrev s__law_near : Stmt := top 42
def d__law_near : He.DefD := ⟨("_law_near", none), "_law_near", "_law_near", defArgs s__law_near, defBody s__law_near, defScope s__law_near, [], []⟩
abbrev s__law_caught : Stmt := top 43
def d__law_caught : He.DefD := ⟨("_law_caught", none), "_law_caught", "_law_caught", defArgs s__law_caught, defBody s__law_caught, defScope s__law_caught, [], []⟩
abbrev s_is_name : Stmt := top 25
def d_is_name : He.DefD := ⟨("is_name", none), "is_name", "is_name", defArgs s_is_name, defBody s_is_name, defScope s_is_name, [], []⟩
abbrev s_law : Stmt := top 44
def d_law : He.DefD := ⟨("law", none), "law", "law", defArgs s_law, defBody s_law, defScope s_law, [], []⟩
def fn : List He.DefD := [d__law_source, d__law_pick, d__law_not, d__law_saying, d_is_name_in, d_is_saying_in, d_is_saying, d_anew, d_need_saying, d_inner, d_count_words, d_words_in, d__law_inner, d__law_all, d_once, d_all_in, d_names_in, d_letters_of, d__law_names, d_not_of, d_denied, d__law_near, d__law_caught, d_is_name, d_law]
def fa : List He.Fa := [.free "len", .free "min", .free "max", .free "range", .free "int", .free "enumerate", .free "abs", .glo "_law_source", .glo "_law_pick", .glo "_law_not", .glo "_law_saying", .free "isinstance", .free "tuple", .free "str", .str "FALSE" "false", .str "TRUE" "true", .str "LETTER" "letter", .int "MOST_SIGNS" 4, .glo "BARRED", .free "all", .glo "is_name_in", .str "IF" "if", .str "OR" "or", .str "AND" "and", .glo "is_saying_in", .glo "is_saying", .free "repr", .glo "anew", .free "list", .free "super", .glo "InvalidSaying", .glo "need_saying", .glo "inner", .glo "count_words", .free "sum", .glo "words_in", .glo "_law_inner", .glo "_law_all", .free "sorted", .glo "once", .glo "all_in", .glo "names_in", .glo "letters_of", .free "set", .glo "_law_names", .glo "NO", .glo "not_of", .glo "denied", .glo "_law_near", .glo "RuleError", .glo "_law_caught", .glo "is_name", .glo "law"]
def all : List Str := ["RuleError", "InvalidSaying"]
def ex (K : PySem.W.Frag) : Bool := He.tupB K "BARRED" (([.str "true", .str "false", .str "not", .str "and", .str "or", .str "if"] : List PyData).map dvOf) && xTxtB K "/claim/cut.py" (He.ga K "InvalidSaying") && He.tupB K "NO" (([.str "false"] : List PyData).map dvOf) && xAllB K all
abbrev P : Program := PySem.Challenge.pw_rulesadmitted_k01_sayings_names_and_thei
theorem pf : PFile P "/claim/cut.py" := ⟨by kernel_rfl, by kernel_rfl⟩
section
variable {w : World} {K : PySem.W.Frag} {mg : Str → Option Value} {base : Heap}
theorem ex_0 (c : Wd fa fn ex K mg base) : (He.tupB K "BARRED" (([.str "true", .str "false", .str "not", .str "and", .str "or", .str "if"] : List PyData).map dvOf)) = true := by
  have h : (He.tupB K "BARRED" (([.str "true", .str "false", .str "not", .str "and", .str "or", .str "if"] : List PyData).map dvOf) && xTxtB K "/claim/cut.py" (He.ga K "InvalidSaying") && He.tupB K "NO" (([.str "false"] : List PyData).map dvOf) && xAllB K all) = true := c.more
  exact (Bool.and_eq_true_iff.mp (Bool.and_eq_true_iff.mp (Bool.and_eq_true_iff.mp h).1).1).1
theorem ex_1 (c : Wd fa fn ex K mg base) : (xTxtB K "/claim/cut.py" (He.ga K "InvalidSaying")) = true := by
  have h : (He.tupB K "BARRED" (([.str "true", .str "false", .str "not", .str "and", .str "or", .str "if"] : List PyData).map dvOf) && xTxtB K "/claim/cut.py" (He.ga K "InvalidSaying") && He.tupB K "NO" (([.str "false"] : List PyData).map dvOf) && xAllB K all) = true := c.more
  exact (Bool.and_eq_true_iff.mp (Bool.and_eq_true_iff.mp (Bool.and_eq_true_iff.mp h).1).1).2
theorem ex_2 (c : Wd fa fn ex K mg base) : (He.tupB K "NO" (([.str "false"] : List PyData).map dvOf)) = true := by
  have h : (He.tupB K "BARRED" (([.str "true", .str "false", .str "not", .str "and", .str "or", .str "if"] : List PyData).map dvOf) && xTxtB K "/claim/cut.py" (He.ga K "InvalidSaying") && He.tupB K "NO" (([.str "false"] : List PyData).map dvOf) && xAllB K all) = true := c.more
  exact (Bool.and_eq_true_iff.mp (Bool.and_eq_true_iff.mp h).1).2
theorem ex_3 (c : Wd fa fn ex K mg base) : (xAllB K all) = true := by
  have h : (He.tupB K "BARRED" (([.str "true", .str "false", .str "not", .str "and", .str "or", .str "if"] : List PyData).map dvOf) && xTxtB K "/claim/cut.py" (He.ga K "InvalidSaying") && He.tupB K "NO" (([.str "false"] : List PyData).map dvOf) && xAllB K all) = true := c.more
  exact (Bool.and_eq_true_iff.mp h).2
/-! _law_source -/
theorem sc__law_source : FnScope ["script", "k", "own", "others", "at", "cell", "seed"] ["script", "k"] (defScope s__law_source) := ⟨rfl, rfl, rfl, by decide +kernel, rfl, by decide +kernel, by decide +kernel⟩
theorem kp__law_source (c : Wd fa fn ex K mg base) : PySem.W.keepIn K (.ref (He.ga K "_law_source")) = true := (c.def_ 0 (d := d__law_source) rfl).kp
theorem bn__law_source (c : Wd fa fn ex K mg base) : Binds K (fdW K d__law_source) ["script", "k"] [] := FunD.bindsN (c.def_ 0 (d := d__law_source) rfl) fun _ _ _ _ _ _ us hl => match us, hl with | [_, _], _ => rfl
def b__law_source : SF :=
  sSeq (sSet 2 (eIf (bV (e2 (oP pLt) (eVar 1) (eA oLen (aCons (eVar 0) (aNil))))) (eA oInt (aCons (e2 oSub (eVar 0) (eVar 1)) (aNil))) (e2 (oP pAdd) (e2 (oP pMul) (eC (.int 59)) (eVar 1)) (eC (.int 11))))) <|
  sSeq (sSet 3 (e2 (oP pAdd) (eC (.int 23)) (e2 (oP pMul) (eC (.int 5)) (eA oLen (aCons (eVar 0) (aNil)))))) <|
  sSeq (sFor (iEnum' (aCons (eVar 0) (aNil))) (.tup [.nm 4, .nm 5]) (sSet 3 (e2 (oP pMod) (eA oInt (aCons (e2 (oP pAdd) (e2 (oP pMul) (eVar 3) (eC (.int 1000003))) (e2 (oP pMul) (eA oInt (aCons (eVar 5) (aNil))) (e2 (oP pAdd) (e2 (oP pMul) (eC (.int 2)) (eVar 4)) (eC (.int 5))))) (aNil))) (e2 (oP pAdd) (e2 (oP pPow) (eC (.int 10)) (eC (.int 21))) (eC (.int 117)))))) <|
  sSeq (sSet 6 (e2 (oP pMod) (eA oInt (aCons (e2 (oP pAdd) (e2 (oP pAdd) (e2 (oP pAdd) (e2 (oP pMul) (eA oAbs (aCons (eVar 2) (aNil))) (eC (.int 8191))) (e2 (oP pMul) (eC (.int 5)) (eA oInt (aCons (e2 (oP pLt) (eVar 2) (eC (.int 0))) (aNil))))) (e2 (oP pMul) (eVar 3) (eC (.int 127)))) (e2 (oP pMul) (eC (.int 2003)) (eVar 1))) (aNil))) (e2 (oP pAdd) (e2 (oP pPow) (eC (.int 10)) (eC (.int 24))) (eC (.int 7))))) <|
  sRet (eA oLstM (aCons (eA oMax2 (aCons (eC (.int 0)) (aCons (e2 (oP pSub) (eA oAbs (aCons (eVar 2) (aNil))) (e2 (oP pPow) (eC (.int 10)) (eC (.int 18)))) (aNil)))) (aCons (eVar 6) (aCons (eC (.int 1)) (aNil)))))
def v__law_source : FnV := fnV 2 5 b__law_source
theorem tv__law_source : Takes' 2 v__law_source := takes_fnV
theorem ok__law_source (c : Wd fa fn ex K mg base) : FnG P w K mg base 1 (He.ga K "_law_source") (fdW K d__law_source) ["script", "k"] (SpS K 2 v__law_source) :=
  fn_ok (c.def_ 0 (d := d__law_source) rfl) sc__law_source rfl rfl fun cdv A outer s H E hr => by
    have nd := (sc__law_source).nd
    unfold b__law_source
    exact sss_cons (ss_set (i := 2) nd rfl (by first | exact Or.inl rfl | exact Or.inr rfl) (se_if (sb_cmp or_lt (se_var (pv 1)) (se_callB cr_len rfl (c.free 0 rfl) boot_len (sa_cons (se_var (pv 0)) (sa_nil)))) (se_callTy cr_int rfl (c.free 4 rfl) boot_int (sa_cons (se_sub hr.units (se_var (pv 0)) (se_var (pv 1))) (sa_nil))) (se_op or_add (se_op or_mul (se_int) (se_var (pv 1))) (se_int)))) <|
      sss_cons (ss_set (i := 3) nd rfl (by first | exact Or.inl rfl | exact Or.inr rfl) (se_op or_add (se_int) (se_op or_mul (se_int) (se_callB cr_len rfl (c.free 0 rfl) boot_len (sa_cons (se_var (pv 0)) (sa_nil)))))) <|
      sss_cons (ss_for (passes_of rfl) rfl (si_enum rfl (c.free 5 rfl) (sa_cons (se_var (pv 0)) (sa_nil))) (pg_tup rfl (pgs_cons (pg_name (i := 4) nd rfl (by first | exact Or.inl rfl | exact Or.inr rfl)) (pgs_cons (pg_name (i := 5) nd rfl (by first | exact Or.inl rfl | exact Or.inr rfl)) (pgs_nil)))) (sss_one (ss_set (i := 3) nd rfl (by first | exact Or.inl rfl | exact Or.inr rfl) (se_op or_mod (se_callTy cr_int rfl (c.free 4 rfl) boot_int (sa_cons (se_op or_add (se_op or_mul (se_var (pv 3)) (se_int)) (se_op or_mul (se_callTy cr_int rfl (c.free 4 rfl) boot_int (sa_cons (se_var (pv 5)) (sa_nil))) (se_op or_add (se_op or_mul (se_int) (se_var (pv 4))) (se_int)))) (sa_nil))) (se_op or_add (se_op or_pow (se_int) (se_int)) (se_int)))))) <|
      sss_cons (ss_set (i := 6) nd rfl (by first | exact Or.inl rfl | exact Or.inr rfl) (se_op or_mod (se_callTy cr_int rfl (c.free 4 rfl) boot_int (sa_cons (se_op or_add (se_op or_add (se_op or_add (se_op or_mul (se_callB cr_abs rfl (c.free 6 rfl) boot_abs (sa_cons (se_var (pv 2)) (sa_nil))) (se_int)) (se_op or_mul (se_int) (se_callTy cr_int rfl (c.free 4 rfl) boot_int (sa_cons (se_cmp or_lt (se_var (pv 2)) (se_int)) (sa_nil))))) (se_op or_mul (se_var (pv 3)) (se_int))) (se_op or_mul (se_int) (se_var (pv 1)))) (sa_nil))) (se_op or_add (se_op or_pow (se_int) (se_int)) (se_int)))) <|
      sss_one (ss_ret (se_lstM (sa_cons (se_callB (cr_max2 rfl) rfl (c.free 2 rfl) boot_max (sa_cons (se_int) (sa_cons (se_op or_sub (se_callB cr_abs rfl (c.free 6 rfl) boot_abs (sa_cons (se_var (pv 2)) (sa_nil))) (se_op or_pow (se_int) (se_int))) (sa_nil)))) (sa_cons (se_var (pv 6)) (sa_cons (se_int) (sa_nil))))))
/-! _law_pick -/
theorem sc__law_pick : FnScope ["source", "many", "turn", "mixed", "got"] ["source", "many"] (defScope s__law_pick) := ⟨rfl, rfl, rfl, by decide +kernel, rfl, by decide +kernel, by decide +kernel⟩
theorem kp__law_pick (c : Wd fa fn ex K mg base) : PySem.W.keepIn K (.ref (He.ga K "_law_pick")) = true := (c.def_ 1 (d := d__law_pick) rfl).kp
theorem bn__law_pick (c : Wd fa fn ex K mg base) : Binds K (fdW K d__law_pick) ["source", "many"] [] := FunD.bindsN (c.def_ 1 (d := d__law_pick) rfl) fun _ _ _ _ _ _ us hl => match us, hl with | [_, _], _ => rfl
def b__law_pick : SF :=
  sSeq (sIf (bV (e2 (oP pGt) (e2 oSub (eVar 0) (eC (.int 0))) (eC (.int 0)))) (sSeq (sSet 4 (e2 (oP pMod) (eA oInt (aCons (e2 oSub (eVar 0) (eC (.int 0))) (aNil))) (eVar 1))) <|
  sSeq (sAsg (e2 (oP pFdiv) (e2 oSub (eVar 0) (eC (.int 0))) (eVar 1)) (gSubs (eVar 0) (eC (.int 0)))) <|
  sRet (eVar 4)) (sSkip)) <|
  sSeq (sAsg (e2 (oP pAdd) (e2 oSub (eVar 0) (eC (.int 2))) (eC (.int 1))) (gSubs (eVar 0) (eC (.int 2)))) <|
  sSeq (sSet 2 (e2 oSub (eVar 0) (eC (.int 2)))) <|
  sSeq (sSet 3 (e2 (oP pMod) (eA oInt (aCons (e2 (oP pAdd) (e2 (oP pAdd) (e2 (oP pMul) (e2 (oP pMul) (e2 (oP pAdd) (e2 oSub (eVar 0) (eC (.int 1))) (eC (.int 71))) (e2 (oP pAdd) (e2 (oP pMul) (eC (.int 2)) (eVar 2)) (eC (.int 7)))) (eC (.int 736338717))) (e2 (oP pMul) (e2 (oP pMul) (eVar 2) (eVar 2)) (eC (.int 90001)))) (eC (.int 31))) (aNil))) (e2 (oP pAdd) (e2 (oP pPow) (eC (.int 10)) (eC (.int 25))) (eC (.int 13))))) <|
  sSeq (sSet 3 (e2 (oP pMod) (eA oInt (aCons (e2 (oP pAdd) (e2 (oP pAdd) (e2 (oP pMul) (eVar 3) (eVar 3)) (e2 (oP pMul) (eC (.int 777)) (eVar 2))) (e2 oSub (eVar 0) (eC (.int 1)))) (aNil))) (e2 (oP pAdd) (e2 (oP pPow) (eC (.int 10)) (eC (.int 27))) (eC (.int 103))))) <|
  sSeq (sSet 3 (e2 (oP pMod) (eA oInt (aCons (e2 (oP pAdd) (e2 (oP pAdd) (e2 (oP pMul) (e2 (oP pMul) (eVar 3) (eVar 3)) (eC (.int 3))) (e2 (oP pMul) (eC (.int 5)) (eVar 3))) (eVar 2)) (aNil))) (e2 (oP pAdd) (e2 (oP pPow) (eC (.int 10)) (eC (.int 29))) (eC (.int 319))))) <|
  sRet (e2 (oP pMod) (eA oInt (aCons (e2 (oP pFdiv) (eVar 3) (eC (.int 100003))) (aNil))) (eVar 1))
def v__law_pick : FnV := fnV 2 3 b__law_pick
theorem tv__law_pick : Takes' 2 v__law_pick := takes_fnV
theorem ok__law_pick (c : Wd fa fn ex K mg base) : FnG P w K mg base 1 (He.ga K "_law_pick") (fdW K d__law_pick) ["source", "many"] (SpS K 2 v__law_pick) :=
  fn_ok (c.def_ 1 (d := d__law_pick) rfl) sc__law_pick rfl rfl fun cdv A outer s H E hr => by
    have nd := (sc__law_pick).nd
    unfold b__law_pick
    exact sss_cons (ss_if (sb_cmp or_gt (se_sub hr.units (se_var (pv 0)) (se_int)) (se_int)) (sss_cons (ss_set (i := 4) nd rfl (by first | exact Or.inl rfl | exact Or.inr rfl) (se_op or_mod (se_callTy cr_int rfl (c.free 4 rfl) boot_int (sa_cons (se_sub hr.units (se_var (pv 0)) (se_int)) (sa_nil))) (se_var (pv 1)))) <|
      sss_cons (ss_asg (se_op or_fdiv (se_sub hr.units (se_var (pv 0)) (se_int)) (se_var (pv 1))) (sg_sub (E := Fw.E0) hr.units (se_var (pv 0)) (se_int))) <|
      sss_one (ss_ret (se_var (pv 4)))) (sss_nil)) <|
      sss_cons (ss_asg (se_op or_add (se_sub hr.units (se_var (pv 0)) (se_int)) (se_int)) (sg_sub (E := Fw.E0) hr.units (se_var (pv 0)) (se_int))) <|
      sss_cons (ss_set (i := 2) nd rfl (by first | exact Or.inl rfl | exact Or.inr rfl) (se_sub hr.units (se_var (pv 0)) (se_int))) <|
      sss_cons (ss_set (i := 3) nd rfl (by first | exact Or.inl rfl | exact Or.inr rfl) (se_op or_mod (se_callTy cr_int rfl (c.free 4 rfl) boot_int (sa_cons (se_op or_add (se_op or_add (se_op or_mul (se_op or_mul (se_op or_add (se_sub hr.units (se_var (pv 0)) (se_int)) (se_int)) (se_op or_add (se_op or_mul (se_int) (se_var (pv 2))) (se_int))) (se_int)) (se_op or_mul (se_op or_mul (se_var (pv 2)) (se_var (pv 2))) (se_int))) (se_int)) (sa_nil))) (se_op or_add (se_op or_pow (se_int) (se_int)) (se_int)))) <|
      sss_cons (ss_set (i := 3) nd rfl (by first | exact Or.inl rfl | exact Or.inr rfl) (se_op or_mod (se_callTy cr_int rfl (c.free 4 rfl) boot_int (sa_cons (se_op or_add (se_op or_add (se_op or_mul (se_var (pv 3)) (se_var (pv 3))) (se_op or_mul (se_int) (se_var (pv 2)))) (se_sub hr.units (se_var (pv 0)) (se_int))) (sa_nil))) (se_op or_add (se_op or_pow (se_int) (se_int)) (se_int)))) <|
      sss_cons (ss_set (i := 3) nd rfl (by first | exact Or.inl rfl | exact Or.inr rfl) (se_op or_mod (se_callTy cr_int rfl (c.free 4 rfl) boot_int (sa_cons (se_op or_add (se_op or_add (se_op or_mul (se_op or_mul (se_var (pv 3)) (se_var (pv 3))) (se_int)) (se_op or_mul (se_int) (se_var (pv 3)))) (se_var (pv 2))) (sa_nil))) (se_op or_add (se_op or_pow (se_int) (se_int)) (se_int)))) <|
      sss_one (ss_ret (se_op or_mod (se_callTy cr_int rfl (c.free 4 rfl) boot_int (sa_cons (se_op or_fdiv (se_var (pv 3)) (se_int)) (sa_nil))) (se_var (pv 1))))
/-! _law_not -/
theorem sc__law_not : FnScope ["saying"] ["saying"] (defScope s__law_not) := ⟨rfl, rfl, rfl, by decide +kernel, rfl, by decide +kernel, by decide +kernel⟩
theorem kp__law_not (c : Wd fa fn ex K mg base) : PySem.W.keepIn K (.ref (He.ga K "_law_not")) = true := (c.def_ 2 (d := d__law_not) rfl).kp
theorem bn__law_not (c : Wd fa fn ex K mg base) : Binds K (fdW K d__law_not) ["saying"] [] := FunD.bindsN (c.def_ 2 (d := d__law_not) rfl) fun _ _ _ _ _ _ us hl => match us, hl with | [_], _ => rfl
def b__law_not : SF :=
  sRet (eA oTup (aCons (eC (.str "if")) (aCons (eVar 0) (aCons (eA oTup (aCons (eC (.str "false")) (aNil))) (aNil)))))
def v__law_not : FnV := fnV 1 0 b__law_not
theorem tv__law_not : Takes' 1 v__law_not := takes_fnV
theorem ok__law_not (c : Wd fa fn ex K mg base) : FnG P w K mg base 1 (He.ga K "_law_not") (fdW K d__law_not) ["saying"] (SpS K 1 v__law_not) :=
  fn_ok (c.def_ 2 (d := d__law_not) rfl) sc__law_not rfl rfl fun cdv A outer s H E hr => by
    have nd := (sc__law_not).nd
    unfold b__law_not
    exact sss_one (ss_ret (se_tup (sa_cons (se_str) (sa_cons (se_var (pv 0)) (sa_cons (se_tup (sa_cons (se_str) (sa_nil))) (sa_nil))))))
/-! _law_saying -/
theorem sc__law_saying : FnScope ["source", "deep", "names", "way", "one"] ["source", "deep", "names"] (defScope s__law_saying) := ⟨rfl, rfl, rfl, by decide +kernel, rfl, by decide +kernel, by decide +kernel⟩
theorem kp__law_saying (c : Wd fa fn ex K mg base) : PySem.W.keepIn K (.ref (He.ga K "_law_saying")) = true := (c.def_ 3 (d := d__law_saying) rfl).kp
theorem bn__law_saying (c : Wd fa fn ex K mg base) : Binds K (fdW K d__law_saying) ["source", "deep", "names"] [] := FunD.bindsN (c.def_ 3 (d := d__law_saying) rfl) fun _ _ _ _ _ _ us hl => match us, hl with | [_, _, _], _ => rfl
def b__law_saying (rc : FnV) : SF :=
  sSeq (sSet 3 (eIf (bV (e2 (oP pGt) (eVar 1) (eC (.int 0)))) (eCall v__law_pick (aCons (eVar 0) (aCons (eC (.int 9)) (aNil)))) (eCall v__law_pick (aCons (eVar 0) (aCons (eC (.int 3)) (aNil)))))) <|
  sSeq (sIf (bV (e2 (oP pLt) (eVar 3) (eC (.int 2)))) (sRet (eA oTup (aCons (eC (.str "letter")) (aCons (e2 oSub (eVar 2) (eCall v__law_pick (aCons (eVar 0) (aCons (eA oLen (aCons (eVar 2) (aNil))) (aNil))))) (aNil))))) (sSkip)) <|
  sSeq (sIf (bV (e2 (oP pEq) (eVar 3) (eC (.int 2)))) (sRet (e2 oSub (eA oLst (aCons (eA oTup (aCons (eC (.str "false")) (aNil))) (aCons (eA oTup (aCons (eC (.str "true")) (aNil))) (aCons (eA oTup (aCons (eC (.str "letter")) (aCons (e2 oSub (eVar 2) (eC (.int 0))) (aNil)))) (aCons (eP (pureF v__law_not) (aCons (eA oTup (aCons (eC (.str "letter")) (aCons (e2 oSub (eVar 2) (e1 oNeg (eC (.int 1)))) (aNil)))) (aNil))) (aNil)))))) (eCall v__law_pick (aCons (eVar 0) (aCons (eIf (bV (e2 (oP pGt) (eVar 1) (eC (.int 0)))) (eC (.int 4)) (eC (.int 3))) (aNil)))))) (sSkip)) <|
  sSeq (sIf (bV (e2 (oP pEq) (eVar 3) (eC (.int 3)))) (sRet (eP (pureF v__law_not) (aCons (eCall rc (aCons (eVar 0) (aCons (e2 (oP pSub) (eVar 1) (eC (.int 1))) (aCons (eVar 2) (aNil))))) (aNil)))) (sSkip)) <|
  sSeq (sSet 4 (eCall rc (aCons (eVar 0) (aCons (e2 (oP pSub) (eVar 1) (eC (.int 1))) (aCons (eVar 2) (aNil)))))) <|
  sRet (eA oTup (aCons (e2 oSub (eA oLst (aCons (eC (.str "and")) (aCons (eC (.str "or")) (aCons (eC (.str "or")) (aCons (eC (.str "if")) (aCons (eC (.str "if")) (aNil))))))) (e2 (oP pSub) (eVar 3) (eC (.int 4)))) (aCons (eVar 4) (aCons (eCall rc (aCons (eVar 0) (aCons (e2 (oP pSub) (eVar 1) (eC (.int 1))) (aCons (eVar 2) (aNil))))) (aNil)))))
def v__law_saying : Nat → FnV
  | 0 => fun _ _ => .bad
  | n + 1 => fnV 3 2 (b__law_saying (v__law_saying n))
theorem tv__law_saying : ∀ n, Takes' 3 (v__law_saying n)
  | 0 => takes_bad
  | _ + 1 => takes_fnV
theorem ok__law_saying (c : Wd fa fn ex K mg base) : ∀ n : Nat, FnG P w K mg base (1 + n + 1) (He.ga K "_law_saying") (fdW K d__law_saying) ["source", "deep", "names"] (SpS K 3 (v__law_saying n))
  | 0 => sps_bad
  | n + 1 => fn_ok (c.def_ 3 (d := d__law_saying) rfl) sc__law_saying rfl rfl fun cdv A outer s H E hr => by
    have nd := (sc__law_saying).nd
    have HR1 := hr.mono (show 1 ≤ _ by omega)
    unfold b__law_saying
    exact sss_cons (ss_set (i := 3) nd rfl (by first | exact Or.inl rfl | exact Or.inr rfl) (se_if (sb_cmp or_gt (se_var (pv 1)) (se_int)) (se_call (takes_of rfl rfl rfl rfl) (ok__law_pick c) tv__law_pick HR1 rfl (c.glo 8 rfl) (kp__law_pick c) (bn__law_pick c) (sa_cons (se_var (pv 0)) (sa_cons (se_int) (sa_nil)))) (se_call (takes_of rfl rfl rfl rfl) (ok__law_pick c) tv__law_pick HR1 rfl (c.glo 8 rfl) (kp__law_pick c) (bn__law_pick c) (sa_cons (se_var (pv 0)) (sa_cons (se_int) (sa_nil)))))) <|
      sss_cons (ss_if (sb_cmp or_lt (se_var (pv 3)) (se_int)) (sss_one (ss_ret (se_tup (sa_cons (se_str) (sa_cons (se_sub hr.units (se_var (pv 2)) (se_call (takes_of rfl rfl rfl rfl) (ok__law_pick c) tv__law_pick HR1 rfl (c.glo 8 rfl) (kp__law_pick c) (bn__law_pick c) (sa_cons (se_var (pv 0)) (sa_cons (se_callB cr_len rfl (c.free 0 rfl) boot_len (sa_cons (se_var (pv 2)) (sa_nil))) (sa_nil))))) (sa_nil)))))) (sss_nil)) <|
      sss_cons (ss_if (sb_cmp (or_eq hr.units) (se_var (pv 3)) (se_int)) (sss_one (ss_ret (se_sub hr.units (se_lst (sa_cons (se_tup (sa_cons (se_str) (sa_nil))) (sa_cons (se_tup (sa_cons (se_str) (sa_nil))) (sa_cons (se_tup (sa_cons (se_str) (sa_cons (se_sub hr.units (se_var (pv 2)) (se_int)) (sa_nil)))) (sa_cons (se_callP (takes_of rfl rfl rfl rfl) (ok__law_not c) tv__law_not HR1 rfl (c.glo 9 rfl) (kp__law_not c) (bn__law_not c) (sa_cons (se_tup (sa_cons (se_str) (sa_cons (se_sub hr.units (se_var (pv 2)) (se_neg (se_int))) (sa_nil)))) (sa_nil))) (sa_nil)))))) (se_call (takes_of rfl rfl rfl rfl) (ok__law_pick c) tv__law_pick HR1 rfl (c.glo 8 rfl) (kp__law_pick c) (bn__law_pick c) (sa_cons (se_var (pv 0)) (sa_cons (se_if (sb_cmp or_gt (se_var (pv 1)) (se_int)) (se_int) (se_int)) (sa_nil))))))) (sss_nil)) <|
      sss_cons (ss_if (sb_cmp (or_eq hr.units) (se_var (pv 3)) (se_int)) (sss_one (ss_ret (se_callP (takes_of rfl rfl rfl rfl) (ok__law_not c) tv__law_not HR1 rfl (c.glo 9 rfl) (kp__law_not c) (bn__law_not c) (sa_cons (se_call (takes_of rfl rfl rfl rfl) (ok__law_saying c n) (tv__law_saying n) hr rfl (c.glo 10 rfl) (kp__law_saying c) (bn__law_saying c) (sa_cons (se_var (pv 0)) (sa_cons (se_op or_sub (se_var (pv 1)) (se_int)) (sa_cons (se_var (pv 2)) (sa_nil))))) (sa_nil))))) (sss_nil)) <|
      sss_cons (ss_set (i := 4) nd rfl (by first | exact Or.inl rfl | exact Or.inr rfl) (se_call (takes_of rfl rfl rfl rfl) (ok__law_saying c n) (tv__law_saying n) hr rfl (c.glo 10 rfl) (kp__law_saying c) (bn__law_saying c) (sa_cons (se_var (pv 0)) (sa_cons (se_op or_sub (se_var (pv 1)) (se_int)) (sa_cons (se_var (pv 2)) (sa_nil)))))) <|
      sss_one (ss_ret (se_tup (sa_cons (se_sub hr.units (se_lst (sa_cons (se_str) (sa_cons (se_str) (sa_cons (se_str) (sa_cons (se_str) (sa_cons (se_str) (sa_nil))))))) (se_op or_sub (se_var (pv 3)) (se_int))) (sa_cons (se_var (pv 4)) (sa_cons (se_call (takes_of rfl rfl rfl rfl) (ok__law_saying c n) (tv__law_saying n) hr rfl (c.glo 10 rfl) (kp__law_saying c) (bn__law_saying c) (sa_cons (se_var (pv 0)) (sa_cons (se_op or_sub (se_var (pv 1)) (se_int)) (sa_cons (se_var (pv 2)) (sa_nil))))) (sa_nil))))))
/-! is_name_in -/
theorem sc_is_name_in : FnScope ["value", "sign"] ["value"] (defScope s_is_name_in) := ⟨rfl, rfl, rfl, by decide +kernel, rfl, by decide +kernel, by decide +kernel⟩
theorem kp_is_name_in (c : Wd fa fn ex K mg base) : PySem.W.keepIn K (.ref (He.ga K "is_name_in")) = true := (c.def_ 4 (d := d_is_name_in) rfl).kp
theorem bn_is_name_in (c : Wd fa fn ex K mg base) : Binds K (fdW K d_is_name_in) ["value"] [] := FunD.bindsN (c.def_ 4 (d := d_is_name_in) rfl) fun _ _ _ _ _ _ us hl => match us, hl with | [_], _ => rfl
def b_is_name_in : SF :=
  sSeq (sIf (bOr (bNot (bT (e1 (oIsi "str") (eVar 0)))) (bOr (bNot (bV (eChain (oP pLe) (oP pLe) (eC (.int 1)) (eA oLen (aCons (eVar 0) (aNil))) (eC (.int 4))))) (bV (e2 (oInD false) (eVar 0) (eC (.tuple [.str "true", .str "false", .str "not", .str "and", .str "or", .str "if"])))))) (sRet (eC (.bool false))) (sSkip)) <|
  sRet (eA oAll (aCons (eLc false [1] (iSeq (eVar 0)) (.nm 1) (bYes) (eChain (oP pLe) (oP pLe) (eC (.str "a")) (eVar 1) (eC (.str "z")))) (aNil)))
def v_is_name_in : FnV := fnV 1 1 b_is_name_in
theorem tv_is_name_in : Takes' 1 v_is_name_in := takes_fnV
theorem ok_is_name_in (c : Wd fa fn ex K mg base) : FnG P w K mg base 1 (He.ga K "is_name_in") (fdW K d_is_name_in) ["value"] (SpS K 1 v_is_name_in) :=
  fn_ok (c.def_ 4 (d := d_is_name_in) rfl) sc_is_name_in rfl rfl fun cdv A outer s H E hr => by
    have nd := (sc_is_name_in).nd
    unfold b_is_name_in
    exact sss_cons (ss_if (sb_w (sw_or (sb_not (sb_t (se_isi (T := "str") (by decide) rfl (c.free 11 rfl) boot_isinstance rfl (c.free 13 rfl) boot_str (se_var (pv 0))))) (sw_or (sb_not (sb_chain or_le or_le (se_int) (se_callB cr_len rfl (c.free 0 rfl) boot_len (sa_cons (se_var (pv 0)) (sa_nil))) (se_gint rfl (c.int 17 rfl)))) (sw_or1 (sb_cmp (or_inD (units65 hr)) (se_var (pv 0)) (se_gtup rfl (c.glo 18 rfl) (ex_0 c) (by rfl))))))) (sss_one (ss_ret (se_bl))) (sss_nil)) <|
      sss_one (ss_ret (se_callB (cr_all' rfl) rfl (c.free 19 rfl) boot_all (sa_cons (se_lc (own := [("sign", 1)]) false rfl nd (si_seq (se_var (pv 0))) (blkOk_by (by kernel_rfl)) (by rfl) (fun _ _ _ _ _ => pg_name (i := 1) nd rfl (by first | exact Or.inl rfl | exact Or.inr rfl)) (fun _ _ _ _ _ => sbs_nil) (fun _ _ _ _ _ => se_chain or_le or_le (se_str) (se_var (pv 1)) (se_str))) (sa_nil))))
/-! is_saying_in -/
theorem sc_is_saying_in : FnScope ["value"] ["value"] (defScope s_is_saying_in) := ⟨rfl, rfl, rfl, by decide +kernel, rfl, by decide +kernel, by decide +kernel⟩
theorem kp_is_saying_in (c : Wd fa fn ex K mg base) : PySem.W.keepIn K (.ref (He.ga K "is_saying_in")) = true := (c.def_ 5 (d := d_is_saying_in) rfl).kp
theorem bn_is_saying_in (c : Wd fa fn ex K mg base) : Binds K (fdW K d_is_saying_in) ["value"] [] := FunD.bindsN (c.def_ 5 (d := d_is_saying_in) rfl) fun _ _ _ _ _ _ us hl => match us, hl with | [_], _ => rfl
def b_is_saying_in (rc : FnV) : SF :=
  sSeq (sIf (bOr (bNot (bT (e1 (oIsi "tuple") (eVar 0)))) (bOr (bV (e2 (oP pEq) (eA oLen (aCons (eVar 0) (aNil))) (eC (.int 0)))) (bNot (bT (e1 (oIsi "str") (e2 oSub (eVar 0) (eC (.int 0)))))))) (sRet (eC (.bool false))) (sSkip)) <|
  sSeq (sIf (bV (e2 (oInD false) (e2 oSub (eVar 0) (eC (.int 0))) (eA oTup (aCons (eC (.str "true")) (aCons (eC (.str "false")) (aNil)))))) (sRet (e2 (oP pEq) (eA oLen (aCons (eVar 0) (aNil))) (eC (.int 1)))) (sSkip)) <|
  sSeq (sIf (bV (e2 (oP pEq) (e2 oSub (eVar 0) (eC (.int 0))) (eC (.str "letter")))) (sRet (eAnd (e2 (oP pEq) (eA oLen (aCons (eVar 0) (aNil))) (eC (.int 2))) (eP (pureF v_is_name_in) (aCons (e2 oSub (eVar 0) (eC (.int 1))) (aNil))))) (sSkip)) <|
  sRet (eAnd (e2 (oInD false) (e2 oSub (eVar 0) (eC (.int 0))) (eA oTup (aCons (eC (.str "and")) (aCons (eC (.str "or")) (aCons (eC (.str "if")) (aNil)))))) (eAnd (e2 (oP pEq) (eA oLen (aCons (eVar 0) (aNil))) (eC (.int 3))) (eAnd (eP (pureF rc) (aCons (e2 oSub (eVar 0) (eC (.int 1))) (aNil))) (eP (pureF rc) (aCons (e2 oSub (eVar 0) (eC (.int 2))) (aNil))))))
def v_is_saying_in : Nat → FnV
  | 0 => fun _ _ => .bad
  | n + 1 => fnV 1 0 (b_is_saying_in (v_is_saying_in n))
theorem tv_is_saying_in : ∀ n, Takes' 1 (v_is_saying_in n)
  | 0 => takes_bad
  | _ + 1 => takes_fnV
theorem ok_is_saying_in (c : Wd fa fn ex K mg base) : ∀ n : Nat, FnG P w K mg base (1 + n + 1) (He.ga K "is_saying_in") (fdW K d_is_saying_in) ["value"] (SpS K 1 (v_is_saying_in n))
  | 0 => sps_bad
  | n + 1 => fn_ok (c.def_ 5 (d := d_is_saying_in) rfl) sc_is_saying_in rfl rfl fun cdv A outer s H E hr => by
    have nd := (sc_is_saying_in).nd
    have HR1 := hr.mono (show 1 ≤ _ by omega)
    unfold b_is_saying_in
    exact sss_cons (ss_if (sb_w (sw_or (sb_not (sb_t (se_isi (T := "tuple") (by decide) rfl (c.free 11 rfl) boot_isinstance rfl (c.free 12 rfl) boot_tuple (se_var (pv 0))))) (sw_or (sb_cmp (or_eq hr.units) (se_callB cr_len rfl (c.free 0 rfl) boot_len (sa_cons (se_var (pv 0)) (sa_nil))) (se_int)) (sw_or1 (sb_not (sb_t (se_isi (T := "str") (by decide) rfl (c.free 11 rfl) boot_isinstance rfl (c.free 13 rfl) boot_str (se_sub hr.units (se_var (pv 0)) (se_int))))))))) (sss_one (ss_ret (se_bl))) (sss_nil)) <|
      sss_cons (ss_if (sb_cmp (or_inD (units65 hr)) (se_sub hr.units (se_var (pv 0)) (se_int)) (se_tup (sa_cons (se_gstr rfl (c.str 15 rfl)) (sa_cons (se_gstr rfl (c.str 14 rfl)) (sa_nil))))) (sss_one (ss_ret (se_cmp (or_eq hr.units) (se_callB cr_len rfl (c.free 0 rfl) boot_len (sa_cons (se_var (pv 0)) (sa_nil))) (se_int)))) (sss_nil)) <|
      sss_cons (ss_if (sb_cmp (or_eq hr.units) (se_sub hr.units (se_var (pv 0)) (se_int)) (se_gstr rfl (c.str 16 rfl))) (sss_one (ss_ret (se_and (se_cmp (or_eq hr.units) (se_callB cr_len rfl (c.free 0 rfl) boot_len (sa_cons (se_var (pv 0)) (sa_nil))) (se_int)) (se_one (se_callP (takes_of rfl rfl rfl rfl) (ok_is_name_in c) tv_is_name_in HR1 rfl (c.glo 20 rfl) (kp_is_name_in c) (bn_is_name_in c) (sa_cons (se_sub hr.units (se_var (pv 0)) (se_int)) (sa_nil))))))) (sss_nil)) <|
      sss_one (ss_ret (se_and (se_cmp (or_inD (units65 hr)) (se_sub hr.units (se_var (pv 0)) (se_int)) (se_tup (sa_cons (se_gstr rfl (c.str 23 rfl)) (sa_cons (se_gstr rfl (c.str 22 rfl)) (sa_cons (se_gstr rfl (c.str 21 rfl)) (sa_nil)))))) (se_and (se_cmp (or_eq hr.units) (se_callB cr_len rfl (c.free 0 rfl) boot_len (sa_cons (se_var (pv 0)) (sa_nil))) (se_int)) (se_and (se_callP (takes_of rfl rfl rfl rfl) (ok_is_saying_in c n) (tv_is_saying_in n) hr rfl (c.glo 24 rfl) (kp_is_saying_in c) (bn_is_saying_in c) (sa_cons (se_sub hr.units (se_var (pv 0)) (se_int)) (sa_nil))) (se_one (se_callP (takes_of rfl rfl rfl rfl) (ok_is_saying_in c n) (tv_is_saying_in n) hr rfl (c.glo 24 rfl) (kp_is_saying_in c) (bn_is_saying_in c) (sa_cons (se_sub hr.units (se_var (pv 0)) (se_int)) (sa_nil))))))))
/-! is_saying -/
theorem sc_is_saying : FnScope ["value"] ["value"] (defScope s_is_saying) := ⟨rfl, rfl, rfl, by decide +kernel, rfl, by decide +kernel, by decide +kernel⟩
theorem kp_is_saying (c : Wd fa fn ex K mg base) : PySem.W.keepIn K (.ref (He.ga K "is_saying")) = true := (c.def_ 6 (d := d_is_saying) rfl).kp
theorem bn_is_saying (c : Wd fa fn ex K mg base) : Binds K (fdW K d_is_saying) ["value"] [] := FunD.bindsN (c.def_ 6 (d := d_is_saying) rfl) fun _ _ _ _ _ _ us hl => match us, hl with | [_], _ => rfl
def b_is_saying : SF :=
  sRet (eP (pureF (v_is_saying_in 40)) (aCons (eVar 0) (aNil)))
def v_is_saying : FnV := fnV 1 0 b_is_saying
theorem tv_is_saying : Takes' 1 v_is_saying := takes_fnV
theorem ok_is_saying (c : Wd fa fn ex K mg base) : FnG P w K mg base 43 (He.ga K "is_saying") (fdW K d_is_saying) ["value"] (SpS K 1 v_is_saying) :=
  fn_ok (c.def_ 6 (d := d_is_saying) rfl) sc_is_saying rfl rfl fun cdv A outer s H E hr => by
    have nd := (sc_is_saying).nd
    have HR42 := hr.mono (show 42 ≤ _ by omega)
    unfold b_is_saying
    exact sss_one (ss_ret (se_callP (takes_of rfl rfl rfl rfl) (ok_is_saying_in c 40) (tv_is_saying_in 40) HR42 rfl (c.glo 24 rfl) (kp_is_saying_in c) (bn_is_saying_in c) (sa_cons (se_var (pv 0)) (sa_nil))))
theorem kb_is_saying_value_0 (c : Wd fa fn ex K mg base) : KwB K (fdW K d_is_saying) ["value"] ["value"] [0] 0 := kwb_of (c.def_ 6 (d := d_is_saying) rfl) fun _ _ _ _ _ _ us ws hl hl2 => match us, ws, hl, hl2 with | [], [_], _, _ => rfl
/-! anew -/
theorem sc_anew : FnScope ["value", "item"] ["value"] (defScope s_anew) := ⟨rfl, rfl, rfl, by decide +kernel, rfl, by decide +kernel, by decide +kernel⟩
theorem kp_anew (c : Wd fa fn ex K mg base) : PySem.W.keepIn K (.ref (He.ga K "anew")) = true := (c.def_ 7 (d := d_anew) rfl).kp
theorem bn_anew (c : Wd fa fn ex K mg base) : Binds K (fdW K d_anew) ["value"] [] := FunD.bindsN (c.def_ 7 (d := d_anew) rfl) fun _ _ _ _ _ _ us hl => match us, hl with | [_], _ => rfl
def b_anew (rc : FnV) : SF :=
  sSeq (sIf (bT (e1 (oIsi "tuple") (eVar 0))) (sRet (eA oTuple (aCons (eLc false [1] (iSeq (eVar 0)) (.nm 1) (bYes) (eP (pureF rc) (aCons (eVar 1) (aNil)))) (aNil)))) (sSkip)) <|
  sSeq (sIf (bT (e1 (oIsi "list") (eVar 0))) (sRet (eLc false [1] (iSeq (eVar 0)) (.nm 1) (bYes) (eP (pureF rc) (aCons (eVar 1) (aNil))))) (sSkip)) <|
  sRet (eVar 0)
def v_anew : Nat → FnV
  | 0 => fun _ _ => .bad
  | n + 1 => fnV 1 1 (b_anew (v_anew n))
theorem tv_anew : ∀ n, Takes' 1 (v_anew n)
  | 0 => takes_bad
  | _ + 1 => takes_fnV
theorem ok_anew (c : Wd fa fn ex K mg base) : ∀ n : Nat, FnG P w K mg base (0 + n + 1) (He.ga K "anew") (fdW K d_anew) ["value"] (SpS K 1 (v_anew n))
  | 0 => sps_bad
  | n + 1 => fn_ok (c.def_ 7 (d := d_anew) rfl) sc_anew rfl rfl fun cdv A outer s H E hr => by
    have nd := (sc_anew).nd
    unfold b_anew
    exact sss_cons (ss_if (sb_t (se_isi (T := "tuple") (by decide) rfl (c.free 11 rfl) boot_isinstance rfl (c.free 12 rfl) boot_tuple (se_var (pv 0)))) (sss_one (ss_ret (se_callTy cr_tuple rfl (c.free 12 rfl) boot_tuple (sa_cons (se_lc (own := [("item", 1)]) false rfl nd (si_seq (se_var (pv 0))) (blkOk_by (by kernel_rfl)) (by rfl) (fun _ _ _ _ _ => pg_name (i := 1) nd rfl (by first | exact Or.inl rfl | exact Or.inr rfl)) (fun _ _ _ _ _ => sbs_nil) (fun _ _ _ _ _ => se_callP takes0 (ok_anew c n) (tv_anew n) hr rfl (c.glo 27 rfl) (kp_anew c) (bn_anew c) (sa_cons (se_var (pv 1)) (sa_nil)))) (sa_nil))))) (sss_nil)) <|
      sss_cons (ss_if (sb_t (se_isi (T := "list") (by decide) rfl (c.free 11 rfl) boot_isinstance rfl (c.free 28 rfl) boot_list (se_var (pv 0)))) (sss_one (ss_ret (se_lc (own := [("item", 1)]) false rfl nd (si_seq (se_var (pv 0))) (blkOk_by (by kernel_rfl)) (by rfl) (fun _ _ _ _ _ => pg_name (i := 1) nd rfl (by first | exact Or.inl rfl | exact Or.inr rfl)) (fun _ _ _ _ _ => sbs_nil) (fun _ _ _ _ _ => se_callP takes0 (ok_anew c n) (tv_anew n) hr rfl (c.glo 27 rfl) (kp_anew c) (bn_anew c) (sa_cons (se_var (pv 1)) (sa_nil)))))) (sss_nil)) <|
      sss_one (ss_ret (se_var (pv 0)))
/-! need_saying -/
theorem sc_need_saying : FnScope ["saying"] ["saying"] (defScope s_need_saying) := ⟨rfl, rfl, rfl, by decide +kernel, rfl, by decide +kernel, by decide +kernel⟩
theorem kp_need_saying (c : Wd fa fn ex K mg base) : PySem.W.keepIn K (.ref (He.ga K "need_saying")) = true := (c.def_ 8 (d := d_need_saying) rfl).kp
theorem bn_need_saying (c : Wd fa fn ex K mg base) : Binds K (fdW K d_need_saying) ["saying"] [] := FunD.bindsN (c.def_ 8 (d := d_need_saying) rfl) fun _ _ _ _ _ _ us hl => match us, hl with | [_], _ => rfl
def b_need_saying : SF :=
  sIf (bNot (bT (eP (pureF (v_is_saying_in 40)) (aCons (eVar 0) (aNil))))) (sRaise "InvalidSaying" (eP (pureF (v_anew 40)) (aCons (eVar 0) (aNil)))) (sSkip)
def v_need_saying : FnV := fnV 1 0 b_need_saying
theorem tv_need_saying : Takes' 1 v_need_saying := takes_fnV
theorem ok_need_saying (c : Wd fa fn ex K mg base) : FnG P w K mg base 43 (He.ga K "need_saying") (fdW K d_need_saying) ["saying"] (SpS K 1 v_need_saying) :=
  fn_ok (c.def_ 8 (d := d_need_saying) rfl) sc_need_saying rfl rfl fun cdv A outer s H E hr => by
    have nd := (sc_need_saying).nd
    have HR2 := hr.mono (show 2 ≤ _ by omega)
    have HR41 := hr.mono (show 41 ≤ _ by omega)
    have HR42 := hr.mono (show 42 ≤ _ by omega)
    unfold b_need_saying
    exact sss_one (ss_if (sb_not (sb_t (se_callP (takes_of rfl rfl rfl rfl) (ok_is_saying_in c 40) (tv_is_saying_in 40) HR42 rfl (c.glo 24 rfl) (kp_is_saying_in c) (bn_is_saying_in c) (sa_cons (se_var (pv 0)) (sa_nil))))) (sss_one (ss_raise rfl (xtxt_of pf (ex_1 c)) (c.free 29 rfl) HR2 (takes_of rfl rfl rfl rfl) rfl (c.glo 30 rfl) (se_callP (takes_of rfl rfl rfl rfl) (ok_anew c 40) (tv_anew 40) HR41 rfl (c.glo 27 rfl) (kp_anew c) (bn_anew c) (sa_cons (se_var (pv 0)) (sa_nil))))) (sss_nil))
/-! inner -/
theorem sc_inner : FnScope ["saying"] ["saying"] (defScope s_inner) := ⟨rfl, rfl, rfl, by decide +kernel, rfl, by decide +kernel, by decide +kernel⟩
theorem kp_inner (c : Wd fa fn ex K mg base) : PySem.W.keepIn K (.ref (He.ga K "inner")) = true := (c.def_ 9 (d := d_inner) rfl).kp
theorem bn_inner (c : Wd fa fn ex K mg base) : Binds K (fdW K d_inner) ["saying"] [] := FunD.bindsN (c.def_ 9 (d := d_inner) rfl) fun _ _ _ _ _ _ us hl => match us, hl with | [_], _ => rfl
def b_inner : SF :=
  sRet (eIf (bV (e2 (oInD false) (e2 oSub (eVar 0) (eC (.int 0))) (eA oTup (aCons (eC (.str "and")) (aCons (eC (.str "or")) (aCons (eC (.str "if")) (aNil))))))) (eCut (eVar 0) (oAt (eC (.int 1))) (oNo)) (eA oTup (aNil)))
def v_inner : FnV := fnV 1 0 b_inner
theorem tv_inner : Takes' 1 v_inner := takes_fnV
theorem ok_inner (c : Wd fa fn ex K mg base) : FnG P w K mg base 1 (He.ga K "inner") (fdW K d_inner) ["saying"] (SpS K 1 v_inner) :=
  fn_ok (c.def_ 9 (d := d_inner) rfl) sc_inner rfl rfl fun cdv A outer s H E hr => by
    have nd := (sc_inner).nd
    unfold b_inner
    exact sss_one (ss_ret (se_if (sb_cmp (or_inD (units65 hr)) (se_sub hr.units (se_var (pv 0)) (se_int)) (se_tup (sa_cons (se_gstr rfl (c.str 23 rfl)) (sa_cons (se_gstr rfl (c.str 22 rfl)) (sa_cons (se_gstr rfl (c.str 21 rfl)) (sa_nil)))))) (se_cut (se_var (pv 0)) (so_some (se_int)) (so_none)) (se_tup (sa_nil))))
/-! count_words -/
theorem sc_count_words : FnScope ["saying", "one"] ["saying"] (defScope s_count_words) := ⟨rfl, rfl, rfl, by decide +kernel, rfl, by decide +kernel, by decide +kernel⟩
theorem kp_count_words (c : Wd fa fn ex K mg base) : PySem.W.keepIn K (.ref (He.ga K "count_words")) = true := (c.def_ 10 (d := d_count_words) rfl).kp
theorem bn_count_words (c : Wd fa fn ex K mg base) : Binds K (fdW K d_count_words) ["saying"] [] := FunD.bindsN (c.def_ 10 (d := d_count_words) rfl) fun _ _ _ _ _ _ us hl => match us, hl with | [_], _ => rfl
def b_count_words (rc : FnV) : SF :=
  sRet (e2 (oP pAdd) (eC (.int 1)) (eA oSum (aCons (eLc false [1] (iSeq (eP (pureF v_inner) (aCons (eVar 0) (aNil)))) (.nm 1) (bYes) (eP (pureF rc) (aCons (eVar 1) (aNil)))) (aNil))))
def v_count_words : Nat → FnV
  | 0 => fun _ _ => .bad
  | n + 1 => fnV 1 1 (b_count_words (v_count_words n))
theorem tv_count_words : ∀ n, Takes' 1 (v_count_words n)
  | 0 => takes_bad
  | _ + 1 => takes_fnV
theorem ok_count_words (c : Wd fa fn ex K mg base) : ∀ n : Nat, FnG P w K mg base (1 + n + 1) (He.ga K "count_words") (fdW K d_count_words) ["saying"] (SpS K 1 (v_count_words n))
  | 0 => sps_bad
  | n + 1 => fn_ok (c.def_ 10 (d := d_count_words) rfl) sc_count_words rfl rfl fun cdv A outer s H E hr => by
    have nd := (sc_count_words).nd
    have HR1 := hr.mono (show 1 ≤ _ by omega)
    unfold b_count_words
    exact sss_one (ss_ret (se_op or_add (se_int) (se_callB (cr_sum' rfl) rfl (c.free 34 rfl) boot_sum (sa_cons (se_lc (own := [("one", 1)]) false rfl nd (si_seq (se_callP (takes_of rfl rfl rfl rfl) (ok_inner c) tv_inner HR1 rfl (c.glo 32 rfl) (kp_inner c) (bn_inner c) (sa_cons (se_var (pv 0)) (sa_nil)))) (blkOk_by (by kernel_rfl)) (by rfl) (fun _ _ _ _ _ => pg_name (i := 1) nd rfl (by first | exact Or.inl rfl | exact Or.inr rfl)) (fun _ _ _ _ _ => sbs_nil) (fun _ _ _ _ _ => se_callP takes0 (ok_count_words c n) (tv_count_words n) hr rfl (c.glo 33 rfl) (kp_count_words c) (bn_count_words c) (sa_cons (se_var (pv 1)) (sa_nil)))) (sa_nil)))))
/-! words_in -/
theorem sc_words_in : FnScope ["saying"] ["saying"] (defScope s_words_in) := ⟨rfl, rfl, rfl, by decide +kernel, rfl, by decide +kernel, by decide +kernel⟩
theorem kp_words_in (c : Wd fa fn ex K mg base) : PySem.W.keepIn K (.ref (He.ga K "words_in")) = true := (c.def_ 11 (d := d_words_in) rfl).kp
theorem bn_words_in (c : Wd fa fn ex K mg base) : Binds K (fdW K d_words_in) ["saying"] [] := FunD.bindsN (c.def_ 11 (d := d_words_in) rfl) fun _ _ _ _ _ _ us hl => match us, hl with | [_], _ => rfl
def b_words_in : SF :=
  sSeq (sExpr (eP (pureF v_need_saying) (aCons (eVar 0) (aNil)))) <|
  sRet (eP (pureF (v_count_words 40)) (aCons (eVar 0) (aNil)))
def v_words_in : FnV := fnV 1 0 b_words_in
theorem tv_words_in : Takes' 1 v_words_in := takes_fnV
theorem ok_words_in (c : Wd fa fn ex K mg base) : FnG P w K mg base 44 (He.ga K "words_in") (fdW K d_words_in) ["saying"] (SpS K 1 v_words_in) :=
  fn_ok (c.def_ 11 (d := d_words_in) rfl) sc_words_in rfl rfl fun cdv A outer s H E hr => by
    have nd := (sc_words_in).nd
    have HR42 := hr.mono (show 42 ≤ _ by omega)
    have HR43 := hr.mono (show 43 ≤ _ by omega)
    unfold b_words_in
    exact sss_cons (ss_expr (se_callP (takes_of rfl rfl rfl rfl) (ok_need_saying c) tv_need_saying HR43 rfl (c.glo 31 rfl) (kp_need_saying c) (bn_need_saying c) (sa_cons (se_var (pv 0)) (sa_nil)))) <|
      sss_one (ss_ret (se_callP (takes_of rfl rfl rfl rfl) (ok_count_words c 40) (tv_count_words 40) HR42 rfl (c.glo 33 rfl) (kp_count_words c) (bn_count_words c) (sa_cons (se_var (pv 0)) (sa_nil))))
theorem kb_words_in_saying_0 (c : Wd fa fn ex K mg base) : KwB K (fdW K d_words_in) ["saying"] ["saying"] [0] 0 := kwb_of (c.def_ 11 (d := d_words_in) rfl) fun _ _ _ _ _ _ us ws hl hl2 => match us, ws, hl, hl2 with | [], [_], _, _ => rfl
/-! _law_inner -/
theorem sc__law_inner : FnScope ["saying"] ["saying"] (defScope s__law_inner) := ⟨rfl, rfl, rfl, by decide +kernel, rfl, by decide +kernel, by decide +kernel⟩
theorem kp__law_inner (c : Wd fa fn ex K mg base) : PySem.W.keepIn K (.ref (He.ga K "_law_inner")) = true := (c.def_ 12 (d := d__law_inner) rfl).kp
theorem bn__law_inner (c : Wd fa fn ex K mg base) : Binds K (fdW K d__law_inner) ["saying"] [] := FunD.bindsN (c.def_ 12 (d := d__law_inner) rfl) fun _ _ _ _ _ _ us hl => match us, hl with | [_], _ => rfl
def b__law_inner : SF :=
  sRet (eIf (bV (e2 (oInD false) (e2 oSub (eVar 0) (eC (.int 0))) (eA oTup (aCons (eC (.str "and")) (aCons (eC (.str "or")) (aCons (eC (.str "if")) (aNil))))))) (eCut (eVar 0) (oAt (eC (.int 1))) (oNo)) (eA oTup (aNil)))
def v__law_inner : FnV := fnV 1 0 b__law_inner
theorem tv__law_inner : Takes' 1 v__law_inner := takes_fnV
theorem ok__law_inner (c : Wd fa fn ex K mg base) : FnG P w K mg base 1 (He.ga K "_law_inner") (fdW K d__law_inner) ["saying"] (SpS K 1 v__law_inner) :=
  fn_ok (c.def_ 12 (d := d__law_inner) rfl) sc__law_inner rfl rfl fun cdv A outer s H E hr => by
    have nd := (sc__law_inner).nd
    unfold b__law_inner
    exact sss_one (ss_ret (se_if (sb_cmp (or_inD (units65 hr)) (se_sub hr.units (se_var (pv 0)) (se_int)) (se_tup (sa_cons (se_str) (sa_cons (se_str) (sa_cons (se_str) (sa_nil)))))) (se_cut (se_var (pv 0)) (so_some (se_int)) (so_none)) (se_tup (sa_nil))))
/-! _law_all -/
theorem sc__law_all : FnScope ["saying", "own"] ["saying"] (defScope s__law_all) := ⟨rfl, rfl, rfl, by decide +kernel, rfl, by decide +kernel, by decide +kernel⟩
theorem kp__law_all (c : Wd fa fn ex K mg base) : PySem.W.keepIn K (.ref (He.ga K "_law_all")) = true := (c.def_ 13 (d := d__law_all) rfl).kp
theorem bn__law_all (c : Wd fa fn ex K mg base) : Binds K (fdW K d__law_all) ["saying"] [] := FunD.bindsN (c.def_ 13 (d := d__law_all) rfl) fun _ _ _ _ _ _ us hl => match us, hl with | [_], _ => rfl
def b__law_all (rc : FnV) : SF :=
  sRet (e2 (oP pAdd) (eA oLst (aCons (eVar 0) (aNil))) (eA oSumL (aCons (eLc false [1] (iSeq (eP (pureF v__law_inner) (aCons (eVar 0) (aNil)))) (.nm 1) (bYes) (eP (pureF rc) (aCons (eVar 1) (aNil)))) (aCons (eA oLst (aNil)) (aNil)))))
def v__law_all : Nat → FnV
  | 0 => fun _ _ => .bad
  | n + 1 => fnV 1 1 (b__law_all (v__law_all n))
theorem tv__law_all : ∀ n, Takes' 1 (v__law_all n)
  | 0 => takes_bad
  | _ + 1 => takes_fnV
theorem ok__law_all (c : Wd fa fn ex K mg base) : ∀ n : Nat, FnG P w K mg base (1 + n + 1) (He.ga K "_law_all") (fdW K d__law_all) ["saying"] (SpS K 1 (v__law_all n))
  | 0 => sps_bad
  | n + 1 => fn_ok (c.def_ 13 (d := d__law_all) rfl) sc__law_all rfl rfl fun cdv A outer s H E hr => by
    have nd := (sc__law_all).nd
    have HR1 := hr.mono (show 1 ≤ _ by omega)
    unfold b__law_all
    exact sss_one (ss_ret (se_op or_add (se_lst (sa_cons (se_var (pv 0)) (sa_nil))) (se_callB (cr_sumL' rfl) rfl (c.free 34 rfl) boot_sum (sa_cons (se_lc (own := [("own", 1)]) false rfl nd (si_seq (se_callP (takes_of rfl rfl rfl rfl) (ok__law_inner c) tv__law_inner HR1 rfl (c.glo 36 rfl) (kp__law_inner c) (bn__law_inner c) (sa_cons (se_var (pv 0)) (sa_nil)))) (blkOk_by (by kernel_rfl)) (by rfl) (fun _ _ _ _ _ => pg_name (i := 1) nd rfl (by first | exact Or.inl rfl | exact Or.inr rfl)) (fun _ _ _ _ _ => sbs_nil) (fun _ _ _ _ _ => se_callP takes0 (ok__law_all c n) (tv__law_all n) hr rfl (c.glo 37 rfl) (kp__law_all c) (bn__law_all c) (sa_cons (se_var (pv 1)) (sa_nil)))) (sa_cons (se_lst (sa_nil)) (sa_nil))))))
/-! once -/
theorem sc_once : FnScope ["sayings", "found", "one"] ["sayings"] (defScope s_once) := ⟨rfl, rfl, rfl, by decide +kernel, rfl, by decide +kernel, by decide +kernel⟩
theorem kp_once (c : Wd fa fn ex K mg base) : PySem.W.keepIn K (.ref (He.ga K "once")) = true := (c.def_ 14 (d := d_once) rfl).kp
theorem bn_once (c : Wd fa fn ex K mg base) : Binds K (fdW K d_once) ["sayings"] [] := FunD.bindsN (c.def_ 14 (d := d_once) rfl) fun _ _ _ _ _ _ us hl => match us, hl with | [_], _ => rfl
def b_once : SF :=
  sSeq (sSet 1 (eA oLstM (aNil))) <|
  sSeq (sFor (iSeq (eA (oSorted false) (aCons (eVar 0) (aNil)))) (.nm 2) (sIf (bOr (bV (e2 (oP pEq) (eA oLen (aCons (eVar 1) (aNil))) (eC (.int 0)))) (bV (e2 (oP pNe) (e2 oSub (eVar 1) (e1 oNeg (eC (.int 1)))) (eVar 2)))) (sExpr (eMth mAppend (eVar 1) (aCons (eVar 2) (aNil)))) (sSkip))) <|
  sRet (eVar 1)
def v_once : FnV := fnV 1 2 b_once
theorem tv_once : Takes' 1 v_once := takes_fnV
theorem ok_once (c : Wd fa fn ex K mg base) : FnG P w K mg base 1 (He.ga K "once") (fdW K d_once) ["sayings"] (SpS K 1 v_once) :=
  fn_ok (c.def_ 14 (d := d_once) rfl) sc_once rfl rfl fun cdv A outer s H E hr => by
    have nd := (sc_once).nd
    unfold b_once
    exact sss_cons (ss_set (i := 1) nd rfl (by first | exact Or.inl rfl | exact Or.inr rfl) (se_lstM (sa_nil))) <|
      sss_cons (ss_for (passes_of rfl) rfl (si_seq (se_callB (cr_sort rfl hr.units false) rfl (c.free 38 rfl) boot_sorted (sa_cons (se_var (pv 0)) (sa_nil)))) (pg_name (i := 2) nd rfl (by first | exact Or.inl rfl | exact Or.inr rfl)) (sss_one (ss_if (sb_w (sw_or (sb_cmp (or_eq hr.units) (se_callB cr_len rfl (c.free 0 rfl) boot_len (sa_cons (se_var (pv 1)) (sa_nil))) (se_int)) (sw_or1 (sb_cmp (or_ne hr.units) (se_sub hr.units (se_var (pv 1)) (se_neg (se_int))) (se_var (pv 2)))))) (sss_one (ss_expr (se_append (se_var (pv 1)) (sa_cons (se_var (pv 2)) (sa_nil))))) (sss_nil)))) <|
      sss_one (ss_ret (se_var (pv 1)))
/-! all_in -/
theorem sc_all_in : FnScope ["sayings", "words", "pile", "one"] ["sayings"] (defScope s_all_in) := ⟨rfl, rfl, rfl, by decide +kernel, rfl, by decide +kernel, by decide +kernel⟩
theorem kp_all_in (c : Wd fa fn ex K mg base) : PySem.W.keepIn K (.ref (He.ga K "all_in")) = true := (c.def_ 15 (d := d_all_in) rfl).kp
theorem bn_all_in (c : Wd fa fn ex K mg base) : Binds K (fdW K d_all_in) ["sayings"] [] := FunD.bindsN (c.def_ 15 (d := d_all_in) rfl) fun _ _ _ _ _ _ us hl => match us, hl with | [_], _ => rfl
def b_all_in : SF :=
  sSeq (sSet 1 (eA oLstM (aNil))) <|
  sSeq (sSet 2 (eA (oListD true) (aCons (eVar 0) (aNil)))) <|
  sSeq (sWhile 1000 (bV (e2 (oP pGt) (eA oLen (aCons (eVar 2) (aNil))) (eC (.int 0)))) (sSeq (sSet 3 (eMth mPop (eVar 2) aNil)) <|
  sSeq (sExpr (eMth mAppend (eVar 1) (aCons (eVar 3) (aNil)))) <|
  sExpr (eMth mExtend (eVar 2) (aCons (eP (pureF v_inner) (aCons (eVar 3) (aNil))) (aNil))))) <|
  sRet (eP (pureF v_once) (aCons (eVar 1) (aNil)))
def v_all_in : FnV := fnV 1 3 b_all_in
theorem tv_all_in : Takes' 1 v_all_in := takes_fnV
theorem ok_all_in (c : Wd fa fn ex K mg base) : FnG P w K mg base 2 (He.ga K "all_in") (fdW K d_all_in) ["sayings"] (SpS K 1 v_all_in) :=
  fn_ok (c.def_ 15 (d := d_all_in) rfl) sc_all_in rfl rfl fun cdv A outer s H E hr => by
    have nd := (sc_all_in).nd
    have HR1 := hr.mono (show 1 ≤ _ by omega)
    unfold b_all_in
    exact sss_cons (ss_set (i := 1) nd rfl (by first | exact Or.inl rfl | exact Or.inr rfl) (se_lstM (sa_nil))) <|
      sss_cons (ss_set (i := 2) nd rfl (by first | exact Or.inl rfl | exact Or.inr rfl) (se_callTy (cr_listD rfl true) rfl (c.free 28 rfl) boot_list (sa_cons (se_var (pv 0)) (sa_nil)))) <|
      sss_cons (ss_while 1000 (passes_of rfl) (sb_cmp or_gt (se_callB cr_len rfl (c.free 0 rfl) boot_len (sa_cons (se_var (pv 2)) (sa_nil))) (se_int)) (sss_cons (ss_set (i := 3) nd rfl (by first | exact Or.inl rfl | exact Or.inr rfl) (se_pop (se_var (pv 2)))) <|
      sss_cons (ss_expr (se_append (se_var (pv 1)) (sa_cons (se_var (pv 3)) (sa_nil)))) <|
      sss_one (ss_expr (se_extend (se_var (pv 2)) (sa_cons (se_callP (takes_of rfl rfl rfl rfl) (ok_inner c) tv_inner HR1 rfl (c.glo 32 rfl) (kp_inner c) (bn_inner c) (sa_cons (se_var (pv 3)) (sa_nil))) (sa_nil)))))) <|
      sss_one (ss_ret (se_callP (takes_of rfl rfl rfl rfl) (ok_once c) tv_once HR1 rfl (c.glo 39 rfl) (kp_once c) (bn_once c) (sa_cons (se_var (pv 1)) (sa_nil))))
/-! names_in -/
theorem sc_names_in : FnScope ["sayings", "one"] ["sayings"] (defScope s_names_in) := ⟨rfl, rfl, rfl, by decide +kernel, rfl, by decide +kernel, by decide +kernel⟩
theorem kp_names_in (c : Wd fa fn ex K mg base) : PySem.W.keepIn K (.ref (He.ga K "names_in")) = true := (c.def_ 16 (d := d_names_in) rfl).kp
theorem bn_names_in (c : Wd fa fn ex K mg base) : Binds K (fdW K d_names_in) ["sayings"] [] := FunD.bindsN (c.def_ 16 (d := d_names_in) rfl) fun _ _ _ _ _ _ us hl => match us, hl with | [_], _ => rfl
def b_names_in : SF :=
  sRet (eA (oSorted false) (aCons (eLc false [1] (iSeq (eP (pureF v_all_in) (aCons (eVar 0) (aNil)))) (.nm 1) (bV (e2 (oP pEq) (e2 oSub (eVar 1) (eC (.int 0))) (eC (.str "letter")))) (e2 oSub (eVar 1) (eC (.int 1)))) (aNil)))
def v_names_in : FnV := fnV 1 1 b_names_in
theorem tv_names_in : Takes' 1 v_names_in := takes_fnV
theorem ok_names_in (c : Wd fa fn ex K mg base) : FnG P w K mg base 3 (He.ga K "names_in") (fdW K d_names_in) ["sayings"] (SpS K 1 v_names_in) :=
  fn_ok (c.def_ 16 (d := d_names_in) rfl) sc_names_in rfl rfl fun cdv A outer s H E hr => by
    have nd := (sc_names_in).nd
    have HR2 := hr.mono (show 2 ≤ _ by omega)
    unfold b_names_in
    exact sss_one (ss_ret (se_callB (cr_sort rfl hr.units false) rfl (c.free 38 rfl) boot_sorted (sa_cons (se_lc (own := [("one", 1)]) false rfl nd (si_seq (se_callP (takes_of rfl rfl rfl rfl) (ok_all_in c) tv_all_in HR2 rfl (c.glo 40 rfl) (kp_all_in c) (bn_all_in c) (sa_cons (se_var (pv 0)) (sa_nil)))) (blkOk_by (by kernel_rfl)) (by rfl) (fun _ _ _ _ _ => pg_name (i := 1) nd rfl (by first | exact Or.inl rfl | exact Or.inr rfl)) (fun _ _ _ _ _ => sbs_one (sb_cmp (or_eq hr.units) (se_sub hr.units (se_var (pv 1)) (se_int)) (se_gstr rfl (c.str 16 rfl)))) (fun _ _ _ _ _ => se_sub hr.units (se_var (pv 1)) (se_int))) (sa_nil))))
/-! letters_of -/
theorem sc_letters_of : FnScope ["saying"] ["saying"] (defScope s_letters_of) := ⟨rfl, rfl, rfl, by decide +kernel, rfl, by decide +kernel, by decide +kernel⟩
theorem kp_letters_of (c : Wd fa fn ex K mg base) : PySem.W.keepIn K (.ref (He.ga K "letters_of")) = true := (c.def_ 17 (d := d_letters_of) rfl).kp
theorem bn_letters_of (c : Wd fa fn ex K mg base) : Binds K (fdW K d_letters_of) ["saying"] [] := FunD.bindsN (c.def_ 17 (d := d_letters_of) rfl) fun _ _ _ _ _ _ us hl => match us, hl with | [_], _ => rfl
def b_letters_of : SF :=
  sSeq (sExpr (eP (pureF v_need_saying) (aCons (eVar 0) (aNil)))) <|
  sRet (eA oTuple (aCons (eP (pureF v_names_in) (aCons (eA oLst (aCons (eVar 0) (aNil))) (aNil))) (aNil)))
def v_letters_of : FnV := fnV 1 0 b_letters_of
theorem tv_letters_of : Takes' 1 v_letters_of := takes_fnV
theorem ok_letters_of (c : Wd fa fn ex K mg base) : FnG P w K mg base 44 (He.ga K "letters_of") (fdW K d_letters_of) ["saying"] (SpS K 1 v_letters_of) :=
  fn_ok (c.def_ 17 (d := d_letters_of) rfl) sc_letters_of rfl rfl fun cdv A outer s H E hr => by
    have nd := (sc_letters_of).nd
    have HR3 := hr.mono (show 3 ≤ _ by omega)
    have HR43 := hr.mono (show 43 ≤ _ by omega)
    unfold b_letters_of
    exact sss_cons (ss_expr (se_callP (takes_of rfl rfl rfl rfl) (ok_need_saying c) tv_need_saying HR43 rfl (c.glo 31 rfl) (kp_need_saying c) (bn_need_saying c) (sa_cons (se_var (pv 0)) (sa_nil)))) <|
      sss_one (ss_ret (se_callTy cr_tuple rfl (c.free 12 rfl) boot_tuple (sa_cons (se_callP (takes_of rfl rfl rfl rfl) (ok_names_in c) tv_names_in HR3 rfl (c.glo 41 rfl) (kp_names_in c) (bn_names_in c) (sa_cons (se_lst (sa_cons (se_var (pv 0)) (sa_nil))) (sa_nil))) (sa_nil))))
/-! _law_names -/
theorem sc__law_names : FnScope ["saying", "own"] ["saying"] (defScope s__law_names) := ⟨rfl, rfl, rfl, by decide +kernel, rfl, by decide +kernel, by decide +kernel⟩
theorem kp__law_names (c : Wd fa fn ex K mg base) : PySem.W.keepIn K (.ref (He.ga K "_law_names")) = true := (c.def_ 18 (d := d__law_names) rfl).kp
theorem bn__law_names (c : Wd fa fn ex K mg base) : Binds K (fdW K d__law_names) ["saying"] [] := FunD.bindsN (c.def_ 18 (d := d__law_names) rfl) fun _ _ _ _ _ _ us hl => match us, hl with | [_], _ => rfl
def b__law_names : SF :=
  sRet (eA (oSortSet false) (aCons (eLc false [1] (iSeq (eP (pureF (v__law_all 40)) (aCons (eVar 0) (aNil)))) (.nm 1) (bV (e2 (oP pEq) (e2 oSub (eVar 1) (eC (.int 0))) (eC (.str "letter")))) (e2 oSub (eVar 1) (eC (.int 1)))) (aNil)))
def v__law_names : FnV := fnV 1 1 b__law_names
theorem tv__law_names : Takes' 1 v__law_names := takes_fnV
theorem ok__law_names (c : Wd fa fn ex K mg base) : FnG P w K mg base 43 (He.ga K "_law_names") (fdW K d__law_names) ["saying"] (SpS K 1 v__law_names) :=
  fn_ok (c.def_ 18 (d := d__law_names) rfl) sc__law_names rfl rfl fun cdv A outer s H E hr => by
    have nd := (sc__law_names).nd
    have HR42 := hr.mono (show 42 ≤ _ by omega)
    unfold b__law_names
    exact sss_one (ss_ret (se_sortSet false rfl hr.units rfl (c.free 38 rfl) rfl (c.free 43 rfl) (sa_cons (se_lc (own := [("own", 1)]) false rfl nd (si_seq (se_callP (takes_of rfl rfl rfl rfl) (ok__law_all c 40) (tv__law_all 40) HR42 rfl (c.glo 37 rfl) (kp__law_all c) (bn__law_all c) (sa_cons (se_var (pv 0)) (sa_nil)))) (blkOk_by (by kernel_rfl)) (by rfl) (fun _ _ _ _ _ => pg_name (i := 1) nd rfl (by first | exact Or.inl rfl | exact Or.inr rfl)) (fun _ _ _ _ _ => sbs_one (sb_cmp (or_eq hr.units) (se_sub hr.units (se_var (pv 1)) (se_int)) (se_str))) (fun _ _ _ _ _ => se_sub hr.units (se_var (pv 1)) (se_int))) (sa_nil))))
theorem kb_letters_of_saying_0 (c : Wd fa fn ex K mg base) : KwB K (fdW K d_letters_of) ["saying"] ["saying"] [0] 0 := kwb_of (c.def_ 17 (d := d_letters_of) rfl) fun _ _ _ _ _ _ us ws hl hl2 => match us, ws, hl, hl2 with | [], [_], _, _ => rfl
/-! not_of -/
theorem sc_not_of : FnScope ["saying"] ["saying"] (defScope s_not_of) := ⟨rfl, rfl, rfl, by decide +kernel, rfl, by decide +kernel, by decide +kernel⟩
theorem kp_not_of (c : Wd fa fn ex K mg base) : PySem.W.keepIn K (.ref (He.ga K "not_of")) = true := (c.def_ 19 (d := d_not_of) rfl).kp
theorem bn_not_of (c : Wd fa fn ex K mg base) : Binds K (fdW K d_not_of) ["saying"] [] := FunD.bindsN (c.def_ 19 (d := d_not_of) rfl) fun _ _ _ _ _ _ us hl => match us, hl with | [_], _ => rfl
def b_not_of : SF :=
  sRet (eA oTup (aCons (eC (.str "if")) (aCons (eVar 0) (aCons (eC (.tuple [.str "false"])) (aNil)))))
def v_not_of : FnV := fnV 1 0 b_not_of
theorem tv_not_of : Takes' 1 v_not_of := takes_fnV
theorem ok_not_of (c : Wd fa fn ex K mg base) : FnG P w K mg base 1 (He.ga K "not_of") (fdW K d_not_of) ["saying"] (SpS K 1 v_not_of) :=
  fn_ok (c.def_ 19 (d := d_not_of) rfl) sc_not_of rfl rfl fun cdv A outer s H E hr => by
    have nd := (sc_not_of).nd
    unfold b_not_of
    exact sss_one (ss_ret (se_tup (sa_cons (se_gstr rfl (c.str 21 rfl)) (sa_cons (se_var (pv 0)) (sa_cons (se_gtup rfl (c.glo 45 rfl) (ex_2 c) (by rfl)) (sa_nil))))))
/-! denied -/
theorem sc_denied : FnScope ["saying"] ["saying"] (defScope s_denied) := ⟨rfl, rfl, rfl, by decide +kernel, rfl, by decide +kernel, by decide +kernel⟩
theorem kp_denied (c : Wd fa fn ex K mg base) : PySem.W.keepIn K (.ref (He.ga K "denied")) = true := (c.def_ 20 (d := d_denied) rfl).kp
theorem bn_denied (c : Wd fa fn ex K mg base) : Binds K (fdW K d_denied) ["saying"] [] := FunD.bindsN (c.def_ 20 (d := d_denied) rfl) fun _ _ _ _ _ _ us hl => match us, hl with | [_], _ => rfl
def b_denied : SF :=
  sSeq (sExpr (eP (pureF v_need_saying) (aCons (eVar 0) (aNil)))) <|
  sRet (eP (pureF v_not_of) (aCons (eVar 0) (aNil)))
def v_denied : FnV := fnV 1 0 b_denied
theorem tv_denied : Takes' 1 v_denied := takes_fnV
theorem ok_denied (c : Wd fa fn ex K mg base) : FnG P w K mg base 44 (He.ga K "denied") (fdW K d_denied) ["saying"] (SpS K 1 v_denied) :=
  fn_ok (c.def_ 20 (d := d_denied) rfl) sc_denied rfl rfl fun cdv A outer s H E hr => by
    have nd := (sc_denied).nd
    have HR1 := hr.mono (show 1 ≤ _ by omega)
    have HR43 := hr.mono (show 43 ≤ _ by omega)
    unfold b_denied
    exact sss_cons (ss_expr (se_callP (takes_of rfl rfl rfl rfl) (ok_need_saying c) tv_need_saying HR43 rfl (c.glo 31 rfl) (kp_need_saying c) (bn_need_saying c) (sa_cons (se_var (pv 0)) (sa_nil)))) <|
      sss_one (ss_ret (se_callP (takes_of rfl rfl rfl rfl) (ok_not_of c) tv_not_of HR1 rfl (c.glo 46 rfl) (kp_not_of c) (bn_not_of c) (sa_cons (se_var (pv 0)) (sa_nil))))
theorem kb_denied_saying_0 (c : Wd fa fn ex K mg base) : KwB K (fdW K d_denied) ["saying"] ["saying"] [0] 0 := kwb_of (c.def_ 20 (d := d_denied) rfl) fun _ _ _ _ _ _ us ws hl hl2 => match us, ws, hl, hl2 with | [], [_], _, _ => rfl
/-! _law_near -/
theorem sc__law_near : FnScope ["saying", "found"] ["saying"] (defScope s__law_near) := ⟨rfl, rfl, rfl, by decide +kernel, rfl, by decide +kernel, by decide +kernel⟩
theorem kp__law_near (c : Wd fa fn ex K mg base) : PySem.W.keepIn K (.ref (He.ga K "_law_near")) = true := (c.def_ 21 (d := d__law_near) rfl).kp
theorem bn__law_near (c : Wd fa fn ex K mg base) : Binds K (fdW K d__law_near) ["saying"] [] := FunD.bindsN (c.def_ 21 (d := d__law_near) rfl) fun _ _ _ _ _ _ us hl => match us, hl with | [_], _ => rfl
def b__law_near : SF :=
  sSeq (sSet 1 (eA oLstM (aCons (eC .none) (aCons (eC (.str "p")) (aCons (eA oTup (aCons (eC (.str "letter")) (aNil))) (aCons (eA oTup (aCons (eC (.str "letter")) (aCons (eC (.str "P")) (aNil)))) (aCons (eA oTup (aCons (eC (.str "letter")) (aCons (eC (.str "not")) (aNil)))) (aCons (eA oTup (aCons (eC (.str "letter")) (aCons (eC (.str "abcde")) (aNil)))) (aCons (eA oTup (aCons (eC (.str "letter")) (aCons (eC (.str "")) (aNil)))) (aCons (eA oTup (aCons (eC (.str "letter")) (aCons (eA oTup (aCons (eC (.str "p")) (aNil))) (aNil)))) (aCons (eA oTup (aCons (eC (.str "true")) (aCons (eC (.int 1)) (aNil)))) (aCons (eA oLst (aCons (eC (.str "true")) (aNil))) (aNil))))))))))))) <|
  sSeq (sExpr (eMth mExtend (eVar 1) (aCons (eA oLst (aCons (eA oTup (aCons (eC (.str "not")) (aCons (eVar 0) (aNil)))) (aCons (eA oTup (aCons (eC (.str "and")) (aCons (eVar 0) (aNil)))) (aCons (eA oTup (aCons (eC (.str "or")) (aCons (eVar 0) (aCons (eVar 0) (aCons (eVar 0) (aNil)))))) (aCons (eA oTup (aCons (eC (.str "if")) (aCons (eVar 0) (aCons (eC .none) (aNil))))) (aCons (eA oTup (aCons (eC (.str "iff")) (aCons (eVar 0) (aCons (eVar 0) (aNil))))) (aCons (eA oTup (aCons (eVar 0) (aCons (eVar 0) (aCons (eC (.str "and")) (aNil))))) (aNil)))))))) (aNil)))) <|
  sRet (e2 (oP pAdd) (eVar 1) (eA oLst (aCons (eA oTup (aCons (eC (.str "and")) (aCons (eVar 0) (aCons (eA (oListD false) (aCons (eVar 0) (aNil))) (aNil))))) (aCons (eA oTup (aNil)) (aCons (eA oTup (aCons (eC (.bool true)) (aNil))) (aCons (eA oTup (aCons (eC (.str "letter")) (aCons (eC (.str "p")) (aCons (eC (.str "q")) (aNil))))) (aCons (eA oTup (aCons (eC (.str "if")) (aCons (eVar 0) (aCons (eA oTup (aCons (eC (.str "letter")) (aCons (eC (.str "if")) (aNil)))) (aNil))))) (aCons (eA oLst (aCons (eVar 0) (aNil))) (aNil)))))))))
def v__law_near : FnV := fnV 1 1 b__law_near
theorem tv__law_near : Takes' 1 v__law_near := takes_fnV
theorem ok__law_near (c : Wd fa fn ex K mg base) : FnG P w K mg base 1 (He.ga K "_law_near") (fdW K d__law_near) ["saying"] (SpS K 1 v__law_near) :=
  fn_ok (c.def_ 21 (d := d__law_near) rfl) sc__law_near rfl rfl fun cdv A outer s H E hr => by
    have nd := (sc__law_near).nd
    unfold b__law_near
    exact sss_cons (ss_set (i := 1) nd rfl (by first | exact Or.inl rfl | exact Or.inr rfl) (se_lstM (sa_cons (se_non) (sa_cons (se_str) (sa_cons (se_tup (sa_cons (se_str) (sa_nil))) (sa_cons (se_tup (sa_cons (se_str) (sa_cons (se_str) (sa_nil)))) (sa_cons (se_tup (sa_cons (se_str) (sa_cons (se_str) (sa_nil)))) (sa_cons (se_tup (sa_cons (se_str) (sa_cons (se_str) (sa_nil)))) (sa_cons (se_tup (sa_cons (se_str) (sa_cons (se_str) (sa_nil)))) (sa_cons (se_tup (sa_cons (se_str) (sa_cons (se_tup (sa_cons (se_str) (sa_nil))) (sa_nil)))) (sa_cons (se_tup (sa_cons (se_str) (sa_cons (se_int) (sa_nil)))) (sa_cons (se_lst (sa_cons (se_str) (sa_nil))) (sa_nil))))))))))))) <|
      sss_cons (ss_expr (se_extend (se_var (pv 1)) (sa_cons (se_lst (sa_cons (se_tup (sa_cons (se_str) (sa_cons (se_var (pv 0)) (sa_nil)))) (sa_cons (se_tup (sa_cons (se_str) (sa_cons (se_var (pv 0)) (sa_nil)))) (sa_cons (se_tup (sa_cons (se_str) (sa_cons (se_var (pv 0)) (sa_cons (se_var (pv 0)) (sa_cons (se_var (pv 0)) (sa_nil)))))) (sa_cons (se_tup (sa_cons (se_str) (sa_cons (se_var (pv 0)) (sa_cons (se_non) (sa_nil))))) (sa_cons (se_tup (sa_cons (se_str) (sa_cons (se_var (pv 0)) (sa_cons (se_var (pv 0)) (sa_nil))))) (sa_cons (se_tup (sa_cons (se_var (pv 0)) (sa_cons (se_var (pv 0)) (sa_cons (se_str) (sa_nil))))) (sa_nil)))))))) (sa_nil)))) <|
      sss_one (ss_ret (se_op or_add (se_var (pv 1)) (se_lst (sa_cons (se_tup (sa_cons (se_str) (sa_cons (se_var (pv 0)) (sa_cons (se_callTy (cr_listD rfl false) rfl (c.free 28 rfl) boot_list (sa_cons (se_var (pv 0)) (sa_nil))) (sa_nil))))) (sa_cons (se_tup (sa_nil)) (sa_cons (se_tup (sa_cons (se_bl) (sa_nil))) (sa_cons (se_tup (sa_cons (se_str) (sa_cons (se_str) (sa_cons (se_str) (sa_nil))))) (sa_cons (se_tup (sa_cons (se_str) (sa_cons (se_var (pv 0)) (sa_cons (se_tup (sa_cons (se_str) (sa_cons (se_str) (sa_nil)))) (sa_nil))))) (sa_cons (se_lst (sa_cons (se_var (pv 0)) (sa_nil))) (sa_nil))))))))))
/-! _law_caught -/
theorem sc__law_caught : FnScope ["which", "value", "caught", "e"] ["which", "value"] (defScope s__law_caught) := ⟨rfl, rfl, rfl, by decide +kernel, rfl, by decide +kernel, by decide +kernel⟩
theorem kp__law_caught (c : Wd fa fn ex K mg base) : PySem.W.keepIn K (.ref (He.ga K "_law_caught")) = true := (c.def_ 22 (d := d__law_caught) rfl).kp
theorem bn__law_caught (c : Wd fa fn ex K mg base) : Binds K (fdW K d__law_caught) ["which", "value"] [] := FunD.bindsN (c.def_ 22 (d := d__law_caught) rfl) fun _ _ _ _ _ _ us hl => match us, hl with | [_, _], _ => rfl
def b__law_caught : SF :=
  sSeq (sSet 2 (eC .none)) <|
  sSeq (sTry all 3 2 (sIf (bV (e2 (oP pEq) (eVar 0) (eC (.int 0)))) (sExpr (eP (pureF v_words_in) (aCons (eVar 1) (aNil)))) (sIf (bV (e2 (oP pEq) (eVar 0) (eC (.int 1)))) (sExpr (eP (pureF v_letters_of) (aCons (eVar 1) (aNil)))) (sExpr (eP (pureF v_denied) (aCons (eVar 1) (aNil))))))) <|
  sRet (eIf (bT (e1 (oIsX all "InvalidSaying") (eVar 2))) (eA oRepr (aCons (e1 (oVal all) (eVar 2)) (aNil))) (eC .none))
def v__law_caught : FnV := fnV 2 2 b__law_caught
theorem tv__law_caught : Takes' 2 v__law_caught := takes_fnV
theorem ok__law_caught (c : Wd fa fn ex K mg base) : FnG P w K mg base 45 (He.ga K "_law_caught") (fdW K d__law_caught) ["which", "value"] (SpS K 2 v__law_caught) :=
  fn_ok (c.def_ 22 (d := d__law_caught) rfl) sc__law_caught rfl rfl fun cdv A outer s H E hr => by
    have nd := (sc__law_caught).nd
    have HR44 := hr.mono (show 44 ≤ _ by omega)
    unfold b__law_caught
    exact sss_cons (ss_set (i := 2) nd rfl (by first | exact Or.inl rfl | exact Or.inr rfl) (se_non)) <|
      sss_cons (ss_try (i := 3) (j := 2) rfl rfl rfl nd rfl rfl rfl rfl rfl (c.glo 49 rfl) (takes_of rfl rfl rfl rfl) (xAll_ok (ex_3 c)).exm (fun W pn xe tk po => sss_one (ss_if (sb_cmp (or_eq hr.units) (se_var (pv 0)) (se_int)) (sss_one (ss_expr (se_callP tk (ok_words_in c) tv_words_in HR44 rfl (c.glo 35 rfl) (kp_words_in c) (bn_words_in c) (sa_cons (se_var (pv 1)) (sa_nil))))) (sss_one (ss_if (sb_cmp (or_eq hr.units) (se_var (pv 0)) (se_int)) (sss_one (ss_expr (se_callP tk (ok_letters_of c) tv_letters_of HR44 rfl (c.glo 42 rfl) (kp_letters_of c) (bn_letters_of c) (sa_cons (se_var (pv 1)) (sa_nil))))) (sss_one (ss_expr (se_callP tk (ok_denied c) tv_denied HR44 rfl (c.glo 47 rfl) (kp_denied c) (bn_denied c) (sa_cons (se_var (pv 1)) (sa_nil)))))))))) <|
      sss_one (ss_ret (se_if (sb_t (se_isX (C := "InvalidSaying") (xAll_ok (ex_3 c)) (by decide +kernel) rfl (c.free 11 rfl) rfl (c.glo 30 rfl) (se_var (pv 2)))) (se_callB (cr_repr hr.gd hr.units) rfl (c.free 26 rfl) boot_repr (sa_cons (se_val (xAll_ok (ex_3 c)) (se_var (pv 2))) (sa_nil))) (se_non)))
/-! is_name -/
theorem sc_is_name : FnScope ["value"] ["value"] (defScope s_is_name) := ⟨rfl, rfl, rfl, by decide +kernel, rfl, by decide +kernel, by decide +kernel⟩
theorem kp_is_name (c : Wd fa fn ex K mg base) : PySem.W.keepIn K (.ref (He.ga K "is_name")) = true := (c.def_ 23 (d := d_is_name) rfl).kp
theorem bn_is_name (c : Wd fa fn ex K mg base) : Binds K (fdW K d_is_name) ["value"] [] := FunD.bindsN (c.def_ 23 (d := d_is_name) rfl) fun _ _ _ _ _ _ us hl => match us, hl with | [_], _ => rfl
def b_is_name : SF :=
  sRet (eP (pureF v_is_name_in) (aCons (eVar 0) (aNil)))
def v_is_name : FnV := fnV 1 0 b_is_name
theorem tv_is_name : Takes' 1 v_is_name := takes_fnV
theorem ok_is_name (c : Wd fa fn ex K mg base) : FnG P w K mg base 2 (He.ga K "is_name") (fdW K d_is_name) ["value"] (SpS K 1 v_is_name) :=
  fn_ok (c.def_ 23 (d := d_is_name) rfl) sc_is_name rfl rfl fun cdv A outer s H E hr => by
    have nd := (sc_is_name).nd
    have HR1 := hr.mono (show 1 ≤ _ by omega)
    unfold b_is_name
    exact sss_one (ss_ret (se_callP (takes_of rfl rfl rfl rfl) (ok_is_name_in c) tv_is_name_in HR1 rfl (c.glo 20 rfl) (kp_is_name_in c) (bn_is_name_in c) (sa_cons (se_var (pv 0)) (sa_nil))))
theorem kb_is_name_value_0 (c : Wd fa fn ex K mg base) : KwB K (fdW K d_is_name) ["value"] ["value"] [0] 0 := kwb_of (c.def_ 23 (d := d_is_name) rfl) fun _ _ _ _ _ _ us ws hl hl2 => match us, ws, hl, hl2 with | [], [_], _, _ => rfl
/-! law -/
theorem sc_law : FnScope ["script", "k", "source", "names", "turn", "value", "due", "saying", "which"] ["script"] (defScope s_law) := ⟨rfl, rfl, rfl, by decide +kernel, rfl, by decide +kernel, by decide +kernel⟩
theorem kp_law (c : Wd fa fn ex K mg base) : PySem.W.keepIn K (.ref (He.ga K "law")) = true := (c.def_ 24 (d := d_law) rfl).kp
theorem bn_law (c : Wd fa fn ex K mg base) : Binds K (fdW K d_law) ["script"] [] := FunD.bindsN (c.def_ 24 (d := d_law) rfl) fun _ _ _ _ _ _ us hl => match us, hl with | [_], _ => rfl
def b_law : SF :=
  sSeq (sFor (iRange1 (aCons (eA oMax2 (aCons (eC (.int 1)) (aCons (eA oMin2 (aCons (eC (.int 3)) (aCons (eA oLen (aCons (eVar 0) (aNil))) (aNil)))) (aNil)))) (aNil))) (.nm 1) (sSeq (sSet 2 (eCall v__law_source (aCons (eVar 0) (aCons (eVar 1) (aNil))))) <|
  sSeq (sSet 3 (eA oLst (aCons (eC (.str "p")) (aCons (eC (.str "ab")) (aCons (eC (.str "zz")) (aCons (eC (.str "abcd")) (aCons (eC (.str "x")) (aNil)))))))) <|
  sSeq (sFor (iRange1 (aCons (eC (.int 6)) (aNil))) (.nm 4) (sSeq (sSet 7 (eCall (v__law_saying 40) (aCons (eVar 2) (aCons (eCall v__law_pick (aCons (eVar 2) (aCons (eC (.int 5)) (aNil)))) (aCons (eVar 3) (aNil)))))) <|
  sSeq (sIf (bV (e2 (oP pNe) (eA oRepr (aCons (eA oLst (aCons (eP (pureF v_is_saying) (aCons (eVar 7) (aNil))) (aCons (kwGo [0] 0 1 aNil (aCons (eVar 7) (aNil)) (runP (pureF v_is_saying))) (aNil)))) (aNil))) (eA oRepr (aCons (eA oLst (aCons (eC (.bool true)) (aCons (eC (.bool true)) (aNil)))) (aNil))))) (sRet (eC (.bool false))) (sSkip)) <|
  sSeq (sIf (bOr (bV (e2 (oP pNe) (eA oLst (aCons (eP (pureF v_words_in) (aCons (eVar 7) (aNil))) (aCons (kwGo [0] 0 1 aNil (aCons (eVar 7) (aNil)) (runP (pureF v_words_in))) (aNil)))) (e2 (oP pMul) (eA oLst (aCons (eA oLen (aCons (eP (pureF (v__law_all 40)) (aCons (eVar 7) (aNil))) (aNil))) (aNil))) (eC (.int 2))))) (bOr (bV (e2 (oP pNe) (eP (pureF v_letters_of) (aCons (eVar 7) (aNil))) (eA oTuple (aCons (eP (pureF v__law_names) (aCons (eVar 7) (aNil))) (aNil))))) (bV (e2 (oP pNe) (kwGo [0] 0 1 aNil (aCons (eVar 7) (aNil)) (runP (pureF v_letters_of))) (eA oTuple (aCons (eP (pureF v__law_names) (aCons (eVar 7) (aNil))) (aNil))))))) (sRet (eC (.bool false))) (sSkip)) <|
  sSeq (sIf (bOr (bV (e2 (oP pNe) (eP (pureF v_denied) (aCons (eVar 7) (aNil))) (eP (pureF v__law_not) (aCons (eVar 7) (aNil))))) (bV (e2 (oP pNe) (kwGo [0] 0 1 aNil (aCons (eVar 7) (aNil)) (runP (pureF v_denied))) (eP (pureF v__law_not) (aCons (eVar 7) (aNil)))))) (sRet (eC (.bool false))) (sSkip)) <|
  sFor (iSeq (eP (pureF v__law_near) (aCons (eVar 7) (aNil)))) (.nm 5) (sIf (bOr (bV (e2 (oP pIsNot) (eP (pureF v_is_saying) (aCons (eVar 5) (aNil))) (eC (.bool false)))) (bV (e2 (oP pNe) (eLc false [8] (iRange1 (aCons (eC (.int 3)) (aNil))) (.nm 8) (bYes) (eP (pureF v__law_caught) (aCons (eVar 8) (aCons (eVar 5) (aNil))))) (e2 (oP pMul) (eA oLst (aCons (eA oRepr (aCons (eVar 5) (aNil))) (aNil))) (eC (.int 3)))))) (sRet (eC (.bool false))) (sSkip)))) <|
  sSeq (sFor (iSeq (eA oTup (aCons (eA oTup (aCons (eC (.str "p")) (aCons (eC (.bool true)) (aNil)))) (aCons (eA oTup (aCons (eC (.str "abcd")) (aCons (eC (.bool true)) (aNil)))) (aCons (eA oTup (aCons (eC (.str "abcde")) (aCons (eC (.bool false)) (aNil)))) (aCons (eA oTup (aCons (eC (.str "")) (aCons (eC (.bool false)) (aNil)))) (aCons (eA oTup (aCons (eC (.str "true")) (aCons (eC (.bool false)) (aNil)))) (aCons (eA oTup (aCons (eC (.str "false")) (aCons (eC (.bool false)) (aNil)))) (aCons (eA oTup (aCons (eC (.str "not")) (aCons (eC (.bool false)) (aNil)))) (aCons (eA oTup (aCons (eC (.str "and")) (aCons (eC (.bool false)) (aNil)))) (aCons (eA oTup (aCons (eC (.str "or")) (aCons (eC (.bool false)) (aNil)))) (aCons (eA oTup (aCons (eC (.str "if")) (aCons (eC (.bool false)) (aNil)))) (aNil))))))))))))) (.tup [.nm 5, .nm 6]) (sIf (bV (e2 (oP pNe) (eA oRepr (aCons (eA oLst (aCons (eP (pureF v_is_name) (aCons (eVar 5) (aNil))) (aCons (kwGo [0] 0 1 aNil (aCons (eVar 5) (aNil)) (runP (pureF v_is_name))) (aNil)))) (aNil))) (eA oRepr (aCons (eA oLst (aCons (eVar 6) (aCons (eVar 6) (aNil)))) (aNil))))) (sRet (eC (.bool false))) (sSkip))) <|
  sFor (iSeq (eA oTup (aCons (eA oTup (aCons (eC (.str "iff")) (aCons (eC (.bool true)) (aNil)))) (aCons (eA oTup (aCons (eC (.str "Ab")) (aCons (eC (.bool false)) (aNil)))) (aCons (eA oTup (aCons (eC (.str "a1")) (aCons (eC (.bool false)) (aNil)))) (aCons (eA oTup (aCons (eC (.str "a b")) (aCons (eC (.bool false)) (aNil)))) (aCons (eA oTup (aCons (eC .none) (aCons (eC (.bool false)) (aNil)))) (aCons (eA oTup (aCons (eA oTup (aCons (eC (.str "p")) (aNil))) (aCons (eC (.bool false)) (aNil)))) (aCons (eA oTup (aCons (eC (.int 1)) (aCons (eC (.bool false)) (aNil)))) (aCons (eA oTup (aCons (eC (.str "nots")) (aCons (eC (.bool true)) (aNil)))) (aCons (eA oTup (aCons (eC (.str "tru")) (aCons (eC (.bool true)) (aNil)))) (aCons (eA oTup (aCons (eC (.str "-")) (aCons (eC (.bool false)) (aNil)))) (aNil))))))))))))) (.tup [.nm 5, .nm 6]) (sIf (bV (e2 (oP pNe) (eA oRepr (aCons (eP (pureF v_is_name) (aCons (eVar 5) (aNil))) (aNil))) (eA oRepr (aCons (eVar 6) (aNil))))) (sRet (eC (.bool false))) (sSkip)))) <|
  sRet (eC (.bool true))
def v_law : FnV := fnV 1 8 b_law
theorem tv_law : Takes' 1 v_law := takes_fnV
theorem ok_law (c : Wd fa fn ex K mg base) : FnG P w K mg base 46 (He.ga K "law") (fdW K d_law) ["script"] (SpS K 1 v_law) :=
  fn_ok (c.def_ 24 (d := d_law) rfl) sc_law rfl rfl fun cdv A outer s H E hr => by
    have nd := (sc_law).nd
    have HR1 := hr.mono (show 1 ≤ _ by omega)
    have HR2 := hr.mono (show 2 ≤ _ by omega)
    have HR42 := hr.mono (show 42 ≤ _ by omega)
    have HR43 := hr.mono (show 43 ≤ _ by omega)
    have HR44 := hr.mono (show 44 ≤ _ by omega)
    have HR45 := hr.mono (show 45 ≤ _ by omega)
    unfold b_law
    exact sss_cons (ss_for (passes_of rfl) rfl (si_range1 rfl (c.free 3 rfl) (sa_cons (se_callB (cr_max2 rfl) rfl (c.free 2 rfl) boot_max (sa_cons (se_int) (sa_cons (se_callB (cr_min2 rfl) rfl (c.free 1 rfl) boot_min (sa_cons (se_int) (sa_cons (se_callB cr_len rfl (c.free 0 rfl) boot_len (sa_cons (se_var (pv 0)) (sa_nil))) (sa_nil)))) (sa_nil)))) (sa_nil))) (pg_name (i := 1) nd rfl (by first | exact Or.inl rfl | exact Or.inr rfl)) (sss_cons (ss_set (i := 2) nd rfl (by first | exact Or.inl rfl | exact Or.inr rfl) (se_call (takes_of rfl rfl rfl rfl) (ok__law_source c) tv__law_source HR1 rfl (c.glo 7 rfl) (kp__law_source c) (bn__law_source c) (sa_cons (se_var (pv 0)) (sa_cons (se_var (pv 1)) (sa_nil))))) <|
      sss_cons (ss_set (i := 3) nd rfl (by first | exact Or.inl rfl | exact Or.inr rfl) (se_lst (sa_cons (se_str) (sa_cons (se_str) (sa_cons (se_str) (sa_cons (se_str) (sa_cons (se_str) (sa_nil)))))))) <|
      sss_cons (ss_for (passes_of rfl) rfl (si_range1 rfl (c.free 3 rfl) (sa_cons (se_int) (sa_nil))) (pg_name (i := 4) nd rfl (by first | exact Or.inl rfl | exact Or.inr rfl)) (sss_cons (ss_set (i := 7) nd rfl (by first | exact Or.inl rfl | exact Or.inr rfl) (se_call (takes_of rfl rfl rfl rfl) (ok__law_saying c 40) (tv__law_saying 40) HR42 rfl (c.glo 10 rfl) (kp__law_saying c) (bn__law_saying c) (sa_cons (se_var (pv 2)) (sa_cons (se_call (takes_of rfl rfl rfl rfl) (ok__law_pick c) tv__law_pick HR1 rfl (c.glo 8 rfl) (kp__law_pick c) (bn__law_pick c) (sa_cons (se_var (pv 2)) (sa_cons (se_int) (sa_nil)))) (sa_cons (se_var (pv 3)) (sa_nil)))))) <|
      sss_cons (ss_if (sb_cmp (or_ne hr.units) (se_callB (cr_repr hr.gd hr.units) rfl (c.free 26 rfl) boot_repr (sa_cons (se_lst (sa_cons (se_callP (takes_of rfl rfl rfl rfl) (ok_is_saying c) tv_is_saying HR43 rfl (c.glo 25 rfl) (kp_is_saying c) (bn_is_saying c) (sa_cons (se_var (pv 7)) (sa_nil))) (sa_cons (se_callKP0 (ks := ["value"]) (takes_of rfl rfl rfl rfl) (ok_is_saying c) tv_is_saying HR43 rfl (c.glo 25 rfl) (kp_is_saying c) (kb_is_saying_value_0 c) (sk_cons (se_var (pv 7)) (sk_nil))) (sa_nil)))) (sa_nil))) (se_callB (cr_repr hr.gd hr.units) rfl (c.free 26 rfl) boot_repr (sa_cons (se_lst (sa_cons (se_bl) (sa_cons (se_bl) (sa_nil)))) (sa_nil)))) (sss_one (ss_ret (se_bl))) (sss_nil)) <|
      sss_cons (ss_if (sb_w (sw_or (sb_cmp (or_ne hr.units) (se_lst (sa_cons (se_callP (takes_of rfl rfl rfl rfl) (ok_words_in c) tv_words_in HR44 rfl (c.glo 35 rfl) (kp_words_in c) (bn_words_in c) (sa_cons (se_var (pv 7)) (sa_nil))) (sa_cons (se_callKP0 (ks := ["saying"]) (takes_of rfl rfl rfl rfl) (ok_words_in c) tv_words_in HR44 rfl (c.glo 35 rfl) (kp_words_in c) (kb_words_in_saying_0 c) (sk_cons (se_var (pv 7)) (sk_nil))) (sa_nil)))) (se_op or_mul (se_lst (sa_cons (se_callB cr_len rfl (c.free 0 rfl) boot_len (sa_cons (se_callP (takes_of rfl rfl rfl rfl) (ok__law_all c 40) (tv__law_all 40) HR42 rfl (c.glo 37 rfl) (kp__law_all c) (bn__law_all c) (sa_cons (se_var (pv 7)) (sa_nil))) (sa_nil))) (sa_nil))) (se_int))) (sw_or (sb_cmp (or_ne hr.units) (se_callP (takes_of rfl rfl rfl rfl) (ok_letters_of c) tv_letters_of HR44 rfl (c.glo 42 rfl) (kp_letters_of c) (bn_letters_of c) (sa_cons (se_var (pv 7)) (sa_nil))) (se_callTy cr_tuple rfl (c.free 12 rfl) boot_tuple (sa_cons (se_callP (takes_of rfl rfl rfl rfl) (ok__law_names c) tv__law_names HR43 rfl (c.glo 44 rfl) (kp__law_names c) (bn__law_names c) (sa_cons (se_var (pv 7)) (sa_nil))) (sa_nil)))) (sw_or1 (sb_cmp (or_ne hr.units) (se_callKP0 (ks := ["saying"]) (takes_of rfl rfl rfl rfl) (ok_letters_of c) tv_letters_of HR44 rfl (c.glo 42 rfl) (kp_letters_of c) (kb_letters_of_saying_0 c) (sk_cons (se_var (pv 7)) (sk_nil))) (se_callTy cr_tuple rfl (c.free 12 rfl) boot_tuple (sa_cons (se_callP (takes_of rfl rfl rfl rfl) (ok__law_names c) tv__law_names HR43 rfl (c.glo 44 rfl) (kp__law_names c) (bn__law_names c) (sa_cons (se_var (pv 7)) (sa_nil))) (sa_nil)))))))) (sss_one (ss_ret (se_bl))) (sss_nil)) <|
      sss_cons (ss_if (sb_w (sw_or (sb_cmp (or_ne hr.units) (se_callP (takes_of rfl rfl rfl rfl) (ok_denied c) tv_denied HR44 rfl (c.glo 47 rfl) (kp_denied c) (bn_denied c) (sa_cons (se_var (pv 7)) (sa_nil))) (se_callP (takes_of rfl rfl rfl rfl) (ok__law_not c) tv__law_not HR1 rfl (c.glo 9 rfl) (kp__law_not c) (bn__law_not c) (sa_cons (se_var (pv 7)) (sa_nil)))) (sw_or1 (sb_cmp (or_ne hr.units) (se_callKP0 (ks := ["saying"]) (takes_of rfl rfl rfl rfl) (ok_denied c) tv_denied HR44 rfl (c.glo 47 rfl) (kp_denied c) (kb_denied_saying_0 c) (sk_cons (se_var (pv 7)) (sk_nil))) (se_callP (takes_of rfl rfl rfl rfl) (ok__law_not c) tv__law_not HR1 rfl (c.glo 9 rfl) (kp__law_not c) (bn__law_not c) (sa_cons (se_var (pv 7)) (sa_nil))))))) (sss_one (ss_ret (se_bl))) (sss_nil)) <|
      sss_one (ss_for (passes_of rfl) rfl (si_seq (se_callP (takes_of rfl rfl rfl rfl) (ok__law_near c) tv__law_near HR1 rfl (c.glo 48 rfl) (kp__law_near c) (bn__law_near c) (sa_cons (se_var (pv 7)) (sa_nil)))) (pg_name (i := 5) nd rfl (by first | exact Or.inl rfl | exact Or.inr rfl)) (sss_one (ss_if (sb_w (sw_or (sb_cmp or_isnot (se_callP (takes_of rfl rfl rfl rfl) (ok_is_saying c) tv_is_saying HR43 rfl (c.glo 25 rfl) (kp_is_saying c) (bn_is_saying c) (sa_cons (se_var (pv 5)) (sa_nil))) (se_bl)) (sw_or1 (sb_cmp (or_ne hr.units) (se_lc (own := [("which", 8)]) false rfl nd (si_range1 rfl (c.free 3 rfl) (sa_cons (se_int) (sa_nil))) (blkOk_by (by kernel_rfl)) (by rfl) (fun _ _ _ _ _ => pg_name (i := 8) nd rfl (by first | exact Or.inl rfl | exact Or.inr rfl)) (fun _ _ _ _ _ => sbs_nil) (fun _ _ _ _ _ => se_callP takes0 (ok__law_caught c) tv__law_caught HR45 rfl (c.glo 50 rfl) (kp__law_caught c) (bn__law_caught c) (sa_cons (se_var (pv 8)) (sa_cons (se_var (pv 5)) (sa_nil))))) (se_op or_mul (se_lst (sa_cons (se_callB (cr_repr hr.gd hr.units) rfl (c.free 26 rfl) boot_repr (sa_cons (se_var (pv 5)) (sa_nil))) (sa_nil))) (se_int)))))) (sss_one (ss_ret (se_bl))) (sss_nil)))))) <|
      sss_cons (ss_for (passes_of rfl) rfl (si_seq (se_tup (sa_cons (se_tup (sa_cons (se_str) (sa_cons (se_bl) (sa_nil)))) (sa_cons (se_tup (sa_cons (se_str) (sa_cons (se_bl) (sa_nil)))) (sa_cons (se_tup (sa_cons (se_str) (sa_cons (se_bl) (sa_nil)))) (sa_cons (se_tup (sa_cons (se_str) (sa_cons (se_bl) (sa_nil)))) (sa_cons (se_tup (sa_cons (se_str) (sa_cons (se_bl) (sa_nil)))) (sa_cons (se_tup (sa_cons (se_str) (sa_cons (se_bl) (sa_nil)))) (sa_cons (se_tup (sa_cons (se_str) (sa_cons (se_bl) (sa_nil)))) (sa_cons (se_tup (sa_cons (se_str) (sa_cons (se_bl) (sa_nil)))) (sa_cons (se_tup (sa_cons (se_str) (sa_cons (se_bl) (sa_nil)))) (sa_cons (se_tup (sa_cons (se_str) (sa_cons (se_bl) (sa_nil)))) (sa_nil))))))))))))) (pg_tup rfl (pgs_cons (pg_name (i := 5) nd rfl (by first | exact Or.inl rfl | exact Or.inr rfl)) (pgs_cons (pg_name (i := 6) nd rfl (by first | exact Or.inl rfl | exact Or.inr rfl)) (pgs_nil)))) (sss_one (ss_if (sb_cmp (or_ne hr.units) (se_callB (cr_repr hr.gd hr.units) rfl (c.free 26 rfl) boot_repr (sa_cons (se_lst (sa_cons (se_callP (takes_of rfl rfl rfl rfl) (ok_is_name c) tv_is_name HR2 rfl (c.glo 51 rfl) (kp_is_name c) (bn_is_name c) (sa_cons (se_var (pv 5)) (sa_nil))) (sa_cons (se_callKP0 (ks := ["value"]) (takes_of rfl rfl rfl rfl) (ok_is_name c) tv_is_name HR2 rfl (c.glo 51 rfl) (kp_is_name c) (kb_is_name_value_0 c) (sk_cons (se_var (pv 5)) (sk_nil))) (sa_nil)))) (sa_nil))) (se_callB (cr_repr hr.gd hr.units) rfl (c.free 26 rfl) boot_repr (sa_cons (se_lst (sa_cons (se_var (pv 6)) (sa_cons (se_var (pv 6)) (sa_nil)))) (sa_nil)))) (sss_one (ss_ret (se_bl))) (sss_nil)))) <|
      sss_one (ss_for (passes_of rfl) rfl (si_seq (se_tup (sa_cons (se_tup (sa_cons (se_str) (sa_cons (se_bl) (sa_nil)))) (sa_cons (se_tup (sa_cons (se_str) (sa_cons (se_bl) (sa_nil)))) (sa_cons (se_tup (sa_cons (se_str) (sa_cons (se_bl) (sa_nil)))) (sa_cons (se_tup (sa_cons (se_str) (sa_cons (se_bl) (sa_nil)))) (sa_cons (se_tup (sa_cons (se_non) (sa_cons (se_bl) (sa_nil)))) (sa_cons (se_tup (sa_cons (se_tup (sa_cons (se_str) (sa_nil))) (sa_cons (se_bl) (sa_nil)))) (sa_cons (se_tup (sa_cons (se_int) (sa_cons (se_bl) (sa_nil)))) (sa_cons (se_tup (sa_cons (se_str) (sa_cons (se_bl) (sa_nil)))) (sa_cons (se_tup (sa_cons (se_str) (sa_cons (se_bl) (sa_nil)))) (sa_cons (se_tup (sa_cons (se_str) (sa_cons (se_bl) (sa_nil)))) (sa_nil))))))))))))) (pg_tup rfl (pgs_cons (pg_name (i := 5) nd rfl (by first | exact Or.inl rfl | exact Or.inr rfl)) (pgs_cons (pg_name (i := 6) nd rfl (by first | exact Or.inl rfl | exact Or.inr rfl)) (pgs_nil)))) (sss_one (ss_if (sb_cmp (or_ne hr.units) (se_callB (cr_repr hr.gd hr.units) rfl (c.free 26 rfl) boot_repr (sa_cons (se_callP (takes_of rfl rfl rfl rfl) (ok_is_name c) tv_is_name HR2 rfl (c.glo 51 rfl) (kp_is_name c) (bn_is_name c) (sa_cons (se_var (pv 5)) (sa_nil))) (sa_nil))) (se_callB (cr_repr hr.gd hr.units) rfl (c.free 26 rfl) boot_repr (sa_cons (se_var (pv 6)) (sa_nil)))) (sss_one (ss_ret (se_bl))) (sss_nil)))))) <|
      sss_one (ss_ret (se_bl))
end
def ls0 : List PySem.Str := [PySem.Str.ofString "__name__", PySem.Str.ofString "RuleError", PySem.Str.ofString "InvalidSaying", PySem.Str.ofString "anew", PySem.Str.ofString "LETTER", PySem.Str.ofString "TRUE", PySem.Str.ofString "FALSE", PySem.Str.ofString "AND", PySem.Str.ofString "OR", PySem.Str.ofString "IF", PySem.Str.ofString "NO", PySem.Str.ofString "BARRED", PySem.Str.ofString "MOST_SIGNS", PySem.Str.ofString "is_name_in", PySem.Str.ofString "is_saying_in", PySem.Str.ofString "inner", PySem.Str.ofString "count_words", PySem.Str.ofString "not_of", PySem.Str.ofString "once", PySem.Str.ofString "all_in", PySem.Str.ofString "names_in", PySem.Str.ofString "need_saying", PySem.Str.ofString "is_name", PySem.Str.ofString "is_saying", PySem.Str.ofString "words_in", PySem.Str.ofString "letters_of", PySem.Str.ofString "denied", PySem.Str.ofString "_law_source", PySem.Str.ofString "_law_pick", PySem.Str.ofString "_law_inner", PySem.Str.ofString "_law_all", PySem.Str.ofString "_law_not", PySem.Str.ofString "_law_names", PySem.Str.ofString "_law_once", PySem.Str.ofString "_law_parts"]
def ls1 : List PySem.Str := [PySem.Str.ofString "_law_choices", PySem.Str.ofString "_law_saying", PySem.Str.ofString "_law_small", PySem.Str.ofString "_law_near", PySem.Str.ofString "_law_caught"]
def loose : List PySem.Str := ls0 ++ ls1
abbrev Rw : PySem.W.OpenRow := PySem.W.OpenLaw.row PySem.Challenge.rw_rulesadmitted_k01_sayings_names_and_thei
abbrev hk : PySem.W.Hook := Fw.hookZ 4 fa fn ex
def ob (s : PySem.W.SharedT) : He.AlX := Fw.obsZ 4 fa fn ex (HandSHeadRun.getT s)
theorem ob_eq (s : PySem.W.SharedT) : ob s = hk.obs s.abs := Fw.obsZ_eq (HandSHeadRun.getT_eq s)
theorem run1 (w : World) (os : OsState) : (HandSHeadRun.endF (HandSHeadRun.stepQ (HandSHeadRun.denQ HandSHeadRun.tabQ) Rw.prog w) 8000 Rw.prog w os).map (fun s => HandSHeadRun.looksF Rw.prog (PySem.W.boot_heap w.params) s.abs) = some true := by kernel_rfl
theorem run2 (w : World) (os : OsState) : (HandSHeadRun.endF (HandSHeadRun.stepQ (HandSHeadRun.denQ HandSHeadRun.tabQ) Rw.prog w) 8000 Rw.prog w os).map (fun s => HandSHeadRun.seenQ (PySem.W.view Rw.prog [44]) loose (importedModules Rw.prog.main.body) (fun s => PySem.W.xlAt (PySem.W.view Rw.prog [44]) [] s && PySem.W.recOk Rw.toRowW.records s) s.abs) = some (PySem.W.openGood (PySem.W.view Rw.prog [44]) loose) := by kernel_rfl
theorem run3 (w : World) (os : OsState) : (HandSHeadRun.endF (HandSHeadRun.stepQ (HandSHeadRun.denQ HandSHeadRun.tabQ) Rw.prog w) 8000 Rw.prog w os).map (fun s => ob s) = some (hk.val w) := by kernel_rfl
theorem glue3 {σ α β γ : Type} {o : Option σ} {f : σ → α} {g : σ → β} {h : σ → γ} {a : α} {b : β} {c : γ} (ha : o.map f = some a) (hb : o.map g = some b) (hc : o.map h = some c) : o.map (fun s => (f s, g s, h s)) = some (a, b, c) := by
  cases o with
  | none => cases ha
  | some s =>
    cases ha
    cases hb
    cases hc
    rfl
theorem run (w : World) : HandSHeadRun.RunEq Rw (PySem.W.view Rw.prog [44]) hk ob 8000 loose w := fun os => glue3 (run1 w os) (run2 w os) (run3 w os)
theorem facts {w : World} {K : PySem.W.Frag} {h : Heap} {mg : Str → Option Value} {f : Addr} (X : K.In h) (G : h.Ns mainGlobals mg) (hfa : mg ("law" : Str) = some (.ref f)) (c : He.SaysX fa fn [] [] ex w h K) :
    (∀ (s : Shared) (v : Value), BindsTo s (fdW K d_law) ⟨[v], []⟩ [("script", v)]) ∧ ∀ base : Heap, K.In base → base.Ns mainGlobals mg → FnG P w K mg base 46 f (fdW K d_law) ["script"] (SpS K 1 v_law) := by
  have W : ∀ {base : Heap}, K.In base → base.Ns mainGlobals mg → Wd fa fn ex K mg base := fun i n => ⟨c.t.d, c.more, i, n⟩
  have e := hfa.symm.trans ((W X G).glo 52 rfl)
  cases e
  have b := FunD.bindsA (ps := ["script"]) ((W X G).def_ 24 (d := d_law) rfl) fun _ _ _ _ _ _ us hl => match us, hl with | [_], _ => rfl
  exact ⟨fun s v => b s [v] rfl, fun base i n => ok_law (W i n)⟩
end G01
namespace Fw
open PySem PySem.Spec PyProof.Rows L2
/-! ### what comes out: no error -/
def W0 {α : Type} (m : R α) (Q : α → Store → Prop) : Prop := match m with
  | .ok a S => Q a S
  | _ => False
structure W {α : Type} (m : R α) (Q : α → Store → Prop) : Prop where
  w : W0 m Q
section
variable {α β : Type} {m : R α} {Q Q' : α → Store → Prop} {S : Store}
theorem W.imp (h : W m Q) (i : ∀ a S, Q a S → Q' a S) : W m Q' := by
  cases m with
  | ok a S => exact ⟨i a S h.w⟩
  | _ => exact h.w.elim
@[simp] theorem W_ok {a : α} : W (.ok a S) Q = Q a S := propext ⟨fun h => h.w, fun h => ⟨h⟩⟩
@[simp] theorem W_bad : W (.bad : R α) Q = False := propext ⟨fun h => h.w, fun h => ⟨h⟩⟩
@[simp] theorem W_ex {c : Str} {x : PyData} : W (.ex c x S : R α) Q = False := propext ⟨fun h => h.w, fun h => ⟨h⟩⟩
@[simp] theorem W_bind {k : α → Store → R β} {Q2 : β → Store → Prop} : W (m.bind k) Q2 = W m fun a S => W (k a S) Q2 := by
  cases m with
  | ok a S =>
    rw [W_ok]
    rfl
  | _ => exact propext ⟨fun h => h.w.elim, fun h => h.w.elim⟩
theorem W.run (h : W m Q) : ∃ a S, m = .ok a S ∧ Q a S := by
  cases m with
  | ok a S => exact ⟨a, S, rfl, h.w⟩
  | _ => exact h.w.elim
theorem W.of {a : α} (e : m = .ok a S) (h : Q a S) : W m Q := by
  rw [e]
  exact ⟨h⟩
theorem W.to {a : α} (h : W m fun b T => b = a ∧ T = S) : m = .ok a S := by
  cases m with
  | ok b T =>
    obtain ⟨rfl, rfl⟩ := h.w
    rfl
  | _ => exact h.w.elim
end
/-- a statement: on, returned, broken off, continued -/
def V0 (m : R (Fl × Env)) (n : Env → Store → Prop) (r : Val → Store → Prop) (b c : Env → Store → Prop) : Prop := match m with
  | .ok (.nx, env) S => n env S
  | .ok (.rt v, _) S => r v S
  | .ok (.bk, env) S => b env S
  | .ok (.ct, env) S => c env S
  | _ => False
structure V (m : R (Fl × Env)) (n : Env → Store → Prop) (r : Val → Store → Prop) (b c : Env → Store → Prop) : Prop where
  v : V0 m n r b c
abbrev no : Env → Store → Prop := fun _ _ => False
/-- an answer of a value-level operation -/
def Wl0 {α : Type} (o : Option (α × Store)) (Q : α → Store → Prop) : Prop := match o with
  | some (a, S) => Q a S
  | none => False
structure Wl {α : Type} (o : Option (α × Store)) (Q : α → Store → Prop) : Prop where
  w : Wl0 o Q
@[simp] theorem Wl_some {α : Type} {a : α} {S : Store} {Q : α → Store → Prop} : Wl (some (a, S)) Q = Q a S := propext ⟨fun h => h.w, fun h => ⟨h⟩⟩
@[simp] theorem Wl_none {α : Type} {Q : α → Store → Prop} : Wl none Q = False := propext ⟨fun h => h.w, fun h => ⟨h⟩⟩
@[simp] theorem W_lift {α : Type} {o : Option (α × Store)} {Q : α → Store → Prop} : W (lift o) Q = Wl o Q := by
  cases o with
  | none => exact W_bad.trans Wl_none.symm
  | some p => exact W_ok.trans (Wl_some (Q := Q)).symm
def Wp0 {α : Type} (o : Option α) (Q : α → Prop) : Prop := match o with
  | some a => Q a
  | none => False
structure Wp {α : Type} (o : Option α) (Q : α → Prop) : Prop where
  w : Wp0 o Q
@[simp] theorem Wp_some {α : Type} {a : α} {Q : α → Prop} : Wp (some a) Q = Q a := propext ⟨fun h => h.w, fun h => ⟨h⟩⟩
@[simp] theorem Wp_none {α : Type} {Q : α → Prop} : Wp none Q = False := propext ⟨fun h => h.w, fun h => ⟨h⟩⟩
section
variable {n : Env → Store → Prop} {r : Val → Store → Prop} {b c : Env → Store → Prop} {env : Env} {S : Store} {f g : SF} {e : EF} {p : BF} {af : AF} {it : IF} {t : Tg}
theorem V.imp {m : R (Fl × Env)} {n' : Env → Store → Prop} {r' : Val → Store → Prop} {b' c' : Env → Store → Prop} (h : V m n r b c) (hn : ∀ e S, n e S → n' e S) (hr : ∀ e S, r e S → r' e S) (hb : ∀ e S, b e S → b' e S) (hc : ∀ e S, c e S → c' e S) : V m n' r' b' c' := by
  match m, h with
  | .ok (.nx, env) S, h => exact ⟨hn env S h.v⟩
  | .ok (.rt v, _) S, h => exact ⟨hr v S h.v⟩
  | .ok (.bk, env) S, h => exact ⟨hb env S h.v⟩
  | .ok (.ct, env) S, h => exact ⟨hc env S h.v⟩
  | .ok (.rs _ _, _) _, h => exact h.v.elim
  | .ex _ _ _, h => exact h.v.elim
  | .bad, h => exact h.v.elim
theorem V_nx : V (.ok (.nx, env) S) n r b c = n env S := propext ⟨fun h => h.v, fun h => ⟨h⟩⟩
theorem V_rt {v : Val} : V (.ok (.rt v, env) S) n r b c = r v S := propext ⟨fun h => h.v, fun h => ⟨h⟩⟩
theorem V_bk : V (.ok (.bk, env) S) n r b c = b env S := propext ⟨fun h => h.v, fun h => ⟨h⟩⟩
theorem V_ct : V (.ok (.ct, env) S) n r b c = c env S := propext ⟨fun h => h.v, fun h => ⟨h⟩⟩
theorem V_rs {k : Str} {x : PyData} : V (.ok (.rs k x, env) S) n r b c = False := propext ⟨fun h => h.v, fun h => ⟨h⟩⟩
theorem V_xx {k : Str} {x : PyData} : V (.ex k x S) n r b c = False := propext ⟨fun h => h.v, fun h => ⟨h⟩⟩
theorem V_bb : V .bad n r b c = False := propext ⟨fun h => h.v, fun h => ⟨h⟩⟩
@[simp] theorem V_sB {α : Type} {m : R α} {k : α → Store → R (Fl × Env)} : V (sB m env k) n r b c = W m fun a S => V (k a S) n r b c := by
  cases m with
  | ok a S =>
    rw [W_ok]
    rfl
  | ex k x S => exact V_rs.trans W_ex.symm
  | bad => exact V_bb.trans W_bad.symm
@[simp] theorem V_sThen {m : R (Fl × Env)} {k : Env → Store → R (Fl × Env)} : V (sThen m k) n r b c = V m (fun env S => V (k env S) n r b c) r b c := by
  match m with
  | .ok (.nx, _) _ => exact (V_nx (n := fun env S => V (k env S) n r b c)).symm
  | .ok (.bk, _) _ => exact V_bk.trans V_bk.symm
  | .ok (.ct, _) _ => exact V_ct.trans V_ct.symm
  | .ok (.rt _, _) _ => exact V_rt.trans V_rt.symm
  | .ok (.rs _ _, _) _ => exact V_rs.trans V_rs.symm
  | .ex _ _ _ => exact V_xx.trans V_xx.symm
  | .bad => exact V_bb.trans V_bb.symm
@[simp] theorem V_sLoop {m : R (Fl × Env)} {k : Env → Store → R (Fl × Env)} : V (sLoop m k) n r b c = V m (fun env S => V (k env S) n r b c) r n (fun env S => V (k env S) n r b c) := by
  match m with
  | .ok (.nx, _) _ => exact (V_nx (n := fun env S => V (k env S) n r b c)).symm
  | .ok (.bk, _) _ => exact V_nx.trans V_bk.symm
  | .ok (.ct, _) _ => exact (V_ct (c := fun env S => V (k env S) n r b c)).symm
  | .ok (.rt _, _) _ => exact V_rt.trans V_rt.symm
  | .ok (.rs _ _, _) _ => exact V_rs.trans V_rs.symm
  | .ex _ _ _ => exact V_xx.trans V_xx.symm
  | .bad => exact V_bb.trans V_bb.symm
theorem V_seq : V (sSeq f g env S) n r b c = V (f env S) (fun env S => V (g env S) n r b c) r b c := V_sThen
/-- one statement, the rest unseen -/
theorem V_one (k : ∀ G : Env → Store → Prop, (∀ e T, V (g e T) n r b c → G e T) → V (f env S) G r b c) : V (sSeq f g env S) n r b c := by
  rw [V_seq]
  exact k _ fun _ _ h => h
@[simp] theorem V_skip : V (sSkip env S) n r b c = n env S := V_nx
@[simp] theorem V_bad : V (sBad env S) n r b c = False := V_bb
@[simp] theorem V_brk : V (sBrk env S) n r b c = b env S := V_bk
@[simp] theorem V_cont : V (sCont env S) n r b c = c env S := V_ct
@[simp] theorem V_retN : V (sRetN env S) n r b c = r (.d .none) S := V_rt
@[simp] theorem V_ret : V (sRet e env S) n r b c = W (e env S) r := by
  refine V_sB.trans ?_
  congr
  funext v S
  exact V_rt
@[simp] theorem V_expr : V (sExpr e env S) n r b c = W (e env S) fun _ S => n env S := by
  refine V_sB.trans ?_
  congr
  funext v S
  exact V_nx
@[simp] theorem V_set {i : Nat} : V (sSet i e env S) n r b c = W (e env S) fun v S => n (env.set i (some v)) S := by
  refine V_sB.trans ?_
  congr
  funext v S
  exact V_nx
@[simp] theorem V_if : V (sIf p f g env S) n r b c = W (p env S) fun k S => (k = true → V (f env S) n r b c) ∧ (k = false → V (g env S) n r b c) := by
  refine V_sB.trans ?_
  congr
  funext k S
  cases k <;> simp
@[simp] theorem V_par {is : List Nat} : V (sPar is af env S) n r b c = W (af env S) fun vs S => Wp (gVs is vs env) fun env' => n env' S := by
  refine V_sB.trans ?_
  congr
  funext vs S
  cases gVs is vs env with
  | none =>
    rw [Wp_none]
    exact V_bb
  | some e =>
    rw [Wp_some]
    exact V_nx
@[simp] theorem V_asg {q : GF} : V (sAsg e q env S) n r b c = W (e env S) fun v S => W (q v env S) n := by
  refine V_sB.trans ?_
  congr
  funext v S
  cases q v env S with
  | ok e S => exact V_nx.trans W_ok.symm
  | ex k x S => exact V_bb.trans W_ex.symm
  | bad => exact V_bb.trans W_bad.symm
@[simp] theorem V_for : V (sFor it t f env S) n r b c = W (it env S) fun xs S => V (forGo t f xs env S) n r b c := V_sB
@[simp] theorem V_for0 : V (forGo t f [] env S) n r b c = n env S := V_nx
theorem V_for1 {x : PyData} {xs : List PyData} : V (forGo t f (x :: xs) env S) n r b c = Wp (t.go x env) fun env1 => V (f env1 S) (fun env S => V (forGo t f xs env S) n r b c) r n (fun env S => V (forGo t f xs env S) n r b c) := by
  have e : forGo t f (x :: xs) env S = match t.go x env with
    | some env1 => sLoop (f env1 S) (forGo t f xs)
    | none => .bad := rfl
  rw [e]
  cases t.go x env with
  | none =>
    rw [Wp_none]
    exact V_bb
  | some env1 =>
    rw [Wp_some]
    exact V_sLoop
/-- a loop by an invariant on what is left -/
theorem V_forI {xs : List PyData} (I : List PyData → Env → Store → Prop) (h0 : I xs env S) (hn : ∀ env S, I [] env S → n env S)
    (hs : ∀ x xs env S, I (x :: xs) env S → ∃ env1, t.go x env = some env1 ∧ V (f env1 S) (I xs) r n (I xs)) : V (forGo t f xs env S) n r b c := by
  induction xs generalizing env S with
  | nil =>
    rw [V_for0]
    exact hn env S h0
  | cons x xs ih =>
    rw [V_for1]
    obtain ⟨env1, e1, v1⟩ := hs x xs env S h0
    rw [e1, Wp_some]
    exact V.imp v1 (fun e S h => ih h) (fun _ _ h => h) (fun _ _ h => h) fun e S h => ih h
theorem W_outOf {m : R (Fl × Env)} {Q : Val → Store → Prop} : W (outOf m) Q = V m (fun _ S => Q (.d .none) S) Q no no := by
  match m with
  | .ok (.nx, _) _ => exact W_ok.trans (V_nx (n := fun _ S => Q (.d .none) S)).symm
  | .ok (.bk, _) _ => exact W_bad.trans (V_bk (b := no)).symm
  | .ok (.ct, _) _ => exact W_bad.trans (V_ct (c := no)).symm
  | .ok (.rt _, _) _ => exact W_ok.trans V_rt.symm
  | .ok (.rs _ _, _) _ => exact W_ex.trans V_rs.symm
  | .ex _ _ _ => exact W_bad.trans V_xx.symm
  | .bad => exact W_bad.trans V_bb.symm
theorem W_fn {k m : Nat} {vs : List Val} {Q : Val → Store → Prop} (h : vs.length = k) : W (fnV k m f vs S) Q = V (f (vs.map some ++ List.replicate m none) S) (fun _ S => Q (.d .none) S) Q no no := by
  unfold fnV
  rw [decide_eq_true h]
  exact W_outOf
end
section
variable {env : Env} {S : Store} {f g h : EF} {p q : BF} {a : AF} {Q : Val → Store → Prop} {B : Bool → Store → Prop} {L : List Val → Store → Prop} {I : List PyData → Store → Prop} {x y : PyData} {o : O2} {v : Val}
@[simp] theorem W_var {i : Nat} : W (eVar i env S) Q = Wp (env.getD i none) fun v => Q v S := by
  unfold eVar
  rw [List.getD_eq_getElem?_getD]
  cases env[i]? with
  | none => first | (rw [Wp_none]; exact W_bad) | (rw [Wl_none]; exact W_bad) | (rw [Wo_bad]; exact W_bad) | exact W_bad.trans (Wp_none (Q := fun v => Q v S)).symm | exact W_bad.trans (Wp_none (Q := fun i => O (some i) S)).symm | exact W_bad
  | some o =>
    cases o with
    | none => first | (rw [Wp_none]; exact W_bad) | (rw [Wl_none]; exact W_bad) | (rw [Wo_bad]; exact W_bad) | exact W_bad.trans (Wp_none (Q := fun v => Q v S)).symm | exact W_bad.trans (Wp_none (Q := fun i => O (some i) S)).symm | exact W_bad
    | some v => first | (rw [Wp_some]; exact W_ok) | (rw [Wl_some]; exact W_ok) | (rw [Wo_ok]; exact W_ok) | exact W_ok.trans (Wp_some (Q := fun v => Q v S)).symm | exact W_ok.trans (Wp_some (Q := fun i => O (some i) S)).symm | exact W_ok
@[simp] theorem W_c : W (eC x env S) Q = Q (.d x) S := W_ok
@[simp] theorem W_e2 : W (e2 o f g env S) Q = W (f env S) fun u S => W (g env S) fun v S => Wl (o u v S) Q := by
  show W (R.bind _ _) Q = _
  simp only [W_bind, W_lift]
@[simp] theorem W_e1 {o : O1} : W (e1 o f env S) Q = W (f env S) fun u S => Wl (o u S) Q := by
  show W (R.bind _ _) Q = _
  simp only [W_bind, W_lift]
@[simp] theorem W_eA {o : OA} : W (eA o a env S) Q = W (a env S) fun u S => Wl (o u S) Q := by
  show W (R.bind _ _) Q = _
  simp only [W_bind, W_lift]
@[simp] theorem W_nil : W (aNil env S) L = L [] S := W_ok
@[simp] theorem W_cons : W (aCons f a env S) L = W (f env S) fun u S => W (a env S) fun us S => L (u :: us) S := by
  show W (R.bind _ _) L = _
  simp only [W_bind, W_ok]
@[simp] theorem W_if : W (eIf p f g env S) Q = W (p env S) fun k S => (k = true → W (f env S) Q) ∧ (k = false → W (g env S) Q) := by
  refine W_bind.trans ?_
  congr
  funext k S
  cases k <;> simp
@[simp] theorem W_bV : W (bV f env S) B = W (f env S) fun v S => Wp (asB v) fun k => B k S := by
  refine W_bind.trans ?_
  congr
  funext v S
  cases asB v with
  | none => first | (rw [Wp_none]; exact W_bad) | (rw [Wl_none]; exact W_bad) | (rw [Wo_bad]; exact W_bad) | exact W_bad.trans (Wp_none (Q := fun v => Q v S)).symm | exact W_bad.trans (Wp_none (Q := fun i => O (some i) S)).symm | exact W_bad
  | some k => first | (rw [Wp_some]; exact W_ok) | (rw [Wl_some]; exact W_ok) | (rw [Wo_ok]; exact W_ok) | exact W_ok.trans (Wp_some (Q := fun v => Q v S)).symm | exact W_ok.trans (Wp_some (Q := fun i => O (some i) S)).symm | exact W_ok
@[simp] theorem W_bT : W (bT f env S) B = W (f env S) fun v S => Wp (truth v S) fun k => B k S := by
  refine W_bind.trans ?_
  congr
  funext v S
  cases truth v S with
  | none => first | (rw [Wp_none]; exact W_bad) | (rw [Wl_none]; exact W_bad) | (rw [Wo_bad]; exact W_bad) | exact W_bad.trans (Wp_none (Q := fun v => Q v S)).symm | exact W_bad.trans (Wp_none (Q := fun i => O (some i) S)).symm | exact W_bad
  | some k => first | (rw [Wp_some]; exact W_ok) | (rw [Wl_some]; exact W_ok) | (rw [Wo_ok]; exact W_ok) | exact W_ok.trans (Wp_some (Q := fun v => Q v S)).symm | exact W_ok.trans (Wp_some (Q := fun i => O (some i) S)).symm | exact W_ok
@[simp] theorem W_bNot : W (bNot p env S) B = W (p env S) fun k S => B (!k) S := by
  refine W_bind.trans ?_
  congr
  funext k S
  exact W_ok
@[simp] theorem W_bAnd : W (bAnd p q env S) B = W (p env S) fun k S => (k = true → W (q env S) B) ∧ (k = false → B false S) := by
  refine W_bind.trans ?_
  congr
  funext k S
  cases k <;> simp
@[simp] theorem W_bOr : W (bOr p q env S) B = W (p env S) fun k S => (k = true → B true S) ∧ (k = false → W (q env S) B) := by
  refine W_bind.trans ?_
  congr
  funext k S
  cases k <;> simp
@[simp] theorem W_bYes : W (bYes env S) B = B true S := W_ok
@[simp] theorem W_eAnd : W (eAnd f g env S) Q = W (f env S) fun v S => Wp (truth v S) fun k => (k = true → W (g env S) Q) ∧ (k = false → Q v S) := by
  refine W_bind.trans ?_
  congr
  funext v S
  cases truth v S with
  | none => first | (rw [Wp_none]; exact W_bad) | (rw [Wl_none]; exact W_bad) | (rw [Wo_bad]; exact W_bad) | exact W_bad.trans (Wp_none (Q := fun v => Q v S)).symm | exact W_bad.trans (Wp_none (Q := fun i => O (some i) S)).symm | exact W_bad
  | some k => cases k <;> simp
@[simp] theorem W_eOr : W (eOr f g env S) Q = W (f env S) fun v S => Wp (truth v S) fun k => (k = true → Q v S) ∧ (k = false → W (g env S) Q) := by
  refine W_bind.trans ?_
  congr
  funext v S
  cases truth v S with
  | none => first | (rw [Wp_none]; exact W_bad) | (rw [Wl_none]; exact W_bad) | (rw [Wo_bad]; exact W_bad) | exact W_bad.trans (Wp_none (Q := fun v => Q v S)).symm | exact W_bad.trans (Wp_none (Q := fun i => O (some i) S)).symm | exact W_bad
  | some k => cases k <;> simp
@[simp] theorem W_eNot : W (eNot f env S) Q = W (f env S) fun v S => Wp (truth v S) fun k => Q (.d (.bool (!k))) S := by
  refine W_bind.trans ?_
  congr
  funext v S
  cases truth v S with
  | none => first | (rw [Wp_none]; exact W_bad) | (rw [Wl_none]; exact W_bad) | (rw [Wo_bad]; exact W_bad) | exact W_bad.trans (Wp_none (Q := fun v => Q v S)).symm | exact W_bad.trans (Wp_none (Q := fun i => O (some i) S)).symm | exact W_bad
  | some k => first | (rw [Wp_some]; exact W_ok) | (rw [Wl_some]; exact W_ok) | (rw [Wo_ok]; exact W_ok) | exact W_ok.trans (Wp_some (Q := fun v => Q v S)).symm | exact W_ok.trans (Wp_some (Q := fun i => O (some i) S)).symm | exact W_ok
@[simp] theorem W_chain {o' : O2} : W (eChain o o' f g h env S) Q = W (f env S) fun u S => W (g env S) fun v S => Wl (o u v S) fun z S => Wp (asB z) fun k => (k = true → W (h env S) fun y S => Wl (o' v y S) Q) ∧ (k = false → Q (.d (.bool false)) S) := by
  show W (R.bind _ _) Q = _
  simp only [W_bind, W_lift]
  congr
  funext u S
  congr
  funext v S
  congr
  funext z S
  cases asB z with
  | none => first | (rw [Wp_none]; exact W_bad) | (rw [Wl_none]; exact W_bad) | (rw [Wo_bad]; exact W_bad) | exact W_bad.trans (Wp_none (Q := fun v => Q v S)).symm | exact W_bad.trans (Wp_none (Q := fun i => O (some i) S)).symm | exact W_bad
  | some k => cases k <;> simp
@[simp] theorem W_cut {l u : OF} : W (eCut f l u env S) Q = W (f env S) fun v S => W (l env S) fun lo S => W (u env S) fun hi S => Wl (toD v S) fun x S => Wp (pCut lo hi x) fun y => Q (.d y) S := by
  show W (R.bind _ _) Q = _
  simp only [W_bind]
  congr
  funext v S
  congr
  funext lo S
  congr
  funext hi S
  cases toD v S with
  | none => first | (rw [Wp_none]; exact W_bad) | (rw [Wl_none]; exact W_bad) | (rw [Wo_bad]; exact W_bad) | exact W_bad.trans (Wp_none (Q := fun v => Q v S)).symm | exact W_bad.trans (Wp_none (Q := fun i => O (some i) S)).symm | exact W_bad
  | some z =>
    obtain ⟨x, S2⟩ := z
    simp only [Wl_some]
    cases pCut lo hi x with
    | none => first | (rw [Wp_none]; exact W_bad) | (rw [Wl_none]; exact W_bad) | (rw [Wo_bad]; exact W_bad) | exact W_bad.trans (Wp_none (Q := fun v => Q v S)).symm | exact W_bad.trans (Wp_none (Q := fun i => O (some i) S)).symm | exact W_bad
    | some y => first | (rw [Wp_some]; exact W_ok) | (rw [Wl_some]; exact W_ok) | (rw [Wo_ok]; exact W_ok) | exact W_ok.trans (Wp_some (Q := fun v => Q v S)).symm | exact W_ok.trans (Wp_some (Q := fun i => O (some i) S)).symm | exact W_ok
@[simp] theorem W_oNo {O : Option Int → Store → Prop} : W (oNo env S) O = O none S := W_ok
def intOf : Val → Option Int
  | .d (.int i) => some i
  | _ => none
@[simp] theorem intOf_int {i : Int} : intOf (.d (.int i)) = some i := rfl
@[simp] theorem W_oAt {O : Option Int → Store → Prop} : W (oAt f env S) O = W (f env S) fun v S => Wp (intOf v) fun i => O (some i) S := by
  refine W_bind.trans ?_
  congr
  funext v S
  cases v with
  | r i => first | (rw [Wp_none]; exact W_bad) | (rw [Wl_none]; exact W_bad) | (rw [Wo_bad]; exact W_bad) | exact W_bad.trans (Wp_none (Q := fun v => Q v S)).symm | exact W_bad.trans (Wp_none (Q := fun i => O (some i) S)).symm | exact W_bad
  | d x =>
    cases x with
    | int i => first | (rw [Wp_some]; exact W_ok) | (rw [Wl_some]; exact W_ok) | (rw [Wo_ok]; exact W_ok) | exact W_ok.trans (Wp_some (Q := fun v => Q v S)).symm | exact W_ok.trans (Wp_some (Q := fun i => O (some i) S)).symm | exact W_ok
    | _ => first | (rw [Wp_none]; exact W_bad) | (rw [Wl_none]; exact W_bad) | (rw [Wo_bad]; exact W_bad) | exact W_bad.trans (Wp_none (Q := fun v => Q v S)).symm | exact W_bad.trans (Wp_none (Q := fun i => O (some i) S)).symm | exact W_bad
@[simp] theorem W_iSeq : W (iSeq f env S) I = W (f env S) fun v S => Wl (toD v S) fun x S => Wp (itemsD x) fun xs => I xs S := by
  refine W_bind.trans ?_
  congr
  funext v S
  cases toD v S with
  | none => first | (rw [Wp_none]; exact W_bad) | (rw [Wl_none]; exact W_bad) | (rw [Wo_bad]; exact W_bad) | exact W_bad.trans (Wp_none (Q := fun v => Q v S)).symm | exact W_bad.trans (Wp_none (Q := fun i => O (some i) S)).symm | exact W_bad
  | some z =>
    obtain ⟨x, S2⟩ := z
    simp only [Wl_some]
    cases itemsD x with
    | none => first | (rw [Wp_none]; exact W_bad) | (rw [Wl_none]; exact W_bad) | (rw [Wo_bad]; exact W_bad) | exact W_bad.trans (Wp_none (Q := fun v => Q v S)).symm | exact W_bad.trans (Wp_none (Q := fun i => O (some i) S)).symm | exact W_bad
    | some y => first | (rw [Wp_some]; exact W_ok) | (rw [Wl_some]; exact W_ok) | (rw [Wo_ok]; exact W_ok) | exact W_ok.trans (Wp_some (Q := fun v => Q v S)).symm | exact W_ok.trans (Wp_some (Q := fun i => O (some i) S)).symm | exact W_ok
@[simp] theorem W_call {ev : FnV} : W (eCall ev a env S) Q = W (a env S) fun vs S => W (ev vs S) Q := W_bind
def Wo0 (o : Out) (Q : PyData → Prop) : Prop := match o with
  | .ok x => Q x
  | _ => False
structure Wo (o : Out) (Q : PyData → Prop) : Prop where
  w : Wo0 o Q
@[simp] theorem Wo_ok {Q : PyData → Prop} : Wo (.ok x) Q = Q x := propext ⟨fun h => h.w, fun h => ⟨h⟩⟩
@[simp] theorem Wo_ex {k : Str} {Q : PyData → Prop} : Wo (.ex k x) Q = False := propext ⟨fun h => h.w, fun h => ⟨h⟩⟩
@[simp] theorem Wo_bad {Q : PyData → Prop} : Wo .bad Q = False := propext ⟨fun h => h.w, fun h => ⟨h⟩⟩
@[simp] theorem W_liftO {o : Out} : W (liftO o S) Q = Wo o fun x => Q (.d x) S := by
  cases o with
  | ok x => first | (rw [Wp_some]; exact W_ok) | (rw [Wl_some]; exact W_ok) | (rw [Wo_ok]; exact W_ok) | exact W_ok.trans (Wp_some (Q := fun v => Q v S)).symm | exact W_ok.trans (Wp_some (Q := fun i => O (some i) S)).symm | exact W_ok
  | ex k x => first | (rw [Wo_ex]; exact W_ex) | exact W_ex
  | bad => first | (rw [Wp_none]; exact W_bad) | (rw [Wl_none]; exact W_bad) | (rw [Wo_bad]; exact W_bad) | exact W_bad.trans (Wp_none (Q := fun v => Q v S)).symm | exact W_bad.trans (Wp_none (Q := fun i => O (some i) S)).symm | exact W_bad
@[simp] theorem W_eP {F : List PyData → Out} : W (eP F a env S) Q = W (a env S) fun vs S => Wl (toDs vs S) fun xs S => Wo (F xs) fun x => Q (.d x) S := by
  refine W_bind.trans ?_
  congr
  funext vs S
  cases toDs vs S with
  | none => first | (rw [Wp_none]; exact W_bad) | (rw [Wl_none]; exact W_bad) | (rw [Wo_bad]; exact W_bad) | exact W_bad.trans (Wp_none (Q := fun v => Q v S)).symm | exact W_bad.trans (Wp_none (Q := fun i => O (some i) S)).symm | exact W_bad
  | some z =>
    obtain ⟨xs, S2⟩ := z
    rw [Wl_some]
    exact W_liftO
@[simp] theorem W_lc {m : Bool} {vs : List Nat} {it : IF} {t : Tg} : W (eLc m vs it t p f env S) Q = W (it env S) fun xs S => W (lcGo t p f (wipeE env vs) xs S []) fun acc S => W (lcFin m (.ok acc S)) Q := by
  refine W_bind.trans ?_
  congr
  funext xs S
  cases lcGo t p f (wipeE env vs) xs S [] with
  | ok a S => exact (W_ok (Q := fun acc S => W (lcFin m (.ok acc S)) Q)).symm
  | ex k x S => exact W_bad.trans W_ex.symm
  | bad => exact W_bad.trans W_bad.symm
end
@[simp] theorem W_gSubs {fo fi : EF} {v : Val} {env : Env} {S : Store} {n : Env → Store → Prop} : W (gSubs fo fi v env S) n = W (fo env S) fun o S => W (fi env S) fun y S => ∃ i c c', o = .r i ∧ S[i]? = some c ∧ putAt c y v = some c' ∧ n env (S.set i c') := by
  show W (R.bind _ _) n = _
  simp only [W_bind]
  congr
  funext o S
  congr
  funext y S
  cases o with
  | d x =>
    simp only [W_bad]
    exact (eq_false (by rintro ⟨_, _, _, h, _⟩; cases h)).symm
  | r i =>
    simp only
    cases hc : S[i]? with
    | none =>
      simp only [W_bad]
      exact (eq_false (by rintro ⟨j, _, _, h, h2, _⟩; cases h; rw [hc] at h2; cases h2)).symm
    | some c =>
      simp only
      cases hp : putAt c y v with
      | none =>
        simp only [W_bad]
        exact (eq_false (by rintro ⟨j, _, _, h, h2, h3, _⟩; cases h; rw [hc] at h2; cases h2; rw [hp] at h3; cases h3)).symm
      | some c' =>
        simp only [W_ok]
        refine propext ⟨fun h => ⟨i, c, c', rfl, hc, hp, h⟩, ?_⟩
        rintro ⟨j, _, _, h, h2, h3, h4⟩
        cases h
        rw [hc] at h2
        cases h2
        rw [hp] at h3
        cases h3
        exact h4
/-! ### the pieces on data -/
section
variable {S : Store} {i : Nat} {j : Int} {xs : List PyData} {vs : List Val} {x y : PyData}
theorem oSub_cell (h : S[i]? = some (.lst vs)) : oSub (.r i) (.d (.int j)) S = (atI vs j).map fun v => (v, S) := by
  unfold oSub dictOf
  simp only [h]
  unfold oIx seqOf
  simp only [h]
@[simp] theorem oSub_tup : oSub (.d (.tuple xs)) (.d (.int j)) S = (atI (xs.map Val.d) j).map fun v => (v, S) := rfl
@[simp] theorem oSub_lst : oSub (.d (.list xs)) (.d (.int j)) S = (atI (xs.map Val.d) j).map fun v => (v, S) := rfl
theorem atI_nat {α : Type} {xs : List α} {n : Nat} {a : α} (h : xs[n]? = some a) : atI xs (n : Int) = some a := by
  have hl := (List.getElem?_eq_some_iff.mp h).1
  unfold atI ixN
  rw [if_pos (by omega), if_pos (by omega)]
  exact h
theorem atI_at {α : Type} {xs : List α} {j : Int} {a : α} (h0 : 0 ≤ j) (h : xs[j.toNat]? = some a) : atI xs j = some a := by
  have e := atI_nat h
  rwa [Int.toNat_of_nonneg h0] at e
@[simp] theorem len_tup : oLen [.d (.tuple xs)] S = some (.d (.int xs.length), S) := by
  unfold oLen lenOf seqOf
  simp
@[simp] theorem len_lst : oLen [.d (.list xs)] S = some (.d (.int xs.length), S) := by
  unfold oLen lenOf seqOf
  simp
theorem len_cell (h : S[i]? = some (.lst vs)) : oLen [.r i] S = some (.d (.int vs.length), S) := by
  unfold oLen lenOf seqOf
  simp [h]
end
section
variable {x y : PyData} {S : Store} {p : P2}
@[simp] theorem toD_d : toD (.d x) S = some (x, S) := rfl
@[simp] theorem oP_d : oP p (.d x) (.d y) S = (p x y).map fun z => (.d z, S) := by
  show (match p x y with | some z => some (Val.d z, S) | none => none) = _
  cases p x y <;> rfl
@[simp] theorem asB_b {b : Bool} : asB (.d (.bool b)) = some b := rfl
@[simp] theorem toDs_nil : toDs [] S = some ([], S) := rfl
theorem toDs_cons {v : Val} {vs : List Val} {xs : List PyData} (h : toDs vs S = some (xs, S)) : toDs (.d x :: vs) S = some (x :: xs, S) := by
  unfold toDs
  simp only [toD_d, h]
@[simp] theorem toDs_d {vs : List Val} : toDs (.d x :: vs) S = (toDs vs S).map fun q => (x :: q.1, q.2) := by
  show (match toDs vs S with | some (xs, S2) => some (x :: xs, S2) | none => none) = _
  cases toDs vs S <;> rfl
theorem toDs_map {xs : List PyData} : toDs (xs.map .d) S = some (xs, S) := by
  induction xs with
  | nil => rfl
  | cons x xs ih => exact toDs_cons (v := .d x) ih
end
/-- a function of data from its run -/
theorem pureF_of {ev : FnV} {xs : List PyData} {x : PyData} (h : W (ev (xs.map .d) []) fun v S => ∃ S', toD v S = some (x, S')) : pureF ev xs = .ok x := by
  unfold pureF
  obtain ⟨v, S, e, S', h⟩ := h.run
  rw [e]
  show (match toD v S with | some (x, _) => Out.ok x | none => .bad) = _
  rw [h]
/-! ### in, of texts -/
theorem strs_shape : ∀ {xs : List PyData} {ks : List Str}, strs? xs = some ks → xs = ks.map .str
  | [], _, h => by
    cases h
    rfl
  | x :: xs, ks, h => by
    cases x with
    | str z =>
      unfold strs? at h
      split at h
      · next l e =>
        cases h
        rw [strs_shape e]
        rfl
      · cases h
    | _ => cases h
theorem flat_strs (ks : List Str) : (ks.map PyData.str).all flatD = true := by
  induction ks with
  | nil => rfl
  | cons k ks ih =>
    rw [List.map_cons, List.all_cons, ih]
    rfl
theorem inV_strs (w : Str) : ∀ ks : List Str, inV (V.str w) ((ks.map PyData.str).map vOf) = decide (w ∈ ks)
  | [] => rfl
  | k :: ks => by
    have ih := inV_strs w ks
    unfold inV at ih ⊢
    rw [List.map_cons, List.map_cons, List.any_cons, ih]
    by_cases h : w = k
    · subst h
      simp [vOf, eqV]
    · have h2 : k ≠ w := fun z => h z.symm
      simp [vOf, eqV, h, h2]
theorem pureAll_map : ∀ xs : List PyData, pureAll (xs.map .d) = some xs
  | [] => rfl
  | x :: xs => by
    rw [List.map_cons]
    unfold pureAll
    rw [pureAll_map xs]
theorem dIn_strs (w : Str) (ks : List Str) : dIn (.str w) (ks.map .str) = some (decide (w ∈ ks)) := by
  unfold dIn
  rw [flat_strs]
  simp only [flatD, Bool.and_self]
  rw [show vOf (.str w) = V.str w from rfl, inV_strs]
theorem in_tup {w : Str} {xs : List PyData} {ks : List Str} {S : Store} (h : strs? xs = some ks) : oInD false (.d (.str w)) (.d (.tuple xs)) S = some (.d (.bool (decide (w ∈ ks))), S) := by
  rw [strs_shape h]
  unfold oInD dictOf
  simp only
  unfold oIn seqOf
  simp only [pureAll_map, dIn_strs]
  rfl
theorem nin_tup {w : Str} {xs : List PyData} {ks : List Str} {S : Store} (h : strs? xs = some ks) : oInD true (.d (.str w)) (.d (.tuple xs)) S = some (.d (.bool !(decide (w ∈ ks))), S) := by
  rw [strs_shape h]
  unfold oInD dictOf
  simp only
  unfold oIn seqOf
  simp only [pureAll_map, dIn_strs]
  rfl
theorem strs_map (ks : List Str) : strs? (ks.map .str) = some ks := by
  induction ks with
  | nil => rfl
  | cons k ks ih =>
    rw [List.map_cons]
    unfold strs?
    rw [ih]
/-! ### comprehensions, walks -/
section
variable {t : Tg} {p : BF} {f : EF} {env : Env} {S : Store} {a : AF} {I : List PyData → Store → Prop}
theorem lc_run (g : PyData → PyData) (q : PyData → Bool) : ∀ (xs : List PyData) (acc : List Val), (∀ x ∈ xs, ∃ e, t.go x env = some e ∧ W (p e S) (fun b T => b = q x ∧ T = S) ∧ (q x = true → W (f e S) fun v T => v = .d (g x) ∧ T = S)) → acc.length + xs.length ≤ 100000 →
    lcGo t p f env xs S acc = .ok (acc ++ (((xs.filter q).map g).map Val.d)) S
  | [], acc, _, _ => by
    rw [List.filter_nil, List.map_nil, List.map_nil, List.append_nil]
    rfl
  | x :: xs, acc, h, hl => by
    obtain ⟨e, e1, h1, h2⟩ := h x List.mem_cons_self
    have h1 := h1.to
    have ih := lc_run g q xs
    have h' := fun y hy => h y (List.mem_cons_of_mem _ hy)
    rw [List.length_cons] at hl
    unfold lcGo
    rw [e1]
    simp only [h1, R.bind]
    cases hq : q x with
    | false =>
      simp only
      rw [ih acc h' (by omega), List.filter_cons_of_neg (by rw [hq]; exact Bool.false_ne_true)]
    | true =>
      have h3 := (h2 hq).to
      simp only [h3]
      rw [decide_eq_true (by omega : acc.length < 100000)]
      simp only
      rw [ih (acc ++ [Val.d (g x)]) h' (by rw [List.length_append, List.length_singleton]; omega), List.filter_cons_of_pos hq, List.map_cons, List.map_cons, List.append_assoc]
      rfl
theorem W_lcPure {Q : Val → Store → Prop} {xs : List PyData} (g : PyData → PyData) (q : PyData → Bool) (h : ∀ x ∈ xs, ∃ e, t.go x env = some e ∧ W (p e S) (fun b T => b = q x ∧ T = S) ∧ (q x = true → W (f e S) fun v T => v = .d (g x) ∧ T = S)) (hl : xs.length ≤ 100000)
    (k : Q (.d (.list ((xs.filter q).map g))) S) : W (lcGo t p f env xs S []) fun acc S => W (lcFin false (.ok acc S)) Q := by
  rw [lc_run g q xs [] h (by simpa using hl), W_ok, List.nil_append]
  have e : lcFin false (.ok (((xs.filter q).map g).map Val.d) S) = .ok (.d (.list ((xs.filter q).map g))) S := by
    unfold lcFin
    simp only [toDs_map]
  rw [e, W_ok]
  exact k
theorem W_lcAll {Q : Val → Store → Prop} {xs : List PyData} (g : PyData → PyData) (h : ∀ x ∈ xs, ∃ e, t.go x env = some e ∧ W (f e S) fun v T => v = .d (g x) ∧ T = S) (hl : xs.length ≤ 100000) (k : Q (.d (.list (xs.map g))) S) :
    W (lcGo t bYes f env xs S []) fun acc S => W (lcFin false (.ok acc S)) Q := by
  refine W_lcPure g (fun _ => true) (fun x hx => ?_) hl ?_
  · obtain ⟨e, e1, h1⟩ := h x hx
    exact ⟨e, e1, by rw [W_bYes]; exact ⟨rfl, rfl⟩, fun _ => h1⟩
  · rw [List.filter_eq_self.mpr fun _ _ => rfl]
    exact k
theorem W_rangeD {i j : Int} (h : W (a env S) fun vs T => vs = [.d (.int i), .d (.int j), .d (.int (-1))] ∧ T = S) (hi : okR i = true) (hj : okR j = true) (k : I (steps i (-1) (i - j).toNat) S) : W (iRangeD a env S) I := by
  unfold iRangeD
  rw [W_bind]
  refine h.imp ?_
  rintro vs T ⟨rfl, rfl⟩
  simp [hi, hj]
  exact k
theorem W_range1 {j : Int} (h : W (a env S) fun vs T => vs = [.d (.int j)] ∧ T = S) (hj : okR j = true) (k : I (steps 0 1 j.toNat) S) : W (iRange1 a env S) I := by
  unfold iRange1
  rw [W_bind]
  refine h.imp ?_
  rintro vs T ⟨rfl, rfl⟩
  simp only [hj, W_ok]
  exact k
theorem W_zipL {xs ys : List PyData} (h : W (a env S) fun vs T => vs = [.d (.list xs), .d (.list ys)] ∧ T = S) (k : I (pairs xs ys) S) : W (iZip' a env S) I := by
  unfold iZip'
  rw [W_bind]
  refine h.imp ?_
  rintro vs T ⟨rfl, rfl⟩
  simp only [toDs_d, toDs_nil, Option.map_some, W_ok]
  exact k
theorem W_zipT {xs ys : List PyData} (h : W (a env S) fun vs T => vs = [.d (.tuple xs), .d (.tuple ys)] ∧ T = S) (k : I (pairs xs ys) S) : W (iZip' a env S) I := by
  unfold iZip'
  rw [W_bind]
  refine h.imp ?_
  rintro vs T ⟨rfl, rfl⟩
  simp only [toDs_d, toDs_nil, Option.map_some, W_ok]
  exact k
theorem okR_of {i : Int} (h0 : -1000000 ≤ i) (h1 : i ≤ 1000000) : okR i = true := decide_eq_true ⟨by omega, by omega⟩
/-- s, s - 1, .., 1 -/
def downs : Nat → List PyData
  | 0 => []
  | s + 1 => .int ((s + 1 : Nat) : Int) :: downs s
theorem steps_down : ∀ s : Nat, steps (s : Int) (-1) s = downs s
  | 0 => rfl
  | s + 1 => by
    have ih := steps_down s
    unfold steps at ih ⊢
    rw [List.range_succ_eq_map, List.map_cons, List.map_map]
    unfold downs
    rw [← ih]
    congr 1
    simp
    intro a _
    omega
end
/-! ### methods of frozen instances -/
theorem W_mthP {c m : Str} {pf : List PyData → Out} {fo : EF} {g : AF} {env : Env} {S : Store} {Q : Val → Store → Prop} {x : PyData} {fs : List (Str × Val)} (h : W (fo env S) fun v T => v = .d x ∧ T = S) (hi : insOf c (.d x) S = some fs) (hm : getFV m fs = none)
    (k : W (g env S) fun vs S3 => Wl (toDs vs S3) fun xs S4 => Wo (pf (x :: xs)) fun y => Q (.d y) S4) : W (eMthP c m pf fo g env S) Q := by
  unfold eMthP
  rw [W_bind]
  refine h.imp ?_
  rintro v T ⟨rfl, rfl⟩
  simp only [hi, hm, toD_d, W_bind]
  refine k.imp ?_
  intro vs S3 h3
  cases hd : toDs vs S3 with
  | none =>
    rw [hd, Wl_none] at h3
    exact h3.elim
  | some p =>
    obtain ⟨xs, S4⟩ := p
    rw [hd, Wl_some] at h3
    simp only
    rw [W_liftO]
    exact h3
/-! ### how big numbers are -/
def bd (n : Nat) (i : Int) : Prop := i.natAbs < 2 ^ n
theorem bd_mul {n m : Nat} {i j : Int} (h : bd n i) (h' : bd m j) : bd (n + m) (i * j) := by
  unfold bd at *
  rw [Int.natAbs_mul, Nat.pow_add]
  exact Nat.mul_lt_mul'' h h'
theorem bd_add {n : Nat} {i j : Int} (h : bd n i) (h' : bd n j) : bd (n + 1) (i + j) := by
  unfold bd at *
  have := Int.natAbs_add_le i j
  rw [Nat.pow_succ]
  omega
theorem bd_le {n m : Nat} {i : Int} (h : bd n i) (hl : n ≤ m) : bd m i := Nat.lt_of_lt_of_le h (Nat.pow_le_pow_right (by decide) hl)
theorem bd_of {n : Nat} {i : Int} (h0 : 0 ≤ i) (h : i < 2 ^ n) : bd n i := by
  unfold bd
  have e : ((i.natAbs : Nat) : Int) = i := Int.natAbs_of_nonneg h0
  have h2 : ((i.natAbs : Nat) : Int) < ((2 ^ n : Nat) : Int) := by
    rw [e]
    push_cast
    exact h
  exact Int.ofNat_lt.mp h2
theorem pMul_ok {i j : Int} (h : bd 10000 i) (h' : bd 10000 j) : pMul (.int i) (.int j) = some (.int (i * j)) := by
  have h1 := (PySem.intBits_le_iff (m := 10000) (x := i)).mpr h
  have h2 := (PySem.intBits_le_iff (m := 10000) (x := j)).mpr h'
  show when _ _ = _
  rw [decide_eq_true (by unfold bitsI; omega)]
  rfl
theorem pMul_short {i j : Int} (h : bd 64 j) : pMul (.int i) (.int j) = some (.int (i * j)) := by
  have h2 := (PySem.intBits_le_iff (m := 64) (x := j)).mpr h
  show when _ _ = _
  rw [decide_eq_true (by unfold bitsI; omega)]
  rfl
theorem pFdiv_ok {i j : Int} (h : 0 < j) (h' : bd 8999 j) : pFdiv (.int i) (.int j) = some (.int (i / j)) := by
  show when _ _ = _
  have h2 : j.natAbs.log2 < 9000 := by
    have h3 : j.natAbs < 2 ^ 8999 := h'
    have h4 : j.natAbs ≠ 0 := by omega
    have h5 := (Nat.log2_lt h4).mpr h3
    omega
  rw [decide_eq_true ⟨h, h2⟩]
  rfl
theorem pMod_ok {i j : Int} (h : 0 < j) : pMod (.int i) (.int j) = some (.int (i % j)) := by
  show when _ _ = _
  rw [decide_eq_true h]
  rfl
@[simp] theorem pAdd_int {i j : Int} : pAdd (.int i) (.int j) = some (.int (i + j)) := rfl
@[simp] theorem pSub_int {i j : Int} : pSub (.int i) (.int j) = some (.int (i - j)) := rfl
@[simp] theorem pLt_int {i j : Int} : pLt (.int i) (.int j) = some (.bool (decide (i < j))) := rfl
@[simp] theorem pLe_int {i j : Int} : pLe (.int i) (.int j) = some (.bool (decide (i ≤ j))) := rfl
@[simp] theorem pGt_int {i j : Int} : pGt (.int i) (.int j) = some (.bool (decide (j < i))) := rfl
@[simp] theorem pGe_int {i j : Int} : pGe (.int i) (.int j) = some (.bool (decide (j ≤ i))) := rfl
@[simp] theorem pEq_int {i j : Int} : pEq (.int i) (.int j) = some (.bool (decide (i = j))) := rfl
@[simp] theorem pNe_int {i j : Int} : pNe (.int i) (.int j) = some (.bool !(decide (i = j))) := rfl
@[simp] theorem pEq_str {i j : Str} : pEq (.str i) (.str j) = some (.bool (decide (i = j))) := rfl
@[simp] theorem pNe_str {i j : Str} : pNe (.str i) (.str j) = some (.bool !(decide (i = j))) := rfl
@[simp] theorem oInt_int {i : Int} {S : Store} : oInt [.d (.int i)] S = some (.d (.int i), S) := rfl
@[simp] theorem oNeg_int {i : Int} {S : Store} : oNeg (.d (.int i)) S = some (.d (.int (-i)), S) := rfl
theorem pTen : pPow (.int 10) (.int 18) = some (.int 1000000000000000000) := by kernel_rfl
end Fw
namespace Fw
open PySem PySem.Spec PyProof.Rows L2
/-! ### how long a thing is, written -/
def smallI (i : Int) : Bool := decide (-1 ≤ i ∧ i < 1000)
mutual
/-- no dict, small numbers, real signs -/
def small : PyData → Bool
  | .none => true
  | .bool _ => true
  | .int i => smallI i
  | .str x => PyData.strOk x
  | .list xs => smallL xs
  | .tuple xs => smallL xs
  | .dict _ => false
def smallL : List PyData → Bool
  | [] => true
  | x :: xs => small x && smallL xs
end
mutual
def shB : PyData → Nat
  | .none => 4
  | .bool _ => 5
  | .int _ => 4
  | .str x => 10 * x.length + 2
  | .list xs => shBL xs + 4
  | .tuple xs => shBL xs + 4
  | .dict _ => 0
def shBL : List PyData → Nat
  | [] => 0
  | x :: xs => shB x + 2 + shBL xs
end
theorem int_len : ∀ n : Fin 1000, ((toString ((n.val : Nat) : Int) : String) : Str).length ≤ 4 := by decide +kernel
theorem smallI_len {i : Int} (h : smallI i = true) : ((toString i : String) : Str).length ≤ 4 := by
  obtain ⟨h0, h1⟩ := of_decide_eq_true h
  by_cases e : i = -1
  · subst e
    decide +kernel
  · obtain ⟨n, rfl⟩ : ∃ n : Nat, i = n := ⟨i.toNat, by omega⟩
    exact int_len ⟨n, by omega⟩
theorem smallI_log {i : Int} (h : smallI i = true) : i.natAbs.log2 < 1920 := by
  obtain ⟨h0, h1⟩ := of_decide_eq_true h
  by_cases e : i.natAbs = 0
  · rw [e]
    decide
  · refine (Nat.log2_lt e).mpr (Nat.lt_of_lt_of_le (show i.natAbs < 2 ^ 10 by omega) (Nat.pow_le_pow_right (by decide) (by decide)))
theorem strOk_lt {x : Str} (h : PyData.strOk x = true) : ∀ c ∈ x.cps.toList, c < 16 ^ 8 := fun c hc => by
  unfold PyData.strOk at h
  rw [Array.all_eq_true'] at h
  have := of_decide_eq_true (h c (Array.mem_toList_iff.mp hc))
  exact Nat.lt_trans this (by decide)
theorem list_len (ts : List Str) : (listText ts).length ≤ piled ts + 4 := by
  rw [listText_eq_join, strLen_append, strLen_append]
  have e1 : ((("[" : String) : Str)).length = 1 := rfl
  have e2 : ((("]" : String) : Str)).length = 1 := rfl
  rw [e1, e2]
  by_cases h : ts = []
  · subst h
    decide
  · have := join_length_add ts h
    omega
theorem tup_len (ts : List Str) : (tupleText ts).length ≤ piled ts + 4 := by
  unfold tupleText
  rw [strLen_append, strLen_append]
  have e1 : ((("(" : String) : Str)).length = 1 := rfl
  have e3 : (((if ts.length == 1 then ",)" else ")" : String) : Str)).length ≤ 2 := by split <;> decide
  rw [e1]
  by_cases h : ts = []
  · subst h
    decide
  · have := join_length_add ts h
    omega
mutual
theorem shown_le : ∀ x : PyData, small x = true → x.shown.length ≤ shB x
  | .none, _ => by decide +kernel
  | .bool b, _ => by cases b <;> decide +kernel
  | .int i, h => by
    show ((toString i : String) : Str).length ≤ 4
    exact smallI_len (by simpa only [small] using h)
  | .str x, h => by
    have h2 : PyData.strOk x = true := by simpa only [small] using h
    exact StrLaws.reprText_len x (strOk_lt h2)
  | .list xs, h => by
    have h1 := shownAll_le xs (by simpa only [small] using h)
    show (listText _).length ≤ shBL xs + 4
    exact Nat.le_trans (list_len _) (by omega)
  | .tuple xs, h => by
    have h1 := shownAll_le xs (by simpa only [small] using h)
    show (tupleText _).length ≤ shBL xs + 4
    exact Nat.le_trans (tup_len _) (by omega)
  | .dict _, h => by simp only [small, Bool.false_eq_true] at h
theorem shownAll_le : ∀ xs : List PyData, smallL xs = true → piled (PyData.shownAll xs) ≤ shBL xs
  | [], _ => Nat.le_refl _
  | x :: xs, h => by
    have h2 : (small x && smallL xs) = true := by simpa only [smallL] using h
    rw [Bool.and_eq_true] at h2
    have h3 := shown_le x h2.1
    have h4 := shownAll_le xs h2.2
    show piled (_ :: _) ≤ shB x + 2 + shBL xs
    rw [piled_cons]
    omega
end
mutual
theorem small_lay : ∀ x : PyData, small x = true → x.canLay0 = true
  | .none, _ => by simp only [PyData.canLay0]
  | .bool b, _ => by simp only [PyData.canLay0]
  | .int i, h => by simp only [PyData.canLay0]
  | .str x, h => by
    simp only [PyData.canLay0]
    simpa only [small] using h
  | .list xs, h => by
    simp only [PyData.canLay0]
    exact smallL_lay xs (by simpa only [small] using h)
  | .tuple xs, h => by
    simp only [PyData.canLay0]
    exact smallL_lay xs (by simpa only [small] using h)
  | .dict _, h => by simp only [small, Bool.false_eq_true] at h
theorem smallL_lay : ∀ xs : List PyData, smallL xs = true → PyData.canLayAll0 xs = true
  | [], _ => by simp only [PyData.canLayAll0]
  | x :: xs, h => by
    have h2 : (small x && smallL xs) = true := by simpa only [smallL] using h
    rw [Bool.and_eq_true] at h2
    simp only [PyData.canLayAll0, small_lay x h2.1, smallL_lay xs h2.2, Bool.and_self]
end
mutual
theorem small_show : ∀ x : PyData, small x = true → x.showable = true
  | .none, _ => by simp only [PyData.showable]
  | .bool b, _ => by simp only [PyData.showable]
  | .int i, h => by
    simp only [PyData.showable]
    exact decide_eq_true (smallI_log (by simpa only [small] using h))
  | .str x, h => by simp only [PyData.showable]
  | .list xs, h => by
    simp only [PyData.showable]
    exact smallL_show xs (by simpa only [small] using h)
  | .tuple xs, h => by
    simp only [PyData.showable]
    exact smallL_show xs (by simpa only [small] using h)
  | .dict _, h => by simp only [small, Bool.false_eq_true] at h
theorem smallL_show : ∀ xs : List PyData, smallL xs = true → PyData.showableAll xs = true
  | [], _ => by simp only [PyData.showableAll]
  | x :: xs, h => by
    have h2 : (small x && smallL xs) = true := by simpa only [smallL] using h
    rw [Bool.and_eq_true] at h2
    simp only [PyData.showableAll, small_show x h2.1, smallL_show xs h2.2, Bool.and_self]
end
theorem smallL_of {xs : List PyData} (h : ∀ x ∈ xs, small x = true) : smallL xs = true := by
  induction xs with
  | nil => simp only [smallL]
  | cons x xs ih =>
    simp only [smallL, h x List.mem_cons_self, ih fun y hy => h y (List.mem_cons_of_mem _ hy), Bool.and_self]
theorem shBL_le {n : Nat} {xs : List PyData} (h : ∀ x ∈ xs, shB x ≤ n) : shBL xs ≤ xs.length * (n + 2) := by
  induction xs with
  | nil => simp only [shBL, List.length_nil, Nat.zero_mul, Nat.le_refl]
  | cons x xs ih =>
    have h1 := h x List.mem_cons_self
    have h2 := ih fun y hy => h y (List.mem_cons_of_mem _ hy)
    simp only [shBL]
    rw [List.length_cons, Nat.add_mul]
    omega
theorem depthL_le {n : Nat} {xs : List PyData} (h : ∀ x ∈ xs, x.depth ≤ n) : PyData.depthAll xs ≤ n := by
  induction xs with
  | nil => simp only [PyData.depthAll, Nat.zero_le]
  | cons x xs ih =>
    have h1 := h x List.mem_cons_self
    have h2 := ih fun y hy => h y (List.mem_cons_of_mem _ hy)
    simp only [PyData.depthAll]
    omega
theorem canShow_of {x : PyData} (h : small x = true) (hd : x.depth ≤ 60) (hl : shB x ≤ 100000) : canShow x = true := by
  unfold canShow
  rw [small_lay x h, small_show x h, decide_eq_true hd, decide_eq_true (Nat.le_trans (shown_le x h) hl)]
  rfl
theorem shaped_of {x : PyData} (h : small x = true) (hd : x.depth ≤ 60) : shaped x = true := by
  show (x.canLay0 && decide (x.depth ≤ 64)) = true
  rw [small_lay x h, decide_eq_true (Nat.le_trans hd (by decide))]
  rfl
theorem dEq_same {x : PyData} (h : small x = true) (hd : x.depth ≤ 60) : dEq x x = some true := by
  have hs := shaped_of h hd
  have he := SeqAt.eqv_refl x (small_lay x h)
  cases x <;> first
    | (simp only [dEq, hs, he, Bool.and_self]; rfl)
    | (simp [dEq])
theorem pNe_same {x : PyData} (h : small x = true) (hd : x.depth ≤ 60) : pNe x x = some (.bool false) := by
  unfold pNe
  rw [dEq_same h hd]
  rfl
theorem pEq_same {x : PyData} (h : small x = true) (hd : x.depth ≤ 60) : pEq x x = some (.bool true) := by
  unfold pEq
  rw [dEq_same h hd]
  rfl
theorem repr_seq {x : PyData} {S : Store} (hs : isSeqD x = true) (h : small x = true) (hd : x.depth ≤ 60) (hl : shB x ≤ 100000) : oRepr [.d x] S = some (.d (.str x.shown), S) := by
  unfold oRepr
  simp only [toD_d, canShow_of h hd hl]
  rfl
end Fw
namespace Fw
open PySem PySem.Spec PyProof.Rows L2
open PySem.W (dataLt dataLe keyToks keyToksAll)
/-! ### sorted lists -/
theorem sort_perm (xs : List PyData) : (sortL xs).Perm xs := List.mergeSort_perm xs _
theorem le_lt {x y : PyData} : dataLe false id x y = !(dataLt y x) := rfl
theorem sort_srt (xs : List PyData) : (sortL xs).Pairwise fun a b => dataLt b a = false := by
  have t := PySem.W.sortLe_total (PyProof.Rows.listOrd itemOrd) false fun b : PyData => keyToks (id b)
  refine (List.pairwise_mergeSort (le := dataLe false id) (fun a b c h1 h2 => t.trans a b c h1 h2) (fun a b => Bool.or_eq_true_iff.mpr (t.total a b)) xs).imp fun {a b} h => ?_
  have h' : (!(dataLt b a)) = true := h
  simpa using h'
theorem cmp_anti {x y : PyData} (h : cmpb x y = true) (h1 : dataLt x y = false) (h2 : dataLt y x = false) : PyData.eqv x y = true := by
  have e : keyToks x = keyToks y := lex_total (O := itemOrd) _ _ h1 h2
  cases he : PyData.eqv x y with
  | true => rfl
  | false =>
    have q := (cmp_toks x y h).2 he [] [.inl 0]
    rw [e, PySem.W.lex_pre] at q
    rw [lex_irrefl] at q
    exact absurd q (by decide)
theorem sort_unique {xs ys : List PyData} (hp : ys.Perm xs) (hs : ys.Pairwise fun a b => dataLt b a = false) (anti : ∀ a ∈ xs, ∀ b ∈ xs, dataLt a b = false → dataLt b a = false → a = b) : sortL xs = ys := by
  refine List.Perm.eq_of_pairwise (le := fun a b => dataLt b a = false) (fun a b ha hb h1 h2 => ?_) (sort_srt xs) hs ((sort_perm xs).trans hp.symm)
  exact anti a ((sort_perm xs).mem_iff.mp ha) b (hp.mem_iff.mp hb) h2 h1
/-! ### texts and tuples of them: == is equality -/
mutual
def stD : PyData → Bool
  | .str _ => true
  | .tuple xs => stL xs
  | _ => false
def stL : List PyData → Bool
  | [] => true
  | x :: xs => stD x && stL xs
end
mutual
theorem eqv_st : ∀ (x y : PyData), stD x = true → stD y = true → PyData.eqv x y = true → x = y
  | .str a, y, _, hy, h => by
    cases y with
    | str b =>
      have : a = b := by simpa [PyData.eqv] using h
      rw [this]
    | _ => simp [PyData.eqv] at h
  | .tuple xs, y, hx, hy, h => by
    cases y with
    | tuple ys =>
      have h' : PyData.eqvAll xs ys = true := by simpa [PyData.eqv] using h
      rw [eqv_stL xs ys (by simpa [stD] using hx) (by simpa [stD] using hy) h']
    | _ => simp [PyData.eqv] at h
  | .none, _, hx, _, _ => absurd hx (by simp [stD])
  | .bool _, _, hx, _, _ => absurd hx (by simp [stD])
  | .int _, _, hx, _, _ => absurd hx (by simp [stD])
  | .list _, _, hx, _, _ => absurd hx (by simp [stD])
  | .dict _, _, hx, _, _ => absurd hx (by simp [stD])
theorem eqv_stL : ∀ (xs ys : List PyData), stL xs = true → stL ys = true → PyData.eqvAll xs ys = true → xs = ys
  | [], [], _, _, _ => rfl
  | [], _ :: _, _, _, h => absurd h (by simp [PyData.eqvAll])
  | _ :: _, [], _, _, h => absurd h (by simp [PyData.eqvAll])
  | x :: xs, y :: ys, hx, hy, h => by
    have hx' : stD x = true ∧ stL xs = true := by simpa [stL] using hx
    have hy' : stD y = true ∧ stL ys = true := by simpa [stL] using hy
    have h' : PyData.eqv x y = true ∧ PyData.eqvAll xs ys = true := by simpa [PyData.eqvAll] using h
    rw [eqv_st x y hx'.1 hy'.1 h'.1, eqv_stL xs ys hx'.2 hy'.2 h'.2]
end
theorem st_anti {x y : PyData} (h : cmpb x y = true) (hx : stD x = true) (hy : stD y = true) (h1 : dataLt x y = false) (h2 : dataLt y x = false) : x = y := eqv_st x y hx hy (cmp_anti h h1 h2)
/-! ### each once -/
open Classical in
noncomputable def ddGo : List PyData → List PyData → List PyData
  | acc, [] => acc
  | acc, x :: xs => ddGo (if acc.getLast? = some x then acc else acc ++ [x]) xs
theorem dd_mem : ∀ (xs acc : List PyData) (z : PyData), z ∈ ddGo acc xs ↔ z ∈ acc ∨ z ∈ xs
  | [], acc, z => by simp [ddGo]
  | x :: xs, acc, z => by
    unfold ddGo
    rw [dd_mem xs]
    split
    · next h =>
      have hm : x ∈ acc := List.mem_of_getLast? h
      constructor
      · rintro (h1 | h1)
        · exact .inl h1
        · exact .inr (List.mem_cons_of_mem _ h1)
      · rintro (h1 | h1)
        · exact .inl h1
        · rcases List.mem_cons.mp h1 with rfl | h1
          · exact .inl hm
          · exact .inr h1
    · rw [List.mem_append, List.mem_singleton, List.mem_cons, or_assoc]
theorem dd_nodup {P : PyData → Prop} (anti : ∀ a, P a → ∀ b, P b → dataLt a b = false → dataLt b a = false → a = b) : ∀ (xs acc : List PyData), (∀ z ∈ acc ++ xs, P z) → (acc ++ xs).Pairwise (fun a b => dataLt b a = false) → acc.Nodup → (ddGo acc xs).Nodup
  | [], acc, _, _, hn => hn
  | x :: xs, acc, hP, hp, hn => by
    unfold ddGo
    split
    · next h =>
      have hsub : (acc ++ xs).Sublist (acc ++ x :: xs) := (List.sublist_cons_self x xs).append_left _
      exact dd_nodup anti xs acc (fun z hz => hP z (hsub.subset hz)) (hp.sublist hsub) hn
    · next h =>
      refine dd_nodup anti xs (acc ++ [x]) (by simpa using hP) (by simpa using hp) ?_
      rw [List.nodup_append]
      refine ⟨hn, by simp, fun a ha b hb => ?_⟩
      rw [List.mem_singleton] at hb
      subst hb
      rintro rfl
      have hne : acc ≠ [] := fun e => by rw [e] at ha; cases ha
      have hl : acc.getLast? = some (acc.getLast hne) := List.getLast?_eq_some_getLast hne
      rw [hl] at h
      have hx : a ≠ acc.getLast hne := fun e => h (congrArg some e.symm)
      have hd : acc.dropLast ++ [acc.getLast hne] = acc := List.dropLast_concat_getLast hne
      have ham : a ∈ acc.dropLast := by
        rw [← hd] at ha
        rcases List.mem_append.mp ha with h1 | h1
        · exact h1
        · exact absurd (List.mem_singleton.mp h1) hx
      have hp1 := (List.pairwise_append.mp hp).1
      rw [← hd] at hp1
      have q1 := (List.pairwise_append.mp hp1).2.2 a ham _ (List.mem_singleton.mpr rfl)
      have q2 := (List.pairwise_append.mp hp).2.2 (acc.getLast hne) (List.getLast_mem hne) a List.mem_cons_self
      exact hx (anti a (hP a (List.mem_append_left _ (List.dropLast_subset _ ham))) _ (hP _ (List.mem_append_left _ (List.getLast_mem hne))) q2 q1)
theorem dd_len : ∀ (xs acc : List PyData), (ddGo acc xs).length ≤ acc.length + xs.length
  | [], acc => Nat.le_refl _
  | x :: xs, acc => by
    unfold ddGo
    rw [List.length_cons]
    split
    · have := dd_len xs acc
      omega
    · have := dd_len xs (acc ++ [x])
      rw [List.length_append, List.length_singleton] at this
      omega
theorem dd_sort {P : PyData → Prop} {xs : List PyData} (anti : ∀ a, P a → ∀ b, P b → dataLt a b = false → dataLt b a = false → a = b) (hP : ∀ z ∈ xs, P z) : (ddGo [] (sortL xs)).Nodup ∧ ∀ z, z ∈ ddGo [] (sortL xs) ↔ z ∈ xs := by
  refine ⟨dd_nodup anti _ [] (fun z hz => hP z ((sort_perm xs).mem_iff.mp (by simpa using hz))) (by simpa using sort_srt xs) .nil, fun z => ?_⟩
  rw [dd_mem, (sort_perm xs).mem_iff]
  simp
end Fw
namespace G01
open PySem PySem.Spec PyProof.Rows L2 Fw
abbrev bxL (cs : List Int) (k l : Int) : List Val := [.d (.list (cs.map .int)), .d (.int k), .d (.int l)]
def Bx (S : Store) (B : Int) : Prop := ∃ cs k l, S[0]? = some (.lst (bxL cs k l)) ∧ 0 ≤ k ∧ k ≤ B
theorem at0 {α : Type} {a : α} {xs : List α} : atI (a :: xs) 0 = some a := atI_nat (n := 0) rfl
theorem at1 {α : Type} {a b : α} {xs : List α} : atI (a :: b :: xs) 1 = some b := atI_nat (n := 1) rfl
theorem at2 {α : Type} {a b c : α} {xs : List α} : atI (a :: b :: c :: xs) 2 = some c := atI_nat (n := 2) rfl
inductive Say where
  | tt | ff
  | le (n : Str)
  | an (a b : Say)
  | ou (a b : Say)
  | im (a b : Say)
def enc : Say → PyData
  | .tt => .tuple [.str "true"]
  | .ff => .tuple [.str "false"]
  | .le n => .tuple [.str "letter", .str n]
  | .an a b => .tuple [.str "and", enc a, enc b]
  | .ou a b => .tuple [.str "or", enc a, enc b]
  | .im a b => .tuple [.str "if", enc a, enc b]
def inn (ok : Str → Prop) : Say → Prop
  | .le n => ok n
  | .an a b => inn ok a ∧ inn ok b
  | .ou a b => inn ok a ∧ inn ok b
  | .im a b => inn ok a ∧ inn ok b
  | _ => True
def dep : Say → Nat
  | .an a b => max (dep a) (dep b) + 1
  | .ou a b => max (dep a) (dep b) + 1
  | .im a b => max (dep a) (dep b) + 1
  | _ => 0
theorem Bx.le {S : Store} {B C : Int} (h : Bx S B) (hl : B ≤ C) : Bx S C := by
  obtain ⟨cs, k, l, h1, h2, h3⟩ := h
  exact ⟨cs, k, l, h1, h2, by omega⟩
abbrev Tr := List (Int × List Str)
def rowD (r : Int × List Str) : PyData := .tuple [.int r.1, .tuple (r.2.map .str)]
def encT (t : Tr) : PyData := .tuple (t.map rowD)
theorem lenT {t : Tr} {S : Store} : oLen [.d (encT t)] S = some (.d (.int (t.length : Int)), S) := by
  unfold encT
  rw [len_tup, List.length_map]
def word : Say → Str
  | .tt => "true"
  | .ff => "false"
  | .le _ => "letter"
  | .an _ _ => "and"
  | .ou _ _ => "or"
  | .im _ _ => "if"
def args : Say → List PyData
  | .tt => []
  | .ff => []
  | .le n => [.str n]
  | .an a b => [enc a, enc b]
  | .ou a b => [enc a, enc b]
  | .im a b => [enc a, enc b]
theorem enc_eq (s : Say) : enc s = .tuple (.str (word s) :: args s) := by
  cases s <;> rfl
theorem sub0 {s : Say} {S : Store} : oSub (.d (enc s)) (.d (.int 0)) S = some (.d (.str (word s)), S) := by
  rw [enc_eq, oSub_tup, List.map_cons, at0]
  rfl
theorem ne_letter_true : (Str.ofString "letter" = Str.ofString "true") = False := eq_false (by decide +kernel)
theorem ne_letter_false : (Str.ofString "letter" = Str.ofString "false") = False := eq_false (by decide +kernel)
theorem ne_and_true : (Str.ofString "and" = Str.ofString "true") = False := eq_false (by decide +kernel)
theorem ne_and_false : (Str.ofString "and" = Str.ofString "false") = False := eq_false (by decide +kernel)
theorem ne_or_true : (Str.ofString "or" = Str.ofString "true") = False := eq_false (by decide +kernel)
theorem ne_or_false : (Str.ofString "or" = Str.ofString "false") = False := eq_false (by decide +kernel)
theorem ne_if_true : (Str.ofString "if" = Str.ofString "true") = False := eq_false (by decide +kernel)
theorem ne_if_false : (Str.ofString "if" = Str.ofString "false") = False := eq_false (by decide +kernel)
theorem ne_and_letter : (Str.ofString "and" = Str.ofString "letter") = False := eq_false (by decide +kernel)
theorem ne_or_letter : (Str.ofString "or" = Str.ofString "letter") = False := eq_false (by decide +kernel)
theorem ne_if_letter : (Str.ofString "if" = Str.ofString "letter") = False := eq_false (by decide +kernel)
theorem truth_b {b : Bool} {S : Store} : truth (.d (.bool b)) S = some b := rfl
theorem items_tup {xs : List PyData} : itemsD (.tuple xs) = some xs := rfl
def Nm (n : Str) : Prop := n ∈ (["ab", "abcd", "p", "x", "zz"] : List Str)
theorem name_ok {n : Str} (h : Nm n) : pureF v_is_name_in [.str n] = .ok (.bool true) := by
  unfold Nm at h
  simp only [List.mem_cons, List.not_mem_nil, or_false] at h
  rcases h with rfl | rfl | rfl | rfl | rfl <;> kernel_rfl
theorem isi_tup {xs : List PyData} {S : Store} : oIsi "tuple" (.d (.tuple xs)) S = some (.d (.bool true), S) := rfl
theorem isi_str {s : Str} {S : Store} : oIsi "str" (.d (.str s)) S = some (.d (.bool true), S) := rfl
theorem saying_in_ok : ∀ (s : Say) (n : Nat), inn Nm s → dep s < n → pureF (v_is_saying_in n) [enc s] = .ok (.bool true) := by
  intro s
  have inTF : ∀ (w : Str) (S : Store), oInD false (.d (.str w)) (.d (.tuple [.str "true", .str "false"])) S = some (.d (.bool (decide (w ∈ (["true", "false"] : List Str)))), S) := fun w S => in_tup rfl
  have inAO : ∀ (w : Str) (S : Store), oInD false (.d (.str w)) (.d (.tuple [.str "and", .str "or", .str "if"])) S = some (.d (.bool (decide (w ∈ (["and", "or", "if"] : List Str)))), S) := fun w S => in_tup rfl
  induction s with
  | tt =>
    intro n _ hn
    obtain ⟨n, rfl⟩ : ∃ k, n = k + 1 := ⟨n - 1, by omega⟩
    refine pureF_of ?_
    show W (fnV 1 0 (b_is_saying_in (v_is_saying_in n)) [.d (.tuple [.str "true"])] []) _
    rw [W_fn (by rfl)]
    unfold b_is_saying_in
    refine V_one fun G hG => ?_
    simp [isi_tup, isi_str, truth_b, at0]
    refine hG _ _ ?_
    clear hG
    refine V_one fun G hG => ?_
    simp [isi_tup, isi_str, truth_b, at0, inTF, oTup]
  | ff =>
    intro n _ hn
    obtain ⟨n, rfl⟩ : ∃ k, n = k + 1 := ⟨n - 1, by omega⟩
    refine pureF_of ?_
    show W (fnV 1 0 (b_is_saying_in (v_is_saying_in n)) [.d (.tuple [.str "false"])] []) _
    rw [W_fn (by rfl)]
    unfold b_is_saying_in
    refine V_one fun G hG => ?_
    simp [isi_tup, isi_str, truth_b, at0]
    refine hG _ _ ?_
    clear hG
    refine V_one fun G hG => ?_
    simp [isi_tup, isi_str, truth_b, at0, inTF, oTup]
  | le x =>
    intro n hx hn
    obtain ⟨n, rfl⟩ : ∃ k, n = k + 1 := ⟨n - 1, by omega⟩
    refine pureF_of ?_
    show W (fnV 1 0 (b_is_saying_in (v_is_saying_in n)) [.d (.tuple [.str "letter", .str x])] []) _
    rw [W_fn (by rfl)]
    unfold b_is_saying_in
    refine V_one fun G hG => ?_
    simp [isi_tup, isi_str, truth_b, at0]
    refine hG _ _ ?_
    clear hG
    refine V_one fun G hG => ?_
    simp [isi_tup, isi_str, truth_b, at0, inTF, oTup, ne_letter_true, ne_letter_false]
    refine hG _ _ ?_
    clear hG
    refine V_one fun G hG => ?_
    simp [isi_tup, isi_str, truth_b, at0, at1, name_ok hx]
  | an a b iha ihb =>
    intro n hx hn
    obtain ⟨n, rfl⟩ : ∃ k, n = k + 1 := ⟨n - 1, by omega⟩
    have ha := iha n hx.1 (by simp only [dep] at hn; omega)
    have hb := ihb n hx.2 (by simp only [dep] at hn; omega)
    refine pureF_of ?_
    show W (fnV 1 0 (b_is_saying_in (v_is_saying_in n)) [.d (.tuple [.str "and", enc a, enc b])] []) _
    rw [W_fn (by rfl)]
    unfold b_is_saying_in
    refine V_one fun G hG => ?_
    simp [isi_tup, isi_str, truth_b, at0]
    refine hG _ _ ?_
    clear hG
    refine V_one fun G hG => ?_
    simp [isi_tup, isi_str, truth_b, at0, inTF, oTup, ne_and_true, ne_and_false]
    refine hG _ _ ?_
    clear hG
    refine V_one fun G hG => ?_
    simp [isi_tup, isi_str, truth_b, at0, ne_and_letter]
    refine hG _ _ ?_
    clear hG
    simp [truth_b, at0, at1, at2, oTup, inAO, ha, hb]
  | ou a b iha ihb =>
    intro n hx hn
    obtain ⟨n, rfl⟩ : ∃ k, n = k + 1 := ⟨n - 1, by omega⟩
    have ha := iha n hx.1 (by simp only [dep] at hn; omega)
    have hb := ihb n hx.2 (by simp only [dep] at hn; omega)
    refine pureF_of ?_
    show W (fnV 1 0 (b_is_saying_in (v_is_saying_in n)) [.d (.tuple [.str "or", enc a, enc b])] []) _
    rw [W_fn (by rfl)]
    unfold b_is_saying_in
    refine V_one fun G hG => ?_
    simp [isi_tup, isi_str, truth_b, at0]
    refine hG _ _ ?_
    clear hG
    refine V_one fun G hG => ?_
    simp [isi_tup, isi_str, truth_b, at0, inTF, oTup, ne_or_true, ne_or_false]
    refine hG _ _ ?_
    clear hG
    refine V_one fun G hG => ?_
    simp [isi_tup, isi_str, truth_b, at0, ne_or_letter]
    refine hG _ _ ?_
    clear hG
    simp [truth_b, at0, at1, at2, oTup, inAO, ha, hb]
  | im a b iha ihb =>
    intro n hx hn
    obtain ⟨n, rfl⟩ : ∃ k, n = k + 1 := ⟨n - 1, by omega⟩
    have ha := iha n hx.1 (by simp only [dep] at hn; omega)
    have hb := ihb n hx.2 (by simp only [dep] at hn; omega)
    refine pureF_of ?_
    show W (fnV 1 0 (b_is_saying_in (v_is_saying_in n)) [.d (.tuple [.str "if", enc a, enc b])] []) _
    rw [W_fn (by rfl)]
    unfold b_is_saying_in
    refine V_one fun G hG => ?_
    simp [isi_tup, isi_str, truth_b, at0]
    refine hG _ _ ?_
    clear hG
    refine V_one fun G hG => ?_
    simp [isi_tup, isi_str, truth_b, at0, inTF, oTup, ne_if_true, ne_if_false]
    refine hG _ _ ?_
    clear hG
    refine V_one fun G hG => ?_
    simp [isi_tup, isi_str, truth_b, at0, ne_if_letter]
    refine hG _ _ ?_
    clear hG
    simp [truth_b, at0, at1, at2, oTup, inAO, ha, hb]
section
variable {α : Type} {t : Tg} {p : BF} {f : EF} {env : Fw.Env} {S : Store}
theorem lc_map (d g : α → PyData) (q : α → Bool) : ∀ (xs : List α) (acc : List Val), (∀ x ∈ xs, ∃ e, t.go (d x) env = some e ∧ W (p e S) (fun b T => b = q x ∧ T = S) ∧ (q x = true → W (f e S) fun v T => v = .d (g x) ∧ T = S)) → acc.length + xs.length ≤ 100000 →
    lcGo t p f env (xs.map d) S acc = .ok (acc ++ (((xs.filter q).map g).map Val.d)) S
  | [], acc, _, _ => by
    rw [List.filter_nil, List.map_nil, List.map_nil, List.map_nil, List.append_nil]
    rfl
  | x :: xs, acc, h, hl => by
    obtain ⟨e, e1, h1, h2⟩ := h x List.mem_cons_self
    have h1 := h1.to
    have ih := lc_map d g q xs
    have h' := fun y hy => h y (List.mem_cons_of_mem _ hy)
    rw [List.length_cons] at hl
    rw [List.map_cons]
    unfold lcGo
    rw [e1]
    simp only [h1, R.bind]
    cases hq : q x with
    | false =>
      simp only
      rw [ih acc h' (by omega), List.filter_cons_of_neg (by rw [hq]; exact Bool.false_ne_true)]
    | true =>
      have h3 := (h2 hq).to
      simp only [h3]
      rw [decide_eq_true (by omega : acc.length < 100000)]
      simp only
      rw [ih (acc ++ [Val.d (g x)]) h' (by rw [List.length_append, List.length_singleton]; omega), List.filter_cons_of_pos hq, List.map_cons, List.map_cons, List.append_assoc]
      rfl
/-- a list out of a list of things, told by their data -/
theorem W_lcM {Q : Val → Store → Prop} {xs : List α} (d g : α → PyData) (q : α → Bool) (h : ∀ x ∈ xs, ∃ e, t.go (d x) env = some e ∧ W (p e S) (fun b T => b = q x ∧ T = S) ∧ (q x = true → W (f e S) fun v T => v = .d (g x) ∧ T = S)) (hl : xs.length ≤ 100000)
    (k : Q (.d (.list ((xs.filter q).map g))) S) : W (lcGo t p f env (xs.map d) S []) fun acc S => W (lcFin false (.ok acc S)) Q := by
  rw [lc_map d g q xs [] h (by simpa using hl), W_ok, List.nil_append]
  have e : lcFin false (.ok (((xs.filter q).map g).map Val.d) S) = .ok (.d (.list ((xs.filter q).map g))) S := by
    unfold lcFin
    simp only [toDs_map]
  rw [e, W_ok]
  exact k
theorem W_lcN {Q : Val → Store → Prop} {xs : List α} (d g : α → PyData) (h : ∀ x ∈ xs, ∃ e, t.go (d x) env = some e ∧ W (f e S) fun v T => v = .d (g x) ∧ T = S) (hl : xs.length ≤ 100000) (k : Q (.d (.list (xs.map g))) S) :
    W (lcGo t bYes f env (xs.map d) S []) fun acc S => W (lcFin false (.ok acc S)) Q := by
  refine W_lcM d g (fun _ => true) (fun x hx => ?_) hl ?_
  · obtain ⟨e, e1, h1⟩ := h x hx
    exact ⟨e, e1, by rw [W_bYes]; exact ⟨rfl, rfl⟩, fun _ => h1⟩
  · rw [List.filter_eq_self.mpr fun _ _ => rfl]
    exact k
end
theorem all_true {α : Type} (xs : List α) {S : Store} : oAll [.d (.list (xs.map fun _ => PyData.bool true))] S = some (.d (.bool true), S) := by
  have e : trues? (xs.map fun _ => PyData.bool true) = some (xs.map fun _ => true) := by
    induction xs with
    | nil => rfl
    | cons x xs ih =>
      rw [List.map_cons, List.map_cons]
      unfold trues?
      rw [ih]
      rfl
  show oAnyB _ _ _ = _
  unfold oAnyB
  simp [e]
theorem steps_cons (k : Int) (n : Nat) : steps k 1 (n + 1) = .int k :: steps (k + 1) 1 n := by
  unfold steps
  rw [List.range_succ_eq_map, List.map_cons, List.map_map]
  congr 1
  · simp
  · refine List.map_congr_left fun i _ => ?_
    simp
    omega
def parts2 : Say → List Say
  | .an a b => [a, b]
  | .ou a b => [a, b]
  | .im a b => [a, b]
  | _ => []
theorem cut1 {x : PyData} {xs : List PyData} : pCut (some 1) none (.tuple (x :: xs)) = some (.tuple xs) := by
  have e1 : HT.sIx (x :: xs).length 0 (some 1) = 1 := by
    unfold HT.sIx
    simp
    try omega
  have e2 : HT.sIx (x :: xs).length (x :: xs).length none = (x :: xs).length := by
    unfold HT.sIx
    simp
  show some (PyData.tuple (cutL (x :: xs) (some 1) none)) = _
  unfold cutL
  rw [e1, e2]
  simp
theorem sides_ok (s : Say) : pureF v__law_inner [enc s] = .ok (.tuple ((parts2 s).map enc)) := by
  have inAO : ∀ (w : Str) (S : Store), oInD false (.d (.str w)) (.d (.tuple [.str "and", .str "or", .str "if"])) S = some (.d (.bool (decide (w ∈ (["and", "or", "if"] : List Str)))), S) := fun w S => in_tup rfl
  have n1 : (Str.ofString "true" = Str.ofString "and") = False := eq_false (by decide +kernel)
  have n2 : (Str.ofString "true" = Str.ofString "or") = False := eq_false (by decide +kernel)
  have n3 : (Str.ofString "true" = Str.ofString "if") = False := eq_false (by decide +kernel)
  have n4 : (Str.ofString "false" = Str.ofString "and") = False := eq_false (by decide +kernel)
  have n5 : (Str.ofString "false" = Str.ofString "or") = False := eq_false (by decide +kernel)
  have n6 : (Str.ofString "false" = Str.ofString "if") = False := eq_false (by decide +kernel)
  have n7 : (Str.ofString "letter" = Str.ofString "and") = False := eq_false (by decide +kernel)
  have n8 : (Str.ofString "letter" = Str.ofString "or") = False := eq_false (by decide +kernel)
  have n9 : (Str.ofString "letter" = Str.ofString "if") = False := eq_false (by decide +kernel)
  refine pureF_of ?_
  show W (fnV 1 0 b__law_inner [.d (enc s)] []) _
  rw [W_fn (by rfl)]
  unfold b__law_inner
  cases s <;> simp [enc, parts2, at0, oTup, inAO, n1, n2, n3, n4, n5, n6, n7, n8, n9, cut1]
theorem inner_ok (s : Say) : pureF v_inner [enc s] = .ok (.tuple ((parts2 s).map enc)) := sides_ok s
def isLe : Say → Bool
  | .le _ => true
  | _ => false
theorem parts_len (s : Say) : (parts2 s).length ≤ 2 := by
  cases s <;> simp [parts2]
theorem tuple_of {xs : List PyData} {S : Store} : oTuple [.d (.list xs)] S = some (.d (.tuple xs), S) := by
  show (pureAll (xs.map .d)).map _ = _
  rw [pureAll_map]
  rfl
theorem pureF1 {ev : FnV} {a x : PyData} (h : W (ev [.d a] []) fun v S => ∃ S', toD v S = some (x, S')) : pureF ev [a] = .ok x := pureF_of h
theorem pureF2 {ev : FnV} {a b x : PyData} (h : W (ev [.d a, .d b] []) fun v S => ∃ S', toD v S = some (x, S')) : pureF ev [a, b] = .ok x := pureF_of h
theorem list_of_tup {xs : List PyData} {S : Store} : oListD false [.d (.tuple xs)] S = some (.d (.list xs), S) := by
  show (pureAll (xs.map Val.d)).map (fun xs => (Val.d (PyData.list xs), S)) = _
  rw [pureAll_map]
  rfl
def ups : Nat → Nat → List PyData
  | _, 0 => []
  | k, m + 1 => .int (k : Int) :: ups (k + 1) m
theorem steps_ups : ∀ (m k : Nat), Fw.steps (k : Int) 1 m = ups k m
  | 0, _ => rfl
  | m + 1, k => by
    rw [steps_cons]
    unfold ups
    rw [← steps_ups m (k + 1)]
    rfl
theorem W_append {f : EF} {g : AF} {env : Fw.Env} {S S2 : Store} {Q : Val → Store → Prop} {i : Nat} {xs : List Val} {x : Val} (hf : W (f env S) fun v T => v = .r i ∧ T = S) (hc : S[i]? = some (.lst xs)) (hg : W (g env S) fun vs T => vs = [x] ∧ T = S2) (hc2 : S2[i]? = some (.lst xs)) (hl : xs.length < 100000)
    (k : Q (.d .none) (S2.set i (.lst (xs ++ [x])))) : W (eMth mAppend f g env S) Q := by
  have e : eMth mAppend f g env S = .ok (.d .none) (S2.set i (.lst (xs ++ [x]))) := by
    unfold eMth
    simp only [hf.to, hg.to, R.bind, hc, hc2]
    unfold mAppend
    rw [decide_eq_true hl]
    rfl
  rw [e, W_ok]
  exact k
theorem add_list {xs ys : List PyData} (h : xs.length + ys.length ≤ 100000) : pAdd (.list xs) (.list ys) = some (.list (xs ++ ys)) := by
  show when _ _ = _
  rw [decide_eq_true h]
  rfl
theorem W_range1' {a : AF} {env : Fw.Env} {S : Store} {I : List PyData → Store → Prop} {j : Nat} (h : W (a env S) fun vs T => vs = [.d (.int (j : Int))] ∧ T = S) (hj : j ≤ 1000000) (k : I (ups 0 j) S) : W (iRange1 a env S) I := by
  refine W_range1 h (okR_of (by omega) (by omega)) ?_
  rw [Int.toNat_natCast, show (0 : Int) = ((0 : Nat) : Int) from rfl, steps_ups]
  exact k
theorem W_extend {f : EF} {g : AF} {env : Fw.Env} {S : Store} {Q : Val → Store → Prop} {i : Nat} {xs ys : List Val} {v : Val} (hf : W (f env S) fun v T => v = .r i ∧ T = S) (hc : S[i]? = some (.lst xs)) (hg : W (g env S) fun vs T => vs = [v] ∧ T = S) (hy : listOf v S = some ys) (hl : xs.length + ys.length ≤ 100000)
    (k : Q (.d .none) (S.set i (.lst (xs ++ ys)))) : W (eMth mExtend f g env S) Q := by
  have e : eMth mExtend f g env S = .ok (.d .none) (S.set i (.lst (xs ++ ys))) := by
    unfold eMth
    simp only [hf.to, hg.to, R.bind, hc]
    unfold mExtend
    simp only [hy]
    rw [decide_eq_true hl]
    rfl
  rw [e, W_ok]
  exact k
theorem get_last {S : Store} {a : Cell} : (S ++ [a])[S.length]? = some a := by
  rw [List.getElem?_append_right (Nat.le_refl _), Nat.sub_self]
  rfl
theorem small_cons {x : PyData} {xs : List PyData} : smallL (x :: xs) = (small x && smallL xs) := by simp only [smallL]
theorem small_nil : smallL [] = true := by simp only [smallL]
theorem small_tup {xs : List PyData} : small (.tuple xs) = smallL xs := by simp only [small]
theorem small_list {xs : List PyData} : small (.list xs) = smallL xs := by simp only [small]
theorem depth_enc : ∀ s : Say, (enc s).depth ≤ dep s + 1
  | .tt => by decide +kernel
  | .ff => by decide +kernel
  | .le x => by
    unfold enc dep
    simp only [PyData.depth, PyData.depthAll]
    omega
  | .an a b => by
    have h1 := depth_enc a
    have h2 := depth_enc b
    unfold enc dep
    simp only [PyData.depth, PyData.depthAll]
    omega
  | .ou a b => by
    have h1 := depth_enc a
    have h2 := depth_enc b
    unfold enc dep
    simp only [PyData.depth, PyData.depthAll]
    omega
  | .im a b => by
    have h1 := depth_enc a
    have h2 := depth_enc b
    unfold enc dep
    simp only [PyData.depth, PyData.depthAll]
    omega
structure Stp (S T : Store) (C : Int) : Prop where
  len : S.length ≤ T.length
  keep : ∀ i, 0 < i → i < S.length → T[i]? = S[i]?
  bx : Bx T C
theorem Stp.le {S T : Store} {B C : Int} (h : Stp S T B) (hl : B ≤ C) : Stp S T C := ⟨h.len, h.keep, h.bx.le hl⟩
theorem Bx.ext {S T : Store} {B : Int} (h : Bx S B) (e : T[0]? = S[0]?) : Bx T B := by
  obtain ⟨cs, k, l, h1, h2⟩ := h
  exact ⟨cs, k, l, by rw [e, h1], h2⟩
theorem Stp.set {S T : Store} {C : Int} {n : Nat} {c : Cell} (h : Stp S T C) (hn : S.length ≤ n) (h0 : 0 < n) : Stp S (T.set n c) C :=
  ⟨by rw [List.length_set]; exact h.len, fun i h1 h2 => by rw [List.getElem?_set_ne (by omega)]; exact h.keep i h1 h2, h.bx.ext (by rw [List.getElem?_set_ne (by omega)])⟩
theorem toD_cellL {S : Store} {i : Nat} {xs : List PyData} (h : S[i]? = some (.lst (xs.map .d))) : toD (.r i) S = some (.list xs, S.set i (.frz (.list xs))) := by
  have e : pureCell (.lst (xs.map .d)) = some (.list xs) := by
    show (pureAll _).map _ = _
    rw [pureAll_map]
    rfl
  unfold toD
  simp only [h, e]
theorem toDs_r {S S' : Store} {i : Nat} {x : PyData} {vs : List Val} (h : toD (.r i) S = some (x, S')) : toDs (.r i :: vs) S = (toDs vs S').map fun q => (x :: q.1, q.2) := by
  conv => lhs; unfold toDs
  rw [h]
  show (match toDs vs S' with | some (xs, S2) => some (x :: xs, S2) | none => none) = _
  cases toDs vs S' <;> rfl
theorem W_runP {f : List PyData → Out} {vs : List Val} {S : Store} {Q : Val → Store → Prop} : W (runP f vs S) Q = Wl (toDs vs S) fun xs S2 => Wo (f xs) fun x => Q (.d x) S2 := by
  unfold runP
  cases toDs vs S with
  | none => rw [Wl_none]; exact W_bad
  | some z =>
    obtain ⟨xs, S2⟩ := z
    rw [Wl_some]
    exact W_liftO
theorem W_kw {idx : List Nat} {nu nk : Nat} {g gk : AF} {k : List Val → Store → R Val} {env : Fw.Env} {S : Store} {Q : Val → Store → Prop}
    (h : W (g env S) fun vs S1 => vs.length = nu ∧ W (gk env S1) fun us S2 => us.length = nk ∧ W (k (Fw.pick idx (vs ++ us)) S2) Q) : W (kwGo idx nu nk g gk k env S) Q := by
  unfold kwGo
  rw [W_bind]
  refine h.imp ?_
  rintro vs S1 ⟨h1, h2⟩
  rw [decide_eq_true h1]
  simp only
  rw [W_bind]
  refine h2.imp ?_
  rintro us S2 ⟨h3, h4⟩
  rw [decide_eq_true h3]
  exact h4
abbrev srL (a sd t : Int) : List Val := [.d (.int a), .d (.int sd), .d (.int t)]
/-- a source at the cell i, asked fewer than B times -/
def Sr (i : Nat) (S : Store) (B : Int) : Prop := ∃ a sd t, S[i]? = some (.lst (srL a sd t)) ∧ 0 ≤ a ∧ 0 ≤ sd ∧ sd < 1000000000000000000000007 ∧ 0 ≤ t ∧ t ≤ B
theorem p25 : pPow (.int 10) (.int 25) = some (.int 10000000000000000000000000) := by kernel_rfl
theorem p27 : pPow (.int 10) (.int 27) = some (.int 1000000000000000000000000000) := by kernel_rfl
theorem p29 : pPow (.int 10) (.int 29) = some (.int 100000000000000000000000000000) := by kernel_rfl
theorem p24 : pPow (.int 10) (.int 24) = some (.int 1000000000000000000000000) := by kernel_rfl
theorem p21 : pPow (.int 10) (.int 21) = some (.int 1000000000000000000000) := by kernel_rfl
theorem puts0 {a sd t : Int} {v : Val} : putAt (.lst (srL a sd t)) (.d (.int 0)) v = some (.lst [v, .d (.int sd), .d (.int t)]) := rfl
theorem puts2 {a sd t : Int} {v : Val} : putAt (.lst (srL a sd t)) (.d (.int 2)) v = some (.lst [.d (.int a), .d (.int sd), v]) := rfl
theorem pick_src {i : Nat} {S : Store} {B m : Int} (hB : Sr i S B) (hb : B ≤ 1000000) (h1 : 1 ≤ m) (h2 : m ≤ 1000000) :
    W (v__law_pick [.r i, .d (.int m)] S) fun v S' => ∃ (j : Int) (bx : Cell), v = .d (.int j) ∧ 0 ≤ j ∧ j < m ∧ S' = S.set i bx ∧ Sr i S' (B + 1) := by
  obtain ⟨a, sd, t, hS, ha, hs, hs2, ht, htB⟩ := hB
  have hm0 : 0 < m := by omega
  have hm : bd 8999 m := bd_le (bd_of (n := 20) (by omega) (by omega)) (by omega)
  have hlt : i < S.length := (List.getElem?_eq_some_iff.mp hS).1
  have s0 : ∀ (T : Store) (a sd t : Int), T[i]? = some (.lst (srL a sd t)) → oSub (.r i) (.d (.int 0)) T = some (.d (.int a), T) := fun T a sd t h => by rw [oSub_cell h, at0]; rfl
  have s1 : ∀ (T : Store) (a sd t : Int), T[i]? = some (.lst (srL a sd t)) → oSub (.r i) (.d (.int 1)) T = some (.d (.int sd), T) := fun T a sd t h => by rw [oSub_cell h, at1]; rfl
  have s2 : ∀ (T : Store) (a sd t : Int), T[i]? = some (.lst (srL a sd t)) → oSub (.r i) (.d (.int 2)) T = some (.d (.int t), T) := fun T a sd t h => by rw [oSub_cell h, at2]; rfl
  unfold v__law_pick
  rw [W_fn (by rfl)]
  unfold b__law_pick
  refine V_one fun G hG => ?_
  simp [s0 _ _ _ _ hS]
  refine ⟨fun h => ?_, fun h => hG _ _ ?_⟩
  · refine V_one fun G hG => ?_
    simp [s0 _ _ _ _ hS, pMod_ok hm0]
    refine hG _ _ ?_
    refine V_one fun G hG => ?_
    simp [s0 _ _ _ _ hS, pFdiv_ok hm0 hm, hS]
    refine ⟨_, puts0, hG _ _ ?_⟩
    simp
    exact ⟨Int.emod_nonneg _ (by omega), Int.emod_lt_of_pos _ hm0, ⟨_, rfl⟩, _, sd, t, List.getElem?_set_self hlt, Int.ediv_nonneg ha (by omega), hs, hs2, ht, by omega⟩
  · refine V_one fun G hG => ?_
    simp [s2 _ _ _ _ hS, hS]
    refine ⟨_, puts2, hG _ _ ?_⟩
    clear hG
    obtain ⟨T, hT0⟩ : ∃ T, T = S.set i (.lst (srL a sd (t + 1))) := ⟨_, rfl⟩
    have hT : T[i]? = some (.lst (srL a sd (t + 1))) := by
      rw [hT0]
      exact List.getElem?_set_self hlt
    rw [← hT0]
    have fin : (∃ bx, T = S.set i bx) ∧ Sr i T (B + 1) := ⟨⟨_, hT0⟩, a, sd, t + 1, hT, ha, hs, hs2, by omega, by omega⟩
    refine V_one fun G hG => ?_
    simp [s2 _ _ _ _ hT]
    refine hG _ _ ?_
    clear hG
    have bt : bd 21 (t + 1) := bd_of (by omega) (by omega)
    have bt' : bd 10000 (t + 1) := bd_le bt (by omega)
    have b2t : bd 30 (2 * (t + 1) + 7) := bd_of (by omega) (by omega)
    have bsd : bd 90 (sd + 71) := bd_of (by omega) (by omega)
    have bsd0 : bd 90 sd := bd_of (by omega) (by omega)
    have up : ∀ {n : Nat} {i : Int}, bd n i → n ≤ 10000 → bd 10000 i := fun h => bd_le h
    have c1 : bd 31 2 := bd_of (by omega) (by omega)
    have c2 : bd 31 736338717 := bd_of (by omega) (by omega)
    have c3 : bd 31 90001 := bd_of (by omega) (by omega)
    have c4 : bd 31 777 := bd_of (by omega) (by omega)
    have c5 : bd 31 3 := bd_of (by omega) (by omega)
    have c6 : bd 31 5 := bd_of (by omega) (by omega)
    have c8 : bd 8999 100003 := bd_le (bd_of (n := 31) (by omega) (by omega)) (by omega)
    have q1 := pMul_ok (i := 2) (j := t + 1) (up c1 (by omega)) bt'
    have q2 := pMul_ok (i := sd + 71) (j := 2 * (t + 1) + 7) (up bsd (by omega)) (up b2t (by omega))
    have q3 := pMul_ok (i := (sd + 71) * (2 * (t + 1) + 7)) (j := 736338717) (up (bd_mul bsd b2t) (by omega)) (up c2 (by omega))
    have q4 := pMul_ok bt' bt'
    have q5 := pMul_ok (i := (t + 1) * (t + 1)) (j := 90001) (up (bd_mul bt bt) (by omega)) (up c3 (by omega))
    refine V_one fun G hG => ?_
    simp [s1 _ _ _ _ hT, q1, q2, q3, q4, q5, p25, pMod_ok (j := 10000000000000000000000013) (by omega)]
    refine hG _ _ ?_
    clear hG
    have bX : bd 100 (((sd + 71) * (2 * (t + 1) + 7) * 736338717 + (t + 1) * (t + 1) * 90001 + 31) % 10000000000000000000000013) := bd_of (Int.emod_nonneg _ (by omega)) (Int.lt_of_lt_of_le (Int.emod_lt_of_pos _ (by omega)) (by omega))
    generalize ((sd + 71) * (2 * (t + 1) + 7) * 736338717 + (t + 1) * (t + 1) * 90001 + 31) % 10000000000000000000000013 = x at bX ⊢
    have q6 := pMul_ok (up bX (by omega)) (up bX (by omega))
    have q7 := pMul_ok (i := 777) (j := t + 1) (up c4 (by omega)) bt'
    refine V_one fun G hG => ?_
    simp [s1 _ _ _ _ hT, q6, q7, p27, pMod_ok (j := 1000000000000000000000000103) (by omega)]
    refine hG _ _ ?_
    clear hG
    have bY : bd 100 ((x * x + 777 * (t + 1) + sd) % 1000000000000000000000000103) := bd_of (Int.emod_nonneg _ (by omega)) (Int.lt_of_lt_of_le (Int.emod_lt_of_pos _ (by omega)) (by omega))
    generalize (x * x + 777 * (t + 1) + sd) % 1000000000000000000000000103 = y at bY ⊢
    have q8 := pMul_ok (up bY (by omega)) (up bY (by omega))
    have q9 := pMul_ok (i := y * y) (j := 3) (up (bd_mul bY bY) (by omega)) (up c5 (by omega))
    have q10 := pMul_ok (i := 5) (j := y) (up c6 (by omega)) (up bY (by omega))
    refine V_one fun G hG => ?_
    simp [q8, q9, q10, p29, pMod_ok (j := 100000000000000000000000000319) (by omega)]
    refine hG _ _ ?_
    clear hG
    simp [pFdiv_ok (j := 100003) (by omega) c8, pMod_ok hm0]
    exact ⟨Int.emod_nonneg _ (by omega), Int.emod_lt_of_pos _ hm0, fin.1, fin.2⟩
def n4 : List Str := ["ab", "abcd", "p", "x", "zz"]
theorem Sr.le {i : Nat} {S : Store} {B C : Int} (h : Sr i S B) (hl : B ≤ C) : Sr i S C := by
  obtain ⟨a, sd, t, h1, h2, h3, h4, h5, h6⟩ := h
  exact ⟨a, sd, t, h1, h2, h3, h4, h5, by omega⟩
def subs : Say → List Say
  | .an a b => .an a b :: (subs a ++ subs b)
  | .ou a b => .ou a b :: (subs a ++ subs b)
  | .im a b => .im a b :: (subs a ++ subs b)
  | s => [s]
theorem subs_eq (s : Say) : subs s = s :: (parts2 s).flatMap subs := by
  cases s <;> simp [subs, parts2]
theorem subs_len : ∀ s : Say, (subs s).length + 1 ≤ 2 ^ (dep s + 1)
  | .tt => by decide
  | .ff => by decide
  | .le _ => by
    show 1 + 1 ≤ 2 ^ 1
    decide
  | .an a b => by
    have h1 := subs_len a
    have h2 := subs_len b
    have e1 : 2 ^ (dep a + 1) ≤ 2 ^ (max (dep a) (dep b) + 1) := Nat.pow_le_pow_right (by decide) (by omega)
    have e2 : 2 ^ (dep b + 1) ≤ 2 ^ (max (dep a) (dep b) + 1) := Nat.pow_le_pow_right (by decide) (by omega)
    show ((subs a ++ subs b).length + 1) + 1 ≤ 2 ^ (max (dep a) (dep b) + 1 + 1)
    rw [List.length_append, Nat.pow_succ 2 (max (dep a) (dep b) + 1)]
    omega
  | .ou a b => by
    have h1 := subs_len a
    have h2 := subs_len b
    have e1 : 2 ^ (dep a + 1) ≤ 2 ^ (max (dep a) (dep b) + 1) := Nat.pow_le_pow_right (by decide) (by omega)
    have e2 : 2 ^ (dep b + 1) ≤ 2 ^ (max (dep a) (dep b) + 1) := Nat.pow_le_pow_right (by decide) (by omega)
    show ((subs a ++ subs b).length + 1) + 1 ≤ 2 ^ (max (dep a) (dep b) + 1 + 1)
    rw [List.length_append, Nat.pow_succ 2 (max (dep a) (dep b) + 1)]
    omega
  | .im a b => by
    have h1 := subs_len a
    have h2 := subs_len b
    have e1 : 2 ^ (dep a + 1) ≤ 2 ^ (max (dep a) (dep b) + 1) := Nat.pow_le_pow_right (by decide) (by omega)
    have e2 : 2 ^ (dep b + 1) ≤ 2 ^ (max (dep a) (dep b) + 1) := Nat.pow_le_pow_right (by decide) (by omega)
    show ((subs a ++ subs b).length + 1) + 1 ≤ 2 ^ (max (dep a) (dep b) + 1 + 1)
    rw [List.length_append, Nat.pow_succ 2 (max (dep a) (dep b) + 1)]
    omega
theorem parts_dep (s : Say) : ∀ u ∈ parts2 s, dep u + 1 ≤ dep s := by
  intro u hu
  cases s with
  | an a b =>
    have h : u = a ∨ u = b := by simpa [parts2] using hu
    show dep u + 1 ≤ max (dep a) (dep b) + 1
    rcases h with rfl | rfl <;> omega
  | ou a b =>
    have h : u = a ∨ u = b := by simpa [parts2] using hu
    show dep u + 1 ≤ max (dep a) (dep b) + 1
    rcases h with rfl | rfl <;> omega
  | im a b =>
    have h : u = a ∨ u = b := by simpa [parts2] using hu
    show dep u + 1 ≤ max (dep a) (dep b) + 1
    rcases h with rfl | rfl <;> omega
  | _ => simp [parts2] at hu
theorem lists_map {α : Type} (f : α → List PyData) : ∀ xs : List α, lists? (xs.map fun x => PyData.list (f x)) = some (xs.map f)
  | [] => rfl
  | x :: xs => by
    show (lists? (xs.map fun x => PyData.list (f x))).map (f x :: ·) = _
    rw [lists_map f xs]
    rfl
theorem small_dep {s : Say} (h : dep s ≤ 8) : (subs s).length ≤ 511 := by
  have h1 := subs_len s
  have h2 : 2 ^ (dep s + 1) ≤ 2 ^ 9 := Nat.pow_le_pow_right (by decide) (by omega)
  omega
theorem law_inner_ok (s : Say) : pureF v__law_inner [enc s] = .ok (.tuple ((parts2 s).map enc)) := sides_ok s
theorem law_all_ok : ∀ (n : Nat) (s : Say), dep s < n → dep s ≤ 8 → pureF (v__law_all n) [enc s] = .ok (.list ((subs s).map enc))
  | 0, s, h, _ => absurd h (Nat.not_lt_zero _)
  | n + 1, s, h, h8 => by
    have ih : ∀ u ∈ parts2 s, pureF (v__law_all n) [enc u] = .ok (.list ((subs u).map enc)) := fun u hu => law_all_ok n u (by have := parts_dep s u hu; omega) (by have := parts_dep s u hu; omega)
    have hl := parts_len s
    have hz : ((parts2 s).map fun u => (subs u).map enc).flatten = ((parts2 s).flatMap subs).map enc := by rw [List.map_flatMap, List.flatMap_def]
    have hz2 : ((parts2 s).flatMap subs).length + 1 = (subs s).length := by rw [subs_eq s]; rfl
    have hz3 := small_dep h8
    refine pureF1 ?_
    show W (fnV 1 1 (b__law_all (v__law_all n)) [.d (enc s)] []) _
    rw [W_fn (by rfl)]
    unfold b__law_all
    simp [law_inner_ok, items_tup, oLst]
    refine W_lcN enc (fun u => PyData.list ((subs u).map enc)) (fun u hu => ⟨_, rfl, ?_⟩) (by omega) ?_
    · simp [wipeE, ih u hu]
    · have e : ∀ T : Store, oSumL [.d (.list ((parts2 s).map fun u => PyData.list ((subs u).map enc))), .d (.list [])] T = some (.d (.list (((parts2 s).flatMap subs).map enc)), T) := fun T => by
        unfold oSumL
        simp only [toD_d, lists_map]
        rw [hz, decide_eq_true (by rw [List.length_map]; omega)]
        rfl
      rw [e, Wl_some, oP_d, add_list (by simp only [List.length_map, List.length_cons, List.length_nil]; omega)]
      rw [subs_eq s]
      simp
open PySem.W (dataLt)
theorem dEq_st {x y : PyData} (hx : stD x = true) (hy : stD y = true) (sx : shaped x = true) (sy : shaped y = true) : dEq x y = some (PyData.eqv x y) := by
  cases x with
  | str a =>
    cases y with
    | str b =>
      show some (decide (a = b)) = _
      simp only [PyData.eqv]
      by_cases h : a = b
      · simp [h]
      · have h2 : (a == b) = false := by simpa using h
        rw [decide_eq_false h, h2]
    | tuple ys =>
      simp only [dEq, sx, sy]
      rfl
    | _ => simp [stD] at hy
  | tuple xs =>
    cases y with
    | _ =>
      simp only [dEq, sx, sy]
      rfl
  | _ => simp [stD] at hx
theorem pNe_st {x y : PyData} (hx : stD x = true) (hy : stD y = true) (sx : shaped x = true) (sy : shaped y = true) : (x = y → pNe x y = some (.bool false)) ∧ (¬ x = y → pNe x y = some (.bool true)) := by
  unfold pNe
  rw [dEq_st hx hy sx sy]
  refine ⟨fun h => ?_, fun h => ?_⟩
  · subst h
    rw [SeqAt.eqv_refl x (shaped_lay sx)]
    rfl
  · cases e : PyData.eqv x y with
    | true => exact absurd (eqv_st x y hx hy e) h
    | false => rfl
theorem atI_last {α : Type} {xs : List α} {l : α} (h : xs.getLast? = some l) : atI xs (-1) = some l := by
  have hl : xs ≠ [] := fun e => by rw [e] at h; cases h
  have h0 : 0 < xs.length := List.length_pos_iff.mpr hl
  unfold atI ixN
  rw [if_neg (by omega), if_pos (by omega)]
  have e : (-1 + (xs.length : Int)).toNat = xs.length - 1 := by omega
  show xs[(-1 + (xs.length : Int)).toNat]? = some l
  rw [e, ← List.getLast?_eq_getElem?]
  exact h
def PS (x : PyData) : Prop := stD x = true ∧ shaped x = true
abbrev onceB : SF := sIf (bOr (bV (e2 (oP pEq) (eA oLen (aCons (eVar 1) (aNil))) (eC (.int 0)))) (bV (e2 (oP pNe) (e2 oSub (eVar 1) (e1 oNeg (eC (.int 1)))) (eVar 2)))) (sExpr (eMth mAppend (eVar 1) (aCons (eVar 2) (aNil)))) (sSkip)
theorem once_loop {z : Option Val} {n : Fw.Env → Store → Prop} {r : Val → Store → Prop} {b c : Fw.Env → Store → Prop} : ∀ (ys acc : List PyData) (x : Option Val), (∀ y ∈ acc ++ ys, PS y) → acc.length + ys.length ≤ 10000 → (∀ x, n [z, some (.r 0), x] [.lst ((ddGo acc ys).map .d)]) →
    Fw.V (forGo (.nm 2) onceB ys [z, some (.r 0), x] [.lst (acc.map .d)]) n r b c
  | [], acc, x, _, _, hn => by
    rw [V_for0]
    exact hn x
  | y :: ys, acc, x, hP, hl, hn => by
    rw [List.length_cons] at hl
    rw [V_for1]
    show Wp (some [z, some (.r 0), some (.d y)]) _
    rw [Wp_some]
    have hc : ([.lst (acc.map .d)] : Store)[0]? = some (.lst (acc.map .d)) := rfl
    have hlen : oLen [.r 0] [.lst (acc.map Val.d)] = some (.d (.int (acc.length : Int)), [.lst (acc.map .d)]) := by rw [len_cell hc, List.length_map]
    have add : Fw.V (sExpr (eMth mAppend (eVar 1) (aCons (eVar 2) (aNil))) [z, some (.r 0), some (.d y)] [.lst (acc.map .d)])
        (fun env S => Fw.V (forGo (.nm 2) onceB ys env S) n r b c) r n (fun env S => Fw.V (forGo (.nm 2) onceB ys env S) n r b c) ∨ acc.getLast? = some y := by
      by_cases h : acc.getLast? = some y
      · exact .inr h
      · refine .inl ?_
        rw [V_expr]
        refine W_append (i := 0) (xs := acc.map .d) (x := .d y) (by simp) hc (by simp) hc (by rw [List.length_map]; omega) ?_
        have e : ([.lst (acc.map Val.d)] : Store).set 0 (.lst (acc.map Val.d ++ [.d y])) = [.lst ((acc ++ [y]).map .d)] := by simp
        rw [e]
        refine once_loop ys (acc ++ [y]) _ (by simpa using hP) (by rw [List.length_append]; simp; omega) fun x => ?_
        have h2 := hn x
        unfold ddGo at h2
        rw [if_neg h] at h2
        exact h2
    rw [V_if]
    simp only [W_bOr, W_bV, W_e2, W_eA, W_cons, W_nil, W_var, W_c, List.getD_cons_zero, List.getD_cons_succ, Wp_some, hlen, Wl_some, oP_d, pEq_int, Option.map_some, truth_b]
    have ab : ∀ b : Bool, asB (Val.d (PyData.bool b)) = some b := fun _ => rfl
    have two : acc = [] ∨ ∃ f l, acc = f ++ [l] := (List.eq_nil_or_concat acc).imp id fun ⟨f, l, h⟩ => ⟨f, l, by rw [h, List.concat_eq_append]⟩
    rcases two with rfl | ⟨f, l, rfl⟩
    · rcases add with add | add
      · simpa using add
      · cases add
    · have hlast : (f ++ [l]).getLast? = some l := by simp
      have hl0 : ¬ ((f ++ [l]).length : Int) = 0 := by simp; omega
      have hat : oSub (.r 0) (.d (.int (-1))) [.lst ((f ++ [l]).map Val.d)] = some (.d l, [.lst ((f ++ [l]).map Val.d)]) := by
        rw [oSub_cell (vs := (f ++ [l]).map .d) rfl, atI_last (l := Val.d l) (by simp)]
        rfl
      have pl : PS l := hP l (by simp)
      have py : PS y := hP y (by simp)
      obtain ⟨k1, k2⟩ := pNe_st pl.1 py.1 pl.2 py.2
      rw [decide_eq_false hl0]
      simp only [W_e1, W_c, oNeg_int, Wl_some, hat, oP_d, ab, Wp_some]
      by_cases h : l = y
      · rw [k1 h]
        simp [truth_b]
        have h2 : ∀ x, n [z, some (.r 0), x] [.lst ((ddGo (f ++ [l]) ys).map .d)] := fun x => by
          have h3 := hn x
          unfold ddGo at h3
          rw [if_pos (by rw [hlast, h])] at h3
          exact h3
        have := once_loop (r := r) (b := b) (c := c) ys (f ++ [l]) (some (.d y)) (fun w hw => hP w (by
          rcases List.mem_append.mp hw with hw | hw
          · exact List.mem_append_left _ hw
          · exact List.mem_append_right _ (List.mem_cons_of_mem _ hw))) (by omega) h2
        simpa using this
      · rw [k2 h]
        rcases add with add | add
        · simpa [truth_b] using add
        · rw [hlast] at add
          exact absurd (Option.some.inj add) h
theorem once_ok {xs : List PyData} (hs : sortable xs = true) (hP : ∀ x ∈ xs, PS x) (hl : xs.length ≤ 10000) : pureF v_once [.list xs] = .ok (.list (ddGo [] (sortL xs))) := by
  have e1 : ∀ T : Store, oSorted false [.d (.list xs)] T = some (.d (.list (sortL xs)), T) := fun T => by
    have e1 : dictOf (.d (.list xs)) T = none := rfl
    have e2 : Fw.listOf (.d (.list xs)) T = some (xs.map .d) := rfl
    unfold oSorted
    simp only [e1, e2, pureAll_map, hs]
  have hp := sort_perm xs
  refine pureF1 ?_
  unfold v_once
  rw [W_fn (by rfl)]
  unfold b_once
  refine V_one fun G hG => ?_
  simp [oLstM]
  refine hG _ _ ?_
  clear hG
  refine V_one fun G hG => ?_
  simp [e1, itemsD]
  refine once_loop (sortL xs) [] _ (fun y hy => hP y (hp.mem_iff.mp (by simpa using hy))) (by rw [hp.length_eq]; simpa using hl) fun x => hG _ _ ?_
  clear hG
  simp
  exact ⟨_, toD_cellL (xs := ddGo [] (sortL xs)) rfl⟩
open PySem.W (dataLt)
theorem cmp_words {w : Str} {xs ys : List PyData} (h : cmpbL xs ys = true) : cmpb (.tuple (.str w :: xs)) (.tuple (.str w :: ys)) = true := by
  unfold cmpb cmpbL
  have e : cmpb (.str w) (.str w) = true := by unfold cmpb; rfl
  rw [e, h, Bool.or_true]
  rfl
theorem cmp_other {w u : Str} {xs ys : List PyData} (h : w ≠ u) : cmpb (.tuple (.str w :: xs)) (.tuple (.str u :: ys)) = true := by
  unfold cmpb cmpbL
  have e : cmpb (.str w) (.str u) = true := by unfold cmpb; rfl
  have e2 : PyData.eqv (.str w) (.str u) = false := by
    cases q : PyData.eqv (.str w) (.str u) with
    | false => rfl
    | true =>
      have := eqv_st (.str w) (.str u) rfl rfl q
      cases this
      exact absurd rfl h
  rw [e, e2]
  rfl
theorem cmp_two {a b a' b' : PyData} (h1 : cmpb a a' = true) (h2 : cmpb b b' = true) : cmpbL [a, b] [a', b'] = true := by
  have e0 : cmpbL ([] : List PyData) [] = true := by unfold cmpbL; rfl
  have e1 : cmpbL [b] [b'] = true := by
    unfold cmpbL
    rw [h2, e0, Bool.or_true]
    rfl
  unfold cmpbL
  rw [h1, e1, Bool.or_true]
  rfl
theorem cmp_enc : ∀ s t : Say, cmpb (enc s) (enc t) = true := by
  have e0 : cmpbL ([] : List PyData) [] = true := by unfold cmpbL; rfl
  have le1 : ∀ x y : Str, cmpbL [.str x] [.str y] = true := fun x y => by
    unfold cmpbL
    have e : cmpb (.str x) (.str y) = true := by unfold cmpb; rfl
    rw [e, e0, Bool.or_true]
    rfl
  intro s
  induction s with
  | tt =>
    intro t
    cases t with
    | tt => exact cmp_words e0
    | _ => exact cmp_other (by decide +kernel)
  | ff =>
    intro t
    cases t with
    | ff => exact cmp_words e0
    | _ => exact cmp_other (by decide +kernel)
  | le x =>
    intro t
    cases t with
    | le y => exact cmp_words (le1 x y)
    | _ => exact cmp_other (by decide +kernel)
  | an a b iha ihb =>
    intro t
    cases t with
    | an c d => exact cmp_words (cmp_two (iha c) (ihb d))
    | _ => exact cmp_other (by decide +kernel)
  | ou a b iha ihb =>
    intro t
    cases t with
    | ou c d => exact cmp_words (cmp_two (iha c) (ihb d))
    | _ => exact cmp_other (by decide +kernel)
  | im a b iha ihb =>
    intro t
    cases t with
    | im c d => exact cmp_words (cmp_two (iha c) (ihb d))
    | _ => exact cmp_other (by decide +kernel)
theorem st_enc : ∀ s : Say, stD (enc s) = true
  | .tt => rfl
  | .ff => rfl
  | .le x => by
    show stD (.tuple [.str "letter", .str x]) = true
    simp [stD, stL]
  | .an a b => by
    show stD (.tuple [.str "and", enc a, enc b]) = true
    simp [stD, stL, st_enc a, st_enc b]
  | .ou a b => by
    show stD (.tuple [.str "or", enc a, enc b]) = true
    simp [stD, stL, st_enc a, st_enc b]
  | .im a b => by
    show stD (.tuple [.str "if", enc a, enc b]) = true
    simp [stD, stL, st_enc a, st_enc b]
theorem enc_inj : ∀ {s t : Say}, enc s = enc t → s = t := by
  have wd : ∀ {w u : Str} {xs ys : List PyData}, PyData.tuple (.str w :: xs) = .tuple (.str u :: ys) → w = u ∧ xs = ys := fun h => by
    cases h
    exact ⟨rfl, rfl⟩
  have no : ∀ {w u : Str} {xs ys : List PyData}, w ≠ u → PyData.tuple (.str w :: xs) = .tuple (.str u :: ys) → False := fun h e => h (wd e).1
  intro s
  induction s with
  | tt =>
    intro t h
    cases t with
    | tt => rfl
    | _ => exact (no (by decide +kernel) h).elim
  | ff =>
    intro t h
    cases t with
    | ff => rfl
    | _ => exact (no (by decide +kernel) h).elim
  | le x =>
    intro t h
    cases t with
    | le y =>
      have := (wd h).2
      cases this
      rfl
    | _ => exact (no (by decide +kernel) h).elim
  | an a b iha ihb =>
    intro t h
    cases t with
    | an c d =>
      have := (wd h).2
      injection this with h1 h2
      injection h2 with h2 _
      rw [iha h1, ihb h2]
    | _ => exact (no (by decide +kernel) h).elim
  | ou a b iha ihb =>
    intro t h
    cases t with
    | ou c d =>
      have := (wd h).2
      injection this with h1 h2
      injection h2 with h2 _
      rw [iha h1, ihb h2]
    | _ => exact (no (by decide +kernel) h).elim
  | im a b iha ihb =>
    intro t h
    cases t with
    | im c d =>
      have := (wd h).2
      injection this with h1 h2
      injection h2 with h2 _
      rw [iha h1, ihb h2]
    | _ => exact (no (by decide +kernel) h).elim
theorem nm_ok {x : Str} (h : Nm x) : small (.str x) = true ∧ x.length ≤ 4 := by
  unfold Nm at h
  simp only [List.mem_cons, List.not_mem_nil, or_false] at h
  rcases h with rfl | rfl | rfl | rfl | rfl <;> decide +kernel
theorem small_enc : ∀ s : Say, inn Nm s → small (enc s) = true
  | .tt, _ => by decide +kernel
  | .ff, _ => by decide +kernel
  | .le x, h => by
    have h1 := (nm_ok h).1
    unfold enc
    rw [small_tup, small_cons, small_cons, h1, small_nil]
    exact by decide +kernel
  | .an a b, h => by
    unfold enc
    rw [small_tup, small_cons, small_cons, small_cons, small_enc a h.1, small_enc b h.2, small_nil]
    exact by decide +kernel
  | .ou a b, h => by
    unfold enc
    rw [small_tup, small_cons, small_cons, small_cons, small_enc a h.1, small_enc b h.2, small_nil]
    exact by decide +kernel
  | .im a b, h => by
    unfold enc
    rw [small_tup, small_cons, small_cons, small_cons, small_enc a h.1, small_enc b h.2, small_nil]
    exact by decide +kernel
theorem ps_enc {s : Say} (h : inn Nm s) (hd : dep s ≤ 20) : PS (enc s) := ⟨st_enc s, shaped_of (small_enc s h) (by have := depth_enc s; omega)⟩
theorem anti_enc : ∀ a, (∃ s : Say, a = enc s) → ∀ b, (∃ s : Say, b = enc s) → dataLt a b = false → dataLt b a = false → a = b := by
  rintro a ⟨s, rfl⟩ b ⟨t, rfl⟩ h1 h2
  exact st_anti (cmp_enc s t) (st_enc s) (st_enc t) h1 h2
theorem tupS_enc (s : Say) : isTupS (enc s) = true := by cases s <;> rfl
theorem sortable_enc {ws : List Say} (h : ∀ s ∈ ws, inn Nm s ∧ dep s ≤ 20) (hl : ws.length ≤ 10000) : sortable (ws.map enc) = true := by
  have h1 : cmpBs (ws.map enc) = true := List.all_eq_true.mpr fun x hx => List.all_eq_true.mpr fun y hy => by
    obtain ⟨s, _, rfl⟩ := List.mem_map.mp hx
    obtain ⟨t, _, rfl⟩ := List.mem_map.mp hy
    exact cmp_enc s t
  have h2 : (ws.map enc).all isTupS = true := List.all_eq_true.mpr fun x hx => by
    obtain ⟨s, _, rfl⟩ := List.mem_map.mp hx
    exact tupS_enc s
  have h3 : ((ws.map enc).all fun x => x.canLay0 && decide (x.depth ≤ 60)) = true := List.all_eq_true.mpr fun x hx => by
    obtain ⟨s, hs, rfl⟩ := List.mem_map.mp hx
    have h4 := h s hs
    have h5 := depth_enc s
    rw [small_lay _ (small_enc s h4.1), decide_eq_true (show (enc s).depth ≤ 60 by omega)]
    rfl
  unfold sortable
  rw [h1, h2, h3, decide_eq_true (by rw [List.length_map]; omega)]
  rfl
theorem subs_inn {P : Str → Prop} : ∀ s : Say, inn P s → ∀ u ∈ subs s, inn P u ∧ dep u ≤ dep s
  | .tt, h, u, hu => by rw [List.mem_singleton.mp hu]; exact ⟨trivial, Nat.le_refl _⟩
  | .ff, h, u, hu => by rw [List.mem_singleton.mp hu]; exact ⟨trivial, Nat.le_refl _⟩
  | .le x, h, u, hu => by rw [List.mem_singleton.mp hu]; exact ⟨h, Nat.le_refl _⟩
  | .an a b, h, u, hu => by
    rcases List.mem_cons.mp hu with rfl | hu
    · exact ⟨h, Nat.le_refl _⟩
    · rcases List.mem_append.mp hu with hu | hu
      · have := subs_inn a h.1 u hu
        exact ⟨this.1, by show dep u ≤ max (dep a) (dep b) + 1; omega⟩
      · have := subs_inn b h.2 u hu
        exact ⟨this.1, by show dep u ≤ max (dep a) (dep b) + 1; omega⟩
  | .ou a b, h, u, hu => by
    rcases List.mem_cons.mp hu with rfl | hu
    · exact ⟨h, Nat.le_refl _⟩
    · rcases List.mem_append.mp hu with hu | hu
      · have := subs_inn a h.1 u hu
        exact ⟨this.1, by show dep u ≤ max (dep a) (dep b) + 1; omega⟩
      · have := subs_inn b h.2 u hu
        exact ⟨this.1, by show dep u ≤ max (dep a) (dep b) + 1; omega⟩
  | .im a b, h, u, hu => by
    rcases List.mem_cons.mp hu with rfl | hu
    · exact ⟨h, Nat.le_refl _⟩
    · rcases List.mem_append.mp hu with hu | hu
      · have := subs_inn a h.1 u hu
        exact ⟨this.1, by show dep u ≤ max (dep a) (dep b) + 1; omega⟩
      · have := subs_inn b h.2 u hu
        exact ⟨this.1, by show dep u ≤ max (dep a) (dep b) + 1; omega⟩
open PySem.W (dataLt)
theorem V_while1 {k : Nat} {p : BF} {f : SF} {env : Fw.Env} {S : Store} {n : Fw.Env → Store → Prop} {r : Val → Store → Prop} {b c : Fw.Env → Store → Prop} :
    Fw.V (sWhile (k + 1) p f env S) n r b c = W (p env S) fun q S => (q = true → Fw.V (f env S) (fun env S => Fw.V (sWhile k p f env S) n r b c) r n (fun env S => Fw.V (sWhile k p f env S) n r b c)) ∧ (q = false → n env S) := by
  refine V_sB.trans ?_
  congr
  funext q S
  cases q
  · simp [V_nx]
  · simp only [Bool.true_eq_false, false_implies, and_true, true_implies]
    exact V_sLoop
abbrev ainC : BF := bV (e2 (oP pGt) (eA oLen (aCons (eVar 2) (aNil))) (eC (.int 0)))
abbrev ainB : SF := sSeq (sSet 3 (eMth mPop (eVar 2) aNil)) <|
  sSeq (sExpr (eMth mAppend (eVar 1) (aCons (eVar 3) (aNil)))) <|
  sExpr (eMth mExtend (eVar 2) (aCons (eP (pureF v_inner) (aCons (eVar 3) (aNil))) (aNil)))
def encs (ws : List Say) : List Val := (ws.map enc).map .d
theorem W_pop {f : EF} {env : Fw.Env} {S : Store} {Q : Val → Store → Prop} {i : Nat} {xs : List Val} {v : Val} (hf : W (f env S) fun v T => v = .r i ∧ T = S) (hc : S[i]? = some (.lst (xs ++ [v])))
    (k : Q v (S.set i (.lst xs))) : W (eMth mPop f aNil env S) Q := by
  have e : eMth mPop f aNil env S = .ok v (S.set i (.lst xs)) := by
    have e1 : aNil env S = .ok [] S := rfl
    unfold eMth
    simp only [hf.to, R.bind, hc, e1]
    unfold mPop
    simp
  rw [e, W_ok]
  exact k
theorem W_extendT {f : EF} {g : AF} {env : Fw.Env} {S : Store} {Q : Val → Store → Prop} {i : Nat} {xs : List Val} {ys : List PyData} (hf : W (f env S) fun v T => v = .r i ∧ T = S) (hc : S[i]? = some (.lst xs)) (hg : W (g env S) fun vs T => vs = [.d (.tuple ys)] ∧ T = S) (hl : xs.length + ys.length ≤ 100000)
    (k : Q (.d .none) (S.set i (.lst (xs ++ ys.map .d)))) : W (eMth mExtend f g env S) Q := by
  have e : eMth mExtend f g env S = .ok (.d .none) (S.set i (.lst (xs ++ ys.map .d))) := by
    have e0 : Fw.listOf (.d (.tuple ys)) S = none := rfl
    unfold eMth
    simp only [hf.to, hg.to, R.bind, hc]
    unfold mExtend
    simp only [e0]
    rw [decide_eq_true hl]
    rfl
  rw [e, W_ok]
  exact k
theorem ain_loop {z : Option Val} {n : Fw.Env → Store → Prop} {r : Val → Store → Prop} {b c : Fw.Env → Store → Prop} {all0 : List Say} (hall : all0.length ≤ 5000) (hn : ∀ x (ws : List Say), ws.Perm all0 → n [z, some (.r 0), some (.r 1), x] [.lst (encs ws), .lst []]) :
    ∀ (fuel : Nat) (ws pl : List Say) (x : Option Val), (pl.flatMap subs).length < fuel → (ws ++ pl.flatMap subs).Perm all0 → Fw.V (sWhile fuel ainC ainB [z, some (.r 0), some (.r 1), x] [.lst (encs ws), .lst (encs pl)]) n r b c
  | 0, ws, pl, x, h, _ => absurd h (Nat.not_lt_zero _)
  | fuel + 1, ws, pl, x, h, hp => by
    have hplen := hp.length_eq
    rw [List.length_append] at hplen
    have hple : pl.length ≤ (pl.flatMap subs).length := by
      clear h hp hplen
      induction pl with
      | nil => exact Nat.zero_le _
      | cons s pl ih =>
        rw [List.flatMap_cons, List.length_append, List.length_cons]
        have : 1 ≤ (subs s).length := by rw [subs_eq]; simp
        omega
    rw [V_while1]
    have hlen : oLen [.r 1] [.lst (encs ws), .lst (encs pl)] = some (.d (.int (pl.length : Int)), [.lst (encs ws), .lst (encs pl)]) := by
      rw [len_cell (vs := encs pl) rfl]
      unfold encs
      rw [List.length_map, List.length_map]
    simp only [W_bV, W_e2, W_eA, W_cons, W_nil, W_var, W_c, List.getD_cons_zero, List.getD_cons_succ, Wp_some, hlen, Wl_some, oP_d, pGt_int, Option.map_some]
    have ab : ∀ b : Bool, asB (Val.d (PyData.bool b)) = some b := fun _ => rfl
    rw [ab, Wp_some]
    have two : pl = [] ∨ ∃ f l, pl = f ++ [l] := (List.eq_nil_or_concat pl).imp id fun ⟨f, l, h⟩ => ⟨f, l, by rw [h, List.concat_eq_append]⟩
    rcases two with rfl | ⟨f, l, rfl⟩
    · refine ⟨fun h => by simp at h, fun _ => ?_⟩
      exact hn x ws (by simpa using hp)
    · refine ⟨fun _ => ?_, fun h => by simp at h⟩
      have e1 : (f ++ [l]).flatMap subs = f.flatMap subs ++ (l :: (parts2 l).flatMap subs) := by
        rw [List.flatMap_append, List.flatMap_cons, List.flatMap_nil, List.append_nil, subs_eq l]
      have hpl := parts_len l
      rw [e1] at h hp hplen hple
      rw [List.length_append, List.length_cons] at h hplen
      rw [List.length_append, List.length_singleton, List.length_append, List.length_cons] at hple
      refine V_one fun G hG => ?_
      rw [V_set]
      refine W_pop (i := 1) (xs := encs f) (v := .d (enc l)) (by simp) (by simp [encs]) ?_
      refine hG _ [.lst (encs ws), .lst (encs f)] ?_
      clear hG
      refine V_one fun G hG => ?_
      rw [V_expr]
      have w5 : (encs ws).length = ws.length := by unfold encs; rw [List.length_map, List.length_map]
      have f5 : (encs f).length = f.length := by unfold encs; rw [List.length_map, List.length_map]
      refine W_append (i := 0) (S2 := [.lst (encs ws), .lst (encs f)]) (xs := encs ws) (x := .d (enc l)) (by simp) rfl (by simp) rfl (by omega) ?_
      refine hG _ [.lst (encs ws ++ [.d (enc l)]), .lst (encs f)] ?_
      clear hG
      rw [V_expr]
      refine W_extendT (i := 1) (xs := encs f) (ys := (parts2 l).map enc) (by simp) rfl (by simp [inner_ok]) (by rw [List.length_map]; omega) ?_
      have e2 : ([.lst (encs ws ++ [.d (enc l)]), .lst (encs f)] : Store).set 1 (.lst (encs f ++ ((parts2 l).map enc).map .d)) = [.lst (encs (ws ++ [l])), .lst (encs (f ++ parts2 l))] := by simp [encs]
      rw [e2]
      refine ain_loop hall hn fuel (ws ++ [l]) (f ++ parts2 l) _ ?_ ?_
      · rw [List.flatMap_append, List.length_append]
        omega
      · refine List.Perm.trans ?_ hp
        rw [List.flatMap_append, List.append_assoc]
        refine List.Perm.append_left ws ?_
        show (l :: (f.flatMap subs ++ (parts2 l).flatMap subs)).Perm _
        exact List.perm_middle.symm
theorem all_in_ok {s : Say} (h : inn Nm s) (hd : dep s ≤ 8) : ∃ ws : List Say, pureF v_all_in [.list [enc s]] = .ok (.list (ws.map enc)) ∧ ws.Nodup ∧ ws.length ≤ 511 ∧ ∀ u, u ∈ ws ↔ u ∈ subs s := by
  have hz := small_dep hd
  have hsub := subs_inn s h
  -- what `once` gives for a rearrangement
  have key : ∀ vs : List Say, vs.Perm (subs s) → ∃ ws : List Say, pureF v_once [.list (vs.map enc)] = .ok (.list (ws.map enc)) ∧ ws.Nodup ∧ ws.length ≤ 511 ∧ ∀ u, u ∈ ws ↔ u ∈ subs s := fun vs hv => by
    have hin : ∀ u ∈ vs, inn Nm u ∧ dep u ≤ 20 := fun u hu => by
      have := hsub u (hv.mem_iff.mp hu)
      exact ⟨this.1, by omega⟩
    have hl : vs.length ≤ 511 := by rw [hv.length_eq]; exact hz
    have o := once_ok (sortable_enc hin (by omega)) (fun x hx => by
      obtain ⟨u, hu, rfl⟩ := List.mem_map.mp hx
      exact ps_enc (hin u hu).1 (hin u hu).2) (by rw [List.length_map]; omega)
    obtain ⟨d1, d2⟩ := dd_sort (P := fun x => ∃ s : Say, x = enc s) (xs := vs.map enc) anti_enc fun z hz => by
      obtain ⟨u, _, rfl⟩ := List.mem_map.mp hz
      exact ⟨u, rfl⟩
    have back : ∀ ys : List PyData, (∀ z ∈ ys, z ∈ vs.map enc) → ∃ ws : List Say, ys = ws.map enc := fun ys hy => by
      induction ys with
      | nil => exact ⟨[], rfl⟩
      | cons y ys ih =>
        obtain ⟨ws, e⟩ := ih fun z hz => hy z (List.mem_cons_of_mem _ hz)
        obtain ⟨u, _, e2⟩ := List.mem_map.mp (hy y List.mem_cons_self)
        exact ⟨u :: ws, by rw [List.map_cons, e, e2]⟩
    obtain ⟨ws, e⟩ := back _ fun z hz => (d2 z).mp hz
    have dl := dd_len (sortL (vs.map enc)) []
    rw [(sort_perm _).length_eq, List.length_map] at dl
    rw [e] at o d1 d2 dl
    rw [List.length_map] at dl
    refine ⟨ws, o, (List.pairwise_map.mp d1).imp fun h e => h (congrArg enc e), by simp at dl; omega, fun u => ?_⟩
    have m : ∀ ls : List Say, enc u ∈ ls.map enc ↔ u ∈ ls := fun ls => by
      constructor
      · intro hh
        obtain ⟨t, ht, e3⟩ := List.mem_map.mp hh
        rw [← enc_inj e3]
        exact ht
      · exact fun hh => List.mem_map.mpr ⟨u, hh, rfl⟩
    rw [← m ws, d2, m vs, hv.mem_iff]
  have elist : ∀ T : Store, oListD true [.d (.list [enc s])] T = some (.r T.length, T ++ [.lst (encs [s])]) := fun T => rfl
  have run : W (v_all_in [.d (.list [enc s])] []) fun v T => ∃ ws : List Say, (∃ S', toD v T = some (.list (ws.map enc), S')) ∧ ws.Nodup ∧ ws.length ≤ 511 ∧ ∀ u, u ∈ ws ↔ u ∈ subs s := by
    unfold v_all_in
    rw [W_fn (by rfl)]
    unfold b_all_in
    refine V_one fun G hG => ?_
    simp [oLstM]
    refine hG _ _ ?_
    clear hG
    refine V_one fun G hG => ?_
    simp [elist]
    refine hG _ [.lst (encs []), .lst (encs [s])] ?_
    clear hG
    refine V_one fun G hG => ?_
    refine ain_loop (all0 := subs s) (by omega) (fun x ws hw => hG _ _ ?_) 1000 [] [s] _ (by simp; omega) (by simp)
    clear hG
    obtain ⟨us, k1, k2, k4, k3⟩ := key ws hw
    have e9 : toDs [.r 0] [.lst (encs ws), .lst []] = some ([.list (ws.map enc)], [.frz (.list (ws.map enc)), .lst []]) := by
      have := toD_cellL (S := [.lst (encs ws), .lst []]) (i := 0) (xs := ws.map enc) rfl
      rw [toDs_r this]
      rfl
    simp [e9, k1]
    exact ⟨us, rfl, k2, k4, k3⟩
  obtain ⟨v, T, e, ws, ⟨S', e2⟩, k2, k4, k3⟩ := run.run
  refine ⟨ws, pureF1 ?_, k2, k4, k3⟩
  exact .of e ⟨S', e2⟩
open PySem.W (dataLt)
def letters : Say → List Str
  | .le x => [x]
  | .an a b => letters a ++ letters b
  | .ou a b => letters a ++ letters b
  | .im a b => letters a ++ letters b
  | _ => []
theorem mem_letters (x : Str) : ∀ s : Say, .le x ∈ subs s ↔ x ∈ letters s
  | .tt => by simp [subs, letters]
  | .ff => by simp [subs, letters]
  | .le y => by simp [subs, letters]
  | .an a b => by simp [subs, letters, mem_letters x a, mem_letters x b]
  | .ou a b => by simp [subs, letters, mem_letters x a, mem_letters x b]
  | .im a b => by simp [subs, letters, mem_letters x a, mem_letters x b]
def lets (s : Say) : List Str := n4.filter fun x => decide (x ∈ letters s)
theorem mem_lets {s : Say} (h : inn Nm s) (x : Str) : x ∈ lets s ↔ .le x ∈ subs s := by
  unfold lets
  rw [List.mem_filter, decide_eq_true_eq, mem_letters]
  refine ⟨fun z => z.2, fun z => ⟨?_, z⟩⟩
  have := (subs_inn s h (.le x) ((mem_letters x s).mpr z)).1
  exact this
theorem lets_nd (s : Say) : (lets s).Nodup := List.filter_sublist.nodup (by decide +kernel)
theorem cmp_str (x y : Str) : cmpb (.str x) (.str y) = true := by unfold cmpb; rfl
theorem sort_lets (f : Str → Bool) : sortL ((n4.filter f).map .str) = (n4.filter f).map .str := by
  refine sort_unique (List.Perm.refl _) ?_ fun a ha b hb h1 h2 => ?_
  · have h : (n4.map PyData.str).Pairwise fun a b => dataLt b a = false := by
      unfold n4
      simp only [List.map_cons, List.map_nil]
      decide +kernel
    exact h.sublist (List.filter_sublist.map _)
  · obtain ⟨x, _, rfl⟩ := List.mem_map.mp ha
    obtain ⟨y, _, rfl⟩ := List.mem_map.mp hb
    exact st_anti (cmp_str x y) rfl rfl h1 h2
def nameOf : Say → Str
  | .le x => x
  | _ => ""
theorem isLe_word (u : Say) : decide (word u = ("letter" : Str)) = isLe u := by
  cases u with
  | tt => decide +kernel
  | ff => decide +kernel
  | le x =>
    show decide (("letter" : Str) = "letter") = true
    decide +kernel
  | an a b =>
    show decide (("and" : Str) = "letter") = false
    decide +kernel
  | ou a b =>
    show decide (("or" : Str) = "letter") = false
    decide +kernel
  | im a b =>
    show decide (("if" : Str) = "letter") = false
    decide +kernel
theorem isLe_of {u : Say} (h : isLe u = true) : u = .le (nameOf u) := by
  cases u with
  | le x => rfl
  | _ => cases h
theorem names_perm {s : Say} (h : inn Nm s) {ws : List Say} (hn : ws.Nodup) (hm : ∀ u, u ∈ ws ↔ u ∈ subs s) : ((ws.filter isLe).map nameOf).Perm (lets s) := by
  refine (List.perm_ext_iff_of_nodup ?_ (lets_nd s)).mpr fun x => ?_
  · refine List.pairwise_map.mpr ((List.filter_sublist.nodup hn).imp_of_mem fun {a b} ha hb hne e => hne ?_)
    rw [isLe_of (List.mem_filter.mp ha).2, isLe_of (List.mem_filter.mp hb).2, e]
  · rw [mem_lets h]
    constructor
    · intro z
      obtain ⟨u, hu, rfl⟩ := List.mem_map.mp z
      obtain ⟨h1, h2⟩ := List.mem_filter.mp hu
      rw [← isLe_of h2]
      exact (hm u).mp h1
    · intro z
      exact List.mem_map.mpr ⟨.le x, List.mem_filter.mpr ⟨(hm _).mpr z, rfl⟩, rfl⟩
theorem sub1w {u : Say} {S : Store} (h : isLe u = true) : oSub (.d (enc u)) (.d (.int 1)) S = some (.d (.str (nameOf u)), S) := by
  rw [isLe_of h]
  rfl
theorem sorted_strs {ks : List Str} {S : Store} (h : ∀ x ∈ ks, Nm x) (hl : ks.length ≤ 10000) : oSorted false [.d (.list (ks.map .str))] S = some (.d (.list (sortL (ks.map .str))), S) := by
  have hs : sortable (ks.map .str) = true := by
    have h1 : cmpBs (ks.map .str) = true := List.all_eq_true.mpr fun x hx => List.all_eq_true.mpr fun y hy => by
      obtain ⟨s, _, rfl⟩ := List.mem_map.mp hx
      obtain ⟨t, _, rfl⟩ := List.mem_map.mp hy
      exact cmp_str s t
    have h2 : (ks.map PyData.str).all notTup = true := List.all_eq_true.mpr fun x hx => by
      obtain ⟨s, _, rfl⟩ := List.mem_map.mp hx
      rfl
    have h3 : ((ks.map PyData.str).all fun x => x.canLay0 && decide (x.depth ≤ 60)) = true := List.all_eq_true.mpr fun x hx => by
      obtain ⟨s, hs, rfl⟩ := List.mem_map.mp hx
      rw [small_lay _ (nm_ok (h s hs)).1]
      rfl
    unfold sortable
    rw [h1, h2, h3, Bool.or_true, decide_eq_true (by rw [List.length_map]; omega)]
    rfl
  have e1 : dictOf (.d (.list (ks.map PyData.str))) S = none := rfl
  have e2 : Fw.listOf (.d (.list (ks.map PyData.str))) S = some ((ks.map PyData.str).map .d) := rfl
  unfold oSorted
  simp only [e1, e2, pureAll_map, hs]
theorem names_in_ok {s : Say} (h : inn Nm s) (hd : dep s ≤ 8) : pureF v_names_in [.list [enc s]] = .ok (.list ((lets s).map .str)) := by
  obtain ⟨ws, k1, k2, hlw, k3⟩ := all_in_ok h hd
  have hp := names_perm h k2 k3
  have eg : ((ws.filter isLe).map fun u => PyData.str (nameOf u)) = ((ws.filter isLe).map nameOf).map .str := by rw [List.map_map]; rfl
  refine pureF1 ?_
  unfold v_names_in
  rw [W_fn (by rfl)]
  unfold b_names_in
  simp [k1, itemsD]
  refine W_lcM enc (fun u => PyData.str (nameOf u)) isLe (fun u hu => ⟨_, rfl, ?_, fun hu2 => ?_⟩) (by omega) ?_
  · simp [wipeE, sub0, isLe_word, truth_b]
  · simp [wipeE, sub1w hu2]
  · rw [eg, sorted_strs (fun x hx => by
      have := (hp.mem_iff.mp hx)
      exact (List.mem_filter.mp this).1) (by rw [List.length_map]; have := List.length_filter_le isLe ws; omega), Wl_some, sortL_perm hp]
    unfold lets
    rw [sort_lets]
    exact ⟨[], rfl⟩
open PySem.W (dataLt)
theorem law_names_ok {s : Say} (h : inn Nm s) (hd : dep s ≤ 8) : pureF v__law_names [enc s] = .ok (.list ((lets s).map .str)) := by
  have hz := small_dep hd
  have eg : (((subs s).filter isLe).map fun u => PyData.str (nameOf u)) = (((subs s).filter isLe).map nameOf).map .str := by rw [List.map_map]; rfl
  have hp : (dedupS (((subs s).filter isLe).map nameOf)).Perm (lets s) := (List.perm_ext_iff_of_nodup nodup_dedup (lets_nd s)).mpr fun x => by
    rw [mem_dedup, mem_lets h]
    constructor
    · intro z
      obtain ⟨u, hu, rfl⟩ := List.mem_map.mp z
      obtain ⟨h1, h2⟩ := List.mem_filter.mp hu
      rw [← isLe_of h2]
      exact h1
    · intro z
      exact List.mem_map.mpr ⟨.le x, List.mem_filter.mpr ⟨z, rfl⟩, rfl⟩
  have hl : (((subs s).filter isLe).map nameOf).length < 4000 := by
    rw [List.length_map]
    have := List.length_filter_le isLe (subs s)
    omega
  have es : ∀ T : Store, oSortSet false [.d (.list ((((subs s).filter isLe).map nameOf).map .str))] T = some (.d (.list ((lets s).map .str)), T) := fun T => by
    have e2 : Fw.listOf (.d (.list ((((subs s).filter isLe).map nameOf).map PyData.str))) T = some (((((subs s).filter isLe).map nameOf).map PyData.str).map Val.d) := rfl
    unfold oSortSet
    simp only [e2, pureAll_map, Fw.strs_map, decide_eq_true hl]
    rw [sortL_perm hp]
    unfold lets
    rw [sort_lets]
  refine pureF1 ?_
  unfold v__law_names
  rw [W_fn (by rfl)]
  unfold b__law_names
  simp [law_all_ok 40 s (by omega) hd, itemsD]
  refine W_lcM enc (fun u => PyData.str (nameOf u)) isLe (fun u hu => ⟨_, rfl, ?_, fun hu2 => ?_⟩) (by omega) ?_
  · simp [wipeE, sub0, isLe_word, truth_b]
  · simp [wipeE, sub1w hu2]
  · rw [eg, es, Wl_some]
    exact ⟨[], rfl⟩
theorem map_mem {α β : Type} {f g : α → β} : ∀ {xs : List α}, xs.map f = xs.map g → ∀ x ∈ xs, f x = g x
  | [], _, _, h => by cases h
  | y :: ys, h, x, hx => by
    injection h with h1 h2
    rcases List.mem_cons.mp hx with rfl | hx
    · exact h1
    · exact map_mem h2 x hx
def n5 : List Str := ["a", "bb", "p", "q", "zz"]
open PySem.W (dataLt)
theorem seq_nx {f g : SF} {env env' : Fw.Env} {S S' : Store} (h : f env S = .ok (.nx, env') S') : sSeq f g env S = g env' S' := by
  show sThen (f env S) g = _
  rw [h]
  rfl
theorem seq_rs {f g : SF} {env env' : Fw.Env} {S S' : Store} {k : Str} {x : PyData} (h : f env S = .ok (.rs k x, env') S') : sSeq f g env S = .ok (.rs k x, env') S' := by
  show sThen (f env S) g = _
  rw [h]
  rfl
theorem expr_ok {e : EF} {env : Fw.Env} {S S' : Store} {v : Val} (h : e env S = .ok v S') : sExpr e env S = .ok (.nx, env) S' := by
  show sB (e env S) env _ = _
  rw [h]
  rfl
theorem expr_ex {e : EF} {env : Fw.Env} {S S' : Store} {k : Str} {x : PyData} (h : e env S = .ex k x S') : sExpr e env S = .ok (.rs k x, env) S' := by
  show sB (e env S) env _ = _
  rw [h]
  rfl
theorem if_tt {p : BF} {f g : SF} {env : Fw.Env} {S S' : Store} (h : p env S = .ok true S') : sIf p f g env S = f env S' := by
  show sB (p env S) env _ = _
  rw [h]
  rfl
theorem if_ff {p : BF} {f g : SF} {env : Fw.Env} {S S' : Store} (h : p env S = .ok false S') : sIf p f g env S = g env S' := by
  show sB (p env S) env _ = _
  rw [h]
  rfl
theorem eP_of {f : List PyData → Out} {g : AF} {env : Fw.Env} {S S' S2 : Store} {vs : List Val} {xs : List PyData} (hg : g env S = .ok vs S') (hd : toDs vs S' = some (xs, S2)) : eP f g env S = liftO (f xs) S2 := by
  unfold eP
  rw [hg]
  show (match toDs vs S' with | some (xs, S2) => liftO (f xs) S2 | none => .bad) = _
  rw [hd]
theorem need_saying_bad {x : PyData} (hf : pureF (v_is_saying_in 40) [x] = .ok (.bool false)) (ha : pureF (v_anew 40) [x] = .ok x) : v_need_saying [.d x] [] = .ex "InvalidSaying" x [] := by
  have e1 : eP (pureF (v_is_saying_in 40)) (aCons (eVar 0) aNil) [some (.d x)] [] = .ok (.d (.bool false)) [] := by
    rw [eP_of (vs := [.d x]) (xs := [x]) rfl rfl, hf]
    rfl
  have e2 : eP (pureF (v_anew 40)) (aCons (eVar 0) aNil) [some (.d x)] [] = .ok (.d x) [] := by
    rw [eP_of (vs := [.d x]) (xs := [x]) rfl rfl, ha]
    rfl
  have hc : bNot (bT (eP (pureF (v_is_saying_in 40)) (aCons (eVar 0) aNil))) [some (.d x)] [] = .ok true [] := by
    have w : W (bNot (bT (eP (pureF (v_is_saying_in 40)) (aCons (eVar 0) aNil))) [some (.d x)] []) fun b T => b = true ∧ T = [] := by
      simp only [W_bNot, W_bT, e1]
      simp [truth_b]
    exact w.to
  show outOf (sIf _ _ _ [some (.d x)] []) = _
  rw [if_tt hc]
  show outOf (sB (eP (pureF (v_anew 40)) (aCons (eVar 0) aNil) [some (.d x)] []) _ _) = _
  rw [e2]
  rfl
theorem ok_app {x y : Str} (h1 : PyData.strOk x = true) (h2 : PyData.strOk y = true) : PyData.strOk (x ++ y) = true := by
  show (x.cps ++ y.cps).all _ = true
  rw [Array.all_append]
  unfold PyData.strOk at h1 h2
  rw [h1, h2]
  rfl
theorem ok_join : ∀ ts : List Str, (∀ t ∈ ts, PyData.strOk t = true) → PyData.strOk (Str.join ", " ts) = true
  | [], _ => by decide +kernel
  | [x], h => h x List.mem_cons_self
  | x :: y :: r, h => by
    show PyData.strOk (x ++ ", " ++ Str.join ", " (y :: r)) = true
    exact ok_app (ok_app (h x List.mem_cons_self) (by decide +kernel)) (ok_join (y :: r) fun t ht => h t (List.mem_cons_of_mem _ ht))
theorem ok_tup (ts : List Str) (h : ∀ t ∈ ts, PyData.strOk t = true) : PyData.strOk (tupleText ts) = true := by
  unfold tupleText
  exact ok_app (ok_app (by decide +kernel) (ok_join ts h)) (by split <;> decide +kernel)
theorem ok_three {w : Str} {x y : PyData} (hw : PyData.strOk (PyData.str w).shown = true) (hx : PyData.strOk x.shown = true) (hy : PyData.strOk y.shown = true) : PyData.strOk (PyData.tuple [.str w, x, y]).shown = true := by
  show PyData.strOk (tupleText [(PyData.str w).shown, x.shown, y.shown]) = true
  refine ok_tup _ fun t ht => ?_
  simp only [List.mem_cons, List.not_mem_nil, or_false] at ht
  rcases ht with rfl | rfl | rfl
  · exact hw
  · exact hx
  · exact hy
theorem ok_two {w : Str} {x : PyData} (hw : PyData.strOk (PyData.str w).shown = true) (hx : PyData.strOk x.shown = true) : PyData.strOk (PyData.tuple [.str w, x]).shown = true := by
  show PyData.strOk (tupleText [(PyData.str w).shown, x.shown]) = true
  refine ok_tup _ fun t ht => ?_
  simp only [List.mem_cons, List.not_mem_nil, or_false] at ht
  rcases ht with rfl | rfl
  · exact hw
  · exact hx
theorem ok_enc : ∀ s : Say, inn Nm s → PyData.strOk (enc s).shown = true
  | .tt, _ => by decide +kernel
  | .ff, _ => by decide +kernel
  | .le x, h => by
    refine ok_two (by decide +kernel) ?_
    have h' : x ∈ (["ab", "abcd", "p", "x", "zz"] : List Str) := h
    simp only [List.mem_cons, List.not_mem_nil, or_false] at h'
    rcases h' with rfl | rfl | rfl | rfl | rfl <;> decide +kernel
  | .an a b, h => ok_three (by decide +kernel) (ok_enc a h.1) (ok_enc b h.2)
  | .ou a b, h => ok_three (by decide +kernel) (ok_enc a h.1) (ok_enc b h.2)
  | .im a b, h => ok_three (by decide +kernel) (ok_enc a h.1) (ok_enc b h.2)
theorem anew_tup {n : Nat} {xs : List PyData} (h : ∀ x ∈ xs, pureF (v_anew n) [x] = .ok x) (hl : xs.length ≤ 1000) : pureF (v_anew (n + 1)) [.tuple xs] = .ok (.tuple xs) := by
  refine pureF1 ?_
  show W (fnV 1 1 (b_anew (v_anew n)) [.d (.tuple xs)] []) _
  rw [W_fn (by rfl)]
  unfold b_anew
  refine V_one fun G hG => ?_
  simp [isi_tup, truth_b, items_tup]
  refine W_lcAll id (fun x hx => ⟨_, rfl, ?_⟩) (by omega) ?_
  · simp [wipeE, h x hx]
  · rw [List.map_id, tuple_of, Wl_some]
    exact ⟨[], rfl⟩
theorem anew_str (n : Nat) (w : Str) : pureF (v_anew (n + 1)) [.str w] = .ok (.str w) := rfl
theorem shB_two {w : Str} {x y : PyData} {m n : Nat} (hw : shB (.str w) ≤ 32) (h1 : shB x + 50 ≤ 200 * 2 ^ m) (h2 : shB y + 50 ≤ 200 * 2 ^ n) : shB (.tuple [.str w, x, y]) + 50 ≤ 200 * 2 ^ (max m n + 1) := by
  have e1 : 2 ^ m ≤ 2 ^ max m n := Nat.pow_le_pow_right (by decide) (Nat.le_max_left m n)
  have e2 : 2 ^ n ≤ 2 ^ max m n := Nat.pow_le_pow_right (by decide) (Nat.le_max_right m n)
  rw [Nat.pow_succ]
  simp only [shB, shBL] at hw ⊢
  omega
theorem shB_enc : ∀ s : Say, inn Nm s → shB (enc s) + 50 ≤ 200 * 2 ^ dep s
  | .tt, _ => by decide +kernel
  | .ff, _ => by decide +kernel
  | .le x, h => by
    have h1 := (nm_ok h).2
    show shB (.tuple [.str "letter", .str x]) + 50 ≤ 200 * 2 ^ 0
    simp only [shB, shBL]
    have e : (Str.ofString "letter").length = 6 := by decide +kernel
    rw [e]
    omega
  | .an a b, h => shB_two (by decide +kernel) (shB_enc a h.1) (shB_enc b h.2)
  | .ou a b, h => shB_two (by decide +kernel) (shB_enc a h.1) (shB_enc b h.2)
  | .im a b, h => shB_two (by decide +kernel) (shB_enc a h.1) (shB_enc b h.2)
open PySem.W (dataLt)
theorem pMul_left {i j : Int} (h : bd 64 i) : pMul (.int i) (.int j) = some (.int (i * j)) := by
  have h2 := (PySem.intBits_le_iff (m := 64) (x := i)).mpr h
  show when _ _ = _
  rw [decide_eq_true (by unfold bitsI; omega)]
  rfl
theorem len_scr {ns : List Int} {S : Store} : oLen [scrV ns] S = some (.d (.int (ns.length : Int)), S) := by
  show (some (Val.d (.int (((ns.map PyData.int).map Val.d).length : Int)), S)) = _
  rw [List.length_map, List.length_map]
theorem sub_scr {ns : List Int} {k : Nat} {S : Store} (h : k < ns.length) : oSub (scrV ns) (.d (.int (k : Int))) S = some (.d (.int (ns.getD k 0)), S) := by
  have e : atI ((ns.map PyData.int).map Val.d) (k : Int) = some (.d (.int (ns.getD k 0))) := Fw.atI_nat (by
    rw [List.getElem?_map, List.getElem?_map, List.getElem?_eq_getElem h, List.getD_eq_getElem?_getD, List.getElem?_eq_getElem h]
    rfl)
  show (atI ((ns.map PyData.int).map Val.d) (k : Int)).map _ = _
  rw [e]
  rfl
abbrev srcB : SF := sSet 3 (e2 (oP pMod) (eA oInt (aCons (e2 (oP pAdd) (e2 (oP pMul) (eVar 3) (eC (.int 1000003))) (e2 (oP pMul) (eA oInt (aCons (eVar 5) (aNil))) (e2 (oP pAdd) (e2 (oP pMul) (eC (.int 2)) (eVar 4)) (eC (.int 5))))) (aNil))) (e2 (oP pAdd) (e2 (oP pPow) (eC (.int 10)) (eC (.int 21))) (eC (.int 117))))
theorem src_loop {z0 z1 z2 z6 : Option Val} {S : Store} {n : Fw.Env → Store → Prop} {r : Val → Store → Prop} {b c : Fw.Env → Store → Prop} (hn : ∀ (o : Int) x y, 0 ≤ o → o < 1000000000000000000117 → n [z0, z1, z2, some (.d (.int o)), x, y, z6] S) :
    ∀ (xs : List Int) (k : Nat) (o : Int) (x y : Option Val), k + xs.length ≤ 1000 → 0 ≤ o → o < 1000000000000000000117 → Fw.V (forGo (.tup [.nm 4, .nm 5]) srcB (pairs (ups k xs.length) (xs.map .int)) [z0, z1, z2, some (.d (.int o)), x, y, z6] S) n r b c
  | [], k, o, x, y, _, h0, h1 => by
    show Fw.V (forGo _ _ [] _ _) _ _ _ _
    rw [V_for0]
    exact hn o x y h0 h1
  | m :: xs, k, o, x, y, hl, h0, h1 => by
    rw [List.length_cons] at hl
    show Fw.V (forGo _ _ (.tuple [.int (k : Int), .int m] :: pairs (ups (k + 1) xs.length) (xs.map .int)) _ _) _ _ _ _
    rw [V_for1]
    show Wp (some [z0, z1, z2, some (.d (.int o)), some (.d (.int (k : Int))), some (.d (.int m)), z6]) _
    rw [Wp_some]
    have b1 : bd 64 1000003 := bd_of (by omega) (by omega)
    have b2 : bd 64 2 := bd_of (by omega) (by omega)
    have b3 : bd 64 (2 * (k : Int) + 5) := bd_of (by omega) (by omega)
    simp [pMul_short b1, pMul_left b2, pMul_short b3, p21, pMod_ok (j := 1000000000000000000117) (by omega)]
    exact src_loop hn xs (k + 1) _ _ _ (by omega) (Int.emod_nonneg _ (by omega)) (Int.emod_lt_of_pos _ (by omega))
theorem W_enumS {a : AF} {env : Fw.Env} {S : Store} {I : List PyData → Store → Prop} {ns : List Int} (h : W (a env S) fun vs T => vs = [scrV ns] ∧ T = S) (k : I (pairs (ups 0 ns.length) (ns.map .int)) S) : W (iEnum' a env S) I := by
  unfold iEnum'
  rw [h.to]
  show W (R.ok (pairs (Fw.steps 0 1 (ns.map PyData.int).length) (ns.map .int)) S) I
  rw [W_ok, List.length_map]
  have e := steps_ups ns.length 0
  rw [show ((0 : Nat) : Int) = 0 from rfl] at e
  rw [e]
  exact k
theorem source_ok {ns : List Int} {k : Nat} {S : Store} (hk : k ≤ 3) (hl : ns.length ≤ 63) : W (v__law_source [scrV ns, .d (.int (k : Int))] S) fun v T => ∃ c, v = .r S.length ∧ T = S ++ [c] ∧ Sr S.length T 1 := by
  unfold v__law_source
  rw [W_fn (by rfl)]
  unfold b__law_source
  have sm : ∀ {i : Int}, 0 ≤ i → i < 10000 → bd 64 i := fun h0 h1 => bd_of h0 (by omega)
  have own : ∀ G : Fw.Env → Store → Prop, (∀ o : Int, G [some (scrV ns), some (.d (.int (k : Int))), some (.d (.int o)), none, none, none, none] S) → Fw.V (sSet 2 (eIf (bV (e2 (oP pLt) (eVar 1) (eA oLen (aCons (eVar 0) (aNil))))) (eA oInt (aCons (e2 oSub (eVar 0) (eVar 1)) (aNil))) (e2 (oP pAdd) (e2 (oP pMul) (eC (.int 59)) (eVar 1)) (eC (.int 11)))) [some (scrV ns), some (.d (.int (k : Int))), none, none, none, none, none] S) G (fun _ _ => False) no no := fun G hG => by
    simp [len_scr]
    refine ⟨fun h => ?_, fun h => ?_⟩
    · rw [sub_scr h, Wl_some]
      simp
      exact hG _
    · rw [pMul_left (sm (by omega) (by omega))]
      simp
      exact hG _
  refine V_one fun G hG => ?_
  refine (own G fun o => hG _ _ ?_).imp (fun _ _ h => h) (fun _ _ h => h.elim) (fun _ _ h => h.elim) (fun _ _ h => h.elim)
  clear hG
  refine V_one fun G hG => ?_
  simp [len_scr, pMul_left (i := 5) (sm (by omega) (by omega))]
  refine hG _ _ ?_
  clear hG
  refine V_one fun G hG => ?_
  rw [V_for]
  refine W_enumS (ns := ns) (by simp) ?_
  refine src_loop (fun o2 x y h0 h1 => hG _ _ ?_) ns 0 _ _ _ (by omega) (by omega) (by omega)
  clear hG
  refine V_one fun G hG => ?_
  have ab : oAbs [.d (.int o)] S = some (.d (.int (if o < 0 then -o else o)), S) := rfl
  have ib : ∀ b : Bool, oInt [.d (.bool b)] S = some (.d (.int (if b then 1 else 0)), S) := fun _ => rfl
  have hb : ∀ b : Bool, bd 64 (if b then (1 : Int) else 0) := fun b => by cases b <;> exact bd_of (by decide) (by decide)
  simp only [V_set, W_e2, W_eA, W_cons, W_nil, W_var, W_c, List.getD_cons_zero, List.getD_cons_succ, List.set_cons_succ, List.set_cons_zero, Wp_some, ab, ib, Wl_some, oP_d, pLt_int, Option.map_some, pMul_short (j := 8191) (sm (by omega) (by omega)), pMul_short (hb _), pMul_short (j := 127) (sm (by omega) (by omega)), pMul_short (j := (k : Int)) (sm (by omega) (by omega)), pAdd_int, oInt_int, p24]
  rw [pMod_ok (by omega)]
  simp only [Option.map_some, Wl_some]
  refine hG _ _ ?_
  clear hG
  have mx : ∀ i : Int, oMax2 [.d (.int 0), .d (.int i)] S = some (.d (.int (if i > 0 then i else 0)), S) := fun _ => rfl
  simp only [V_ret, W_e2, W_eA, W_cons, W_nil, W_var, W_c, List.getD_cons_zero, List.getD_cons_succ, List.set_cons_succ, List.set_cons_zero, Wp_some, ab, Wl_some, oP_d, pSub_int, Option.map_some, mx, pTen]
  refine ⟨_, rfl, rfl, _, _, 1, get_last, ?_, Int.emod_nonneg _ (by omega), Int.emod_lt_of_pos _ (by omega), by omega, by omega⟩
  split <;> omega
end G01
namespace G01
open PySem PySem.Spec PyProof.Rows L2 Fw
/-! ### wrong objects in place of a saying -/
structure Wrong (x : PyData) : Prop where
  no : pureF (v_is_saying_in 40) [x] = .ok (.bool false)
  new : pureF (v_anew 40) [x] = .ok x
  sm : small x = true
  dp : x.depth ≤ 59
  sh : shB x ≤ 99000
  txt : PyData.strOk x.shown = true
theorem anew_list {n : Nat} {xs : List PyData} (h : ∀ x ∈ xs, pureF (v_anew n) [x] = .ok x) (hl : xs.length ≤ 1000) : pureF (v_anew (n + 1)) [.list xs] = .ok (.list xs) := by
  have i1 : ∀ T : Store, oIsi "tuple" (.d (.list xs)) T = some (.d (.bool false), T) := fun T => rfl
  have i2 : ∀ T : Store, oIsi "list" (.d (.list xs)) T = some (.d (.bool true), T) := fun T => rfl
  refine pureF1 ?_
  show W (fnV 1 1 (b_anew (v_anew n)) [.d (.list xs)] []) _
  rw [W_fn (by rfl)]
  unfold b_anew
  refine V_one fun G hG => ?_
  simp [i1, truth_b]
  refine hG _ _ ?_
  clear hG
  refine V_one fun G hG => ?_
  simp [i2, truth_b, itemsD]
  refine W_lcAll id (fun x hx => ⟨_, rfl, ?_⟩) (by omega) ?_
  · simp [wipeE, h x hx]
  · rw [List.map_id]
    exact ⟨[], rfl⟩
def items (s : Say) : List PyData := .str (word s) :: args s
theorem enc_items (s : Say) : enc s = .tuple (items s) := enc_eq s
theorem anew_enc : ∀ (s : Say) (n : Nat), dep s + 2 ≤ n → pureF (v_anew n) [enc s] = .ok (enc s) ∧ ∀ x ∈ items s, pureF (v_anew n) [x] = .ok x := by
  intro s
  have two : ∀ (w : Str) (a b : Say) (n : Nat), (∀ n, dep a + 2 ≤ n → pureF (v_anew n) [enc a] = .ok (enc a) ∧ ∀ x ∈ items a, pureF (v_anew n) [x] = .ok x) → (∀ n, dep b + 2 ≤ n → pureF (v_anew n) [enc b] = .ok (enc b) ∧ ∀ x ∈ items b, pureF (v_anew n) [x] = .ok x) → max (dep a) (dep b) + 1 + 2 ≤ n →
      pureF (v_anew n) [.tuple [.str w, enc a, enc b]] = .ok (.tuple [.str w, enc a, enc b]) ∧ ∀ x ∈ ([.str w, enc a, enc b] : List PyData), pureF (v_anew n) [x] = .ok x := fun w a b n ha hb hn => by
    obtain ⟨m, rfl⟩ : ∃ m, n = m + 2 := ⟨n - 2, by omega⟩
    refine ⟨anew_tup (fun x hx => ?_) (by simp), fun x hx => ?_⟩
    · simp only [List.mem_cons, List.not_mem_nil, or_false] at hx
      rcases hx with rfl | rfl | rfl
      · exact anew_str _ _
      · exact (ha _ (by omega)).1
      · exact (hb _ (by omega)).1
    · simp only [List.mem_cons, List.not_mem_nil, or_false] at hx
      rcases hx with rfl | rfl | rfl
      · exact anew_str _ _
      · exact (ha _ (by omega)).1
      · exact (hb _ (by omega)).1
  induction s with
  | tt =>
    intro n hn
    obtain ⟨m, rfl⟩ : ∃ m, n = m + 2 := ⟨n - 2, by omega⟩
    exact ⟨anew_tup (xs := [.str "true"]) (fun x hx => by rw [List.mem_singleton.mp hx]; exact anew_str _ _) (by decide), fun x hx => by rw [List.mem_singleton.mp hx]; exact anew_str _ _⟩
  | ff =>
    intro n hn
    obtain ⟨m, rfl⟩ : ∃ m, n = m + 2 := ⟨n - 2, by omega⟩
    exact ⟨anew_tup (xs := [.str "false"]) (fun x hx => by rw [List.mem_singleton.mp hx]; exact anew_str _ _) (by decide), fun x hx => by rw [List.mem_singleton.mp hx]; exact anew_str _ _⟩
  | le x =>
    intro n hn
    obtain ⟨m, rfl⟩ : ∃ m, n = m + 2 := ⟨n - 2, by omega⟩
    have it : ∀ k, ∀ y ∈ ([.str "letter", .str x] : List PyData), pureF (v_anew (k + 1)) [y] = .ok y := fun k y hy => by
      simp only [List.mem_cons, List.not_mem_nil, or_false] at hy
      rcases hy with rfl | rfl <;> exact anew_str _ _
    exact ⟨anew_tup (xs := [.str "letter", .str x]) (it m) (by simp), it (m + 1)⟩
  | an a b iha ihb => exact fun n hn => two "and" a b n iha ihb hn
  | ou a b iha ihb => exact fun n hn => two "or" a b n iha ihb hn
  | im a b iha ihb => exact fun n hn => two "if" a b n iha ihb hn
theorem bin_no {w : Str} (hw : w ∈ (["and", "or", "if"] : List Str)) {n : Nat} {x y : PyData} (hx : pureF (v_is_saying_in n) [x] = .ok (.bool true)) (hy : pureF (v_is_saying_in n) [y] = .ok (.bool false)) : pureF (v_is_saying_in (n + 1)) [.tuple [.str w, x, y]] = .ok (.bool false) := by
  have inTF : ∀ (w : Str) (S : Store), oInD false (.d (.str w)) (.d (.tuple [.str "true", .str "false"])) S = some (.d (.bool (decide (w ∈ (["true", "false"] : List Str)))), S) := fun w S => in_tup rfl
  have inAO : ∀ (w : Str) (S : Store), oInD false (.d (.str w)) (.d (.tuple [.str "and", .str "or", .str "if"])) S = some (.d (.bool (decide (w ∈ (["and", "or", "if"] : List Str)))), S) := fun w S => in_tup rfl
  refine pureF1 ?_
  show W (fnV 1 0 (b_is_saying_in (v_is_saying_in n)) [.d (.tuple [.str w, x, y])] []) _
  rw [W_fn (by rfl)]
  unfold b_is_saying_in
  refine V_one fun G hG => ?_
  simp [isi_tup, isi_str, truth_b, at0]
  refine hG _ _ ?_
  clear hG
  refine V_one fun G hG => ?_
  simp only [List.mem_cons, List.not_mem_nil, or_false] at hw
  rcases hw with rfl | rfl | rfl
  · simp [isi_tup, isi_str, truth_b, at0, inTF, oTup, ne_and_true, ne_and_false]
    refine hG _ _ ?_
    clear hG
    refine V_one fun G hG => ?_
    simp [isi_tup, isi_str, truth_b, at0, ne_and_letter]
    refine hG _ _ ?_
    clear hG
    simp [truth_b, at0, at1, at2, oTup, inAO, hx, hy]
  · simp [isi_tup, isi_str, truth_b, at0, inTF, oTup, ne_or_true, ne_or_false]
    refine hG _ _ ?_
    clear hG
    refine V_one fun G hG => ?_
    simp [isi_tup, isi_str, truth_b, at0, ne_or_letter]
    refine hG _ _ ?_
    clear hG
    simp [truth_b, at0, at1, at2, oTup, inAO, hx, hy]
  · simp [isi_tup, isi_str, truth_b, at0, inTF, oTup, ne_if_true, ne_if_false]
    refine hG _ _ ?_
    clear hG
    refine V_one fun G hG => ?_
    simp [isi_tup, isi_str, truth_b, at0, ne_if_letter]
    refine hG _ _ ?_
    clear hG
    simp [truth_b, at0, at1, at2, oTup, inAO, hx, hy]
theorem str_head_no (n : Nat) (s : Say) (xs : List PyData) : pureF (v_is_saying_in (n + 1)) [.tuple (enc s :: xs)] = .ok (.bool false) := by
  rw [enc_items]
  have i0 : ∀ T : Store, oIsi "str" (.d (.tuple (items s))) T = some (.d (.bool false), T) := fun T => rfl
  refine pureF1 ?_
  show W (fnV 1 0 (b_is_saying_in (v_is_saying_in n)) [.d (.tuple (.tuple (items s) :: xs))] []) _
  rw [W_fn (by rfl)]
  unfold b_is_saying_in
  refine V_one fun G hG => ?_
  simp [isi_tup, i0, truth_b, at0]
theorem ok_list (ts : List Str) (h : ∀ t ∈ ts, PyData.strOk t = true) : PyData.strOk (listText ts) = true := by
  rw [listText_eq_join]
  exact ok_app (ok_app (by decide +kernel) (ok_join ts h)) (by decide +kernel)
theorem shownAll_ok : ∀ {xs : List PyData}, (∀ x ∈ xs, PyData.strOk x.shown = true) → ∀ t ∈ PyData.shownAll xs, PyData.strOk t = true
  | [], _, t, ht => by cases ht
  | x :: xs, h, t, ht => by
    rcases List.mem_cons.mp (show t ∈ x.shown :: PyData.shownAll xs from ht) with rfl | ht
    · exact h x List.mem_cons_self
    · exact shownAll_ok (fun y hy => h y (List.mem_cons_of_mem _ hy)) t ht
/-- a thing that can be taken anew and shown, inside others -/
structure Part (n : Nat) (x : PyData) : Prop where
  new : pureF (v_anew n) [x] = .ok x
  sm : small x = true
  dp : x.depth ≤ 50
  sh : shB x ≤ 10000
  txt : PyData.strOk x.shown = true
theorem part_str {n : Nat} {w : Str} (h1 : small (.str w) = true) (h2 : shB (.str w) ≤ 100) (h3 : PyData.strOk (PyData.str w).shown = true) : Part (n + 1) (.str w) := ⟨anew_str _ _, h1, Nat.zero_le _, by omega, h3⟩
theorem part_enc {n : Nat} {s : Say} (h : inn Nm s) (hd : dep s ≤ 5) (hn : 7 ≤ n) : Part n (enc s) := by
  have b1 := shB_enc s h
  have b2 : 2 ^ dep s ≤ 2 ^ 5 := Nat.pow_le_pow_right (by decide) hd
  have b3 := depth_enc s
  exact ⟨(anew_enc s n (by omega)).1, small_enc s h, by omega, by omega, ok_enc s h⟩
theorem part_all {n : Nat} {xs : List PyData} (h : ∀ x ∈ xs, Part n x) : smallL xs = true ∧ PyData.depthAll xs ≤ 50 ∧ shBL xs ≤ xs.length * 10002 := by
  refine ⟨smallL_of fun x hx => (h x hx).sm, depthL_le fun x hx => (h x hx).dp, ?_⟩
  have := shBL_le fun x hx => (h x hx).sh
  exact this
theorem wrong_tup {xs : List PyData} (hno : pureF (v_is_saying_in 40) [.tuple xs] = .ok (.bool false)) (h : ∀ x ∈ xs, Part 39 x) (hl : xs.length ≤ 5) : Wrong (.tuple xs) := by
  obtain ⟨h1, h2, h3⟩ := part_all h
  have h4 : xs.length * 10002 ≤ 5 * 10002 := Nat.mul_le_mul_right _ hl
  refine ⟨hno, anew_tup (n := 39) (fun x hx => (h x hx).new) (by omega), by rw [small_tup]; exact h1, ?_, ?_, ?_⟩
  · simp only [PyData.depth]
    omega
  · simp only [shB]
    omega
  · show PyData.strOk (tupleText (PyData.shownAll xs)) = true
    exact ok_tup _ (shownAll_ok fun x hx => (h x hx).txt)
theorem wrong_list {xs : List PyData} (h : ∀ x ∈ xs, Part 39 x) (hl : xs.length ≤ 5) : Wrong (.list xs) := by
  obtain ⟨h1, h2, h3⟩ := part_all h
  have h4 : xs.length * 10002 ≤ 5 * 10002 := Nat.mul_le_mul_right _ hl
  refine ⟨by kernel_rfl, anew_list (n := 39) (fun x hx => (h x hx).new) (by omega), by rw [small_list]; exact h1, ?_, ?_, ?_⟩
  · simp only [PyData.depth]
    omega
  · simp only [shB]
    omega
  · show PyData.strOk (listText (PyData.shownAll xs)) = true
    exact ok_list _ (shownAll_ok fun x hx => (h x hx).txt)
theorem wrong_of {x : PyData} (h1 : pureF (v_is_saying_in 40) [x] = .ok (.bool false)) (h2 : pureF (v_anew 40) [x] = .ok x) (h3 : (small x && (decide (x.depth ≤ 59) && (decide (shB x ≤ 99000) && PyData.strOk x.shown))) = true) : Wrong x := by
  obtain ⟨a, h3⟩ := Bool.and_eq_true_iff.mp h3
  obtain ⟨b, h3⟩ := Bool.and_eq_true_iff.mp h3
  obtain ⟨c, d⟩ := Bool.and_eq_true_iff.mp h3
  exact ⟨h1, h2, a, of_decide_eq_true b, of_decide_eq_true c, d⟩
end G01
namespace G01
open PySem PySem.Spec PyProof.Rows L2 Fw
def nearA : List PyData := [.none, .str "p", .tuple [.str "letter"], .tuple [.str "letter", .str "P"], .tuple [.str "letter", .str "not"], .tuple [.str "letter", .str "abcde"], .tuple [.str "letter", .str ""], .tuple [.str "letter", .tuple [.str "p"]], .tuple [.str "true", .int 1], .list [.str "true"]]
def nearB (s : Say) : List PyData := [.tuple [.str "not", enc s], .tuple [.str "and", enc s], .tuple [.str "or", enc s, enc s, enc s], .tuple [.str "if", enc s, .none], .tuple [.str "iff", enc s, enc s], .tuple [enc s, enc s, .str "and"]]
def nearC (s : Say) : List PyData := [.tuple [.str "and", enc s, .list (items s)], .tuple [], .tuple [.bool true], .tuple [.str "letter", .str "p", .str "q"], .tuple [.str "if", enc s, .tuple [.str "letter", .str "if"]], .list [enc s]]
def nears (s : Say) : List PyData := nearA ++ nearB s ++ nearC s
theorem near_ok (s : Say) : pureF v__law_near [enc s] = .ok (.list (nears s)) := by
  have ls : ∀ T : Store, oListD false [.d (enc s)] T = some (.d (.list (items s)), T) := fun T => by
    rw [enc_items]
    exact list_of_tup
  have a1 : ∀ T : Store, oLst [Val.d (PyData.str "true")] T = some (.d (.list [.str "true"]), T) := fun T => rfl
  refine pureF1 ?_
  unfold v__law_near
  rw [W_fn (by rfl)]
  unfold b__law_near
  refine V_one fun G hG => ?_
  simp [oTup, a1, oLstM]
  refine hG _ [.lst (nearA.map .d)] ?_
  clear hG
  refine V_one fun G hG => ?_
  rw [V_expr]
  refine W_extend (i := 0) (xs := nearA.map .d) (ys := (nearB s).map .d) (v := .d (.list (nearB s))) (by simp) rfl ?_ rfl (by simp [nearA, nearB]) ?_
  · have b1 : ∀ T : Store, oLst [.d (.tuple [.str "not", enc s]), .d (.tuple [.str "and", enc s]), .d (.tuple [.str "or", enc s, enc s, enc s]), .d (.tuple [.str "if", enc s, .none]), .d (.tuple [.str "iff", enc s, enc s]), .d (.tuple [enc s, enc s, .str "and"])] T = some (.d (.list (nearB s)), T) := fun T => rfl
    simp [oTup, b1]
  refine hG _ [.lst ((nearA ++ nearB s).map .d)] ?_
  clear hG
  have c0 : ∀ T : Store, oLst [.d (enc s)] T = some (.d (.list [enc s]), T) := fun T => rfl
  have c1 : ∀ T : Store, oLst [.d (.tuple [.str "and", enc s, .list (items s)]), .d (.tuple []), .d (.tuple [.bool true]), .d (.tuple [.str "letter", .str "p", .str "q"]), .d (.tuple [.str "if", enc s, .tuple [.str "letter", .str "if"]]), .d (.list [enc s])] T = some (.d (.list (nearC s)), T) := fun T => rfl
  have op : oP pAdd (.r 0) (.d (.list (nearC s))) [.lst ((nearA ++ nearB s).map .d)] = some (.d (.list (nears s)), [.frz (.list (nearA ++ nearB s))]) := by
    unfold oP
    rw [toD_cellL (xs := nearA ++ nearB s) rfl]
    simp only [toD_d]
    rw [add_list (by simp [nearA, nearB, nearC])]
    rfl
  rw [List.map_append] at op
  simp [oTup, ls, c0, c1, op]
theorem items_txt {s : Say} (h : inn Nm s) : ∀ x ∈ items s, PyData.strOk x.shown = true := by
  intro x hx
  have nm : ∀ y, Nm y → PyData.strOk (PyData.str y).shown = true := fun y hy => by
    have h' : y ∈ (["ab", "abcd", "p", "x", "zz"] : List Str) := hy
    simp only [List.mem_cons, List.not_mem_nil, or_false] at h'
    rcases h' with rfl | rfl | rfl | rfl | rfl <;> decide +kernel
  have wd : PyData.strOk (PyData.str (word s)).shown = true := by
    cases s with
    | tt => decide +kernel
    | ff => decide +kernel
    | le y =>
      show PyData.strOk (PyData.str "letter").shown = true
      decide +kernel
    | an a b =>
      show PyData.strOk (PyData.str "and").shown = true
      decide +kernel
    | ou a b =>
      show PyData.strOk (PyData.str "or").shown = true
      decide +kernel
    | im a b =>
      show PyData.strOk (PyData.str "if").shown = true
      decide +kernel
  rcases List.mem_cons.mp hx with rfl | hx
  · exact wd
  · cases s with
    | tt => cases hx
    | ff => cases hx
    | le y =>
      rw [List.mem_singleton.mp hx]
      exact nm y h
    | an a b =>
      have hx' : x = enc a ∨ x = enc b := by simpa [args] using hx
      rcases hx' with rfl | rfl
      · exact ok_enc a h.1
      · exact ok_enc b h.2
    | ou a b =>
      have hx' : x = enc a ∨ x = enc b := by simpa [args] using hx
      rcases hx' with rfl | rfl
      · exact ok_enc a h.1
      · exact ok_enc b h.2
    | im a b =>
      have hx' : x = enc a ∨ x = enc b := by simpa [args] using hx
      rcases hx' with rfl | rfl
      · exact ok_enc a h.1
      · exact ok_enc b h.2
theorem items_len (s : Say) : (items s).length ≤ 3 := by cases s <;> simp [items, args]
theorem part_list {s : Say} (h : inn Nm s) (hd : dep s ≤ 5) : Part 39 (.list (items s)) := by
  have p := part_enc (n := 39) h hd (by omega)
  have hl := items_len s
  have e := enc_items s
  refine ⟨anew_list (n := 38) (anew_enc s 38 (by omega)).2 (by omega), ?_, ?_, ?_, ?_⟩
  · have := p.sm
    rw [e, small_tup] at this
    rw [small_list]
    exact this
  · have := p.dp
    rw [e] at this
    simp only [PyData.depth] at this ⊢
    omega
  · have := p.sh
    rw [e] at this
    simp only [shB] at this ⊢
    omega
  · show PyData.strOk (listText (PyData.shownAll (items s))) = true
    exact ok_list _ (shownAll_ok (items_txt h))
theorem wrong_all {s : Say} (h : inn Nm s) (hd : dep s ≤ 5) : ∀ x ∈ nears s, Wrong x := by
  intro x hx
  have ps := part_enc (n := 39) h hd (by omega)
  have st : ∀ {w : Str}, small (.str w) = true → shB (.str w) ≤ 100 → PyData.strOk (PyData.str w).shown = true → Part 39 (.str w) := fun h1 h2 h3 => part_str h1 h2 h3
  have no : Part 39 .none := ⟨by kernel_rfl, by decide +kernel, by decide +kernel, by decide +kernel, by decide +kernel⟩
  have yes := saying_in_ok s 39 h (by omega)
  unfold nears at hx
  rcases List.mem_append.mp hx with hx | hx
  · rcases List.mem_append.mp hx with hx | hx
    · unfold nearA at hx
      simp only [List.mem_cons, List.not_mem_nil, or_false] at hx
      rcases hx with rfl | rfl | rfl | rfl | rfl | rfl | rfl | rfl | rfl | rfl <;> exact wrong_of (by kernel_rfl) (by kernel_rfl) (by decide +kernel)
    · unfold nearB at hx
      simp only [List.mem_cons, List.not_mem_nil, or_false] at hx
      rcases hx with rfl | rfl | rfl | rfl | rfl | rfl
      · exact wrong_tup (by kernel_rfl) (by simp [ps, st (w := "not") (by decide +kernel) (by decide +kernel) (by decide +kernel)]) (by simp)
      · exact wrong_tup (by kernel_rfl) (by simp [ps, st (w := "and") (by decide +kernel) (by decide +kernel) (by decide +kernel)]) (by simp)
      · exact wrong_tup (by kernel_rfl) (by simp [ps, st (w := "or") (by decide +kernel) (by decide +kernel) (by decide +kernel)]) (by simp)
      · exact wrong_tup (bin_no (by simp) yes (by kernel_rfl)) (by simp [ps, no, st (w := "if") (by decide +kernel) (by decide +kernel) (by decide +kernel)]) (by simp)
      · exact wrong_tup (by kernel_rfl) (by simp [ps, st (w := "iff") (by decide +kernel) (by decide +kernel) (by decide +kernel)]) (by simp)
      · exact wrong_tup (str_head_no 39 s _) (by simp [ps, st (w := "and") (by decide +kernel) (by decide +kernel) (by decide +kernel)]) (by simp)
  · unfold nearC at hx
    simp only [List.mem_cons, List.not_mem_nil, or_false] at hx
    rcases hx with rfl | rfl | rfl | rfl | rfl | rfl
    · exact wrong_tup (bin_no (by simp) yes (by kernel_rfl)) (by simp [ps, part_list h hd, st (w := "and") (by decide +kernel) (by decide +kernel) (by decide +kernel)]) (by simp)
    · exact wrong_of (by kernel_rfl) (by kernel_rfl) (by decide +kernel)
    · exact wrong_of (by kernel_rfl) (by kernel_rfl) (by decide +kernel)
    · exact wrong_of (by kernel_rfl) (by kernel_rfl) (by decide +kernel)
    · have pl : Part 39 (.tuple [.str "letter", .str "if"]) := ⟨by kernel_rfl, by decide +kernel, by decide +kernel, by decide +kernel, by decide +kernel⟩
      exact wrong_tup (bin_no (by simp) yes (by kernel_rfl)) (by simp [ps, pl, st (w := "if") (by decide +kernel) (by decide +kernel) (by decide +kernel)]) (by simp)
    · exact wrong_list (by simp [ps]) (by simp)
end G01
namespace G01
open PySem PySem.Spec PyProof.Rows L2 Fw
abbrev n4D : PyData := .list [.str "p", .str "ab", .str "zz", .str "abcd", .str "x"]
def cR : Nat → Int
  | 0 => 2
  | d + 1 => 2 + 2 * cR d
theorem cR_pos : ∀ d, 2 ≤ cR d
  | 0 => by decide
  | d + 1 => by
    have := cR_pos d
    show 2 ≤ 2 + 2 * cR d
    omega
def SayS (i : Nat) (d : Nat) (S : Store) (B : Int) (v : Val) (S' : Store) : Prop := ∃ s bx, v = .d (enc s) ∧ inn Nm s ∧ dep s ≤ d ∧ S' = S.set i bx ∧ Sr i S' (B + cR d)
theorem four_at {l : Int} (h0 : 0 ≤ l) (h1 : l < 4) : l = 0 ∨ l = 1 ∨ l = 2 ∨ l = 3 := by omega
theorem atF {α : Type} {a b c d : α} {l : Int} (h0 : 0 ≤ l) (h1 : l < 4) : ∃ x, atI [a, b, c, d] l = some x ∧ (l = 0 ∧ x = a ∨ l = 1 ∧ x = b ∨ l = 2 ∧ x = c ∨ l = 3 ∧ x = d) := by
  rcases four_at h0 h1 with rfl | rfl | rfl | rfl
  · exact ⟨a, rfl, by simp⟩
  · exact ⟨b, rfl, by simp⟩
  · exact ⟨c, rfl, by simp⟩
  · exact ⟨d, rfl, by simp⟩
theorem letter4 {l : Int} {S : Store} (h0 : 0 ≤ l) (h1 : l < 5) : ∃ x, oSub (.d n4D) (.d (.int l)) S = some (.d (.str x), S) ∧ Nm x := by
  have h : l = 0 ∨ l = 1 ∨ l = 2 ∨ l = 3 ∨ l = 4 := by omega
  rcases h with rfl | rfl | rfl | rfl | rfl
  · exact ⟨"p", rfl, by unfold Nm; simp⟩
  · exact ⟨"ab", rfl, by unfold Nm; simp⟩
  · exact ⟨"zz", rfl, by unfold Nm; simp⟩
  · exact ⟨"abcd", rfl, by unfold Nm; simp⟩
  · exact ⟨"x", rfl, by unfold Nm; simp⟩
theorem len4 {S : Store} : oLen [.d n4D] S = some (.d (.int 5), S) := rfl
theorem law_not_ok (s : Say) : pureF v__law_not [enc s] = .ok (enc (.im s .ff)) := by
  refine pureF1 ?_
  unfold v__law_not
  rw [W_fn (by rfl)]
  unfold b__law_not
  simp [oTup, enc]
theorem not_str (x : Str) : pureF v__law_not [.tuple [.str "letter", .str x]] = .ok (enc (.im (.le x) .ff)) := law_not_ok (.le x)
theorem base4 {l : Int} {S : Store} (h0 : 0 ≤ l) (h1 : l < 4) : ∃ s, oSub (.d (.list [.tuple [.str "false"], .tuple [.str "true"], .tuple [.str "letter", .str "p"], enc (.im (.le "x") .ff)])) (.d (.int l)) S = some (.d (enc s), S) ∧ inn Nm s ∧ dep s ≤ 1 ∧ (l < 3 → dep s = 0) := by
  rcases four_at h0 h1 with rfl | rfl | rfl | rfl
  · exact ⟨.ff, rfl, trivial, by decide, fun _ => rfl⟩
  · exact ⟨.tt, rfl, trivial, by decide, fun _ => rfl⟩
  · exact ⟨.le "p", rfl, by unfold inn Nm; simp, by decide, fun _ => rfl⟩
  · exact ⟨.im (.le "x") .ff, rfl, ⟨by unfold inn Nm; simp, trivial⟩, by decide, fun h => absurd h (by decide)⟩
theorem five_at {k : Int} (h0 : 4 ≤ k) (h1 : k < 9) : k = 4 ∨ k = 5 ∨ k = 6 ∨ k = 7 ∨ k = 8 := by omega
theorem saying_src (i : Nat) : ∀ (d n : Nat) (S : Store) (B : Int), d < n → Sr i S B → B + cR d ≤ 1000000 → W (v__law_saying n [.r i, .d (.int d), .d n4D] S) (SayS i d S B) := by
  have o0 : ∀ T : Store, oSub (.d n4D) (.d (.int 0)) T = some (.d (.str "p"), T) := fun T => rfl
  have o1 : ∀ T : Store, oSub (.d n4D) (.d (.int (-1))) T = some (.d (.str "x"), T) := fun T => rfl
  intro d
  induction d with
  | zero =>
    intro n S B hd hB hb
    cases n with
    | zero => omega
    | succ n =>
      simp only [cR] at hb
      show W (fnV 3 2 (b__law_saying (v__law_saying n)) _ _) _
      rw [W_fn (by rfl)]
      unfold b__law_saying
      refine V_one fun G hG => ?_
      simp
      refine (pick_src (m := 3) hB (by omega) (by omega) (by omega)).imp ?_
      rintro v S1 ⟨k, bx, rfl, i0, i1, rfl, hB1⟩
      refine hG _ _ ?_
      clear hG
      refine V_one fun G hG => ?_
      simp only [V_if, W_bV, W_e2, W_var, W_c, List.getD_cons_zero, List.getD_cons_succ, List.set_cons_succ, List.set_cons_zero, Wp_some]
      simp
      refine ⟨fun hk => ?_, fun hk => hG _ _ ?_⟩
      · refine (pick_src (m := 5) hB1 (by omega) (by omega) (by omega)).imp ?_
        rintro v S2 ⟨l, bx2, rfl, l0, l1, rfl, hB2⟩
        simp only [List.set_set] at hB2 ⊢
        obtain ⟨x, ex, hx⟩ := letter4 (S := S.set i bx2) l0 l1
        rw [ex, Wl_some]
        simp [oTup]
        exact ⟨.le x, bx2, rfl, hx, Nat.le_refl _, rfl, hB2.le (by simp only [cR]; omega)⟩
      · clear hG
        have e2 : k = 2 := by omega
        subst e2
        refine V_one fun G hG => ?_
        simp only [V_if, W_bV, W_e2, W_var, W_c, List.getD_cons_zero, List.getD_cons_succ, List.set_cons_succ, List.set_cons_zero, Wp_some]
        simp [oTup, oLst, o0, o1, not_str]
        refine (pick_src (m := 3) hB1 (by omega) (by omega) (by omega)).imp ?_
        rintro v S2 ⟨l, bx2, rfl, l0, l1, rfl, hB2⟩
        simp only [List.set_set] at hB2 ⊢
        obtain ⟨s, es, h3, h4, h5⟩ := base4 (S := S.set i bx2) l0 (by omega)
        rw [es, Wl_some]
        exact ⟨s, bx2, rfl, h3, by rw [h5 l1]; exact Nat.le_refl _, rfl, hB2.le (by simp only [cR]; omega)⟩
  | succ d ih =>
    intro n S B hd hB hb
    cases n with
    | zero => omega
    | succ n =>
      have hcp := cR_pos d
      have hcs : cR (d + 1) = 2 + 2 * cR d := rfl
      have fin : ∀ {C : Int} {T : Store}, Sr i T C → C ≤ B + cR (d + 1) → Sr i T (B + cR (d + 1)) := fun h => h.le
      have ed : ((d : Int) + 1 - 1) = d := by omega
      have e0 : decide (0 < (d : Int) + 1) = true := decide_eq_true (by omega)
      rw [hcs] at hb
      show W (fnV 3 2 (b__law_saying (v__law_saying n)) _ _) _
      rw [W_fn (by rfl)]
      unfold b__law_saying
      refine V_one fun G hG => ?_
      simp [e0]
      refine (pick_src (m := 9) hB (by omega) (by omega) (by omega)).imp ?_
      rintro v S1 ⟨k, bx, rfl, i0, i1, rfl, hB1⟩
      refine hG _ _ ?_
      clear hG
      refine V_one fun G hG => ?_
      simp only [V_if, W_bV, W_e2, W_var, W_c, List.getD_cons_zero, List.getD_cons_succ, List.set_cons_succ, List.set_cons_zero, Wp_some]
      simp
      refine ⟨fun hk => ?_, fun hk => hG _ _ ?_⟩
      · refine (pick_src (m := 5) hB1 (by omega) (by omega) (by omega)).imp ?_
        rintro v S2 ⟨l, bx2, rfl, l0, l1, rfl, hB2⟩
        simp only [List.set_set] at hB2 ⊢
        obtain ⟨x, ex, hx⟩ := letter4 (S := S.set i bx2) l0 l1
        rw [ex, Wl_some]
        simp [oTup]
        exact ⟨.le x, bx2, rfl, hx, Nat.zero_le _, rfl, fin hB2 (by omega)⟩
      · clear hG
        refine V_one fun G hG => ?_
        simp only [V_if, W_bV, W_e2, W_var, W_c, List.getD_cons_zero, List.getD_cons_succ, List.set_cons_succ, List.set_cons_zero, Wp_some]
        simp [oTup, oLst, o0, o1, not_str, e0]
        refine ⟨fun hk2 => ?_, fun hk2 => hG _ _ ?_⟩
        · refine (pick_src (m := 4) hB1 (by omega) (by omega) (by omega)).imp ?_
          rintro v S2 ⟨l, bx2, rfl, l0, l1, rfl, hB2⟩
          simp only [List.set_set] at hB2 ⊢
          obtain ⟨s, es, h3, h4, h5⟩ := base4 (S := S.set i bx2) l0 l1
          rw [es, Wl_some]
          exact ⟨s, bx2, rfl, h3, by omega, rfl, fin hB2 (by omega)⟩
        · clear hG
          refine V_one fun G hG => ?_
          simp only [V_if, W_bV, W_e2, W_var, W_c, List.getD_cons_zero, List.getD_cons_succ, List.set_cons_succ, List.set_cons_zero, Wp_some]
          simp [ed]
          refine ⟨fun hk3 => ?_, fun hk3 => hG _ _ ?_⟩
          · refine (ih n _ _ (by omega) hB1 (by omega)).imp ?_
            rintro v S2 ⟨s1, bx2, rfl, p1, p2, rfl, hB2⟩
            simp only [List.set_set] at hB2 ⊢
            simp [law_not_ok]
            have hd2 : max (dep s1) 0 + 1 ≤ d + 1 := by omega
            exact ⟨.im s1 .ff, bx2, rfl, ⟨p1, trivial⟩, hd2, rfl, fin hB2 (by omega)⟩
          · clear hG
            refine V_one fun G hG => ?_
            simp [ed]
            refine (ih n _ _ (by omega) hB1 (by omega)).imp ?_
            rintro v S2 ⟨s1, bx2, rfl, p1, p2, rfl, hB2⟩
            simp only [List.set_set] at hB2 ⊢
            refine hG _ _ ?_
            clear hG
            have hd2 : ∀ s2, dep s2 ≤ d → max (dep s1) (dep s2) + 1 ≤ d + 1 := fun s2 h => by omega
            have wordAt : ∃ w, oSub (.d (.list [.str "and", .str "or", .str "or", .str "if", .str "if"])) (.d (.int (k - 4))) (S.set i bx2) = some (.d (.str w), S.set i bx2) ∧ (w = "and" ∨ w = "or" ∨ w = "if") := by
              rcases five_at (show 4 ≤ k by omega) (by omega) with rfl | rfl | rfl | rfl | rfl
              · exact ⟨"and", rfl, by simp⟩
              · exact ⟨"or", rfl, by simp⟩
              · exact ⟨"or", rfl, by simp⟩
              · exact ⟨"if", rfl, by simp⟩
              · exact ⟨"if", rfl, by simp⟩
            obtain ⟨w, ew, hw⟩ := wordAt
            have ew' : (atI [Val.d (.str "and"), Val.d (.str "or"), Val.d (.str "or"), Val.d (.str "if"), Val.d (.str "if")] (k - 4)) = some (Val.d (.str w)) := by
              have h := ew
              simp only [oSub_lst, List.map_cons, List.map_nil] at h
              cases q : atI [Val.d (PyData.str "and"), Val.d (.str "or"), Val.d (.str "or"), Val.d (.str "if"), Val.d (.str "if")] (k - 4) with
              | none => rw [q] at h; cases h
              | some v => rw [q] at h; cases h; rfl
            simp [oLst, ew', ed]
            refine (ih n _ _ (by omega) hB2 (by omega)).imp ?_
            rintro v S3 ⟨s2, bx3, rfl, q1, q2, rfl, hB3⟩
            simp only [List.set_set] at hB3 ⊢
            simp [oTup]
            rcases hw with rfl | rfl | rfl
            · exact ⟨.an s1 s2, bx3, rfl, ⟨p1, q1⟩, hd2 s2 q2, rfl, fin hB3 (by omega)⟩
            · exact ⟨.ou s1 s2, bx3, rfl, ⟨p1, q1⟩, hd2 s2 q2, rfl, fin hB3 (by omega)⟩
            · exact ⟨.im s1 s2, bx3, rfl, ⟨p1, q1⟩, hd2 s2 q2, rfl, fin hB3 (by omega)⟩
end G01
namespace G01
open PySem PySem.Spec PyProof.Rows L2 Fw
theorem need_saying_ok {s : Say} (h : inn Nm s) (hd : dep s < 40) : pureF v_need_saying [enc s] = .ok .none := by
  refine pureF1 ?_
  unfold v_need_saying
  rw [W_fn (by rfl)]
  unfold b_need_saying
  simp [saying_in_ok s 40 h hd, truth_b]
theorem ints_map (xs : List Int) : ints? (xs.map .int) = some xs := by
  induction xs with
  | nil => rfl
  | cons x xs ih =>
    rw [List.map_cons]
    unfold ints?
    rw [ih]
    rfl
theorem len_parts (s : Say) : (1 : Int) + ((parts2 s).map fun u => ((subs u).length : Int)).sum = ((subs s).length : Int) := by
  cases s <;> simp [subs, parts2] <;> omega
theorem count_ok : ∀ (n : Nat) (s : Say), dep s < n → pureF (v_count_words n) [enc s] = .ok (.int ((subs s).length : Int)) := by
  intro n
  induction n with
  | zero => intro s h; exact absurd h (Nat.not_lt_zero _)
  | succ n ih =>
    intro s hn
    have hl := parts_len s
    refine pureF1 ?_
    show W (fnV 1 1 (b_count_words (v_count_words n)) _ _) _
    rw [W_fn (by rfl)]
    unfold b_count_words
    simp [inner_ok, items_tup, wipeE]
    refine W_lcN enc (fun u => .int ((subs u).length : Int)) (fun u hu => ⟨_, rfl, ?_⟩) (by omega) ?_
    · have hd : dep u < n := by have := parts_dep s u hu; omega
      simp [ih u hd]
    · have e : (parts2 s).map (fun u => PyData.int ((subs u).length : Int)) = ((parts2 s).map fun u => ((subs u).length : Int)).map .int := by rw [List.map_map]; rfl
      rw [e]
      have e2 : ∀ T : Store, oSum [.d (.list (((parts2 s).map fun u => ((subs u).length : Int)).map .int))] T = some (.d (.int ((parts2 s).map fun u => ((subs u).length : Int)).sum), T) := fun T => by
        unfold oSum
        simp only [toD_d, ints_map]
        rfl
      rw [e2, Wl_some, ← len_parts]
      simp
theorem words_in_ok {s : Say} (h : inn Nm s) (hd : dep s < 40) : pureF v_words_in [enc s] = .ok (.int ((subs s).length : Int)) := by
  refine pureF1 ?_
  unfold v_words_in
  rw [W_fn (by rfl)]
  unfold b_words_in
  refine V_one fun G hG => ?_
  simp [need_saying_ok h hd]
  refine hG _ _ ?_
  clear hG
  simp [count_ok 40 s hd]
theorem letters_ok {s : Say} (h : inn Nm s) (hd : dep s ≤ 8) : pureF v_letters_of [enc s] = .ok (.tuple ((lets s).map .str)) := by
  have n1 : pureF v_names_in [.list [enc s]] = .ok (.list ((lets s).map .str)) := names_in_ok h hd
  refine pureF1 ?_
  unfold v_letters_of
  rw [W_fn (by rfl)]
  unfold b_letters_of
  refine V_one fun G hG => ?_
  simp [need_saying_ok h (show dep s < 40 by omega)]
  refine hG _ _ ?_
  clear hG
  simp [oLst, n1, tuple_of]
theorem not_of_ok (s : Say) : pureF v_not_of [enc s] = .ok (enc (.im s .ff)) := by
  refine pureF1 ?_
  unfold v_not_of
  rw [W_fn (by rfl)]
  unfold b_not_of
  simp [oTup, enc]
theorem denied_ok {s : Say} (h : inn Nm s) (hd : dep s < 40) : pureF v_denied [enc s] = .ok (enc (.im s .ff)) := by
  refine pureF1 ?_
  unfold v_denied
  rw [W_fn (by rfl)]
  unfold b_denied
  refine V_one fun G hG => ?_
  simp [need_saying_ok h hd]
  refine hG _ _ ?_
  clear hG
  simp [not_of_ok]
theorem is_saying_of {x : PyData} {b : Bool} (h : pureF (v_is_saying_in 40) [x] = .ok (.bool b)) : pureF v_is_saying [x] = .ok (.bool b) := by
  refine pureF1 ?_
  unfold v_is_saying
  rw [W_fn (by rfl)]
  unfold b_is_saying
  simp [h]
/-! ### errors -/
theorem Wrong.shows {x : PyData} (h : Wrong x) : canShow x = true := canShow_of h.sm (by have := h.dp; omega) (by have := h.sh; omega)
theorem Wrong.need {x : PyData} (h : Wrong x) : pureF v_need_saying [x] = .ex "InvalidSaying" x := by
  show outD (v_need_saying [.d x] []) = _
  rw [need_saying_bad h.no h.new]
  rfl
theorem eP_need {x : PyData} (h : Wrong x) {env : Fw.Env} {i : Nat} (hi : env.getD i none = some (.d x)) : eP (pureF v_need_saying) (aCons (eVar i) aNil) env [] = .ex "InvalidSaying" x [] := by
  have ga : aCons (eVar i) aNil env [] = .ok [.d x] [] := by
    have w : W (aCons (eVar i) aNil env []) fun vs T => vs = [.d x] ∧ T = [] := by simp only [W_cons, W_var, hi, Wp_some, W_nil]; simp
    exact w.to
  rw [eP_of (vs := [.d x]) (xs := [x]) ga rfl, h.need]
  rfl
theorem words_bad {x : PyData} (h : Wrong x) : pureF v_words_in [x] = .ex "InvalidSaying" x := by
  show outD (outOf (b_words_in [some (.d x)] [])) = _
  unfold b_words_in
  rw [seq_rs (expr_ex (eP_need h rfl))]
  rfl
theorem letters_bad {x : PyData} (h : Wrong x) : pureF v_letters_of [x] = .ex "InvalidSaying" x := by
  show outD (outOf (b_letters_of [some (.d x)] [])) = _
  unfold b_letters_of
  rw [seq_rs (expr_ex (eP_need h rfl))]
  rfl
theorem denied_bad {x : PyData} (h : Wrong x) : pureF v_denied [x] = .ex "InvalidSaying" x := by
  show outD (outOf (b_denied [some (.d x)] [])) = _
  unfold b_denied
  rw [seq_rs (expr_ex (eP_need h rfl))]
  rfl
theorem repr_wrong {x : PyData} (h : Wrong x) (S : Store) : oRepr [.d x] S = some (.d (.str x.shown), S) := by
  unfold oRepr
  simp only [toD_d, h.shows]
  rfl
theorem caught_of {w : Int} {x : PyData} (h : Wrong x) {body : SF} (hb : body [some (.d (.int w)), some (.d x), some (.d .none), none] [] = .ok (.rs "InvalidSaying" x, [some (.d (.int w)), some (.d x), some (.d .none), none]) [])
    (he : b__law_caught = sSeq (sSet 2 (eC .none)) (sSeq (sTry all 3 2 body) (sRet (eIf (bT (e1 (oIsX all "InvalidSaying") (eVar 2))) (eA oRepr (aCons (e1 (oVal all) (eVar 2)) (aNil))) (eC .none))))) :
    pureF v__law_caught [.int w, x] = .ok (.str x.shown) := by
  have ht : sTry all 3 2 body [some (.d (.int w)), some (.d x), some (.d .none), none] [] = .ok (.nx, [some (.d (.int w)), some (.d x), some (.d (excD "InvalidSaying" x)), none]) [] := by
    show (match body _ _ with | .ok (.rs c x, env') S' => _ | m => m) = _
    rw [hb]
    rfl
  have i2 : ∀ S : Store, oIsX all "InvalidSaying" (.d (excD "InvalidSaying" x)) S = some (.d (.bool true), S) := fun S => rfl
  have i4 : ∀ S : Store, oVal all (.d (excD "InvalidSaying" x)) S = some (.d x, S) := fun S => rfl
  refine pureF2 ?_
  unfold v__law_caught
  rw [W_fn (by rfl)]
  rw [he]
  refine V_one fun G hG => ?_
  simp
  refine hG _ _ ?_
  clear hG
  refine V_one fun G hG => ?_
  rw [ht, V_nx]
  refine hG _ _ ?_
  clear hG
  simp [i2, i4, truth_b, repr_wrong h]
theorem caught0 {x : PyData} (h : Wrong x) : pureF v__law_caught [.int 0, x] = .ok (.str x.shown) := by
  refine caught_of h ?_ rfl
  rw [if_tt (S' := []) (by kernel_rfl)]
  refine expr_ex ?_
  rw [eP_of (vs := [.d x]) (xs := [x]) rfl rfl, words_bad h]
  rfl
theorem caught1 {x : PyData} (h : Wrong x) : pureF v__law_caught [.int 1, x] = .ok (.str x.shown) := by
  refine caught_of h ?_ rfl
  rw [if_ff (S' := []) (by kernel_rfl), if_tt (S' := []) (by kernel_rfl)]
  refine expr_ex ?_
  rw [eP_of (vs := [.d x]) (xs := [x]) rfl rfl, letters_bad h]
  rfl
theorem caught2 {x : PyData} (h : Wrong x) : pureF v__law_caught [.int 2, x] = .ok (.str x.shown) := by
  refine caught_of h ?_ rfl
  rw [if_ff (S' := []) (by kernel_rfl), if_ff (S' := []) (by kernel_rfl)]
  refine expr_ex ?_
  rw [eP_of (vs := [.d x]) (xs := [x]) rfl rfl, denied_bad h]
  rfl
end G01
namespace G01
open PySem PySem.Spec PyProof.Rows L2 Fw
abbrev chkN : BF := (bOr (bV (e2 (oP pIsNot) (eP (pureF v_is_saying) (aCons (eVar 5) (aNil))) (eC (.bool false)))) (bV (e2 (oP pNe) (eLc false [8] (iRange1 (aCons (eC (.int 3)) (aNil))) (.nm 8) (bYes) (eP (pureF v__law_caught) (aCons (eVar 8) (aCons (eVar 5) (aNil))))) (e2 (oP pMul) (eA oLst (aCons (eA oRepr (aCons (eVar 5) (aNil))) (aNil))) (eC (.int 3))))))
abbrev nrB : SF := sIf chkN (sRet (eC (.bool false))) (sSkip)
abbrev tnB : SF := (sSeq (sSet 7 (eCall (v__law_saying 40) (aCons (eVar 2) (aCons (eCall v__law_pick (aCons (eVar 2) (aCons (eC (.int 5)) (aNil)))) (aCons (eVar 3) (aNil)))))) <|
  sSeq (sIf (bV (e2 (oP pNe) (eA oRepr (aCons (eA oLst (aCons (eP (pureF v_is_saying) (aCons (eVar 7) (aNil))) (aCons (kwGo [0] 0 1 aNil (aCons (eVar 7) (aNil)) (runP (pureF v_is_saying))) (aNil)))) (aNil))) (eA oRepr (aCons (eA oLst (aCons (eC (.bool true)) (aCons (eC (.bool true)) (aNil)))) (aNil))))) (sRet (eC (.bool false))) (sSkip)) <|
  sSeq (sIf (bOr (bV (e2 (oP pNe) (eA oLst (aCons (eP (pureF v_words_in) (aCons (eVar 7) (aNil))) (aCons (kwGo [0] 0 1 aNil (aCons (eVar 7) (aNil)) (runP (pureF v_words_in))) (aNil)))) (e2 (oP pMul) (eA oLst (aCons (eA oLen (aCons (eP (pureF (v__law_all 40)) (aCons (eVar 7) (aNil))) (aNil))) (aNil))) (eC (.int 2))))) (bOr (bV (e2 (oP pNe) (eP (pureF v_letters_of) (aCons (eVar 7) (aNil))) (eA oTuple (aCons (eP (pureF v__law_names) (aCons (eVar 7) (aNil))) (aNil))))) (bV (e2 (oP pNe) (kwGo [0] 0 1 aNil (aCons (eVar 7) (aNil)) (runP (pureF v_letters_of))) (eA oTuple (aCons (eP (pureF v__law_names) (aCons (eVar 7) (aNil))) (aNil))))))) (sRet (eC (.bool false))) (sSkip)) <|
  sSeq (sIf (bOr (bV (e2 (oP pNe) (eP (pureF v_denied) (aCons (eVar 7) (aNil))) (eP (pureF v__law_not) (aCons (eVar 7) (aNil))))) (bV (e2 (oP pNe) (kwGo [0] 0 1 aNil (aCons (eVar 7) (aNil)) (runP (pureF v_denied))) (eP (pureF v__law_not) (aCons (eVar 7) (aNil)))))) (sRet (eC (.bool false))) (sSkip)) <|
  sFor (iSeq (eP (pureF v__law_near) (aCons (eVar 7) (aNil)))) (.nm 5) nrB)
abbrev lpA : SF := sFor (iSeq (eA oTup (aCons (eA oTup (aCons (eC (.str "p")) (aCons (eC (.bool true)) (aNil)))) (aCons (eA oTup (aCons (eC (.str "abcd")) (aCons (eC (.bool true)) (aNil)))) (aCons (eA oTup (aCons (eC (.str "abcde")) (aCons (eC (.bool false)) (aNil)))) (aCons (eA oTup (aCons (eC (.str "")) (aCons (eC (.bool false)) (aNil)))) (aCons (eA oTup (aCons (eC (.str "true")) (aCons (eC (.bool false)) (aNil)))) (aCons (eA oTup (aCons (eC (.str "false")) (aCons (eC (.bool false)) (aNil)))) (aCons (eA oTup (aCons (eC (.str "not")) (aCons (eC (.bool false)) (aNil)))) (aCons (eA oTup (aCons (eC (.str "and")) (aCons (eC (.bool false)) (aNil)))) (aCons (eA oTup (aCons (eC (.str "or")) (aCons (eC (.bool false)) (aNil)))) (aCons (eA oTup (aCons (eC (.str "if")) (aCons (eC (.bool false)) (aNil)))) (aNil))))))))))))) (.tup [.nm 5, .nm 6]) (sIf (bV (e2 (oP pNe) (eA oRepr (aCons (eA oLst (aCons (eP (pureF v_is_name) (aCons (eVar 5) (aNil))) (aCons (kwGo [0] 0 1 aNil (aCons (eVar 5) (aNil)) (runP (pureF v_is_name))) (aNil)))) (aNil))) (eA oRepr (aCons (eA oLst (aCons (eVar 6) (aCons (eVar 6) (aNil)))) (aNil))))) (sRet (eC (.bool false))) (sSkip))
abbrev lpB : SF := sFor (iSeq (eA oTup (aCons (eA oTup (aCons (eC (.str "iff")) (aCons (eC (.bool true)) (aNil)))) (aCons (eA oTup (aCons (eC (.str "Ab")) (aCons (eC (.bool false)) (aNil)))) (aCons (eA oTup (aCons (eC (.str "a1")) (aCons (eC (.bool false)) (aNil)))) (aCons (eA oTup (aCons (eC (.str "a b")) (aCons (eC (.bool false)) (aNil)))) (aCons (eA oTup (aCons (eC .none) (aCons (eC (.bool false)) (aNil)))) (aCons (eA oTup (aCons (eA oTup (aCons (eC (.str "p")) (aNil))) (aCons (eC (.bool false)) (aNil)))) (aCons (eA oTup (aCons (eC (.int 1)) (aCons (eC (.bool false)) (aNil)))) (aCons (eA oTup (aCons (eC (.str "nots")) (aCons (eC (.bool true)) (aNil)))) (aCons (eA oTup (aCons (eC (.str "tru")) (aCons (eC (.bool true)) (aNil)))) (aCons (eA oTup (aCons (eC (.str "-")) (aCons (eC (.bool false)) (aNil)))) (aNil))))))))))))) (.tup [.nm 5, .nm 6]) (sIf (bV (e2 (oP pNe) (eA oRepr (aCons (eP (pureF v_is_name) (aCons (eVar 5) (aNil))) (aNil))) (eA oRepr (aCons (eVar 6) (aNil))))) (sRet (eC (.bool false))) (sSkip))
abbrev kB : SF := (sSeq (sSet 2 (eCall v__law_source (aCons (eVar 0) (aCons (eVar 1) (aNil))))) <|
  sSeq (sSet 3 (eA oLst (aCons (eC (.str "p")) (aCons (eC (.str "ab")) (aCons (eC (.str "zz")) (aCons (eC (.str "abcd")) (aCons (eC (.str "x")) (aNil)))))))) <|
  sSeq (sFor (iRange1 (aCons (eC (.int 6)) (aNil))) (.nm 4) tnB) <|
  sSeq (lpA) <|
  lpB)
section
variable {z0 z1 z2 z3 z4 z5 z6 z7 z8 : Option Val} {S : Store}
theorem loopA : lpA [z0, z1, z2, z3, z4, z5, z6, z7, z8] S = .ok (.nx, [z0, z1, z2, z3, z4, some (.d (.str "if")), some (.d (.bool false)), z7, z8]) S := by kernel_rfl
theorem loopB : lpB [z0, z1, z2, z3, z4, z5, z6, z7, z8] S = .ok (.nx, [z0, z1, z2, z3, z4, some (.d (.str "-")), some (.d (.bool false)), z7, z8]) S := by kernel_rfl
end
end G01
namespace G01
open PySem PySem.Spec PyProof.Rows L2 Fw
theorem V_if0 {c0 : BF} {e : SF} {env : Fw.Env} {S : Store} {n : Fw.Env → Store → Prop} {r : Val → Store → Prop} {b c : Fw.Env → Store → Prop} (h : W (c0 env S) (fun q T => q = false ∧ n env T)) : Fw.V (sIf c0 e sSkip env S) n r b c := by
  rw [V_if]
  refine h.imp ?_
  rintro q T ⟨rfl, h⟩
  refine ⟨fun h => Bool.noConfusion h, fun _ => ?_⟩
  rw [V_skip]
  exact h
theorem chkN_ok {x : PyData} (h : Wrong x) {z0 z1 z2 z3 z4 z6 z7 z8 : Option Val} {S : Store} : W (chkN [z0, z1, z2, z3, z4, some (.d x), z6, z7, z8] S) fun b T => b = false ∧ T = S := by
  have l1 : ∀ (a : PyData) (T : Store), oLst [.d a] T = some (.d (.list [a]), T) := fun _ T => rfl
  have ml : ∀ a : PyData, pMul (.list [a]) (.int 3) = some (.list [a, a, a]) := fun a => rfl
  have pi : pIsNot (.bool false) (.bool false) = some (.bool false) := rfl
  have sx : small (.str x.shown) = true := by
    simp only [small]
    exact h.txt
  have ne : pNe (.list [.str x.shown, .str x.shown, .str x.shown]) (.list [.str x.shown, .str x.shown, .str x.shown]) = some (.bool false) := pNe_same (by rw [small_list, small_cons, small_cons, small_cons, sx, small_nil]; rfl) (by simp only [PyData.depth, PyData.depthAll]; omega)
  rw [W_bOr]
  have a : W (bV (e2 (oP pIsNot) (eP (pureF v_is_saying) (aCons (eVar 5) (aNil))) (eC (.bool false))) [z0, z1, z2, z3, z4, some (.d x), z6, z7, z8] S) fun b T => b = false ∧ T = S := by
    simp only [W_bV, W_e2]
    simp [is_saying_of h.no, pi]
  refine a.imp ?_
  rintro q T ⟨rfl, rfl⟩
  refine ⟨fun h => Bool.noConfusion h, fun _ => ?_⟩
  simp only [W_bV, W_e2, W_lc]
  refine W_range1' (j := 3) (by simp) (by omega) ?_
  refine W_lcN (fun i : Int => PyData.int i) (fun _ : Int => PyData.str x.shown) (xs := [0, 1, 2]) (fun i hi => ⟨_, rfl, ?_⟩) (by decide) ?_
  · simp only [List.mem_cons, List.not_mem_nil, or_false] at hi
    rcases hi with rfl | rfl | rfl
    · simp [wipeE, caught0 h]
    · simp [wipeE, caught1 h]
    · simp [wipeE, caught2 h]
  · simp [l1, repr_wrong h, ml, ne]
theorem nr_loop {z0 z1 z2 z3 z4 z6 z7 z8 : Option Val} {S : Store} {n : Fw.Env → Store → Prop} {r : Val → Store → Prop} {b c : Fw.Env → Store → Prop} (hn : ∀ y, n [z0, z1, z2, z3, z4, y, z6, z7, z8] S) : ∀ (xs : List PyData) (y : Option Val), (∀ x ∈ xs, Wrong x) → Fw.V (forGo (.nm 5) nrB xs [z0, z1, z2, z3, z4, y, z6, z7, z8] S) n r b c
  | [], y, _ => by
    rw [V_for0]
    exact hn y
  | x :: xs, y, h => by
    rw [V_for1]
    show Wp (some [z0, z1, z2, z3, z4, some (.d x), z6, z7, z8]) _
    rw [Wp_some]
    refine V_if0 ((chkN_ok (h x List.mem_cons_self)).imp ?_)
    rintro q T ⟨rfl, rfl⟩
    exact ⟨rfl, nr_loop hn xs _ fun w hw => h w (List.mem_cons_of_mem _ hw)⟩
theorem cR_le : ∀ d : Nat, d ≤ 4 → cR d ≤ 62
  | 0, _ => by decide
  | 1, _ => by decide
  | 2, _ => by decide
  | 3, _ => by decide
  | 4, _ => by decide
  | n + 5, h => by omega
theorem turn {i : Nat} {n : Fw.Env → Store → Prop} {r : Val → Store → Prop} {b c : Fw.Env → Store → Prop} {z0 z1 z4 z5 z6 z7 z8 : Option Val} {S : Store} {B : Int} (hB : Sr i S B) (hb : B ≤ 500000)
    (hn : ∀ y5 y7 T, Sr i T (B + 100) → n [z0, z1, some (.r i), some (.d n4D), z4, y5, z6, y7, z8] T) :
    Fw.V (tnB [z0, z1, some (.r i), some (.d n4D), z4, z5, z6, z7, z8] S) n r b c := by
  refine V_one fun G hG => ?_
  simp
  refine (pick_src (m := 5) hB (by omega) (by omega) (by omega)).imp ?_
  rintro v T ⟨j, bx, rfl, j0, j1, rfl, hB1⟩
  obtain ⟨d, rfl⟩ : ∃ d : Nat, j = d := ⟨j.toNat, by omega⟩
  have hc := cR_le d (by omega)
  refine (saying_src i d 40 _ _ (by omega) hB1 (by omega)).imp ?_
  rintro v T ⟨s, bx2, rfl, hi, hd, rfl, hB2⟩
  simp only [List.set_set] at hB2 ⊢
  refine hG _ _ ?_
  clear hG
  have hd4 : dep s ≤ 4 := by omega
  have is := is_saying_of (saying_in_ok s 40 hi (by omega))
  have l8 : ∀ (a b : PyData) (T : Store), oLst [.d a, .d b] T = some (.d (.list [a, b]), T) := fun _ _ T => rfl
  have l1 : ∀ (a : PyData) (T : Store), oLst [.d a] T = some (.d (.list [a]), T) := fun _ T => rfl
  have r2 : ∀ T : Store, oRepr [.d (.list [.bool true, .bool true])] T = some (.d (.str (PyData.shown (.list [.bool true, .bool true]))), T) := fun T => repr_seq rfl (by decide +kernel) (by decide +kernel) (by decide +kernel)
  refine V_one fun G hG => ?_
  refine V_if0 ?_
  simp only [W_bV, W_e2, W_eA, W_cons, W_nil, W_var, List.getD_cons_succ, List.getD_cons_zero, List.set_cons_succ, List.set_cons_zero, Wp_some]
  simp [is]
  refine W_kw ?_
  simp [W_runP, Fw.pick, is, l8, r2]
  refine hG _ _ ?_
  clear hG
  have wi := words_in_ok hi (show dep s < 40 by omega)
  have la := law_all_ok 40 s (by omega) (by omega)
  have lt := letters_ok hi (show dep s ≤ 8 by omega)
  have ln := law_names_ok hi (show dep s ≤ 8 by omega)
  have len_lst : ∀ T : Store, oLen [.d (.list ((subs s).map enc))] T = some (.d (.int ((subs s).length : Int)), T) := fun T => by
    show (some (Val.d (.int ((((subs s).map enc).map Val.d).length : Int)), T)) = _
    rw [List.length_map, List.length_map]
  have ml : ∀ a : PyData, pMul (.list [a]) (.int 2) = some (.list [a, a]) := fun a => rfl
  have hz := small_dep (show dep s ≤ 8 by omega)
  have smi : small (.int ((subs s).length : Int)) = true := by
    simp only [small]
    exact decide_eq_true (by omega)
  have ne1 : pNe (.list [.int ((subs s).length : Int), .int ((subs s).length : Int)]) (.list [.int ((subs s).length : Int), .int ((subs s).length : Int)]) = some (.bool false) := pNe_same (by rw [small_list, small_cons, small_cons, smi, small_nil]; rfl) (by simp only [PyData.depth, PyData.depthAll]; omega)
  have ne2 : pNe (.tuple ((lets s).map .str)) (.tuple ((lets s).map .str)) = some (.bool false) := pNe_same (by
    rw [small_tup]
    refine smallL_of fun x hx => ?_
    obtain ⟨y, hy, rfl⟩ := List.mem_map.mp hx
    exact (nm_ok (List.mem_filter.mp hy).1).1) (by
    have := depthL_le (n := 0) (xs := (lets s).map .str) fun x hx => by
      obtain ⟨y, hy, rfl⟩ := List.mem_map.mp hx
      exact Nat.le_refl _
    simp only [PyData.depth]
    omega)
  have di := denied_ok hi (show dep s < 40 by omega)
  have lno := law_not_ok s
  have him : inn Nm (.im s .ff) := ⟨hi, trivial⟩
  have ne3 : pNe (enc (.im s .ff)) (enc (.im s .ff)) = some (.bool false) := pNe_same (small_enc _ him) (by
    have h1 := depth_enc (.im s .ff)
    have h2 : dep (.im s .ff) ≤ 5 := by
      show max (dep s) 0 + 1 ≤ 5
      omega
    omega)
  refine V_one fun G hG => ?_
  refine V_if0 ?_
  rw [W_bOr]
  simp only [W_bV, W_e2, W_eA, W_cons, W_nil, W_var, List.getD_cons_succ, List.getD_cons_zero, List.set_cons_succ, List.set_cons_zero, Wp_some]
  simp [wi]
  refine W_kw ?_
  simp [W_runP, Fw.pick, wi, l8, la, len_lst, l1, ml, ne1, lt, ln, tuple_of, ne2]
  refine W_kw ?_
  simp [W_runP, Fw.pick, lt, ln, tuple_of, ne2]
  refine hG _ _ ?_
  clear hG
  refine V_one fun G hG => ?_
  refine V_if0 ?_
  rw [W_bOr]
  simp only [W_bV, W_e2]
  simp [di, lno, ne3]
  refine W_kw ?_
  simp [W_runP, Fw.pick, di, lno, ne3]
  refine hG _ _ ?_
  clear hG
  simp [near_ok, itemsD]
  exact nr_loop (fun y => hn y _ _ (hB2.le (by omega))) (nears s) _ (wrong_all hi (by omega))
theorem one_k {ns : List Int} (hl : ns.length ≤ 63) {k : Nat} (hk : k ≤ 3) {n : Fw.Env → Store → Prop} {r : Val → Store → Prop} {b c : Fw.Env → Store → Prop} {z2 z3 z4 z5 z6 z7 z8 : Option Val} {S : Store}
    (hn : ∀ y2 y3 y4 y5 y6 y7 T, n [some (scrV ns), some (.d (.int (k : Int))), y2, y3, y4, y5, y6, y7, z8] T) :
    Fw.V (kB [some (scrV ns), some (.d (.int (k : Int))), z2, z3, z4, z5, z6, z7, z8] S) n r b c := by
  refine V_one fun G hG => ?_
  simp
  refine (source_ok hk hl).imp ?_
  rintro v T ⟨cc, rfl, rfl, hB⟩
  refine hG _ _ ?_
  clear hG
  refine V_one fun G hG => ?_
  simp [oLst]
  refine hG _ _ ?_
  clear hG
  refine V_one fun G hG => ?_
  rw [V_for]
  refine W_range1' (j := 6) (by simp) (by omega) ?_
  have one : ∀ (m : Int) (xs : List PyData) (n : Fw.Env → Store → Prop) (r : Val → Store → Prop) (b c : Fw.Env → Store → Prop) (z4 z5 z7 : Option Val) (T : Store) (B : Int), Sr S.length T B → B ≤ 200000 →
      (∀ y5 y7 T, Sr S.length T (B + 100) → Fw.V (forGo (.nm 4) tnB xs [some (scrV ns), some (.d (.int (k : Int))), some (.r S.length), some (.d n4D), some (.d (.int m)), y5, z6, y7, z8] T) n r b c) →
      Fw.V (forGo (.nm 4) tnB (.int m :: xs) [some (scrV ns), some (.d (.int (k : Int))), some (.r S.length), some (.d n4D), z4, z5, z6, z7, z8] T) n r b c := fun m xs n r b c z4 z5 z7 T B hB hb hn => by
    rw [V_for1]
    show Wp (some [some (scrV ns), some (.d (.int (k : Int))), some (.r S.length), some (.d n4D), some (.d (.int m)), z5, z6, z7, z8]) _
    rw [Wp_some]
    exact turn hB (by omega) fun y5 y7 T' h3 => hn y5 y7 T' h3
  show Fw.V (forGo (.nm 4) tnB [.int 0, .int 1, .int 2, .int 3, .int 4, .int 5] _ _) _ _ _ _
  refine one _ _ _ _ _ _ _ _ _ _ 1 hB (by omega) fun _ _ T1 h1 => ?_
  refine one _ _ _ _ _ _ _ _ _ T1 _ h1 (by omega) fun _ _ T2 h2 => ?_
  refine one _ _ _ _ _ _ _ _ _ T2 _ h2 (by omega) fun _ _ T3 h3 => ?_
  refine one _ _ _ _ _ _ _ _ _ T3 _ h3 (by omega) fun _ _ T4 h4 => ?_
  refine one _ _ _ _ _ _ _ _ _ T4 _ h4 (by omega) fun _ _ T5 h5 => ?_
  refine one _ _ _ _ _ _ _ _ _ T5 _ h5 (by omega) fun y5 y7 T6 h6 => ?_
  rw [V_for0]
  refine hG _ _ ?_
  clear hG
  refine V_one fun G hG => ?_
  rw [loopA, V_nx]
  refine hG _ _ ?_
  clear hG
  rw [loopB, V_nx]
  exact hn _ _ _ _ _ _ _
theorem law_loop {ns : List Int} (hl : ns.length ≤ 63) {n : Fw.Env → Store → Prop} {r : Val → Store → Prop} {b c : Fw.Env → Store → Prop} {z8 : Option Val} (hn : ∀ y1 y2 y3 y4 y5 y6 y7 T, n [some (scrV ns), y1, y2, y3, y4, y5, y6, y7, z8] T) :
    ∀ (m k : Nat) (z1 z2 z3 z4 z5 z6 z7 : Option Val) (S : Store), k + m ≤ 3 → Fw.V (forGo (.nm 1) kB (ups k m) [some (scrV ns), z1, z2, z3, z4, z5, z6, z7, z8] S) n r b c
  | 0, k, z1, z2, z3, z4, z5, z6, z7, S, _ => by
    show Fw.V (forGo _ _ [] _ _) _ _ _ _
    rw [V_for0]
    exact hn _ _ _ _ _ _ _ _
  | m + 1, k, z1, z2, z3, z4, z5, z6, z7, S, h => by
    show Fw.V (forGo _ _ (.int (k : Int) :: ups (k + 1) m) _ _) _ _ _ _
    rw [V_for1]
    show Wp (some [some (scrV ns), some (.d (.int (k : Int))), z2, z3, z4, z5, z6, z7, z8]) _
    rw [Wp_some]
    exact one_k hl (by omega) fun y2 y3 y4 y5 y6 y7 T => law_loop hl hn m (k + 1) _ _ _ _ _ _ _ T (by omega)
theorem law_true (ns : List Int) (hl : ns.length ≤ 63) : ∃ S, v_law [scrV ns] [] = .ok (.d (.bool true)) S := by
  suffices h : W (v_law [scrV ns] []) fun v _ => v = .d (.bool true) by
    obtain ⟨v, S, e, rfl⟩ := h.run
    exact ⟨S, e⟩
  unfold v_law
  rw [W_fn (by rfl)]
  unfold b_law
  have mx : ∀ (i j : Int) (S : Store), oMax2 [.d (.int i), .d (.int j)] S = some (.d (.int (if j > i then j else i)), S) := fun _ _ _ => rfl
  have mn : ∀ (i j : Int) (S : Store), oMin2 [.d (.int i), .d (.int j)] S = some (.d (.int (if j < i then j else i)), S) := fun _ _ _ => rfl
  obtain ⟨m, hm, hm3⟩ : ∃ m : Nat, (if (if (ns.length : Int) < 3 then (ns.length : Int) else 3) > 1 then (if (ns.length : Int) < 3 then (ns.length : Int) else 3) else 1) = (m : Int) ∧ m ≤ 3 := by
    refine ⟨(if (if (ns.length : Int) < 3 then (ns.length : Int) else 3) > 1 then (if (ns.length : Int) < 3 then (ns.length : Int) else 3) else 1).toNat, ?_, ?_⟩ <;> split <;> (try split) <;> omega
  refine V_one fun G hG => ?_
  rw [V_for]
  refine W_range1' (j := m) (by
    simp only [W_cons, W_nil, W_eA, W_var, W_c, List.getD_cons_zero, Wp_some]
    show Wp (some (scrV ns)) _
    rw [Wp_some, len_scr, Wl_some, mn, Wl_some, mx, Wl_some, hm]
    exact ⟨rfl, rfl⟩) (by omega) ?_
  refine law_loop hl (fun _ _ _ _ _ _ _ _ => hG _ _ ?_) m 0 _ _ _ _ _ _ _ _ (by omega)
  clear hG
  simp
end G01
namespace G01

end G01
open PySem PySem.W PySem.Calls PyProof.Rows
theorem PySem.Challenge.cw_rulesadmitted_k01_sayings_names_and_thei_holds : PySem.Challenge.rw_rulesadmitted_k01_sayings_names_and_thei.Holds := by
  w_on; o_law
  refine HandSHeadRun.head_any (r := OpenLaw.row PySem.Challenge.rw_rulesadmitted_k01_sayings_names_and_thei) (q := view (OpenLaw.row PySem.Challenge.rw_rulesadmitted_k01_sayings_names_and_thei).prog [44]) (H := G01.hk) (ob := G01.ob) (M := 8000) (loose := G01.loose) (d := HandSHeadRun.topDef (OpenLaw.row PySem.Challenge.rw_rulesadmitted_k01_sayings_names_and_thei).prog 44) (kwd := []) G01.ob_eq
    (by kernel_rfl) (fun s => by kernel_rfl) G01.run (by kernel_rfl) (by kernel_rfl) (by kernel_rfl) (by rfl) (by first | assumption | decide +kernel) (by decide +kernel) ⟨rfl, rfl, rfl, rfl, rfl, by decide +kernel⟩ ?hw ?hc
  case hw => w_witness2
  case hc =>
    refine Fw.walk_ofG (l := PySem.Challenge.rw_rulesadmitted_k01_sayings_names_and_thei) (n := 63) (k := 46) (x := "script") rfl (by decide) (by kernel_rfl) ⟨rfl, by decide, by decide⟩ ?F (fun _ => Fw.no_cx)
    intro w mg fa h Y G hmg0
    obtain ⟨K, KX, c⟩ := Y
    have hmg : mg ("law" : PySem.Str) = some (.ref fa) := by
      have e : (HandSHeadRun.topDef (OpenLaw.row PySem.Challenge.rw_rulesadmitted_k01_sayings_names_and_thei).prog 44).name = ("law" : PySem.Str) := by kernel_rfl
      rw [← e]
      exact hmg0
    obtain ⟨hb, hF⟩ := G01.facts (w := w) KX G hmg c
    exact ⟨K, _, _, KX, hb, fun H a ns hl hO hS => Fw.law_sp hO hS (G01.law_true ns hl), hF⟩
