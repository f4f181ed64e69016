import PyProof.Rows.All
import Wide.All
import OpenK.AllK
import Wide.FinOn
import HandS.ForMost
import HandS.ForExc
import HandS.Wide
import HandS.WideBits
import HandS.TupAny
import HandS.IsInst
import HandS.TupLe
import HandS.Property
import HandS.Iter
import HandS.ExcIs
import HandS.ExcCtx
import HandS.HotCalls
import HandS.TryMany
import HandS.Comp
import HandS.Conv
import HandS.RaiseMore
import HandS.Deep
import HandS.Defaults
import HandS.Head0
import HandS.Head1
import HandS.Head2
import HandS.HeadEnd
import HandS.HeadHook1
import HandS.HeadHook2
import HandS.Codes
import PySem.Challenge.RW_appendhall_k58_commands_written
set_option Elab.async false
set_option linter.all false
set_option maxRecDepth 100000
set_option maxHeartbeats 4000000
/-! A deterministic reading of the programs: values as trees, objects in one store that grows. -/
namespace Y
open PySem PySem.Spec PyProof.Rows L2

/-- values: tuples are trees, lists, dicts and instances are places of the store -/
inductive PV where
  | non | bl (b : Bool) | int (i : Int) | str (s : List Nat) | tup (ps : List PV) | ref (n : Nat) | con (a : Addr) | ty (n : String)
/-- keys of dicts -/
inductive DK where
  | i (n : Int) | s (x : List Nat)
  deriving DecidableEq
def DK.key : DK → Key
  | .i n => .inl n
  | .s x => .inr ⟨x.toArray⟩
/-- objects of the store -/
inductive SO where
  | lst (ps : List PV) | frz (ps : List PV) | dct (kvs : List (DK × PV)) | ins (C : String) (fs : List (String × PV)) | set (xs : List Int)
abbrev Sto := List SO
abbrev Rho := List (Option PV)

/-- a tuple that stands: it never changes -/
def TupA (K : PySem.W.Frag) (H : Hp) (a : Addr) (xs : List V) : Prop := H a = some (.tup xs) ∨
  ∃ (o : Obj) (its : Array Value) (n : Nat), K.lookup a = some o ∧ o.cls = .type "tuple" ∧ o.data = .seq its n ∧ its.size ≤ sizeLine ∧ Vals xs its.toList
theorem TupA.sq {K : PySem.W.Frag} {H : Hp} {a : Addr} {xs : List V} (h : TupA K H a xs) : SqT K H a xs := h.imp Rd.of id

mutual
inductive RepV (K : PySem.W.Frag) (m : List Addr) (H : Hp) : PV → V → Prop
  | non : RepV K m H .non .non
  | bl (b : Bool) : RepV K m H (.bl b) (.bl b)
  | int (i : Int) : RepV K m H (.int i) (.int i)
  | str (s : List Nat) : RepV K m H (.str s) (.str ⟨s.toArray⟩)
  | tup {ps : List PV} {a : Addr} {xs : List V} (h : TupA K H a xs) (r : RepL K m H ps xs) : RepV K m H (.tup ps) (.ref a)
  | ref {n : Nat} {a : Addr} (h : m[n]? = some a) : RepV K m H (.ref n) (.ref a)
  | con (a : Addr) : RepV K m H (.con a) (.ref a)
  | ty (n : String) : RepV K m H (.ty n) (.ty n)
inductive RepL (K : PySem.W.Frag) (m : List Addr) (H : Hp) : List PV → List V → Prop
  | nil : RepL K m H [] []
  | cons {p : PV} {v : V} {ps : List PV} {vs : List V} (r : RepV K m H p v) (t : RepL K m H ps vs) : RepL K m H (p :: ps) (v :: vs)
end

structure Ext (m : List Addr) (H : Hp) (m' : List Addr) (H' : Hp) : Prop where
  mm : ∃ t, m' = m ++ t
  tp : ∀ a xs, H a = some (.tup xs) → H' a = some (.tup xs)
theorem Ext.refl (m : List Addr) (H : Hp) : Ext m H m H := ⟨⟨[], by simp⟩, fun _ _ h => h⟩
theorem Ext.trans {m m1 m2 : List Addr} {H H1 H2 : Hp} (a : Ext m H m1 H1) (b : Ext m1 H1 m2 H2) : Ext m H m2 H2 := by
  obtain ⟨t, rfl⟩ := a.mm
  obtain ⟨u, rfl⟩ := b.mm
  exact ⟨⟨t ++ u, by simp⟩, fun x xs h => b.tp x xs (a.tp x xs h)⟩
theorem Ext.at {m m' : List Addr} {H H' : Hp} (e : Ext m H m' H') {n : Nat} {a : Addr} (h : m[n]? = some a) : m'[n]? = some a := by
  obtain ⟨t, rfl⟩ := e.mm
  obtain ⟨hn, _⟩ := List.getElem?_eq_some_iff.mp h
  rw [List.getElem?_append_left hn]
  exact h
theorem TupA.mono {K : PySem.W.Frag} {m m' : List Addr} {H H' : Hp} {a : Addr} {xs : List V} (e : Ext m H m' H') (h : TupA K H a xs) : TupA K H' a xs := h.imp (e.tp a xs) id
theorem RepL.mono {K : PySem.W.Frag} {m m' : List Addr} {H H' : Hp} (e : Ext m H m' H') {ps : List PV} {vs : List V} (h : RepL K m H ps vs) : RepL K m' H' ps vs := by
  refine RepL.rec (K := K) (m := m) (H := H) (motive_1 := fun p v _ => RepV K m' H' p v) (motive_2 := fun ps vs _ => RepL K m' H' ps vs) ?_ ?_ ?_ ?_ ?_ ?_ ?_ ?_ ?_ ?_ h
  · exact .non
  · exact .bl
  · exact .int
  · exact .str
  · exact fun h _ r => .tup (h.mono e) r
  · exact fun h => .ref (e.at h)
  · exact .con
  · exact .ty
  · exact .nil
  · exact fun _ _ r t => .cons r t
theorem RepV.mono {K : PySem.W.Frag} {m m' : List Addr} {H H' : Hp} (e : Ext m H m' H') {p : PV} {v : V} (h : RepV K m H p v) : RepV K m' H' p v := by
  have q := RepL.mono e (.cons h .nil)
  cases q with
  | cons r t => exact r
theorem RepL.length {K : PySem.W.Frag} {m : List Addr} {H : Hp} : ∀ {ps : List PV} {vs : List V}, RepL K m H ps vs → ps.length = vs.length
  | [], [], .nil => rfl
  | _ :: _, _ :: _, .cons _ t => congrArg (· + 1) (RepL.length t)
theorem RepL.get {K : PySem.W.Frag} {m : List Addr} {H : Hp} : ∀ {ps : List PV} {vs : List V} {i : Nat} {p : PV}, RepL K m H ps vs → ps[i]? = some p → ∃ v, vs[i]? = some v ∧ RepV K m H p v
  | [], _, _, _, _, h => by simp at h
  | _ :: _, _, 0, _, .cons r _, h => by simp at h; subst h; exact ⟨_, rfl, r⟩
  | _ :: _, _, i + 1, _, .cons _ t, h => by simpa using RepL.get (i := i) t (by simpa using h)
theorem RepL.append {K : PySem.W.Frag} {m : List Addr} {H : Hp} : ∀ {ps qs : List PV} {vs us : List V}, RepL K m H ps vs → RepL K m H qs us → RepL K m H (ps ++ qs) (vs ++ us)
  | [], _, _, _, .nil, s => s
  | _ :: _, _, _, _, .cons r t, s => .cons r (RepL.append t s)
theorem RepL.take {K : PySem.W.Frag} {m : List Addr} {H : Hp} : ∀ {ps : List PV} {vs : List V} (n : Nat), RepL K m H ps vs → RepL K m H (ps.take n) (vs.take n)
  | _, _, 0, _ => .nil
  | [], _, _ + 1, .nil => .nil
  | _ :: _, _, n + 1, .cons r t => .cons r (RepL.take n t)
theorem RepL.drop {K : PySem.W.Frag} {m : List Addr} {H : Hp} : ∀ {ps : List PV} {vs : List V} (n : Nat), RepL K m H ps vs → RepL K m H (ps.drop n) (vs.drop n)
  | _, _, 0, r => r
  | [], _, _ + 1, .nil => .nil
  | _ :: _, _, n + 1, .cons _ t => RepL.drop n t
theorem RepL.set {K : PySem.W.Frag} {m : List Addr} {H : Hp} {p : PV} {v : V} (r : RepV K m H p v) : ∀ {ps : List PV} {vs : List V} (n : Nat), RepL K m H ps vs → RepL K m H (ps.set n p) (vs.set n v)
  | [], _, _, .nil => .nil
  | _ :: _, _, 0, .cons _ t => .cons r t
  | _ :: _, _, n + 1, .cons q t => .cons q (RepL.set r n t)

section
variable (K : PySem.W.Frag) (cv : String → Addr)
def RepO (m : List Addr) (H : Hp) (a : Addr) : SO → Prop
  | .lst ps => ∃ vs, H a = some (.lst vs) ∧ RepL K m H ps vs
  | .frz ps => ∃ vs ob, H a = some (.frz ob (.lst vs)) ∧ RepL K m H ps vs
  | .dct kvs => ∃ ks : List (Key × V), H a = some (.dK ks) ∧ ks.map (·.1) = kvs.map (·.1.key) ∧ RepL K m H (kvs.map (·.2)) (ks.map (·.2))
  | .ins C fs => ∃ dx, ∃ ks : List (Str × V), H a = some (.ins (cv C) dx ks) ∧ ks.map (·.1) = fs.map (fun f => Str.ofString f.1) ∧ RepL K m H (fs.map (·.2)) (ks.map (·.2))
  | .set xs => H a = some (.set (fun z => decide (z ∈ xs)) xs.length)
structure Rel (m : List Addr) (st : Sto) (H : Hp) : Prop where
  nd : m.Nodup
  len : m.length = st.length
  obj : ∀ (i : Nat) (a : Addr) (o : SO), m[i]? = some a → st[i]? = some o → RepO K cv m H a o
def RS (m : List Addr) (H : Hp) (ρ : Rho) (σ : L2.St) : Prop := ρ.length = σ.length ∧ ∀ (i : Nat) (p : PV), ρ[i]? = some (some p) → ∃ v : V, σ[i]? = some (some v) ∧ RepV K m H p v
end
section
variable {K : PySem.W.Frag} {cv : String → Addr} {m m' : List Addr} {H H' : Hp} {st st' : Sto} {ρ : Rho} {σ : L2.St}
theorem RS.mono (e : Ext m H m' H') (h : RS K m H ρ σ) : RS K m' H' ρ σ := ⟨h.1, fun i p hp => let ⟨v, h1, h2⟩ := h.2 i p hp; ⟨v, h1, h2.mono e⟩⟩
theorem RS.set {p : PV} {v : V} (h : RS K m H ρ σ) (r : RepV K m H p v) (i : Nat) : RS K m H (ρ.set i (some p)) (σ.set i (some v)) := by
  refine ⟨by simp [h.1], fun j q hq => ?_⟩
  by_cases e : i = j
  · subst e
    rw [List.getElem?_set] at hq ⊢
    simp only [if_true] at hq ⊢
    have hl := h.1
    by_cases hi : i < ρ.length
    · rw [if_pos hi] at hq
      rw [if_pos (by omega)]
      cases hq
      exact ⟨v, rfl, r⟩
    · rw [if_neg hi] at hq
      cases hq
  · rw [List.getElem?_set_ne e] at hq
    rw [List.getElem?_set_ne e]
    exact h.2 j q hq
theorem RepO.keep {a : Addr} {o : SO} (e : Ext m H m' H') (h : RepO K cv m H a o) (k : H' a = H a) : RepO K cv m' H' a o := by
  cases o with
  | lst ps => obtain ⟨vs, h1, h2⟩ := h; exact ⟨vs, k.trans h1, h2.mono e⟩
  | frz ps => obtain ⟨vs, ob, h1, h2⟩ := h; exact ⟨vs, ob, k.trans h1, h2.mono e⟩
  | dct kvs => obtain ⟨ks, h1, h2, h3⟩ := h; exact ⟨ks, k.trans h1, h2, h3.mono e⟩
  | ins C fs => obtain ⟨dx, ks, h1, h2, h3⟩ := h; exact ⟨dx, ks, k.trans h1, h2, h3.mono e⟩
  | set xs => exact k.trans h
theorem RepO.here {a : Addr} {o : SO} (h : RepO K cv m H a o) : ∃ u, H a = some u ∧ (∀ xs, u ≠ .tup xs) := by
  cases o with
  | lst ps => obtain ⟨vs, h1, h2⟩ := h; exact ⟨_, h1, fun _ z => by cases z⟩
  | frz ps => obtain ⟨vs, ob, h1, h2⟩ := h; exact ⟨_, h1, fun _ z => by cases z⟩
  | dct kvs => obtain ⟨ks, h1, h2, h3⟩ := h; exact ⟨_, h1, fun _ z => by cases z⟩
  | ins C fs => obtain ⟨dx, ks, h1, h2, h3⟩ := h; exact ⟨_, h1, fun _ z => by cases z⟩
  | set xs => exact ⟨_, h, fun _ z => by cases z⟩
theorem Rel.at (R : Rel K cv m st H) {i : Nat} {o : SO} (h : st[i]? = some o) : ∃ a, m[i]? = some a ∧ RepO K cv m H a o := by
  obtain ⟨hi, _⟩ := List.getElem?_eq_some_iff.mp h
  have hm : i < m.length := by rw [R.len]; exact hi
  exact ⟨m[i], List.getElem?_eq_getElem hm, R.obj i _ o (List.getElem?_eq_getElem hm) h⟩
theorem Rel.get (R : Rel K cv m st H) {i : Nat} {a : Addr} (h : m[i]? = some a) : ∃ o u, st[i]? = some o ∧ RepO K cv m H a o ∧ H a = some u ∧ (∀ xs, u ≠ .tup xs) := by
  obtain ⟨hi, _⟩ := List.getElem?_eq_some_iff.mp h
  have hs : i < st.length := by rw [← R.len]; exact hi
  have r := R.obj i a _ h (List.getElem?_eq_getElem hs)
  obtain ⟨u, h1, h2⟩ := r.here
  exact ⟨_, u, List.getElem?_eq_getElem hs, r, h1, h2⟩
/-- a new thing that the store does not know -/
theorem Ext.laid {p : Addr} {o : HO} (h : H p = none) : Ext m H m (upd H p o) := ⟨⟨[], by simp⟩, fun a xs e => by rw [upd_ne (ne_of_none e h)]; exact e⟩
theorem Rel.laid (R : Rel K cv m st H) {p : Addr} {o : HO} (h : H p = none) : Rel K cv m st (upd H p o) := ⟨R.nd, R.len, fun i a q h1 h2 => by
  have r := R.obj i a q h1 h2
  obtain ⟨u, h3, _⟩ := r.here
  exact r.keep (.laid h) (upd_ne (ne_of_none h3 h))⟩
/-- a new object of the store -/
theorem Ext.push {p : Addr} {o : HO} (h : H p = none) : Ext m H (m ++ [p]) (upd H p o) := ⟨⟨[p], rfl⟩, fun a xs e => by rw [upd_ne (ne_of_none e h)]; exact e⟩
theorem Rel.push (R : Rel K cv m st H) {p : Addr} {o : HO} {q : SO} (h : H p = none) (r : RepO K cv (m ++ [p]) (upd H p o) p q) : Rel K cv (m ++ [p]) (st ++ [q]) (upd H p o) := by
  refine ⟨?_, by simp [R.len], fun i a z h1 h2 => ?_⟩
  · refine List.nodup_append.mpr ⟨R.nd, by simp, fun x hx y hy e => ?_⟩
    have ey : y = p := by simpa using hy
    subst ey; subst e
    obtain ⟨i, hi, e⟩ := List.getElem_of_mem hx
    obtain ⟨_, u, _, _, h3, _⟩ := R.get (i := i) (a := x) (by rw [List.getElem?_eq_getElem hi, e])
    rw [h] at h3; cases h3
  · by_cases hi : i < m.length
    · rw [List.getElem?_append_left hi] at h1
      rw [List.getElem?_append_left (by rw [← R.len]; exact hi)] at h2
      have r := R.obj i a z h1 h2
      obtain ⟨u, h3, _⟩ := r.here
      exact r.keep (.push h) (upd_ne (ne_of_none h3 h))
    · have hi2 : i = m.length := by
        have := (List.getElem?_eq_some_iff.mp h1).1
        simp at this; omega
      subst hi2
      have e1 : a = p := by simpa using h1.symm
      have e2 : z = q := by rw [R.len] at h2; simpa using h2.symm
      subst e1; subst e2
      exact r
theorem Rel.ne (R : Rel K cv m st H) {i j : Nat} {a b : Addr} (h1 : m[i]? = some a) (h2 : m[j]? = some b) (h : i ≠ j) : a ≠ b := by
  intro e; subst e
  obtain ⟨hi, e1⟩ := List.getElem?_eq_some_iff.mp h1
  obtain ⟨hj, e2⟩ := List.getElem?_eq_some_iff.mp h2
  have P := List.pairwise_iff_getElem.mp R.nd
  rcases Nat.lt_or_gt_of_ne h with q | q
  · exact P i j hi hj q (e1.trans e2.symm)
  · exact P j i hj hi q (e2.trans e1.symm)
/-- an object of the store is written -/
theorem Ext.write {a : Addr} {o u : HO} (h : H a = some u) (hu : ∀ xs, u ≠ .tup xs) : Ext m H m (upd H a o) := ⟨⟨[], by simp⟩, fun b xs e => by
  rw [upd_ne (fun z => by subst z; rw [h] at e; exact hu xs (Option.some.inj e))]; exact e⟩
theorem Rel.write (R : Rel K cv m st H) {i : Nat} {a : Addr} {o : HO} {q : SO} (h : m[i]? = some a) (r : RepO K cv m (upd H a o) a q) : Rel K cv m (st.set i q) (upd H a o) := by
  refine ⟨R.nd, by simp [R.len], fun j b z h1 h2 => ?_⟩
  by_cases e : i = j
  · subst e
    rw [h] at h1; cases h1
    rw [List.getElem?_set] at h2
    simp only [if_true] at h2
    split at h2
    · cases h2; exact r
    · cases h2
  · rw [List.getElem?_set_ne e] at h2
    obtain ⟨_, u, _, _, h3, h4⟩ := R.get h
    exact (R.obj j b z h1 h2).keep (.write h3 h4) (upd_ne (R.ne h1 h (Ne.symm e)))
end

/-! ### results -/
inductive ER (α : Type) where
  | ok (a : α) (s : Sto) | ex (c : String) (s : Sto) | bad
def ER.bind {α β : Type} (r : ER α) (f : α → Sto → ER β) : ER β := match r with
  | .ok a s => f a s
  | .ex c s => .ex c s
  | .bad => .bad
@[simp] theorem ER.bind_ok {α β : Type} (a : α) (s : Sto) (f : α → Sto → ER β) : (ER.ok a s).bind f = f a s := (rfl)
@[simp] theorem ER.bind_ex {α β : Type} (c : String) (s : Sto) (f : α → Sto → ER β) : (ER.ex c s).bind f = .ex c s := (rfl)
@[simp] theorem ER.bind_bad {α β : Type} (f : α → Sto → ER β) : (ER.bad : ER α).bind f = .bad := (rfl)
inductive SR where
  | nx (ρ : Rho) (s : Sto) | rt (v : PV) (s : Sto) | bk (ρ : Rho) (s : Sto) | ct (ρ : Rho) (s : Sto) | ex (c : String) (ρ : Rho) (s : Sto) | bad
abbrev EF := Rho → Sto → ER PV
abbrev TF := Rho → Sto → ER Bool
abbrev AF := Rho → Sto → ER (List PV)
abbrev SF := Rho → Sto → SR
abbrev FF := List PV → Sto → ER PV

section
variable (K : PySem.W.Frag) (cv : String → Addr)
def EPost (m : List Addr) (H : Hp) (W : Value → Hp → Prop) (Q : VK) : ER PV → Prop
  | .ok p s' => ∀ m' H' v, Ext m H m' H' → Rel K cv m' s' H' → RepV K m' H' p v → Q v H'
  | .ex c s' => ∀ m' H', Ext m H m' H' → Rel K cv m' s' H' → W (.ref (cv c)) H'
  | .bad => False
def TPost (m : List Addr) (H : Hp) (W : Value → Hp → Prop) (Q : Bool → Hp → Prop) : ER Bool → Prop
  | .ok b s' => ∀ m' H', Ext m H m' H' → Rel K cv m' s' H' → Q b H'
  | .ex c s' => ∀ m' H', Ext m H m' H' → Rel K cv m' s' H' → W (.ref (cv c)) H'
  | .bad => False
def APost (m : List Addr) (H : Hp) (W : Value → Hp → Prop) (Q : List V → Hp → Prop) : ER (List PV) → Prop
  | .ok ps s' => ∀ m' H' vs, Ext m H m' H' → Rel K cv m' s' H' → RepL K m' H' ps vs → Q vs H'
  | .ex c s' => ∀ m' H', Ext m H m' H' → Rel K cv m' s' H' → W (.ref (cv c)) H'
  | .bad => False
def SPost (m : List Addr) (H : Hp) (W : WX) (D : Ends) : SR → Prop
  | .nx ρ s' => ∀ m' H' σ', Ext m H m' H' → Rel K cv m' s' H' → RS K m' H' ρ σ' → D.nx σ' H'
  | .rt p s' => ∀ m' H' v, Ext m H m' H' → Rel K cv m' s' H' → RepV K m' H' p v → D.rt v H'
  | .bk ρ s' => ∀ m' H' σ', Ext m H m' H' → Rel K cv m' s' H' → RS K m' H' ρ σ' → D.bk σ' H'
  | .ct ρ s' => ∀ m' H' σ', Ext m H m' H' → Rel K cv m' s' H' → RS K m' H' ρ σ' → D.ct σ' H'
  | .ex c ρ s' => ∀ m' H' σ', Ext m H m' H' → Rel K cv m' s' H' → RS K m' H' ρ σ' → W (.ref (cv c)) none σ' H'
  | .bad => False
def T2 (W : WX) (f : EF) : TE := fun σ H Q => ∃ m s ρ, Rel K cv m s H ∧ RS K m H ρ σ ∧ EPost K cv m H (fun c H' => W c none σ H') Q (f ρ s)
def T2T (W : WX) (f : TF) : TT := fun σ H Q => ∃ m s ρ, Rel K cv m s H ∧ RS K m H ρ σ ∧ TPost K cv m H (fun c H' => W c none σ H') Q (f ρ s)
def T2A (W : WX) (f : AF) : TA := fun σ H Q => ∃ m s ρ, Rel K cv m s H ∧ RS K m H ρ σ ∧ APost K cv m H (fun c H' => W c none σ H') Q (f ρ s)
def T2S (W : WX) (f : SF) : TS := fun D σ H => ∃ m s ρ, Rel K cv m s H ∧ RS K m H ρ σ ∧ SPost K cv m H W D (f ρ s)
end
section
variable {K : PySem.W.Frag} {cv : String → Addr} {m m1 : List Addr} {H H1 : Hp} {W : Value → Hp → Prop}
theorem EPost.ext {Q : VK} {r : ER PV} (e : Ext m H m1 H1) (h : EPost K cv m H W Q r) : EPost K cv m1 H1 W Q r := by
  cases r with
  | ok p s => exact fun m' H' v e' R r => h m' H' v (e.trans e') R r
  | ex c s => exact fun m' H' e' R => h m' H' (e.trans e') R
  | bad => exact h
theorem TPost.ext {Q : Bool → Hp → Prop} {r : ER Bool} (e : Ext m H m1 H1) (h : TPost K cv m H W Q r) : TPost K cv m1 H1 W Q r := by
  cases r with
  | ok p s => exact fun m' H' e' R => h m' H' (e.trans e') R
  | ex c s => exact fun m' H' e' R => h m' H' (e.trans e') R
  | bad => exact h
theorem APost.ext {Q : List V → Hp → Prop} {r : ER (List PV)} (e : Ext m H m1 H1) (h : APost K cv m H W Q r) : APost K cv m1 H1 W Q r := by
  cases r with
  | ok p s => exact fun m' H' v e' R r => h m' H' v (e.trans e') R r
  | ex c s => exact fun m' H' e' R => h m' H' (e.trans e') R
  | bad => exact h
theorem SPost.ext {W : WX} {D : Ends} {r : SR} (e : Ext m H m1 H1) (h : SPost K cv m H W D r) : SPost K cv m1 H1 W D r := by
  cases r with
  | nx ρ s => exact fun m' H' v e' R r => h m' H' v (e.trans e') R r
  | rt p s => exact fun m' H' v e' R r => h m' H' v (e.trans e') R r
  | bk ρ s => exact fun m' H' v e' R r => h m' H' v (e.trans e') R r
  | ct ρ s => exact fun m' H' v e' R r => h m' H' v (e.trans e') R r
  | ex c ρ s => exact fun m' H' v e' R r => h m' H' v (e.trans e') R r
  | bad => exact h
end

structure PE2 (X : Cx) (cv : String → Addr) (W : WX) (e : Expr) (f : EF) : Prop where
  pe : PE X e (T2 X.K cv W f)
structure PT2 (X : Cx) (cv : String → Addr) (W : WX) (e : Expr) (f : TF) : Prop where
  pt : PT X e (T2T X.K cv W f)
structure PW2 (X : Cx) (cv : String → Addr) (W : WX) (e : Expr) (f : TF) : Prop where
  pw : PW X e (T2T X.K cv W f)
structure PA2 (X : Cx) (cv : String → Addr) (W : WX) (es : List Expr) (f : AF) : Prop where
  pa : PA X es (T2A X.K cv W f)
structure PS2 (X : Cx) (cv : String → Addr) (W : WX) (st : Stmt) (f : SF) : Prop where
  ps : PS X st (T2S X.K cv W f)
structure PSs2 (X : Cx) (cv : String → Addr) (W : WX) (st : List Stmt) (f : SF) : Prop where
  pss : PSs X st (T2S X.K cv W f)
theorem _root_.L2.PE.monoY {X : Cx} {e : Expr} {t t' : TE} (h : PE X e t) (k : ∀ σ H Q, t' σ H Q → t σ H Q) : PE X e t' := ⟨fun pins s σ H Q I q => h.run pins s σ H Q I (k σ H Q q)⟩
theorem _root_.L2.PT.monoY {X : Cx} {e : Expr} {t t' : TT} (h : PT X e t) (k : ∀ σ H Q, t' σ H Q → t σ H Q) : PT X e t' := ⟨fun pins s σ H Q I q => h.run pins s σ H Q I (k σ H Q q)⟩
theorem _root_.L2.PW.monoY {X : Cx} {e : Expr} {t t' : TT} (h : PW X e t) (k : ∀ σ H Q, t' σ H Q → t σ H Q) : PW X e t' := ⟨fun wh pins s σ H Q I q => h.run wh pins s σ H Q I (k σ H Q q)⟩
theorem _root_.L2.PA.monoY {X : Cx} {e : List Expr} {t t' : TA} (h : PA X e t) (k : ∀ σ H Q, t' σ H Q → t σ H Q) : PA X e t' := ⟨fun p pins s σ H Q I q => h.run p pins s σ H Q I (k σ H Q q)⟩
theorem _root_.L2.PS.monoY {X : Cx} {e : Stmt} {t t' : TS} (h : PS X e t) (k : ∀ D σ H, t' D σ H → t D σ H) : PS X e t' := ⟨fun pins s σ H D I q => h.run pins s σ H D I (k D σ H q)⟩
theorem _root_.L2.PSs.monoY {X : Cx} {e : List Stmt} {t t' : TS} (h : PSs X e t) (k : ∀ D σ H, t' D σ H → t D σ H) : PSs X e t' := ⟨fun pins s σ H D I q => h.run pins s σ H D I (k D σ H q)⟩

/-! ### sequencing: what a reading gives -/
section
variable {K : PySem.W.Frag} {cv : String → Addr} {W : WX} {σ : L2.St} {H : Hp}
theorem t2_intro {f : EF} {Q : VK} {m : List Addr} {s : Sto} {ρ : Rho} (R : Rel K cv m s H) (S : RS K m H ρ σ) (h : EPost K cv m H (fun c H' => W c none σ H') Q (f ρ s)) : T2 K cv W f σ H Q := ⟨m, s, ρ, R, S, h⟩
/-- the first part e1 is done, then the rest -/
theorem epost_bind {m : List Addr} {W : Value → Hp → Prop} {Q Q1 : VK} {r : ER PV} {k : PV → Sto → ER PV} (h : EPost K cv m H W Q (r.bind k))
    (n : ∀ p s' m' H' v, Ext m H m' H' → Rel K cv m' s' H' → RepV K m' H' p v → EPost K cv m' H' W Q (k p s') → Q1 v H') : EPost K cv m H W Q1 r := by
  cases r with
  | ok p s => exact fun m' H' v e R q => n p s m' H' v e R q (EPost.ext e (show EPost K cv m H W Q (k p s) from h))
  | ex c s => exact h
  | bad => exact h
end
end Y

set_option Elab.async false
set_option linter.all false
set_option maxRecDepth 100000
set_option maxHeartbeats 4000000
namespace Y
open PySem PySem.Spec PyProof.Rows L2

def S (x : String) : List Nat := x.toList.map Char.toNat
theorem ofS (x : String) : Str.ofString x = ⟨(S x).toArray⟩ := Str.ofString_eq_toList x

/-! ### the forms of expressions -/
def ER.of {α : Type} : Option (α × Sto) → ER α
  | some (a, s) => .ok a s
  | none => .bad
@[simp] theorem ER.of_some {α : Type} (a : α) (s : Sto) : ER.of (some (a, s)) = .ok a s := (rfl)
@[simp] theorem ER.of_none {α : Type} : (ER.of none : ER α) = .bad := (rfl)
abbrev OR := Option (PV × Sto)
namespace E
def var (i : Nat) : EF := fun ρ s => match ρ[i]? with
  | some (some p) => .ok p s
  | _ => .bad
def c (p : PV) : EF := fun _ s => .ok p s
def bin (g : PV → PV → Sto → OR) (a b : EF) : EF := fun ρ s => (a ρ s).bind fun x s1 => (b ρ s1).bind fun y s2 => .of (g x y s2)
def un (g : PV → Sto → OR) (a : EF) : EF := fun ρ s => (a ρ s).bind fun x s1 => .of (g x s1)
def chain (g h : PV → PV → Sto → OR) (a b c : EF) : EF := fun ρ s => (a ρ s).bind fun x s1 => (b ρ s1).bind fun y s2 => (ER.of (g x y s2)).bind fun z s3 => match z with
  | .bl true => (c ρ s3).bind fun w s4 => .of (h y w s4)
  | .bl false => .ok (.bl false) s3
  | _ => .bad
def and (a b : EF) : EF := fun ρ s => (a ρ s).bind fun x s1 => match x with
  | .bl true => b ρ s1
  | .bl false => .ok (.bl false) s1
  | _ => .bad
def or (a b : EF) : EF := fun ρ s => (a ρ s).bind fun x s1 => match x with
  | .bl true => .ok (.bl true) s1
  | .bl false => b ρ s1
  | _ => .bad
def not (a : EF) : EF := fun ρ s => (a ρ s).bind fun x s1 => match x with
  | .bl b => .ok (.bl (!b)) s1
  | _ => .bad
def nil : AF := fun _ s => .ok [] s
def cons (a : EF) (r : AF) : AF := fun ρ s => (a ρ s).bind fun x s1 => (r ρ s1).bind fun xs s2 => .ok (x :: xs) s2
def tup (a : AF) : EF := fun ρ s => (a ρ s).bind fun xs s1 => if xs.length ≤ sizeLine then .ok (.tup xs) s1 else .bad
def lst (a : AF) : EF := fun ρ s => (a ρ s).bind fun xs s1 => if xs.length ≤ sizeLine then .ok (.ref s1.length) (s1 ++ [.lst xs]) else .bad
/-- a call of a def -/
def call (F : FF) (a : AF) : EF := fun ρ s => (a ρ s).bind fun xs s1 => F xs s1
def meth (C m : String) (F : FF) (o : EF) (a : AF) : EF := fun ρ s => (o ρ s).bind fun x s1 => match x with
  | .ref n => (match s1[n]? with
    | some (.ins D fs) => if D = C ∧ fs.lookup m = none then (a ρ s1).bind fun xs s2 => F (.ref n :: xs) s2 else .bad
    | _ => .bad)
  | _ => .bad
def make (C : String) (F : FF) (a : AF) : EF := fun ρ s => (a ρ s).bind fun xs s1 => (F (.ref s1.length :: xs) (s1 ++ [.ins C []])).bind fun v s2 => match v with
  | .non => .ok (.ref s1.length) s2
  | _ => .bad
def fld (C f : String) (o : EF) : EF := fun ρ s => (o ρ s).bind fun x s1 => match x with
  | .ref n => (match s1[n]? with
    | some (.ins D fs) => if D = C then (match fs.lookup f with | some v => .ok v s1 | none => .bad) else .bad
    | _ => .bad)
  | _ => .bad
/-- a built-in by its values -/
def blt (g : List PV → Sto → OR) (a : AF) : EF := fun ρ s => (a ρ s).bind fun xs s1 => .of (g xs s1)
/-- a built-in's method by its values -/
def bmOld (g : PV → List PV → Sto → OR) (o : EF) (a : AF) : EF := fun ρ s => (o ρ s).bind fun x s1 => (a ρ s1).bind fun xs s2 => .of (g x xs s2)
def slice (g : PV → Option Int → Option Int → Sto → OR) (o : EF) (lo hi : Option EF) : EF := fun ρ s => (o ρ s).bind fun x s1 =>
  (match lo with | none => ER.ok none s1 | some f => (f ρ s1).bind fun v s => match v with | .int i => .ok (some i) s | _ => .bad).bind fun l s2 =>
  (match hi with | none => ER.ok none s2 | some f => (f ρ s2).bind fun v s => match v with | .int i => .ok (some i) s | _ => .bad).bind fun h s3 => .of (g x l h s3)
end E
namespace T
def truth (p : PV) (s : Sto) : Option Bool := match p with
  | .non => some false
  | .bl b => some b
  | .int i => some (i != 0)
  | .str x => if x.length ≤ sizeLine then some ((x.length : Int) != 0) else none
  | .tup ps => some (!ps.isEmpty)
  | .ref n => (match s[n]? with
    | some (.lst ps) => some (!ps.isEmpty)
    | some (.frz ps) => some (!ps.isEmpty)
    | some (.dct kvs) => some (!kvs.isEmpty)
    | _ => none)
  | _ => none
def val (a : EF) : TF := fun ρ s => (a ρ s).bind fun x s1 => match x with
  | .bl b => .ok b s1
  | _ => .bad
def tru (a : EF) : TF := fun ρ s => (a ρ s).bind fun x s1 => match truth x s1 with
  | some b => .ok b s1
  | none => .bad
def and (a b : TF) : TF := fun ρ s => (a ρ s).bind fun x s1 => if x = true then b ρ s1 else .ok false s1
def or (a b : TF) : TF := fun ρ s => (a ρ s).bind fun x s1 => if x = true then .ok true s1 else b ρ s1
def not (a : TF) : TF := fun ρ s => (a ρ s).bind fun x s1 => .ok (!x) s1
end T

section
variable (K : PySem.W.Frag) (cv : String → Addr)
def OPost (m : List Addr) (H : Hp) (Q : VK) : OR → Prop
  | some (p, s') => ∀ m' H' v, Ext m H m' H' → Rel K cv m' s' H' → RepV K m' H' p v → Q v H'
  | none => False
def Op2 (r : R2) (g : PV → PV → Sto → OR) : Prop := ∀ m st H px py x y Q, Rel K cv m st H → RepV K m H px x → RepV K m H py y → OPost K cv m H Q (g px py st) → r x y H Q
def Op1 (r : V → Hp → VK → Prop) (g : PV → Sto → OR) : Prop := ∀ m st H px x Q, Rel K cv m st H → RepV K m H px x → OPost K cv m H Q (g px st) → r x H Q
def OpN (r : List V → Hp → VK → Prop) (g : List PV → Sto → OR) : Prop := ∀ m st H px x Q, Rel K cv m st H → RepL K m H px x → OPost K cv m H Q (g px st) → r x H Q
def OpM (r : V → List V → Hp → VK → Prop) (g : PV → List PV → Sto → OR) : Prop := ∀ m st H px x py y Q, Rel K cv m st H → RepV K m H px x → RepL K m H py y → OPost K cv m H Q (g px py st) → r x y H Q
def OpS (r : V → Option Int → Option Int → Hp → VK → Prop) (g : PV → Option Int → Option Int → Sto → OR) : Prop := ∀ m st H px x lo hi Q, Rel K cv m st H → RepV K m H px x → OPost K cv m H Q (g px lo hi st) → r x lo hi H Q
end
section
variable {K : PySem.W.Frag} {cv : String → Addr}
theorem OPost.of {m : List Addr} {H : Hp} {Q : VK} {W : Value → Hp → Prop} {r : OR} (h : EPost K cv m H W Q (.of r)) : OPost K cv m H Q r := by
  cases r with
  | none => exact h
  | some q => exact h
theorem apost_bind {m : List Addr} {H : Hp} {W : Value → Hp → Prop} {Q : VK} {Q1 : List V → Hp → Prop} {r : ER (List PV)} {k : List PV → Sto → ER PV} (h : EPost K cv m H W Q (r.bind k))
    (n : ∀ p s' m' H' v, Ext m H m' H' → Rel K cv m' s' H' → RepL K m' H' p v → EPost K cv m' H' W Q (k p s') → Q1 v H') : APost K cv m H W Q1 r := by
  cases r with
  | ok p s => exact fun m' H' v e R q => n p s m' H' v e R q (EPost.ext e (show EPost K cv m H W Q (k p s) from h))
  | ex c s => exact h
  | bad => exact h
theorem apost_bindA {m : List Addr} {H : Hp} {W : Value → Hp → Prop} {Q : List V → Hp → Prop} {Q1 : VK} {r : ER PV} {k : PV → Sto → ER (List PV)} (h : APost K cv m H W Q (r.bind k))
    (n : ∀ p s' m' H' v, Ext m H m' H' → Rel K cv m' s' H' → RepV K m' H' p v → APost K cv m' H' W Q (k p s') → Q1 v H') : EPost K cv m H W Q1 r := by
  cases r with
  | ok p s => exact fun m' H' v e R q => n p s m' H' v e R q (APost.ext e (show APost K cv m H W Q (k p s) from h))
  | ex c s => exact h
  | bad => exact h
theorem apost_bindAA {m : List Addr} {H : Hp} {W : Value → Hp → Prop} {Q : List V → Hp → Prop} {Q1 : List V → Hp → Prop} {r : ER (List PV)} {k : List PV → Sto → ER (List PV)} (h : APost K cv m H W Q (r.bind k))
    (n : ∀ p s' m' H' v, Ext m H m' H' → Rel K cv m' s' H' → RepL K m' H' p v → APost K cv m' H' W Q (k p s') → Q1 v H') : APost K cv m H W Q1 r := by
  cases r with
  | ok p s => exact fun m' H' v e R q => n p s m' H' v e R q (APost.ext e (show APost K cv m H W Q (k p s) from h))
  | ex c s => exact h
  | bad => exact h
theorem tpost_bindE {m : List Addr} {H : Hp} {W : Value → Hp → Prop} {Q : Bool → Hp → Prop} {Q1 : VK} {r : ER PV} {k : PV → Sto → ER Bool} (h : TPost K cv m H W Q (r.bind k))
    (n : ∀ p s' m' H' v, Ext m H m' H' → Rel K cv m' s' H' → RepV K m' H' p v → TPost K cv m' H' W Q (k p s') → Q1 v H') : EPost K cv m H W Q1 r := by
  cases r with
  | ok p s => exact fun m' H' v e R q => n p s m' H' v e R q (TPost.ext e (show TPost K cv m H W Q (k p s) from h))
  | ex c s => exact h
  | bad => exact h
theorem tpost_bind {m : List Addr} {H : Hp} {W : Value → Hp → Prop} {Q Q1 : Bool → Hp → Prop} {r : ER Bool} {k : Bool → Sto → ER Bool} (h : TPost K cv m H W Q (r.bind k))
    (n : ∀ p s' m' H', Ext m H m' H' → Rel K cv m' s' H' → TPost K cv m' H' W Q (k p s') → Q1 p H') : TPost K cv m H W Q1 r := by
  cases r with
  | ok p s => exact fun m' H' e R => n p s m' H' e R (TPost.ext e (show TPost K cv m H W Q (k p s) from h))
  | ex c s => exact h
  | bad => exact h
end

section
variable {X : Cx} {cv : String → Addr} {W : WX} {a b c : Expr} {fa fb fc : EF} {pos : Pos}
theorem pe2_var {i : Nat} {x : Str} (hN : X.N[i]? = some x := by rfl) (hv : Vis X.env.scope x := by first | exact Or.inl rfl | exact Or.inr (Or.inl rfl) | exact Or.inr (Or.inr rfl)) (hd : (x == ("__debug__" : Str)) = false := by decide)
    (hcd : (x == ("__classdict__" : Str)) = false := by decide) : PE2 X cv W (.Name x pos) (E.var i) := ⟨(pe_var hN hv hd hcd).monoY fun σ H Q ⟨m, s, ρ, R, S, h⟩ => by
  have h' : EPost X.K cv m H (fun c H' => W c none σ H') Q (match ρ[i]? with | some (some p) => .ok p s | _ => .bad) := h
  cases e : ρ[i]? with
  | none => rw [e] at h'; exact h'.elim
  | some o =>
    cases o with
    | none => rw [e] at h'; exact h'.elim
    | some p =>
      rw [e] at h'
      obtain ⟨v, h1, h2⟩ := S.2 i p e
      exact ⟨v, h1, h' m H v (.refl m H) R h2⟩⟩
theorem pe2_of {e : Expr} {v : V} {p : PV} (h : PE X e (tC v)) (r : ∀ m H, RepV X.K m H p v) : PE2 X cv W e (E.c p) := ⟨h.monoY fun σ H Q ⟨m, s, ρ, R, S, h⟩ => (show EPost X.K cv m H _ Q (.ok p s) from h) m H v (.refl m H) R (r m H)⟩
theorem pe2_int {i : Int} {j pos} : PE2 X cv W (.Constant (.int i) j pos) (E.c (.int i)) := pe2_of pe_int fun _ _ => .int i
theorem pe2_bl {b : Bool} {j pos} : PE2 X cv W (.Constant (.bool b) j pos) (E.c (.bl b)) := pe2_of pe_bl fun _ _ => .bl b
theorem pe2_non {j pos} : PE2 X cv W (.Constant .none j pos) (E.c .non) := pe2_of pe_non fun _ _ => .non
theorem pe2_str {x : String} {j pos} : PE2 X cv W (.Constant (.str (Str.ofString x)) j pos) (E.c (.str (S x))) := pe2_of pe_str fun _ _ => by rw [ofS]; exact .str _
/-- a class, a def, as a value -/
theorem pe2_con {x : Str} {u : Addr} (hg : Gl X x) (hm : X.mg x = some (.ref u)) (hd : (x == ("__debug__" : Str)) = false := by decide) : PE2 X cv W (.Name x pos) (E.c (.con u)) := pe2_of (pe_glob hg hm (v := .ref u) rfl hd) fun _ _ => .con u
theorem pe2_gint {x : Str} {i : Int} {t : Tok} (hg : Gl X x) (hm : X.mg x = some (.int i t)) (hd : (x == ("__debug__" : Str)) = false := by decide) : PE2 X cv W (.Name x pos) (E.c (.int i)) := pe2_of (pe_glob hg hm (v := .int i) ⟨_, rfl⟩ hd) fun _ _ => .int i
theorem pe2_gstr {x : Str} {z : String} {t : Tok} (hg : Gl X x) (hm : X.mg x = some (.str (Str.ofString z) t)) (hd : (x == ("__debug__" : Str)) = false := by decide) : PE2 X cv W (.Name x pos) (E.c (.str (S z))) := pe2_of (pe_glob hg hm (v := .str (Str.ofString z)) ⟨_, rfl⟩ hd) fun _ _ => by rw [ofS]; exact .str _
/-- a built-in type as a value -/
theorem pe2_ty {x : Str} {n : String} (hg : Gl X x) (hm : X.mg x = none) (hv : bootBuiltins x = some (.type n)) (hn : x ≠ "__name__" := by decide) (hd : (x == ("__debug__" : Str)) = false := by decide) : PE2 X cv W (.Name x pos) (E.c (.ty n)) :=
  pe2_of (pe_bltn hg hm hv (v := .ty n) rfl hn hd) fun _ _ => .ty n

theorem bin_mono {r : R2} {g : PV → PV → Sto → OR} (hg : Op2 X.K cv r g) {σ : L2.St} {H : Hp} {Q : VK} (h : T2 X.K cv W (E.bin g fa fb) σ H Q) : tOp r (T2 X.K cv W fa) (T2 X.K cv W fb) σ H Q := by
  obtain ⟨m, s, ρ, R, S, h⟩ := h
  refine ⟨m, s, ρ, R, S, epost_bind h fun px s1 m1 H1 x e1 R1 r1 h1 => ⟨m1, s1, ρ, R1, S.mono e1, epost_bind h1 fun py s2 m2 H2 y e2 R2 r2 h2 => ?_⟩⟩
  exact hg m2 s2 H2 px py x y Q R2 (r1.mono e2) r2 (OPost.of h2)
theorem pe2_op {op : Operator} {r : R2} {g : PV → PV → Sto → OR} (ho : OpR X (binaryOp op) r) (hg : Op2 X.K cv r g) (ha : PE2 X cv W a fa) (hb : PE2 X cv W b fb) : PE2 X cv W (.BinOp a op b pos) (E.bin g fa fb) := ⟨(pe_op ho ha.pe hb.pe).monoY fun _ _ _ h => bin_mono hg h⟩
theorem pe2_cmp {op : CmpOp} {r : R2} {g : PV → PV → Sto → OR} (ho : OpR X (compareOp op) r) (hg : Op2 X.K cv r g) (ha : PE2 X cv W a fa) (hb : PE2 X cv W b fb) (hm : behindInMarks op b = false) : PE2 X cv W (.Compare a [op] [b] pos) (E.bin g fa fb) := ⟨(pe_cmpR ho ha.pe hb.pe hm).monoY fun _ _ _ h => bin_mono hg h⟩
theorem pe2_un {op : UnaryOp} {r : V → Hp → VK → Prop} {g : PV → Sto → OR} (ho : UnR X (unaryOp op) r) (hg : Op1 X.K cv r g) (ha : PE2 X cv W a fa) : PE2 X cv W (.UnaryOp op a pos) (E.un g fa) := ⟨(pe_un ho ha.pe).monoY fun σ H Q ⟨m, s, ρ, R, S, h⟩ =>
  ⟨m, s, ρ, R, S, epost_bind h fun px s1 m1 H1 x e1 R1 r1 h1 => hg m1 s1 H1 px x Q R1 r1 (OPost.of h1)⟩⟩
theorem val_mono {t : TE} {σ : L2.St} {H : Hp} {f : EF} {Q : Bool → Hp → Prop} (k : ∀ Q, T2 X.K cv W f σ H Q → t σ H Q) (h : T2T X.K cv W (T.val f) σ H Q) : tTest t σ H Q := by
  obtain ⟨m, s, ρ, R, S, h⟩ := h
  refine k _ ⟨m, s, ρ, R, S, tpost_bindE h fun p s1 m1 H1 v e1 R1 r1 h1 => ?_⟩
  cases r1 with
  | bl b => exact ⟨b, rfl, (show TPost X.K cv m1 H1 _ Q (.ok b s1) from h1) m1 H1 (.refl _ _) R1⟩
  | _ => exact h1.elim
/-- a comparison as a test -/
theorem pt2_cmp {op : CmpOp} {r : R2} {g : PV → PV → Sto → OR} (ho : OpR X (compareOp op) r) (hg : Op2 X.K cv r g) (ha : PE2 X cv W a fa) (hb : PE2 X cv W b fb) (hm : behindInMarks op b = false) : PT2 X cv W (.Compare a [op] [b] pos) (T.val (E.bin g fa fb)) :=
  ⟨(pt_cmpR ho ha.pe hb.pe hm).monoY fun σ H Q h => val_mono (f := E.bin g fa fb) (fun Q h => bin_mono hg h) h⟩
theorem chain_mono {r r' : R2} {g g' : PV → PV → Sto → OR} (hg : Op2 X.K cv r g) (hg' : Op2 X.K cv r' g') {σ : L2.St} {H : Hp} {Q : VK} (h : T2 X.K cv W (E.chain g g' fa fb fc) σ H Q) : tChain r r' (T2 X.K cv W fa) (T2 X.K cv W fb) (T2 X.K cv W fc) σ H Q := by
  obtain ⟨m, s, ρ, R, S, h⟩ := h
  refine ⟨m, s, ρ, R, S, epost_bind h fun px s1 m1 H1 x e1 R1 r1 h1 => ⟨m1, s1, ρ, R1, S.mono e1, epost_bind h1 fun py s2 m2 H2 y e2 R2 r2 h2 => ?_⟩⟩
  refine hg m2 s2 H2 px py x y _ R2 (r1.mono e2) r2 (OPost.of (W := fun c H' => W c none σ H') (epost_bind h2 fun pz s3 m3 H3 z e3 R3 r3 h3 => ?_))
  cases r3 with
  | bl k =>
    refine ⟨k, rfl, ?_⟩
    cases k with
    | true =>
      rw [if_pos rfl]
      exact ⟨m3, s3, ρ, R3, (S.mono e1).mono (e2.trans e3), epost_bind h3 fun pw s4 m4 H4 w e4 R4 r4 h4 => hg' m4 s4 H4 py pw y w Q R4 (r2.mono (e3.trans e4)) r4 (OPost.of h4)⟩
    | false =>
      rw [if_neg Bool.false_ne_true]
      exact (show EPost X.K cv m3 H3 _ Q (.ok (.bl false) s3) from h3) m3 H3 _ (.refl _ _) R3 (.bl false)
  | _ => exact h3.elim
theorem pe2_chain {op op' : CmpOp} {r r' : R2} {g g' : PV → PV → Sto → OR} (ho : OpR X (compareOp op) r) (hg : Op2 X.K cv r g) (ho' : OpR X (compareOp op') r') (hg' : Op2 X.K cv r' g') (ha : PE2 X cv W a fa) (hb : PE2 X cv W b fb) (hc : PE2 X cv W c fc)
    (hm : lastMarks [op, op'] [b, c] = false := by with_unfolding_all rfl) : PE2 X cv W (.Compare a [op, op'] [b, c] pos) (E.chain g g' fa fb fc) := ⟨(pe_chain ho ho' ha.pe hb.pe hc.pe hm).monoY fun _ _ _ h => chain_mono hg hg' h⟩
theorem pt2_chain {op op' : CmpOp} {r r' : R2} {g g' : PV → PV → Sto → OR} (ho : OpR X (compareOp op) r) (hg : Op2 X.K cv r g) (ho' : OpR X (compareOp op') r') (hg' : Op2 X.K cv r' g') (ha : PE2 X cv W a fa) (hb : PE2 X cv W b fb) (hc : PE2 X cv W c fc)
    (hm : lastMarks [op, op'] [b, c] = false := by with_unfolding_all rfl) : PT2 X cv W (.Compare a [op, op'] [b, c] pos) (T.val (E.chain g g' fa fb fc)) :=
  ⟨(pt_chain ho ho' ha.pe hb.pe hc.pe hm).monoY fun σ H Q h => val_mono (f := E.chain g g' fa fb fc) (fun Q h => chain_mono hg hg' h) h⟩

/-! tests -/
theorem pt2_tru (ha : PE2 X cv W a fa) (he : ∀ whole, isTrue a X.env whole = (do let v ← whole; standAt a.pos; holding [v] (truthy v)) := by intro _; rfl) : PT2 X cv W a (T.tru fa) :=
  ⟨(pt_truth ha.pe he).monoY fun σ H Q ⟨m, s, ρ, R, S, h⟩ => ⟨m, s, ρ, R, S, tpost_bindE h fun p s1 m1 H1 v e1 R1 r1 h1 => by
    have fin : ∀ b : Bool, TPost X.K cv m1 H1 (fun c H' => W c none σ H') Q (ER.ok b s1) → Q b H1 := fun b z => z m1 H1 (.refl _ _) R1
    cases r1 with
    | non => exact ⟨false, rfl, fin _ h1⟩
    | bl b => exact ⟨b, rfl, fin _ h1⟩
    | int i => exact ⟨_, rfl, fin _ h1⟩
    | str x =>
      by_cases q : x.length ≤ sizeLine
      · have e : T.truth (.str x) s1 = some ((x.length : Int) != 0) := if_pos q
        rw [e] at h1
        exact ⟨_, ⟨by simpa [Str.length] using q, by simp [Str.length]⟩, fin _ h1⟩
      · have e : T.truth (.str x) s1 = none := if_neg q
        rw [e] at h1
        exact h1.elim
    | @tup ps a' xs ht r =>
      refine ⟨_, .inr (.inl ⟨xs, ht.sq, rfl⟩), fin _ ?_⟩
      have e : xs.isEmpty = ps.isEmpty := by
        have := r.length
        cases ps <;> cases xs <;> simp_all
      rw [e]
      exact h1
    | @ref n a' hn =>
      obtain ⟨o, u, ho, hr, hu, _⟩ := R1.get hn
      have h2 : TPost X.K cv m1 H1 (fun c H' => W c none σ H') Q (match (match s1[n]? with
        | some (.lst ps) => some (!ps.isEmpty)
        | some (.frz ps) => some (!ps.isEmpty)
        | some (.dct kvs) => some (!kvs.isEmpty)
        | _ => none) with | some b => ER.ok b s1 | none => .bad) := h1
      rw [ho] at h2
      cases o with
      | lst ps =>
        obtain ⟨vs, q1, q2⟩ := hr
        refine ⟨_, .inl ⟨vs, SqL.of q1, rfl⟩, fin _ ?_⟩
        have e : vs.isEmpty = ps.isEmpty := by
          have := q2.length
          cases ps <;> cases vs <;> simp_all
        rw [e]; exact h2
      | frz ps =>
        obtain ⟨vs, ob, q1, q2⟩ := hr
        refine ⟨_, .inl ⟨vs, .inl (.inr ⟨ob, q1⟩), rfl⟩, fin _ ?_⟩
        have e : vs.isEmpty = ps.isEmpty := by
          have := q2.length
          cases ps <;> cases vs <;> simp_all
        rw [e]; exact h2
      | dct kvs =>
        obtain ⟨ks, q1, q2, q3⟩ := hr
        refine ⟨_, .inr (.inr ⟨ks, q1, rfl⟩), fin _ ?_⟩
        have e : ks.isEmpty = kvs.isEmpty := by
          have := q3.length
          cases ks <;> cases kvs <;> simp_all
        rw [e]; exact h2
      | ins C fs => exact h2.elim
      | set xs => exact h2.elim
    | con a' => exact h1.elim
    | ty n => exact h1.elim⟩⟩
variable {ta tb : TF} {rest : List Expr}
theorem pw2_and1 (ha : PT2 X cv W a ta) : PW2 X cv W (.BoolOp .And [a] pos) ta := ⟨pw_and1 ha.pt⟩
theorem pw2_or1 (ha : PT2 X cv W a ta) : PW2 X cv W (.BoolOp .Or [a] pos) ta := ⟨pw_or1 ha.pt⟩
theorem PW2.pt (h : PW2 X cv W a ta) : PT2 X cv W a ta := ⟨h.pw.pt⟩
theorem pw2_and (ha : PT2 X cv W a ta) (hb : PW2 X cv W (.BoolOp .And (b :: rest) pos) tb) : PW2 X cv W (.BoolOp .And (a :: b :: rest) pos) (T.and ta tb) := ⟨(pw_and ha.pt hb.pw).monoY fun σ H Q ⟨m, s, ρ, R, S, h⟩ =>
  ⟨m, s, ρ, R, S, tpost_bind h fun k s1 m1 H1 e1 R1 h1 => by
    cases k with
    | true => rw [if_pos rfl] at h1 ⊢; exact ⟨m1, s1, ρ, R1, S.mono e1, h1⟩
    | false => rw [if_neg Bool.false_ne_true] at h1 ⊢; exact (show TPost X.K cv m1 H1 _ Q (.ok false s1) from h1) m1 H1 (.refl _ _) R1⟩⟩
theorem pw2_or (ha : PT2 X cv W a ta) (hb : PW2 X cv W (.BoolOp .Or (b :: rest) pos) tb) : PW2 X cv W (.BoolOp .Or (a :: b :: rest) pos) (T.or ta tb) := ⟨(pw_or ha.pt hb.pw).monoY fun σ H Q ⟨m, s, ρ, R, S, h⟩ =>
  ⟨m, s, ρ, R, S, tpost_bind h fun k s1 m1 H1 e1 R1 h1 => by
    cases k with
    | true => rw [if_pos rfl] at h1 ⊢; exact (show TPost X.K cv m1 H1 _ Q (.ok true s1) from h1) m1 H1 (.refl _ _) R1
    | false => rw [if_neg Bool.false_ne_true] at h1 ⊢; exact ⟨m1, s1, ρ, R1, S.mono e1, h1⟩⟩⟩
theorem pt2_not (ha : PT2 X cv W a ta) : PT2 X cv W (.UnaryOp .Not a pos) (T.not ta) := ⟨(pt_not ha.pt).monoY fun σ H Q ⟨m, s, ρ, R, S, h⟩ =>
  ⟨m, s, ρ, R, S, tpost_bind h fun k s1 m1 H1 e1 R1 h1 => (show TPost X.K cv m1 H1 _ Q (.ok (!k) s1) from h1) m1 H1 (.refl _ _) R1⟩⟩
theorem pe2_one {op} (ha : PE2 X cv W a fa) : PE2 X cv W (.BoolOp op [a] pos) fa := ⟨pe_one ha.pe⟩
theorem pe2_and (ha : PE2 X cv W a fa) (hb : PE2 X cv W (.BoolOp .And (b :: rest) pos) fb) : PE2 X cv W (.BoolOp .And (a :: b :: rest) pos) (E.and fa fb) := ⟨(pe_and ha.pe hb.pe).monoY fun σ H Q ⟨m, s, ρ, R, S, h⟩ =>
  ⟨m, s, ρ, R, S, epost_bind h fun p s1 m1 H1 v e1 R1 r1 h1 => by
    cases r1 with
    | bl k =>
      refine ⟨k, rfl, ?_⟩
      cases k with
      | true => rw [if_pos rfl]; exact ⟨m1, s1, ρ, R1, S.mono e1, h1⟩
      | false => rw [if_neg Bool.false_ne_true]; exact (show EPost X.K cv m1 H1 _ Q (.ok (.bl false) s1) from h1) m1 H1 _ (.refl _ _) R1 (.bl false)
    | _ => exact h1.elim⟩⟩
theorem pe2_or (ha : PE2 X cv W a fa) (hb : PE2 X cv W (.BoolOp .Or (b :: rest) pos) fb) : PE2 X cv W (.BoolOp .Or (a :: b :: rest) pos) (E.or fa fb) := ⟨(pe_or ha.pe hb.pe).monoY fun σ H Q ⟨m, s, ρ, R, S, h⟩ =>
  ⟨m, s, ρ, R, S, epost_bind h fun p s1 m1 H1 v e1 R1 r1 h1 => by
    cases r1 with
    | bl k =>
      refine ⟨k, rfl, ?_⟩
      cases k with
      | true => rw [if_pos rfl]; exact (show EPost X.K cv m1 H1 _ Q (.ok (.bl true) s1) from h1) m1 H1 _ (.refl _ _) R1 (.bl true)
      | false => rw [if_neg Bool.false_ne_true]; exact ⟨m1, s1, ρ, R1, S.mono e1, h1⟩
    | _ => exact h1.elim⟩⟩
theorem pe2_not (ha : PE2 X cv W a fa) : PE2 X cv W (.UnaryOp .Not a pos) (E.not fa) := ⟨(pe_not ha.pe).monoY fun σ H Q ⟨m, s, ρ, R, S, h⟩ =>
  ⟨m, s, ρ, R, S, epost_bind h fun p s1 m1 H1 v e1 R1 r1 h1 => by
    cases r1 with
    | bl k => exact ⟨k, rfl, (show EPost X.K cv m1 H1 _ Q (.ok (.bl (!k)) s1) from h1) m1 H1 _ (.refl _ _) R1 (.bl _)⟩
    | _ => exact h1.elim⟩⟩

/-! arguments, displays -/
variable {es : List Expr} {fr : AF}
theorem pa2_nil : PA2 X cv W [] E.nil := ⟨pa_nil.monoY fun σ H Q ⟨m, s, ρ, R, S, h⟩ => (show APost X.K cv m H _ Q (.ok [] s) from h) m H [] (.refl _ _) R .nil⟩
theorem pa2_cons (ha : PE2 X cv W a fa) (hr : PA2 X cv W es fr) (he : starEach (a :: es) X.env = (false, eval a X.env) :: starEach es X.env := by rfl) : PA2 X cv W (a :: es) (E.cons fa fr) := ⟨(pa_cons ha.pe hr.pa he).monoY fun σ H Q ⟨m, s, ρ, R, S, h⟩ =>
  ⟨m, s, ρ, R, S, apost_bindA h fun p s1 m1 H1 v e1 R1 r1 h1 => ⟨m1, s1, ρ, R1, S.mono e1, apost_bindAA h1 fun ps s2 m2 H2 vs e2 R2 r2 h2 =>
    (show APost X.K cv m2 H2 _ Q (.ok (p :: ps) s2) from h2) m2 H2 _ (.refl _ _) R2 (.cons (r1.mono e2) r2)⟩⟩⟩
theorem pe2_tup {x1} (h : PA2 X cv W es fr) : PE2 X cv W (.Tuple es x1 pos) (E.tup fr) := ⟨(pe_tup h.pa).monoY fun σ H Q ⟨m, s, ρ, R, S, h⟩ =>
  ⟨m, s, ρ, R, S, apost_bind h fun ps s1 m1 H1 vs e1 R1 r1 h1 => by
    by_cases q : ps.length ≤ sizeLine
    · rw [if_pos q] at h1
      refine ⟨by rw [← r1.length]; exact q, fun p hp => ?_⟩
      exact (show EPost X.K cv m1 H1 _ Q (.ok (.tup ps) s1) from h1) m1 _ _ (.laid hp) (R1.laid hp) (.tup (.inl upd_same) (r1.mono (.laid hp)))
    · rw [if_neg q] at h1
      exact h1.elim⟩⟩
theorem pe2_lst (h : PA2 X cv W es fr) : PE2 X cv W (.List es pos) (E.lst fr) := ⟨(pe_lst h.pa).monoY fun σ H Q ⟨m, s, ρ, R, S, h⟩ =>
  ⟨m, s, ρ, R, S, apost_bind h fun ps s1 m1 H1 vs e1 R1 r1 h1 => by
    by_cases q : ps.length ≤ sizeLine
    · rw [if_pos q] at h1
      refine ⟨by rw [← r1.length]; exact q, fun p hp => ?_⟩
      refine (show EPost X.K cv m1 H1 _ Q (.ok (.ref s1.length) (s1 ++ [.lst ps])) from h1) (m1 ++ [p]) _ _ (.push hp) (R1.push hp ⟨vs, upd_same, r1.mono (.push hp)⟩) (.ref ?_)
      rw [← R1.len]
      simp
    · rw [if_neg q] at h1
      exact h1.elim⟩⟩
theorem pe2_blt {id : String} {x : Str} {p : Pos} {r : List V → Hp → VK → Prop} {g : List PV → Sto → OR} (hc : CallR X (.builtin id) r) (hg2 : OpN X.K cv r g) (hg : Gl X x) (hm : X.mg x = none) (hv : bootBuiltins x = some (.builtin id)) (ha : PA2 X cv W (a :: es) fr)
    (hn : x ≠ "__name__" := by decide) (hd : (x == ("__debug__" : Str)) = false := by decide) (he : starEach (a :: es) X.env = (false, eval a X.env) :: starEach es X.env := by rfl) (hpl : (backTo pos (starEach es X.env)).any (·.1) = false := by rfl) :
    PE2 X cv W (.Call (.Name x p) (a :: es) [] pos) (E.blt g fr) := ⟨(pe_callB hc hg hm hv ha.pa (hn := hn) (hdb := hd) (he := he) (hpl := hpl)).monoY fun σ H Q ⟨m, s, ρ, R, S, h⟩ =>
  ⟨m, s, ρ, R, S, apost_bind h fun ps s1 m1 H1 vs e1 R1 r1 h1 => hg2 m1 s1 H1 ps vs Q R1 r1 (OPost.of h1)⟩⟩
theorem pe2_bty {T : String} {x : Str} {p : Pos} {r : List V → Hp → VK → Prop} {g : List PV → Sto → OR} (hc : CallR X (.type T) r) (hg2 : OpN X.K cv r g) (hg : Gl X x) (hm : X.mg x = none) (hv : bootBuiltins x = some (.type T)) (ha : PA2 X cv W (a :: es) fr)
    (hn : x ≠ "__name__" := by decide) (hd : (x == ("__debug__" : Str)) = false := by decide) (he : starEach (a :: es) X.env = (false, eval a X.env) :: starEach es X.env := by rfl) (hpl : (backTo pos (starEach es X.env)).any (·.1) = false := by rfl) :
    PE2 X cv W (.Call (.Name x p) (a :: es) [] pos) (E.blt g fr) := ⟨(pe_callTy hc hg hm hv ha.pa (hn := hn) (hdb := hd) (he := he) (hpl := hpl)).monoY fun σ H Q ⟨m, s, ρ, R, S, h⟩ =>
  ⟨m, s, ρ, R, S, apost_bind h fun ps s1 m1 H1 vs e1 R1 r1 h1 => hg2 m1 s1 H1 ps vs Q R1 r1 (OPost.of h1)⟩⟩
end
end Y

set_option Elab.async false
set_option linter.all false
set_option maxRecDepth 100000
set_option maxHeartbeats 4000000
namespace Y
open PySem PySem.Spec PyProof.Rows L2

/-! ### operations by values -/
theorem OpR.orY {X : Cx} {f : Value → Value → Sem Value} {r r' : R2} (h : OpR X f r) (h' : OpR X f r') : OpR X f (fun x y H Q => r x y H Q ∨ r' x y H Q) := by
  intro pins s σ H x y v u Q I rx ry q
  rcases q with q | q
  · exact h pins s σ H x y v u Q I rx ry q
  · exact h' pins s σ H x y v u Q I rx ry q
namespace O
def add : PV → PV → Sto → OR
  | .int a, .int b, s => some (.int (a + b), s)
  | .str a, .str b, s => if a.length + b.length ≤ sizeLine then some (.str (a ++ b), s) else none
  | .tup a, .tup b, s => if a.length + b.length ≤ sizeLine then some (.tup (a ++ b), s) else none
  | .ref i, .ref j, s => match s[i]?, s[j]? with
    | some (.lst a), some (.lst b) => if a.length + b.length ≤ sizeLine then some (.ref s.length, s ++ [.lst (a ++ b)]) else none
    | _, _ => none
  | _, _, _ => none
def sub : PV → PV → Sto → OR
  | .int a, .int b, s => some (.int (a - b), s)
  | _, _, _ => none
def mul : PV → PV → Sto → OR
  | .int a, .int b, s => if (Builtin.Int.intBits a : Int) + (Builtin.Int.intBits b : Int) ≤ 134217728 then some (.int (a * b), s) else none
  | .str a, .int k, s => if 0 ≤ k ∧ k ≤ 100000 ∧ a.length ≤ 100 then some (.str ((List.replicate k.toNat a).flatten), s) else none
  | .ref i, .int k, s => match s[i]? with
    | some (.lst a) => if 0 ≤ k ∧ k ≤ 100000 ∧ a.length ≤ 100 then some (.ref s.length, s ++ [.lst ((List.replicate k.toNat a).flatten)]) else none
    | _ => none
  | _, _, _ => none
def fdiv : PV → PV → Sto → OR
  | .int a, .int b, s => if 0 < b ∧ b.natAbs.log2 < 9000 then some (.int (a / b), s) else none
  | _, _, _ => none
def mod : PV → PV → Sto → OR
  | .int a, .int b, s => if 0 < b then some (.int (a % b), s) else none
  | _, _, _ => none
def pow : PV → PV → Sto → OR
  | .int a, .int b, s => if 0 ≤ b ∧ b ≤ 1000000 ∧ a.natAbs < 2 ^ 64 then some (.int (a ^ b.toNat), s) else none
  | _, _, _ => none
def neg : PV → Sto → OR
  | .int a, s => some (.int (-a), s)
  | _, _ => none
def lt : PV → PV → Sto → OR
  | .int a, .int b, s => some (.bl (decide (a < b)), s)
  | .str a, .str b, s => some (.bl (decide (a < b)), s)
  | _, _, _ => none
def le : PV → PV → Sto → OR
  | .int a, .int b, s => some (.bl (decide (a ≤ b)), s)
  | .str a, .str b, s => some (.bl (!decide (b < a)), s)
  | _, _, _ => none
def gt : PV → PV → Sto → OR
  | .int a, .int b, s => some (.bl (decide (b < a)), s)
  | .str a, .str b, s => some (.bl (decide (b < a)), s)
  | _, _, _ => none
def ge : PV → PV → Sto → OR
  | .int a, .int b, s => some (.bl (decide (b ≤ a)), s)
  | .str a, .str b, s => some (.bl (!decide (a < b)), s)
  | _, _, _ => none
/-- is None, is True, is False -/
def is : PV → PV → Sto → OR
  | .non, .non, s => some (.bl true, s)
  | _, .non, s => some (.bl false, s)
  | .bl a, .bl b, s => some (.bl (decide (a = b)), s)
  | _, _, _ => none
def isnt : PV → PV → Sto → OR
  | .non, .non, s => some (.bl false, s)
  | _, .non, s => some (.bl true, s)
  | .bl a, .bl b, s => some (.bl (!decide (a = b)), s)
  | _, _, _ => none
def mapO {α β : Type} (f : α → Option β) : List α → Option (List β)
  | [] => some []
  | p :: ps => match f p, mapO f ps with
    | some d, some ds => some (d :: ds)
    | _, _ => none
/-- what == reads: none, bools, ints, texts, tuples, lists -/
def dat (s : Sto) : Nat → PV → Option PyData
  | 0, p => match p with
    | .non => some .none
    | .bl b => some (.bool b)
    | .int i => some (.int i)
    | .str x => if x.all (· < 1114112) = true then some (.str ⟨x.toArray⟩) else none
    | _ => none
  | n + 1, p => match p with
    | .non => some .none
    | .bl b => some (.bool b)
    | .int i => some (.int i)
    | .str x => if x.all (· < 1114112) = true then some (.str ⟨x.toArray⟩) else none
    | .tup ps => (mapO (dat s n) ps).map .tuple
    | .ref i => (match s[i]? with
      | some (.lst ps) => (mapO (dat s n) ps).map .list
      | some (.frz ps) => (mapO (dat s n) ps).map .list
      | _ => none)
    | _ => none
def eq (a b : PV) (s : Sto) : OR := match dat s 60 a, dat s 60 b with
  | some d, some e => some (.bl (PyData.eqv d e), s)
  | _, _ => none
def ne (a b : PV) (s : Sto) : OR := match dat s 60 a, dat s 60 b with
  | some d, some e => some (.bl (!PyData.eqv d e), s)
  | _, _ => none
/-- x in list, tuple (data), text in text -/
def «in» (a b : PV) (s : Sto) : OR := match b with
  | .str y => (match a with
    | .str x => some (.bl (!(Builtin.Str.occurrences ⟨y.toArray⟩ ⟨x.toArray⟩ 0 y.length 1).isEmpty), s)
    | _ => none)
  | .tup ys => (match a with
    | .str x => if ys.all (fun p => match p with | .str _ => true | .int _ => true | .non => true | _ => false) then some (.bl (ys.any fun p => match p with | .str y => y == x | _ => false), s) else none
    | .int i => if ys.all (fun p => match p with | .str _ => true | .int _ => true | .non => true | _ => false) then some (.bl (ys.any fun p => match p with | .int j => j == i | _ => false), s) else none
    | _ => none)
  | .ref n => (match s[n]? with
    | some (.lst ys) => (match dat s 60 a, mapO (dat s 60) ys with
      | some d, some ds => some (.bl (ds.any fun z => PyData.eqv z d), s)
      | _, _ => none)
    | some (.dct kvs) => (match a with
      | .int i => some (.bl (kvs.any fun kv => kv.1 == .i i), s)
      | .str x => some (.bl (kvs.any fun kv => kv.1 == .s x), s)
      | _ => none)
    | some (.set xs) => (match a with
      | .int i => some (.bl (decide (i ∈ xs)), s)
      | _ => none)
    | _ => none)
  | _ => none
def notIn (a b : PV) (s : Sto) : OR := match «in» a b s with
  | some (.bl b, s) => some (.bl (!b), s)
  | _ => none
end O

section
variable {K : PySem.W.Frag} {cv : String → Addr} {m : List Addr} {H : Hp} {st : Sto}
/-- an operation that leaves the store -/
theorem OPost.pure {Q : VK} {p : PV} {v : V} (R : Rel K cv m st H) (r : RepV K m H p v) (h : OPost K cv m H Q (some (p, st))) : Q v H := h m H v (.refl _ _) R r
theorem OPost.newL {Q : VK} {ps : List PV} {vs : List V} (R : Rel K cv m st H) (r : RepL K m H ps vs) (h : OPost K cv m H Q (some (.ref st.length, st ++ [.lst ps]))) : ∀ p, H p = none → Q (.ref p) (upd H p (.lst vs)) := fun p hp => by
  refine h (m ++ [p]) _ _ (.push hp) (R.push hp ⟨vs, upd_same, r.mono (.push hp)⟩) (.ref ?_)
  rw [← R.len]; simp
theorem OPost.newT {Q : VK} {ps : List PV} {vs : List V} (R : Rel K cv m st H) (r : RepL K m H ps vs) (h : OPost K cv m H Q (some (.tup ps, st))) : ∀ p, H p = none → Q (.ref p) (upd H p (.tup vs)) := fun p hp =>
  h m _ _ (.laid hp) (R.laid hp) (.tup (.inl upd_same) (r.mono (.laid hp)))
/-- a list of the store, written -/
theorem OPost.wrL {Q : VK} {n : Nat} {a : Addr} {ps : List PV} {vs : List V} {p : PV} {v : V} (R : Rel K cv m st H) (hn : m[n]? = some a) (r : RepL K m H ps vs) (rv : RepV K m H p v) (h : OPost K cv m H Q (some (p, st.set n (.lst ps)))) : Q v (upd H a (.lst vs)) := by
  obtain ⟨o, u, _, _, hu, hx⟩ := R.get hn
  exact h m _ _ (.write hu hx) (R.write hn ⟨vs, upd_same, r.mono (.write hu hx)⟩) (rv.mono (.write hu hx))
theorem Rel.lst (R : Rel K cv m st H) {n : Nat} {a : Addr} {ps : List PV} (hn : m[n]? = some a) (h : st[n]? = some (.lst ps)) : ∃ vs, H a = some (.lst vs) ∧ RepL K m H ps vs := R.obj n a _ hn h
theorem Rel.frz (R : Rel K cv m st H) {n : Nat} {a : Addr} {ps : List PV} (hn : m[n]? = some a) (h : st[n]? = some (.frz ps)) : ∃ vs, SqL K H a vs ∧ RepL K m H ps vs := let ⟨vs, ob, h1, h2⟩ := R.obj n a _ hn h; ⟨vs, .inl (.inr ⟨ob, h1⟩), h2⟩
theorem Rel.dct (R : Rel K cv m st H) {n : Nat} {a : Addr} {kvs : List (DK × PV)} (hn : m[n]? = some a) (h : st[n]? = some (.dct kvs)) : ∃ ks : List (Key × V), H a = some (.dK ks) ∧ ks.map (·.1) = kvs.map (·.1.key) ∧ RepL K m H (kvs.map (·.2)) (ks.map (·.2)) := R.obj n a _ hn h

/-! ints and texts -/
theorem o_II {r : R2} {g : PV → PV → Sto → OR} (h : ∀ px py st, (∀ i j, px = .int i → py = .int j → False) → g px py st = none)
    (k : ∀ i j st m H Q, Rel K cv m st H → OPost K cv m H Q (g (.int i) (.int j) st) → r (.int i) (.int j) H Q) : Op2 K cv r g := fun m st H px py x y Q R rx ry q => by
  by_cases e : ∃ i j, px = .int i ∧ py = .int j
  · obtain ⟨i, j, rfl, rfl⟩ := e
    cases rx; cases ry
    exact k i j st m H Q R q
  · rw [h px py st fun i j h1 h2 => e ⟨i, j, h1, h2⟩] at q
    exact q.elim
end
section
variable {X : Cx} {cv : String → Addr} {W : WX}
abbrev rAddY (K : PySem.W.Frag) : R2 := fun x y H Q => rI0 (fun i j => V.int (i + j)) x y H Q ∨ ((∃ i j, x = .str i ∧ y = .str j ∧ i.length + j.length ≤ sizeLine ∧ Q (.str (i ++ j)) H) ∨ (rCatA K x y H Q ∨ rCat x y H Q))
theorem or_addY : OpR X (binaryOp .Add) (rAddY X.K) := OpR.orY op_add (OpR.orY op_add_str (OpR.orY op_catA op_cat))
theorem len_S (a : List Nat) : (⟨a.toArray⟩ : Str).length = a.length := by simp [Str.length]
theorem app_S (a b : List Nat) : (⟨a.toArray⟩ : Str) ++ (⟨b.toArray⟩ : Str) = ⟨(a ++ b).toArray⟩ := by
  show (⟨a.toArray ++ b.toArray⟩ : Str) = _
  simp
theorem o_add {K : PySem.W.Frag} : Op2 K cv (rAddY K) O.add := fun m st H px py x y Q R rx ry q => by
  cases rx with
  | int a => cases ry with
    | int b => exact .inl ⟨a, b, rfl, rfl, q.pure R (.int _)⟩
    | _ => exact q.elim
  | str a => cases ry with
    | str b =>
      by_cases z : a.length + b.length ≤ sizeLine
      · rw [show O.add (.str a) (.str b) st = some (.str (a ++ b), st) from if_pos z] at q
        exact .inr (.inl ⟨_, _, rfl, rfl, by rw [len_S, len_S]; exact z, by rw [app_S]; exact q.pure R (.str _)⟩)
      · rw [show O.add (.str a) (.str b) st = none from if_neg z] at q
        exact q.elim
    | _ => exact q.elim
  | @tup ps a xs ha ra => cases ry with
    | @tup qs b ys hb rb =>
      by_cases z : ps.length + qs.length ≤ sizeLine
      · rw [show O.add (.tup ps) (.tup qs) st = some (.tup (ps ++ qs), st) from if_pos z] at q
        refine .inr (.inr (.inl ⟨a, b, xs, ys, rfl, rfl, ha.sq, hb.sq, by rw [← ra.length, ← rb.length]; exact z, fun e => ?_, fun _ e => ?_, fun _ _ => q.newT R (ra.append rb)⟩))
        · subst e
          cases ra
          exact q.pure R (.tup hb rb)
        · subst e
          cases rb
          rw [List.append_nil] at q
          exact q.pure R (.tup ha ra)
      · rw [show O.add (.tup ps) (.tup qs) st = none from if_neg z] at q
        exact q.elim
    | _ => exact q.elim
  | @ref i a hi => cases ry with
    | @ref j b hj =>
      have q' : OPost K cv m H Q (match st[i]?, st[j]? with
        | some (.lst a), some (.lst b) => if a.length + b.length ≤ sizeLine then some (.ref st.length, st ++ [.lst (a ++ b)]) else none
        | _, _ => none) := q
      split at q'
      · rename_i ps qs e1 e2
        obtain ⟨vs, h1, r1⟩ := R.lst hi e1
        obtain ⟨us, h2, r2⟩ := R.lst hj e2
        by_cases z : ps.length + qs.length ≤ sizeLine
        · rw [if_pos z] at q'
          exact .inr (.inr (.inr ⟨a, b, vs, us, rfl, rfl, h1, h2, by rw [← r1.length, ← r2.length]; exact z, q'.newL R (r1.append r2)⟩))
        · rw [if_neg z] at q'
          exact q'.elim
      · exact q'.elim
    | _ => exact q.elim
  | _ => exact q.elim
theorem o_sub {K : PySem.W.Frag} : Op2 K cv (rI0 fun i j => V.int (i - j)) O.sub := fun m st H px py x y Q R rx ry q => by
  cases rx with
  | int a => cases ry with
    | int b => exact ⟨a, b, rfl, rfl, q.pure R (.int _)⟩
    | _ => exact q.elim
  | _ => exact q.elim
theorem o_neg {K : PySem.W.Frag} : Op1 K cv (rU fun i => V.int (-i)) O.neg := fun m st H px x Q R rx q => by
  cases rx with
  | int a => exact ⟨a, rfl, q.pure R (.int _)⟩
  | _ => exact q.elim
theorem o_fdiv {K : PySem.W.Frag} : Op2 K cv (rI CDivW fun i j => V.int (i / j)) O.fdiv := fun m st H px py x y Q R rx ry q => by
  cases rx with
  | int a => cases ry with
    | int b =>
      by_cases z : 0 < b ∧ b.natAbs.log2 < 9000
      · rw [show O.fdiv (.int a) (.int b) st = some (.int (a / b), st) from if_pos z] at q
        exact ⟨a, b, rfl, rfl, z, q.pure R (.int _)⟩
      · rw [show O.fdiv (.int a) (.int b) st = none from if_neg z] at q
        exact q.elim
    | _ => exact q.elim
  | _ => exact q.elim
theorem o_mod {K : PySem.W.Frag} : Op2 K cv (rI (fun _ j => 0 < j) fun i j => V.int (i % j)) O.mod := fun m st H px py x y Q R rx ry q => by
  cases rx with
  | int a => cases ry with
    | int b =>
      by_cases z : 0 < b
      · rw [show O.mod (.int a) (.int b) st = some (.int (a % b), st) from if_pos z] at q
        exact ⟨a, b, rfl, rfl, z, q.pure R (.int _)⟩
      · rw [show O.mod (.int a) (.int b) st = none from if_neg z] at q
        exact q.elim
    | _ => exact q.elim
  | _ => exact q.elim
theorem o_pow {K : PySem.W.Frag} : Op2 K cv (rI CPow fun i j => V.int (i ^ j.toNat)) O.pow := fun m st H px py x y Q R rx ry q => by
  cases rx with
  | int a => cases ry with
    | int b =>
      by_cases z : 0 ≤ b ∧ b ≤ 1000000 ∧ a.natAbs < 2 ^ 64
      · rw [show O.pow (.int a) (.int b) st = some (.int (a ^ b.toNat), st) from if_pos z] at q
        exact ⟨a, b, rfl, rfl, z, q.pure R (.int _)⟩
      · rw [show O.pow (.int a) (.int b) st = none from if_neg z] at q
        exact q.elim
    | _ => exact q.elim
  | _ => exact q.elim
/-- text times int -/
theorem mul_flat (a : Array Nat) : ∀ (n : Nat) (acc : Array Nat), (List.replicate n a).foldl (· ++ ·) acc = acc ++ ((List.replicate n a.toList).flatten).toArray
  | 0, acc => by simp
  | n + 1, acc => by
    rw [List.replicate_succ, List.foldl_cons, mul_flat a n, List.replicate_succ, List.flatten_cons, Array.append_assoc]
    congr 1
    apply Array.ext'
    simp
theorem mul_S (a : List Nat) {k : Int} (h0 : 0 ≤ k) : Txt.mul ⟨a.toArray⟩ k = ⟨((List.replicate k.toNat a).flatten).toArray⟩ := by
  unfold Txt.mul
  by_cases h1 : k < 1
  · have e : k.toNat = 0 := by omega
    rw [if_pos h1, e]
    rfl
  · rw [if_neg h1]
    split
    · rename_i h2
      rw [Bool.or_eq_true] at h2
      rcases h2 with h2 | h2
      · have e : k = 1 := by simpa using h2
        subst e
        simp
      · have e : a = [] := by simpa [Str.length] using h2
        subst e
        simp
    · rw [mul_flat]
      simp
theorem op_mulS : OpR X (binaryOp .Mult) (fun x y H Q => ∃ (a : Str) (k : Int), x = .str a ∧ y = .int k ∧ 0 ≤ k ∧ k ≤ 100000 ∧ a.length ≤ 100 ∧ Q (.str (Txt.mul a k)) H) := by
  intro pins s σ H x y v u Q I rx ry h
  obtain ⟨a, k, rfl, rfl, h0, h1, hl, q⟩ := h
  obtain ⟨t, rfl⟩ := rx
  obtain ⟨t', rfl⟩ := ry
  refine SB.mul ⟨?_, fun h2 h3 h4 => ?_, fun h2 h3 => ?_⟩ fun t' tk => ⟨.str (Txt.mul a k), H, I.tok _, ⟨_, rfl⟩, q⟩
  · simp only [Bool.or_eq_false_iff, decide_eq_false_iff_not]
    omega
  · have e : (92233720368547 : Int) ≤ (2 ^ 63 - 1 : Int) / k := by
      refine (Int.le_ediv_iff_mul_le (by omega)).mpr ?_
      have : (92233720368547 : Int) * k ≤ 92233720368547 * 100000 := Int.mul_le_mul_of_nonneg_left h1 (by decide)
      omega
    omega
  · have : a.length * k.toNat ≤ 100 * 100000 := Nat.mul_le_mul hl (by omega)
    unfold Builtin.Str.tooLong
    rw [decide_eq_false_iff_not, sizeLine_eq]
    omega
end

/-! == -/
section
variable {K : PySem.W.Frag} {cv : String → Addr} {m : List Addr} {H : Hp} {st : Sto}
theorem mapO_dp {f : PV → Option PyData} {N : Nat} (hf : ∀ p v d, RepV K m H p v → f p = some d → Dp K H v d ∧ d.canLay0 = true ∧ d.depth ≤ N) : ∀ {ps : List PV} {vs : List V} {ds : List PyData}, RepL K m H ps vs → O.mapO f ps = some ds → DpAll K H vs ds ∧ PyData.canLayAll0 ds = true ∧ PyData.depthAll ds ≤ N
  | [], _, ds, .nil, h => by
    have e : ds = [] := (Option.some.inj h).symm
    subst e
    exact ⟨.nil, rfl, by simp [PyData.depthAll]⟩
  | p :: ps, _, ds, .cons r t, h => by
    have h' := h
    rw [O.mapO] at h'
    split at h'
    · rename_i d ds' e1 e2
      cases h'
      obtain ⟨a1, a2, a3⟩ := hf p _ d r e1
      obtain ⟨b1, b2, b3⟩ := mapO_dp hf t e2
      exact ⟨.cons a1 b1, by simp [PyData.canLayAll0, a2, b2], by simp [PyData.depthAll]; omega⟩
    · cases h'
theorem strOk_of {x : List Nat} (h : x.all (· < 1114112) = true) : PyData.strOk ⟨x.toArray⟩ = true := by
  unfold PyData.strOk
  simpa using h
theorem dat_dp (R : Rel K cv m st H) : ∀ (n : Nat) (p : PV) (v : V) (d : PyData), RepV K m H p v → O.dat st n p = some d → Dp K H v d ∧ d.canLay0 = true ∧ d.depth ≤ n
  | 0, p, v, d, r, h => by
    cases r with
    | non => cases h; exact ⟨.non, rfl, by simp [PyData.depth]⟩
    | bl b => cases h; exact ⟨.bl b, rfl, by simp [PyData.depth]⟩
    | int b => cases h; exact ⟨.int b, rfl, by simp [PyData.depth]⟩
    | str x =>
      have h' : (if x.all (· < 1114112) = true then some (PyData.str ⟨x.toArray⟩) else none) = some d := h
      split at h'
      · rename_i hx
        cases h'
        exact ⟨.str _, by simp only [PyData.canLay0]; exact strOk_of hx, by simp [PyData.depth]⟩
      · cases h'
    | _ => cases h
  | n + 1, p, v, d, r, h => by
    cases r with
    | non => cases h; exact ⟨.non, rfl, by simp [PyData.depth]⟩
    | bl b => cases h; exact ⟨.bl b, rfl, by simp [PyData.depth]⟩
    | int b => cases h; exact ⟨.int b, rfl, by simp [PyData.depth]⟩
    | str x =>
      have h' : (if x.all (· < 1114112) = true then some (PyData.str ⟨x.toArray⟩) else none) = some d := h
      split at h'
      · rename_i hx
        cases h'
        exact ⟨.str _, by simp only [PyData.canLay0]; exact strOk_of hx, by simp [PyData.depth]⟩
      · cases h'
    | @tup ps a xs ha ra =>
      have h' : (O.mapO (O.dat st n) ps).map PyData.tuple = some d := h
      cases e : O.mapO (O.dat st n) ps with
      | none => rw [e] at h'; cases h'
      | some ds =>
        rw [e] at h'
        cases h'
        obtain ⟨b1, b2, b3⟩ := mapO_dp (fun p v d r h => dat_dp R n p v d r h) ra e
        exact ⟨.tup ha.sq b1, by simpa [PyData.canLay0] using b2, by simp [PyData.depth]; omega⟩
    | @ref i a hi =>
      have h' : (match st[i]? with
        | some (.lst ps) => (O.mapO (O.dat st n) ps).map PyData.list
        | some (.frz ps) => (O.mapO (O.dat st n) ps).map PyData.list
        | _ => none) = some d := h
      have fin : ∀ {ps : List PV} {vs : List V}, SqL K H a vs → RepL K m H ps vs → (O.mapO (O.dat st n) ps).map PyData.list = some d → Dp K H (.ref a) d ∧ d.canLay0 = true ∧ d.depth ≤ n + 1 := fun {ps vs} hq hr h' => by
        cases e : O.mapO (O.dat st n) ps with
        | none => rw [e] at h'; cases h'
        | some ds =>
          rw [e] at h'
          cases h'
          obtain ⟨b1, b2, b3⟩ := mapO_dp (fun p v d r h => dat_dp R n p v d r h) hr e
          exact ⟨.lst hq b1, by simpa [PyData.canLay0] using b2, by simp [PyData.depth]; omega⟩
      split at h'
      · rename_i ps e
        obtain ⟨vs, h1, r1⟩ := R.lst hi e
        exact fin (SqL.of h1) r1 h'
      · rename_i ps e
        obtain ⟨vs, h1, r1⟩ := R.frz hi e
        exact fin h1 r1 h'
      · cases h'
    | _ => cases h
theorem dat_sh (R : Rel K cv m st H) {p : PV} {v : V} {d : PyData} (r : RepV K m H p v) (h : O.dat st 60 p = some d) : Dp K H v d ∧ SeqAt.shaped d = true := by
  obtain ⟨h1, h2, h3⟩ := dat_dp R 60 p v d r h
  refine ⟨h1, ?_⟩
  unfold SeqAt.shaped
  rw [h2, Bool.true_and]
  exact decide_eq_true (by omega)
theorem o_eq : Op2 K cv (rEqD K) O.eq := fun m st H px py x y Q R rx ry q => by
  have q' : OPost K cv m H Q (match O.dat st 60 px, O.dat st 60 py with
    | some d, some e => some (.bl (PyData.eqv d e), st)
    | _, _ => none) := q
  split at q'
  · rename_i d e e1 e2
    obtain ⟨a1, a2⟩ := dat_sh R rx e1
    obtain ⟨b1, b2⟩ := dat_sh R ry e2
    exact ⟨d, e, a1, b1, a2, b2, q'.pure R (.bl _)⟩
  · exact q'.elim
theorem o_ne : Op2 K cv (rNeD K) O.ne := fun m st H px py x y Q R rx ry q => by
  have q' : OPost K cv m H Q (match O.dat st 60 px, O.dat st 60 py with
    | some d, some e => some (.bl (!PyData.eqv d e), st)
    | _, _ => none) := q
  split at q'
  · rename_i d e e1 e2
    obtain ⟨a1, a2⟩ := dat_sh R rx e1
    obtain ⟨b1, b2⟩ := dat_sh R ry e2
    exact ⟨d, e, a1, b1, a2, b2, q'.pure R (.bl _)⟩
  · exact q'.elim
end
end Y

set_option Elab.async false
set_option linter.all false
set_option maxRecDepth 100000
set_option maxHeartbeats 4000000
namespace Y
open PySem PySem.Spec PyProof.Rows L2

theorem _root_.L2.PE.orY {X : Cx} {e : Expr} {t t' : TE} (h : PE X e t) (h' : PE X e t') : PE X e (fun σ H Q => t σ H Q ∨ t' σ H Q) := ⟨fun pins s σ H Q I q => q.elim (h.run pins s σ H Q I) (h'.run pins s σ H Q I)⟩
theorem _root_.L2.PC.orY {X : Cx} {op : CmpOp} {a b : Expr} {t t' : TE} (h : PC X op a b t) (h' : PC X op a b t') : PC X op a b (fun σ H Q => t σ H Q ∨ t' σ H Q) := ⟨fun pins s σ H Q I q => q.elim (h.run pins s σ H Q I) (h'.run pins s σ H Q I)⟩
theorem _root_.L2.PS.orY {X : Cx} {e : Stmt} {t t' : TS} (h : PS X e t) (h' : PS X e t') : PS X e (fun D σ H => t D σ H ∨ t' D σ H) := ⟨fun pins s σ H D I q => q.elim (h.run pins s σ H D I) (h'.run pins s σ H D I)⟩
section
variable {X : Cx} {cv : String → Addr} {K : PySem.W.Frag}
abbrev rCmpY (p : Int → Int → Bool) (q : List Nat → List Nat → Bool) : R2 := fun x y H Q => rI0 (fun i j => V.bl (p i j)) x y H Q ∨ ∃ i j, x = .str i ∧ y = .str j ∧ Q (.bl (q i.cps.toList j.cps.toList)) H
theorem or_lt : OpR X (compareOp .Lt) (rCmpY (fun i j => decide (i < j)) fun i j => decide (i < j)) := OpR.orY op_lt op_lt_str
theorem or_le : OpR X (compareOp .LtE) (rCmpY (fun i j => decide (i ≤ j)) fun i j => !decide (j < i)) := OpR.orY op_le op_le_str
theorem or_gt : OpR X (compareOp .Gt) (rCmpY (fun i j => decide (j < i)) fun i j => decide (j < i)) := OpR.orY op_gt op_gt_str
theorem or_ge : OpR X (compareOp .GtE) (rCmpY (fun i j => decide (j ≤ i)) fun i j => !decide (i < j)) := OpR.orY op_ge op_ge_str
theorem o_cmp {p : Int → Int → Bool} {q : List Nat → List Nat → Bool} {g : PV → PV → Sto → OR} (h1 : ∀ a b s, g (.int a) (.int b) s = some (.bl (p a b), s)) (h2 : ∀ a b s, g (.str a) (.str b) s = some (.bl (q a b), s))
    (h3 : ∀ (a b : PV) (s : Sto), (∀ i j, a = .int i → b = .int j → False) → (∀ i j, a = .str i → b = .str j → False) → g a b s = none) : Op2 K cv (rCmpY p q) g := fun m st H px py x y Q R rx ry z => by
  by_cases e : ∃ i j, px = .int i ∧ py = .int j
  · obtain ⟨i, j, rfl, rfl⟩ := e
    rw [h1] at z
    cases rx; cases ry
    exact .inl ⟨i, j, rfl, rfl, z.pure R (.bl _)⟩
  · by_cases e2 : ∃ i j, px = .str i ∧ py = .str j
    · obtain ⟨i, j, rfl, rfl⟩ := e2
      rw [h2] at z
      cases rx; cases ry
      exact .inr ⟨_, _, rfl, rfl, z.pure R (.bl _)⟩
    · rw [h3 px py st (fun i j a b => e ⟨i, j, a, b⟩) fun i j a b => e2 ⟨i, j, a, b⟩] at z
      exact z.elim
theorem cmp_no {g : PV → PV → Sto → OR} {a b : PV} {s : Sto} (h : ∀ (a b : PV) (s : Sto), (match a, b with | .int _, .int _ => True | .str _, .str _ => True | _, _ => g a b s = none)) (h1 : ∀ i j, a = .int i → b = .int j → False) (h2 : ∀ i j, a = .str i → b = .str j → False) : g a b s = none := by
  have z := h a b s
  split at z
  · exact (h1 _ _ rfl rfl).elim
  · exact (h2 _ _ rfl rfl).elim
  · exact z
theorem o_lt : Op2 K cv (rCmpY (fun i j => decide (i < j)) fun i j => decide (i < j)) O.lt := o_cmp (fun _ _ _ => rfl) (fun _ _ _ => rfl) fun a b s => cmp_no fun a b s => by unfold O.lt; cases a <;> cases b <;> trivial
theorem o_le : Op2 K cv (rCmpY (fun i j => decide (i ≤ j)) fun i j => !decide (j < i)) O.le := o_cmp (fun _ _ _ => rfl) (fun _ _ _ => rfl) fun a b s => cmp_no fun a b s => by unfold O.le; cases a <;> cases b <;> trivial
theorem o_gt : Op2 K cv (rCmpY (fun i j => decide (j < i)) fun i j => decide (j < i)) O.gt := o_cmp (fun _ _ _ => rfl) (fun _ _ _ => rfl) fun a b s => cmp_no fun a b s => by unfold O.gt; cases a <;> cases b <;> trivial
theorem o_ge : Op2 K cv (rCmpY (fun i j => decide (j ≤ i)) fun i j => !decide (i < j)) O.ge := o_cmp (fun _ _ _ => rfl) (fun _ _ _ => rfl) fun a b s => cmp_no fun a b s => by unfold O.ge; cases a <;> cases b <;> trivial
abbrev rIsY (f : Bool → Bool) : R2 := fun x y H Q => (y = .non ∧ Q (.bl (f (decide (x = .non)))) H) ∨ ∃ a b, x = .bl a ∧ y = .bl b ∧ Q (.bl (f (decide (a = b)))) H
theorem non_dec {m : List Addr} {H : Hp} {p : PV} {v : V} (r : RepV K m H p v) (h : p ≠ .non) : decide (v = .non) = false := by
  cases r <;> simp_all
theorem or_is : OpR X (compareOp .Is) (rIsY id) := OpR.orY op_isN op_is_bl
theorem or_isnt : OpR X (compareOp .IsNot) (rIsY (!·)) := OpR.orY op_notN op_isnot_bl
theorem o_is : Op2 K cv (rIsY id) O.is := fun m st H px py x y Q R rx ry z => by
  cases ry with
  | non =>
    by_cases e : px = .non
    · subst e
      cases rx
      exact .inl ⟨rfl, z.pure R (.bl true)⟩
    · have e2 : O.is px .non st = some (.bl false, st) := by cases px <;> first | rfl | exact absurd rfl e
      rw [e2] at z
      refine .inl ⟨rfl, ?_⟩
      rw [non_dec rx e]
      exact z.pure R (.bl false)
  | bl b =>
    cases rx with
    | bl a => exact .inr ⟨a, b, rfl, rfl, z.pure R (.bl _)⟩
    | _ => exact z.elim
  | _ => cases rx <;> exact z.elim
theorem o_isnt : Op2 K cv (rIsY (!·)) O.isnt := fun m st H px py x y Q R rx ry z => by
  cases ry with
  | non =>
    by_cases e : px = .non
    · subst e
      cases rx
      exact .inl ⟨rfl, z.pure R (.bl false)⟩
    · have e2 : O.isnt px .non st = some (.bl true, st) := by cases px <;> first | rfl | exact absurd rfl e
      rw [e2] at z
      refine .inl ⟨rfl, ?_⟩
      rw [non_dec rx e]
      exact z.pure R (.bl true)
  | bl b =>
    cases rx with
    | bl a => exact .inr ⟨a, b, rfl, rfl, z.pure R (.bl _)⟩
    | _ => exact z.elim
  | _ => cases rx <;> exact z.elim
end

/-! ### dicts by values -/
namespace O
def dk : PV → Option DK
  | .int i => some (.i i)
  | .str x => some (.s x)
  | _ => none
def look (kvs : List (DK × PV)) (k : DK) : Option PV := (kvs.find? fun kv => decide (kv.1 = k)).map (·.2)
def dput (kvs : List (DK × PV)) (k : DK) (v : PV) : List (DK × PV) :=
  if (kvs.any fun kv => decide (kv.1 = k)) = true then kvs.map (fun kv => if kv.1 = k then (kv.1, v) else kv) else kvs ++ [(k, v)]
def ddrop (kvs : List (DK × PV)) (k : DK) : List (DK × PV) := kvs.filter fun kv => decide (kv.1 ≠ k)
def isD (p : PV) (s : Sto) : Bool := match p with
  | .ref n => (match s[n]? with | some (.dct _) => true | _ => false)
  | _ => false
/-- o[i]: of a list, a tuple, a text -/
def ix : PV → PV → Sto → OR
  | .tup ps, .int i, s => (atI ps i).map fun v => (v, s)
  | .str z, .int i, s => if z.length ≤ sizeLine then (atI z i).map fun c => (.str [c], s) else none
  | .ref n, .int i, s => (match s[n]? with
    | some (.lst ps) => (atI ps i).map fun v => (v, s)
    | some (.frz ps) => (atI ps i).map fun v => (v, s)
    | _ => none)
  | _, _, _ => none
/-- d[k] -/
def dix (p k : PV) (s : Sto) : OR := match p with
  | .ref n => (match s[n]?, dk k with
    | some (.dct kvs), some k => (look kvs k).map fun v => (v, s)
    | _, _ => none)
  | _ => none
def cut {α : Type} (xs : List α) (lo hi : Option Int) : List α := (xs.drop (HT.sIx xs.length 0 lo)).take (HT.sIx xs.length xs.length hi - HT.sIx xs.length 0 lo)
def slice : PV → Option Int → Option Int → Sto → OR
  | .tup ps, lo, hi, s => some (.tup (cut ps lo hi), s)
  | .str z, lo, hi, s => if z.length ≤ sizeLine then some (.str (cut z lo hi), s) else none
  | .ref n, lo, hi, s => (match s[n]? with
    | some (.lst ps) => some (.ref s.length, s ++ [.lst (cut ps lo hi)])
    | some (.frz ps) => some (.ref s.length, s ++ [.lst (cut ps lo hi)])
    | _ => none)
  | _, _, _, _ => none
end O
section
variable {X : Cx} {cv : String → Addr} {K : PySem.W.Frag} {m : List Addr} {H : Hp} {st : Sto}
theorem key_inj {a b : DK} (h : a.key = b.key) : a = b := by
  cases a <;> cases b <;> simp_all [DK.key]
theorem key_dec (a b : DK) : decide (a.key = b.key) = decide (a = b) := by
  by_cases e : a = b
  · subst e; simp
  · rw [decide_eq_false e, decide_eq_false fun z => e (key_inj z)]
theorem dk_rep {p : PV} {v : V} {k : DK} (r : RepV K m H p v) (h : O.dk p = some k) : v = kV k.key := by
  cases r with
  | int i => cases h; rfl
  | str x => cases h; rfl
  | _ => cases h
/-- what a dict holds, on both sides -/
theorem look_rep : ∀ {kvs : List (DK × PV)} {ks : List (Key × V)} (k : DK), ks.map (·.1) = kvs.map (·.1.key) → RepL K m H (kvs.map (·.2)) (ks.map (·.2)) →
    (O.look kvs k = none ∧ valV ks k.key = none) ∨ ∃ p v, O.look kvs k = some p ∧ valV ks k.key = some v ∧ RepV K m H p v
  | [], [], _, _, _ => .inl ⟨rfl, rfl⟩
  | [], _ :: _, _, h, _ => by simp at h
  | _ :: _, [], _, h, _ => by simp at h
  | (a, p) :: kvs, (b, v) :: ks, k, h, r => by
    simp only [List.map_cons, List.cons.injEq] at h
    obtain ⟨h1, h2⟩ := h
    subst h1
    cases r with
    | cons r1 r2 =>
      by_cases e : a = k
      · subst e
        exact .inr ⟨p, v, by simp [O.look], by simp [valV], r1⟩
      · have e' : ¬ a.key = k.key := fun z => e (key_inj z)
        have q := look_rep k h2 r2
        rw [valV_neg (by exact e')]
        rw [show O.look ((a, p) :: kvs) k = O.look kvs k by simp [O.look, e]]
        exact q
theorem put_rep {kvs : List (DK × PV)} {ks : List (Key × V)} (k : DK) {p : PV} {v : V} (h : ks.map (·.1) = kvs.map (·.1.key)) (r : RepL K m H (kvs.map (·.2)) (ks.map (·.2))) (rv : RepV K m H p v) :
    (putK ks k.key v).map (·.1) = (O.dput kvs k p).map (·.1.key) ∧ RepL K m H ((O.dput kvs k p).map (·.2)) ((putK ks k.key v).map (·.2)) := by
  have e : (ks.any fun kv => decide (kv.1 = k.key)) = (kvs.any fun kv => decide (kv.1 = k)) := by
    rw [show (ks.any fun kv => decide (kv.1 = k.key)) = (ks.map (·.1)).any (fun a => decide (a = k.key)) by rw [List.any_map]; rfl, h, List.any_map]
    congr 1
    funext kv
    exact key_dec kv.1 k
  unfold putK O.dput
  rw [e]
  split
  · refine ⟨?_, ?_⟩
    · have a1 : (ks.map (fun kv => if kv.1 = k.key then (kv.1, v) else kv)).map (·.1) = ks.map (·.1) := by
        rw [List.map_map]; congr 1; funext kv; simp only [Function.comp]; split <;> rfl
      have a2 : (kvs.map (fun kv => if kv.1 = k then (kv.1, p) else kv)).map (·.1.key) = kvs.map (·.1.key) := by
        rw [List.map_map]; congr 1; funext kv; simp only [Function.comp]; split <;> rfl
      rw [a1, a2, h]
    · rename_i hh
      clear hh e
      induction kvs generalizing ks with
      | nil => cases ks with
        | nil => exact .nil
        | cons _ _ => simp at h
      | cons a kvs ih => cases ks with
        | nil => simp at h
        | cons b ks =>
          obtain ⟨a, p'⟩ := a
          obtain ⟨b, v'⟩ := b
          simp only [List.map_cons, List.cons.injEq] at h
          obtain ⟨h1, h2⟩ := h
          subst h1
          cases r with
          | cons r1 r2 =>
            simp only [List.map_cons]
            refine .cons ?_ (ih h2 r2)
            by_cases q : a = k
            · subst q
              simp only [if_true]
              exact rv
            · rw [if_neg q, if_neg fun z => q (key_inj z)]
              exact r1
  · refine ⟨by simp [h], ?_⟩
    rw [List.map_append, List.map_append]
    exact r.append (.cons rv .nil)
theorem drop_rep : ∀ {kvs : List (DK × PV)} {ks : List (Key × V)} (k : DK), ks.map (·.1) = kvs.map (·.1.key) → RepL K m H (kvs.map (·.2)) (ks.map (·.2)) →
    (dropK ks k.key).map (·.1) = (O.ddrop kvs k).map (·.1.key) ∧ RepL K m H ((O.ddrop kvs k).map (·.2)) ((dropK ks k.key).map (·.2))
  | [], [], _, _, _ => ⟨rfl, .nil⟩
  | [], _ :: _, _, h, _ => by simp at h
  | _ :: _, [], _, h, _ => by simp at h
  | (a, p) :: kvs, (b, v) :: ks, k, h, r => by
    simp only [List.map_cons, List.cons.injEq] at h
    obtain ⟨h1, h2⟩ := h
    subst h1
    cases r with
    | cons r1 r2 =>
      obtain ⟨i1, i2⟩ := drop_rep k h2 r2
      by_cases e : a = k
      · subst e
        have a1 : O.ddrop ((a, p) :: kvs) a = O.ddrop kvs a := by simp [O.ddrop]
        have a2 : dropK ((a.key, v) :: ks) a.key = dropK ks a.key := by simp [dropK]
        rw [a1, a2]
        exact ⟨i1, i2⟩
      · have e' : ¬ a.key = k.key := fun z => e (key_inj z)
        have a1 : O.ddrop ((a, p) :: kvs) k = (a, p) :: O.ddrop kvs k := by simp [O.ddrop, e]
        have a2 : dropK ((a.key, v) :: ks) k.key = (a.key, v) :: dropK ks k.key := by simp [dropK, e']
        rw [a1, a2]
        exact ⟨by simp [i1], .cons r1 i2⟩
/-- a dict of the store, written -/
theorem OPost.wrD {Q : VK} {n : Nat} {a : Addr} {kvs : List (DK × PV)} {ks : List (Key × V)} {p : PV} {v : V} (R : Rel K cv m st H) (hn : m[n]? = some a) (h : ks.map (·.1) = kvs.map (·.1.key)) (r : RepL K m H (kvs.map (·.2)) (ks.map (·.2))) (rv : RepV K m H p v)
    (q : OPost K cv m H Q (some (p, st.set n (.dct kvs)))) : Q v (upd H a (.dK ks)) := by
  obtain ⟨o, u, _, _, hu, hx⟩ := R.get hn
  exact q m _ _ (.write hu hx) (R.write hn ⟨ks, upd_same, h, r.mono (.write hu hx)⟩) (rv.mono (.write hu hx))

/-! ### subscripts -/
theorem RepL.atI {ps : List PV} {vs : List V} {i : Int} {p : PV} (r : RepL K m H ps vs) (h : L2.atI ps i = some p) : ∃ v, L2.atI vs i = some v ∧ RepV K m H p v := by
  unfold L2.atI at h ⊢
  rw [← r.length]
  cases e : ixN ps.length i with
  | none => rw [e] at h; cases h
  | some j => rw [e] at h; exact r.get h
theorem o_ix : Op2 K cv (rIx K) O.ix := fun m st H px py x y Q R rx ry z => by
  cases ry with
  | int i =>
    cases rx with
    | @tup ps a xs ha ra =>
      have z' : OPost K cv m H Q ((atI ps i).map fun v => (v, st)) := z
      cases e : atI ps i with
      | none => rw [e] at z'; exact z'.elim
      | some p =>
        rw [e] at z'
        obtain ⟨v, h1, h2⟩ := ra.atI e
        exact .inr (.inl ⟨a, xs, i, v, rfl, rfl, ha.sq, h1, z'.pure R h2⟩)
    | str s =>
      have z' : OPost K cv m H Q (if s.length ≤ sizeLine then (atI s i).map fun c => (.str [c], st) else none) := z
      split at z'
      · rename_i hs
        cases e : atI s i with
        | none => rw [e] at z'; exact z'.elim
        | some c =>
          rw [e] at z'
          exact .inr (.inr ⟨_, i, c, rfl, rfl, by rw [len_S]; exact hs, by simpa using e, z'.pure R (.str [c])⟩)
      · exact z'.elim
    | @ref n a hn =>
      have z' : OPost K cv m H Q (match st[n]? with
        | some (.lst ps) => (atI ps i).map fun v => (v, st)
        | some (.frz ps) => (atI ps i).map fun v => (v, st)
        | _ => none) := z
      split at z'
      · rename_i ps e
        obtain ⟨vs, h1, r1⟩ := R.lst hn e
        cases e : atI ps i with
        | none => rw [e] at z'; exact z'.elim
        | some p =>
          rw [e] at z'
          obtain ⟨v, h3, h2⟩ := r1.atI e
          exact .inl ⟨a, vs, i, v, rfl, rfl, SqL.of h1, h3, z'.pure R h2⟩
      · rename_i ps e
        obtain ⟨vs, h1, r1⟩ := R.frz hn e
        cases e : atI ps i with
        | none => rw [e] at z'; exact z'.elim
        | some p =>
          rw [e] at z'
          obtain ⟨v, h3, h2⟩ := r1.atI e
          exact .inl ⟨a, vs, i, v, rfl, rfl, h1, h3, z'.pure R h2⟩
      · exact z'.elim
    | _ => exact z.elim
  | _ => cases rx <;> exact z.elim
theorem o_dix {px pk : PV} {x y : V} {Q : VK} (R : Rel K cv m st H) (rx : RepV K m H px x) (ry : RepV K m H pk y) (z : OPost K cv m H Q (O.dix px pk st)) : ∃ a v, x = .ref a ∧ DGet H a y (some v) ∧ Q v H := by
  cases rx with
  | @ref n a hn =>
    have z' : OPost K cv m H Q (match st[n]?, O.dk pk with
      | some (.dct kvs), some k => (O.look kvs k).map fun v => (v, st)
      | _, _ => none) := z
    split at z'
    · rename_i kvs k e1 e2
      obtain ⟨ks, h1, h2, h3⟩ := R.dct hn e1
      rcases look_rep k h2 h3 with ⟨q1, q2⟩ | ⟨p, v, q1, q2, q3⟩
      · rw [q1] at z'; exact z'.elim
      · rw [q1] at z'
        refine ⟨a, v, rfl, ?_, z'.pure R q3⟩
        rw [dk_rep ry e2, ← q2]
        exact DGet.k h1
    · exact z'.elim
  | _ => exact z.elim
variable {W : WX} {a b : Expr} {fa fb : EF} {pos : Pos}
theorem pe2_ix (ha : PE2 X cv W a fa) (hb : PE2 X cv W b fb) (hs : PlainIx b := by exact fun _ _ => rfl) : PE2 X cv W (.Subscript a b pos) (E.bin O.ix fa fb) := ⟨(pe_ix ix_seq ha.pe hb.pe hs).monoY fun _ _ _ h => bin_mono o_ix h⟩
theorem pe2_dix (hu : X.A.units + 1 < cLine) (ha : PE2 X cv W a fa) (hb : PE2 X cv W b fb) (hs : NoSl b := by exact fun _ _ => rfl) : PE2 X cv W (.Subscript a b pos) (E.bin O.dix fa fb) := ⟨(pe_dget hu ha.pe hb.pe hs).monoY fun σ H Q ⟨m, s, ρ, R, S, h⟩ =>
  ⟨m, s, ρ, R, S, epost_bind h fun px s1 m1 H1 x e1 R1 r1 h1 => ⟨m1, s1, ρ, R1, S.mono e1, epost_bind h1 fun py s2 m2 H2 y e2 R2 r2 h2 => o_dix R2 (r1.mono e2) r2 (OPost.of h2)⟩⟩⟩
theorem cut_rep {ps : List PV} {vs : List V} (r : RepL K m H ps vs) (lo hi : Option Int) : RepL K m H (O.cut ps lo hi) (cutV vs lo hi) := by
  unfold O.cut cutV
  rw [r.length]
  exact (r.drop _).take _
abbrev rSlY (K : PySem.W.Frag) : V → Option Int → Option Int → Hp → VK → Prop := fun x lo hi H Q => rSlL K x lo hi H Q ∨ (rSlA K x lo hi H Q ∨ rSlS x lo hi H Q)
theorem sl_Y : SlR X (rSlY X.K) := sl_list.or (sl_tupA.or sl_str)
theorem o_slice : OpS K cv (rSlY K) O.slice := fun m st H px x lo hi Q R rx z => by
  cases rx with
  | @tup ps a xs ha ra =>
    refine .inr (.inl ⟨a, xs, rfl, ha.sq, fun hw => ?_, fun _ => z.newT R (cut_rep ra lo hi)⟩)
    have e : O.cut ps lo hi = ps := by
      unfold O.cut
      rw [← ra.length] at hw
      rw [hw.1, hw.2]
      simp
    have z' : OPost K cv m H Q (some (.tup (O.cut ps lo hi), st)) := z
    rw [e] at z'
    exact z'.pure R (.tup ha ra)
  | str s =>
    have z' : OPost K cv m H Q (if s.length ≤ sizeLine then some (.str (O.cut s lo hi), st) else none) := z
    split at z'
    · rename_i hs
      refine .inr (.inr ⟨_, rfl, by rw [len_S]; exact hs, ?_⟩)
      have e : cutS ⟨s.toArray⟩ lo hi = ⟨(O.cut s lo hi).toArray⟩ := by
        unfold cutS O.cut
        rw [len_S]
      rw [e]
      exact z'.pure R (.str _)
    · exact z'.elim
  | @ref n a hn =>
    have z' : OPost K cv m H Q (match st[n]? with
      | some (.lst ps) => some (.ref st.length, st ++ [.lst (O.cut ps lo hi)])
      | some (.frz ps) => some (.ref st.length, st ++ [.lst (O.cut ps lo hi)])
      | _ => none) := z
    split at z'
    · rename_i ps e
      obtain ⟨vs, h1, r1⟩ := R.lst hn e
      exact .inl ⟨a, vs, rfl, SqL.of h1, z'.newL R (cut_rep r1 lo hi)⟩
    · rename_i ps e
      obtain ⟨vs, h1, r1⟩ := R.frz hn e
      exact .inl ⟨a, vs, rfl, h1, z'.newL R (cut_rep r1 lo hi)⟩
    · exact z'.elim
  | _ => exact z.elim
/-- a part of a slice -/
def PF (f : Option EF) : Rho → Sto → ER (Option Int) := fun ρ s => match f with
  | none => ER.ok none s
  | some f => (f ρ s).bind fun v s => match v with | .int i => .ok (some i) s | _ => .bad
structure PO2 (X : Cx) (cv : String → Addr) (W : WX) (e : Option Expr) (f : Option EF) : Prop where
  po : ∃ t, PO X e t ∧ ∀ m s ρ σ H (Q : VK) (Q1 : Option Int → Hp → Prop) (k : Option Int → Sto → ER PV), Rel X.K cv m s H → RS X.K m H ρ σ → EPost X.K cv m H (fun c H' => W c none σ H') Q ((PF f ρ s).bind k) →
    (∀ o s' m' H', Ext m H m' H' → Rel X.K cv m' s' H' → EPost X.K cv m' H' (fun c H' => W c none σ H') Q (k o s') → Q1 o H') → t σ H Q1
theorem po2_none : PO2 X cv W none none := ⟨_, po_none, fun m s ρ σ H Q Q1 k R S h n => n none s m H (.refl _ _) R h⟩
theorem po2_some (ha : PE2 X cv W a fa) : PO2 X cv W (some a) (some fa) := ⟨_, po_some ha.pe, fun m s ρ σ H Q Q1 k R S h n => by
  have h' : EPost X.K cv m H (fun c H' => W c none σ H') Q ((fa ρ s).bind fun v s => (match v with | .int i => ER.ok (some i) s | _ => .bad : ER (Option Int)).bind k) := by
    have e : (PF (some fa) ρ s).bind k = ((fa ρ s).bind fun v s => (match v with | .int i => ER.ok (some i) s | _ => .bad : ER (Option Int)).bind k) := by
      show ((fa ρ s).bind _).bind k = _
      cases fa ρ s <;> rfl
    rw [← e]; exact h
  refine ⟨m, s, ρ, R, S, epost_bind h' fun p s1 m1 H1 v e1 R1 r1 h1 => ?_⟩
  cases r1 with
  | int i => exact ⟨i, rfl, n (some i) s1 m1 H1 e1 R1 h1⟩
  | _ => exact h1.elim⟩
theorem pe2_slice {lo hi : Option Expr} {fl fh : Option EF} {p2 : Pos} (ha : PE2 X cv W a fa) (hl : PO2 X cv W lo fl) (hh : PO2 X cv W hi fh) : PE2 X cv W (.Subscript a (.Slice lo hi none p2) pos) (E.slice O.slice fa fl fh) := by
  obtain ⟨tl, pl, kl⟩ := hl.po
  obtain ⟨th, ph, kh⟩ := hh.po
  refine ⟨(pe_slice sl_Y ha.pe pl ph).monoY fun σ H Q ⟨m, s, ρ, R, S, h⟩ => ⟨m, s, ρ, R, S, epost_bind h fun px s1 m1 H1 x e1 R1 r1 h1 => ?_⟩⟩
  refine kl m1 s1 ρ σ H1 Q _ (fun l s2 => (PF fh ρ s2).bind fun h s3 => .of (O.slice px l h s3)) R1 (S.mono e1) h1 fun l s2 m2 H2 e2 R2 h2 => ?_
  refine kh m2 s2 ρ σ H2 Q _ (fun h s3 => .of (O.slice px l h s3)) R2 ((S.mono e1).mono e2) h2 fun u s3 m3 H3 e3 R3 h3 => ?_
  exact o_slice m3 s3 H3 px x l u Q R3 (r1.mono (e2.trans e3)) (OPost.of h3)
end
end Y

set_option Elab.async false
set_option linter.all false
set_option maxRecDepth 100000
set_option maxHeartbeats 4000000
namespace Y
open PySem PySem.Spec PyProof.Rows L2

/-! ### statements -/
def ER.thenS {α : Type} (r : ER α) (ρ : Rho) (k : α → Sto → SR) : SR := match r with
  | .ok a s => k a s
  | .ex c s => .ex c ρ s
  | .bad => .bad
@[simp] theorem ER.thenS_ok {α : Type} (a : α) (s : Sto) (ρ : Rho) (k : α → Sto → SR) : (ER.ok a s).thenS ρ k = k a s := (rfl)
@[simp] theorem ER.thenS_ex {α : Type} (c : String) (s : Sto) (ρ : Rho) (k : α → Sto → SR) : (ER.ex c s : ER α).thenS ρ k = .ex c ρ s := (rfl)
@[simp] theorem ER.thenS_bad {α : Type} (ρ : Rho) (k : α → Sto → SR) : (ER.bad : ER α).thenS ρ k = .bad := (rfl)
abbrev GF := PV → Rho → Sto → Option (Rho × Sto)
abbrev GFs := List PV → Rho → Sto → Option (Rho × Sto)
def SR.next (r : SR) (k : Rho → Sto → SR) : SR := match r with
  | .nx ρ s => k ρ s
  | r => r
@[simp] theorem SR.next_nx (ρ : Rho) (s : Sto) (k : Rho → Sto → SR) : (SR.nx ρ s).next k = k ρ s := (rfl)
@[simp] theorem SR.next_rt (v : PV) (s : Sto) (k : Rho → Sto → SR) : (SR.rt v s).next k = .rt v s := (rfl)
@[simp] theorem SR.next_bk (ρ : Rho) (s : Sto) (k : Rho → Sto → SR) : (SR.bk ρ s).next k = .bk ρ s := (rfl)
@[simp] theorem SR.next_ct (ρ : Rho) (s : Sto) (k : Rho → Sto → SR) : (SR.ct ρ s).next k = .ct ρ s := (rfl)
@[simp] theorem SR.next_ex (c : String) (ρ : Rho) (s : Sto) (k : Rho → Sto → SR) : (SR.ex c ρ s).next k = .ex c ρ s := (rfl)
@[simp] theorem SR.next_bad (k : Rho → Sto → SR) : SR.bad.next k = .bad := (rfl)
/-- a turn's end: on to the next turn, or the loop's end -/
def SR.turn (r : SR) (k : Rho → Sto → SR) : SR := match r with
  | .nx ρ s => k ρ s
  | .ct ρ s => k ρ s
  | .bk ρ s => .nx ρ s
  | r => r
@[simp] theorem SR.turn_nx (ρ : Rho) (s : Sto) (k : Rho → Sto → SR) : (SR.nx ρ s).turn k = k ρ s := (rfl)
@[simp] theorem SR.turn_ct (ρ : Rho) (s : Sto) (k : Rho → Sto → SR) : (SR.ct ρ s).turn k = k ρ s := (rfl)
@[simp] theorem SR.turn_bk (ρ : Rho) (s : Sto) (k : Rho → Sto → SR) : (SR.bk ρ s).turn k = .nx ρ s := (rfl)
@[simp] theorem SR.turn_rt (v : PV) (s : Sto) (k : Rho → Sto → SR) : (SR.rt v s).turn k = .rt v s := (rfl)
@[simp] theorem SR.turn_ex (c : String) (ρ : Rho) (s : Sto) (k : Rho → Sto → SR) : (SR.ex c ρ s).turn k = .ex c ρ s := (rfl)
@[simp] theorem SR.turn_bad (k : Rho → Sto → SR) : SR.bad.turn k = .bad := (rfl)
namespace G
def name (i : Nat) : GF := fun p ρ s => some (ρ.set i (some p), s)
def nil : GFs := fun ps ρ s => match ps with | [] => some (ρ, s) | _ => none
def cons (g : GF) (gs : GFs) : GFs := fun ps ρ s => match ps with
  | p :: ps => (match g p ρ s with | some (ρ1, s1) => gs ps ρ1 s1 | none => none)
  | [] => none
def tup (gs : GFs) : GF := fun p ρ s => match p with
  | .tup ps => gs ps ρ s
  | _ => none
end G
namespace Z
def nil : SF := fun ρ s => .nx ρ s
def seq (a b : SF) : SF := fun ρ s => (a ρ s).next b
def brk : SF := fun ρ s => .bk ρ s
def ctn : SF := fun ρ s => .ct ρ s
def asg (i : Nat) (e : EF) : SF := fun ρ s => (e ρ s).thenS ρ fun v s1 => .nx (ρ.set i (some v)) s1
/-- any other target -/
def asgG (g : GF) (e : EF) : SF := fun ρ s => (e ρ s).thenS ρ fun v s1 => match g v ρ s1 with | some (ρ1, s2) => .nx ρ1 s2 | none => .bad
def drop (e : EF) : SF := fun ρ s => (e ρ s).thenS ρ fun _ s1 => .nx ρ s1
def ret (e : EF) : SF := fun ρ s => (e ρ s).thenS ρ fun v s1 => .rt v s1
def retN : SF := fun _ s => .rt .non s
def ite (t : TF) (a b : SF) : SF := fun ρ s => (t ρ s).thenS ρ fun c s1 => if c = true then a ρ s1 else b ρ s1
def raise (c : String) : SF := fun ρ s => .ex c ρ s
def aug (g : PV → PV → Sto → OR) (i : Nat) (e : EF) : SF := fun ρ s => (E.var i ρ s).thenS ρ fun x s1 => (e ρ s1).thenS ρ fun y s2 => match g x y s2 with | some (v, s3) => .nx (ρ.set i (some v)) s3 | none => .bad
def putS (f : String) (v : PV) : List (String × PV) → List (String × PV)
  | [] => [(f, v)]
  | (g, x) :: r => if g = f then (g, v) :: r else (g, x) :: putS f v r
/-- o.f = e: e first -/
def fld (C f : String) (o e : EF) : SF := fun ρ s => (e ρ s).thenS ρ fun v s1 => (o ρ s1).thenS ρ fun x s2 => match x with
  | .ref n => (match s2[n]? with
    | some (.ins D fs) => if D = C ∧ fs.length < 1000 then .nx ρ (s2.set n (.ins D (putS f v fs))) else .bad
    | _ => .bad)
  | _ => .bad
/-- xs[i] = e: e first -/
def lset (o i e : EF) : SF := fun ρ s => (e ρ s).thenS ρ fun v s1 => (o ρ s1).thenS ρ fun x s2 => (i ρ s2).thenS ρ fun k s3 => match x, k with
  | .ref n, .int k => (match s3[n]? with
    | some (.lst ps) => (match ixN ps.length k with | some j => .nx ρ (s3.set n (.lst (ps.set j v))) | none => .bad)
    | _ => .bad)
  | _, _ => .bad
def dset (o i e : EF) : SF := fun ρ s => (e ρ s).thenS ρ fun v s1 => (o ρ s1).thenS ρ fun x s2 => (i ρ s2).thenS ρ fun k s3 => match x, O.dk k with
  | .ref n, some k => (match s3[n]? with
    | some (.dct kvs) => if kvs.length < sizeLine then .nx ρ (s3.set n (.dct (O.dput kvs k v))) else .bad
    | _ => .bad)
  | _, _ => .bad
def ddel (o i : EF) : SF := fun ρ s => (o ρ s).thenS ρ fun x s1 => (i ρ s1).thenS ρ fun k s2 => match x, O.dk k with
  | .ref n, some k => (match s2[n]? with
    | some (.dct kvs) => if (O.look kvs k).isSome then .nx ρ (s2.set n (.dct (O.ddrop kvs k))) else .bad
    | _ => .bad)
  | _, _ => .bad
/-- over given items -/
def forP (g : GF) (b : SF) : List PV → SF
  | [], ρ, s => .nx ρ s
  | p :: ps, ρ, s => match g p ρ s with
    | some (ρ1, s1) => (b ρ1 s1).turn (forP g b ps)
    | none => .bad
def items (n : Nat) (s : Sto) : Option (List PV) := match s[n]? with
  | some (.lst ps) => some ps
  | some (.frz ps) => some ps
  | _ => none
/-- over the list at n, as it stands at each turn -/
def forL (g : GF) (b : SF) (n : Nat) : Nat → Nat → SF
  | 0, i, ρ, s => match items n s with
    | some ps => (match ps[i]? with | none => .nx ρ s | some _ => .bad)
    | none => .bad
  | f + 1, i, ρ, s => match items n s with
    | some ps => (match ps[i]? with
      | none => .nx ρ s
      | some p => (match g p ρ s with
        | some (ρ1, s1) => (b ρ1 s1).turn (forL g b n f (i + 1))
        | none => .bad))
    | none => .bad
/-- for .. in a list or a tuple -/
def forV (g : GF) (e : EF) (b : SF) : SF := fun ρ s => (e ρ s).thenS ρ fun v s1 => match v with
  | .tup ps => forP g b ps ρ s1
  | .ref n => (match items n s1 with
    | some ps => forL g b n ps.length 0 ρ s1
    | none => .bad)
  | _ => .bad
def forS (g : GF) (e : EF) (b : SF) : SF := fun ρ s => (e ρ s).thenS ρ fun v s1 => match v with
  | .str x => forP g b (x.map fun c => .str [c]) ρ s1
  | _ => .bad
def rng (lo : Int) (n : Nat) : List PV := (List.range n).map fun i => .int (lo + (i : Nat))
def forR1 (g : GF) (a : AF) (b : SF) : SF := fun ρ s => (a ρ s).thenS ρ fun vs s1 => match vs with
  | [.int j] => if -(2 ^ 62) ≤ j ∧ j < 2 ^ 62 then forP g b (rng 0 j.toNat) ρ s1 else .bad
  | _ => .bad
def forR2 (g : GF) (a : AF) (b : SF) : SF := fun ρ s => (a ρ s).thenS ρ fun vs s1 => match vs with
  | [.int i, .int j] => if -(2 ^ 62) ≤ i ∧ i < 2 ^ 62 ∧ -(2 ^ 62) ≤ j ∧ j < 2 ^ 62 then forP g b (rng i (j - i).toNat) ρ s1 else .bad
  | _ => .bad
def whileF (t : TF) (b : SF) : Nat → SF
  | 0, _, _ => .bad
  | f + 1, ρ, s => (t ρ s).thenS ρ fun c s1 => if c = true then (b ρ s1).turn (whileF t b f) else .nx ρ s1
def «while» (t : TF) (b : SF) : SF := whileF t b 100000
/-- a def's body -/
def run (np n : Nat) (b : SF) : FF := fun vs s => if vs.length = np then (match b (vs.map some ++ List.replicate (n - np) none) s with
  | .nx _ s' => .ok .non s'
  | .rt v s' => .ok v s'
  | .ex c _ s' => .ex c s'
  | _ => .bad) else .bad
end Z

section
variable {K : PySem.W.Frag} {cv : String → Addr} {W : WX} {D D1 : Ends} {σ : L2.St} {H : Hp} {m : List Addr} {ρ : Rho}
theorem thenS_bind {α : Type} {r : ER α} {k : α → Sto → SR} (S : RS K m H ρ σ) (h : SPost K cv m H W D (r.thenS ρ k)) {Q : ER α → Prop} (h1 : ∀ a s, r = .ok a s → SPost K cv m H W D (k a s) → Q r)
    (h2 : ∀ c s, r = .ex c s → (∀ m' H', Ext m H m' H' → Rel K cv m' s H' → W (.ref (cv c)) none σ H') → Q r) : Q r := by
  cases r with
  | ok a s => exact h1 a s rfl h
  | ex c s => exact h2 c s rfl fun m' H' e R => h m' H' σ e R (S.mono e)
  | bad => exact h.elim
theorem spost_E {r : ER PV} {k : PV → Sto → SR} {Q1 : VK} (S : RS K m H ρ σ) (h : SPost K cv m H W D (r.thenS ρ k))
    (n : ∀ p s' m' H' v, Ext m H m' H' → Rel K cv m' s' H' → RepV K m' H' p v → RS K m' H' ρ σ → SPost K cv m' H' W D (k p s') → Q1 v H') : EPost K cv m H (fun c H' => W c none σ H') Q1 r :=
  thenS_bind S h (Q := fun r => EPost K cv m H (fun c H' => W c none σ H') Q1 r) (fun a s e h1 => by subst e; exact fun m' H' v e R r => n a s m' H' v e R r (S.mono e) (SPost.ext e h1)) fun c s e h2 => by subst e; exact h2
theorem spost_T {r : ER Bool} {k : Bool → Sto → SR} {Q1 : Bool → Hp → Prop} (S : RS K m H ρ σ) (h : SPost K cv m H W D (r.thenS ρ k))
    (n : ∀ p s' m' H', Ext m H m' H' → Rel K cv m' s' H' → RS K m' H' ρ σ → SPost K cv m' H' W D (k p s') → Q1 p H') : TPost K cv m H (fun c H' => W c none σ H') Q1 r :=
  thenS_bind S h (Q := fun r => TPost K cv m H (fun c H' => W c none σ H') Q1 r) (fun a s e h1 => by subst e; exact fun m' H' e R => n a s m' H' e R (S.mono e) (SPost.ext e h1)) fun c s e h2 => by subst e; exact h2
theorem spost_A {r : ER (List PV)} {k : List PV → Sto → SR} {Q1 : List V → Hp → Prop} (S : RS K m H ρ σ) (h : SPost K cv m H W D (r.thenS ρ k))
    (n : ∀ p s' m' H' v, Ext m H m' H' → Rel K cv m' s' H' → RepL K m' H' p v → RS K m' H' ρ σ → SPost K cv m' H' W D (k p s') → Q1 v H') : APost K cv m H (fun c H' => W c none σ H') Q1 r :=
  thenS_bind S h (Q := fun r => APost K cv m H (fun c H' => W c none σ H') Q1 r) (fun a s e h1 => by subst e; exact fun m' H' v e R r => n a s m' H' v e R r (S.mono e) (SPost.ext e h1)) fun c s e h2 => by subst e; exact h2
theorem SPost.nx {ρ' : Rho} {s : Sto} (R : Rel K cv m s H) (S : RS K m H ρ' σ) (h : SPost K cv m H W D (.nx ρ' s)) : D.nx σ H := h m H σ (.refl _ _) R S
end

section
variable {X : Cx} {cv : String → Addr} {W : WX} {a b c : Expr} {fa fb fc : EF} {pos pos' : Pos} {st : Stmt} {rest body orelse : List Stmt} {f g : SF} {t : TF}
theorem pss2_nil : PSs2 X cv W [] Z.nil := ⟨pss_nil.monoY fun D σ H ⟨m, s, ρ, R, S, h⟩ => h.nx R S⟩
theorem pss2_one (h : PS2 X cv W st f) : PSs2 X cv W [st] f := ⟨pss_one h.ps⟩
theorem pss2_cons (h1 : PS2 X cv W st f) (h2 : PSs2 X cv W rest g) : PSs2 X cv W (st :: rest) (Z.seq f g) := ⟨(pss_cons h1.ps h2.pss).monoY fun D σ H ⟨m, s, ρ, R, S, h⟩ => ⟨m, s, ρ, R, S, by
  have h' : SPost X.K cv m H W D ((f ρ s).next g) := h
  cases e : f ρ s with
  | nx ρ1 s1 => rw [e] at h'; exact fun m' H' σ' e' R' S' => ⟨m', s1, ρ1, R', S', SPost.ext e' h'⟩
  | _ => rw [e] at h'; exact h'⟩⟩
theorem ps2_pass : PS2 X cv W (.Pass pos) Z.nil := ⟨ps_pass.monoY fun D σ H ⟨m, s, ρ, R, S, h⟩ => h.nx R S⟩
theorem ps2_break : PS2 X cv W (.Break pos) Z.brk := ⟨ps_break.monoY fun D σ H ⟨m, s, ρ, R, S, h⟩ => h m H σ (.refl _ _) R S⟩
theorem ps2_continue : PS2 X cv W (.Continue pos) Z.ctn := ⟨ps_continue.monoY fun D σ H ⟨m, s, ρ, R, S, h⟩ => h m H σ (.refl _ _) R S⟩
theorem ps2_doc {x j} : PS2 X cv W (.Expr (.Constant (.str x) j pos) pos') Z.nil := ⟨ps_doc.monoY fun D σ H ⟨m, s, ρ, R, S, h⟩ => h.nx R S⟩
theorem ps2_set {i : Nat} {x : Str} (hN : X.N.Nodup) (hi : X.N[i]? = some x) (hx : Loc X.env.scope x) (he : PE2 X cv W a fa) (hs : swapsWith a (some (.Name x pos')) pos.line X.env = pure false := by rfl) (hf : X.fn x = true ∨ X.env.scope.names.lookup x = some .local := by first | exact .inl rfl | exact .inr rfl | assumption) :
    PS2 X cv W (.Assign [.Name x pos'] a pos) (Z.asg i fa) := ⟨(ps_set hN hi hx he.pe hs hf).monoY fun D σ H ⟨m, s, ρ, R, S, h⟩ =>
  ⟨m, s, ρ, R, S, spost_E S h fun p s1 m1 H1 v e1 R1 r1 S1 h1 => h1 m1 H1 _ (.refl _ _) R1 (S1.set r1 i)⟩⟩
theorem ps2_expr (he : PE2 X cv W a fa) (hs : swapsWith a none pos.line X.env = pure false := by rfl) : PS2 X cv W (.Expr a pos) (Z.drop fa) := ⟨(ps_expr he.pe hs).monoY fun D σ H ⟨m, s, ρ, R, S, h⟩ =>
  ⟨m, s, ρ, R, S, spost_E S h fun p s1 m1 H1 v e1 R1 r1 S1 h1 => h1.nx R1 S1⟩⟩
theorem ps2_ret (he : PE2 X cv W a fa) : PS2 X cv W (.Return (some a) pos) (Z.ret fa) := ⟨(ps_ret he.pe).monoY fun D σ H ⟨m, s, ρ, R, S, h⟩ =>
  ⟨m, s, ρ, R, S, spost_E S h fun p s1 m1 H1 v e1 R1 r1 S1 h1 => h1 m1 H1 v (.refl _ _) R1 r1⟩⟩
theorem ps2_retN : PS2 X cv W (.Return none pos) Z.retN := ⟨ps_retN.monoY fun D σ H ⟨m, s, ρ, R, S, h⟩ => h m H _ (.refl _ _) R .non⟩
theorem ps2_if (hc : PT2 X cv W c t) (ha : PSs2 X cv W body f) (hb : PSs2 X cv W orelse g) : PS2 X cv W (.If c body orelse pos) (Z.ite t f g) := ⟨(ps_if hc.pt ha.pss hb.pss).monoY fun D σ H ⟨m, s, ρ, R, S, h⟩ =>
  ⟨m, s, ρ, R, S, spost_T S h fun p s1 m1 H1 e1 R1 S1 h1 => by
    cases p with
    | true => rw [if_pos rfl] at h1 ⊢; exact ⟨m1, s1, ρ, R1, S1, h1⟩
    | false => rw [if_neg Bool.false_ne_true] at h1 ⊢; exact ⟨m1, s1, ρ, R1, S1, h1⟩⟩⟩

/-! targets -/
structure PG2 (X : Cx) (cv : String → Addr) (tg : Expr) (g : GF) : Prop where
  pg : ∃ t, PG X tg t ∧ ∀ m s ρ σ H p v (Q : L2.St → Hp → Prop), Rel X.K cv m s H → RS X.K m H ρ σ → RepV X.K m H p v →
    (match g p ρ s with | some (ρ1, s1) => ∀ m' H' σ', Ext m H m' H' → Rel X.K cv m' s1 H' → RS X.K m' H' ρ1 σ' → Q σ' H' | none => False) → t v σ H Q
structure PGs2 (X : Cx) (cv : String → Addr) (tgs : List Expr) (g : GFs) : Prop where
  pg : ∃ t, PGs X tgs t ∧ ∀ m s ρ σ H ps vs (Q : L2.St → Hp → Prop), Rel X.K cv m s H → RS X.K m H ρ σ → RepL X.K m H ps vs →
    (match g ps ρ s with | some (ρ1, s1) => ∀ m' H' σ', Ext m H m' H' → Rel X.K cv m' s1 H' → RS X.K m' H' ρ1 σ' → Q σ' H' | none => False) → t vs σ H Q
theorem pg2_name {i : Nat} {x : Str} (hN : X.N.Nodup) (hi : X.N[i]? = some x) (hx : Loc X.env.scope x) (hf : X.fn x = true ∨ X.env.scope.names.lookup x = some .local := by first | exact .inl rfl | exact .inr rfl | assumption) : PG2 X cv (.Name x pos) (G.name i) :=
  ⟨_, pg_name hN hi hx hf, fun m s ρ σ H p v Q R S r h => h m H _ (.refl _ _) R (S.set r i)⟩
theorem pgs2_nil : PGs2 X cv [] G.nil := ⟨_, pgs_nil, fun m s ρ σ H ps vs Q R S r h => by
  cases r with
  | nil => exact ⟨rfl, h m H σ (.refl _ _) R S⟩
  | cons _ _ => exact h.elim⟩
theorem pgs2_cons {e : Expr} {es : List Expr} {g : GF} {gs : GFs} (h1 : PG2 X cv e g) (h2 : PGs2 X cv es gs) (hs : (assignEach (e :: es) X.env).map (·.2) = assign e X.env :: (assignEach es X.env).map (·.2) := by rfl) : PGs2 X cv (e :: es) (G.cons g gs) := by
  obtain ⟨t1, p1, k1⟩ := h1.pg
  obtain ⟨t2, p2, k2⟩ := h2.pg
  refine ⟨_, pgs_cons p1 p2 hs, fun m s ρ σ H ps vs Q R S r h => ?_⟩
  cases r with
  | nil => exact h.elim
  | @cons p v ps vs r1 r2 =>
    refine ⟨v, vs, rfl, k1 m s ρ σ H p v _ R S r1 ?_⟩
    have h' : (match (match g p ρ s with | some (ρ1, s1) => gs ps ρ1 s1 | none => none : Option (Rho × Sto)) with | some (ρ1, s1) => ∀ m' H' σ', Ext m H m' H' → Rel X.K cv m' s1 H' → RS X.K m' H' ρ1 σ' → Q σ' H' | none => False) := h
    cases e : g p ρ s with
    | none => rw [e] at h'; exact h'.elim
    | some q =>
      obtain ⟨ρ1, s1⟩ := q
      rw [e] at h'
      intro m1 H1 σ1 e1 R1 S1
      refine k2 m1 s1 ρ1 σ1 H1 ps vs Q R1 S1 (r2.mono e1) ?_
      cases e2 : gs ps ρ1 s1 with
      | none => simp only [e2] at h'
      | some q =>
        obtain ⟨ρ2, s2⟩ := q
        simp only [e2] at h'
        exact fun m' H' σ' e' R' S' => h' m' H' σ' (e1.trans e') R' S'
theorem pg2_tup {es : List Expr} {k : Nat} {gs : GFs} {n : Nat} (hc : X.calm = true) (h : PGs2 X cv es gs) (hn : (assignEach es X.env).length = n := by rfl) (hst : (assignEach es X.env).findIdx? (·.1) = none := by rfl)
    (hl : ∀ ps ρ s, gs ps ρ s ≠ none → ps.length = n) : PG2 X cv (.Tuple es k pos) (G.tup gs) := by
  obtain ⟨t, p, kk⟩ := h.pg
  refine ⟨_, pg_tup hc p hn hst, fun m s ρ σ H p v Q R S r h => ?_⟩
  cases r with
  | @tup ps a xs ha ra =>
    refine ⟨a, xs, rfl, ha.sq, ?_, kk m s ρ σ H ps xs Q R S ra h⟩
    rw [← ra.length]
    refine hl ps ρ s fun z => ?_
    have h' : (match gs ps ρ s with | some (ρ1, s1) => ∀ m' H' σ', Ext m H m' H' → Rel X.K cv m' s1 H' → RS X.K m' H' ρ1 σ' → Q σ' H' | none => False) := h
    rw [z] at h'
    exact h'
  | _ => exact h.elim
theorem gl_nil : ∀ ps ρ s, G.nil ps ρ s ≠ none → ps.length = 0 := fun ps ρ s h => by cases ps <;> simp_all [G.nil]
theorem gl_cons {g : GF} {gs : GFs} {n : Nat} (h : ∀ ps ρ s, gs ps ρ s ≠ none → ps.length = n) : ∀ ps ρ s, G.cons g gs ps ρ s ≠ none → ps.length = n + 1 := fun ps ρ s z => by
  cases ps with
  | nil => exact absurd rfl z
  | cons p ps =>
    have z' : (match g p ρ s with | some (ρ1, s1) => gs ps ρ1 s1 | none => none : Option (Rho × Sto)) ≠ none := z
    cases e : g p ρ s with
    | none => rw [e] at z'; exact absurd rfl z'
    | some q =>
      obtain ⟨ρ1, s1⟩ := q
      rw [e] at z'
      exact congrArg (· + 1) (h ps ρ1 s1 z')
theorem ps2_asgG {tg : Expr} {g : GF} (he : PE2 X cv W a fa) (hg : PG2 X cv tg g) (hs : swapsWithSole [tg] a pos.line X.env = pure false := by rfl) (hw : swappedStores [tg] a X.env = pure none := by rfl)
    (h1 : (assignEach [tg] X.env).map (·.2) = [assign tg X.env] := by rfl) : PS2 X cv W (.Assign [tg] a pos) (Z.asgG g fa) := by
  obtain ⟨t, p, k⟩ := hg.pg
  refine ⟨(ps_asg he.pe p hs hw h1).monoY fun D σ H ⟨m, s, ρ, R, S, h⟩ => ⟨m, s, ρ, R, S, spost_E S h fun p s1 m1 H1 v e1 R1 r1 S1 h1 => k m1 s1 ρ σ H1 p v _ R1 S1 r1 ?_⟩⟩
  cases e : g p ρ s1 with
  | none => simp only [e] at h1; exact h1
  | some q =>
    obtain ⟨ρ1, s2⟩ := q
    simp only [e] at h1
    exact h1
end
end Y

set_option Elab.async false
set_option linter.all false
set_option maxRecDepth 100000
set_option maxHeartbeats 4000000
namespace Y
open PySem PySem.Spec PyProof.Rows L2

section
variable {K : PySem.W.Frag} {cv : String → Addr} {W : WX} {D D1 : Ends} {σ : L2.St} {H : Hp} {m : List Addr} {ρ : Rho}
theorem spost_Eq {r : ER PV} {k : PV → Sto → SR} {Q1 : VK} (S : RS K m H ρ σ) (h : SPost K cv m H W D (r.thenS ρ k))
    (n : ∀ p s' m' H' v, r = .ok p s' → Ext m H m' H' → Rel K cv m' s' H' → RepV K m' H' p v → RS K m' H' ρ σ → SPost K cv m' H' W D (k p s') → Q1 v H') : EPost K cv m H (fun c H' => W c none σ H') Q1 r :=
  thenS_bind S h (Q := fun r' => r = r' → EPost K cv m H (fun c H' => W c none σ H') Q1 r') (fun a s e h1 z => by rw [e]; exact fun m' H' v e' R r => n a s m' H' v e e' R r (S.mono e') (SPost.ext e' h1)) (fun c s e h2 z => by rw [e]; exact h2) rfl
end
section
variable {X : Cx} {cv : String → Addr} {W : WX} {a b c o : Expr} {fa fb fc fo : EF} {pos pos' tpos : Pos} {st : Stmt} {rest body orelse : List Stmt} {f g : SF} {t : TF}
/-! stores -/
def AugOp (X : Cx) (cv : String → Addr) (op : Operator) (g : PV → PV → Sto → OR) : Prop := ∃ r, PIp X op r ∧ Op2 X.K cv r g
theorem ps2_aug {i : Nat} {x : Str} {op : Operator} {g : PV → PV → Sto → OR} (hg : AugOp X cv op g) (hN : X.N.Nodup) (hi : X.N[i]? = some x) (hx : Loc X.env.scope x) (he : PE2 X cv W a fa)
    (hf : X.fn x = true ∨ X.env.scope.names.lookup x = some .local := by first | exact .inl rfl | exact .inr rfl | assumption) : PS2 X cv W (.AugAssign (.Name x pos') op a pos) (Z.aug g i fa) := by
  obtain ⟨r, hr, hg⟩ := hg
  refine ⟨(ps_aug hN hi hx he.pe hr hf).monoY fun D σ H ⟨m, s, ρ, R, S, h⟩ => ?_⟩
  have h' : SPost X.K cv m H W D ((E.var i ρ s).thenS ρ fun x s1 => (fa ρ s1).thenS ρ fun y s2 => match g x y s2 with | some (v, s3) => .nx (ρ.set i (some v)) s3 | none => .bad) := h
  cases e : ρ[i]? with
  | none => rw [show E.var i ρ s = .bad by simp [E.var, e]] at h'; exact h'.elim
  | some q =>
    cases q with
    | none => rw [show E.var i ρ s = .bad by simp [E.var, e]] at h'; exact h'.elim
    | some p =>
      rw [show E.var i ρ s = .ok p s by simp [E.var, e]] at h'
      obtain ⟨v, h1, h2⟩ := S.2 i p e
      refine ⟨v, h1, m, s, ρ, R, S, spost_E S h' fun py s1 m1 H1 y e1 R1 r1 S1 h1 => ?_⟩
      refine hg m1 s1 H1 p py v y _ R1 (h2.mono e1) r1 ?_
      cases e2 : g p py s1 with
      | none => simp only [e2] at h1; exact h1
      | some q =>
        obtain ⟨z, s3⟩ := q
        simp only [e2] at h1
        intro m' H' w e' R' r'
        exact h1 m' H' _ e' R' ((S1.mono e').set r' i)
theorem pip_add : AugOp X cv .Add (fun x y s => match x, y with | .int a, .int b => some (.int (a + b), s) | _, _ => none) := ⟨_, ip_add, fun m st H px py x y Q R rx ry q => by
  cases rx with
  | int a => cases ry with
    | int b => exact ⟨a, b, rfl, rfl, OPost.pure R (.int _) q⟩
    | _ => exact q.elim
  | _ => exact q.elim⟩
theorem pip_sub : AugOp X cv .Sub (fun x y s => match x, y with | .int a, .int b => some (.int (a - b), s) | _, _ => none) := ⟨_, ip_sub, fun m st H px py x y Q R rx ry q => by
  cases rx with
  | int a => cases ry with
    | int b => exact ⟨a, b, rfl, rfl, OPost.pure R (.int _) q⟩
    | _ => exact q.elim
  | _ => exact q.elim⟩

/-! fields -/
theorem cpsInj {a b : String} (h : Str.ofString a = Str.ofString b) : a = b := by
  rw [ofS, ofS] at h
  have h1 : (S a).toArray = (S b).toArray := congrArg Str.cps h
  have h2 : S a = S b := by simpa using h1
  unfold S at h2
  have h3 : a.toList = b.toList := by
    have inj : ∀ l k : List Char, l.map Char.toNat = k.map Char.toNat → l = k := by
      intro l
      induction l with
      | nil => intro k h; cases k <;> simp_all
      | cons x l ih =>
        intro k h
        cases k with
        | nil => simp at h
        | cons y k =>
          simp only [List.map_cons, List.cons.injEq] at h
          obtain ⟨e1, e2⟩ := h
          have e3 : x = y := Char.ext (UInt32.toNat_inj.mp e1)
          rw [e3, ih k e2]
    exact inj _ _ h2
  exact String.toList_inj.mp h3
theorem fs_look {K : PySem.W.Frag} {m : List Addr} {H : Hp} (f : String) : ∀ {fs : List (String × PV)} {ks : List (Str × V)}, ks.map (·.1) = fs.map (fun f => Str.ofString f.1) → RepL K m H (fs.map (·.2)) (ks.map (·.2)) →
    (fs.lookup f = none ∧ ks.lookup (Str.ofString f) = none) ∨ ∃ p v, fs.lookup f = some p ∧ ks.lookup (Str.ofString f) = some v ∧ RepV K m H p v
  | [], [], _, _ => .inl ⟨rfl, rfl⟩
  | [], _ :: _, h, _ => by simp at h
  | _ :: _, [], h, _ => by simp at h
  | (x, p) :: fs, (y, v) :: ks, h, r => by
    simp only [List.map_cons, List.cons.injEq] at h
    obtain ⟨h1, h2⟩ := h
    subst h1
    cases r with
    | cons r1 r2 =>
      by_cases e : f = x
      · subst e
        exact .inr ⟨p, v, by simp, by simp, r1⟩
      · have e1 : (f == x) = false := by simpa using e
        have e2 : (Str.ofString f == Str.ofString x) = false := by
          simp only [beq_eq_false_iff_ne, ne_eq]
          exact fun z => e (cpsInj z)
        simp only [List.lookup, e1, e2]
        exact fs_look f h2 r2
theorem fs_put {K : PySem.W.Frag} {m : List Addr} {H : Hp} (f : String) {p : PV} {v : V} (rv : RepV K m H p v) : ∀ {fs : List (String × PV)} {ks : List (Str × V)}, ks.map (·.1) = fs.map (fun f => Str.ofString f.1) → RepL K m H (fs.map (·.2)) (ks.map (·.2)) →
    (putF (Str.ofString f) v ks).map (·.1) = (Z.putS f p fs).map (fun f => Str.ofString f.1) ∧ RepL K m H ((Z.putS f p fs).map (·.2)) ((putF (Str.ofString f) v ks).map (·.2))
  | [], [], _, _ => ⟨rfl, .cons rv .nil⟩
  | [], _ :: _, h, _ => by simp at h
  | _ :: _, [], h, _ => by simp at h
  | (x, q) :: fs, (y, w) :: ks, h, r => by
    simp only [List.map_cons, List.cons.injEq] at h
    obtain ⟨h1, h2⟩ := h
    subst h1
    cases r with
    | cons r1 r2 =>
      by_cases e : x = f
      · subst e
        simp only [putF, Z.putS, if_true]
        exact ⟨by simp [h2], .cons rv r2⟩
      · have e2 : ¬ Str.ofString x = Str.ofString f := fun z => e (cpsInj z)
        simp only [putF, Z.putS, if_neg e, if_neg e2]
        obtain ⟨i1, i2⟩ := fs_put f rv h2 r2
        exact ⟨by simp [i1], .cons r1 i2⟩
/-- o.f, an attribute of an instance of the class C -/
theorem pe2_fld {C f : String} (hc : Cls X.K (cv C)) (hn : NoAttr X.K (cv C) (Str.ofString f)) (ho : PE2 X cv W o fo) (hb : attributeBase o (Str.ofString f) X.env (eval o X.env) = eval o X.env := by rfl) : PE2 X cv W (.Attribute o (Str.ofString f) pos) (E.fld C f fo) :=
  ⟨(pe_fld ho.pe hb).monoY fun σ H Q ⟨m, s, ρ, R, S, h⟩ => ⟨m, s, ρ, R, S, epost_bind h fun px s1 m1 H1 x e1 R1 r1 h1 => by
    cases r1 with
    | @ref n a' hn' =>
      have h2 : EPost X.K cv m1 H1 (fun c H' => W c none σ H') Q (match s1[n]? with
        | some (.ins D fs) => if D = C then (match fs.lookup f with | some v => .ok v s1 | none => .bad) else .bad
        | _ => .bad) := h1
      split at h2
      · rename_i D fs e
        split at h2
        · rename_i eD
          subst eD
          obtain ⟨dx, ks, q1, q2, q3⟩ := (R1.obj n a' _ hn' e : RepO X.K cv m1 H1 a' (.ins D fs))
          rcases fs_look f q2 q3 with ⟨z1, z2⟩ | ⟨p, v, z1, z2, z3⟩
          · rw [z1] at h2; exact h2.elim
          · rw [z1] at h2
            exact ⟨a', _, dx, ks, v, rfl, q1, hc, hn, z2, h2 m1 H1 v (.refl _ _) R1 z3⟩
        · exact h2.elim
      · exact h2.elim
    | _ => exact h1.elim⟩⟩
theorem ps2_fld {C f : String} (hc : Cls X.K (cv C)) (hn : NoAttr X.K (cv C) (Str.ofString f)) (ho : PE2 X cv W o fo) (hv : PE2 X cv W a fa) (hs : swapsWith a (some (.Attribute o (Str.ofString f) pos')) pos.line X.env = pure false := by rfl) :
    PS2 X cv W (.Assign [.Attribute o (Str.ofString f) pos'] a pos) (Z.fld C f fo fa) := ⟨(ps_fld ho.pe hv.pe hs).monoY fun D σ H ⟨m, s, ρ, R, S, h⟩ => ⟨m, s, ρ, R, S, spost_E S h fun pv s1 m1 H1 y e1 R1 r1 S1 h1 =>
    ⟨m1, s1, ρ, R1, S1, spost_E S1 h1 fun px s2 m2 H2 x e2 R2 r2 S2 h2 => by
      cases r2 with
      | @ref n a' hn' =>
        have h3 : SPost X.K cv m2 H2 W D (match s2[n]? with
          | some (.ins D fs) => if D = C ∧ fs.length < 1000 then .nx ρ (s2.set n (.ins D (Z.putS f pv fs))) else .bad
          | _ => .bad) := h2
        split at h3
        · rename_i E fs e
          split at h3
          · rename_i eD
            obtain ⟨eD, hl⟩ := eD
            subst eD
            obtain ⟨dx, ks, q1, q2, q3⟩ := (R2.obj n a' _ hn' e : RepO X.K cv m2 H2 a' (.ins E fs))
            have hl2 : ks.length < 1000 := by
              have : (ks.map (·.1)).length = (fs.map (fun f => Str.ofString f.1)).length := by rw [q2]
              simp at this; omega
            refine ⟨a', _, dx, ks, rfl, q1, hc, hn, hl2, ?_⟩
            obtain ⟨i1, i2⟩ := fs_put f (r1.mono e2) q2 q3
            have ew : Ext m2 H2 m2 (upd H2 a' (.ins (cv E) dx (putF (Str.ofString f) y ks))) := .write q1 (fun _ z => by cases z)
            exact h3 m2 _ σ ew (R2.write hn' ⟨dx, _, upd_same, i1, i2.mono ew⟩) (S2.mono ew)
          · exact h3.elim
        · exact h3.elim
      | _ => exact h2.elim⟩⟩⟩
/-- xs[i] = e -/
theorem ps2_lset (hv : PE2 X cv W a fa) (ho : PE2 X cv W o fo) (hi : PE2 X cv W b fb)
    (ha : ∀ v, assign (.Subscript o b pos') X.env v = (do
      let ov ← holding [v] (eval o X.env)
      let iv ← holding [v, ov] (eval b X.env)
      standAt pos'
      holding [v, ov, iv] (setItem ov iv v)
      release [v, ov, iv] []) := by intro _; rfl)
    (hs : swapsWithSole [.Subscript o b pos'] a pos.line X.env = pure false := by rfl) (hw : swappedStores [.Subscript o b pos'] a X.env = pure none := by rfl)
    (h1 : (assignEach [.Subscript o b pos'] X.env).map (·.2) = [assign (.Subscript o b pos') X.env] := by rfl) : PS2 X cv W (.Assign [.Subscript o b pos'] a pos) (Z.lset fo fb fa) :=
  ⟨(ps_asg hv.pe (pg_sub ho.pe hi.pe set_list ha) hs hw h1).monoY fun D σ H ⟨m, s, ρ, R, S, h⟩ => ⟨m, s, ρ, R, S, spost_E S h fun pv s1 m1 H1 y e1 R1 r1 S1 h1 =>
    ⟨m1, s1, ρ, R1, S1, spost_E S1 h1 fun px s2 m2 H2 x e2 R2 r2 S2 h2 => ⟨m2, s2, ρ, R2, S2, spost_E S2 h2 fun pk s3 m3 H3 k e3 R3 r3 S3 h3 => by
      cases r3 with
      | int k =>
        cases r2 with
        | @ref n a' hn' =>
          have h4 : SPost X.K cv m3 H3 W D (match s3[n]? with
            | some (.lst ps) => (match ixN ps.length k with | some j => .nx ρ (s3.set n (.lst (ps.set j pv))) | none => .bad)
            | _ => .bad) := h3
          split at h4
          · rename_i ps e
            obtain ⟨vs, q1, q2⟩ := R3.lst (e3.at hn') e
            split at h4
            · rename_i j ej
              refine ⟨a', vs, k, j, rfl, rfl, q1, by rw [← q2.length]; exact ej, ?_⟩
              have ew : Ext m3 H3 m3 (upd H3 a' (.lst (vs.set j y))) := .write q1 (fun _ z => by cases z)
              exact h4 m3 _ σ ew (R3.write (e3.at hn') ⟨_, upd_same, (RepL.set (r1.mono (e2.trans e3)) j q2).mono ew⟩) (S3.mono ew)
            · exact h4.elim
          · exact h4.elim
        | _ => exact h3.elim
      | _ => cases r2 <;> exact h3.elim⟩⟩⟩⟩
theorem ps2_dset (hu : X.A.units + 1 < cLine) (hv : PE2 X cv W a fa) (ho : PE2 X cv W o fo) (hi : PE2 X cv W b fb) (hs : swapsWith a (some (.Subscript o b pos')) pos.line X.env = pure false := by rfl) : PS2 X cv W (.Assign [.Subscript o b pos'] a pos) (Z.dset fo fb fa) :=
  ⟨(ps_dput hu ho.pe hi.pe hv.pe hs).monoY fun D σ H ⟨m, s, ρ, R, S, h⟩ => ⟨m, s, ρ, R, S, spost_E S h fun pv s1 m1 H1 y e1 R1 r1 S1 h1 =>
    ⟨m1, s1, ρ, R1, S1, spost_E S1 h1 fun px s2 m2 H2 x e2 R2 r2 S2 h2 => ⟨m2, s2, ρ, R2, S2, spost_E S2 h2 fun pk s3 m3 H3 k e3 R3 r3 S3 h3 => by
      cases r2 with
      | @ref n a' hn' =>
        cases ek : O.dk pk with
        | none => simp only [ek] at h3; exact h3.elim
        | some dk =>
          simp only [ek] at h3
          have h4 : SPost X.K cv m3 H3 W D (match s3[n]? with
            | some (.dct kvs) => if kvs.length < sizeLine then .nx ρ (s3.set n (.dct (O.dput kvs dk pv))) else .bad
            | _ => .bad) := h3
          split at h4
          · rename_i kvs e
            obtain ⟨ks, q1, q2, q3⟩ := R3.dct (e3.at hn') e
            split at h4
            · rename_i hl
              have hl2 : ks.length < sizeLine := by
                have : (ks.map (·.1)).length = (kvs.map (·.1.key)).length := by rw [q2]
                simp at this; omega
              obtain ⟨i1, i2⟩ := put_rep dk q2 q3 (r1.mono (e2.trans e3))
              have ew : Ext m3 H3 m3 (upd H3 a' (.dK (putK ks dk.key y))) := .write q1 (fun _ z => by cases z)
              refine ⟨a', _, rfl, by rw [dk_rep r3 ek]; exact DPut.k q1 hl2, h4 m3 _ σ ew (R3.write (e3.at hn') ⟨_, upd_same, i1, i2.mono ew⟩) (S3.mono ew)⟩
            · exact h4.elim
          · exact h4.elim
      | _ => exact h3.elim⟩⟩⟩⟩
theorem ps2_ddel (ho : PE2 X cv W o fo) (hi : PE2 X cv W b fb) : PS2 X cv W (.Delete [.Subscript o b tpos] pos) (Z.ddel fo fb) :=
  ⟨(ps_ddel ho.pe hi.pe).monoY fun D σ H ⟨m, s, ρ, R, S, h⟩ => ⟨m, s, ρ, R, S, spost_E S h fun px s2 m2 H2 x e2 R2 r2 S2 h2 => ⟨m2, s2, ρ, R2, S2, spost_E S2 h2 fun pk s3 m3 H3 k e3 R3 r3 S3 h3 => by
      cases r2 with
      | @ref n a' hn' =>
        cases ek : O.dk pk with
        | none => simp only [ek] at h3; exact h3.elim
        | some dk =>
          simp only [ek] at h3
          have h4 : SPost X.K cv m3 H3 W D (match s3[n]? with
            | some (.dct kvs) => if (O.look kvs dk).isSome then .nx ρ (s3.set n (.dct (O.ddrop kvs dk))) else .bad
            | _ => .bad) := h3
          split at h4
          · rename_i kvs e
            obtain ⟨ks, q1, q2, q3⟩ := R3.dct (e3.at hn') e
            split at h4
            · rename_i hl
              obtain ⟨i1, i2⟩ := drop_rep dk q2 q3
              have ew : Ext m3 H3 m3 (upd H3 a' (.dK (dropK ks dk.key))) := .write q1 (fun _ z => by cases z)
              refine ⟨a', ks, dk.key, rfl, q1, dk_rep r3 ek, ?_, h4 m3 _ σ ew (R3.write (e3.at hn') ⟨_, upd_same, i1, i2.mono ew⟩) (S3.mono ew)⟩
              rcases look_rep dk q2 q3 with ⟨z1, z2⟩ | ⟨p, v, z1, z2, z3⟩
              · rw [z1] at hl; cases hl
              · rw [z2]; rfl
            · exact h4.elim
          · exact h4.elim
      | _ => exact h3.elim⟩⟩⟩

/-! ### loops -/
theorem turn_post {K : PySem.W.Frag} {m : List Addr} {H : Hp} {D : Ends} {r : SR} {k : Rho → Sto → SR} (h : SPost K cv m H W D (r.turn k)) {N : L2.St → Hp → Prop} (n : ∀ ρ s m' H' σ', Ext m H m' H' → Rel K cv m' s H' → RS K m' H' ρ σ' → SPost K cv m' H' W D (k ρ s) → N σ' H') :
    SPost K cv m H W { D with nx := N, ct := N, bk := D.nx } r := by
  cases r with
  | nx ρ s => exact fun m' H' σ' e R S => n ρ s m' H' σ' e R S (SPost.ext e h)
  | ct ρ s => exact fun m' H' σ' e R S => n ρ s m' H' σ' e R S (SPost.ext e h)
  | bk ρ s => exact h
  | rt v s => exact h
  | ex c ρ s => exact h
  | bad => exact h
theorem targ_post {K : PySem.W.Frag} {m : List Addr} {H : Hp} {D : Ends} {gt : GF} {b : SF} {k : Rho → Sto → SR} {p : PV} {ρ : Rho} {s : Sto} (h : SPost K cv m H W D (match gt p ρ s with | some (ρ1, s1) => (b ρ1 s1).turn k | none => .bad)) {Q : L2.St → Hp → Prop}
    (n : ∀ ρ1 s1 m' H' σ', Ext m H m' H' → Rel K cv m' s1 H' → RS K m' H' ρ1 σ' → SPost K cv m' H' W D ((b ρ1 s1).turn k) → Q σ' H') :
    match gt p ρ s with | some (ρ1, s1) => ∀ m' H' σ', Ext m H m' H' → Rel K cv m' s1 H' → RS K m' H' ρ1 σ' → Q σ' H' | none => False := by
  cases e : gt p ρ s with
  | none => simp only [e] at h; exact h
  | some q =>
    obtain ⟨ρ1, s1⟩ := q
    simp only [e] at h
    exact fun m' H' σ' e' R S => n ρ1 s1 m' H' σ' e' R S (SPost.ext e' h)
/-- a loop over fixed items, by an iterator J that yields them -/
theorem forP_loop {K : PySem.W.Frag} {J : It} {tg : TG} {gt : GF} {tb : TS} {D : Ends} {ps : List PV} {m0 : List Addr} {H0 : Hp} {σ0 : L2.St} {ρ0 : Rho} {s0 : Sto} (hb : ∀ D σ H, T2S K cv W f D σ H → tb D σ H)
    (hg : ∀ m s ρ σ H p v (Q : L2.St → Hp → Prop), Rel K cv m s H → RS K m H ρ σ → RepV K m H p v →
      (match gt p ρ s with | some (ρ1, s1) => ∀ m' H' σ', Ext m H m' H' → Rel K cv m' s1 H' → RS K m' H' ρ1 σ' → Q σ' H' | none => False) → tg v σ H Q)
    (hstop : ∀ m H, Ext m0 H0 m H → J.stop ps.length H) (hgo : ∀ i p m H, ps[i]? = some p → Ext m0 H0 m H → J.go i H)
    (hy : ∀ i p m H x H', ps[i]? = some p → Ext m0 H0 m H → J.yld i H x H' → (∃ m', Ext m H m' H' ∧ (∀ s, Rel K cv m s H → Rel K cv m' s H') ∧ RepV K m' H' p x))
    (R : Rel K cv m0 s0 H0) (S : RS K m0 H0 ρ0 σ0) (h : SPost K cv m0 H0 W D (Z.forP gt f ps ρ0 s0)) :
    ∃ W' : Nat → Nat → L2.St → Hp → Prop, (∃ n, W' 0 n σ0 H0) ∧ ∀ i n σ H, W' i n σ H →
      (J.stop i H ∧ D.nx σ H) ∨ (J.go i H ∧ ∃ N : L2.St → Hp → Prop, (∀ σ' H', N σ' H' → ∃ m', m' < n ∧ W' (i + 1) m' σ' H') ∧ ∀ x H', J.yld i H x H' → tg x σ H' fun σ2 H2 => tb { D with nx := N, ct := N, bk := D.nx } σ2 H2) := by
  refine ⟨fun i n σ H => n = ps.length - i ∧ i ≤ ps.length ∧ ∃ m s ρ, Ext m0 H0 m H ∧ Rel K cv m s H ∧ RS K m H ρ σ ∧ SPost K cv m H W D (Z.forP gt f (ps.drop i) ρ s), ⟨ps.length, by simp, Nat.zero_le _, m0, s0, ρ0, .refl _ _, R, S, by simpa using h⟩, ?_⟩
  rintro i n σ H ⟨rfl, hi, m, s, ρ, e, R, S, h⟩
  by_cases hl : i < ps.length
  · have hp : ps[i]? = some ps[i] := List.getElem?_eq_getElem hl
    rw [List.drop_eq_getElem_cons hl] at h
    refine .inr ⟨hgo i _ m H hp e, fun σ' H' => ∃ m s ρ, Ext m0 H0 m H' ∧ Rel K cv m s H' ∧ RS K m H' ρ σ' ∧ SPost K cv m H' W D (Z.forP gt f (ps.drop (i + 1)) ρ s), fun σ' H' ⟨m', s', ρ', e', R', S', h'⟩ => ⟨ps.length - (i + 1), by omega, rfl, hl, m', s', ρ', e', R', S', h'⟩, fun x H' y => ?_⟩
    obtain ⟨m1, e1, R1, r1⟩ := hy i _ m H x H' hp e y
    refine hg m1 s ρ σ H' ps[i] x _ (R1 s R) (S.mono e1) r1 (targ_post (SPost.ext e1 h) fun ρ2 s2 m2 H2 σ2 e2 R2 S2 h2 => ?_)
    exact hb _ _ _ ⟨m2, s2, ρ2, R2, S2, turn_post h2 fun ρ3 s3 m3 H3 σ3 e3 R3 S3 h3 => ⟨m3, s3, ρ3, ((e.trans e1).trans e2).trans e3, R3, S3, h3⟩⟩
  · have ei : i = ps.length := by omega
    subst ei
    rw [List.drop_length] at h
    exact .inl ⟨hstop m H e, SPost.nx R S h⟩
theorem forL_loop {K : PySem.W.Frag} {tg : TG} {gt : GF} {tb : TS} {D : Ends} {n0 F0 : Nat} {a0 : Addr} {m0 : List Addr} {H0 : Hp} {σ0 : L2.St} {ρ0 : Rho} {s0 : Sto} (hb : ∀ D σ H, T2S K cv W f D σ H → tb D σ H)
    (hg : ∀ m s ρ σ H p v (Q : L2.St → Hp → Prop), Rel K cv m s H → RS K m H ρ σ → RepV K m H p v →
      (match gt p ρ s with | some (ρ1, s1) => ∀ m' H' σ', Ext m H m' H' → Rel K cv m' s1 H' → RS K m' H' ρ1 σ' → Q σ' H' | none => False) → tg v σ H Q)
    (ha : m0[n0]? = some a0) (R : Rel K cv m0 s0 H0) (S : RS K m0 H0 ρ0 σ0) (h : SPost K cv m0 H0 W D (Z.forL gt f n0 F0 0 ρ0 s0)) :
    ∃ W' : Nat → Nat → L2.St → Hp → Prop, (∃ n, W' 0 n σ0 H0) ∧ ∀ i n σ H, W' i n σ H →
      ((Itl K a0).stop i H ∧ D.nx σ H) ∨ ((Itl K a0).go i H ∧ ∃ N : L2.St → Hp → Prop, (∀ σ' H', N σ' H' → ∃ m', m' < n ∧ W' (i + 1) m' σ' H') ∧ ∀ x H', (Itl K a0).yld i H x H' → tg x σ H' fun σ2 H2 => tb { D with nx := N, ct := N, bk := D.nx } σ2 H2) := by
  refine ⟨fun i n σ H => ∃ m s ρ, Ext m0 H0 m H ∧ Rel K cv m s H ∧ RS K m H ρ σ ∧ SPost K cv m H W D (Z.forL gt f n0 n i ρ s), ⟨F0, m0, s0, ρ0, .refl _ _, R, S, h⟩, ?_⟩
  rintro i n σ H ⟨m, s, ρ, e, R, S, h⟩
  have its : ∀ ps, Z.items n0 s = some ps → ∃ vs, SqL K H a0 vs ∧ RepL K m H ps vs := fun ps q => by
    unfold Z.items at q
    split at q
    · rename_i ps' eq
      cases q
      obtain ⟨vs, q1, q2⟩ := R.lst (e.at ha) eq
      exact ⟨vs, SqL.of q1, q2⟩
    · rename_i ps' eq
      cases q
      exact R.frz (e.at ha) eq
    · cases q
  cases n with
  | zero =>
    rw [Z.forL] at h
    cases q : Z.items n0 s with
    | none => simp only [q] at h; exact h.elim
    | some ps =>
      simp only [q] at h
      obtain ⟨vs, q1, q2⟩ := its ps q
      cases e3 : ps[i]? with
      | none =>
        simp only [e3] at h
        exact .inl ⟨⟨vs, q1, by rw [← q2.length]; exact List.getElem?_eq_none_iff.mp e3⟩, SPost.nx R S h⟩
      | some p => simp only [e3] at h; exact h.elim
  | succ n =>
    rw [Z.forL] at h
    cases q : Z.items n0 s with
    | none => simp only [q] at h; exact h.elim
    | some ps =>
      simp only [q] at h
      obtain ⟨vs, q1, q2⟩ := its ps q
      cases e3 : ps[i]? with
      | none =>
        simp only [e3] at h
        exact .inl ⟨⟨vs, q1, by rw [← q2.length]; exact List.getElem?_eq_none_iff.mp e3⟩, SPost.nx R S h⟩
      | some p =>
        simp only [e3] at h
        obtain ⟨v, hv, rv⟩ := q2.get e3
        refine .inr ⟨⟨vs, v, q1, hv⟩, fun σ' H' => ∃ m s ρ, Ext m0 H0 m H' ∧ Rel K cv m s H' ∧ RS K m H' ρ σ' ∧ SPost K cv m H' W D (Z.forL gt f n0 n (i + 1) ρ s), fun σ' H' ⟨m', s', ρ', e', R', S', h'⟩ => ⟨n, Nat.lt_succ_self _, m', s', ρ', e', R', S', h'⟩, fun x H' y => ?_⟩
        obtain ⟨rfl, y⟩ := y
        have ex : v = x := Option.some.inj (hv.symm.trans (y vs q1))
        subst ex
        refine hg m s ρ σ _ p v _ R S rv (targ_post h fun ρ2 s2 m2 H2 σ2 e2 R2 S2 h2 => ?_)
        exact hb _ _ _ ⟨m2, s2, ρ2, R2, S2, turn_post h2 fun ρ3 s3 m3 H3 σ3 e3 R3 S3 h3 => ⟨m3, s3, ρ3, (e.trans e2).trans e3, R3, S3, h3⟩⟩
theorem _root_.L2.PI.orY {X : Cx} {tg iter : Expr} {w w' : TI} (h : PI X tg iter w) (h' : PI X tg iter w') : PI X tg iter (fun σ H R => w σ H R ∨ w' σ H R) := ⟨fun pins s σ H R I q => q.elim (h.run pins s σ H R I) (h'.run pins s σ H R I)⟩
variable {tg : Expr} {gt : GF}
/-- for x in a list or a tuple -/
theorem ps2_forV (hp : PassesOwn (model X.prog X.w) X.A X.env X.xe) (hc : X.calm = true) (hi : PE2 X cv W a fa) (hg : PG2 X cv tg gt) (hb : PSs2 X cv W body f)
    (hs : ∀ x, foldedSetIterable a X.env x = pure x := by intro _; rfl) : PS2 X cv W (.For tg a body [] pos) (Z.forV gt fa f) := by
  obtain ⟨t, pg, kg⟩ := hg.pg
  refine ⟨(ps_for hp hc (PI.orY (pi_list hi.pe) (pi_tup hi.pe)) pg hb.pss hs).monoY fun D σ H ⟨m, s, ρ, R, S, h⟩ => ?_⟩
  by_cases q : ∃ n s1, fa ρ s = .ok (.ref n) s1
  · refine .inl ⟨m, s, ρ, R, S, spost_Eq S h fun p s2 m1 H1 v eq e1 R1 r1 S1 h1 => ?_⟩
    obtain ⟨n, s1, e⟩ := q
    rw [e] at eq
    cases eq
    cases r1 with
    | @ref n' a' hn' =>
      have h2 : SPost X.K cv m1 H1 W D (match Z.items n s2 with | some ps => Z.forL gt f n ps.length 0 ρ s2 | none => .bad) := h1
      cases q : Z.items n s2 with
      | none => simp only [q] at h2; exact h2.elim
      | some ps =>
        simp only [q] at h2
        refine ⟨a', rfl, ?_, forL_loop (fun _ _ _ z => z) kg hn' R1 S1 h2⟩
        unfold Z.items at q
        split at q
        · rename_i ps' eq
          obtain ⟨vs, q1, q2⟩ := R1.lst hn' eq
          exact ⟨vs, SqL.of q1⟩
        · rename_i ps' eq
          obtain ⟨vs, q1, q2⟩ := R1.frz hn' eq
          exact ⟨vs, q1⟩
        · cases q
  · refine .inr ⟨m, s, ρ, R, S, spost_Eq S h fun p s2 m1 H1 v eq e1 R1 r1 S1 h1 => ?_⟩
    cases r1 with
    | @ref n' a' hn' => exact absurd ⟨n', s2, eq⟩ q
    | @tup ps a' xs ha ra =>
      have hx : ∀ m H, Ext m1 H1 m H → SqT X.K H a' xs := fun m H e => (ha.mono e).sq
      refine ⟨a', rfl, ⟨xs, ha.sq⟩, forP_loop (fun _ _ _ z => z) kg (fun m H e => ⟨xs, hx m H e, by rw [ra.length]; exact Nat.le_refl _⟩) (fun i p m H hp e => ?_) (fun i p m H x H' hp e y => ?_) R1 S1 h1⟩
      · obtain ⟨v, hv, _⟩ := ra.get hp
        exact ⟨xs, v, hx m H e, hv⟩
      · obtain ⟨v, hv, rv⟩ := ra.get hp
        obtain ⟨rfl, y⟩ := y
        have ex : v = x := Option.some.inj (hv.symm.trans (y xs (hx m _ e)))
        subst ex
        exact ⟨m, .refl _ _, fun s R => R, rv.mono e⟩
    | _ => exact h1.elim
/-- for c in a text -/
theorem ps2_forS (hp : PassesOwn (model X.prog X.w) X.A X.env X.xe) (hc : X.calm = true) (hi : PE2 X cv W a fa) (hg : PG2 X cv tg gt) (hb : PSs2 X cv W body f)
    (hs : ∀ x, foldedSetIterable a X.env x = pure x := by intro _; rfl) : PS2 X cv W (.For tg a body [] pos) (Z.forS gt fa f) := by
  obtain ⟨t, pg, kg⟩ := hg.pg
  refine ⟨(ps_for hp hc (pi_str hi.pe) pg hb.pss hs).monoY fun D σ H ⟨m, s, ρ, R, S, h⟩ => ⟨m, s, ρ, R, S, spost_E S h fun p s2 m1 H1 v e1 R1 r1 S1 h1 => ?_⟩⟩
  cases r1 with
  | str x =>
    have hsz : (⟨x.toArray⟩ : Str).cps.size = x.length := by simp
    refine ⟨_, rfl, forP_loop (ps := x.map fun c => PV.str [c]) (fun _ _ _ z => z) kg (fun m H e => ?_) (fun i p m H hp e => ?_) (fun i p m H x' H' hp e y => ?_) R1 S1 h1⟩
    · show (⟨x.toArray⟩ : Str).cps.size ≤ _
      simp
    · show i < (⟨x.toArray⟩ : Str).cps.size
      have := (List.getElem?_eq_some_iff.mp hp).1
      simpa using this
    · obtain ⟨rfl, c, hc, rfl⟩ := y
      have hc' : x[i]? = some c := by simpa using hc
      rw [List.getElem?_map, hc'] at hp
      cases hp
      exact ⟨m, .refl _ _, fun s R => R, .str [c]⟩
  | _ => exact h1.elim
theorem rng_get {lo : Int} {n i : Nat} {p : PV} (h : (Z.rng lo n)[i]? = some p) : i < n ∧ p = .int (lo + (i : Nat)) := by
  unfold Z.rng at h
  rw [List.getElem?_map] at h
  cases e : (List.range n)[i]? with
  | none => rw [e] at h; cases h
  | some j =>
    rw [e] at h
    obtain ⟨h1, h2⟩ := List.getElem?_eq_some_iff.mp e
    simp at h1 h2
    subst h2
    exact ⟨h1, (Option.some.inj h).symm⟩
theorem rng_loop {K : PySem.W.Frag} {tg : TG} {gt : GF} {tb : TS} {D : Ends} {lo : Int} {n : Nat} {m0 : List Addr} {H0 : Hp} {σ0 : L2.St} {ρ0 : Rho} {s0 : Sto} (hb : ∀ D σ H, T2S K cv W f D σ H → tb D σ H)
    (hg : ∀ m s ρ σ H p v (Q : L2.St → Hp → Prop), Rel K cv m s H → RS K m H ρ σ → RepV K m H p v →
      (match gt p ρ s with | some (ρ1, s1) => ∀ m' H' σ', Ext m H m' H' → Rel K cv m' s1 H' → RS K m' H' ρ1 σ' → Q σ' H' | none => False) → tg v σ H Q)
    (R : Rel K cv m0 s0 H0) (S : RS K m0 H0 ρ0 σ0) (h : SPost K cv m0 H0 W D (Z.forP gt f (Z.rng lo n) ρ0 s0)) :
    ∃ W' : Nat → Nat → L2.St → Hp → Prop, (∃ n, W' 0 n σ0 H0) ∧ ∀ i k σ H, W' i k σ H →
      ((Itr lo n).stop i H ∧ D.nx σ H) ∨ ((Itr lo n).go i H ∧ ∃ N : L2.St → Hp → Prop, (∀ σ' H', N σ' H' → ∃ m', m' < k ∧ W' (i + 1) m' σ' H') ∧ ∀ x H', (Itr lo n).yld i H x H' → tg x σ H' fun σ2 H2 => tb { D with nx := N, ct := N, bk := D.nx } σ2 H2) := by
  refine forP_loop hb hg (fun m H e => ?_) (fun i p m H hp e => (rng_get hp).1) (fun i p m H x H' hp e y => ?_) R S h
  · show n ≤ (Z.rng lo n).length
    simp [Z.rng]
  · obtain ⟨rfl, rfl⟩ := y
    rw [(rng_get hp).2]
    exact ⟨m, .refl _ _, fun s R => R, .int _⟩
theorem ps2_forR1 {p p2 : Pos} {far : AF} (hp : PassesOwn (model X.prog X.w) X.A X.env X.xe) (hc : X.calm = true) (hgl : Gl X "range") (hm : X.mg "range" = none) (hi : PA2 X cv W [a] far) (hg : PG2 X cv tg gt) (hb : PSs2 X cv W body f)
    (hs : starEach [a] X.env = [(false, eval a X.env)] := by rfl) (hs2 : ∀ x, foldedSetIterable (.Call (.Name "range" p) [a] [] p2) X.env x = pure x := by intro _; rfl) : PS2 X cv W (.For tg (.Call (.Name "range" p) [a] [] p2) body [] pos) (Z.forR1 gt far f) := by
  obtain ⟨t, pg, kg⟩ := hg.pg
  refine ⟨(ps_for hp hc (pi_range1 hgl hm hi.pa hs) pg hb.pss hs2).monoY fun D σ H ⟨m, s, ρ, R, S, h⟩ => ⟨m, s, ρ, R, S, spost_A S h fun p s2 m1 H1 vs e1 R1 r1 S1 h1 => ?_⟩⟩
  split at h1
  · rename_i j
    split at h1
    · rename_i hj
      cases r1 with
      | cons r2 r3 =>
        cases r2; cases r3
        exact ⟨j, rfl, hj.1, hj.2, rng_loop (fun _ _ _ z => z) kg R1 S1 h1⟩
    · exact h1.elim
  · exact h1.elim
theorem ps2_forR2 {p p2 : Pos} {far : AF} (hp : PassesOwn (model X.prog X.w) X.A X.env X.xe) (hc : X.calm = true) (hgl : Gl X "range") (hm : X.mg "range" = none) (hi : PA2 X cv W [a, b] far) (hg : PG2 X cv tg gt) (hb : PSs2 X cv W body f)
    (hs : starEach [a, b] X.env = [(false, eval a X.env), (false, eval b X.env)] := by rfl) (hs3 : starEach [b] X.env = [(false, eval b X.env)] := by rfl) (hs2 : ∀ x, foldedSetIterable (.Call (.Name "range" p) [a, b] [] p2) X.env x = pure x := by intro _; rfl) :
    PS2 X cv W (.For tg (.Call (.Name "range" p) [a, b] [] p2) body [] pos) (Z.forR2 gt far f) := by
  obtain ⟨t, pg, kg⟩ := hg.pg
  refine ⟨(ps_for hp hc (pi_range2 hgl hm hi.pa hs hs3) pg hb.pss hs2).monoY fun D σ H ⟨m, s, ρ, R, S, h⟩ => ⟨m, s, ρ, R, S, spost_A S h fun p s2 m1 H1 vs e1 R1 r1 S1 h1 => ?_⟩⟩
  split at h1
  · rename_i i j
    split at h1
    · rename_i hj
      cases r1 with
      | cons r2 r3 =>
        cases r3 with
        | cons r3 r4 =>
        cases r2; cases r3; cases r4
        exact ⟨i, j, rfl, hj, rng_loop (fun _ _ _ z => z) kg R1 S1 h1⟩
    · exact h1.elim
  · exact h1.elim
theorem ps2_while (hp : PassesOwn (model X.prog X.w) X.A X.env X.xe) (hc : PT2 X cv W c t) (hb : PSs2 X cv W body f) : PS2 X cv W (.While c body [] pos) (Z.while t f) :=
  ⟨(ps_while hp hc.pt hb.pss).monoY fun D σ H ⟨m, s, ρ, R, S, h⟩ => by
    refine ⟨fun n σ' H' => ∃ m' s' ρ', Rel X.K cv m' s' H' ∧ RS X.K m' H' ρ' σ' ∧ SPost X.K cv m' H' W D (Z.whileF t f n ρ' s'), ⟨100000, m, s, ρ, R, S, h⟩, ?_⟩
    rintro n σ' H' ⟨m', s', ρ', R', S', h'⟩
    cases n with
    | zero => exact h'.elim
    | succ n =>
      rw [Z.whileF] at h'
      refine ⟨m', s', ρ', R', S', spost_T S' h' fun b s1 m1 H1 e1 R1 S1 h1 => ?_⟩
      cases b with
      | true =>
        rw [if_pos rfl] at h1 ⊢
        refine ⟨fun σ' H' => ∃ m' s' ρ', Rel X.K cv m' s' H' ∧ RS X.K m' H' ρ' σ' ∧ SPost X.K cv m' H' W D (Z.whileF t f n ρ' s'), fun σ2 H2 ⟨m2, s2, ρ2, R2, S2, h2⟩ => ⟨n, Nat.lt_succ_self _, m2, s2, ρ2, R2, S2, h2⟩, ?_⟩
        exact ⟨m1, s1, ρ', R1, S1, turn_post h1 fun ρ3 s3 m3 H3 σ3 e3 R3 S3 h3 => ⟨m3, s3, ρ3, R3, S3, h3⟩⟩
      | false =>
        rw [if_neg Bool.false_ne_true] at h1 ⊢
        exact SPost.nx R1 S1 h1⟩
end
end Y

set_option Elab.async false
set_option linter.all false
set_option maxRecDepth 100000
set_option maxHeartbeats 4000000
namespace Y
open PySem PySem.Spec PyProof.Rows L2

/-! ### defs -/
def sp2 (K : PySem.W.Frag) (cv : String → Addr) (F : FF) : Sp := fun vs H Q E => ∃ m st pvs, Rel K cv m st H ∧ RepL K m H pvs vs ∧ EPost K cv m H (fun c H' => E c none H') Q (F pvs st)
/-- the module as it stands -/
structure Mo where
  P : Program
  w : World
  K : PySem.W.Frag
  mg : Str → Option Value
  base : Heap
  cv : String → Addr
/-- the def called x keeps F -/
structure Cal (M : Mo) (k : Nat) (x : Str) (F : FF) : Prop where
  ex : ∃ f fd ps, FnOk M.P M.w M.K M.mg M.base (L2N.CX M.P M.w) k f fd ps (sp2 M.K M.cv F) ∧ M.mg x = some (.ref f) ∧ PySem.W.keepIn M.K (.ref f) = true ∧ Binds M.K fd ps []
structure CalH (M : Mo) (k : Nat) (x : Str) (F : FF) : Prop where
  ex : ∃ f fd ps, L2H.FnH M.P M.w M.K M.mg M.base (L2N.CX M.P M.w) k f fd ps (sp2 M.K M.cv F) ∧ M.mg x = some (.ref f) ∧ PySem.W.keepIn M.K (.ref f) = true ∧ Binds M.K fd ps []
/-- the method m of the class C keeps F -/
structure Met (M : Mo) (k : Nat) (C m : String) (F : FF) : Prop where
  ex : ∃ f fd ps, FnOk M.P M.w M.K M.mg M.base (L2N.CX M.P M.w) k f fd ps (sp2 M.K M.cv F) ∧ Cls M.K (M.cv C) ∧ Meth M.K (M.cv C) (Str.ofString m) f ∧ Binds M.K fd ps []
/-- C(..) makes an instance by an __init__ that keeps F -/
structure Mak (M : Mo) (k : Nat) (x : Str) (C : String) (F : FF) : Prop where
  ex : ∃ f fd ps, FnOk M.P M.w M.K M.mg M.base (L2N.CX M.P M.w) k f fd ps (sp2 M.K M.cv F) ∧ M.mg x = some (.ref (M.cv C)) ∧ Mk M.K (M.cv C) f ∧ Binds M.K fd ps []
/-- the property p of the class C keeps F -/
structure Pro (M : Mo) (k : Nat) (C p : String) (F : FF) : Prop where
  ex : ∃ f fd ps q, FnOk M.P M.w M.K M.mg M.base (L2N.CX M.P M.w) k f fd ps (sp2 M.K M.cv F) ∧ Cls M.K (M.cv C) ∧ PropOf M.K (M.cv C) (Str.ofString p) q f ∧ Binds M.K fd ps []
theorem Cal.mono {M : Mo} {j k : Nat} {x : Str} {F : FF} (c : Cal M j x F) (h : j ≤ k) : Cal M k x F := let ⟨f, fd, ps, h1, h2, h3, h4⟩ := c.ex; ⟨f, fd, ps, h1.mono h, h2, h3, h4⟩
abbrev cxY (M : Mo) (N : List Str) (qual : Str) (scope : Scope) (f : Addr) (cd : Value) (A : Around) (outer : List Env) (s : Shared) (H : Hp) (E : XK) : Cx := cxOf (L2N.CX M.P M.w) M.P M.w M.K M.mg M.base N qual scope f cd A outer s H E
abbrev cxYH (M : Mo) (N : List Str) (qual : Str) (scope : Scope) (f : Addr) (cd : Value) (A : Around) (outer : List Env) (s : Shared) (H : Hp) (E : XK) (p : Addr × Obj) : Cx := L2H.cxH (L2N.CX M.P M.w) M.P M.w M.K M.mg M.base N qual scope f cd A outer s H E p
/-- what is wished of an exception in a def's body -/
abbrev wY (E : XK) : WX := fun c d _ H => E c d H
theorem run_start {K : PySem.W.Frag} {cv : String → Addr} {m : List Addr} {st : Sto} {H : Hp} {pvs : List PV} {vs : List V} {np n : Nat} {N : List Str} {b : SF} {Q : VK} {E : XK} (hN : N.length = n) (R : Rel K cv m st H) (r : RepL K m H pvs vs) (h : EPost K cv m H (fun c H' => E c none H') Q (Z.run np n b pvs st)) :
    T2S K cv (wY E) b { nx := fun _ H' => Q .non H', rt := Q } (L2.start N vs) H := by
  have h' : EPost K cv m H (fun c H' => E c none H') Q (if pvs.length = np then (match b (pvs.map some ++ List.replicate (n - np) none) st with
    | .nx _ s' => .ok .non s'
    | .rt v s' => .ok v s'
    | .ex c _ s' => .ex c s'
    | _ => .bad) else .bad) := h
  split at h'
  · rename_i hl
    have S : RS K m H (pvs.map some ++ List.replicate (n - np) none) (L2.start N vs) := by
      unfold L2.start
      rw [hN, ← r.length, hl]
      refine ⟨by simp [r.length], fun i p hp => ?_⟩
      by_cases hi : i < pvs.length
      · rw [List.getElem?_append_left (by simpa using hi), List.getElem?_map] at hp
        rw [List.getElem?_append_left (by simpa [← r.length] using hi), List.getElem?_map]
        cases e : pvs[i]? with
        | none => rw [e] at hp; cases hp
        | some q =>
          rw [e] at hp
          cases hp
          obtain ⟨v, h1, h2⟩ := r.get e
          exact ⟨v, by rw [h1]; rfl, h2⟩
      · rw [List.getElem?_append_right (by simpa using hi), List.getElem?_replicate] at hp
        split at hp <;> cases hp
    refine ⟨m, st, _, R, S, ?_⟩
    cases e : b (pvs.map some ++ List.replicate (n - np) none) st with
    | nx ρ s => rw [e] at h'; exact fun m' H' σ' e' R' S' => h' m' H' .non e' R' .non
    | rt v s => rw [e] at h'; exact h'
    | ex c ρ s => rw [e] at h'; exact fun m' H' σ' e' R' S' => h' m' H' e' R'
    | bk ρ s => rw [e] at h'; exact h'.elim
    | ct ρ s => rw [e] at h'; exact h'.elim
    | bad => rw [e] at h'; exact h'.elim
  · exact h'.elim
theorem sp2_len {K : PySem.W.Frag} {cv : String → Addr} {np n : Nat} {b : SF} {vs : List V} {H : Hp} {Q : VK} {E : XK} (h : sp2 K cv (Z.run np n b) vs H Q E) : vs.length = np := by
  obtain ⟨m, st, pvs, R, r, h⟩ := h
  rw [← r.length]
  by_cases e : pvs.length = np
  · exact e
  · rw [show Z.run np n b pvs st = .bad from if_neg e] at h
    exact h.elim
theorem passN {X : Cx} : Passes (L2N.CX X.prog X.w) X E0 := fun _ _ _ _ _ _ _ h => by
  obtain ⟨_, _, _, _, _, _, _, _, _, _, _, _, z⟩ := h
  exact z.elim
theorem takes0N {X : Cx} : L2N.Takes X (fun _ _ _ _ => False) := fun _ _ x => by
  obtain ⟨_, _, _, _, _, _, _, _, _, _, _, _, _, _, _, _, z⟩ := x
  exact z.elim
/-- THE RULE for a def -/
theorem fn2 {M : Mo} {x qual : Str} {st : Stmt} {f : Addr} {fd : FuncData} {N ps : List Str} {k np n : Nat} {b : SF} (F : L2.Fun M.K x qual st f fd) (S : FnScope N ps (defScope st)) (hp : ps.length = np) (hN : N.length = n)
    (hb : ∀ (cdv : Value) (A : Around) (outer : List Env) (s : Shared) (H : Hp) (E : XK), Room k (A.deeper (envOfC qual (defScope st) s.heap.objs.size f cdv)) → PSs2 (cxY M N qual (defScope st) f cdv A outer s H E) M.cv (wY E) (defBody st) b) :
    FnOk M.P M.w M.K M.mg M.base (L2N.CX M.P M.w) (k + 1) f fd ps (sp2 M.K M.cv (Z.run np n b)) := by
  obtain ⟨oc, od, kV, doc, pm, an, cdv, ct, osl, rfl, lk, hcd⟩ := F.ex
  refine fn_of lk hcd S (fun vs H Q E h => (sp2_len h).trans hp.symm) fun A outer s H vs Q E hr h => ?_
  obtain ⟨m, sto, pvs, R, r, h⟩ := h
  exact ⟨_, (hb cdv A outer s H E hr).pss, run_start hN R r h⟩
theorem fn2H {M : Mo} {x qual : Str} {st : Stmt} {f : Addr} {fd : FuncData} {N ps : List Str} {k np n : Nat} {b : SF} (F : L2.Fun M.K x qual st f fd) (S : FnScope N ps (defScope st)) (hp : ps.length = np) (hN : N.length = n)
    (hb : ∀ (cdv : Value) (A : Around) (outer : List Env) (s : Shared) (H : Hp) (E : XK) (p : Addr × Obj), L2H.Hot1 A p → L2H.RoomH k (A.deeper (envOfC qual (defScope st) s.heap.objs.size f cdv)) → PSs2 (cxYH M N qual (defScope st) f cdv A outer s H E p) M.cv (wY E) (defBody st) b) :
    L2H.FnH M.P M.w M.K M.mg M.base (L2N.CX M.P M.w) (k + 1) f fd ps (sp2 M.K M.cv (Z.run np n b)) := by
  obtain ⟨oc, od, kV, doc, pm, an, cdv, ct, osl, rfl, lk, hcd⟩ := F.ex
  refine L2H.fn_ofH lk hcd S (fun vs H Q E h => (sp2_len h).trans hp.symm) fun A outer s H vs Q E p hot hr h => ?_
  obtain ⟨m, sto, pvs, R, r, h⟩ := h
  exact ⟨_, (hb cdv A outer s H E p hot hr).pss, run_start hN R r h⟩

/-! ### calls -/
structure OfM (X : Cx) (M : Mo) : Prop where
  P : X.prog = M.P
  w : X.w = M.w
  K : X.K = M.K
  mg : X.mg = M.mg
  base : X.base = M.base
section
variable {M : Mo} {X : Cx} {W : WX} {a b c o : Expr} {fa fb fc fo : EF} {fr : AF} {pos p apos : Pos} {es : List Expr} {k j : Nat} {x : Str} {F : FF}
theorem pe2_call (hX : OfM X M) (cal : Cal M k x F) (hr : Room j X.A) (hk : k ≤ j) (tk : L2N.Takes X W) (ha : PA2 X M.cv W (a :: es) fr) (hg : Gl X x := by rfl)
    (hdb : (x == ("__debug__" : Str)) = false := by decide) (he : starEach (a :: es) X.env = (false, eval a X.env) :: starEach es X.env := by rfl) (hpl : (backTo pos (starEach es X.env)).any (·.1) = false := by rfl) :
    PE2 X M.cv W (.Call (.Name x p) (a :: es) [] pos) (E.call F fr) := by
  obtain ⟨f, fd, ps, h1, h2, h3, h4⟩ := cal.ex
  rw [← hX.P, ← hX.w, ← hX.K, ← hX.mg, ← hX.base] at h1
  rw [← hX.mg] at h2
  rw [← hX.K] at h3 h4
  exact ⟨(pe_callS h1 (hr.mono hk) hg h2 h3 h4 (fun σ => L2N.passAt tk σ) ha.pa hdb he hpl).monoY fun σ H Q ⟨m, s, ρ, R, S, h⟩ => ⟨m, s, ρ, R, S, apost_bind h fun vs s1 m1 H1 us e1 R1 r1 h1 => ⟨m1, s1, vs, R1, r1, h1⟩⟩⟩
theorem pe2_call0 (hX : OfM X M) (cal : Cal M k x F) (hr : Room j X.A) (hk : k ≤ j) (tk : L2N.Takes X W) (hg : Gl X x := by rfl) (hdb : (x == ("__debug__" : Str)) = false := by decide) :
    PE2 X M.cv W (.Call (.Name x p) [] [] pos) (E.call F E.nil) := by
  obtain ⟨f, fd, ps, h1, h2, h3, h4⟩ := cal.ex
  rw [← hX.P, ← hX.w, ← hX.K, ← hX.mg, ← hX.base] at h1
  rw [← hX.mg] at h2
  rw [← hX.K] at h3 h4
  refine ⟨⟨fun pins s σ H Q I h => ?_⟩⟩
  obtain ⟨m, st, ρ, R, S, h⟩ := h
  refine wpAny_Call_Name_kw (ld_glob I hg h2 ?_ hdb)
  exact PySem.W.callWith_K0 I.kIn h3 (run_fnS (E := WE W) (us := []) h1 (hr.mono hk) h4 (L2N.passAt tk σ) I .nil ⟨m, st, [], R, .nil, h⟩)
theorem pe2_callH (hX : OfM X M) (cal : CalH M k x F) (hr : L2H.RoomH j X.A) (hc : L2H.HotC X) (hk : k ≤ j) (tk : L2N.Takes X W) (ha : PA2 X M.cv W (a :: es) fr) (hg : Gl X x := by rfl)
    (hdb : (x == ("__debug__" : Str)) = false := by decide) (he : starEach (a :: es) X.env = (false, eval a X.env) :: starEach es X.env := by rfl) (hpl : (backTo pos (starEach es X.env)).any (·.1) = false := by rfl) :
    PE2 X M.cv W (.Call (.Name x p) (a :: es) [] pos) (E.call F fr) := by
  obtain ⟨f, fd, ps, h1, h2, h3, h4⟩ := cal.ex
  rw [← hX.P, ← hX.w, ← hX.K, ← hX.mg, ← hX.base] at h1
  rw [← hX.mg] at h2
  rw [← hX.K] at h3 h4
  exact ⟨(L2H.pe_callH h1 (hr.mono hk) hc hg h2 h3 h4 (fun σ => L2N.passAt tk σ) ha.pa hdb he hpl).monoY fun σ H Q ⟨m, s, ρ, R, S, h⟩ => ⟨m, s, ρ, R, S, apost_bind h fun vs s1 m1 H1 us e1 R1 r1 h1 => ⟨m1, s1, vs, R1, r1, h1⟩⟩⟩
/-- what a method's receiver is -/
theorem meth_recv {K : PySem.W.Frag} {cv : String → Addr} {m : List Addr} {s : Sto} {ρ : Rho} {H : Hp} {σ : L2.St} {C m' : String} {Q : VK} {p : PV} {v : V} (R : Rel K cv m s H) (S : RS K m H ρ σ) (r : RepV K m H p v)
    (h : EPost K cv m H (fun c H' => W c none σ H') Q (match (generalizing := false) p with
      | .ref n => (match (generalizing := false) s[n]? with
        | some (.ins D fs) => if D = C ∧ fs.lookup m' = none then (fr ρ s).bind fun xs s2 => F (.ref n :: xs) s2 else .bad
        | _ => .bad)
      | _ => .bad)) : ∃ a dx fs, v = .ref a ∧ H a = some (.ins (cv C) dx fs) ∧ fs.lookup (Str.ofString m') = none ∧ (EPost K cv m H (fun c H' => W c none σ H') Q ((fr ρ s).bind fun xs s2 => F (p :: xs) s2)) := by
  cases r with
  | @ref n a hn =>
    cases e : s[n]? with
    | none => simp only [e] at h; exact h.elim
    | some q =>
      cases q with
      | ins D fs =>
        simp only [e] at h
        split at h
        · rename_i hD
          obtain ⟨hD, hl⟩ := hD
          subst hD
          obtain ⟨dx, ks, q1, q2, q3⟩ := (R.obj n a _ hn e : RepO K cv m H a (.ins D fs))
          rcases fs_look m' q2 q3 with ⟨z1, z2⟩ | ⟨p, v, z1, z2, z3⟩
          · exact ⟨a, dx, ks, rfl, q1, z2, h⟩
          · rw [z1] at hl; cases hl
        · exact h.elim
      | _ => simp only [e] at h; exact h.elim
  | _ => exact h.elim
variable {C m : String}
theorem pe2_meth {pl : Sem Bool} (hX : OfM X M) (met : Met M k C m F) (hr : Room j X.A) (hk : k ≤ j) (tk : L2N.Takes X W) (ho : PE2 X M.cv W o fo) (ha : PA2 X M.cv W (a :: es) fr)
    (hst : starEach (a :: es) X.env = (false, eval a X.env) :: starEach es X.env := by rfl) (hpl : (backTo pos (starEach es X.env)).any (·.1) = false := by rfl)
    (ht : eval (.Call (.Attribute o (Str.ofString m) apos) (a :: es) [] pos) X.env = (do
      let ov ← eval o X.env
      standAt apos.atName
      let (f, first) ← holding [ov] (getMethod ov (Str.ofString m) pl)
      callWith pos f first (backTo pos (starEach (a :: es) X.env)) (backToKw pos (keywordEach [] X.env))) := by rfl) :
    PE2 X M.cv W (.Call (.Attribute o (Str.ofString m) apos) (a :: es) [] pos) (E.meth C m F fo fr) := by
  obtain ⟨f, fd, ps, hF, h2, h3, h4⟩ := met.ex
  rw [← hX.P, ← hX.w, ← hX.K, ← hX.mg, ← hX.base] at hF
  rw [← hX.K] at h2 h3 h4
  refine ⟨⟨fun pins s σ H Q I h => ?_⟩⟩
  obtain ⟨m0, st, ρ, R, S, h⟩ := h
  refine PySem.W.methodCall_KW (pl := pl) (thn (ho.pe.run pins s σ H _ I ⟨m0, st, ρ, R, S, epost_bind (Q1 := fun x H1 => ∃ p m1 s1, x = x ∧ Rel X.K M.cv m1 s1 H1 ∧ RS X.K m1 H1 ρ σ ∧ RepV X.K m1 H1 p x ∧ EPost X.K M.cv m1 H1 (fun c H' => W c none σ H') Q _) h fun p s1 m1 H1 v e1 R1 r1 h1 => ⟨p, m1, s1, rfl, R1, S.mono e1, r1, h1⟩⟩) fun u s1 ⟨x, H1, I1, rx, q⟩ => ?_) ht
  obtain ⟨p, m1, s1', _, R1, S1, r1, h1⟩ := q
  obtain ⟨a', dx, fs, ex, ea, l, h1⟩ := meth_recv R1 S1 r1 h1
  subst ex
  obtain rfl : u = Value.ref a' := rx
  refine getmeth_ok I1 ea h2 h3 l ?_
  refine PySem.W.callWith_K (first := [.ref a']) (h₀ := X.base) I.ok.mod.kin h3.kp (thn (ha.pa.run pos pins s1 σ H1 _ I1 ⟨m1, s1', ρ, R1, S1, apost_bind (Q1 := fun vs H2 => sp2 X.K M.cv F (.ref a' :: vs) H2 Q (WE W σ)) h1 fun ps s2 m2 H2 vs e2 R2 r2 h2 => ⟨m2, s2, p :: ps, R2, .cons (r1.mono e2) r2, h2⟩⟩) fun us s2 ⟨vs, H2, I2, r, q2⟩ => ⟨I2.kIn, ?_⟩) hst hpl
  exact run_fnS (E := WE W) (us := .ref a' :: us) (vs := .ref a' :: vs) hF (hr.mono hk) h4 (L2N.passAt tk σ) I2 (.cons rfl r) q2
theorem pe2_meth0 {pl : Sem Bool} (hX : OfM X M) (met : Met M k C m F) (hr : Room j X.A) (hk : k ≤ j) (tk : L2N.Takes X W) (ho : PE2 X M.cv W o fo)
    (ht : eval (.Call (.Attribute o (Str.ofString m) apos) [] [] pos) X.env = (do
      let ov ← eval o X.env
      standAt apos.atName
      let (f, first) ← holding [ov] (getMethod ov (Str.ofString m) pl)
      callWith pos f first (backTo pos (starEach [] X.env)) (backToKw pos (keywordEach [] X.env))) := by rfl) :
    PE2 X M.cv W (.Call (.Attribute o (Str.ofString m) apos) [] [] pos) (E.meth C m F fo E.nil) := by
  obtain ⟨f, fd, ps, hF, h2, h3, h4⟩ := met.ex
  rw [← hX.P, ← hX.w, ← hX.K, ← hX.mg, ← hX.base] at hF
  rw [← hX.K] at h2 h3 h4
  refine ⟨⟨fun pins s σ H Q I h => ?_⟩⟩
  obtain ⟨m0, st, ρ, R, S, h⟩ := h
  refine PySem.W.methodCall_KW (pl := pl) (thn (ho.pe.run pins s σ H _ I ⟨m0, st, ρ, R, S, epost_bind (Q1 := fun x H1 => ∃ p m1 s1, x = x ∧ Rel X.K M.cv m1 s1 H1 ∧ RS X.K m1 H1 ρ σ ∧ RepV X.K m1 H1 p x ∧ EPost X.K M.cv m1 H1 (fun c H' => W c none σ H') Q _) h fun p s1 m1 H1 v e1 R1 r1 h1 => ⟨p, m1, s1, rfl, R1, S.mono e1, r1, h1⟩⟩) fun u s1 ⟨x, H1, I1, rx, q⟩ => ?_) ht
  obtain ⟨p, m1, s1', _, R1, S1, r1, h1⟩ := q
  obtain ⟨a', dx, fs, ex, ea, l, h1⟩ := meth_recv R1 S1 r1 h1
  subst ex
  obtain rfl : u = Value.ref a' := rx
  refine getmeth_ok I1 ea h2 h3 l ?_
  exact PySem.W.callWith_K0 (first := [.ref a']) I1.kIn h3.kp (run_fnS (E := WE W) (us := [.ref a']) (vs := [.ref a']) hF (hr.mono hk) h4 (L2N.passAt tk σ) I1 (.cons rfl .nil) ⟨m1, s1', [p], R1, .cons r1 .nil, h1⟩)
/-- C(..) -/
theorem run_makeS {CX : CXT} {C f : Addr} {fd : FuncData} {ps : List Str} {sp : Sp} {E : L2.St → XK} {pins : List (Addr × Obj)} {σ : L2.St} {H : Hp} {s : Shared} {Q : VK} {us : List Value} {vs : List V} (M : Mk X.K C f) (F : FnOk X.prog X.w X.K X.mg X.base CX k f fd ps sp) (hr : Room (k + 1) X.A) (hb : Binds X.K fd ps [])
    (hx : PassesAt CX X σ (E σ)) (I : Inv X pins σ H s) (r : Vals vs us)
    (h : ∀ x dx, H x = none → H dx = none → dx ≠ x → sp (.ref x :: vs) (upd (upd H dx (.own x)) x (.ins C dx [])) (fun v H2 => v = .non ∧ Q (.ref x) H2) (E σ)) :
    wpAny (model X.prog X.w) X.A (call (.ref C) us) (EP X pins σ Q) X.xe s := by
  have hq := h (s.heap.objs.size + 1) s.heap.objs.size (I.hok.fresh (Nat.le_succ _)) (I.hok.fresh (Nat.le_refl _)) (Nat.ne_of_lt (Nat.lt_succ_self _))
  have I2 := Inv.made (C := C) I
  have r2 : Vals (V.ref (s.heap.objs.size + 1) :: vs) (Value.ref (s.heap.objs.size + 1) :: us) := .cons rfl r
  have hl : (Value.ref (s.heap.objs.size + 1) :: us).length = ps.length := by
    have e := r2.length
    rw [F.len _ _ _ _ hq] at e
    exact e.symm
  have hb2 := hb _ (Value.ref (s.heap.objs.size + 1) :: us) I2.kIn (by rw [List.append_nil]; exact hl)
  rw [List.append_nil] at hb2
  refine wpAny_call (make_map (f := f) I.kIn M.makes M.init (beq_iff_eq.mp M.fn) (codeAny_mono (F.run _ X.stack _ _ ⟨Value.ref (s.heap.objs.size + 1) :: us, []⟩ (Value.ref (s.heap.objs.size + 1) :: us) _ _ (E σ) (hr.make C us [])
    (I2.env0.make C us []) hb2 r2 hq) fun r s' hq' => ?_))
  cases r with
  | error e => exact hx pins _ _ e s' I2 hq'
  | ok fl =>
    cases fl with
    | ret u =>
      obtain ⟨v, H', I3, rv, ev, q3⟩ := I2.after hq'
      subst ev
      exact ⟨rv, ⟨V.ref (s.heap.objs.size + 1), H', I3, rfl, q3⟩⟩
    | next => exact False.elim hq'
    | brk => exact False.elim hq'
    | cont => exact False.elim hq'
theorem make_post {K : PySem.W.Frag} {cv : String → Addr} {m : List Addr} {s : Sto} {H : Hp} {σ : L2.St} {Q : VK} {vs : List V} {ps : List PV} (R : Rel K cv m s H) (r : RepL K m H ps vs)
    (h : EPost K cv m H (fun c H' => W c none σ H') Q ((F (.ref s.length :: ps) (s ++ [.ins C []])).bind fun v s2 => match v with | .non => .ok (.ref s.length) s2 | _ => .bad)) :
    ∀ x dx, H x = none → H dx = none → dx ≠ x → sp2 K cv F (.ref x :: vs) (upd (upd H dx (.own x)) x (.ins (cv C) dx [])) (fun v H2 => v = .non ∧ Q (.ref x) H2) (WE W σ) := fun x dx hx hdx ne => by
  have hx2 : (upd H dx (.own x)) x = none := by rw [upd_ne (Ne.symm ne)]; exact hx
  have e1 : Ext m H m (upd H dx (.own x)) := .laid hdx
  have e2 : Ext m (upd H dx (.own x)) (m ++ [x]) (upd (upd H dx (.own x)) x (.ins (cv C) dx [])) := .push hx2
  have R2 := (R.laid (o := .own x) hdx).push (o := .ins (cv C) dx []) (q := .ins C []) hx2 ⟨dx, [], upd_same, rfl, .nil⟩
  have at_ : (m ++ [x])[s.length]? = some x := by rw [← R.len]; simp
  refine ⟨m ++ [x], s ++ [.ins C []], .ref s.length :: ps, R2, .cons (.ref at_) (r.mono (e1.trans e2)), ?_⟩
  refine epost_bind (EPost.ext (e1.trans e2) h) fun p s3 m3 H3 v e3 R3 r3 h3 => ?_
  cases r3 with
  | non => exact ⟨rfl, h3 m3 H3 (.ref x) (.refl _ _) R3 (.ref (e3.at at_))⟩
  | _ => exact h3.elim
theorem pe2_make (hX : OfM X M) (mak : Mak M k x C F) (hr : Room j X.A) (hk : k + 1 ≤ j) (tk : L2N.Takes X W) (ha : PA2 X M.cv W (a :: es) fr) (hg : Gl X x := by rfl)
    (hdb : (x == ("__debug__" : Str)) = false := by decide) (he : starEach (a :: es) X.env = (false, eval a X.env) :: starEach es X.env := by rfl) (hpl : (backTo pos (starEach es X.env)).any (·.1) = false := by rfl) :
    PE2 X M.cv W (.Call (.Name x p) (a :: es) [] pos) (E.make C F fr) := by
  obtain ⟨f, fd, ps, h1, h2, h3, h4⟩ := mak.ex
  rw [← hX.P, ← hX.w, ← hX.K, ← hX.mg, ← hX.base] at h1
  rw [← hX.mg] at h2
  rw [← hX.K] at h3 h4
  refine ⟨⟨fun pins s σ H Q I h => ?_⟩⟩
  obtain ⟨m, st, ρ, R, S, h⟩ := h
  refine wpAny_Call_Name_kw (ld_glob I hg h2 ?_ hdb)
  refine PySem.W.callWith_K (h₀ := X.base) I.ok.mod.kin h3.kp (thn (ha.pa.run pos pins s σ H _ I ⟨m, st, ρ, R, S, apost_bind (Q1 := fun vs H1 => ∀ x dx, H1 x = none → H1 dx = none → dx ≠ x → sp2 X.K M.cv F (.ref x :: vs) (upd (upd H1 dx (.own x)) x (.ins (M.cv C) dx [])) (fun v H2 => v = .non ∧ Q (.ref x) H2) (WE W σ)) h fun ps s1 m1 H1 vs e1 R1 r1 h1 => make_post R1 r1 h1⟩) fun us s1 ⟨vs, H1, I1, r, q⟩ => ⟨I1.kIn, ?_⟩) he hpl
  exact run_makeS (E := WE W) h3 h1 (hr.mono hk) h4 (L2N.passAt tk σ) I1 r q
theorem pe2_make0 (hX : OfM X M) (mak : Mak M k x C F) (hr : Room j X.A) (hk : k + 1 ≤ j) (tk : L2N.Takes X W) (hg : Gl X x := by rfl) (hdb : (x == ("__debug__" : Str)) = false := by decide) :
    PE2 X M.cv W (.Call (.Name x p) [] [] pos) (E.make C F E.nil) := by
  obtain ⟨f, fd, ps, h1, h2, h3, h4⟩ := mak.ex
  rw [← hX.P, ← hX.w, ← hX.K, ← hX.mg, ← hX.base] at h1
  rw [← hX.mg] at h2
  rw [← hX.K] at h3 h4
  refine ⟨⟨fun pins s σ H Q I h => ?_⟩⟩
  obtain ⟨m, st, ρ, R, S, h⟩ := h
  refine wpAny_Call_Name_kw (ld_glob I hg h2 ?_ hdb)
  exact PySem.W.callWith_K0 I.kIn h3.kp (run_makeS (E := WE W) (us := []) h3 h1 (hr.mono hk) h4 (L2N.passAt tk σ) I .nil (make_post R .nil h))
/-- o.p, a property: it raises nothing -/
def _root_.Y.E.prop (C : String) (F : FF) (o : EF) : EF := fun ρ s => (o ρ s).bind fun x s1 => match x with
  | .ref n => (match s1[n]? with
    | some (.ins D _) => if D = C then (match F [.ref n] s1 with | .ok v s2 => .ok v s2 | _ => .bad) else .bad
    | _ => .bad)
  | _ => .bad
theorem pe2_prop {pr : String} (hX : OfM X M) (h : Pro M k C pr F) (hr : Room j X.A) (hk : k + 1 ≤ j) (ho : PE2 X M.cv W o fo) (hab : attributeBase o (Str.ofString pr) X.env (eval o X.env) = eval o X.env := by rfl) : PE2 X M.cv W (.Attribute o (Str.ofString pr) pos) (E.prop C F fo) := by
  obtain ⟨f, fd, ps, q, h1, h2, h3, h4⟩ := h.ex
  rw [← hX.P, ← hX.w, ← hX.K, ← hX.mg, ← hX.base] at h1
  rw [← hX.K] at h2 h3 h4
  refine ⟨(pe_prop ho.pe h2 h3 h1 (hr.mono hk) h4 .nil (passN (X := X.nox)) hab).monoY fun σ H Q ⟨m, s, ρ, R, S, h⟩ => ⟨m, s, ρ, R, S, epost_bind h fun px s1 m1 H1 x e1 R1 r1 h1 => ?_⟩⟩
  cases r1 with
  | @ref n a' hn' =>
    have g2 : EPost X.K M.cv m1 H1 (fun c H' => W c none σ H') Q (match s1[n]? with
      | some (.ins D _) => if D = C then (match F [.ref n] s1 with | .ok v s2 => .ok v s2 | _ => .bad) else .bad
      | _ => .bad) := h1
    split at g2
    · rename_i D fs e
      split at g2
      · rename_i eD
        subst eD
        obtain ⟨dx, ks, q1, q2, q3⟩ := (R1.obj n a' _ hn' e : RepO X.K M.cv m1 H1 a' (.ins D fs))
        refine ⟨a', dx, ks, rfl, q1, m1, s1, [.ref n], R1, .cons (.ref hn') .nil, ?_⟩
        split at g2
        · rename_i v s2 e2
          rw [e2]
          exact g2
        · exact g2.elim
      · exact g2.elim
    · exact g2.elim
  | _ => exact h1.elim
end
end Y

set_option Elab.async false
set_option linter.all false
set_option maxRecDepth 100000
set_option maxHeartbeats 4000000
namespace Y
open PySem PySem.Spec PyProof.Rows L2

abbrev veB : List Value := [.type "ValueError", .type "Exception", .type "BaseException", .type "object"]
/-- an own exception class that is made by X('..') -/
structure Exn (M : Mo) (x : Str) (C : String) : Prop where
  q : PySem.W.excIn M.K (M.cv C) veB "ValueError.__new__" = true
  g : M.mg x = some (.ref (M.cv C))
  k : PySem.W.keepIn M.K (.ref (M.cv C)) = true
  b : PySem.W.subIn M.K (.ref (M.cv C)) (.type "BaseException") = some true
  t : PySem.W.typeIn M.K (.ref (M.cv C)) = some (.type "type")
/-- except X: which classes it takes -/
structure Clause (M : Mo) (x : Str) (L : List (String × Bool)) : Prop where
  ex : ∃ C, M.mg x = some (.ref C) ∧ ∀ p ∈ L, PySem.W.exmOne M.K (.ref (M.cv p.1)) (.ref C) = some p.2
namespace Z
def wipe (i : Nat) : SR → SR
  | .nx ρ s => .nx (ρ.set i none) s
  | .bk ρ s => .bk (ρ.set i none) s
  | .ct ρ s => .ct (ρ.set i none) s
  | r => r
/-- the clauses from the first -/
def clauses (c : String) (ρ : Rho) (s : Sto) : List (List (String × Bool) × SF) → SR
  | [] => .ex c ρ s
  | (L, f) :: r => match L.lookup c with
    | some true => f ρ s
    | some false => clauses c ρ s r
    | none => .bad
def tryM (b : SF) (l : List (List (String × Bool) × SF)) : SF := fun ρ s => match b ρ s with
  | .ex c ρ1 s1 => clauses c ρ1 s1 l
  | r => r
/-- except X as e (e in slot i); the suite's function by the class and the place of the exception -/
def tryA (i : Nat) (b : SF) (L : List (String × Bool)) (g : String → Addr → SF) : SF := fun ρ s => match b ρ s with
  | .ex c ρ1 s1 => (match L.lookup c with
    | some true => wipe i (g c 0 (ρ1.set i (some (.con 0))) s1)
    | some false => .ex c ρ1 s1
    | none => .bad)
  | r => r
end Z
theorem mem_lookup {L : List (String × Bool)} {c : String} {b : Bool} (h : L.lookup c = some b) : (c, b) ∈ L := by
  induction L with
  | nil => cases h
  | cons p L ih =>
    obtain ⟨d, e⟩ := p
    by_cases q : c = d
    · subst q
      simp at h
      subst h
      exact List.mem_cons_self
    · have q' : (c == d) = false := by simpa using q
      rw [List.lookup, q'] at h
      exact List.mem_cons_of_mem _ (ih h)
section
variable {M : Mo} {X : Cx} {W : WX} {pos pos' : Pos}
abbrev rsY (c : String) : SF := Z.raise c
theorem ps2_raise {x m : Str} {C : String} {j : Nat} {p p2 pos2 : Pos} (hX : OfM X M) (hx : Exn M x C) (hc : X.calm = true) (tk : L2N.Takes X W) (hg : Gl X x := by rfl) (hdb : (x == ("__debug__" : Str)) = false := by decide) :
    PS2 X M.cv W (.Raise (some (.Call (.Name x p) [.Constant (.str m) j p2] [] pos)) none pos2) (Z.raise C) := by
  have h1 := hx.q; have h2 := hx.g; have h3 := hx.k; have h4 := hx.b; have h5 := hx.t
  rw [← hX.K] at h1 h3 h4 h5
  rw [← hX.mg] at h2
  exact ⟨(L2N.ps_raise hc tk (L2N.pmk_own PySem.F.excBase_ValueError h1 h2 h3 (raises_own h4 h5) hg hdb)).monoY fun D σ H ⟨m, s, ρ, R, S, h⟩ => h m H σ (.refl _ _) R S⟩

/-! ### try -/
variable {body suite : List Stmt} {b₀ : Stmt} {np : Pos} {f : SF}
theorem try_post {K : PySem.W.Frag} {cv : String → Addr} {m : List Addr} {H : Hp} {ρ : Rho} {s : Sto} {D : Ends} {W W' : WX} {b : SF} {k : String → Rho → Sto → SR}
    (h : SPost K cv m H W D (match b ρ s with | .ex c ρ1 s1 => k c ρ1 s1 | r => r)) (n : ∀ c ρ1 s1 m' H' σ', Rel K cv m' s1 H' → RS K m' H' ρ1 σ' → SPost K cv m' H' W D (k c ρ1 s1) → W' (.ref (cv c)) none σ' H') : SPost K cv m H W' D (b ρ s) := by
  cases e : b ρ s with
  | ex c ρ1 s1 =>
    rw [e] at h
    exact fun m' H' σ' e' R' S' => n c ρ1 s1 m' H' σ' R' S' (SPost.ext e' h)
  | nx _ _ => rw [e] at h; exact h
  | rt _ _ => rw [e] at h; exact h
  | bk _ _ => rw [e] at h; exact h
  | ct _ _ => rw [e] at h; exact h
  | bad => rw [e] at h; exact h
abbrev W0 : WX := fun _ _ _ _ => False
/-- a suite that nothing leaves -/
theorem spost_W0 {K : PySem.W.Frag} {cv : String → Addr} {m : List Addr} {H : Hp} {D : Ends} {W : WX} {r : SR} (hr : ∀ c ρ s, r ≠ .ex c ρ s) (h : SPost K cv m H W D r) : SPost K cv m H W0 D r := by
  cases r with
  | ex c ρ s => exact absurd rfl (hr c ρ s)
  | _ => exact h
def NoEx (g : SF) : Prop := ∀ ρ s c ρ1 s1, g ρ s ≠ .ex c ρ1 s1
/-- a suite judged: nothing leaves it -/
structure Suite (X : Cx) (cv : String → Addr) (st : List Stmt) (g : SF) : Prop where
  ok : ∀ (a : Addr) (oe : Obj) (cls : Value) (d : Option Addr) (pn : List (Addr × Obj)), L2N.Zn cls d oe → (∃ vs, oe.data = .fields vs) → PSs2 (X.suite a ((a, oe) :: pn)) cv W0 st g
  no : NoEx g
inductive HdsY (X : Cx) (M : Mo) : List ExceptHandler → List (List (String × Bool) × SF) → Prop
  | nil : HdsY X M [] []
  | cons {x : Str} {b₀ : Stmt} {suite : List Stmt} {np pos' : Pos} {hds : List ExceptHandler} {L : List (String × Bool)} {g : SF} {l : List (List (String × Bool) × SF)} (cl : Clause M x L) (hg : Gl X x) (hd : (x == ("__debug__" : Str)) = false)
      (su : Suite X M.cv (b₀ :: suite) g) (r : HdsY X M hds l) : HdsY X M (.ExceptHandler (some (.Name x np)) none (b₀ :: suite) pos' :: hds) ((L, g) :: l)
theorem hds_ok (hX : OfM X M) : ∀ {hds : List ExceptHandler} {l : List (List (String × Bool) × SF)}, HdsY X M hds l → ∃ l', L2N.HdsOk X hds l' ∧
    ∀ (D : Ends) (c : String) (ρ : Rho) (s : Sto) (m : List Addr) (H : Hp) (σ : L2.St), Rel X.K M.cv m s H → RS X.K m H ρ σ → SPost X.K M.cv m H W D (Z.clauses c ρ s l) → wMany X.K W D l' (.ref (M.cv c)) none σ H
  | _, _, .nil => ⟨[], .nil, fun D c ρ s m H σ R S h => h m H σ (.refl _ _) R S⟩
  | _, _, .cons (L := L) (g := g) (l := l) cl hg hd su r => by
    obtain ⟨l', k1, k2⟩ := hds_ok hX r
    obtain ⟨C, h1, h2⟩ := cl.ex
    rw [← hX.mg] at h1
    rw [← hX.K] at h2
    refine ⟨(.ref C, fun _ _ _ => T2S X.K M.cv W0 g) :: l', .cons ⟨hg, hd, .inl h1⟩ (fun a oe cls d pn hz hf => (su.ok a oe cls d pn hz hf).pss) k1, fun D c ρ s m H σ R S h => ?_⟩
    rw [Z.clauses] at h
    cases e : L.lookup c with
    | none => simp only [e] at h; exact h.elim
    | some b =>
      refine ⟨b, h2 _ (mem_lookup e), fun hb a _ => ?_, fun hb => ?_⟩
      · subst hb
        simp only [e] at h
        exact ⟨m, s, ρ, R, S, spost_W0 (fun c' ρ' s' => su.no ρ s c' ρ' s') h⟩
      · subst hb
        simp only [e] at h
        exact k2 D c ρ s m H σ R S h
theorem ps2_tryM {h₀ : ExceptHandler} {hds : List ExceptHandler} {l : List (List (String × Bool) × SF)} (hX : OfM X M) (hs : X.stack = X.env :: X.outer) (hf : X.env.frame = some X.env.locals) (tk : L2N.Takes X W)
    (hb : ∀ (W : WX) (pn : List (Addr × Obj)) (xe : Value → Shared → Prop), L2N.Takes (X.tr pn xe) W → PassesOwn (model X.prog X.w) X.A X.env xe → PSs2 (X.tr pn xe) M.cv W body f) (hh : HdsY X M (h₀ :: hds) l) :
    PS2 X M.cv W (.Try body (h₀ :: hds) [] [] pos) (Z.tryM f l) := by
  obtain ⟨l', k1, k2⟩ := hds_ok (W := W) hX hh
  refine ⟨(L2N.ps_try_many hs hf tk (tb := fun W => T2S X.K M.cv W f) (fun W pn xe t p => (hb W pn xe t p).pss) k1).monoY fun D σ H ⟨m, s, ρ, R, S, h⟩ => ⟨m, s, ρ, R, S, ?_⟩⟩
  exact try_post h fun c ρ1 s1 m' H' σ' R' S' h' => k2 D c ρ1 s1 m' H' σ' R' S' h'
theorem RS.wipe {K : PySem.W.Frag} {m : List Addr} {H : Hp} {ρ : Rho} {σ : L2.St} (h : RS K m H ρ σ) (i : Nat) : RS K m H (ρ.set i none) (σ.set i none) := by
  refine ⟨by simp [h.1], fun j q hq => ?_⟩
  by_cases e : i = j
  · subst e
    rw [List.getElem?_set] at hq
    simp only [if_true] at hq
    split at hq <;> cases hq
  · rw [List.getElem?_set_ne e] at hq
    rw [List.getElem?_set_ne e]
    exact h.2 j q hq
theorem ps2_tryA {x n : Str} {i : Nat} {L : List (String × Bool)} {g : String → Addr → SF} (hX : OfM X M) (hs : X.stack = X.env :: X.outer) (hf : X.env.frame = some X.env.locals) (hN : X.N.Nodup) (hi : X.N[i]? = some n) (hln : X.env.kindOf n = some .local)
    (cl : Clause M x L) (hg : Gl X x) (hd : (x == ("__debug__" : Str)) = false) (tk : L2N.Takes X W)
    (hb : ∀ (W : WX) (pn : List (Addr × Obj)) (xe : Value → Shared → Prop), L2N.Takes (X.tr pn xe) W → PassesOwn (model X.prog X.w) X.A X.env xe → PSs2 (X.tr pn xe) M.cv W body f)
    (hsu : ∀ (a : Addr) (oe : Obj) (c : String) (pn : List (Addr × Obj)), L2N.Zn (.ref (M.cv c)) none oe → (∃ vs, oe.data = .fields vs) → PSs2 (X.suite a ((a, oe) :: pn)) M.cv W0 (b₀ :: suite) (g c a))
    (hno : ∀ c a, NoEx (g c a)) (hin : ∀ (c : String) (a : Addr) (ρ : Rho) (s : Sto), Z.wipe i (g c a (ρ.set i (some (.con a))) s) = Z.wipe i (g c 0 (ρ.set i (some (.con 0))) s)) :
    PS2 X M.cv W (.Try body [.ExceptHandler (some (.Name x np)) (some n) (b₀ :: suite) pos'] [] [] pos) (Z.tryA i f L g) := by
  obtain ⟨C, h1, h2⟩ := cl.ex
  rw [← hX.mg] at h1
  rw [← hX.K] at h2
  refine ⟨(L2N.ps_try_as hs hf hN hi hln ⟨hg, hd, .inl h1⟩ tk (tb := fun W => T2S X.K M.cv W f) (ts := fun a cls d D σ H => ∃ c, cls = .ref (M.cv c) ∧ d = none ∧ T2S X.K M.cv W0 (g c a) D σ H) (fun W pn xe t p => (hb W pn xe t p).pss) (fun a oe cls d pn hz hf => ?_)).monoY fun D σ H ⟨m, s, ρ, R, S, h⟩ => ⟨m, s, ρ, R, S, ?_⟩⟩
  · refine ⟨fun pins s σ H D I ⟨c, e1, e2, q⟩ => ?_⟩
    subst e1 e2
    exact (hsu a oe c pn hz hf).pss.run pins s σ H D I q
  · refine try_post h fun c ρ1 s1 m' H' σ' R' S' h' => ?_
    cases e : L.lookup c with
    | none => simp only [e] at h'; exact h'.elim
    | some b =>
      refine ⟨b, h2 _ (mem_lookup e), fun hb a _ => ⟨c, rfl, rfl, ?_⟩, fun hb => ?_⟩
      · subst hb
        simp only [e] at h'
        have S2 : RS X.K m' H' (ρ1.set i (some (.con a))) (σ'.set i (some (.ref a))) := S'.set (.con a) i
        refine ⟨m', s1, _, R', S2, ?_⟩
        have hw : Z.wipe i (g c a (ρ1.set i (some (.con a))) s1) = Z.wipe i (g c 0 (ρ1.set i (some (.con 0))) s1) := hin c a ρ1 s1
        rw [← hw] at h'
        have hne := hno c a (ρ1.set i (some (.con a))) s1
        cases eg : g c a (ρ1.set i (some (.con a))) s1 with
        | nx ρ2 s2 => rw [eg] at h'; exact fun m2 H2 σ2 e2 R2 S2 => h' m2 H2 _ e2 R2 (S2.wipe i)
        | rt v s2 => rw [eg] at h'; exact h'
        | bk ρ2 s2 => rw [eg] at h'; exact fun m2 H2 σ2 e2 R2 S2 => h' m2 H2 _ e2 R2 (S2.wipe i)
        | ct ρ2 s2 => rw [eg] at h'; exact fun m2 H2 σ2 e2 R2 S2 => h' m2 H2 _ e2 R2 (S2.wipe i)
        | ex c' ρ2 s2 => exact absurd eg (hne c' ρ2 s2)
        | bad => rw [eg] at h'; exact h'
      · subst hb
        simp only [e] at h'
        exact h' m' H' σ' (.refl _ _) R' S'
end
end Y

set_option Elab.async false
set_option linter.all false
set_option maxRecDepth 100000
set_option maxHeartbeats 4000000
namespace Y
open PySem PySem.Spec PyProof.Rows L2

/-! ### isinstance -/
inductive TyN where
  | t (n : String) | own (C : String)
namespace O
def tyOf (p : PV) (s : Sto) : Option TyN := match p with
  | .non => some (.t "NoneType")
  | .bl _ => some (.t "bool")
  | .int _ => some (.t "int")
  | .str _ => some (.t "str")
  | .tup _ => some (.t "tuple")
  | .ref n => (match s[n]? with
    | some (.lst _) => some (.t "list")
    | some (.frz _) => some (.t "list")
    | some (.dct _) => some (.t "dict")
    | some (.set _) => some (.t "set")
    | some (.ins C _) => some (.own C)
    | none => none)
  | _ => none
/-- a built-in type, by its values' types -/
def subT (a n : String) : Bool := a == n || (a == "bool" && n == "int")
/-- isinstance(x, n), n a built-in type; cs: the own classes that may be asked -/
def isiT (n : String) (cs : List String) (vs : List PV) (s : Sto) : OR := match vs with
  | p :: _ => (match tyOf p s with
    | some (.t a) => some (.bl (subT a n), s)
    | some (.own C) => if C ∈ cs then some (.bl false, s) else none
    | none => none)
  | [] => none
/-- isinstance(x, D), D an own class; L: the own classes that may be asked, with the answer -/
def isiO (L : List (String × Bool)) (vs : List PV) (s : Sto) : OR := match vs with
  | p :: _ => (match tyOf p s with
    | some (.t _) => some (.bl false, s)
    | some (.own C) => (match L.lookup C with | some b => some (.bl b, s) | none => none)
    | none => none)
  | [] => none
end O
/-- what isinstance asks of an own class -/
structure InsT (M : Mo) (C : String) : Prop where
  cl : Cls M.K (M.cv C)
  ha : PySem.W.findIn M.K (.ref (M.cv C)) "__class__" = some (some (.builtin "object.__class__"))
  hn : PySem.W.specialIn M.K (.builtin "object.__class__") "__get__" = some (some (.builtin "getset_descriptor.__get__"))
  htk : PySem.W.takesIn M.K (.builtin "object.__class__") = some true
  hm : PySem.W.mroIn M.K (M.cv C) (.type "object") = some true
abbrev tyNs : List String := ["NoneType", "bool", "int", "str", "tuple", "list", "dict", "set"]
abbrev tyBs : List String := ["int", "bool", "str", "tuple", "list", "dict"]
theorem kit_tab : ∀ a ∈ tyNs, ∀ n ∈ tyBs, kitB a n = some (O.subT a n) := by decide +kernel
section
variable {M : Mo} {X : Cx} {W : WX} {m : List Addr} {H : Hp} {st : Sto}
/-- the type of a value, on both sides -/
theorem ty_rep (hX : OfM X M) {p : PV} {v : V} {T : TyN} (R : Rel X.K M.cv m st H) (r : RepV X.K m H p v) (e : O.tyOf p st = some T) (hc : ∀ C, T = .own C → InsT M C) : TyX X.K H v (match T with | .t n => .type n | .own C => .ref (M.cv C)) ∧ ∀ n, T = .t n → n ∈ tyNs := by
  have e' := e
  cases r with
  | non => cases e'; exact ⟨.base .non, fun n h => by cases h; decide⟩
  | bl b => cases e'; exact ⟨.base (.bl b), fun n h => by cases h; decide⟩
  | int b => cases e'; exact ⟨.base (.int b), fun n h => by cases h; decide⟩
  | str b => cases e'; exact ⟨.base (.str _), fun n h => by cases h; decide⟩
  | @tup ps a xs ha ra =>
    cases e'
    refine ⟨?_, fun n h => by cases h; decide⟩
    rcases ha with ha | ⟨o, its, n, h1, h2, _⟩
    · exact .base (.tup ha)
    · exact .kTuple h1 h2
  | @ref n a hn =>
    have e2 : (match st[n]? with
      | some (.lst _) => some (TyN.t "list")
      | some (.frz _) => some (.t "list")
      | some (.dct _) => some (.t "dict")
      | some (.set _) => some (.t "set")
      | some (.ins C _) => some (.own C)
      | none => none) = some T := e
    split at e2
    · rename_i ps eq
      cases e2
      obtain ⟨vs, h1, _⟩ := R.lst hn eq
      exact ⟨.base (.lst h1), fun n h => by cases h; decide⟩
    · rename_i ps eq
      cases e2
      obtain ⟨vs, ob, h1, _⟩ := (R.obj n a _ hn eq : RepO X.K M.cv m H a (.frz ps))
      exact ⟨.base (.frz h1), fun n h => by cases h; decide⟩
    · rename_i kvs eq
      cases e2
      obtain ⟨ks, h1, _⟩ := R.dct hn eq
      exact ⟨.base (.dK h1), fun n h => by cases h; decide⟩
    · rename_i xs eq
      cases e2
      exact ⟨.set (R.obj n a _ hn eq), fun n h => by cases h; decide⟩
    · rename_i C fs eq
      cases e2
      obtain ⟨dx, ks, h1, _⟩ := (R.obj n a _ hn eq : RepO X.K M.cv m H a (.ins C fs))
      obtain ⟨c1, c2, c3, c4, c5⟩ := hc C rfl
      rw [← hX.K] at c1 c2 c3 c4 c5
      exact ⟨.base (.ins h1 c1 c2 c3 c4 c5), fun n h => by cases h⟩
    · cases e2
  | _ => cases e'
structure IsT (M : Mo) (n : String) (cs : List String) : Prop where
  tn : n ∈ tyBs
  cs : ∀ C ∈ cs, InsT M C ∧ PySem.W.kitOne M.K (.ref (M.cv C)) (.type n) = some false
structure IsO (M : Mo) (D : String) (L : List (String × Bool)) : Prop where
  ts : ∀ a ∈ tyNs, PySem.W.kitOne M.K (.type a) (.ref (M.cv D)) = some false
  cs : ∀ p ∈ L, InsT M p.1 ∧ PySem.W.kitOne M.K (.ref (M.cv p.1)) (.ref (M.cv D)) = some p.2
theorem o_isiT (hX : OfM X M) {n : String} {cs : List String} (h : IsT M n cs) : OpN X.K M.cv (fun xs H Q => (∃ x, xs = [x, .ty n]) → rIsi X.K xs H Q) (O.isiT n cs) := fun m st H ps xs Q R r q ⟨x, ex⟩ => by
  subst ex
  cases r with
  | @cons p v ps vs r1 r2 =>
    have q' : OPost X.K M.cv m H Q (match O.tyOf p st with
      | some (.t a) => some (.bl (O.subT a n), st)
      | some (.own C) => if C ∈ cs then some (.bl false, st) else none
      | none => none) := q
    cases e : O.tyOf p st with
    | none => simp only [e] at q'; exact q'.elim
    | some T =>
      cases T with
      | t a =>
        simp only [e] at q'
        obtain ⟨h1, h2⟩ := ty_rep hX R r1 e (fun C z => by cases z)
        refine ⟨_, .ty n, _, _, _, rfl, .ty n, h1, kit_ty (kit_tab a (h2 a rfl) n h.tn), q'.pure R (.bl _)⟩
      | own C =>
        simp only [e] at q'
        split at q'
        · rename_i hC
          obtain ⟨c1, c2⟩ := h.cs C hC
          obtain ⟨h1, _⟩ := ty_rep hX R r1 e (fun C' z => by cases z; exact c1)
          rw [← hX.K] at c2
          exact ⟨_, .ty n, _, _, _, rfl, .ty n, h1, c2, q'.pure R (.bl _)⟩
        · exact q'.elim
theorem o_isiO (hX : OfM X M) {D : String} {L : List (String × Bool)} (h : IsO M D L) : OpN X.K M.cv (fun xs H Q => (∃ x, xs = [x, .ref (M.cv D)]) → rIsi X.K xs H Q) (O.isiO L) := fun m st H ps xs Q R r q ⟨x, ex⟩ => by
  subst ex
  cases r with
  | @cons p v ps vs r1 r2 =>
    have q' : OPost X.K M.cv m H Q (match O.tyOf p st with
      | some (.t _) => some (.bl false, st)
      | some (.own C) => (match L.lookup C with | some b => some (.bl b, st) | none => none)
      | none => none) := q
    cases e : O.tyOf p st with
    | none => simp only [e] at q'; exact q'.elim
    | some T =>
      cases T with
      | t a =>
        simp only [e] at q'
        obtain ⟨h1, h2⟩ := ty_rep hX R r1 e (fun C z => by cases z)
        have h3 := h.ts a (h2 a rfl)
        rw [← hX.K] at h3
        exact ⟨_, _, _, _, _, rfl, .own _, h1, h3, q'.pure R (.bl _)⟩
      | own C =>
        simp only [e] at q'
        cases eL : L.lookup C with
        | none => simp only [eL] at q'; exact q'.elim
        | some b =>
          simp only [eL] at q'
          obtain ⟨c1, c2⟩ := h.cs _ (mem_lookup eL)
          obtain ⟨h1, _⟩ := ty_rep hX R r1 e (fun C' z => by cases z; exact c1)
          rw [← hX.K] at c2
          exact ⟨_, _, _, _, _, rfl, .own _, h1, c2, q'.pure R (.bl _)⟩
variable {a c : Expr} {fa fc : EF} {pos p : Pos}
/-- the class is read off by its name -/
theorem isi_mono {K : PySem.W.Frag} {cv : String → Addr} {g : List PV → Sto → OR} {cval : PV} {y : V} (hy : ∀ m H v, RepV K m H cval v → v = y) (hg : OpN K cv (fun xs H Q => (∃ x, xs = [x, y]) → rIsi K xs H Q) g) {σ : L2.St} {H : Hp} {Q : VK} {fr : AF} (hfr : fr = E.cons fa (E.cons (E.c cval) E.nil))
    (h : T2 K cv W (E.blt g fr) σ H Q) : tCB (rIsi K) (T2A K cv W fr) σ H Q := by
  obtain ⟨m, s, ρ, R, S, h⟩ := h
  refine ⟨m, s, ρ, R, S, ?_⟩
  subst hfr
  have key : ∀ ps s', E.cons fa (E.cons (E.c cval) E.nil) ρ s = .ok ps s' → ∃ p, ps = [p, cval] := fun ps s' e => by
    have e' : (fa ρ s).bind (fun x s1 => ((E.cons (E.c cval) E.nil) ρ s1).bind fun xs s2 => ER.ok (x :: xs) s2) = .ok ps s' := e
    cases e2 : fa ρ s with
    | ok x s1 =>
      rw [e2] at e'
      have e3 : ER.ok [x, cval] s1 = .ok ps s' := e'
      cases e3
      exact ⟨x, rfl⟩
    | ex c s1 => rw [e2] at e'; cases e'
    | bad => rw [e2] at e'; cases e'
  have h' : EPost K cv m H (fun c H' => W c none σ H') Q ((E.cons fa (E.cons (E.c cval) E.nil) ρ s).bind fun xs s1 => .of (g xs s1)) := h
  cases e : E.cons fa (E.cons (E.c cval) E.nil) ρ s with
  | ok ps s1 =>
    rw [e] at h'
    obtain ⟨p, rfl⟩ := key ps s1 e
    intro m1 H1 vs e1 R1 r1
    refine hg m1 s1 H1 _ vs Q R1 r1 (OPost.of (EPost.ext e1 h')) ?_
    cases r1 with
    | cons r1 r2 => cases r2 with
      | cons r2 r3 =>
        cases r3
        rw [hy _ _ _ r2]
        exact ⟨_, rfl⟩
  | ex c s1 => rw [e] at h'; exact h'
  | bad => rw [e] at h'; exact h'
theorem pe2_isT (hX : OfM X M) {n : String} {x : Str} {cs : List String} {q : Pos} (h : IsT M n cs) (ha : PE2 X M.cv W a fa) (hg : Gl X "isinstance") (hm : M.mg "isinstance" = none) (hg2 : Gl X x) (hm2 : M.mg x = none) (hv : bootBuiltins x = some (.type n))
    (hn2 : x ≠ "__name__" := by decide) (hd2 : (x == ("__debug__" : Str)) = false := by decide) (he : starEach [a, .Name x q] X.env = (false, eval a X.env) :: starEach [.Name x q] X.env := by rfl) (hpl : (backTo pos (starEach [.Name x q] X.env)).any (·.1) = false := by rfl) :
    PE2 X M.cv W (.Call (.Name "isinstance" p) [a, .Name x q] [] pos) (E.blt (O.isiT n cs) (E.cons fa (E.cons (E.c (.ty n)) E.nil))) := by
  rw [← hX.mg] at hm hm2
  exact ⟨(pe_callB call_isi hg hm (by decide +kernel) (pa2_cons ha (pa2_cons (pe2_ty hg2 hm2 hv hn2 hd2) pa2_nil) he).pa (he := he) (hpl := hpl)).monoY fun σ H Q h' => isi_mono (y := .ty n) (fun m H v r => by cases r; rfl) (o_isiT hX h) rfl h'⟩
theorem pe2_isO (hX : OfM X M) {D : String} {x : Str} {L : List (String × Bool)} {q : Pos} (h : IsO M D L) (ha : PE2 X M.cv W a fa) (hg : Gl X "isinstance") (hm : M.mg "isinstance" = none) (hg2 : Gl X x) (hm2 : M.mg x = some (.ref (M.cv D)))
    (hd2 : (x == ("__debug__" : Str)) = false := by decide) (he : starEach [a, .Name x q] X.env = (false, eval a X.env) :: starEach [.Name x q] X.env := by rfl) (hpl : (backTo pos (starEach [.Name x q] X.env)).any (·.1) = false := by rfl) :
    PE2 X M.cv W (.Call (.Name "isinstance" p) [a, .Name x q] [] pos) (E.blt (O.isiO L) (E.cons fa (E.cons (E.c (.con (M.cv D))) E.nil))) := by
  rw [← hX.mg] at hm hm2
  exact ⟨(pe_callB call_isi hg hm (by decide +kernel) (pa2_cons ha (pa2_cons (pe2_con hg2 hm2 hd2) pa2_nil) he).pa (he := he) (hpl := hpl)).monoY fun σ H Q h' => isi_mono (y := .ref (M.cv D)) (fun m H v r => by cases r; rfl) (o_isiO hX h) rfl h'⟩
/-- isinstance(e, X) in the suite of except .. as e (e in slot i) -/
def _root_.Y.E.isx (i : Nat) (a : Addr) (b : Bool) : EF := fun ρ s => match ρ[i]? with
  | some (some (.con a')) => if a' = a then .ok (.bl b) s else .bad
  | _ => .bad
structure IsX (M : Mo) (c : String) (cval : Value) (b : Bool) : Prop where
  ec : ExcC M.K (M.cv c)
  kit : PySem.W.kitOne M.K (.ref (M.cv c)) cval = some b
theorem pe2_isx (hX : OfM X M) {ad : Addr} {oe : Obj} {pn : List (Addr × Obj)} {c : String} {cvl : Value} {vv : V} {b : Bool} {i : Nat} {x n : Str} {q1 q2 : Pos} (hz : L2N.Zn (.ref (M.cv c)) none oe) (hf : ∃ vs, oe.data = .fields vs) (h : IsX M c cvl b)
    (hg : Gl X "isinstance") (hm : M.mg "isinstance" = none) (hN : X.N[i]? = some n) (hv : Vis X.env.scope n) (hd : (n == ("__debug__" : Str)) = false) (hcd : (n == ("__classdict__" : Str)) = false) (hc : PE (X.suite ad ((ad, oe) :: pn)) (.Name x q2) (tC vv)) (hr : ∀ u, RelV vv u → u = cvl)
    (he : starEach [.Name n q1, .Name x q2] X.env = (false, eval (.Name n q1) X.env) :: starEach [.Name x q2] X.env := by rfl) (hs : starEach [.Name x q2] X.env = (false, eval (.Name x q2) X.env) :: starEach [] X.env := by rfl) (hpl : (backTo pos (starEach [.Name x q2] X.env)).any (·.1) = false := by rfl) :
    PE2 (X.suite ad ((ad, oe) :: pn)) M.cv W0 (.Call (.Name "isinstance" p) [.Name n q1, .Name x q2] [] pos) (E.isx i ad b) := by
  have h1 := h.ec
  have h2 := h.kit
  rw [← hX.K] at h1 h2
  rw [← hX.mg] at hm
  have hv' : PE (X.suite ad ((ad, oe) :: pn)) (.Name n q1) (tVar i) := pe_var (X := X.suite ad ((ad, oe) :: pn)) hN hv hd hcd
  refine ⟨(pe_callB (X := X.suite ad ((ad, oe) :: pn)) (call_isE h1 hz.zc hf) hg hm (by decide +kernel) (pa_cons hv' (pa_cons hc pa_nil hs) he) (he := he) (hpl := hpl)).monoY fun σ H Q ⟨m, s, ρ, R, S, h⟩ => ?_⟩
  have h' : EPost X.K M.cv m H (fun c H' => W0 c none σ H') Q (match ρ[i]? with
    | some (some (.con a')) => if a' = ad then .ok (.bl b) s else .bad
    | _ => .bad) := h
  split at h'
  · rename_i a' ea
    split at h'
    · rename_i e2
      subst e2
      obtain ⟨v, q1, q2⟩ := S.2 i _ ea
      cases q2
      exact ⟨_, q1, vv, cvl, b, rfl, hr, h2, h' m H _ (.refl _ _) R (.bl b)⟩
    · exact h'.elim
  · exact h'.elim
end
end Y

set_option Elab.async false
set_option linter.all false
set_option maxRecDepth 100000
set_option maxHeartbeats 4000000
namespace Y
open PySem PySem.Spec PyProof.Rows L2

/-! ### built-ins by values -/
namespace O
def int1 : List PV → Sto → OR
  | [.int i], s => some (.int i, s)
  | [.bl b], s => some (.int (if b then 1 else 0), s)
  | _, _ => none
def len1 : List PV → Sto → OR
  | [.str x], s => if x.length ≤ sizeLine then some (.int x.length, s) else none
  | [.tup ps], s => some (.int ps.length, s)
  | [.ref n], s => (match s[n]? with
    | some (.lst ps) => some (.int ps.length, s)
    | some (.frz ps) => some (.int ps.length, s)
    | some (.dct kvs) => some (.int kvs.length, s)
    | _ => none)
  | _, _ => none
def ord1 : List PV → Sto → OR
  | [.str [c]], s => some (.int c, s)
  | _, _ => none
def max2 : List PV → Sto → OR
  | [.int i, .int j], s => some (.int (if j > i then j else i), s)
  | _, _ => none
def min2 : List PV → Sto → OR
  | [.int i, .int j], s => some (.int (if j < i then j else i), s)
  | _, _ => none
def str1 : List PV → Sto → OR
  | [.int i], s => if i.natAbs.log2 < 1920 then some (.str (S (toString i)), s) else none
  | [.str x], s => some (.str x, s)
  | _, _ => none
def list1 : List PV → Sto → OR
  | [.tup ps], s => some (.ref s.length, s ++ [.lst ps])
  | [.ref n], s => (match s[n]? with
    | some (.lst ps) => some (.ref s.length, s ++ [.lst ps])
    | some (.frz ps) => some (.ref s.length, s ++ [.lst ps])
    | _ => none)
  | _, _ => none
def tuple1 : List PV → Sto → OR
  | [.tup ps], s => some (.tup ps, s)
  | [.ref n], s => (match s[n]? with
    | some (.lst ps) => some (.tup ps, s)
    | some (.frz ps) => some (.tup ps, s)
    | _ => none)
  | _, _ => none
def intsOf : List PV → Option (List Int)
  | [] => some []
  | .int i :: r => (intsOf r).map (i :: ·)
  | _ => none
def strsOf : List PV → Option (List (List Nat))
  | [] => some []
  | .str i :: r => (strsOf r).map (i :: ·)
  | _ => none
def sum1 : List PV → Sto → OR
  | [.ref n], s => (match s[n]? with
    | some (.lst ps) => (intsOf ps).map fun ns => (.int ns.sum, s)
    | _ => none)
  | _, _ => none
/-- the greatest: some item that none exceeds -/
def maxI : List Int → Option Int
  | [] => none
  | [i] => some i
  | i :: r => (maxI r).map fun j => if j < i then i else j
def max1 : List PV → Sto → OR
  | [.ref n], s => (match s[n]? with
    | some (.lst ps) => (match intsOf ps with
      | some ns => (maxI ns).map fun k => (.int k, s)
      | none => none)
    | _ => none)
  | _, _ => none
def append : PV → List PV → Sto → OR
  | .ref n, [v], s => (match s[n]? with
    | some (.lst ps) => if ps.length < sizeLine then some (.non, s.set n (.lst (ps ++ [v]))) else none
    | _ => none)
  | _, _, _ => none
def extend : PV → List PV → Sto → OR
  | .ref n, [.ref k], s => (match s[n]?, s[k]? with
    | some (.lst ps), some (.lst qs) => if ps.length + qs.length ≤ sizeLine then some (.non, s.set n (.lst (ps ++ qs))) else none
    | _, _ => none)
  | _, _, _ => none
def pop0 : PV → List PV → Sto → OR
  | .ref n, [], s => (match s[n]? with
    | some (.lst ps) => (match ps[ps.length - 1]? with
      | some v => some (v, s.set n (.lst ps.dropLast))
      | none => none)
    | _ => none)
  | _, _, _ => none
end O
section
variable {K : PySem.W.Frag} {cv : String → Addr} {m : List Addr} {H : Hp} {st : Sto}
theorem ints_rep : ∀ {ps : List PV} {vs : List V} {ns : List Int}, RepL K m H ps vs → O.intsOf ps = some ns → vs = ns.map V.int ∧ ps = ns.map PV.int
  | [], _, ns, .nil, h => by cases h; exact ⟨rfl, rfl⟩
  | p :: ps, _, ns, .cons r t, h => by
    cases r with
    | int i =>
      rw [O.intsOf] at h
      cases e : O.intsOf ps with
      | none => rw [e] at h; cases h
      | some ks =>
        rw [e] at h
        cases h
        obtain ⟨h1, h2⟩ := ints_rep t e
        exact ⟨by rw [h1]; rfl, by rw [h2]; rfl⟩
    | _ => cases h
theorem strs_rep : ∀ {ps : List PV} {vs : List V} {ns : List (List Nat)}, RepL K m H ps vs → O.strsOf ps = some ns → vs = (ns.map fun x => (⟨x.toArray⟩ : Str)).map V.str ∧ ps = ns.map PV.str
  | [], _, ns, .nil, h => by cases h; exact ⟨rfl, rfl⟩
  | p :: ps, _, ns, .cons r t, h => by
    cases r with
    | str i =>
      rw [O.strsOf] at h
      cases e : O.strsOf ps with
      | none => rw [e] at h; cases h
      | some ks =>
        rw [e] at h
        cases h
        obtain ⟨h1, h2⟩ := strs_rep t e
        exact ⟨by rw [h1]; rfl, by rw [h2]; rfl⟩
    | _ => cases h
theorem strs_str {ns : List (List Nat)} : RepL K m H (ns.map PV.str) ((ns.map fun x => (⟨x.toArray⟩ : Str)).map V.str) := by
  induction ns with
  | nil => exact .nil
  | cons a r ih => exact .cons (.str a) ih
theorem ints_int {ns : List Int} : RepL K m H (ns.map PV.int) (ns.map V.int) := by
  induction ns with
  | nil => exact .nil
  | cons a r ih => exact .cons (.int a) ih
theorem maxI_spec : ∀ {ns : List Int} {k : Int}, O.maxI ns = some k → k ∈ ns ∧ ∀ y ∈ ns, y ≤ k
  | [], k, h => by cases h
  | [i], k, h => by
    cases h
    exact ⟨List.mem_cons_self, fun y hy => by simp at hy; omega⟩
  | i :: j :: r, k, h => by
    rw [O.maxI] at h
    · cases e : O.maxI (j :: r) with
      | none => rw [e] at h; cases h
      | some q =>
        rw [e] at h
        obtain ⟨h1, h2⟩ := maxI_spec e
        have h' : (if q < i then i else q) = k := Option.some.inj h
        by_cases c : q < i
        · rw [if_pos c] at h'
          subst h'
          refine ⟨List.mem_cons_self, fun y hy => ?_⟩
          rcases List.mem_cons.mp hy with z | z
          · omega
          · have := h2 y z; omega
        · rw [if_neg c] at h'
          subst h'
          refine ⟨List.mem_cons_of_mem _ h1, fun y hy => ?_⟩
          rcases List.mem_cons.mp hy with z | z
          · omega
          · exact h2 y z
    · intro z; cases z
end
section
variable {X : Cx} {cv : String → Addr} {K : PySem.W.Frag}
theorem o_int1 : OpN K cv (fun xs H Q => (∃ i, xs = [.int i] ∧ Q (.int i) H) ∨ ∃ k, xs = [.bl k] ∧ Q (.int (if k then 1 else 0)) H) O.int1 := fun m st H ps xs Q R r q => by
  cases r with
  | nil => exact q.elim
  | cons r1 r2 =>
    cases r2 with
    | nil =>
      cases r1 with
      | int i => exact .inl ⟨i, rfl, OPost.pure R (.int i) q⟩
      | bl b => exact .inr ⟨b, rfl, OPost.pure R (.int _) q⟩
      | _ => exact q.elim
    | cons _ _ => cases r1 <;> exact q.elim
abbrev rLenY (K : PySem.W.Frag) : List V → Hp → VK → Prop := fun xs H Q => (∃ x n, xs = [x] ∧ LenV K x H n ∧ Q (.int n) H) ∨ ∃ a kvs, xs = [V.ref a] ∧ H a = some (.dK kvs) ∧ Q (.int kvs.length) H
theorem call_lenY : CallR X (.builtin "len") (rLenY X.K) := call_len.or call_lenD
theorem o_len1 : OpN K cv (rLenY K) O.len1 := fun m st H ps xs Q R r q => by
  cases r with
  | nil => exact q.elim
  | cons r1 r2 =>
    cases r2 with
    | nil =>
      cases r1 with
      | str x =>
        have q' : OPost K cv m H Q (if x.length ≤ sizeLine then some (.int x.length, st) else none) := q
        split at q'
        · rename_i h
          exact .inl ⟨_, x.length, rfl, ⟨by rw [len_S]; exact h, (len_S x).symm⟩, OPost.pure R (.int _) q'⟩
        · exact q'.elim
      | @tup ps a vs ha ra => exact .inl ⟨_, ps.length, rfl, .inr ⟨vs, ha.sq, ra.length⟩, OPost.pure R (.int _) q⟩
      | @ref n a hn =>
        have q' : OPost K cv m H Q (match st[n]? with
          | some (.lst ps) => some (.int ps.length, st)
          | some (.frz ps) => some (.int ps.length, st)
          | some (.dct kvs) => some (.int kvs.length, st)
          | _ => none) := q
        split at q'
        · rename_i ps e
          obtain ⟨vs, h1, h2⟩ := R.lst hn e
          exact .inl ⟨_, ps.length, rfl, .inl ⟨vs, SqL.of h1, h2.length⟩, OPost.pure R (.int _) q'⟩
        · rename_i ps e
          obtain ⟨vs, h1, h2⟩ := R.frz hn e
          exact .inl ⟨_, ps.length, rfl, .inl ⟨vs, h1, h2.length⟩, OPost.pure R (.int _) q'⟩
        · rename_i kvs e
          obtain ⟨ks, h1, h2, h3⟩ := R.dct hn e
          have hl : kvs.length = ks.length := by simpa using h3.length
          rw [hl] at q'
          exact .inr ⟨a, ks, rfl, h1, OPost.pure R (.int _) q'⟩
        · exact q'.elim
      | _ => exact q.elim
    | cons _ _ => cases r1 <;> exact q.elim
theorem o_ord1 : OpN K cv (fun xs H Q => ∃ x, xs = [.str x] ∧ x.length = 1 ∧ Q (.int (x.cps.getD 0 0 : Nat)) H) O.ord1 := fun m st H ps xs Q R r q => by
  have q0 := q
  cases r with
  | nil => exact q.elim
  | cons r1 r2 =>
    cases r2 with
    | nil =>
      cases r1 with
      | str x =>
        cases x with
        | nil => exact q.elim
        | cons c t =>
          cases t with
          | nil => exact ⟨_, rfl, by simp [Str.length], OPost.pure R (.int _) q⟩
          | cons _ _ => exact q.elim
      | _ => exact q.elim
    | cons _ _ => cases r1 <;> (try exact q.elim) <;> (rename_i x; cases x <;> (try exact q.elim) <;> (rename_i t; cases t <;> exact q.elim))
theorem o_two {g : List PV → Sto → OR} {f : Int → Int → Int} (h : ∀ i j s, g [.int i, .int j] s = some (.int (f i j), s)) (h2 : ∀ (ps : List PV) (s : Sto), (∀ i j, ps ≠ [.int i, .int j]) → g ps s = none) :
    OpN K cv (fun xs H Q => ∃ i j, xs = [.int i, .int j] ∧ Q (.int (f i j)) H) g := fun m st H ps xs Q R r q => by
  by_cases e : ∃ i j, ps = [.int i, .int j]
  · obtain ⟨i, j, rfl⟩ := e
    rw [h] at q
    cases r with
    | cons r1 r2 => cases r2 with
      | cons r2 r3 => cases r3; cases r1; cases r2; exact ⟨i, j, rfl, OPost.pure R (.int _) q⟩
  · rw [h2 ps st fun i j z => e ⟨i, j, z⟩] at q
    exact q.elim
theorem o_max2 : OpN K cv (fun xs H Q => ∃ i j, xs = [.int i, .int j] ∧ Q (.int (if j > i then j else i)) H) O.max2 := o_two (fun _ _ _ => rfl) fun ps s h => by
  unfold O.max2
  split
  · exact absurd rfl (h _ _)
  · rfl
theorem o_min2 : OpN K cv (fun xs H Q => ∃ i j, xs = [.int i, .int j] ∧ Q (.int (if j < i then j else i)) H) O.min2 := o_two (fun _ _ _ => rfl) fun ps s h => by
  unfold O.min2
  split
  · exact absurd rfl (h _ _)
  · rfl
theorem o_list1 : OpN K cv (fun xs H Q => ∃ p ys, xs = [.ref p] ∧ (SqL K H p ys ∨ SqT K H p ys) ∧ ∀ l, H l = none → Q (.ref l) (upd H l (.lst ys))) O.list1 := fun m st H ps xs Q R r q => by
  cases r with
  | nil => exact q.elim
  | cons r1 r2 =>
    cases r2 with
    | nil =>
      cases r1 with
      | @tup ps a vs ha ra => exact ⟨a, vs, rfl, .inr ha.sq, OPost.newL R ra q⟩
      | @ref n a hn =>
        have q' : OPost K cv m H Q (match st[n]? with
          | some (.lst ps) => some (.ref st.length, st ++ [.lst ps])
          | some (.frz ps) => some (.ref st.length, st ++ [.lst ps])
          | _ => none) := q
        split at q'
        · rename_i ps e
          obtain ⟨vs, h1, h2⟩ := R.lst hn e
          exact ⟨a, vs, rfl, .inl (SqL.of h1), OPost.newL R h2 q'⟩
        · rename_i ps e
          obtain ⟨vs, h1, h2⟩ := R.frz hn e
          exact ⟨a, vs, rfl, .inl h1, OPost.newL R h2 q'⟩
        · exact q'.elim
      | _ => exact q.elim
    | cons _ _ => cases r1 <;> exact q.elim
theorem o_tuple1 : OpN K cv (fun xs H Q => ∃ p ys, xs = [.ref p] ∧ ((SqL K H p ys ∧ ∀ l, H l = none → Q (.ref l) (upd H l (.tup ys))) ∨ (SqT K H p ys ∧ Q (.ref p) H))) O.tuple1 := fun m st H ps xs Q R r q => by
  cases r with
  | nil => exact q.elim
  | cons r1 r2 =>
    cases r2 with
    | nil =>
      cases r1 with
      | @tup ps a vs ha ra => exact ⟨a, vs, rfl, .inr ⟨ha.sq, OPost.pure R (.tup ha ra) q⟩⟩
      | @ref n a hn =>
        have q' : OPost K cv m H Q (match st[n]? with
          | some (.lst ps) => some (.tup ps, st)
          | some (.frz ps) => some (.tup ps, st)
          | _ => none) := q
        split at q'
        · rename_i ps e
          obtain ⟨vs, h1, h2⟩ := R.lst hn e
          exact ⟨a, vs, rfl, .inl ⟨SqL.of h1, OPost.newT R h2 q'⟩⟩
        · rename_i ps e
          obtain ⟨vs, h1, h2⟩ := R.frz hn e
          exact ⟨a, vs, rfl, .inl ⟨h1, OPost.newT R h2 q'⟩⟩
        · exact q'.elim
      | _ => exact q.elim
    | cons _ _ => cases r1 <;> exact q.elim
theorem o_sum1 : OpN K cv (rSum K) O.sum1 := fun m st H ps xs Q R r q => by
  cases r with
  | nil => exact q.elim
  | cons r1 r2 =>
    cases r2 with
    | nil =>
      cases r1 with
      | @ref n a hn =>
        have q' : OPost K cv m H Q (match st[n]? with
          | some (.lst ps) => (O.intsOf ps).map fun ns => (.int ns.sum, st)
          | _ => none) := q
        split at q'
        · rename_i ps e
          obtain ⟨vs, h1, h2⟩ := R.lst hn e
          cases ei : O.intsOf ps with
          | none => rw [ei] at q'; exact q'.elim
          | some ns =>
            rw [ei] at q'
            obtain ⟨e1, _⟩ := ints_rep h2 ei
            subst e1
            exact ⟨a, ns, rfl, SqL.of h1, OPost.pure R (.int _) q'⟩
        · exact q'.elim
      | _ => exact q.elim
    | cons _ _ => cases r1 <;> exact q.elim
theorem o_max1 : OpN K cv (rMax K) O.max1 := fun m st H ps xs Q R r q => by
  cases r with
  | nil => exact q.elim
  | cons r1 r2 =>
    cases r2 with
    | nil =>
      cases r1 with
      | @ref n a hn =>
        have q' : OPost K cv m H Q (match st[n]? with
          | some (.lst ps) => (match O.intsOf ps with
            | some ns => (O.maxI ns).map fun k => (.int k, st)
            | none => none)
          | _ => none) := q
        split at q'
        · rename_i ps e
          obtain ⟨vs, h1, h2⟩ := R.lst hn e
          split at q'
          · rename_i ns ei
            obtain ⟨e1, _⟩ := ints_rep h2 ei
            subst e1
            cases ek : O.maxI ns with
            | none => rw [ek] at q'; exact q'.elim
            | some k =>
              rw [ek] at q'
              obtain ⟨k1, k2⟩ := maxI_spec ek
              refine ⟨a, ns, rfl, SqL.of h1, List.length_pos_of_mem k1, fun j j1 j2 => ?_⟩
              have ejk : j = k := by
                have := k2 j j1
                have := j2 k k1
                omega
              subst ejk
              exact OPost.pure R (.int _) q'
          · exact q'.elim
        · exact q'.elim
      | _ => exact q.elim
    | cons _ _ => cases r1 <;> exact q.elim
theorem o_append : OpM K cv rAppend O.append := fun m st H px x ps xs Q R rx r q => by
  cases rx with
  | @ref n a hn =>
    cases r with
    | nil => exact q.elim
    | @cons p v _ _ r1 r2 =>
      cases r2 with
      | cons _ _ => exact q.elim
      | nil =>
        have q' : OPost K cv m H Q (match st[n]? with
          | some (.lst ps) => if ps.length < sizeLine then some (.non, st.set n (.lst (ps ++ [p]))) else none
          | _ => none) := q
        split at q'
        · rename_i ps e
          obtain ⟨vs, h1, h2⟩ := R.lst hn e
          split at q'
          · rename_i hl
            exact ⟨a, vs, v, rfl, rfl, h1, by rw [← h2.length]; exact hl, OPost.wrL R hn (h2.append (.cons r1 .nil)) .non q'⟩
          · exact q'.elim
        · exact q'.elim
  | _ => cases r with
    | nil => exact q.elim
    | cons _ r2 => cases r2 <;> exact q.elim
theorem o_extend : OpM K cv rExtend O.extend := fun m st H px x ps xs Q R rx r q => by
  cases rx with
  | @ref n a hn =>
    cases r with
    | nil => exact q.elim
    | @cons p v _ _ r1 r2 =>
      cases r2 with
      | cons _ _ => cases r1 <;> exact q.elim
      | nil =>
        cases r1 with
        | @ref k b hk =>
          have q' : OPost K cv m H Q (match st[n]?, st[k]? with
            | some (.lst ps), some (.lst qs) => if ps.length + qs.length ≤ sizeLine then some (.non, st.set n (.lst (ps ++ qs))) else none
            | _, _ => none) := q
          split at q'
          · rename_i ps qs e1 e2
            obtain ⟨vs, h1, h2⟩ := R.lst hn e1
            obtain ⟨us, h3, h4⟩ := R.lst hk e2
            split at q'
            · rename_i hl
              exact ⟨a, b, vs, us, rfl, rfl, h1, h3, by rw [← h2.length, ← h4.length]; exact hl, OPost.wrL R hn (h2.append h4) .non q'⟩
            · exact q'.elim
          · exact q'.elim
        | _ => exact q.elim
  | _ => cases r with
    | nil => exact q.elim
    | cons r1 r2 => cases r2 <;> cases r1 <;> exact q.elim
theorem RepL.dropLast {m : List Addr} {H : Hp} {ps : List PV} {vs : List V} (r : RepL K m H ps vs) : RepL K m H ps.dropLast vs.dropLast := by
  rw [List.dropLast_eq_take, List.dropLast_eq_take, r.length]
  exact r.take _
theorem o_pop0 : OpM K cv rPop O.pop0 := fun m st H px x ps xs Q R rx r q => by
  cases rx with
  | @ref n a hn =>
    cases r with
    | cons _ _ => exact q.elim
    | nil =>
      have q' : OPost K cv m H Q (match st[n]? with
        | some (.lst ps) => (match ps[ps.length - 1]? with
          | some v => some (v, st.set n (.lst ps.dropLast))
          | none => none)
        | _ => none) := q
      split at q'
      · rename_i ps e
        obtain ⟨vs, h1, h2⟩ := R.lst hn e
        cases ev : ps[ps.length - 1]? with
        | none => simp only [ev] at q'; exact q'.elim
        | some p =>
          simp only [ev] at q'
          obtain ⟨v, hv, rv⟩ := h2.get ev
          exact ⟨a, vs, v, rfl, rfl, h1, by rw [← h2.length]; exact hv, OPost.wrL R hn h2.dropLast rv q'⟩
      · exact q'.elim
  | _ => cases r <;> exact q.elim
variable {W : WX} {a o : Expr} {fa fo : EF} {fr : AF} {es : List Expr} {apos cpos : Pos}
theorem tyV_of {T : String} {m : List Addr} {st : Sto} {H : Hp} {p : PV} {v : V} (R : Rel K cv m st H) (r : RepV K m H p v) (h : O.tyOf p st = some (.t T)) (hT : T = "list" ∨ T = "str") : tyV K T v H := by
  cases r with
  | str x =>
    cases h
    rfl
  | @ref n a hn =>
    have e2 : (match st[n]? with
      | some (.lst _) => some (TyN.t "list")
      | some (.frz _) => some (.t "list")
      | some (.dct _) => some (.t "dict")
      | some (.set _) => some (.t "set")
      | some (.ins C _) => some (.own C)
      | none => none) = some (.t T) := h
    split at e2
    · rename_i ps eq
      cases e2
      obtain ⟨vs, h1, _⟩ := R.lst hn eq
      exact .inl ⟨rfl, _, SqL.of h1⟩
    · rename_i ps eq
      cases e2
      obtain ⟨vs, h1, _⟩ := R.frz hn eq
      exact .inl ⟨rfl, _, h1⟩
    · cases e2; exact absurd hT (by decide)
    · cases e2; exact absurd hT (by decide)
    · cases e2
    · cases e2
  | _ => first | (cases h; exact absurd hT (by decide)) | cases h
/-- o.m(..) of a built-in type T -/
def _root_.Y.E.bmT (T : String) (g : PV → List PV → Sto → OR) (o : EF) (a : AF) : EF := fun ρ s => (o ρ s).bind fun x s1 => match O.tyOf x s1 with
  | some (.t T') => if T' = T then (a ρ s1).bind fun xs s2 => .of (g x xs s2) else .bad
  | _ => .bad
theorem bmT_mono {T : String} (hT : T = "list" ∨ T = "str") {r : V → List V → Hp → VK → Prop} {g : PV → List PV → Sto → OR} (hg : OpM X.K cv r g) {σ : L2.St} {H : Hp} {Q : VK} {to : TE} {t : TA} (h1 : ∀ Q, T2 X.K cv W fo σ H Q → to σ H Q) (h2 : ∀ H Q, T2A X.K cv W fr σ H Q → t σ H Q)
    (h : T2 X.K cv W (E.bmT T g fo fr) σ H Q) : to σ H fun x H1 => tyV X.K T x H1 ∧ t σ H1 fun xs H2 => r x xs H2 Q := by
  obtain ⟨m, s, ρ, R, S, h⟩ := h
  refine h1 _ ⟨m, s, ρ, R, S, epost_bind h fun px s1 m1 H1 x e1 R1 r1 h1 => ?_⟩
  cases e : O.tyOf px s1 with
  | none => simp only [e] at h1; exact h1.elim
  | some T' =>
    cases T' with
    | own C => simp only [e] at h1; exact h1.elim
    | t T' =>
      simp only [e] at h1
      split at h1
      · rename_i eT
        subst eT
        refine ⟨tyV_of R1 r1 e hT, h2 _ _ ⟨m1, s1, ρ, R1, S.mono e1, apost_bind h1 fun ps s2 m2 H2 vs e2 R2 r2 h2 => ?_⟩⟩
        exact hg m2 s2 H2 px x ps vs Q R2 (r1.mono e2) r2 (OPost.of h2)
      · exact h1.elim
theorem pe2_bm {T id : String} {name : Str} (hT : T = "list" ∨ T = "str") {r : V → List V → Hp → VK → Prop} {g : PV → List PV → Sto → OR} (pa : PlainAttrs T) (slot : Slot T name id) (hty : typeOf (.builtin id) = pure (.type "method_descriptor")) (hm : MtR X id r) (hg : OpM X.K cv r g) (ho : PE2 X cv W o fo) (ha : PA2 X cv W (a :: es) fr)
    (hbase : attributeBase o name X.env (eval o X.env) = eval o X.env := by rfl)
    (hfew : ((backTo cpos (starEach (a :: es) X.env)).all (fun x => !x.1) && (backToKw cpos (keywordEach [] X.env)).all (fun x => x.1.isSome)
      && decide ((a :: es).length + ([] : List Keyword).length + (if ([] : List Keyword).isEmpty then 0 else 1) < 30)) = true := by rfl)
    (hline : (apos.endLine == cpos.line) = true := by rfl) (hs : starEach (a :: es) X.env = (false, eval a X.env) :: starEach es X.env := by rfl) (hplain : (backTo cpos (starEach es X.env)).any (·.1) = false := by rfl) : PE2 X cv W (.Call (.Attribute o name apos) (a :: es) [] cpos) (E.bmT T g fo fr) :=
  ⟨(pe_bm pa slot hty hm ho.pe ha.pa hbase hfew hline hs hplain).monoY fun σ H Q h => bmT_mono hT hg (fun _ z => z) (fun _ _ z => z) h⟩
theorem pe2_bm0 {T id : String} {name : Str} (hT : T = "list" ∨ T = "str") {r : V → List V → Hp → VK → Prop} {g : PV → List PV → Sto → OR} (pa : PlainAttrs T) (slot : Slot T name id) (hty : typeOf (.builtin id) = pure (.type "method_descriptor")) (hm : MtR X id r) (hg : OpM X.K cv r g) (ho : PE2 X cv W o fo)
    (hbase : attributeBase o name X.env (eval o X.env) = eval o X.env := by rfl) (hline : (apos.endLine == cpos.line) = true := by rfl) : PE2 X cv W (.Call (.Attribute o name apos) [] [] cpos) (E.bmT T g fo E.nil) :=
  ⟨(pe_bm0 pa slot hty hm ho.pe hbase hline).monoY fun σ H Q h => bmT_mono (t := fun σ H Q => Q [] H) hT hg (fun _ z => z) (fun _ _ ⟨m, s, ρ, R, S, h⟩ => (show APost X.K cv m _ _ _ (.ok [] s) from h) m _ [] (.refl _ _) R .nil) h⟩

/-! ### list comprehensions: one name, at most one test -/
def _root_.Y.T.yes : TF := fun _ s => .ok true s
def ER.noex {α : Type} (r : ER α) : ER α := match r with
  | .ex _ _ => .bad
  | r => r
/-- a turn's new item -/
def lcPut (d : Nat) (y : PV) (s : Sto) : Option Sto := match s[d]? with
  | some (.lst acc) => if acc.length < sizeLine then some (s.set d (.lst (acc ++ [y]))) else none
  | _ => none
def lcP (i : Nat) (tt : TF) (e : EF) (d : Nat) : List PV → Rho → Sto → ER PV
  | [], _, s => .ok (.ref d) s
  | p :: ps, ρ, s => (tt (ρ.set i (some p)) s).noex.bind fun b s1 => if b = true then (e (ρ.set i (some p)) s1).noex.bind fun y s2 => (match lcPut d y s2 with
      | some s3 => lcP i tt e d ps ρ s3
      | none => .bad) else lcP i tt e d ps ρ s1
def lcL (i : Nat) (tt : TF) (e : EF) (d n : Nat) : Nat → Nat → Rho → Sto → ER PV
  | 0, j, _, s => (match Z.items n s with
    | some ps => (match ps[j]? with | none => .ok (.ref d) s | some _ => .bad)
    | none => .bad)
  | f + 1, j, ρ, s => (match Z.items n s with
    | some ps => (match ps[j]? with
      | none => .ok (.ref d) s
      | some p => (tt (ρ.set i (some p)) s).noex.bind fun b s1 => if b = true then (e (ρ.set i (some p)) s1).noex.bind fun y s2 => (match lcPut d y s2 with
          | some s3 => lcL i tt e d n f (j + 1) ρ s3
          | none => .bad) else lcL i tt e d n f (j + 1) ρ s1)
    | none => .bad)
namespace E
def lcV (i : Nat) (it : EF) (tt : TF) (e : EF) : EF := fun ρ s => (it ρ s).bind fun v s1 => match v with
  | .tup ps => lcP i tt e s1.length ps ρ (s1 ++ [.lst []])
  | .ref n => (match Z.items n s1 with
    | some ps => lcL i tt e s1.length n ps.length 0 ρ (s1 ++ [.lst []])
    | none => .bad)
  | _ => .bad
def lcR1 (i : Nat) (a : AF) (tt : TF) (e : EF) : EF := fun ρ s => (a ρ s).bind fun vs s1 => match vs with
  | [.int j] => if -(2 ^ 62) ≤ j ∧ j < 2 ^ 62 then lcP i tt e s1.length (Z.rng 0 j.toNat) ρ (s1 ++ [.lst []]) else .bad
  | _ => .bad
def lcR2 (i : Nat) (a : AF) (tt : TF) (e : EF) : EF := fun ρ s => (a ρ s).bind fun vs s1 => match vs with
  | [.int k, .int j] => if -(2 ^ 62) ≤ k ∧ k < 2 ^ 62 ∧ -(2 ^ 62) ≤ j ∧ j < 2 ^ 62 then lcP i tt e s1.length (Z.rng k (j - k).toNat) ρ (s1 ++ [.lst []]) else .bad
  | _ => .bad
end E
theorem wipe_set {σ : L2.St} {i : Nat} {v : V} : wipe ((wipe σ [i]).set i (some v)) [i] = wipe σ [i] := by
  show ((σ.set i none).set i (some v)).set i none = σ.set i none
  simp
theorem RS.lc {m : List Addr} {H : Hp} {ρ : Rho} {σ : L2.St} {p : PV} {v : V} {i : Nat} (S : RS K m H ρ σ) (r : RepV K m H p v) : RS K m H (ρ.set i (some p)) ((L2.wipe σ [i]).set i (some v)) := by
  show RS K m H (ρ.set i (some p)) ((σ.set i none).set i (some v))
  rw [List.set_set]
  exact S.set r i
theorem noexE {m : List Addr} {H : Hp} {Q : VK} {W W' : Value → Hp → Prop} {α : Type} {r : ER PV} {k : PV → Sto → ER PV} (h : EPost K cv m H W Q (r.noex.bind k)) {Q1 : VK}
    (n : ∀ p s' m' H' v, Ext m H m' H' → Rel K cv m' s' H' → RepV K m' H' p v → EPost K cv m' H' W Q (k p s') → Q1 v H') : EPost K cv m H W' Q1 r := by
  cases r with
  | ok p s => exact fun m' H' v e R q => n p s m' H' v e R q (EPost.ext e (show EPost K cv m H W Q (k p s) from h))
  | ex c s => exact h.elim
  | bad => exact h.elim
theorem noexT {m : List Addr} {H : Hp} {Q : VK} {W W' : Value → Hp → Prop} {r : ER Bool} {k : Bool → Sto → ER PV} (h : EPost K cv m H W Q (r.noex.bind k)) {Q1 : Bool → Hp → Prop}
    (n : ∀ p s' m' H', Ext m H m' H' → Rel K cv m' s' H' → EPost K cv m' H' W Q (k p s') → Q1 p H') : TPost K cv m H W' Q1 r := by
  cases r with
  | ok p s => exact fun m' H' e R => n p s m' H' e R (EPost.ext e (show EPost K cv m H W Q (k p s) from h))
  | ex c s => exact h.elim
  | bad => exact h.elim
/-- one turn: what the new item does -/
theorem lcPut_post {m : List Addr} {H : Hp} {s s3 : Sto} {d : Nat} {Da : Addr} {y : PV} {v : V} (R : Rel K cv m s H) (hd : m[d]? = some Da) (r : RepV K m H y v) (h : lcPut d y s = some s3) :
    ∃ acc, H Da = some (.lst acc) ∧ acc.length < sizeLine ∧ Ext m H m (upd H Da (.lst (acc ++ [v]))) ∧ Rel K cv m s3 (upd H Da (.lst (acc ++ [v]))) := by
  unfold lcPut at h
  split at h
  · rename_i ac e
    split at h
    · rename_i hl
      cases h
      obtain ⟨vs, h1, h2⟩ := R.lst hd e
      have ew : Ext m H m (upd H Da (.lst (vs ++ [v]))) := .write h1 (fun _ z => by cases z)
      exact ⟨vs, h1, by rw [← h2.length]; exact hl, ew, R.write hd ⟨_, upd_same, (h2.append (.cons r .nil)).mono ew⟩⟩
    · cases h
  · cases h
/-- the loop of a comprehension over fixed items -/
theorem lcP_loop {J : It} {tT : TT} {te : TE} {ft : TF} {fe : EF} {i : Nat} {ps : List PV} {m0 : List Addr} {H0 : Hp} {σ0 : L2.St} {ρ0 : Rho} {s0 : Sto} {Q : VK} {W : Value → Hp → Prop} (ht : ∀ σ H Q, T2T K cv W0 ft σ H Q → tT σ H Q) (he : ∀ σ H Q, T2 K cv W0 fe σ H Q → te σ H Q)
    (hstop : ∀ m H, Ext m0 H0 m H → J.stop ps.length H) (hgo : ∀ (i : Nat) (p : PV) m H, ps[i]? = some p → Ext m0 H0 m H → J.go i H)
    (hy : ∀ (i : Nat) (p : PV) m H x H', ps[i]? = some p → Ext m0 H0 m H → J.yld i H x H' → (∃ m', Ext m H m' H' ∧ (∀ s, Rel K cv m s H → Rel K cv m' s H') ∧ RepV K m' H' p x))
    (R : Rel K cv m0 s0 H0) (S : RS K m0 H0 ρ0 σ0) (h : EPost K cv m0 H0 W Q (lcP i ft fe s0.length ps ρ0 (s0 ++ [.lst []]))) : ∀ D, H0 D = none → ∃ W' : Nat → Nat → Hp → Prop, (∃ m, W' 0 m (upd H0 D (.lst []))) ∧ ∀ j n H, W' j n H →
      (J.stop j H ∧ Q (.ref D) H) ∨ (J.go j H ∧ ∃ Nx : Hp → Prop, (∀ H', Nx H' → ∃ m', m' < n ∧ W' (j + 1) m' H') ∧ ∀ x H', J.yld j H x H' → gName i x (wipe σ0 [i]) H' fun σ2 H2 => wipe σ2 [i] = wipe σ0 [i] ∧ tT σ2 H2 fun b H3 =>
        if b = true then te σ2 H3 fun y H4 => ∃ acc, H4 D = some (.lst acc) ∧ acc.length < sizeLine ∧ Nx (upd H4 D (.lst (acc ++ [y]))) else Nx H3) := fun D hD => by
  have e0 : Ext m0 H0 (m0 ++ [D]) (upd H0 D (.lst [])) := .push hD
  have R0 : Rel K cv (m0 ++ [D]) (s0 ++ [.lst []]) (upd H0 D (.lst [])) := R.push hD ⟨[], upd_same, .nil⟩
  have hd0 : (m0 ++ [D])[s0.length]? = some D := by rw [← R.len]; simp
  refine ⟨fun j n H => n = ps.length - j ∧ j ≤ ps.length ∧ ∃ m s, Ext (m0 ++ [D]) (upd H0 D (.lst [])) m H ∧ Rel K cv m s H ∧ EPost K cv m H W Q (lcP i ft fe s0.length (ps.drop j) ρ0 s), ⟨ps.length, by simp, Nat.zero_le _, _, _, .refl _ _, R0, EPost.ext e0 (by simpa using h)⟩, ?_⟩
  rintro j n H ⟨rfl, hj, m, s, e, R, h⟩
  by_cases hl : j < ps.length
  · have hp : ps[j]? = some ps[j] := List.getElem?_eq_getElem hl
    rw [List.drop_eq_getElem_cons hl] at h
    refine .inr ⟨hgo j _ m H hp (e0.trans e), fun H' => ∃ m s, Ext (m0 ++ [D]) (upd H0 D (.lst [])) m H' ∧ Rel K cv m s H' ∧ EPost K cv m H' W Q (lcP i ft fe s0.length (ps.drop (j + 1)) ρ0 s), fun H' ⟨m', s', e', R', h'⟩ => ⟨ps.length - (j + 1), by omega, rfl, hl, m', s', e', R', h'⟩, fun x H' y => ?_⟩
    obtain ⟨m1, e1, R1, r1⟩ := hy j _ m H x H' hp (e0.trans e) y
    have ee := (e0.trans e).trans e1
    refine ⟨wipe_set, ht _ _ _ ⟨m1, s, _, R1 s R, (S.mono ee).lc r1, noexT (EPost.ext e1 h) fun b s2 m2 H2 e2 R2 h2 => ?_⟩⟩
    cases b with
    | true =>
      rw [if_pos rfl] at h2 ⊢
      refine he _ _ _ ⟨m2, s2, _, R2, ((S.mono ee).lc r1).mono e2, noexE (α := Unit) h2 fun py s3 m3 H3 v e3 R3 r3 h3 => ?_⟩
      cases ep : lcPut s0.length py s3 with
      | none => simp only [ep] at h3; exact h3.elim
      | some s4 =>
        simp only [ep] at h3
        obtain ⟨acc, q1, q2, q3, q4⟩ := lcPut_post R3 ((((e.trans e1).trans e2).trans e3).at hd0) r3 ep
        exact ⟨acc, q1, q2, m3, s4, (((e.trans e1).trans e2).trans e3).trans q3, q4, EPost.ext q3 h3⟩
    | false =>
      rw [if_neg Bool.false_ne_true] at h2 ⊢
      exact ⟨m2, s2, (e.trans e1).trans e2, R2, h2⟩
  · have ej : j = ps.length := by omega
    subst ej
    rw [List.drop_length] at h
    exact .inl ⟨hstop m H (e0.trans e), h m H _ (.refl _ _) R (.ref (e.at hd0))⟩
theorem lcL_loop {tT : TT} {te : TE} {ft : TF} {fe : EF} {i n0 F0 : Nat} {a0 : Addr} {m0 : List Addr} {H0 : Hp} {σ0 : L2.St} {ρ0 : Rho} {s0 : Sto} {Q : VK} {W : Value → Hp → Prop} (ht : ∀ σ H Q, T2T K cv W0 ft σ H Q → tT σ H Q) (he : ∀ σ H Q, T2 K cv W0 fe σ H Q → te σ H Q)
    (ha : m0[n0]? = some a0) (R : Rel K cv m0 s0 H0) (S : RS K m0 H0 ρ0 σ0) (h : EPost K cv m0 H0 W Q (lcL i ft fe s0.length n0 F0 0 ρ0 (s0 ++ [.lst []]))) : ∀ D, H0 D = none → ∃ W' : Nat → Nat → Hp → Prop, (∃ m, W' 0 m (upd H0 D (.lst []))) ∧ ∀ j n H, W' j n H →
      ((Itl K a0).stop j H ∧ Q (.ref D) H) ∨ ((Itl K a0).go j H ∧ ∃ Nx : Hp → Prop, (∀ H', Nx H' → ∃ m', m' < n ∧ W' (j + 1) m' H') ∧ ∀ x H', (Itl K a0).yld j H x H' → gName i x (wipe σ0 [i]) H' fun σ2 H2 => wipe σ2 [i] = wipe σ0 [i] ∧ tT σ2 H2 fun b H3 =>
        if b = true then te σ2 H3 fun y H4 => ∃ acc, H4 D = some (.lst acc) ∧ acc.length < sizeLine ∧ Nx (upd H4 D (.lst (acc ++ [y]))) else Nx H3) := fun D hD => by
  have e0 : Ext m0 H0 (m0 ++ [D]) (upd H0 D (.lst [])) := .push hD
  have R0 : Rel K cv (m0 ++ [D]) (s0 ++ [.lst []]) (upd H0 D (.lst [])) := R.push hD ⟨[], upd_same, .nil⟩
  have hd0 : (m0 ++ [D])[s0.length]? = some D := by rw [← R.len]; simp
  refine ⟨fun j n H => ∃ m s, Ext (m0 ++ [D]) (upd H0 D (.lst [])) m H ∧ Rel K cv m s H ∧ EPost K cv m H W Q (lcL i ft fe s0.length n0 n j ρ0 s), ⟨F0, _, _, .refl _ _, R0, EPost.ext e0 h⟩, ?_⟩
  rintro j n H ⟨m, s, e, R, h⟩
  have ha' := (e0.trans e).at ha
  have its : ∀ ps, Z.items n0 s = some ps → ∃ vs, SqL K H a0 vs ∧ RepL K m H ps vs := fun ps q => by
    unfold Z.items at q
    split at q
    · rename_i ps' eq
      cases q
      obtain ⟨vs, q1, q2⟩ := R.lst ha' eq
      exact ⟨vs, SqL.of q1, q2⟩
    · rename_i ps' eq
      cases q
      exact R.frz ha' eq
    · cases q
  cases n with
  | zero =>
    rw [lcL] at h
    cases q : Z.items n0 s with
    | none => simp only [q] at h; exact h.elim
    | some ps =>
      simp only [q] at h
      obtain ⟨vs, q1, q2⟩ := its ps q
      cases e3 : ps[j]? with
      | none =>
        simp only [e3] at h
        exact .inl ⟨⟨vs, q1, by rw [← q2.length]; exact List.getElem?_eq_none_iff.mp e3⟩, h m H _ (.refl _ _) R (.ref (e.at hd0))⟩
      | some p => simp only [e3] at h; exact h.elim
  | succ n =>
    rw [lcL] at h
    cases q : Z.items n0 s with
    | none => simp only [q] at h; exact h.elim
    | some ps =>
      simp only [q] at h
      obtain ⟨vs, q1, q2⟩ := its ps q
      cases e3 : ps[j]? with
      | none =>
        simp only [e3] at h
        exact .inl ⟨⟨vs, q1, by rw [← q2.length]; exact List.getElem?_eq_none_iff.mp e3⟩, h m H _ (.refl _ _) R (.ref (e.at hd0))⟩
      | some p =>
        simp only [e3] at h
        obtain ⟨v, hv, rv⟩ := q2.get e3
        refine .inr ⟨⟨vs, v, q1, hv⟩, fun H' => ∃ m s, Ext (m0 ++ [D]) (upd H0 D (.lst [])) m H' ∧ Rel K cv m s H' ∧ EPost K cv m H' W Q (lcL i ft fe s0.length n0 n (j + 1) ρ0 s), fun H' ⟨m', s', e', R', h'⟩ => ⟨n, Nat.lt_succ_self _, m', s', e', R', h'⟩, fun x H' y => ?_⟩
        obtain ⟨rfl, y⟩ := y
        have ex : v = x := Option.some.inj (hv.symm.trans (y vs q1))
        subst ex
        have ee := e0.trans e
        refine ⟨wipe_set, ht _ _ _ ⟨m, s, _, R, (S.mono ee).lc rv, noexT h fun b s2 m2 H2 e2 R2 h2 => ?_⟩⟩
        cases b with
        | true =>
          rw [if_pos rfl] at h2 ⊢
          refine he _ _ _ ⟨m2, s2, _, R2, ((S.mono ee).lc rv).mono e2, noexE (α := Unit) h2 fun py s3 m3 H3 v e3 R3 r3 h3 => ?_⟩
          cases ep : lcPut s0.length py s3 with
          | none => simp only [ep] at h3; exact h3.elim
          | some s4 =>
            simp only [ep] at h3
            obtain ⟨acc, q1, q2, q3, q4⟩ := lcPut_post R3 (((e.trans e2).trans e3).at hd0) r3 ep
            exact ⟨acc, q1, q2, m3, s4, ((e.trans e2).trans e3).trans q3, q4, EPost.ext q3 h3⟩
        | false =>
          rw [if_neg Bool.false_ne_true] at h2 ⊢
          exact ⟨m2, s2, e.trans e2, R2, h2⟩
/-- the tests of a comprehension -/
structure PTs2 (X : Cx) (cv : String → Addr) (W : WX) (ifs : List Expr) (f : TF) : Prop where
  pt : ∃ t, PTs X ifs t ∧ ∀ σ H Q, T2T X.K cv W f σ H Q → t σ H Q
theorem pts2_nil : PTs2 X cv W [] T.yes := ⟨_, pts_nil, fun σ H Q ⟨m, s, ρ, R, S, h⟩ => h m H (.refl _ _) R⟩
theorem pts2_one {f : TF} (h : PT2 X cv W a f) : PTs2 X cv W [a] f := ⟨_, pts_one h.pt, fun _ _ _ z => z⟩
end
end Y

set_option Elab.async false
set_option linter.all false
set_option maxRecDepth 100000
set_option maxHeartbeats 4000000
namespace Y
open PySem PySem.Spec PyProof.Rows L2
section
variable {X : Cx} {cv : String → Addr} {W : WX} {a b elt : Expr} {fa fe : EF} {ft : TF} {far : AF} {ifs : List Expr} {scope : Scope} {x : Str} {i k : Nat} {pos spos px py p p2 : Pos} {y : Str}
/-- the element and the tests, judged in the comprehension's block -/
structure Blk (X : Cx) (cv : String → Addr) (scope : Scope) (x : Str) (i : Nat) (px : Pos) (ifs : List Expr) (ft : TF) (elt : Expr) (fe : EF) : Prop where
  ok : BlkOk X.N X.env.scope scope [(x, i)]
  g : ∀ (s : Shared) (H : Hp) (C : Addr) (cl : List (Str × Addr)) (fp : List Addr), PG (X.blk s H scope (compEnvC scope cl C X.env) fp) (.Name x px) (gName i)
  t : ∃ tt : TT, (∀ (s : Shared) (H : Hp) (C : Addr) (cl : List (Str × Addr)) (fp : List Addr), PTs (X.blk s H scope (compEnvC scope cl C X.env) fp) ifs tt) ∧ ∀ σ H Q, T2T X.K cv W0 ft σ H Q → tt σ H Q
  e : ∀ (s : Shared) (H : Hp) (C : Addr) (cl : List (Str × Addr)) (fp : List Addr), PE2 (X.blk s H scope (compEnvC scope cl C X.env) fp) cv W0 elt fe
abbrev tLcY (X : Cx) (cv : String → Addr) (wi : TI) (i : Nat) (tt : TT) (fe : EF) : TE := tLc wi (gName i) tt (T2 X.K cv W0 fe) [i]
theorem lcR1_mono {tt : TT} (ht : ∀ σ H Q, T2T X.K cv W0 ft σ H Q → tt σ H Q) {σ : L2.St} {H : Hp} {Q : VK} (h : T2 X.K cv W (E.lcR1 i far ft fe) σ H Q) : tLcY X cv (iRng1 (T2A X.K cv W far)) i tt fe σ H Q := by
  obtain ⟨m, s, ρ, R, S, h⟩ := h
  refine ⟨m, s, ρ, R, S, apost_bind h fun vs s1 m1 H1 us e1 R1 r1 h1 => ?_⟩
  split at h1
  · rename_i j
    split at h1
    · rename_i hj
      cases r1 with
      | cons r2 r3 =>
        cases r2; cases r3
        refine ⟨j, rfl, hj.1, hj.2, lcP_loop ht (fun _ _ _ z => z) (fun m H e => ?_) (fun i p m H hp e => (rng_get hp).1) (fun i p m H x H' hp e y => ?_) R1 (S.mono e1) h1⟩
        · show j.toNat ≤ _
          simp [Z.rng]
        · obtain ⟨rfl, rfl⟩ := y
          rw [(rng_get hp).2]
          exact ⟨m, .refl _ _, fun s R => R, .int _⟩
    · exact h1.elim
  · exact h1.elim
theorem lcR2_mono {tt : TT} (ht : ∀ σ H Q, T2T X.K cv W0 ft σ H Q → tt σ H Q) {σ : L2.St} {H : Hp} {Q : VK} (h : T2 X.K cv W (E.lcR2 i far ft fe) σ H Q) : tLcY X cv (iRng2 (T2A X.K cv W far)) i tt fe σ H Q := by
  obtain ⟨m, s, ρ, R, S, h⟩ := h
  refine ⟨m, s, ρ, R, S, apost_bind h fun vs s1 m1 H1 us e1 R1 r1 h1 => ?_⟩
  split at h1
  · rename_i k j
    split at h1
    · rename_i hj
      cases r1 with
      | cons r2 r3 =>
        cases r3 with
        | cons r3 r4 =>
        cases r2; cases r3; cases r4
        refine ⟨k, j, rfl, hj, lcP_loop ht (fun _ _ _ z => z) (fun m H e => ?_) (fun i p m H hp e => (rng_get hp).1) (fun i p m H x H' hp e y => ?_) R1 (S.mono e1) h1⟩
        · show (j - k).toNat ≤ _
          simp [Z.rng]
        · obtain ⟨rfl, rfl⟩ := y
          rw [(rng_get hp).2]
          exact ⟨m, .refl _ _, fun s R => R, .int _⟩
    · exact h1.elim
  · exact h1.elim
theorem epost_eq {K : PySem.W.Frag} {m : List Addr} {H : Hp} {Wv : Value → Hp → Prop} {Q Q1 : VK} {r : ER PV} {k : PV → Sto → ER PV} (h : EPost K cv m H Wv Q (r.bind k))
    (n : ∀ p s' m' H' v, r = .ok p s' → Ext m H m' H' → Rel K cv m' s' H' → RepV K m' H' p v → EPost K cv m' H' Wv Q (k p s') → Q1 v H') : EPost K cv m H Wv Q1 r := by
  cases r with
  | ok p s => exact fun m' H' v e R q => n p s m' H' v rfl e R q (EPost.ext e (show EPost K cv m H Wv Q (k p s) from h))
  | ex c s => exact h
  | bad => exact h
theorem lcV_mono {tt : TT} (ht : ∀ σ H Q, T2T X.K cv W0 ft σ H Q → tt σ H Q) {σ : L2.St} {H : Hp} {Q : VK} (h : T2 X.K cv W (E.lcV i fa ft fe) σ H Q) :
    tLcY X cv (fun σ H R => iList X.K (T2 X.K cv W fa) σ H R ∨ iTup X.K (T2 X.K cv W fa) σ H R) i tt fe σ H Q := by
  obtain ⟨m, s, ρ, R, S, h⟩ := h
  by_cases q : ∃ n s1, fa ρ s = .ok (.ref n) s1
  · refine .inl ⟨m, s, ρ, R, S, epost_eq h fun p s2 m1 H1 v eq e1 R1 r1 h1 => ?_⟩
    obtain ⟨n, s1, e⟩ := q
    rw [e] at eq
    cases eq
    cases r1 with
    | @ref n' a' hn' =>
      have h2 : EPost X.K cv m1 H1 (fun c H' => W c none σ H') Q (match Z.items n s2 with | some ps => lcL i ft fe s2.length n ps.length 0 ρ (s2 ++ [.lst []]) | none => .bad) := h1
      cases q : Z.items n s2 with
      | none => simp only [q] at h2; exact h2.elim
      | some ps =>
        simp only [q] at h2
        refine ⟨a', rfl, ?_, lcL_loop ht (fun _ _ _ z => z) hn' R1 (S.mono e1) h2⟩
        unfold Z.items at q
        split at q
        · rename_i ps' eq
          obtain ⟨vs, q1, q2⟩ := R1.lst hn' eq
          exact ⟨vs, SqL.of q1⟩
        · rename_i ps' eq
          obtain ⟨vs, q1, q2⟩ := R1.frz hn' eq
          exact ⟨vs, q1⟩
        · cases q
  · refine .inr ⟨m, s, ρ, R, S, epost_eq h fun p s2 m1 H1 v eq e1 R1 r1 h1 => ?_⟩
    cases r1 with
    | @ref n' a' hn' => exact absurd ⟨n', s2, eq⟩ q
    | @tup ps a' xs ha ra =>
      have hx : ∀ m H, Ext m1 H1 m H → SqT X.K H a' xs := fun m H e => (ha.mono e).sq
      refine ⟨a', rfl, ⟨xs, ha.sq⟩, lcP_loop ht (fun _ _ _ z => z) (fun m H e => ⟨xs, hx m H e, by rw [ra.length]; exact Nat.le_refl _⟩) (fun i p m H hp e => ?_) (fun i p m H x H' hp e y => ?_) R1 (S.mono e1) h1⟩
      · obtain ⟨v, hv, _⟩ := ra.get hp
        exact ⟨xs, v, hx m H e, hv⟩
      · obtain ⟨v, hv, rv⟩ := ra.get hp
        obtain ⟨rfl, y⟩ := y
        have ex : v = x := Option.some.inj (hv.symm.trans (y xs (hx m _ e)))
        subst ex
        exact ⟨m, .refl _ _, fun s R => R, rv.mono e⟩
    | _ => exact h1.elim
variable (hc : X.calm = true) (hN : X.N.Nodup) (B : Blk X cv scope x i px ifs ft elt fe)
include hc hN B
theorem pe2_lcR1 (hgl : Gl X "range") (hm : X.mg "range" = none) (hi : PA2 X cv W [a] far) (hs : starEach [a] X.env = [(false, eval a X.env)] := by rfl) (hs2 : ∀ z, foldedSetIterable (.Call (.Name "range" p) [a] [] p2) X.env z = pure z := by intro _; rfl) :
    PE2 X cv W (.ListComp elt [⟨.Name x px, .Call (.Name "range" p) [a] [] p2, ifs, 0⟩] scope pos) (E.lcR1 i far ft fe) := by
  obtain ⟨tt, t1, t2⟩ := B.t
  exact ⟨(pe_lc hc hN (pi_range1 hgl hm hi.pa hs) B.ok B.g t1 (fun s H C cl fp => (B.e s H C cl fp).pe) hs2).monoY fun _ _ _ h => lcR1_mono t2 h⟩
theorem pe2_lcR2 (hgl : Gl X "range") (hm : X.mg "range" = none) (hi : PA2 X cv W [a, b] far) (hs : starEach [a, b] X.env = [(false, eval a X.env), (false, eval b X.env)] := by rfl) (hs3 : starEach [b] X.env = [(false, eval b X.env)] := by rfl)
    (hs2 : ∀ z, foldedSetIterable (.Call (.Name "range" p) [a, b] [] p2) X.env z = pure z := by intro _; rfl) :
    PE2 X cv W (.ListComp elt [⟨.Name x px, .Call (.Name "range" p) [a, b] [] p2, ifs, 0⟩] scope pos) (E.lcR2 i far ft fe) := by
  obtain ⟨tt, t1, t2⟩ := B.t
  exact ⟨(pe_lc hc hN (pi_range2 hgl hm hi.pa hs hs3) B.ok B.g t1 (fun s H C cl fp => (B.e s H C cl fp).pe) hs2).monoY fun _ _ _ h => lcR2_mono t2 h⟩
theorem pe2_lcV (hi : PE2 X cv W a fa) (hs2 : ∀ z, foldedSetIterable a X.env z = pure z := by intro _; rfl) :
    PE2 X cv W (.ListComp elt [⟨.Name x px, a, ifs, 0⟩] scope pos) (E.lcV i fa ft fe) := by
  obtain ⟨tt, t1, t2⟩ := B.t
  exact ⟨(pe_lc hc hN (PI.orY (pi_list hi.pe) (pi_tup hi.pe)) B.ok B.g t1 (fun s H C cl fp => (B.e s H C cl fp).pe) hs2).monoY fun _ _ _ h => lcV_mono t2 h⟩
/-! y = [..] -/
theorem asg_lc {te : TE} {f : EF} {σ : L2.St} {H : Hp} {D : Ends} (hte : ∀ Q, T2 X.K cv W f σ H Q → te σ H Q) (h : T2S X.K cv W (Z.asg k f) D σ H) : tAsg te (gName k) D σ H := by
  obtain ⟨m, s, ρ, R, S, h⟩ := h
  exact hte _ ⟨m, s, ρ, R, S, spost_E S h fun p s1 m1 H1 v e1 R1 r1 S1 h1 => h1 m1 H1 _ (.refl _ _) R1 (S1.set r1 k)⟩
theorem ps2_lcR1 (hy : X.N[k]? = some y) (hyl : X.env.scope.names.lookup y = some .local) (hsw : swapsWith (.ListComp elt [⟨.Name x px, .Call (.Name "range" p) [a] [] p2, ifs, 0⟩] scope pos) (some (.Name y py)) spos.line X.env = pure true)
    (hgl : Gl X "range") (hm : X.mg "range" = none) (hi : PA2 X cv W [a] far) (hs : starEach [a] X.env = [(false, eval a X.env)] := by rfl) (hs2 : ∀ z, foldedSetIterable (.Call (.Name "range" p) [a] [] p2) X.env z = pure z := by intro _; rfl) :
    PS2 X cv W (.Assign [.Name y py] (.ListComp elt [⟨.Name x px, .Call (.Name "range" p) [a] [] p2, ifs, 0⟩] scope pos) spos) (Z.asg k (E.lcR1 i far ft fe)) := by
  obtain ⟨tt, t1, t2⟩ := B.t
  exact ⟨(ps_setLc hc hN hy hyl hsw (pi_range1 hgl hm hi.pa hs) B.ok B.g t1 (fun s H C cl fp => (B.e s H C cl fp).pe) hs2).monoY fun D σ H h => asg_lc hc hN B (fun Q z => lcR1_mono t2 z) h⟩
theorem ps2_lcR2 (hy : X.N[k]? = some y) (hyl : X.env.scope.names.lookup y = some .local) (hsw : swapsWith (.ListComp elt [⟨.Name x px, .Call (.Name "range" p) [a, b] [] p2, ifs, 0⟩] scope pos) (some (.Name y py)) spos.line X.env = pure true)
    (hgl : Gl X "range") (hm : X.mg "range" = none) (hi : PA2 X cv W [a, b] far) (hs : starEach [a, b] X.env = [(false, eval a X.env), (false, eval b X.env)] := by rfl) (hs3 : starEach [b] X.env = [(false, eval b X.env)] := by rfl)
    (hs2 : ∀ z, foldedSetIterable (.Call (.Name "range" p) [a, b] [] p2) X.env z = pure z := by intro _; rfl) :
    PS2 X cv W (.Assign [.Name y py] (.ListComp elt [⟨.Name x px, .Call (.Name "range" p) [a, b] [] p2, ifs, 0⟩] scope pos) spos) (Z.asg k (E.lcR2 i far ft fe)) := by
  obtain ⟨tt, t1, t2⟩ := B.t
  exact ⟨(ps_setLc hc hN hy hyl hsw (pi_range2 hgl hm hi.pa hs hs3) B.ok B.g t1 (fun s H C cl fp => (B.e s H C cl fp).pe) hs2).monoY fun D σ H h => asg_lc hc hN B (fun Q z => lcR2_mono t2 z) h⟩
theorem ps2_lcV (hy : X.N[k]? = some y) (hyl : X.env.scope.names.lookup y = some .local) (hsw : swapsWith (.ListComp elt [⟨.Name x px, a, ifs, 0⟩] scope pos) (some (.Name y py)) spos.line X.env = pure true) (hi : PE2 X cv W a fa)
    (hs2 : ∀ z, foldedSetIterable a X.env z = pure z := by intro _; rfl) : PS2 X cv W (.Assign [.Name y py] (.ListComp elt [⟨.Name x px, a, ifs, 0⟩] scope pos) spos) (Z.asg k (E.lcV i fa ft fe)) := by
  obtain ⟨tt, t1, t2⟩ := B.t
  exact ⟨(ps_setLc hc hN hy hyl hsw (PI.orY (pi_list hi.pe) (pi_tup hi.pe)) B.ok B.g t1 (fun s H C cl fp => (B.e s H C cl fp).pe) hs2).monoY fun D σ H h => asg_lc hc hN B (fun Q z => lcV_mono t2 z) h⟩
end
end Y

set_option Elab.async false
set_option linter.all false
set_option maxRecDepth 100000
set_option maxHeartbeats 4000000
namespace Y
open PySem PySem.Spec PyProof.Rows L2

/-! ### room -/
theorem hu_r {k : Nat} {A : Around} (r : Room k A) : A.units + 65 < cLine := by have := r.un; omega
theorem hu_h {k : Nat} {A : Around} (r : L2H.RoomH k A) : A.units + 65 < cLine := by have := r.un; omega
theorem hu_y {A : Around} (h : A.units + 65 < cLine) : A.units + 1 < cLine := by omega
theorem hu_e {A : Around} (h : A.units + 65 < cLine) : A.units + 64 < cLine := by omega
theorem hotSu {X : Cx} {a : Addr} {oe : Obj} {cls : Value} {d : Option Addr} {pn : List (Addr × Obj)} (hz : L2N.Zn cls d oe) (hf : ∃ vs, oe.data = .fields vs) : L2H.HotC (X.suite a ((a, oe) :: pn)) := by
  obtain ⟨vs, hv⟩ := hf
  exact ⟨(a, oe), ⟨rfl, vs, hv, hz.2.2 vs hv⟩, List.mem_cons_self⟩

/-! ### a module's tuple of texts -/
structure GTup (M : Mo) (x : Str) (ss : List String) : Prop where
  ex : ∃ (a : Addr) (o : Obj) (its : Array Value) (n : Nat), M.mg x = some (.ref a) ∧ M.K.lookup a = some o ∧ o.cls = .type "tuple" ∧ o.data = .seq its n ∧ its.size ≤ sizeLine ∧ Vals (ss.map fun s => V.str (Str.ofString s)) its.toList
theorem strs_rl {K : PySem.W.Frag} {m : List Addr} {H : Hp} : ∀ ss : List String, RepL K m H (ss.map fun s => PV.str (S s)) (ss.map fun s => V.str (Str.ofString s))
  | [] => .nil
  | s :: r => .cons (by show RepV K m H (.str (S s)) (.str (Str.ofString s)); rw [ofS]; exact .str _) (strs_rl r)
section
variable {M : Mo} {X : Cx} {W : WX} {a b o c e f : Expr} {fa fb fo fc fe ff : EF} {fr : AF} {pos pos' p apos cpos : Pos}
theorem pe2_gtup {x : Str} {ss : List String} (hX : OfM X M) (hg : Gl X x) (h : GTup M x ss) (hd : (x == ("__debug__" : Str)) = false := by decide) : PE2 X M.cv W (.Name x pos) (E.c (.tup (ss.map fun s => PV.str (S s)))) := by
  obtain ⟨a, ob, its, n, h1, h2, h3, h4, h5, h6⟩ := h.ex
  rw [← hX.mg] at h1
  rw [← hX.K] at h2
  exact pe2_of (pe_glob hg h1 (v := .ref a) rfl hd) fun m H => .tup (.inr ⟨ob, its, n, h2, h3, h4, h5, h6⟩) (strs_rl ss)

/-! ### isinstance without its class argument -/
def _root_.Y.E.isi (g : List PV → Sto → OR) (a : EF) : EF := fun ρ s => (a ρ s).bind fun x s1 => .of (g [x] s1)
theorem isi_eq {g : List PV → Sto → OR} {cval : PV} (h : ∀ x s, g [x, cval] s = g [x] s) : E.blt g (E.cons fa (E.cons (E.c cval) E.nil)) = E.isi g fa := by
  funext ρ s
  show ((fa ρ s).bind fun x s1 => ER.ok [x, cval] s1).bind (fun xs s1 => ER.of (g xs s1)) = (fa ρ s).bind fun x s1 => ER.of (g [x] s1)
  cases fa ρ s with
  | ok x s1 => show ER.of (g [x, cval] s1) = ER.of (g [x] s1); rw [h]
  | ex c s1 => rfl
  | bad => rfl
theorem pe2_isTy (hX : OfM X M) {n : String} {x : Str} {cs : List String} {q : Pos} (h : IsT M n cs) (ha : PE2 X M.cv W a fa) (hg : Gl X "isinstance") (hm : M.mg "isinstance" = none) (hg2 : Gl X x) (hm2 : M.mg x = none) (hv : bootBuiltins x = some (.type n))
    (hn2 : x ≠ "__name__" := by decide) (hd2 : (x == ("__debug__" : Str)) = false := by decide) (he : starEach [a, .Name x q] X.env = (false, eval a X.env) :: starEach [.Name x q] X.env := by rfl) (hpl : (backTo pos (starEach [.Name x q] X.env)).any (·.1) = false := by rfl) :
    PE2 X M.cv W (.Call (.Name "isinstance" p) [a, .Name x q] [] pos) (E.isi (O.isiT n cs) fa) := by
  have z := pe2_isT (p := p) (pos := pos) (q := q) hX h ha hg hm hg2 hm2 hv hn2 hd2 he hpl
  rw [isi_eq (fun _ _ => rfl)] at z
  exact z
theorem pe2_isOy (hX : OfM X M) {D : String} {x : Str} {L : List (String × Bool)} {q : Pos} (h : IsO M D L) (ha : PE2 X M.cv W a fa) (hg : Gl X "isinstance") (hm : M.mg "isinstance" = none) (hg2 : Gl X x) (hm2 : M.mg x = some (.ref (M.cv D)))
    (hd2 : (x == ("__debug__" : Str)) = false := by decide) (he : starEach [a, .Name x q] X.env = (false, eval a X.env) :: starEach [.Name x q] X.env := by rfl) (hpl : (backTo pos (starEach [.Name x q] X.env)).any (·.1) = false := by rfl) :
    PE2 X M.cv W (.Call (.Name "isinstance" p) [a, .Name x q] [] pos) (E.isi (O.isiO L) fa) := by
  have z := pe2_isO (p := p) (pos := pos) (q := q) hX h ha hg hm hg2 hm2 hd2 he hpl
  rw [isi_eq (fun _ _ => rfl)] at z
  exact z
/-- isinstance(e, X) in a suite, by a table over the classes -/
def _root_.Y.E.isxL (i : Nat) (a : Addr) (L : List (String × Bool)) (c : String) : EF := fun ρ s => match ρ[i]? with
  | some (some (.con a')) => if a' = a then (match L.lookup c with | some b => .ok (.bl b) s | none => .bad) else .bad
  | _ => .bad
theorem pe2_isxL (hX : OfM X M) {ad : Addr} {oe : Obj} {pn : List (Addr × Obj)} {c : String} {cvl : Value} {vv : V} {L : List (String × Bool)} {i : Nat} {x n : Str} {q1 q2 : Pos} (hz : L2N.Zn (.ref (M.cv c)) none oe) (hf : ∃ vs, oe.data = .fields vs) (h : ∀ p ∈ L, IsX M p.1 cvl p.2)
    (hg : Gl X "isinstance") (hm : M.mg "isinstance" = none) (hN : X.N[i]? = some n) (hv : Vis X.env.scope n) (hd : (n == ("__debug__" : Str)) = false) (hcd : (n == ("__classdict__" : Str)) = false) (hc : PE (X.suite ad ((ad, oe) :: pn)) (.Name x q2) (tC vv)) (hr : ∀ u, RelV vv u → u = cvl)
    (he : starEach [.Name n q1, .Name x q2] X.env = (false, eval (.Name n q1) X.env) :: starEach [.Name x q2] X.env := by rfl) (hs : starEach [.Name x q2] X.env = (false, eval (.Name x q2) X.env) :: starEach [] X.env := by rfl) (hpl : (backTo pos (starEach [.Name x q2] X.env)).any (·.1) = false := by rfl) :
    PE2 (X.suite ad ((ad, oe) :: pn)) M.cv W0 (.Call (.Name "isinstance" p) [.Name n q1, .Name x q2] [] pos) (E.isxL i ad L c) := by
  cases e : L.lookup c with
  | some b =>
    have z := pe2_isx (p := p) (pos := pos) (q1 := q1) (q2 := q2) hX hz hf (h _ (mem_lookup e)) hg hm hN hv hd hcd hc hr he hs hpl
    have e2 : E.isxL i ad L c = E.isx i ad b := by
      funext ρ s
      (simp only [E.isxL, E.isx, e]) <;> rfl
    rw [e2]
    exact z
  | none =>
    refine ⟨⟨fun pins s σ H Q I ⟨m, st, ρ, R, S, h⟩ => ?_⟩⟩
    have h' : EPost X.K M.cv m H (fun c H' => W0 c none σ H') Q (E.isxL i ad L c ρ st) := h
    have e2 : E.isxL i ad L c ρ st = .bad := by
      simp only [E.isxL, e]
      split
      · split <;> rfl
      · rfl
    rw [e2] at h'
    exact h'.elim
end
/-! ### what raises nothing -/
def NxE (e : EF) : Prop := ∀ ρ s c s1, e ρ s ≠ .ex c s1
def NxA (e : AF) : Prop := ∀ ρ s c s1, e ρ s ≠ .ex c s1
def NxT (e : TF) : Prop := ∀ ρ s c s1, e ρ s ≠ .ex c s1
def NxF (F : FF) : Prop := ∀ vs s c s1, F vs s ≠ .ex c s1
theorem nx_bind {α β : Type} {r : ER α} {k : α → Sto → ER β} (h : ∀ c s, r ≠ .ex c s) (h2 : ∀ a s c s1, k a s ≠ .ex c s1) : ∀ c s, r.bind k ≠ .ex c s := fun c s e => by
  cases r with
  | ok a s1 => exact h2 a s1 c s e
  | ex c1 s1 => exact h c1 s1 rfl
  | bad => cases e
theorem nx_of {α : Type} {r : Option (α × Sto)} : ∀ c s, ER.of r ≠ .ex c s := fun c s e => by cases r <;> cases e
theorem nx_var {i : Nat} : NxE (E.var i) := fun ρ s c s1 h => by
  unfold E.var at h
  split at h <;> cases h
theorem nx_c {p : PV} : NxE (E.c p) := fun _ _ _ _ h => by cases h
theorem nx_nil : NxA E.nil := fun _ _ _ _ h => by cases h
theorem nx_cons {a : EF} {r : AF} (ha : NxE a) (hr : NxA r) : NxA (E.cons a r) := fun ρ s => nx_bind (ha ρ s) fun x s1 => nx_bind (hr ρ s1) fun xs s2 c s3 h => by cases h
theorem nx_tup {a : AF} (ha : NxA a) : NxE (E.tup a) := fun ρ s => nx_bind (ha ρ s) fun xs s1 c s2 h => by split at h <;> cases h
theorem nx_lst {a : AF} (ha : NxA a) : NxE (E.lst a) := fun ρ s => nx_bind (ha ρ s) fun xs s1 c s2 h => by split at h <;> cases h
theorem nx_bin {g : PV → PV → Sto → OR} {a b : EF} (ha : NxE a) (hb : NxE b) : NxE (E.bin g a b) := fun ρ s => nx_bind (ha ρ s) fun x s1 => nx_bind (hb ρ s1) fun y s2 => nx_of
theorem nx_un {g : PV → Sto → OR} {a : EF} (ha : NxE a) : NxE (E.un g a) := fun ρ s => nx_bind (ha ρ s) fun x s1 => nx_of
theorem nx_and {a b : EF} (ha : NxE a) (hb : NxE b) : NxE (E.and a b) := fun ρ s => nx_bind (ha ρ s) fun x s1 c s2 h => by
  split at h
  · exact hb ρ s1 c s2 h
  · cases h
  · cases h
theorem nx_or {a b : EF} (ha : NxE a) (hb : NxE b) : NxE (E.or a b) := fun ρ s => nx_bind (ha ρ s) fun x s1 c s2 h => by
  split at h
  · cases h
  · exact hb ρ s1 c s2 h
  · cases h
theorem nx_not {a : EF} (ha : NxE a) : NxE (E.not a) := fun ρ s => nx_bind (ha ρ s) fun x s1 c s2 h => by split at h <;> cases h
theorem nx_isx {i : Nat} {a : Addr} {L : List (String × Bool)} {c : String} : NxE (E.isxL i a L c) := fun ρ s c1 s1 h => by
  unfold E.isxL at h
  split at h
  · split at h
    · split at h <;> cases h
    · cases h
  · cases h
theorem nx_call {F : FF} {a : AF} (hF : NxF F) (ha : NxA a) : NxE (E.call F a) := fun ρ s => nx_bind (ha ρ s) fun xs s1 => hF xs s1
theorem nxt_tru {a : EF} (ha : NxE a) : NxT (T.tru a) := fun ρ s => nx_bind (ha ρ s) fun x s1 c s2 h => by split at h <;> cases h
theorem nxt_val {a : EF} (ha : NxE a) : NxT (T.val a) := fun ρ s => nx_bind (ha ρ s) fun x s1 c s2 h => by split at h <;> cases h
theorem nxt_and {a b : TF} (ha : NxT a) (hb : NxT b) : NxT (T.and a b) := fun ρ s => nx_bind (ha ρ s) fun x s1 c s2 h => by
  split at h
  · exact hb ρ s1 c s2 h
  · cases h
theorem nxt_or {a b : TF} (ha : NxT a) (hb : NxT b) : NxT (T.or a b) := fun ρ s => nx_bind (ha ρ s) fun x s1 c s2 h => by
  split at h
  · cases h
  · exact hb ρ s1 c s2 h
theorem nxt_not {a : TF} (ha : NxT a) : NxT (T.not a) := fun ρ s => nx_bind (ha ρ s) fun x s1 c s2 h => by cases h
theorem nx_then {α : Type} {r : ER α} {ρ : Rho} {k : α → Sto → SR} (h : ∀ c s, r ≠ .ex c s) (h2 : ∀ a s c ρ1 s1, k a s ≠ .ex c ρ1 s1) : ∀ c ρ1 s, r.thenS ρ k ≠ .ex c ρ1 s := fun c ρ1 s e => by
  cases r with
  | ok a s1 => exact h2 a s1 c ρ1 s e
  | ex c1 s1 => exact h c1 s1 rfl
  | bad => cases e
theorem nxs_ret {a : EF} (ha : NxE a) : NoEx (Z.ret a) := fun ρ s => nx_then (ha ρ s) fun x s1 c ρ1 s2 h => by cases h
theorem nxs_asg {i : Nat} {a : EF} (ha : NxE a) : NoEx (Z.asg i a) := fun ρ s => nx_then (ha ρ s) fun x s1 c ρ1 s2 h => by cases h
theorem nxs_nil : NoEx Z.nil := fun ρ s c ρ1 s1 h => by cases h
theorem nxs_brk : NoEx Z.brk := fun ρ s c ρ1 s1 h => by cases h
theorem nxs_ctn : NoEx Z.ctn := fun ρ s c ρ1 s1 h => by cases h
theorem nxs_seq {a b : SF} (ha : NoEx a) (hb : NoEx b) : NoEx (Z.seq a b) := fun ρ s c ρ1 s1 h => by
  have h' : (a ρ s).next b = .ex c ρ1 s1 := h
  cases e : a ρ s with
  | nx ρ2 s2 => rw [e] at h'; exact hb _ _ _ _ _ h'
  | ex c2 ρ2 s2 => exact ha _ _ _ _ _ e
  | _ => rw [e] at h'; cases h'
theorem nxs_ite {t : TF} {a b : SF} (ht : NxT t) (ha : NoEx a) (hb : NoEx b) : NoEx (Z.ite t a b) := fun ρ s => nx_then (ht ρ s) fun x s1 c ρ1 s2 h => by
  split at h
  · exact ha _ _ _ _ _ h
  · exact hb _ _ _ _ _ h
theorem nxf_run {np n : Nat} {b : SF} (h : NoEx b) : NxF (Z.run np n b) := fun vs s c s1 e => by
  unfold Z.run at e
  split at e
  · split at e
    · cases e
    · cases e
    · rename_i e2
      exact h _ _ _ _ _ e2
    · cases e
  · cases e
end Y

set_option Elab.async false
set_option linter.all false
set_option maxRecDepth 100000
set_option maxHeartbeats 4000000
namespace Y
open PySem PySem.Spec PyProof.Rows L2

/-! ### times -/
section
variable {X : Cx} {cv : String → Addr} {W : WX} {K : PySem.W.Frag}
abbrev rMulS : R2 := fun x y H Q => ∃ (a : Str) (k : Int), x = .str a ∧ y = .int k ∧ 0 ≤ k ∧ k ≤ 100000 ∧ a.length ≤ 100 ∧ Q (.str (Txt.mul a k)) H
abbrev rMulY : R2 := fun x y H Q => rI CMulX (fun i j => .int (i * j)) x y H Q ∨ (rMulS x y H Q ∨ rRep x y H Q)
theorem or_mulY : OpR X (binaryOp .Mult) rMulY := OpR.orY op_mulX (OpR.orY op_mulS op_rep)
theorem RepL.flat {m : List Addr} {H : Hp} {ps : List PV} {vs : List V} (r : RepL K m H ps vs) : ∀ n : Nat, RepL K m H (List.replicate n ps).flatten (List.replicate n vs).flatten
  | 0 => .nil
  | n + 1 => by
    rw [List.replicate_succ, List.replicate_succ, List.flatten_cons, List.flatten_cons]
    exact r.append (RepL.flat r n)
theorem o_mul : Op2 K cv rMulY O.mul := fun m st H px py x y Q R rx ry q => by
  cases rx with
  | int a => cases ry with
    | int b =>
      by_cases z : (Builtin.Int.intBits a : Int) + (Builtin.Int.intBits b : Int) ≤ 134217728
      · rw [show O.mul (.int a) (.int b) st = some (.int (a * b), st) from if_pos z] at q
        exact .inl ⟨a, b, rfl, rfl, z, q.pure R (.int _)⟩
      · rw [show O.mul (.int a) (.int b) st = none from if_neg z] at q
        exact q.elim
    | _ => exact q.elim
  | str a => cases ry with
    | int k =>
      by_cases z : 0 ≤ k ∧ k ≤ 100000 ∧ a.length ≤ 100
      · rw [show O.mul (.str a) (.int k) st = some (.str ((List.replicate k.toNat a).flatten), st) from if_pos z] at q
        exact .inr (.inl ⟨_, k, rfl, rfl, z.1, z.2.1, by rw [len_S]; exact z.2.2, by rw [mul_S a z.1]; exact q.pure R (.str _)⟩)
      · rw [show O.mul (.str a) (.int k) st = none from if_neg z] at q
        exact q.elim
    | _ => exact q.elim
  | @ref n a hn => cases ry with
    | int k =>
      have q' : OPost K cv m H Q (match st[n]? with
        | some (.lst a) => if 0 ≤ k ∧ k ≤ 100000 ∧ a.length ≤ 100 then some (.ref st.length, st ++ [.lst ((List.replicate k.toNat a).flatten)]) else none
        | _ => none) := q
      split at q'
      · rename_i ps e
        obtain ⟨vs, h1, r1⟩ := R.lst hn e
        by_cases z : 0 ≤ k ∧ k ≤ 100000 ∧ ps.length ≤ 100
        · rw [if_pos z] at q'
          obtain ⟨z1, z2, z3⟩ := z
          refine .inr (.inr ⟨a, k, vs, rfl, rfl, h1, by omega, by omega, ?_, q'.newL R (r1.flat _)⟩)
          have : vs.length * k.toNat ≤ 100 * 100000 := Nat.mul_le_mul (by rw [← r1.length]; exact z3) (by omega)
          rw [sizeLine_eq]
          omega
        · rw [if_neg z] at q'
          exact q'.elim
      · exact q'.elim
    | _ => exact q.elim
  | _ => cases ry <;> exact q.elim
end

/-! ### in -/
namespace O
def flatP : PV → Bool
  | .non => true
  | .bl _ => true
  | .int _ => true
  | .str _ => true
  | _ => false
def eqP : PV → PV → Bool
  | .non, .non => true
  | .bl a, .bl b => a == b
  | .bl a, .int b => (if a then 1 else 0) == b
  | .int a, .bl b => a == (if b then 1 else 0)
  | .int a, .int b => a == b
  | .str a, .str b => a == b
  | _, _ => false
def inL (a : PV) (ys : List PV) : Option Bool := if flatP a && ys.all flatP then some (ys.any fun y => eqP y a) else none
def inY (a b : PV) (s : Sto) : OR := match b with
  | .str z => (match a with
    | .str [c] => some (.bl (decide (c ∈ z)), s)
    | _ => none)
  | .tup ys => (inL a ys).map fun b => (.bl b, s)
  | .ref n => (match s[n]? with
    | some (.lst ys) => (match inL a ys with
      | some b => some (.bl b, s)
      | none => (match dat s 60 a, dat s 59 (.ref n) with
        | some d, some (.list ds) => some (.bl (ds.any fun z => PyData.eqv z d), s)
        | _, _ => none))
    | some (.frz ys) => (inL a ys).map fun b => (.bl b, s)
    | _ => none)
  | _ => none
def notB : OR → OR
  | some (.bl b, s) => some (.bl (!b), s)
  | _ => none
def notInY (a b : PV) (s : Sto) : OR := notB (inY a b s)
end O
section
variable {X : Cx} {cv : String → Addr} {W : WX} {K : PySem.W.Frag} {m : List Addr} {H : Hp} {st : Sto}
theorem flat_rep {p : PV} {v : V} (r : RepV K m H p v) (h : O.flatP p = true) : flatV v = true := by
  cases r <;> first | rfl | cases h
theorem eq_rep {p q : PV} {v u : V} (r : RepV K m H p v) (t : RepV K m H q u) (h : O.flatP p = true) (h2 : O.flatP q = true) : eqV v u = O.eqP p q := by
  cases r <;> cases t <;> first | rfl | (cases h; done) | (cases h2; done) | (
    rename_i a b
    show ((⟨a.toArray⟩ : Str) == ⟨b.toArray⟩) = (a == b)
    by_cases e : a = b
    · subst e; simp
    · have e2 : ¬ (⟨a.toArray⟩ : Str) = ⟨b.toArray⟩ := fun z => e (by have := congrArg (fun s : Str => s.cps.toList) z; simpa using this)
      rw [beq_eq_false_iff_ne.mpr e, beq_eq_false_iff_ne.mpr e2])
theorem inL_rep {a : PV} {x : V} {ys : List PV} {vs : List V} {b : Bool} (ra : RepV K m H a x) (r : RepL K m H ys vs) (h : O.inL a ys = some b) : flatV x = true ∧ vs.all flatV = true ∧ inV x vs = b := by
  unfold O.inL at h
  split at h
  · rename_i c
    rw [Bool.and_eq_true] at c
    cases h
    refine ⟨flat_rep ra c.1, ?_⟩
    have c1 := c.1
    have c2 := c.2
    clear c
    induction ys generalizing vs with
    | nil => cases r; exact ⟨rfl, rfl⟩
    | cons p ps ih =>
      cases r with
      | cons r t =>
        rw [List.all_cons, Bool.and_eq_true] at c2
        obtain ⟨i1, i2⟩ := ih t c2.2
        refine ⟨by rw [List.all_cons, i1, flat_rep r c2.1]; rfl, ?_⟩
        unfold inV at i2 ⊢
        rw [List.any_cons, List.any_cons, i2, eq_rep r ra c2.1 c1]
  · cases h
/-- both senses at once: n tells whether it is turned round -/
abbrev rInY (K : PySem.W.Frag) (n : Bool) : R2 := fun x y H Q =>
  (∃ (c : Nat) (z : Str), x = .str ⟨#[c]⟩ ∧ y = .str z ∧ Q (.bl (if n = true then !decide (c ∈ z.cps.toList) else decide (c ∈ z.cps.toList))) H) ∨ (rIn K n x y H Q ∨
    ∃ d ds, Dp K H x d ∧ Dp K H y (.list ds) ∧ SeqAt.shaped d = true ∧ SeqAt.shaped (.list ds) = true ∧ Q (.bl (if n = true then !ds.any fun z => PyData.eqv z d else ds.any fun z => PyData.eqv z d)) H)
theorem or_inY (hu : X.A.units + 65 < cLine) : OpR X (compareOp .In) (rInY X.K false) := OpR.orY op_in_sign (OpR.orY op_in_seq (op_inD hu))
theorem or_notInY (hu : X.A.units + 65 < cLine) : OpR X (compareOp .NotIn) (rInY X.K true) := OpR.orY op_notIn_sign (OpR.orY op_notIn_seq (op_notInD hu))
theorem inY_core {n : Bool} {px py : PV} {x y : V} {Q : VK} (R : Rel K cv m st H) (rx : RepV K m H px x) (ry : RepV K m H py y) (q : OPost K cv m H Q (if n = true then O.notInY px py st else O.inY px py st)) : rInY K n x y H Q := by
  have key : ∀ {b : Bool}, O.inY px py st = some (.bl b, st) → Q (.bl (if n = true then !b else b)) H := fun {b} e => by
    cases n with
    | true =>
      have q' : OPost K cv m H Q (O.notB (O.inY px py st)) := q
      rw [e] at q'
      exact q'.pure R (.bl _)
    | false =>
      have q' : OPost K cv m H Q (O.inY px py st) := q
      rw [e] at q'
      exact q'.pure R (.bl _)
  have bad : O.inY px py st = none → False := fun e => by
    cases n with
    | true =>
      have q' : OPost K cv m H Q (O.notB (O.inY px py st)) := q
      rw [e] at q'
      exact q'
    | false =>
      have q' : OPost K cv m H Q (O.inY px py st) := q
      rw [e] at q'
      exact q'
  have seq : ∀ {ys : List PV} {vs : List V} {a : Addr}, (SqL K H a vs ∨ SqT K H a vs) → RepL K m H ys vs → ∀ b, O.inL px ys = some b → O.inY px py st = some (.bl b, st) → y = .ref a → rInY K n x y H Q := fun {ys vs a} hs r b hb he hy => by
    obtain ⟨i1, i2, i3⟩ := inL_rep rx r hb
    refine .inr (.inl ⟨a, vs, hy, hs, i1, i2, ?_⟩)
    rw [i3]
    exact key he
  cases ry with
  | str z =>
    cases rx with
    | str x =>
      cases x with
      | nil => exact (bad rfl).elim
      | cons c t =>
        cases t with
        | nil => exact .inl ⟨c, _, rfl, rfl, key rfl⟩
        | cons _ _ => exact (bad rfl).elim
    | _ => exact (bad rfl).elim
  | @tup ys a vs ha ra =>
    cases e : O.inL px ys with
    | none => exact (bad (by show (O.inL px ys).map _ = none; rw [e]; rfl)).elim
    | some b => exact seq (.inr ha.sq) ra b e (by show (O.inL px ys).map _ = _; rw [e]; rfl) rfl
  | @ref i a hi =>
    cases es : st[i]? with
    | none => exact (bad (by simp only [O.inY, es])).elim
    | some o =>
      cases o with
      | lst ys =>
        obtain ⟨vs, h1, r1⟩ := R.lst hi es
        cases e : O.inL px ys with
        | some b => exact seq (.inl (SqL.of h1)) r1 b e (by simp only [O.inY, es, e]) rfl
        | none =>
          cases e1 : O.dat st 60 px with
          | none => exact (bad (by simp only [O.inY, es, e, e1])).elim
          | some d =>
            cases e2 : O.dat st 59 (.ref i) with
            | none => exact (bad (by simp only [O.inY, es, e, e1, e2])).elim
            | some d2 =>
              cases d2 with
              | list ds =>
                have ek : O.inY px (.ref i) st = some (.bl (ds.any fun z => PyData.eqv z d), st) := by simp only [O.inY, es, e, e1, e2]
                obtain ⟨a1, a2⟩ := dat_sh R rx e1
                obtain ⟨b1, b2, b3⟩ := dat_dp R 59 _ _ _ (.ref hi) e2
                refine .inr (.inr ⟨d, ds, a1, b1, a2, ?_, key ek⟩)
                unfold SeqAt.shaped
                rw [b2, Bool.true_and]
                exact decide_eq_true (by omega)
              | _ => exact (bad (by simp only [O.inY, es, e, e1, e2])).elim
      | frz ys =>
        obtain ⟨vs, h1, r1⟩ := R.frz hi es
        cases e : O.inL px ys with
        | some b => exact seq (.inl h1) r1 b e (by simp only [O.inY, es, e]; rfl) rfl
        | none => exact (bad (by simp only [O.inY, es, e]; rfl)).elim
      | _ => exact (bad (by simp only [O.inY, es])).elim
  | _ => exact (bad rfl).elim
theorem o_inY : Op2 K cv (rInY K false) O.inY := fun m st H px py x y Q R rx ry q => inY_core (n := false) R rx ry q
theorem o_notInY : Op2 K cv (rInY K true) O.notInY := fun m st H px py x y Q R rx ry q => inY_core (n := true) R rx ry q

/-! ### dicts -/
def _root_.Y.O.din (k p : PV) (s : Sto) : OR := match p with
  | .ref n => (match s[n]?, O.dk k with
    | some (.dct kvs), some k => some (.bl (O.look kvs k).isSome, s)
    | _, _ => none)
  | _ => none
def _root_.Y.O.dnotin (k p : PV) (s : Sto) : OR := O.notB (O.din k p s)
theorem din_core {n : Bool} {pk pd : PV} {y x : V} {Q : VK} (R : Rel K cv m st H) (ry : RepV K m H pk y) (rx : RepV K m H pd x) (q : OPost K cv m H Q (if n = true then O.dnotin pk pd st else O.din pk pd st)) :
    ∃ a o, x = .ref a ∧ DGet H a y o ∧ Q (.bl (if n = true then !o.isSome else o.isSome)) H := by
  have key : ∀ {b : Bool}, O.din pk pd st = some (.bl b, st) → Q (.bl (if n = true then !b else b)) H := fun {b} e => by
    cases n with
    | true =>
      have q' : OPost K cv m H Q (O.notB (O.din pk pd st)) := q
      rw [e] at q'
      exact q'.pure R (.bl _)
    | false =>
      have q' : OPost K cv m H Q (O.din pk pd st) := q
      rw [e] at q'
      exact q'.pure R (.bl _)
  have bad : O.din pk pd st = none → False := fun e => by
    cases n with
    | true =>
      have q' : OPost K cv m H Q (O.notB (O.din pk pd st)) := q
      rw [e] at q'
      exact q'
    | false =>
      have q' : OPost K cv m H Q (O.din pk pd st) := q
      rw [e] at q'
      exact q'
  cases rx with
  | @ref i a hi =>
    cases es : st[i]? with
    | none => exact (bad (by simp only [O.din, es])).elim
    | some o =>
      cases o with
      | dct kvs =>
        cases ek : O.dk pk with
        | none => exact (bad (by simp only [O.din, es, ek])).elim
        | some k =>
          obtain ⟨ks, h1, h2, h3⟩ := R.dct hi es
          have e := dk_rep ry ek
          subst e
          have hv : (valV ks k.key).isSome = (O.look kvs k).isSome := by
            rcases look_rep k h2 h3 with ⟨q1, q2⟩ | ⟨p, v, q1, q2, q3⟩
            · rw [q1, q2]; rfl
            · rw [q1, q2]; rfl
          refine ⟨a, valV ks k.key, rfl, DGet.k h1, ?_⟩
          rw [hv]
          exact key (by simp only [O.din, es, ek])
      | _ => exact (bad (by simp only [O.din, es])).elim
  | _ => exact (bad rfl).elim
variable {a b c o : Expr} {fa fb fc fo : EF} {pos apos cpos : Pos}
def _root_.Y.E.dnew : EF := fun _ s => .ok (.ref s.length) (s ++ [.dct []])
theorem pe2_dnew : PE2 X cv W (.Dict [] [] pos) E.dnew := ⟨pe_dnewK.monoY fun σ H Q ⟨m, s, ρ, R, S, h⟩ p hp => by
  refine h (m ++ [p]) _ _ (.push hp) (R.push hp ⟨[], upd_same, rfl, .nil⟩) (.ref ?_)
  rw [← R.len]; simp⟩
theorem pc2_din (hu : X.A.units + 1 < cLine) (ha : PE2 X cv W a fa) (hb : PE2 X cv W b fb) : ∃ t, PC X .In a b t ∧ ∀ σ H Q, T2 X.K cv W (E.bin O.din fa fb) σ H Q → t σ H Q := ⟨_, pc_din hu ha.pe hb.pe, fun σ H Q ⟨m, s, ρ, R, S, h⟩ =>
  ⟨m, s, ρ, R, S, epost_bind h fun px s1 m1 H1 x e1 R1 r1 h1 => ⟨m1, s1, ρ, R1, S.mono e1, epost_bind h1 fun py s2 m2 H2 y e2 R2 r2 h2 => din_core (n := false) R2 (r1.mono e2) r2 (OPost.of h2)⟩⟩⟩
theorem pc2_dnotin (hu : X.A.units + 1 < cLine) (ha : PE2 X cv W a fa) (hb : PE2 X cv W b fb) : ∃ t, PC X .NotIn a b t ∧ ∀ σ H Q, T2 X.K cv W (E.bin O.dnotin fa fb) σ H Q → t σ H Q := ⟨_, pc_dnotin hu ha.pe hb.pe, fun σ H Q ⟨m, s, ρ, R, S, h⟩ =>
  ⟨m, s, ρ, R, S, epost_bind h fun px s1 m1 H1 x e1 R1 r1 h1 => ⟨m1, s1, ρ, R1, S.mono e1, epost_bind h1 fun py s2 m2 H2 y e2 R2 r2 h2 => din_core (n := true) R2 (r1.mono e2) r2 (OPost.of h2)⟩⟩⟩
/-- d.get(k), d.get(k, x), d.pop(k) -/
def _root_.Y.E.dget1 (o a : EF) : EF := fun ρ s => (o ρ s).bind fun p s1 => if O.isD p s1 = true then (a ρ s1).bind fun k s2 => (match p with
  | .ref n => (match s2[n]?, O.dk k with
    | some (.dct kvs), some k => .ok ((O.look kvs k).getD .non) s2
    | _, _ => .bad)
  | _ => .bad) else .bad
def _root_.Y.E.dget2 (o a b : EF) : EF := fun ρ s => (o ρ s).bind fun p s1 => if O.isD p s1 = true then (a ρ s1).bind fun k s2 => (b ρ s2).bind fun z s3 => (match p with
  | .ref n => (match s3[n]?, O.dk k with
    | some (.dct kvs), some k => .ok ((O.look kvs k).getD z) s3
    | _, _ => .bad)
  | _ => .bad) else .bad
def _root_.Y.E.dpop1 (o a : EF) : EF := fun ρ s => (o ρ s).bind fun p s1 => if O.isD p s1 = true then (a ρ s1).bind fun k s2 => (match p with
  | .ref n => (match s2[n]?, O.dk k with
    | some (.dct kvs), some k => (match O.look kvs k with | some v => .ok v (s2.set n (.dct (O.ddrop kvs k))) | none => .bad)
    | _, _ => .bad)
  | _ => .bad) else .bad
theorem isD_of {n : Nat} {a : Addr} (R : Rel K cv m st H) (hn : m[n]? = some a) (h : O.isD (.ref n) st = true) : IsD H a := by
  unfold O.isD at h
  cases es : st[n]? with
  | none => simp only [es] at h; cases h
  | some o =>
    cases o with
    | dct kvs =>
      obtain ⟨ks, h1, _, _⟩ := R.dct hn es
      exact .inl ⟨ks, .inl h1⟩
    | _ => simp only [es] at h; cases h
theorem pe2_dget1 (hu : X.A.units + 1 < cLine) (ho : PE2 X cv W o fo) (ha : PE2 X cv W a fa) (mm : M1 X o "get" apos a cpos) : PE2 X cv W (.Call (.Attribute o "get" apos) [a] [] cpos) (E.dget1 fo fa) := ⟨(pe_dget1 hu ho.pe ha.pe mm).monoY fun σ H Q ⟨m, s, ρ, R, S, h⟩ =>
  ⟨m, s, ρ, R, S, epost_bind h fun px s1 m1 H1 x e1 R1 r1 h1 => by
    cases r1 with
    | @ref n A hn =>
      split at h1
      · rename_i hd
        refine ⟨A, rfl, isD_of R1 hn hd, m1, s1, ρ, R1, S.mono e1, epost_bind h1 fun pk s2 m2 H2 y e2 R2 r2 h2 => ?_⟩
        have h2' : EPost X.K cv m2 H2 (fun c H' => W c none σ H') Q (match s2[n]?, O.dk pk with
          | some (.dct kvs), some k => .ok ((O.look kvs k).getD .non) s2
          | _, _ => .bad) := h2
        split at h2'
        · rename_i kvs k ex ek
          obtain ⟨ks, q1, q2, q3⟩ := R2.dct (e2.at hn) ex
          have e := dk_rep r2 ek
          subst e
          refine ⟨valV ks k.key, DGet.k q1, ?_⟩
          rcases look_rep k q2 q3 with ⟨z1, z2⟩ | ⟨p, v, z1, z2, z3⟩
          · rw [z1] at h2'
            rw [z2]
            exact h2' _ _ _ (.refl _ _) R2 .non
          · rw [z1] at h2'
            rw [z2]
            exact h2' _ _ _ (.refl _ _) R2 z3
        · exact h2'.elim
      · exact h1.elim
    | _ => simp only [O.isD, Bool.false_eq_true, if_false] at h1; exact h1.elim⟩⟩
theorem pe2_dget2 (hu : X.A.units + 1 < cLine) (ho : PE2 X cv W o fo) (ha : PE2 X cv W a fa) (hb : PE2 X cv W b fb) (mm : M2 X o "get" apos a b cpos) : PE2 X cv W (.Call (.Attribute o "get" apos) [a, b] [] cpos) (E.dget2 fo fa fb) := ⟨(pe_dget2 hu ho.pe ha.pe hb.pe mm).monoY fun σ H Q ⟨m, s, ρ, R, S, h⟩ =>
  ⟨m, s, ρ, R, S, epost_bind h fun px s1 m1 H1 x e1 R1 r1 h1 => by
    cases r1 with
    | @ref n A hn =>
      split at h1
      · rename_i hd
        refine ⟨A, rfl, isD_of R1 hn hd, m1, s1, ρ, R1, S.mono e1, epost_bind h1 fun pk s2 m2 H2 y e2 R2 r2 h2 => ⟨m2, s2, ρ, R2, (S.mono e1).mono e2, epost_bind h2 fun pz s3 m3 H3 z e3 R3 r3 h3 => ?_⟩⟩
        have h2' : EPost X.K cv m3 H3 (fun c H' => W c none σ H') Q (match s3[n]?, O.dk pk with
          | some (.dct kvs), some k => .ok ((O.look kvs k).getD pz) s3
          | _, _ => .bad) := h3
        split at h2'
        · rename_i kvs k ex ek
          obtain ⟨ks, q1, q2, q3⟩ := R3.dct ((e2.trans e3).at hn) ex
          have e := dk_rep (r2.mono e3) ek
          subst e
          refine ⟨valV ks k.key, DGet.k q1, ?_⟩
          rcases look_rep k q2 q3 with ⟨z1, z2⟩ | ⟨p, v, z1, z2, z3⟩
          · rw [z1] at h2'
            rw [z2]
            exact h2' _ _ _ (.refl _ _) R3 r3
          · rw [z1] at h2'
            rw [z2]
            exact h2' _ _ _ (.refl _ _) R3 z3
        · exact h2'.elim
      · exact h1.elim
    | _ => simp only [O.isD, Bool.false_eq_true, if_false] at h1; exact h1.elim⟩⟩
theorem pe2_dpop1 (ho : PE2 X cv W o fo) (ha : PE2 X cv W a fa) (mm : M1 X o "pop" apos a cpos) : PE2 X cv W (.Call (.Attribute o "pop" apos) [a] [] cpos) (E.dpop1 fo fa) := ⟨(pe_dpop1 ho.pe ha.pe mm).monoY fun σ H Q ⟨m, s, ρ, R, S, h⟩ =>
  ⟨m, s, ρ, R, S, epost_bind h fun px s1 m1 H1 x e1 R1 r1 h1 => by
    cases r1 with
    | @ref n A hn =>
      split at h1
      · rename_i hd
        refine ⟨A, rfl, isD_of R1 hn hd, m1, s1, ρ, R1, S.mono e1, epost_bind h1 fun pk s2 m2 H2 y e2 R2 r2 h2 => ?_⟩
        have h2' : EPost X.K cv m2 H2 (fun c H' => W c none σ H') Q (match s2[n]?, O.dk pk with
          | some (.dct kvs), some k => (match O.look kvs k with | some v => .ok v (s2.set n (.dct (O.ddrop kvs k))) | none => .bad)
          | _, _ => .bad) := h2
        split at h2'
        · rename_i kvs k ex ek
          obtain ⟨ks, q1, q2, q3⟩ := R2.dct (e2.at hn) ex
          have e := dk_rep r2 ek
          subst e
          rcases look_rep k q2 q3 with ⟨z1, z2⟩ | ⟨p, v, z1, z2, z3⟩
          · rw [z1] at h2'
            exact h2'.elim
          · rw [z1] at h2'
            obtain ⟨d1, d2⟩ := drop_rep k q2 q3
            refine ⟨ks, k.key, v, q1, rfl, z2, ?_⟩
            exact OPost.wrD R2 (e2.at hn) d1 d2 z3 h2'
        · exact h2'.elim
      · exact h1.elim
    | _ => simp only [O.isD, Bool.false_eq_true, if_false] at h1; exact h1.elim⟩⟩
end

/-! ### texts -/
namespace O
def toL (x : Str) : List Nat := x.cps.toList
def split : PV → List PV → Sto → OR
  | .str a, [.str b], s => if b.length ≠ 0 ∧ a.length + 2 ≤ sizeLine then some (.ref s.length, s ++ [.lst ((Txt.split ⟨a.toArray⟩ ⟨b.toArray⟩).map fun x => .str (toL x))]) else none
  | _, _, _ => none
def items (p : PV) (s : Sto) : Option (List PV) := match p with
  | .tup ps => some ps
  | .ref n => (match s[n]? with
    | some (.lst ps) => some ps
    | some (.frz ps) => some ps
    | _ => none)
  | _ => none
def joinL (a : List Nat) : List (List Nat) → List Nat
  | [] => []
  | [x] => x
  | x :: r => x ++ a ++ joinL a r
def join : PV → List PV → Sto → OR
  | .str a, [p], s => (match items p s with
    | some ps => (match strsOf ps with
      | some xs => if (xs.map (·.length)).sum + xs.length * a.length ≤ 16777216 then some (.str (toL (Txt.join ⟨a.toArray⟩ (xs.map fun x => ⟨x.toArray⟩))), s) else none
      | none => none)
    | none => none)
  | _, _, _ => none
def upper : PV → List PV → Sto → OR
  | .str a, [], s => if a.length ≤ 5592405 then some (.str (toL (Txt.upper ⟨a.toArray⟩)), s) else none
  | _, _, _ => none
def starts : PV → List PV → Sto → OR
  | .str a, [.str b], s => some (.bl (Txt.startswith ⟨a.toArray⟩ ⟨b.toArray⟩), s)
  | _, _, _ => none
def scount : PV → List PV → Sto → OR
  | .str a, [.str b], s => some (.int (Txt.count ⟨a.toArray⟩ ⟨b.toArray⟩), s)
  | _, _, _ => none
end O
section
variable {X : Cx} {cv : String → Addr} {W : WX} {K : PySem.W.Frag}
theorem toL_eq (x : Str) : (⟨(O.toL x).toArray⟩ : Str) = x := by
  cases x; simp [O.toL]
theorem rep_toL {m : List Addr} {H : Hp} (x : Str) : RepV K m H (.str (O.toL x)) (.str x) := by
  have h : RepV K m H (.str (O.toL x)) (.str ⟨(O.toL x).toArray⟩) := .str _
  rw [toL_eq] at h
  exact h
theorem reps_toL {m : List Addr} {H : Hp} : ∀ xs : List Str, RepL K m H (xs.map fun x => PV.str (O.toL x)) (xs.map V.str)
  | [] => .nil
  | x :: r => .cons (rep_toL x) (reps_toL r)
theorem o_split : OpM K cv (fun x xs H Q => ∃ a b, x = .str a ∧ xs = [.str b] ∧ (b.length == 0) = false ∧ a.length + 2 ≤ sizeLine ∧ rNewStrs (Txt.split a b) H Q) O.split := fun m st H px x ps xs Q R rx r q => by
  cases rx with
  | str a =>
    cases r with
    | nil => exact q.elim
    | cons r1 r2 =>
      cases r2 with
      | cons _ _ => cases r1 <;> exact q.elim
      | nil =>
        cases r1 with
        | str b =>
          have q' : OPost K cv m H Q (if b.length ≠ 0 ∧ a.length + 2 ≤ sizeLine then some (.ref st.length, st ++ [.lst ((Txt.split ⟨a.toArray⟩ ⟨b.toArray⟩).map fun x => .str (O.toL x))]) else none) := q
          split at q'
          · rename_i h
            exact ⟨_, _, rfl, rfl, by rw [len_S]; exact beq_eq_false_iff_ne.mpr h.1, by rw [len_S]; exact h.2, OPost.newL R (reps_toL _) q'⟩
          · exact q'.elim
        | _ => exact q.elim
  | _ => cases r with
    | nil => exact q.elim
    | cons r1 r2 => cases r2 <;> cases r1 <;> exact q.elim
theorem items_rep {m : List Addr} {H : Hp} {st : Sto} {p : PV} {v : V} {ps : List PV} (R : Rel K cv m st H) (r : RepV K m H p v) (h : O.items p st = some ps) : ∃ a vs, v = .ref a ∧ (SqL K H a vs ∨ SqT K H a vs) ∧ RepL K m H ps vs := by
  cases r with
  | @tup qs a vs ha ra => cases h; exact ⟨a, vs, rfl, .inr ha.sq, ra⟩
  | @ref n a hn =>
    unfold O.items at h
    cases es : st[n]? with
    | none => simp only [es] at h; cases h
    | some o =>
      cases o with
      | lst qs =>
        simp only [es] at h
        cases h
        obtain ⟨vs, h1, r1⟩ := R.lst hn es
        exact ⟨a, vs, rfl, .inl (SqL.of h1), r1⟩
      | frz qs =>
        simp only [es] at h
        cases h
        obtain ⟨vs, h1, r1⟩ := R.frz hn es
        exact ⟨a, vs, rfl, .inl h1, r1⟩
      | _ => simp only [es] at h; cases h
  | _ => cases h
theorem o_join : OpM K cv (fun x xs H Q => ∃ a p, ∃ ys : List Str, x = .str a ∧ xs = [.ref p] ∧ (SqL K H p (ys.map V.str) ∨ SqT K H p (ys.map V.str)) ∧ (ys.map (·.length)).sum + ys.length * a.length ≤ 16777216 ∧ Q (.str (Txt.join a ys)) H) O.join := fun m st H px x ps xs Q R rx r q => by
  cases rx with
  | str a =>
    cases r with
    | nil => exact q.elim
    | @cons p v _ _ r1 r2 =>
      cases r2 with
      | cons _ _ => exact q.elim
      | nil =>
        have q' : OPost K cv m H Q (match O.items p st with
          | some ps => (match O.strsOf ps with
            | some xs => if (xs.map (·.length)).sum + xs.length * a.length ≤ 16777216 then some (.str (O.toL (Txt.join ⟨a.toArray⟩ (xs.map fun x => ⟨x.toArray⟩))), st) else none
            | none => none)
          | none => none) := q
        split at q'
        · rename_i qs e
          obtain ⟨A, vs, rfl, hs, rs⟩ := items_rep R r1 e
          split at q'
          · rename_i xs ex
            obtain ⟨e1, e2⟩ := strs_rep rs ex
            subst e1
            split at q'
            · rename_i hl
              refine ⟨_, A, _, rfl, rfl, hs, ?_, OPost.pure R (rep_toL _) q'⟩
              rw [List.map_map, List.length_map, len_S]
              rw [show ((fun x : Str => x.length) ∘ fun x : List Nat => (⟨x.toArray⟩ : Str)) = List.length from funext len_S]
              exact hl
            · exact q'.elim
          · exact q'.elim
        · exact q'.elim
  | _ => cases r with
    | nil => exact q.elim
    | cons r1 r2 => cases r2 <;> exact q.elim
theorem o_upper : OpM K cv (fun x xs H Q => ∃ a, x = .str a ∧ xs = [] ∧ a.length ≤ 5592405 ∧ Q (.str (Txt.upper a)) H) O.upper := fun m st H px x ps xs Q R rx r q => by
  cases rx with
  | str a =>
    cases r with
    | cons _ _ => exact q.elim
    | nil =>
      have q' : OPost K cv m H Q (if a.length ≤ 5592405 then some (.str (O.toL (Txt.upper ⟨a.toArray⟩)), st) else none) := q
      split at q'
      · rename_i h
        exact ⟨_, rfl, rfl, by rw [len_S]; exact h, OPost.pure R (rep_toL _) q'⟩
      · exact q'.elim
  | _ => cases r <;> exact q.elim
theorem o_starts : OpM K cv (fun x xs H Q => ∃ a b, x = .str a ∧ xs = [.str b] ∧ Q (.bl (Txt.startswith a b)) H) O.starts := fun m st H px x ps xs Q R rx r q => by
  cases rx with
  | str a =>
    cases r with
    | nil => exact q.elim
    | cons r1 r2 =>
      cases r2 with
      | cons _ _ => cases r1 <;> exact q.elim
      | nil => cases r1 with
        | str b => exact ⟨_, _, rfl, rfl, OPost.pure R (.bl _) q⟩
        | _ => exact q.elim
  | _ => cases r with
    | nil => exact q.elim
    | cons r1 r2 => cases r2 <;> cases r1 <;> exact q.elim
theorem o_scount : OpM K cv (fun x xs H Q => ∃ a b, x = .str a ∧ xs = [.str b] ∧ Q (.int (Txt.count a b)) H) O.scount := fun m st H px x ps xs Q R rx r q => by
  cases rx with
  | str a =>
    cases r with
    | nil => exact q.elim
    | cons r1 r2 =>
      cases r2 with
      | cons _ _ => cases r1 <;> exact q.elim
      | nil => cases r1 with
        | str b => exact ⟨_, _, rfl, rfl, OPost.pure R (.int _) q⟩
        | _ => exact q.elim
  | _ => cases r with
    | nil => exact q.elim
    | cons r1 r2 => cases r2 <;> cases r1 <;> exact q.elim
abbrev rStrY : List V → Hp → VK → Prop := fun xs H Q => (∃ i : Int, xs = [.int i] ∧ i.natAbs.log2 < 1920 ∧ Q (.str (toString i)) H) ∨ ∃ a, xs = [.str a] ∧ Q (.str a) H
theorem call_strY : CallR X (.type "str") rStrY := call_str_int.or SkE.call_str_str
theorem o_str1 : OpN K cv rStrY O.str1 := fun m st H ps xs Q R r q => by
  cases r with
  | nil => exact q.elim
  | cons r1 r2 =>
    cases r2 with
    | cons _ _ => cases r1 <;> exact q.elim
    | nil =>
      cases r1 with
      | int i =>
        have q' : OPost K cv m H Q (if i.natAbs.log2 < 1920 then some (.str (S (toString i)), st) else none) := q
        split at q'
        · rename_i h
          refine .inl ⟨i, rfl, h, OPost.pure R ?_ q'⟩
          show RepV K m H (.str (S (toString i))) (.str (Str.ofString (toString i)))
          rw [ofS]
          exact .str _
        · exact q'.elim
      | str a => exact .inr ⟨_, rfl, OPost.pure R (.str _) q⟩
      | _ => exact q.elim
end
end Y

set_option Elab.async false
set_option linter.all false
set_option maxRecDepth 100000
set_option maxHeartbeats 4000000
namespace Y
open PySem PySem.Spec PyProof.Rows L2

/-! ### where a def stands -/
inductive AtY where
  | glo (x : Str)
  | meth (c m : Str)
  | prop (c m : Str)
def pAd (K : PySem.W.Frag) (c m : Str) : Addr := match PySem.W.recIn K (He.ma K (He.ga K c) m) "property" with
  | some (.ref g :: _) => g
  | _ => 0
def AtY.ad (K : PySem.W.Frag) : AtY → Addr
  | .glo x => He.ga K x
  | .meth c m => He.ma K (He.ga K c) m
  | .prop c m => pAd K c m
structure DefY where
  at_ : AtY
  name : Str
  qual : Str
  st : Stmt
abbrev FnY : Type := Option (Str × Str × Arguments × FuncBody × Scope × Addr × List (Str × Addr) × Addr)
def fnY (K : PySem.W.Frag) (a : Addr) : FnY := match K.lookup a with
  | some ⟨_, _, .func fd, _⟩ => some (fd.name, fd.qualname, fd.params, fd.body, fd.scope, fd.globals, fd.closure, fd.builtins)
  | _ => none
def DefY.val (d : DefY) : FnY := some (d.name, d.qual, defArgs d.st, .stmts (defBody d.st), defScope d.st, mainGlobals, [], builtinsNs)
def isNone : Value → Bool
  | .none => true
  | _ => false
theorem isNone_ok {v : Value} (h : isNone v = true) : v = .none := by cases v <;> first | rfl | cases h
def DefY.ok (K : PySem.W.Frag) (d : DefY) : Bool := PySem.W.keepIn K (.ref (d.at_.ad K)) && (match K.lookup (d.at_.ad K) with
  | some ⟨_, _, .func fd, _⟩ => PySem.W.codeIn K fd.code d.qual && isNone fd.defaults
  | _ => false)
theorem DefY.fun_ {K : PySem.W.Frag} {d : DefY} (e : fnY K (d.at_.ad K) = d.val) (c : d.ok K = true) : ∃ fd, L2.Fun K d.name d.qual d.st (d.at_.ad K) fd := by
  obtain ⟨kp, c2⟩ := He.ba c
  unfold fnY at e
  cases q : K.lookup (d.at_.ad K) with
  | none =>
    rw [q] at c2
    cases c2
  | some o =>
    obtain ⟨oc, od, dt, osl⟩ := o
    rw [q] at c2 e
    cases dt with
    | func fd =>
      obtain ⟨n1, n2, n3, n4, n5, n6, n7, n8, n9, n10, n11, n12, n13, n14, n15⟩ := fd
      have e2 : (some (n1, n2, n3, n4, n5, n6, n7, n15) : FnY) = some (d.name, d.qual, defArgs d.st, .stmts (defBody d.st), defScope d.st, mainGlobals, [], builtinsNs) := e
      simp only [Option.some.injEq, Prod.mk.injEq] at e2
      obtain ⟨h1, h2, h3, h4, h5, h6, h7, h8⟩ := e2
      subst h1 h2 h3 h4 h5 h6 h7 h8
      have c3 : (PySem.W.codeIn K n13 d.qual && isNone n8) = true := c2
      obtain ⟨k1, k2⟩ := He.ba c3
      have e3 := isNone_ok k2
      subst e3
      exact ⟨_, ⟨oc, od, n9, n10, n11, n12, n13, n14, osl, rfl, q, k1⟩, kp⟩
    | _ => cases c2

/-! ### the head's facts -/
inductive Fy where
  | he (f : He.Fa)
  | tup (x : Str) (ss : List String)
  | cl (x : Str) (L : List (String × Bool))
  | isT (n : String) (cs : List String)
  | isO (D : String) (L : List (String × Bool))
  | isX (L : List (String × Bool)) (D : Option String) (n : String)
  | prop (c m : Str)
def cvY (K : PySem.W.Frag) (c : String) : Addr := He.ga K (Str.ofString c)
def insB (K : PySem.W.Frag) (C : Addr) : Bool := He.eqO (PySem.W.findIn K (.ref C) "__class__") (some (some (.builtin "object.__class__"))) && (He.eqO (PySem.W.specialIn K (.builtin "object.__class__") "__get__") (some (some (.builtin "getset_descriptor.__get__"))) &&
  (decide (PySem.W.takesIn K (.builtin "object.__class__") = some true) && decide (PySem.W.mroIn K C (.type "object") = some true)))
def clsB (K : PySem.W.Frag) (C : Addr) : Bool := PySem.W.plainGet K C Str.empty && (PySem.W.hasDictIn K C && (PySem.W.plainOver K C && He.eqO (PySem.W.findIn K (.ref C) "__setattr__") (some (some (.builtin "object.__setattr__")))))
def excB (K : PySem.W.Frag) (C : Addr) : Bool := He.eqO (PySem.W.findIn K (.ref C) "__getattribute__") (some (some (.builtin "BaseException.__getattribute__"))) && (He.eqO (PySem.W.findIn K (.ref C) "__getattr__") (some none) &&
  (decide (PySem.W.subIn K (.ref C) (.type "BaseException") = some true) && (PySem.W.hasDictIn K C && insB K C)))
def Fy.ok (K : PySem.W.Frag) : Fy → Bool
  | .he f => f.ok K
  | .tup x ss => He.eqO (PySem.W.nsIn K mainGlobals x) (some (some (.ref (He.ga K x)))) && (match K.lookup (He.ga K x) with
    | some ⟨.type c, _, .seq its _, _⟩ => decide (c = "tuple") && (decide (its.size ≤ sizeLine) && He.relAll (ss.map fun s => V.str (Str.ofString s)) its.toList)
    | _ => false)
  | .cl x L => He.eqO (PySem.W.nsIn K mainGlobals x) (some (some (.ref (He.ga K x)))) && L.all fun p => decide (PySem.W.exmOne K (.ref (cvY K p.1)) (.ref (He.ga K x)) = some p.2)
  | .isT n cs => decide (n ∈ tyBs) && cs.all fun C => clsB K (cvY K C) && (insB K (cvY K C) && decide (PySem.W.kitOne K (.ref (cvY K C)) (.type n) = some false))
  | .isO D L => (tyNs.all fun a => decide (PySem.W.kitOne K (.type a) (.ref (cvY K D)) = some false)) && L.all fun p => clsB K (cvY K p.1) && (insB K (cvY K p.1) && decide (PySem.W.kitOne K (.ref (cvY K p.1)) (.ref (cvY K D)) = some p.2))
  | .isX L D n => L.all fun p => excB K (cvY K p.1) && decide (PySem.W.kitOne K (.ref (cvY K p.1)) (match D with | some D => .ref (cvY K D) | none => .type n) = some p.2)
  | .prop c m => He.eqO (PySem.W.findIn K (.ref (He.ga K c)) m) (some (some (.ref (He.ma K (He.ga K c) m)))) && (He.eqO (PySem.W.specialIn K (.ref (He.ma K (He.ga K c) m)) "__get__") (some (some (.builtin "property.__get__"))) &&
    (decide (PySem.W.takesIn K (.ref (He.ma K (He.ga K c) m)) = some true) && (match PySem.W.recIn K (He.ma K (He.ga K c) m) "property" with | some (.ref _ :: _) => true | _ => false)))
/-- the module as the head leaves it -/
structure OkY (M : Mo) (h : Heap) : Prop where
  X : M.K.In h
  G : h.Ns mainGlobals M.mg
  cv : ∀ c, M.cv c = cvY M.K c
section
variable {M : Mo} {h : Heap} (O : OkY M h)
include O
theorem y_free {x : Str} (c : (Fy.he (.free x)).ok M.K = true) : M.mg x = none := He.free_ok O.X O.G c
theorem y_int {x : Str} {i : Int} (c : (Fy.he (.int x i)).ok M.K = true) : ∃ t, M.mg x = some (.int i t) := He.int_ok O.X O.G c
theorem y_str {x z : Str} (c : (Fy.he (.str x z)).ok M.K = true) : ∃ t, M.mg x = some (.str z t) := He.str_ok O.X O.G c
theorem y_at {x : String} (c : (Fy.he (.glo (Str.ofString x))).ok M.K = true) : M.mg (Str.ofString x) = some (.ref (M.cv x)) := by
  rw [O.cv]; exact He.glo_ok O.X O.G c
theorem y_glo {x : Str} (c : (Fy.he (.glo x)).ok M.K = true) : M.mg x = some (.ref (He.ga M.K x)) := He.glo_ok O.X O.G c
theorem y_tup {x : Str} {ss : List String} (c : (Fy.tup x ss).ok M.K = true) : GTup M x ss := by
  obtain ⟨c1, c2⟩ := He.ba c
  have g := PySem.W.mg_of O.X O.G (He.eqO_ok c1)
  cases q : M.K.lookup (He.ga M.K x) with
  | none => rw [q] at c2; cases c2
  | some o =>
    rw [q] at c2
    obtain ⟨oc, od, dt, osl⟩ := o
    cases oc with
    | type t =>
      cases dt with
      | seq its n =>
        obtain ⟨c3, c4⟩ := He.ba c2
        obtain ⟨c5, c6⟩ := He.ba c4
        refine ⟨_, _, its, n, g, q, ?_, rfl, of_decide_eq_true c5, He.relAll_ok c6⟩
        show Value.type t = _
        rw [of_decide_eq_true c3]
      | _ => cases c2
    | _ => cases dt <;> cases c2
theorem y_cls {x : String} (c : (Fy.he (.cls (Str.ofString x))).ok M.K = true) : Cls M.K (M.cv x) := by rw [O.cv]; exact He.cls_ok c
theorem y_no {x : String} {f : Str} (c : (Fy.he (.noat (Str.ofString x) f)).ok M.K = true) : NoAttr M.K (M.cv x) f := by rw [O.cv]; exact He.noat_ok c
theorem y_meth {x : String} {m : Str} (c : (Fy.he (.meth (Str.ofString x) m)).ok M.K = true) : Meth M.K (M.cv x) m (He.ma M.K (He.ga M.K (Str.ofString x)) m) := by rw [O.cv]; exact He.meth_ok c
theorem y_mkr {x : String} (c : (Fy.he (.mkr (Str.ofString x))).ok M.K = true) : Mk M.K (M.cv x) (He.ma M.K (He.ga M.K (Str.ofString x)) "__init__") := by rw [O.cv]; exact He.mkr_ok c
theorem y_prop {x : String} {m : Str} (c : (Fy.prop (Str.ofString x) m).ok M.K = true) : PropOf M.K (M.cv x) m (He.ma M.K (He.ga M.K (Str.ofString x)) m) (pAd M.K (Str.ofString x) m) := by
  rw [O.cv]
  obtain ⟨c1, c2⟩ := He.ba c
  obtain ⟨c3, c4⟩ := He.ba c2
  obtain ⟨c5, c6⟩ := He.ba c4
  refine ⟨He.eqO_ok c1, He.eqO_ok c3, of_decide_eq_true c5, ?_⟩
  unfold pAd
  generalize PySem.W.recIn M.K (He.ma M.K (He.ga M.K (Str.ofString x)) m) "property" = r at c6
  match r, c6 with
  | some (.ref g :: rest), _ => exact ⟨rest, rfl⟩
theorem y_exn {x : String} (c : (Fy.he (.exc (Str.ofString x))).ok M.K = true) (c2 : (Fy.he (.glo (Str.ofString x))).ok M.K = true) : Exn M (Str.ofString x) x := by
  obtain ⟨h1, h2, h3, h4⟩ := He.exc_ok c
  have e := O.cv x
  refine ⟨by rw [e]; exact h1, y_at O c2, by rw [e]; exact h2, by rw [e]; exact h3, by rw [e]; exact h4⟩
theorem y_cl {x : Str} {L : List (String × Bool)} (c : (Fy.cl x L).ok M.K = true) : Clause M x L := by
  obtain ⟨c1, c2⟩ := He.ba c
  refine ⟨_, PySem.W.mg_of O.X O.G (He.eqO_ok c1), fun p hp => ?_⟩
  rw [O.cv]
  exact of_decide_eq_true (List.all_eq_true.mp c2 p hp)
omit O in
theorem clsB_ok {K : PySem.W.Frag} {C : Addr} (c : clsB K C = true) : Cls K C := by
  obtain ⟨c1, c2⟩ := He.ba c
  obtain ⟨c3, c4⟩ := He.ba c2
  obtain ⟨c5, c6⟩ := He.ba c4
  exact ⟨c1, c3, c5, He.eqO_ok c6⟩
theorem insB_ok {C : String} (c0 : clsB M.K (cvY M.K C) = true) (c : insB M.K (cvY M.K C) = true) : InsT M C := by
  obtain ⟨c1, c2⟩ := He.ba c
  obtain ⟨c3, c4⟩ := He.ba c2
  obtain ⟨c5, c6⟩ := He.ba c4
  have e := O.cv C
  exact ⟨by rw [e]; exact clsB_ok c0, by rw [e]; exact He.eqO_ok c1, He.eqO_ok c3, of_decide_eq_true c5, by rw [e]; exact of_decide_eq_true c6⟩
omit O in
theorem excB_ok {K : PySem.W.Frag} {C : Addr} (c : excB K C = true) : ExcC K C := by
  obtain ⟨c1, c2⟩ := He.ba c
  obtain ⟨c3, c4⟩ := He.ba c2
  obtain ⟨c5, c6⟩ := He.ba c4
  obtain ⟨c7, c8⟩ := He.ba c6
  obtain ⟨d1, d2⟩ := He.ba c8
  obtain ⟨d3, d4⟩ := He.ba d2
  obtain ⟨d5, d6⟩ := He.ba d4
  exact ⟨He.eqO_ok c1, He.eqO_ok c3, of_decide_eq_true c5, c7, He.eqO_ok d1, He.eqO_ok d3, of_decide_eq_true d5, of_decide_eq_true d6⟩
theorem y_isT {n : String} {cs : List String} (c : (Fy.isT n cs).ok M.K = true) : IsT M n cs := by
  obtain ⟨c1, c2⟩ := He.ba c
  refine ⟨of_decide_eq_true c1, fun C hC => ?_⟩
  obtain ⟨c3, c4⟩ := He.ba (List.all_eq_true.mp c2 C hC)
  obtain ⟨c5, c6⟩ := He.ba c4
  refine ⟨insB_ok O c3 c5, ?_⟩
  rw [O.cv]
  exact of_decide_eq_true c6
theorem y_isO {D : String} {L : List (String × Bool)} (c : (Fy.isO D L).ok M.K = true) : IsO M D L := by
  obtain ⟨c1, c2⟩ := He.ba c
  refine ⟨fun a ha => ?_, fun p hp => ?_⟩
  · rw [O.cv]
    exact of_decide_eq_true (List.all_eq_true.mp c1 a ha)
  · obtain ⟨c3, c4⟩ := He.ba (List.all_eq_true.mp c2 p hp)
    obtain ⟨c5, c6⟩ := He.ba c4
    refine ⟨insB_ok O c3 c5, ?_⟩
    rw [O.cv, O.cv]
    exact of_decide_eq_true c6
theorem y_isXo {D n : String} {L : List (String × Bool)} (c : (Fy.isX L (some D) n).ok M.K = true) : ∀ p ∈ L, IsX M p.1 (.ref (M.cv D)) p.2 := fun p hp => by
  obtain ⟨c1, c2⟩ := He.ba (List.all_eq_true.mp c p hp)
  have e := O.cv p.1
  have e2 := O.cv D
  exact ⟨by rw [e]; exact excB_ok c1, by rw [e, e2]; exact of_decide_eq_true c2⟩
theorem y_isXt {n : String} {L : List (String × Bool)} (c : (Fy.isX L none n).ok M.K = true) : ∀ p ∈ L, IsX M p.1 (.type n) p.2 := fun p hp => by
  obtain ⟨c1, c2⟩ := He.ba (List.all_eq_true.mp c p hp)
  have e := O.cv p.1
  exact ⟨by rw [e]; exact excB_ok c1, by rw [e]; exact of_decide_eq_true c2⟩
end

/-! ### the Hook -/
abbrev AlY : Type := Bool × List FnY
def obsY (fa : List Fy) (fn : List DefY) (K : PySem.W.Frag) : AlY := ((fa.all fun f => f.ok K) && fn.all fun d => d.ok K, fn.map fun d => fnY K (d.at_.ad K))
def valY (fn : List DefY) : AlY := (true, fn.map DefY.val)
def SaysY (fa : List Fy) (fn : List DefY) (K : PySem.W.Frag) : Prop := obsY fa fn K = valY fn
/-- no list among a part's objects: the script is none of them -/
def isL (o : Obj) : Bool := match o.cls with
  | .type c => decide (c = "list")
  | _ => false
def frY (g : Addr → Option Obj) (as : List Addr) : PySem.W.Frag := (He.frG g as).filter fun q => !isL q.2
theorem lkY_mem {a : Addr} {o : Obj} : ∀ {l : List (Addr × Obj)}, l.lookup a = some o → (a, o) ∈ l
  | [], h => by cases h
  | (b, u) :: r, h => by
    have h2 : (match a == b with | true => some u | false => r.lookup a) = some o := h
    cases q : (a == b) with
    | true =>
      rw [q] at h2
      have e : u = o := Option.some.inj h2
      rw [beq_iff_eq.mp q, e]
      exact List.mem_cons_self
    | false =>
      rw [q] at h2
      exact List.mem_cons_of_mem _ (lkY_mem h2)
theorem frY_mem {g : Addr → Option Obj} {as : List Addr} {a : Addr} {o : Obj} (h : (frY g as).lookup a = some o) : g a = some o ∧ isL o = false := by
  obtain ⟨h1, h2⟩ := List.mem_filter.mp (lkY_mem h)
  obtain ⟨b, _, e⟩ := List.mem_filterMap.mp h1
  cases hb : g b with
  | none => rw [hb] at e; cases e
  | some u =>
    rw [hb] at e
    have e2 : (b, u) = (a, o) := Option.some.inj e
    cases e2
    refine ⟨hb, ?_⟩
    cases q : isL o with
    | false => rfl
    | true =>
      have h3 : (!isL o) = true := h2
      rw [q] at h3
      cases h3
theorem frY_in {as : List Addr} {h : Heap} : (frY h.get? as).In h := fun _ _ e => (frY_mem e).1
def obsYG (n : Nat) (fa : List Fy) (fn : List DefY) (g : Addr → Option Obj) : AlY := obsY fa fn (frY g (He.asD g n))
def hookY (n : Nat) (fa : List Fy) (fn : List DefY) : PySem.W.Hook where
  α := AlY
  obs := fun s => obsYG n fa fn s.heap.get?
  val := fun _ => valY fn
  says := fun _ h => ∃ K : PySem.W.Frag, K.In h ∧ SaysY fa fn K ∧ ∀ a o, K.lookup a = some o → isL o = false
  of := fun _ _ e => ⟨_, frY_in, e, fun _ _ e => (frY_mem e).2⟩
  keeps := fun _ _ _ ⟨K, hK, c⟩ k => ⟨K, PySem.W.Frag.In.keeps hK k, c⟩
theorem obsYG_eq {n : Nat} {fa : List Fy} {fn : List DefY} {g : Addr → Option Obj} {s : Shared} (h : ∀ a, g a = s.heap.get? a) : obsYG n fa fn g = (hookY n fa fn).obs s := by
  have e : g = s.heap.get? := funext h
  rw [e] <;> rfl
section
variable {fa : List Fy} {fn : List DefY} {K : PySem.W.Frag}
theorem SaysY.fact (c : SaysY fa fn K) (i : Nat) {f : Fy} (h : fa[i]? = some f := by rfl) : f.ok K = true := by
  have c1 := (He.ba (show ((fa.all fun f => f.ok K) && fn.all fun d => d.ok K) = true from congrArg (fun z : AlY => z.1) c)).1
  exact List.all_eq_true.mp c1 f (List.mem_of_getElem? h)
theorem SaysY.def_ (c : SaysY fa fn K) (i : Nat) {d : DefY} (h : fn[i]? = some d := by rfl) : ∃ fd, L2.Fun K d.name d.qual d.st (d.at_.ad K) fd := by
  have c2 := (He.ba (show ((fa.all fun f => f.ok K) && fn.all fun d => d.ok K) = true from congrArg (fun z : AlY => z.1) c)).2
  have e : fn.map (fun d => fnY K (d.at_.ad K)) = fn.map DefY.val := congrArg (fun z : AlY => z.2) c
  have e2 : fnY K (d.at_.ad K) = d.val := by
    have z := congrArg (fun l : List FnY => l[i]?) e
    simp only [List.getElem?_map, h, Option.map_some, Option.some.injEq] at z
    exact z
  exact DefY.fun_ e2 (List.all_eq_true.mp c2 d (List.mem_of_getElem? h))
end

/-! ### the end -/
/-- what is left to be shown of a law: over a script of at most 63 ints it is true -/
def Truth (F : FF) : Prop := ∀ ns : List Int, ns.length ≤ 63 → ∃ s, F [.ref 0] [.frz (ns.map PV.int)] = .ok (.bl true) s
theorem walkY {l : PySem.W.OpenLaw} {k n : Nat} {q : Program} {loose : List Str} {XP : (Str → Option Value) → Heap → Prop} {d : DefRec} {x : Str} {fa : List Fy} {fn : List DefY} {F : FF} (hn : l.most = some 63) (hdf : d.params.defaults = []) (hr : Room k callerA)
    (hF : ∀ (M : Mo) (h : Heap), M.P = l.prog → OkY M h → SaysY fa fn M.K → ∃ f fd, M.mg d.name = some (.ref f) ∧ (∀ (s : Shared) (u : Value), BindsTo s fd ⟨[u], []⟩ [(x, u)]) ∧ ∀ base : Heap, M.K.In base → base.Ns mainGlobals M.mg → FnOk M.P M.w M.K M.mg base (L2N.CX M.P M.w) k f fd [x] (sp2 M.K M.cv F))
    (ht : Truth F) : PySem.W.WalkO q loose XP (hookY n fa fn).says l.row.toRowW d [] (fun f vs => PySem.call f vs) := by
  refine Att.attach_call hn hdf fun w s₀ s₁ mg mb f0 o pm cd doc a vs ns G Y ho hd hcd hmg hobj hints hlen hg => ?_
  obtain ⟨K, KX, c, nl⟩ := Y
  obtain ⟨f, fd, g, hb, hF⟩ := hF ⟨l.prog, w, K, mg, s₁.heap, cvY K⟩ _ rfl ⟨KX, G.T.g, fun _ => rfl⟩ c
  have ef : f0 = f := by
    have z : some (Value.ref f0) = some (.ref f) := hmg.symm.trans g
    cases z
    rfl
  subst ef
  refine law_call KX G.T.g G.T.b G.T.builtins G.T.nolimit hg hobj hints (Nat.le_trans hlen (by decide)) hr (CX := L2N.CX l.prog w) (sp := sp2 K (cvY K) F) (fun base h1 h2 => hF base h1 h2) hb (fun H hO hS => ?_) fun H e s' h => ?_
  · obtain ⟨s', e⟩ := ht ns hlen
    rcases hS with hS | ⟨o, its, n, hk, hc, _⟩
    · rcases hS with hS | ⟨ob, hS⟩
      · rcases hO a with z | ⟨o, xs, z⟩
        · rw [z] at hS; cases hS
        · rw [z] at hS; cases hS
      · refine ⟨[a], [.frz (ns.map PV.int)], [.ref 0], ⟨by simp, rfl, fun i b o h1 h2 => ?_⟩, .cons (.ref rfl) .nil, ?_⟩
        · cases i with
          | succ i => simp at h1
          | zero =>
            have e1 : a = b := by simpa using h1
            have e2 : SO.frz (ns.map PV.int) = o := by simpa using h2
            subst e1 e2
            exact ⟨_, ob, hS, ints_int⟩
        · rw [e]
          exact fun m' H' v _ _ r => by cases r; rfl
    · have z := nl a o hk
      rw [isL, hc] at z
      cases z
  · obtain ⟨_, _, _, _, _, _, _, _, _, _, _, _, z⟩ := h
    exact z
end Y

set_option Elab.async false
set_option linter.all false
set_option maxRecDepth 100000
set_option maxHeartbeats 4000000
namespace Y
open PySem PySem.Spec PyProof.Rows L2
/-! ### a suite's reading does not hang on the place of the exception -/
section
variable (i : Nat) (a : Addr)
abbrev atA (ρ : Rho) : Rho := ρ.set i (some (.con a))
abbrev at0 (ρ : Rho) : Rho := ρ.set i (some (.con 0))
def EqE (e f : EF) : Prop := ∀ ρ s, e (atA i a ρ) s = f (at0 i ρ) s
def EqA (e f : AF) : Prop := ∀ ρ s, e (atA i a ρ) s = f (at0 i ρ) s
def EqT (e f : TF) : Prop := ∀ ρ s, e (atA i a ρ) s = f (at0 i ρ) s
inductive SimS : SR → SR → Prop
  | nx (ρ s) : SimS (.nx (atA i a ρ) s) (.nx (at0 i ρ) s)
  | bk (ρ s) : SimS (.bk (atA i a ρ) s) (.bk (at0 i ρ) s)
  | ct (ρ s) : SimS (.ct (atA i a ρ) s) (.ct (at0 i ρ) s)
  | rt (v s) : SimS (.rt v s) (.rt v s)
  | bad : SimS .bad .bad
def EqS (f g : SF) : Prop := ∀ ρ s, SimS i a (f (atA i a ρ) s) (g (at0 i ρ) s)
end
section
variable {i : Nat} {a : Addr}
theorem wipe_sim {f g : SF} (h : EqS i a f g) (ρ : Rho) (s : Sto) : Z.wipe i (f (ρ.set i (some (.con a))) s) = Z.wipe i (g (ρ.set i (some (.con 0))) s) := by
  have z := h ρ s
  generalize f (atA i a ρ) s = r at z
  generalize g (at0 i ρ) s = q at z
  cases z with
  | nx ρ s => show SR.nx ((ρ.set i _).set i none) s = SR.nx ((ρ.set i _).set i none) s; rw [List.set_set, List.set_set]
  | bk ρ s => show SR.bk ((ρ.set i _).set i none) s = SR.bk ((ρ.set i _).set i none) s; rw [List.set_set, List.set_set]
  | ct ρ s => show SR.ct ((ρ.set i _).set i none) s = SR.ct ((ρ.set i _).set i none) s; rw [List.set_set, List.set_set]
  | rt v s => rfl
  | bad => rfl
theorem eq_c {p : PV} : EqE i a (E.c p) (E.c p) := fun _ _ => rfl
theorem eq_var {j : Nat} (h : (i == j) = false := by rfl) : EqE i a (E.var j) (E.var j) := fun ρ s => by
  have e : i ≠ j := by simpa using h
  show (match (ρ.set i _)[j]? with | some (some p) => ER.ok p s | _ => .bad) = (match (ρ.set i _)[j]? with | some (some p) => ER.ok p s | _ => .bad)
  rw [List.getElem?_set_ne e, List.getElem?_set_ne e]
theorem eq_isx {L : List (String × Bool)} {c : String} : EqE i a (E.isxL i a L c) (E.isxL i 0 L c) := fun ρ s => by
  show (match (ρ.set i (some (.con a)))[i]? with | some (some (.con a')) => if a' = a then (match L.lookup c with | some b => ER.ok (PV.bl b) s | none => ER.bad) else ER.bad | _ => ER.bad) =
    (match (ρ.set i (some (.con 0)))[i]? with | some (some (.con a')) => if a' = 0 then (match L.lookup c with | some b => ER.ok (PV.bl b) s | none => ER.bad) else ER.bad | _ => ER.bad)
  by_cases h : i < ρ.length
  · rw [List.getElem?_set_self h, List.getElem?_set_self h]
    simp
  · have e1 : (ρ.set i (some (PV.con a)))[i]? = none := List.getElem?_eq_none (by simp; omega)
    have e2 : (ρ.set i (some (PV.con 0)))[i]? = none := List.getElem?_eq_none (by simp; omega)
    rw [e1, e2]
theorem eq_nil : EqA i a E.nil E.nil := fun _ _ => rfl
theorem eq_cons {e e' : EF} {r r' : AF} (h1 : EqE i a e e') (h2 : EqA i a r r') : EqA i a (E.cons e r) (E.cons e' r') := fun ρ s => by
  show ((e (atA i a ρ) s).bind fun x s1 => (r (atA i a ρ) s1).bind fun xs s2 => ER.ok (x :: xs) s2) = ((e' (at0 i ρ) s).bind fun x s1 => (r' (at0 i ρ) s1).bind fun xs s2 => ER.ok (x :: xs) s2)
  rw [h1]
  congr 1
  funext x s1
  rw [h2]
theorem eq_tup {r r' : AF} (h : EqA i a r r') : EqE i a (E.tup r) (E.tup r') := fun ρ s => by
  show (r (atA i a ρ) s).bind _ = (r' (at0 i ρ) s).bind _
  rw [h]
theorem eq_lst {r r' : AF} (h : EqA i a r r') : EqE i a (E.lst r) (E.lst r') := fun ρ s => by
  show (r (atA i a ρ) s).bind _ = (r' (at0 i ρ) s).bind _
  rw [h]
theorem eq_call {F : FF} {r r' : AF} (h : EqA i a r r') : EqE i a (E.call F r) (E.call F r') := fun ρ s => by
  show (r (atA i a ρ) s).bind _ = (r' (at0 i ρ) s).bind _
  rw [h]
theorem eq_bin {g : PV → PV → Sto → OR} {e e' f f' : EF} (h1 : EqE i a e e') (h2 : EqE i a f f') : EqE i a (E.bin g e f) (E.bin g e' f') := fun ρ s => by
  show ((e (atA i a ρ) s).bind fun x s1 => (f (atA i a ρ) s1).bind fun y s2 => .of (g x y s2)) = ((e' (at0 i ρ) s).bind fun x s1 => (f' (at0 i ρ) s1).bind fun y s2 => .of (g x y s2))
  rw [h1]
  congr 1
  funext x s1
  rw [h2]
theorem eq_not {e e' : EF} (h1 : EqE i a e e') : EqE i a (E.not e) (E.not e') := fun ρ s => by
  show (e (atA i a ρ) s).bind _ = (e' (at0 i ρ) s).bind _
  rw [h1]
theorem eq_and {e e' f f' : EF} (h1 : EqE i a e e') (h2 : EqE i a f f') : EqE i a (E.and e f) (E.and e' f') := fun ρ s => by
  show ((e (atA i a ρ) s).bind fun x s1 => match x with | .bl true => f (atA i a ρ) s1 | .bl false => ER.ok (.bl false) s1 | _ => .bad) = ((e' (at0 i ρ) s).bind fun x s1 => match x with | .bl true => f' (at0 i ρ) s1 | .bl false => ER.ok (.bl false) s1 | _ => .bad)
  rw [h1]
  congr 1
  funext x s1
  rw [h2]
theorem eq_or {e e' f f' : EF} (h1 : EqE i a e e') (h2 : EqE i a f f') : EqE i a (E.or e f) (E.or e' f') := fun ρ s => by
  show ((e (atA i a ρ) s).bind fun x s1 => match x with | .bl true => ER.ok (.bl true) s1 | .bl false => f (atA i a ρ) s1 | _ => .bad) = ((e' (at0 i ρ) s).bind fun x s1 => match x with | .bl true => ER.ok (.bl true) s1 | .bl false => f' (at0 i ρ) s1 | _ => .bad)
  rw [h1]
  congr 1
  funext x s1
  rw [h2]
theorem eqt_tru {e e' : EF} (h1 : EqE i a e e') : EqT i a (T.tru e) (T.tru e') := fun ρ s => by
  show (e (atA i a ρ) s).bind _ = (e' (at0 i ρ) s).bind _
  rw [h1]
theorem eqt_val {e e' : EF} (h1 : EqE i a e e') : EqT i a (T.val e) (T.val e') := fun ρ s => by
  show (e (atA i a ρ) s).bind _ = (e' (at0 i ρ) s).bind _
  rw [h1]
theorem eqt_and {e e' f f' : TF} (h1 : EqT i a e e') (h2 : EqT i a f f') : EqT i a (T.and e f) (T.and e' f') := fun ρ s => by
  show ((e (atA i a ρ) s).bind fun x s1 => if x = true then f (atA i a ρ) s1 else ER.ok false s1) = ((e' (at0 i ρ) s).bind fun x s1 => if x = true then f' (at0 i ρ) s1 else ER.ok false s1)
  rw [h1]
  congr 1
  funext x s1
  rw [h2]
theorem eqt_or {e e' f f' : TF} (h1 : EqT i a e e') (h2 : EqT i a f f') : EqT i a (T.or e f) (T.or e' f') := fun ρ s => by
  show ((e (atA i a ρ) s).bind fun x s1 => if x = true then ER.ok true s1 else f (atA i a ρ) s1) = ((e' (at0 i ρ) s).bind fun x s1 => if x = true then ER.ok true s1 else f' (at0 i ρ) s1)
  rw [h1]
  congr 1
  funext x s1
  rw [h2]
theorem eqt_not {e e' : TF} (h1 : EqT i a e e') : EqT i a (T.not e) (T.not e') := fun ρ s => by
  show (e (atA i a ρ) s).bind _ = (e' (at0 i ρ) s).bind _
  rw [h1]
theorem eqs_nil : EqS i a Z.nil Z.nil := fun ρ s => .nx ρ s
theorem eqs_brk : EqS i a Z.brk Z.brk := fun ρ s => .bk ρ s
theorem eqs_ctn : EqS i a Z.ctn Z.ctn := fun ρ s => .ct ρ s
theorem eqs_ret {e e' : EF} (h : EqE i a e e') (hn : NxE e) : EqS i a (Z.ret e) (Z.ret e') := fun ρ s => by
  show SimS i a ((e (atA i a ρ) s).thenS (atA i a ρ) fun x s1 => .rt x s1) ((e' (at0 i ρ) s).thenS (at0 i ρ) fun x s1 => .rt x s1)
  rw [← h ρ s]
  cases q : e (atA i a ρ) s with
  | ok x s1 => exact .rt x s1
  | ex c s1 => exact absurd q (hn _ _ _ _)
  | bad => exact .bad
theorem eqs_asg {j : Nat} {e e' : EF} (h : EqE i a e e') (hn : NxE e) (hj : (i == j) = false := by rfl) : EqS i a (Z.asg j e) (Z.asg j e') := fun ρ s => by
  have ne : i ≠ j := by simpa using hj
  show SimS i a ((e (atA i a ρ) s).thenS (atA i a ρ) fun x s1 => .nx ((atA i a ρ).set j (some x)) s1) ((e' (at0 i ρ) s).thenS (at0 i ρ) fun x s1 => .nx ((at0 i ρ).set j (some x)) s1)
  rw [← h ρ s]
  cases q : e (atA i a ρ) s with
  | ok x s1 =>
    show SimS i a (.nx ((ρ.set i _).set j _) s1) (.nx ((ρ.set i _).set j _) s1)
    rw [List.set_comm _ _ ne, List.set_comm _ _ ne]
    exact .nx (ρ.set j (some x)) s1
  | ex c s1 => exact absurd q (hn _ _ _ _)
  | bad => exact .bad
theorem eqs_seq {f f' g g' : SF} (h1 : EqS i a f f') (h2 : EqS i a g g') : EqS i a (Z.seq f g) (Z.seq f' g') := fun ρ s => by
  have z := h1 ρ s
  show SimS i a ((f (atA i a ρ) s).next g) ((f' (at0 i ρ) s).next g')
  generalize f (atA i a ρ) s = r at z
  generalize f' (at0 i ρ) s = q at z
  cases z with
  | nx ρ s => exact h2 ρ s
  | bk ρ s => exact .bk ρ s
  | ct ρ s => exact .ct ρ s
  | rt v s => exact .rt v s
  | bad => exact .bad
theorem eqs_ite {t t' : TF} {f f' g g' : SF} (ht : EqT i a t t') (hn : NxT t) (h1 : EqS i a f f') (h2 : EqS i a g g') : EqS i a (Z.ite t f g) (Z.ite t' f' g') := fun ρ s => by
  show SimS i a ((t (atA i a ρ) s).thenS (atA i a ρ) fun b s1 => if b = true then f (atA i a ρ) s1 else g (atA i a ρ) s1) ((t' (at0 i ρ) s).thenS (at0 i ρ) fun b s1 => if b = true then f' (at0 i ρ) s1 else g' (at0 i ρ) s1)
  rw [← ht ρ s]
  cases q : t (atA i a ρ) s with
  | ok b s1 =>
    cases b with
    | true => exact h1 ρ s1
    | false => exact h2 ρ s1
  | ex c s1 => exact absurd q (hn _ _ _ _)
  | bad => exact .bad
end
end Y

set_option Elab.async false
set_option linter.all false
set_option maxRecDepth 100000
set_option maxHeartbeats 4000000
namespace Y
open PySem

/-! ### plain reasoning about the functions -/
inductive ER.wp {α : Type} : ER α → (α → Sto → Prop) → Prop
  | ok {a : α} {s : Sto} {Q : α → Sto → Prop} : Q a s → ER.wp (.ok a s) Q
inductive SR.wp : SR → (Rho → Sto → Prop) → (PV → Sto → Prop) → Prop
  | nx {ρ : Rho} {s : Sto} {N : Rho → Sto → Prop} {R : PV → Sto → Prop} : N ρ s → SR.wp (.nx ρ s) N R
  | rt {v : PV} {s : Sto} {N : Rho → Sto → Prop} {R : PV → Sto → Prop} : R v s → SR.wp (.rt v s) N R
section
variable {α β : Type} {Q : α → Sto → Prop} {Q2 : β → Sto → Prop} {N : Rho → Sto → Prop} {R : PV → Sto → Prop} {ρ : Rho} {s : Sto}
theorem ER.wp_mono {r : ER α} {Q' : α → Sto → Prop} (h : ER.wp r Q) (k : ∀ a s, Q a s → Q' a s) : ER.wp r Q' := by
  cases h with
  | ok q => exact .ok (k _ _ q)
theorem SR.wp_mono {r : SR} {N' : Rho → Sto → Prop} {R' : PV → Sto → Prop} (h : SR.wp r N R) (k : ∀ ρ s, N ρ s → N' ρ s) (k2 : ∀ v s, R v s → R' v s) : SR.wp r N' R' := by
  cases h with
  | nx q => exact .nx (k _ _ q)
  | rt q => exact .rt (k2 _ _ q)
theorem ER.wp_ok {r : ER α} (h : ER.wp r Q) : ∃ a s, r = .ok a s ∧ Q a s := by
  cases h with
  | ok q => exact ⟨_, _, rfl, q⟩
@[simp] theorem wp_ok (a : α) (s : Sto) : (ER.ok a s).wp Q = Q a s := propext ⟨fun h => by cases h; assumption, .ok⟩
@[simp] theorem wp_ex (c : String) (s : Sto) : (ER.ex c s : ER α).wp Q = False := propext ⟨(fun h => nomatch h), False.elim⟩
@[simp] theorem wp_bad : (ER.bad : ER α).wp Q = False := propext ⟨(fun h => nomatch h), False.elim⟩
@[simp] theorem wp_bind (r : ER β) (k : β → Sto → ER α) : (r.bind k).wp Q = r.wp fun a s => (k a s).wp Q := by
  cases r with
  | ok a s => rw [ER.bind_ok, wp_ok]
  | ex c s => rw [ER.bind_ex, wp_ex, wp_ex]
  | bad => rw [ER.bind_bad, wp_bad, wp_bad]
@[simp] theorem swp_nx : (SR.nx ρ s).wp N R = N ρ s := propext ⟨fun h => by cases h; assumption, .nx⟩
@[simp] theorem swp_rt (v : PV) : (SR.rt v s).wp N R = R v s := propext ⟨fun h => by cases h; assumption, .rt⟩
@[simp] theorem swp_bad : SR.bad.wp N R = False := propext ⟨(fun h => nomatch h), False.elim⟩
@[simp] theorem swp_bk : (SR.bk ρ s).wp N R = False := propext ⟨(fun h => nomatch h), False.elim⟩
@[simp] theorem swp_ct : (SR.ct ρ s).wp N R = False := propext ⟨(fun h => nomatch h), False.elim⟩
@[simp] theorem swp_ex (c : String) : (SR.ex c ρ s).wp N R = False := propext ⟨(fun h => nomatch h), False.elim⟩
@[simp] theorem wp_thenS (r : ER β) (k : β → Sto → SR) : (r.thenS ρ k).wp N R = r.wp fun a s => (k a s).wp N R := by
  cases r with
  | ok a s => rw [ER.thenS_ok, wp_ok]
  | ex c s => rw [ER.thenS_ex, wp_ex, swp_ex]
  | bad => rw [ER.thenS_bad, wp_bad, swp_bad]
@[simp] theorem swp_next (r : SR) (k : Rho → Sto → SR) : (r.next k).wp N R = r.wp (fun ρ s => (k ρ s).wp N R) R := by cases r <;> simp
theorem swp_turn {r : SR} {k : Rho → Sto → SR} (h : r.wp (fun ρ s => (k ρ s).wp N R) R) : (r.turn k).wp N R := by
  cases h with
  | nx q => exact q
  | rt q => exact .rt q
@[simp] theorem wp_of (r : Option (α × Sto)) : (ER.of r).wp Q = (match r with | some (a, s) => Q a s | none => False) := by
  cases r with
  | none => rw [ER.of_none, wp_bad]
  | some p => obtain ⟨a, s⟩ := p; rw [ER.of_some, wp_ok]
@[simp] theorem z_nil : Z.nil ρ s = .nx ρ s := (rfl)
@[simp] theorem z_brk : Z.brk ρ s = .bk ρ s := (rfl)
@[simp] theorem z_ctn : Z.ctn ρ s = .ct ρ s := (rfl)
@[simp] theorem z_seq (a b : SF) : Z.seq a b ρ s = (a ρ s).next b := (rfl)
@[simp] theorem z_asg (i : Nat) (e : EF) : Z.asg i e ρ s = (e ρ s).thenS ρ fun v s1 => .nx (ρ.set i (some v)) s1 := (rfl)
@[simp] theorem z_drop (e : EF) : Z.drop e ρ s = (e ρ s).thenS ρ fun _ s1 => .nx ρ s1 := (rfl)
@[simp] theorem z_ret (e : EF) : Z.ret e ρ s = (e ρ s).thenS ρ fun v s1 => .rt v s1 := (rfl)
@[simp] theorem z_retN : Z.retN ρ s = .rt .non s := (rfl)
@[simp] theorem z_ite (t : TF) (a b : SF) : Z.ite t a b ρ s = (t ρ s).thenS ρ fun c s1 => if c = true then a ρ s1 else b ρ s1 := (rfl)
@[simp] theorem z_raise (c : String) : Z.raise c ρ s = .ex c ρ s := (rfl)
@[simp] theorem e_var (i : Nat) : E.var i ρ s = (match ρ[i]? with | some (some p) => .ok p s | _ => .bad) := (rfl)
@[simp] theorem e_c (p : PV) : E.c p ρ s = .ok p s := (rfl)
@[simp] theorem e_bin (g : PV → PV → Sto → OR) (a b : EF) : E.bin g a b ρ s = (a ρ s).bind fun x s1 => (b ρ s1).bind fun y s2 => .of (g x y s2) := (rfl)
@[simp] theorem e_un (g : PV → Sto → OR) (a : EF) : E.un g a ρ s = (a ρ s).bind fun x s1 => .of (g x s1) := (rfl)
@[simp] theorem e_chain (g h : PV → PV → Sto → OR) (a b c : EF) : E.chain g h a b c ρ s = (a ρ s).bind fun x s1 => (b ρ s1).bind fun y s2 => (ER.of (g x y s2)).bind fun z s3 => match z with
  | .bl true => (c ρ s3).bind fun w s4 => .of (h y w s4)
  | .bl false => .ok (.bl false) s3
  | _ => .bad := (rfl)
@[simp] theorem e_and (a b : EF) : E.and a b ρ s = (a ρ s).bind fun x s1 => match x with
  | .bl true => b ρ s1
  | .bl false => .ok (.bl false) s1
  | _ => .bad := (rfl)
@[simp] theorem e_or (a b : EF) : E.or a b ρ s = (a ρ s).bind fun x s1 => match x with
  | .bl true => .ok (.bl true) s1
  | .bl false => b ρ s1
  | _ => .bad := (rfl)
@[simp] theorem e_not (a : EF) : E.not a ρ s = (a ρ s).bind fun x s1 => match x with
  | .bl b => .ok (.bl (!b)) s1
  | _ => .bad := (rfl)
@[simp] theorem e_nil : E.nil ρ s = .ok [] s := (rfl)
@[simp] theorem e_cons (a : EF) (r : AF) : E.cons a r ρ s = (a ρ s).bind fun x s1 => (r ρ s1).bind fun xs s2 => .ok (x :: xs) s2 := (rfl)
@[simp] theorem e_tup (a : AF) : E.tup a ρ s = (a ρ s).bind fun xs s1 => if xs.length ≤ sizeLine then .ok (.tup xs) s1 else .bad := (rfl)
@[simp] theorem e_lst (a : AF) : E.lst a ρ s = (a ρ s).bind fun xs s1 => if xs.length ≤ sizeLine then .ok (.ref s1.length) (s1 ++ [.lst xs]) else .bad := (rfl)
@[simp] theorem e_call (F : FF) (a : AF) : E.call F a ρ s = (a ρ s).bind fun xs s1 => F xs s1 := (rfl)
@[simp] theorem e_blt (g : List PV → Sto → OR) (a : AF) : E.blt g a ρ s = (a ρ s).bind fun xs s1 => .of (g xs s1) := (rfl)
@[simp] theorem e_isi (g : List PV → Sto → OR) (a : EF) : E.isi g a ρ s = (a ρ s).bind fun x s1 => .of (g [x] s1) := (rfl)
@[simp] theorem t_val (a : EF) : T.val a ρ s = (a ρ s).bind fun x s1 => match x with
  | .bl b => .ok b s1
  | _ => .bad := (rfl)
@[simp] theorem t_tru (a : EF) : T.tru a ρ s = (a ρ s).bind fun x s1 => match T.truth x s1 with
  | some b => .ok b s1
  | none => .bad := (rfl)
@[simp] theorem t_and (a b : TF) : T.and a b ρ s = (a ρ s).bind fun x s1 => if x = true then b ρ s1 else .ok false s1 := (rfl)
@[simp] theorem t_or (a b : TF) : T.or a b ρ s = (a ρ s).bind fun x s1 => if x = true then .ok true s1 else b ρ s1 := (rfl)
@[simp] theorem t_not (a : TF) : T.not a ρ s = (a ρ s).bind fun x s1 => .ok (!x) s1 := (rfl)
@[simp] theorem t_bl (b : Bool) (s : Sto) : T.truth (.bl b) s = some b := (rfl)
@[simp] theorem t_int (i : Int) (s : Sto) : T.truth (.int i) s = some (i != 0) := (rfl)
/-- a def's run -/
theorem run_wp {np n : Nat} {b : SF} {vs : List PV} {P : PV → Sto → Prop} (hl : vs.length = np) (h : (b (vs.map some ++ List.replicate (n - np) none) s).wp (fun _ s => P .non s) P) : (Z.run np n b vs s).wp P := by
  unfold Z.run
  rw [if_pos hl]
  cases e : b (vs.map some ++ List.replicate (n - np) none) s with
  | nx ρ s => rw [e, swp_nx] at h; exact .ok h
  | rt v s => rw [e, swp_rt] at h; exact .ok h
  | ex c ρ s => rw [e, swp_ex] at h; exact h.elim
  | bk ρ s => rw [e, swp_bk] at h; exact h.elim
  | ct ρ s => rw [e, swp_ct] at h; exact h.elim
  | bad => rw [e, swp_bad] at h; exact h.elim
theorem seq_wp {a b : SF} (M : Rho → Sto → Prop) (h : (a ρ s).wp M R) (k : ∀ ρ s, M ρ s → (b ρ s).wp N R) : (Z.seq a b ρ s).wp N R := by
  rw [z_seq, swp_next]
  exact SR.wp_mono h k fun _ _ z => z
/-- over given items, by an invariant -/
theorem forP_wp {g : GF} {b : SF} (I : Nat → Rho → Sto → Prop) : ∀ {ps : List PV} {j : Nat} {ρ : Rho} {s : Sto}, I j ρ s →
    (∀ (i : Nat) (p : PV) ρ s, ps[i]? = some p → I (j + i) ρ s → ∃ ρ1 s1, g p ρ s = some (ρ1, s1) ∧ (match b ρ1 s1 with | .nx ρ2 s2 => I (j + i + 1) ρ2 s2 | .ct ρ2 s2 => I (j + i + 1) ρ2 s2 | .rt v s2 => R v s2 | _ => False)) →
    (∀ ρ s, I (j + ps.length) ρ s → N ρ s) → (Z.forP g b ps ρ s).wp N R
  | [], j, ρ, s, h, _, k => .nx (k ρ s h)
  | p :: ps, j, ρ, s, h, n, k => by
    rw [Z.forP]
    obtain ⟨ρ1, s1, e, h1⟩ := n 0 p ρ s rfl h
    rw [e]
    show ((b ρ1 s1).turn (Z.forP g b ps)).wp N R
    have next : ∀ ρ2 s2, I (j + 1) ρ2 s2 → (Z.forP g b ps ρ2 s2).wp N R := fun ρ2 s2 h2 =>
      forP_wp I h2 (fun i p ρ s hp hI => by
        have q := n (i + 1) p ρ s (by simpa using hp) (by rw [show j + (i + 1) = j + 1 + i by omega]; exact hI)
        rw [show j + (i + 1) + 1 = j + 1 + i + 1 by omega] at q
        exact q) fun ρ s hI => k ρ s (by rw [List.length_cons, show j + (ps.length + 1) = j + 1 + ps.length by omega]; exact hI)
    cases eb : b ρ1 s1 with
    | nx ρ2 s2 => rw [eb] at h1; exact next ρ2 s2 h1
    | ct ρ2 s2 => rw [eb] at h1; exact next ρ2 s2 h1
    | rt v s2 => rw [eb] at h1; exact .rt h1
    | bk ρ2 s2 => rw [eb] at h1; exact h1.elim
    | ex c ρ2 s2 => rw [eb] at h1; exact h1.elim
    | bad => rw [eb] at h1; exact h1.elim
end

/-- a loop that looks at each item: on if p holds, out of it if not -/
theorem forP_look {i : Nat} {b : SF} {s : Sto} (p : PV → Bool) (q : SR → Prop) (hq : ∀ r k, q r → r.turn k = r) : ∀ {ps : List PV} {ρ : Rho}, i < ρ.length →
    (∀ (x : PV) (ρ' : Rho), x ∈ ps → ρ'.length = ρ.length → (p x = true → b (ρ'.set i (some x)) s = .nx (ρ'.set i (some x)) s) ∧ (p x = false → q (b (ρ'.set i (some x)) s))) →
    (ps.all p = true ∧ ∃ o, Z.forP (G.name i) b ps ρ s = .nx (ρ.set i o) s) ∨ (ps.all p = false ∧ q (Z.forP (G.name i) b ps ρ s))
  | [], ρ, hi, _ => .inl ⟨rfl, ρ[i], by rw [Z.forP]; congr 1; exact (List.set_getElem_self hi).symm⟩
  | x :: ps, ρ, hi, h => by
    obtain ⟨h1, h2⟩ := h x ρ List.mem_cons_self rfl
    have e : Z.forP (G.name i) b (x :: ps) ρ s = (b (ρ.set i (some x)) s).turn (Z.forP (G.name i) b ps) := rfl
    cases hp : p x with
    | false =>
      refine .inr ⟨by simp [hp], ?_⟩
      rw [e, hq _ _ (h2 hp)]
      exact h2 hp
    | true =>
      rw [e, h1 hp, SR.turn_nx]
      rcases forP_look p q hq (ps := ps) (ρ := ρ.set i (some x)) (by simpa using hi) (fun y ρ' hy hl => h y ρ' (List.mem_cons_of_mem _ hy) (by simpa using hl)) with ⟨a1, o, a2⟩ | ⟨a1, a2⟩
      · exact .inl ⟨by simp [hp, a1], o, by rw [a2, List.set_set]⟩
      · exact .inr ⟨by simp only [List.all_cons, a1, Bool.and_false], a2⟩

theorem forL_look {i n : Nat} {b : SF} {s : Sto} {ps : List PV} (p : PV → Bool) (q : SR → Prop) (hq : ∀ r k, q r → r.turn k = r) (hit : Z.items n s = some ps) : ∀ {f j : Nat} {ρ : Rho}, f + j = ps.length → i < ρ.length →
    (∀ (x : PV) (ρ' : Rho), x ∈ ps → ρ'.length = ρ.length → (p x = true → b (ρ'.set i (some x)) s = .nx (ρ'.set i (some x)) s) ∧ (p x = false → q (b (ρ'.set i (some x)) s))) →
    ((ps.drop j).all p = true ∧ ∃ o, Z.forL (G.name i) b n f j ρ s = .nx (ρ.set i o) s) ∨ ((ps.drop j).all p = false ∧ q (Z.forL (G.name i) b n f j ρ s))
  | 0, j, ρ, hf, hi, _ => by
    have ej : j = ps.length := by omega
    subst ej
    refine .inl ⟨by simp, ρ[i], ?_⟩
    rw [Z.forL, hit]
    have z : ps[ps.length]? = none := by simp
    show (match ps[ps.length]? with | none => SR.nx ρ s | some _ => .bad) = _
    rw [z]
    show SR.nx ρ s = _
    congr 1
    exact (List.set_getElem_self hi).symm
  | f + 1, j, ρ, hf, hi, h => by
    have hj : j < ps.length := by omega
    have hx : ps[j]? = some ps[j] := List.getElem?_eq_getElem hj
    have hm : ps[j] ∈ ps := List.getElem_mem hj
    obtain ⟨h1, h2⟩ := h ps[j] ρ hm rfl
    have e : Z.forL (G.name i) b n (f + 1) j ρ s = (b (ρ.set i (some ps[j])) s).turn (Z.forL (G.name i) b n f (j + 1)) := by
      rw [Z.forL, hit]
      simp only [hx]
      rfl
    rw [List.drop_eq_getElem_cons hj]
    cases hp : p ps[j] with
    | false =>
      refine .inr ⟨by rw [List.all_cons, hp, Bool.false_and], ?_⟩
      rw [e, hq _ _ (h2 hp)]
      exact h2 hp
    | true =>
      rw [e, h1 hp, SR.turn_nx]
      rcases forL_look p q hq hit (f := f) (j := j + 1) (ρ := ρ.set i (some ps[j])) (by omega) (by simpa using hi) (fun y ρ' hy hl => h y ρ' hy (by simpa using hl)) with ⟨a1, o, a2⟩ | ⟨a1, a2⟩
      · exact .inl ⟨by rw [List.all_cons, hp, a1]; rfl, o, by rw [a2, List.set_set]⟩
      · exact .inr ⟨by simp only [List.all_cons, a1, Bool.and_false], a2⟩
/-- a comprehension whose items come from the turn's item alone -/
theorem lcP_map {i d : Nat} {e : EF} (y : PV → PV) : ∀ {ps : List PV} {ρ : Rho} {s : Sto} {acc : List PV}, (∀ (p : PV) (s' : Sto), p ∈ ps → e (ρ.set i (some p)) s' = .ok (y p) s') → s[d]? = some (.lst acc) → acc.length + ps.length ≤ sizeLine →
    lcP i T.yes e d ps ρ s = .ok (.ref d) (s.set d (.lst (acc ++ ps.map y)))
  | [], ρ, s, acc, _, hd, _ => by
    rw [lcP]
    congr 1
    obtain ⟨h1, h2⟩ := List.getElem?_eq_some_iff.mp hd
    rw [List.map_nil, List.append_nil, ← h2, List.set_getElem_self]
  | p :: ps, ρ, s, acc, h, hd, hl => by
    rw [lcP]
    have e1 : T.yes (ρ.set i (some p)) s = .ok true s := rfl
    rw [e1]
    simp only [ER.noex, ER.bind_ok, if_true, h p s List.mem_cons_self]
    simp only [List.length_cons] at hl
    have e2 : lcPut d (y p) s = some (s.set d (.lst (acc ++ [y p]))) := by
      unfold lcPut
      rw [hd]
      exact if_pos (by omega)
    rw [e2]
    show lcP i T.yes e d ps ρ (s.set d (.lst (acc ++ [y p]))) = _
    have hd2 : (s.set d (.lst (acc ++ [y p])))[d]? = some (.lst (acc ++ [y p])) := List.getElem?_set_self (List.getElem?_eq_some_iff.mp hd).1
    rw [lcP_map (e := e) y (fun q s' hq => h q s' (List.mem_cons_of_mem _ hq)) hd2 (by simp only [List.length_append, List.length_singleton]; omega), List.set_set, List.append_assoc, List.map_cons]
    rfl

/-! ### the store -/
/-- all but p stays, and new things come behind -/
structure Fr (p : Nat → Prop) (s s' : Sto) : Prop where
  len : s.length ≤ s'.length
  keep : ∀ n o, ¬ p n → s[n]? = some o → s'[n]? = some o
theorem Fr.refl {p : Nat → Prop} {s : Sto} : Fr p s s := ⟨Nat.le_refl _, fun _ _ _ h => h⟩
theorem Fr.trans {p : Nat → Prop} {s s' s'' : Sto} (a : Fr p s s') (b : Fr p s' s'') : Fr p s s'' := ⟨Nat.le_trans a.len b.len, fun n o hn h => b.keep n o hn (a.keep n o hn h)⟩
theorem Fr.app {p : Nat → Prop} {s t : Sto} : Fr p s (s ++ t) := ⟨by simp, fun n o _ h => by
  obtain ⟨h1, _⟩ := List.getElem?_eq_some_iff.mp h
  rw [List.getElem?_append_left h1]; exact h⟩
theorem Fr.set {p : Nat → Prop} {s : Sto} {n : Nat} {o : SO} (h : p n) : Fr p s (s.set n o) := ⟨by simp, fun m q hm e => by
  rw [List.getElem?_set_ne (by intro z; subst z; exact hm h)]; exact e⟩
theorem Fr.mono {p q : Nat → Prop} {s s' : Sto} (a : Fr p s s') (h : ∀ n, p n → q n) : Fr q s s' := ⟨a.len, fun n o hn e => a.keep n o (fun z => hn (h n z)) e⟩
/-- what is new may be written -/
theorem Fr.new {p : Nat → Prop} {s s' s'' : Sto} (a : Fr p s s') (b : Fr (fun n => p n ∨ s.length ≤ n) s' s'') : Fr p s s'' := ⟨Nat.le_trans a.len b.len, fun n o hn e => b.keep n o (by
  intro z
  rcases z with z | z
  · exact hn z
  · have := (List.getElem?_eq_some_iff.mp e).1
    omega) (a.keep n o hn e)⟩
@[simp] theorem last_get {s : Sto} {o : SO} : (s ++ [o])[s.length]? = some o := by simp

/-! ### == -/
def okT (x : List Nat) : Bool := x.all (· < 1114112)
theorem str_beq (x y : List Nat) : ((⟨x.toArray⟩ : Str) == ⟨y.toArray⟩) = decide (x = y) := by
  by_cases e : x = y
  · subst e; simp
  · rw [decide_eq_false e]
    exact beq_eq_false_iff_ne.mpr fun z => e (by have := congrArg (fun s : Str => s.cps.toList) z; simpa using this)
@[simp] theorem dat_non {s : Sto} {n : Nat} : O.dat s n .non = some .none := by cases n <;> rfl
@[simp] theorem dat_bl {s : Sto} {n : Nat} {b : Bool} : O.dat s n (.bl b) = some (.bool b) := by cases n <;> rfl
@[simp] theorem dat_int {s : Sto} {n : Nat} {i : Int} : O.dat s n (.int i) = some (.int i) := by cases n <;> rfl
theorem dat_str {s : Sto} {n : Nat} {x : List Nat} (h : okT x = true) : O.dat s n (.str x) = some (.str ⟨x.toArray⟩) := by
  cases n with
  | zero => exact if_pos h
  | succ n => exact if_pos h
theorem eq_ii (a b : Int) (s : Sto) : O.eq (.int a) (.int b) s = some (.bl (decide (a = b)), s) := by
  show some (PV.bl (a == b), s) = _
  rw [show (a == b) = decide (a = b) by by_cases e : a = b <;> simp [e]]
theorem ne_ii (a b : Int) (s : Sto) : O.ne (.int a) (.int b) s = some (.bl (!decide (a = b)), s) := by
  show some (PV.bl (!(a == b)), s) = _
  rw [show (a == b) = decide (a = b) by by_cases e : a = b <;> simp [e]]
theorem eq_ss {a b : List Nat} (ha : okT a = true) (hb : okT b = true) (s : Sto) : O.eq (.str a) (.str b) s = some (.bl (decide (a = b)), s) := by
  unfold O.eq
  rw [dat_str ha, dat_str hb]
  show some (PV.bl ((⟨a.toArray⟩ : Str) == ⟨b.toArray⟩), s) = _
  rw [str_beq]
theorem ne_ss {a b : List Nat} (ha : okT a = true) (hb : okT b = true) (s : Sto) : O.ne (.str a) (.str b) s = some (.bl (!decide (a = b)), s) := by
  unfold O.ne
  rw [dat_str ha, dat_str hb]
  show some (PV.bl (!((⟨a.toArray⟩ : Str) == ⟨b.toArray⟩)), s) = _
  rw [str_beq]

/-! ### texts -/
theorem split_T {a b : List Nat} (hb : b ≠ []) (hk : b.all (· < 256) = true) : (Txt.split ⟨a.toArray⟩ ⟨b.toArray⟩).map (fun x => PV.str (O.toL x)) = (TL.spl b 0 [] a).map PV.str := by
  have e : (Txt.split ⟨a.toArray⟩ ⟨b.toArray⟩) = (TL.spl b 0 [] a).map SX.S := SX.split_S hb hk
  rw [e, List.map_map]
  congr 1
theorem join_T (a : List Nat) (ys : List (List Nat)) : O.toL (Txt.join ⟨a.toArray⟩ (ys.map fun x => ⟨x.toArray⟩)) = TL.joinL a ys := by
  have e : Txt.join (SX.S a) (ys.map SX.S) = SX.S (TL.joinL a ys) := SX.join_S a ys
  show O.toL (Txt.join (SX.S a) (ys.map SX.S)) = _
  rw [e]
  rfl

/-! ### slices -/
theorem sIx_n (n d k : Nat) : HT.sIx n d (some (k : Int)) = min k n := by
  show (if (k : Int) < 0 then ((k : Int) + (n : Int)).toNat else min (k : Int).toNat n) = min k n
  rw [if_neg (by omega), Int.toNat_natCast]
theorem cut_take {α : Type} (xs : List α) (k : Nat) : O.cut xs none (some (k : Int)) = xs.take k := by
  unfold O.cut
  rw [sIx_n, show HT.sIx xs.length 0 none = 0 from rfl]
  simp
theorem cut_drop {α : Type} (xs : List α) (k : Nat) : O.cut xs (some (k : Int)) none = xs.drop k := by
  unfold O.cut
  rw [sIx_n, show HT.sIx xs.length xs.length none = xs.length from rfl]
  by_cases h : k ≤ xs.length
  · rw [Nat.min_eq_left h, List.take_of_length_le (by simp)]
  · rw [Nat.min_eq_right (by omega), List.drop_eq_nil_of_le (by omega), List.drop_eq_nil_of_le (by omega)]
    simp
theorem join_eq {a : List Nat} {p : PV} {s : Sto} {ps : List PV} {xs : List (List Nat)} (h1 : O.items p s = some ps) (h2 : O.strsOf ps = some xs) (h3 : (xs.map (·.length)).sum + xs.length * a.length ≤ 16777216) : O.join (.str a) [p] s = some (.str (TL.joinL a xs), s) := by
  unfold O.join
  simp only [h1, h2]
  rw [if_pos h3, join_T]
theorem Fr.old {P : Nat → Prop} {s s' : Sto} (a : Fr (fun n => P n ∨ s.length ≤ n) s s') : Fr P s s' := ⟨a.len, fun n o hn e => a.keep n o (by
  intro z
  rcases z with z | z
  · exact hn z
  · have := (List.getElem?_eq_some_iff.mp e).1
    omega) e⟩
/-- a comprehension, by what holds throughout (J), of each item (P) -/
theorem lcP_wp {i d : Nat} {e : EF} {J : Sto → Prop} {P : PV → Prop} {Q : PV → Sto → Prop} : ∀ {ps : List PV} {ρ : Rho} {s : Sto} {acc : List PV}, J s → s[d]? = some (.lst acc) → (∀ y ∈ acc, P y) → acc.length + ps.length ≤ sizeLine →
    (∀ (p : PV) (s' : Sto) (A : SO), p ∈ ps → J s' → s'[d]? = some A → (e (ρ.set i (some p)) s').wp fun y s'' => P y ∧ J s'' ∧ s''[d]? = some A) → (∀ (s' : Sto) (a : List PV), J s' → J (s'.set d (.lst a))) →
    (∀ (s' : Sto) (acc' : List PV), J s' → s'[d]? = some (.lst acc') → (∀ y ∈ acc', P y) → acc'.length = acc.length + ps.length → Q (.ref d) s') → (lcP i T.yes e d ps ρ s).wp Q
  | [], ρ, s, acc, hJ, hd, hP, _, _, _, k => by
    rw [lcP]
    exact .ok (k s acc hJ hd hP rfl)
  | p :: ps, ρ, s, acc, hJ, hd, hP, hl, he, hs, k => by
    rw [lcP]
    have e1 : T.yes (ρ.set i (some p)) s = .ok true s := rfl
    rw [e1]
    simp only [ER.noex, ER.bind_ok, if_true]
    obtain ⟨y, s2, ey, h1, h2, h3⟩ := ER.wp_ok (he p s _ List.mem_cons_self hJ hd)
    rw [ey]
    simp only [ER.bind_ok]
    simp only [List.length_cons] at hl k
    have e2 : lcPut d y s2 = some (s2.set d (.lst (acc ++ [y]))) := by
      unfold lcPut
      rw [h3]
      exact if_pos (by omega)
    rw [e2]
    show (lcP i T.yes e d ps ρ (s2.set d (.lst (acc ++ [y])))).wp Q
    refine lcP_wp (hs _ _ h2) (List.getElem?_set_self (List.getElem?_eq_some_iff.mp h3).1) (fun z hz => ?_) (by simp only [List.length_append, List.length_singleton]; omega) (fun q s' A hq => he q s' A (List.mem_cons_of_mem _ hq)) hs fun s' acc' a b c dd => k s' acc' a b c (by rw [dd, List.length_append, List.length_singleton]; omega)
    rcases List.mem_append.mp hz with z1 | z1
    · exact hP z z1
    · have : z = y := by simpa using z1
      subst this
      exact h1
theorem strs_of {R : List Nat → Prop} : ∀ {acc : List PV}, (∀ y ∈ acc, ∃ x, y = .str x ∧ R x) → ∃ xs, O.strsOf acc = some xs ∧ (∀ x ∈ xs, R x) ∧ xs.length = acc.length
  | [], _ => ⟨[], rfl, by simp, rfl⟩
  | y :: acc, h => by
    obtain ⟨x, rfl, hx⟩ := h y List.mem_cons_self
    obtain ⟨xs, e, h1, h2⟩ := strs_of (acc := acc) fun z hz => h z (List.mem_cons_of_mem _ hz)
    refine ⟨x :: xs, ?_, fun z hz => ?_, by simp [h2]⟩
    · show (O.strsOf acc).map (x :: ·) = _
      rw [e]; rfl
    · rcases List.mem_cons.mp hz with z1 | z1
      · subst z1; exact hx
      · exact h1 z z1
theorem joinL_nil : ∀ xs : List (List Nat), TL.joinL [] xs = xs.flatten
  | [] => rfl
  | [x] => by simp [TL.joinL]
  | x :: y :: r => by
    rw [TL.joinL, joinL_nil (y :: r)]
    simp
theorem forP_wp2 {N : Rho → Sto → Prop} {R : PV → Sto → Prop} {g : GF} {b : SF} (I : Nat → Rho → Sto → Prop) {ps : List PV} {ρ : Rho} {s : Sto} (h : I 0 ρ s)
    (n : ∀ (i : Nat) (p : PV) (ρ : Rho) (s : Sto), ps[i]? = some p → I i ρ s → ∃ ρ1 s1, g p ρ s = some (ρ1, s1) ∧ (b ρ1 s1).wp (I (i + 1)) R) (k : ∀ ρ s, I ps.length ρ s → N ρ s) : (Z.forP g b ps ρ s).wp N R :=
  forP_wp I h (fun i p ρ s hp hI => by
    rw [Nat.zero_add] at hI
    obtain ⟨ρ1, s1, e, w⟩ := n i p ρ s hp hI
    refine ⟨ρ1, s1, e, ?_⟩
    rw [Nat.zero_add]
    cases q : b ρ1 s1 with
    | nx ρ2 s2 => rw [q, swp_nx] at w; exact w
    | rt v s2 => rw [q, swp_rt] at w; exact w
    | ct ρ2 s2 => rw [q, swp_ct] at w; exact w.elim
    | bk ρ2 s2 => rw [q, swp_bk] at w; exact w.elim
    | ex c ρ2 s2 => rw [q, swp_ex] at w; exact w.elim
    | bad => rw [q, swp_bad] at w; exact w.elim) fun ρ s hI => k ρ s (by rw [Nat.zero_add] at hI; exact hI)
end Y

set_option Elab.async false
set_option linter.all false
set_option maxRecDepth 100000
set_option maxHeartbeats 4000000
namespace YL
open Y PySem

/-- _law_pool: 0 _law_script, 1 _law_at, 2 _law_cell -/
def l_pool_b : SF := Z.seq (Z.asg 2 (E.c (.int 0))) (Z.seq (Z.ite (T.val (E.bin O.lt (E.var 1) (E.blt O.len1 (E.cons (E.var 0) (E.nil))))) (Z.asg 2 (E.bin O.ix (E.var 0) (E.var 1))) (Z.nil)) (Z.seq (Z.ite (T.val (E.bin O.lt (E.var 2) (E.c (.int 0)))) (Z.asg 2 (E.bin O.sub (E.un O.neg (E.c (.int 1))) (E.var 2))) (Z.nil)) (Z.seq (Z.ite (T.val (E.bin O.ge (E.var 2) (E.bin O.pow (E.c (.int 10)) (E.c (.int 18))))) (Z.ret (E.lst (E.cons (E.c (.int 1)) (E.cons (E.bin O.sub (E.var 2) (E.bin O.pow (E.c (.int 10)) (E.c (.int 18)))) (E.nil))))) (Z.nil)) (Z.ret (E.lst (E.cons (E.c (.int 0)) (E.cons (E.bin O.add (E.bin O.mul (E.var 2) (E.c (.int 64))) (E.var 1)) (E.nil))))))))
def l_pool_M : FF := Z.run 2 3 l_pool_b
/-- _law_next: 0 _law_pool_here, 1 _law_many, 2 _law_draw -/
def l_next_b : SF := Z.seq (Z.ite (T.val (E.bin O.eq (E.bin O.ix (E.var 0) (E.c (.int 0))) (E.c (.int 1)))) (Z.seq (Z.asg 2 (E.bin O.mod (E.blt O.int1 (E.cons (E.bin O.ix (E.var 0) (E.c (.int 1))) (E.nil))) (E.var 1))) (Z.seq (Z.lset (E.var 0) (E.c (.int 1)) (E.bin O.fdiv (E.bin O.ix (E.var 0) (E.c (.int 1))) (E.var 1))) (Z.ret (E.var 2)))) (Z.nil)) (Z.seq (Z.lset (E.var 0) (E.c (.int 1)) (E.bin O.mod (E.blt O.int1 (E.cons (E.bin O.add (E.bin O.mul (E.bin O.ix (E.var 0) (E.c (.int 1))) (E.c (.int 48271))) (E.c (.int 12345))) (E.nil))) (E.c (.int 2147483647)))) (Z.ret (E.bin O.mod (E.bin O.mod (E.blt O.int1 (E.cons (E.bin O.add (E.bin O.fdiv (E.bin O.ix (E.var 0) (E.c (.int 1))) (E.c (.int 16))) (E.bin O.mul (E.bin O.ix (E.var 0) (E.c (.int 1))) (E.c (.int 69621)))) (E.nil))) (E.c (.int 2147483629))) (E.var 1))))
def l_next_M : FF := Z.run 2 3 l_next_b
/-- _law_path: 0 _law_pool_here, 1 _law_chars, 2 _law_path_here, 3 _law_k, 4 _law_length, 5 _law_name, 6 _law_j -/
def l_path_b : SF := Z.seq (Z.asg 1 (E.c (.str (S "abcdefghijklmnopqrstuvwxyz0123456789-.")))) (Z.seq (Z.asg 2 (E.c (.str (S "")))) (Z.seq (Z.forR1 (G.name 3) (E.cons (E.call l_next_M (E.cons (E.var 0) (E.cons (E.c (.int 7)) (E.nil)))) (E.nil)) (Z.seq (Z.asg 4 (E.bin O.add (E.c (.int 1)) (E.call l_next_M (E.cons (E.var 0) (E.cons (E.c (.int 3)) (E.nil)))))) (Z.seq (Z.ite (T.val (E.bin O.eq (E.call l_next_M (E.cons (E.var 0) (E.cons (E.c (.int 4)) (E.nil)))) (E.c (.int 0)))) (Z.asg 4 (E.bin O.add (E.c (.int 1)) (E.call l_next_M (E.cons (E.var 0) (E.cons (E.c (.int 12)) (E.nil)))))) (Z.nil)) (Z.seq (Z.asg 5 (E.bmT "str" O.join (E.c (.str (S ""))) (E.cons (E.lcR1 6 (E.cons (E.var 4) (E.nil)) (T.yes) (E.bin O.ix (E.var 1) (E.call l_next_M (E.cons (E.var 0) (E.cons (E.c (.int 38)) (E.nil)))))) (E.nil)))) (Z.seq (Z.ite (T.or (T.val (E.bin O.eq (E.var 5) (E.c (.str (S "."))))) (T.val (E.bin O.eq (E.var 5) (E.c (.str (S "..")))))) (Z.asg 5 (E.bin O.add (E.var 5) (E.c (.str (S "a"))))) (Z.nil)) (Z.asg 2 (E.bin O.add (E.bin O.add (E.var 2) (E.c (.str (S "/")))) (E.var 5)))))))) (Z.seq (Z.ite (T.val (E.bin O.eq (E.var 2) (E.c (.str (S ""))))) (Z.ret (E.c (.str (S "/")))) (Z.nil)) (Z.ret (E.var 2)))))
def l_path_M : FF := Z.run 1 7 l_path_b
/-- _law_bad_path: 0 _law_pool_here, 1 _law_path_here, 2 _law_choice, 3 _law_odd, 4 _law_place -/
def l_bad_path_b : SF := Z.seq (Z.asg 1 (E.call l_path_M (E.cons (E.var 0) (E.nil)))) (Z.seq (Z.asg 2 (E.call l_next_M (E.cons (E.var 0) (E.cons (E.c (.int 8)) (E.nil))))) (Z.seq (Z.ite (T.val (E.bin O.eq (E.var 2) (E.c (.int 0)))) (Z.ret (E.slice O.slice (E.var 1) (some (E.c (.int 1))) none)) (Z.nil)) (Z.seq (Z.ite (T.val (E.bin O.eq (E.var 2) (E.c (.int 1)))) (Z.ret (E.bin O.add (E.var 1) (E.c (.str (S "/"))))) (Z.nil)) (Z.seq (Z.ite (T.val (E.bin O.eq (E.var 2) (E.c (.int 2)))) (Z.ret (E.bin O.ix (E.lst (E.cons (E.c (.str (S ""))) (E.cons (E.c (.str (S "//"))) (E.cons (E.c (.str (S "/."))) (E.cons (E.c (.str (S "/.."))) (E.cons (E.c (.str (S "a"))) (E.cons (E.c (.str (S "/a//b"))) (E.cons (E.c (.str (S "/a/./b"))) (E.cons (E.c (.str (S "/a/.."))) (E.nil)))))))))) (E.call l_next_M (E.cons (E.var 0) (E.cons (E.c (.int 8)) (E.nil)))))) (Z.nil)) (Z.seq (Z.ite (T.val (E.bin O.eq (E.var 2) (E.c (.int 3)))) (Z.ret (E.bin O.mul (E.c (.str (S "/a"))) (E.bin O.add (E.c (.int 7)) (E.call l_next_M (E.cons (E.var 0) (E.cons (E.c (.int 3)) (E.nil))))))) (Z.nil)) (Z.seq (Z.ite (T.val (E.bin O.eq (E.var 2) (E.c (.int 4)))) (Z.ret (E.bin O.add (E.c (.str (S "/"))) (E.slice O.slice (E.c (.str (S "abcdefghijklmnop"))) none (some (E.bin O.add (E.c (.int 13)) (E.call l_next_M (E.cons (E.var 0) (E.cons (E.c (.int 3)) (E.nil))))))))) (Z.nil)) (Z.seq (Z.asg 3 (E.bin O.ix (E.c (.str (S " !\"#$&'()*+,:;<=>?@ABCDEFGHIJKLMNOPQRSTUVWXYZ[\\]^_`{|}~"))) (E.call l_next_M (E.cons (E.var 0) (E.cons (E.c (.int 55)) (E.nil)))))) (Z.seq (Z.asg 4 (E.bin O.add (E.c (.int 1)) (E.call l_next_M (E.cons (E.var 0) (E.cons (E.blt O.len1 (E.cons (E.var 1) (E.nil))) (E.nil)))))) (Z.ret (E.bin O.add (E.bin O.add (E.slice O.slice (E.var 1) none (some (E.var 4))) (E.var 3)) (E.slice O.slice (E.var 1) (some (E.var 4)) none)))))))))))
def l_bad_path_M : FF := Z.run 1 5 l_bad_path_b
/-- _law_char: 0 _law_draw, 1 _law_chars -/
def l_char_b : SF := Z.seq (Z.asg 1 (E.c (.str (S " !\"#$&'()*+,-./0123456789:;<=>?@ABCDEFGHIJKLMNOPQRSTUVWXYZ[\\]^_`")))) (Z.ret (E.bin O.ix (E.bin O.add (E.var 1) (E.c (.str (S "abcdefghijklmnopqrstuvwxyz{|}~")))) (E.var 0)))
def l_char_M : FF := Z.run 1 2 l_char_b
/-- _law_some_text: 0 _law_pool_here, 1 _law_most, 2 _law_length, 3 _law_chars, 4 _law_k -/
def l_some_text_b : SF := Z.seq (Z.asg 2 (E.call l_next_M (E.cons (E.var 0) (E.cons (E.c (.int 8)) (E.nil))))) (Z.seq (Z.ite (T.val (E.bin O.eq (E.call l_next_M (E.cons (E.var 0) (E.cons (E.c (.int 6)) (E.nil)))) (E.c (.int 0)))) (Z.asg 2 (E.bin O.ix (E.lst (E.cons (E.var 1) (E.cons (E.bin O.sub (E.var 1) (E.c (.int 1))) (E.cons (E.call l_next_M (E.cons (E.var 0) (E.cons (E.bin O.add (E.var 1) (E.c (.int 1))) (E.nil)))) (E.nil))))) (E.call l_next_M (E.cons (E.var 0) (E.cons (E.c (.int 3)) (E.nil)))))) (Z.nil)) (Z.seq (Z.asg 3 (E.bmT "str" O.join (E.c (.str (S ""))) (E.cons (E.lcR1 4 (E.cons (E.c (.int 7)) (E.nil)) (T.yes) (E.call l_char_M (E.cons (E.call l_next_M (E.cons (E.var 0) (E.cons (E.c (.int 94)) (E.nil)))) (E.nil)))) (E.nil)))) (Z.ret (E.slice O.slice (E.bin O.mul (E.var 3) (E.c (.int 30))) none (some (E.var 2))))))
def l_some_text_M : FF := Z.run 2 5 l_some_text_b
/-- _law_third: 0 _law_name, 1 _law_pool_here, 2 _law_text, 3 _law_most -/
def l_third_b : SF := Z.seq (Z.ite (T.val (E.bin O.eq (E.var 0) (E.c (.str (S "append"))))) (Z.seq (Z.asg 2 (E.call l_some_text_M (E.cons (E.var 1) (E.cons (E.c (.int 100)) (E.nil))))) (Z.ret (E.bin O.ix (E.lst (E.cons (E.c (.int 5)) (E.cons (E.c .non) (E.cons (E.bin O.mul (E.c (.str (S "x"))) (E.bin O.add (E.c (.int 201)) (E.call l_next_M (E.cons (E.var 1) (E.cons (E.c (.int 9)) (E.nil)))))) (E.cons (E.bin O.add (E.var 2) (E.c (.str (S "\n")))) (E.cons (E.bin O.add (E.c (.str (S "\t"))) (E.var 2)) (E.cons (E.tup (E.nil)) (E.nil)))))))) (E.call l_next_M (E.cons (E.var 1) (E.cons (E.c (.int 6)) (E.nil))))))) (Z.nil)) (Z.seq (Z.ite (T.val (E.bin O.eq (E.var 0) (E.c (.str (S "limit"))))) (Z.seq (Z.asg 3 (E.call l_next_M (E.cons (E.var 1) (E.cons (E.bin O.pow (E.c (.int 10)) (E.c (.int 18))) (E.nil))))) (Z.ret (E.bin O.ix (E.lst (E.cons (E.un O.neg (E.c (.int 1))) (E.cons (E.bin O.sub (E.un O.neg (E.c (.int 1))) (E.var 3)) (E.cons (E.bin O.pow (E.c (.int 10)) (E.c (.int 18))) (E.cons (E.bin O.add (E.bin O.pow (E.c (.int 10)) (E.c (.int 18))) (E.var 3)) (E.cons (E.blt O.str1 (E.cons (E.var 3) (E.nil))) (E.cons (E.c (.bl true)) (E.cons (E.c .non) (E.cons (E.c (.str (S "0"))) (E.nil)))))))))) (E.call l_next_M (E.cons (E.var 1) (E.cons (E.c (.int 8)) (E.nil))))))) (Z.nil)) (Z.ret (E.bin O.ix (E.lst (E.cons (E.c (.int 5)) (E.cons (E.c .non) (E.cons (E.tup (E.cons (E.c (.str (S "/a"))) (E.nil))) (E.cons (E.c (.str (S "/b\n"))) (E.cons (E.bin O.add (E.c (.str (S "/"))) (E.bin O.mul (E.c (.str (S "a"))) (E.c (.int 200)))) (E.nil))))))) (E.call l_next_M (E.cons (E.var 1) (E.cons (E.c (.int 5)) (E.nil)))))))
def l_third_M : FF := Z.run 2 4 l_third_b
/-- _law_spoilt: 0 _law_deed, 1 _law_pool_here, 2 _law_choice, 3 _law_rest, 4 _law_spoilt_here -/
def l_spoilt_b : SF := Z.seq (Z.asg 2 (E.call l_next_M (E.cons (E.var 1) (E.cons (E.c (.int 18)) (E.nil))))) (Z.seq (Z.asg 3 (E.slice O.slice (E.var 0) (some (E.c (.int 1))) none)) (Z.seq (Z.asg 4 (E.lst (E.cons (E.blt O.list1 (E.cons (E.var 0) (E.nil))) (E.cons (E.bin O.add (E.var 0) (E.tup (E.cons (E.c (.int 0)) (E.nil)))) (E.cons (E.slice O.slice (E.var 0) none (some (E.bin O.sub (E.blt O.len1 (E.cons (E.var 0) (E.nil))) (E.c (.int 1))))) (E.cons (E.bin O.add (E.tup (E.cons (E.bin O.add (E.bin O.ix (E.var 0) (E.c (.int 0))) (E.c (.str (S "s")))) (E.nil))) (E.var 3)) (E.cons (E.bin O.add (E.tup (E.cons (E.bmT "str" O.upper (E.bin O.ix (E.var 0) (E.c (.int 0))) E.nil) (E.nil))) (E.var 3)) (E.nil)))))))) (Z.seq (Z.asg 4 (E.bin O.add (E.var 4) (E.lst (E.cons (E.bin O.add (E.tup (E.cons (E.bin O.ix (E.var 0) (E.c (.int 0))) (E.cons (E.c (.int 7)) (E.nil)))) (E.slice O.slice (E.var 0) (some (E.c (.int 2))) none)) (E.cons (E.bin O.add (E.tup (E.cons (E.c (.str (S ""))) (E.nil))) (E.var 3)) (E.cons (E.bin O.add (E.tup (E.cons (E.c .non) (E.nil))) (E.var 3)) (E.cons (E.bin O.ix (E.var 0) (E.c (.int 0))) (E.cons (E.c .non) (E.nil))))))))) (Z.seq (Z.asg 4 (E.bin O.add (E.var 4) (E.lst (E.cons (E.tup (E.nil)) (E.cons (E.c (.int 7)) (E.cons (E.dnew) (E.cons (E.c (.bl true)) (E.nil)))))))) (Z.seq (Z.ite (T.val (E.bin O.lt (E.var 2) (E.c (.int 14)))) (Z.ret (E.bin O.ix (E.var 4) (E.var 2))) (Z.nil)) (Z.ret (E.bin O.add (E.slice O.slice (E.var 0) none (some (E.c (.int 2)))) (E.tup (E.cons (E.call l_third_M (E.cons (E.bin O.ix (E.var 0) (E.c (.int 0))) (E.cons (E.var 1) (E.nil)))) (E.nil))))))))))
def l_spoilt_M : FF := Z.run 2 5 l_spoilt_b
/-- is_integer: 0 thing -/
def is_integer_b : SF := Z.seq (Z.ite (T.or (T.not (T.tru (E.isi (O.isiT "int" []) (E.var 0)))) (T.tru (E.isi (O.isiT "bool" []) (E.var 0)))) (Z.ret (E.c (.bl false))) (Z.nil)) (Z.ret (E.chain O.le O.le (E.un O.neg (E.c (.int 1000000000000000000))) (E.var 0) (E.c (.int 1000000000000000000))))
def is_integer_M : FF := Z.run 1 1 is_integer_b
/-- is_text: 0 thing, 1 char -/
def is_text_b : SF := Z.seq (Z.ite (T.or (T.not (T.tru (E.isi (O.isiT "str" []) (E.var 0)))) (T.val (E.bin O.gt (E.blt O.len1 (E.cons (E.var 0) (E.nil))) (E.c (.int 200))))) (Z.ret (E.c (.bl false))) (Z.nil)) (Z.seq (Z.forS (G.name 1) (E.var 0) (Z.ite (T.or (T.val (E.bin O.lt (E.var 1) (E.c (.str (S " "))))) (T.or (T.val (E.bin O.gt (E.var 1) (E.c (.str (S "~"))))) (T.val (E.bin O.eq (E.blt O.ord1 (E.cons (E.var 1) (E.nil))) (E.c (.int 37)))))) (Z.ret (E.c (.bl false))) (Z.nil))) (Z.ret (E.c (.bl true))))
def is_text_M : FF := Z.run 1 2 is_text_b
/-- is_deed: 0 thing, 1 item -/
def is_deed_b : SF := Z.seq (Z.ite (T.or (T.not (T.tru (E.isi (O.isiT "tuple" []) (E.var 0)))) (T.not (T.val (E.chain O.le O.le (E.c (.int 1)) (E.blt O.len1 (E.cons (E.var 0) (E.nil))) (E.c (.int 4)))))) (Z.ret (E.c (.bl false))) (Z.nil)) (Z.seq (Z.forV (G.name 1) (E.var 0) (Z.ite (T.and (T.not (T.tru (E.call is_integer_M (E.cons (E.var 1) (E.nil))))) (T.not (T.tru (E.call is_text_M (E.cons (E.var 1) (E.nil)))))) (Z.ret (E.c (.bl false))) (Z.nil))) (Z.ret (E.and (E.call is_text_M (E.cons (E.bin O.ix (E.var 0) (E.c (.int 0))) (E.nil))) (E.bin O.ne (E.bin O.ix (E.var 0) (E.c (.int 0))) (E.c (.str (S "")))))))
def is_deed_M : FF := Z.run 1 2 is_deed_b
/-- is_number: 0 thing -/
def is_number_b : SF := Z.ret (E.and (E.call is_integer_M (E.cons (E.var 0) (E.nil))) (E.bin O.ge (E.var 0) (E.c (.int 0))))
def is_number_M : FF := Z.run 1 1 is_number_b
/-- has_form: 0 deed -/
def has_form_b : SF := Z.seq (Z.ite (T.or (T.not (T.tru (E.call is_deed_M (E.cons (E.var 0) (E.nil))))) (T.or (T.val (E.bin O.lt (E.blt O.len1 (E.cons (E.var 0) (E.nil))) (E.c (.int 2)))) (T.not (T.tru (E.call is_text_M (E.cons (E.bin O.ix (E.var 0) (E.c (.int 1))) (E.nil))))))) (Z.ret (E.c (.bl false))) (Z.nil)) (Z.seq (Z.ite (T.val (E.bin O.inY (E.bin O.ix (E.var 0) (E.c (.int 0))) (E.c (.tup [.str (S "mkdir"), .str (S "create"), .str (S "seal")])))) (Z.ret (E.bin O.eq (E.blt O.len1 (E.cons (E.var 0) (E.nil))) (E.c (.int 2)))) (Z.nil)) (Z.seq (Z.ite (T.val (E.bin O.ne (E.blt O.len1 (E.cons (E.var 0) (E.nil))) (E.c (.int 3)))) (Z.ret (E.c (.bl false))) (Z.nil)) (Z.seq (Z.ite (T.val (E.bin O.eq (E.bin O.ix (E.var 0) (E.c (.int 0))) (E.c (.str (S "limit"))))) (Z.ret (E.and (E.call is_number_M (E.cons (E.bin O.ix (E.var 0) (E.c (.int 2))) (E.nil))) (E.bin O.le (E.blt O.len1 (E.cons (E.blt O.str1 (E.cons (E.bin O.ix (E.var 0) (E.c (.int 2))) (E.nil))) (E.nil))) (E.c (.int 18))))) (Z.nil)) (Z.ret (E.and (E.or (E.bin O.inY (E.bin O.ix (E.var 0) (E.c (.int 0))) (E.c (.tup [.str (S "move"), .str (S "snapshot")]))) (E.bin O.eq (E.bin O.ix (E.var 0) (E.c (.int 0))) (E.c (.str (S "append"))))) (E.call is_text_M (E.cons (E.bin O.ix (E.var 0) (E.c (.int 2))) (E.nil))))))))
def has_form_M : FF := Z.run 1 1 has_form_b
/-- is_name: 0 thing, 1 char -/
def is_name_b : SF := Z.seq (Z.ite (T.or (T.not (T.tru (E.isi (O.isiT "str" []) (E.var 0)))) (T.not (T.val (E.chain O.le O.le (E.c (.int 1)) (E.blt O.len1 (E.cons (E.var 0) (E.nil))) (E.c (.int 12)))))) (Z.ret (E.c (.bl false))) (Z.nil)) (Z.seq (Z.forS (G.name 1) (E.var 0) (Z.ite (T.val (E.bin O.notInY (E.var 1) (E.c (.str (S "abcdefghijklmnopqrstuvwxyz0123456789-."))))) (Z.ret (E.c (.bl false))) (Z.nil))) (Z.ret (E.and (E.bin O.ne (E.var 0) (E.c (.str (S ".")))) (E.bin O.ne (E.var 0) (E.c (.str (S "..")))))))
def is_name_M : FF := Z.run 1 2 is_name_b
/-- check_names: 0 names, 1 name -/
def check_names_b : SF := Z.seq (Z.ite (T.val (E.bin O.gt (E.blt O.len1 (E.cons (E.var 0) (E.nil))) (E.c (.int 6)))) (Z.raise "BadPath") (Z.nil)) (Z.forV (G.name 1) (E.var 0) (Z.ite (T.not (T.tru (E.call is_name_M (E.cons (E.var 1) (E.nil))))) (Z.raise "BadPath") (Z.nil)))
def check_names_M : FF := Z.run 1 2 check_names_b
/-- split_path: 0 path, 1 names -/
def split_path_b : SF := Z.seq (Z.ite (T.or (T.not (T.tru (E.isi (O.isiT "str" []) (E.var 0)))) (T.val (E.bin O.ne (E.slice O.slice (E.var 0) none (some (E.c (.int 1)))) (E.c (.str (S "/")))))) (Z.raise "BadPath") (Z.nil)) (Z.seq (Z.ite (T.val (E.bin O.eq (E.var 0) (E.c (.str (S "/"))))) (Z.ret (E.lst (E.nil))) (Z.nil)) (Z.seq (Z.asg 1 (E.bmT "str" O.split (E.slice O.slice (E.var 0) (some (E.c (.int 1))) none) (E.cons (E.c (.str (S "/"))) (E.nil)))) (Z.seq (Z.drop (E.call check_names_M (E.cons (E.var 1) (E.nil)))) (Z.ret (E.var 1)))))
def split_path_M : FF := Z.run 1 2 split_path_b
/-- check_paths: 0 deed -/
def check_paths_b : SF := Z.seq (Z.drop (E.call split_path_M (E.cons (E.bin O.ix (E.var 0) (E.c (.int 1))) (E.nil)))) (Z.ite (T.val (E.bin O.inY (E.bin O.ix (E.var 0) (E.c (.int 0))) (E.c (.tup [.str (S "move"), .str (S "snapshot")])))) (Z.drop (E.call split_path_M (E.cons (E.bin O.ix (E.var 0) (E.c (.int 2))) (E.nil)))) (Z.nil))
def check_paths_M : FF := Z.run 1 1 check_paths_b
/-- format_command: 0 deed, 1 item -/
def format_command_b : SF := Z.seq (Z.ite (T.not (T.tru (E.call has_form_M (E.cons (E.var 0) (E.nil))))) (Z.raise "BadCommand") (Z.nil)) (Z.seq (Z.drop (E.call check_paths_M (E.cons (E.var 0) (E.nil)))) (Z.ret (E.bmT "str" O.join (E.c (.str (S " "))) (E.cons (E.lcV 1 (E.var 0) (T.yes) (E.blt O.str1 (E.cons (E.var 1) (E.nil)))) (E.nil)))))
def format_command_M : FF := Z.run 1 2 format_command_b
def l_asked_su0 (c : String) (a : Addr) : SF := Z.seq (Z.ite (T.and (T.tru (E.isxL 1 a [("HallError", false), ("BadPath", false), ("BadCommand", true)] c)) (T.not (T.tru (E.isxL 1 a [("HallError", false), ("BadPath", true), ("BadCommand", false)] c)))) (Z.ret (E.c (.str (S "command")))) (Z.nil)) (Z.ite (T.and (T.tru (E.isxL 1 a [("HallError", false), ("BadPath", true), ("BadCommand", false)] c)) (T.not (T.tru (E.isxL 1 a [("HallError", false), ("BadPath", false), ("BadCommand", true)] c)))) (Z.ret (E.c (.str (S "path")))) (Z.nil))
/-- _law_asked: 0 _law_deed, 1 e -/
def l_asked_b : SF := Z.seq (Z.tryA 1 (Z.ret (E.lst (E.cons (E.call format_command_M (E.cons (E.var 0) (E.nil))) (E.nil)))) [("HallError", true), ("BadPath", true), ("BadCommand", true)] l_asked_su0) (Z.ret (E.c (.str (S "other"))))
def l_asked_M : FF := Z.run 1 2 l_asked_b
/-- law: 0 _law_script, 1 _law_pool_here, 2 _law_name, 3 _law_bad, 4 _law_spoilt_here, 5 _law_most, 6 _law_paths, 7 _law_k, 8 _law_deed, 9 _law_due, 10 _law_text, 11 _law_turn, 12 _law_told -/
def law_b : SF := Z.seq (Z.asg 1 (E.call l_pool_M (E.cons (E.var 0) (E.cons (E.c (.int 0)) (E.nil))))) (Z.seq (Z.asg 2 (E.bin O.ix (E.lst (E.cons (E.c (.str (S "mkdir"))) (E.cons (E.c (.str (S "create"))) (E.cons (E.c (.str (S "seal"))) (E.cons (E.c (.str (S "move"))) (E.cons (E.c (.str (S "snapshot"))) (E.cons (E.c (.str (S "append"))) (E.cons (E.c (.str (S "limit"))) (E.nil))))))))) (E.call l_next_M (E.cons (E.var 1) (E.cons (E.c (.int 7)) (E.nil)))))) (Z.seq (Z.asg 3 (E.lst (E.cons (E.c (.bl false)) (E.cons (E.c (.bl false)) (E.nil))))) (Z.seq (Z.ite (T.val (E.bin O.eq (E.call l_next_M (E.cons (E.var 1) (E.cons (E.c (.int 3)) (E.nil)))) (E.c (.int 1)))) (Z.asg 3 (E.bin O.ix (E.lst (E.cons (E.lst (E.cons (E.c (.bl true)) (E.cons (E.c (.bl false)) (E.nil)))) (E.cons (E.lst (E.cons (E.c (.bl false)) (E.cons (E.c (.bl true)) (E.nil)))) (E.cons (E.lst (E.cons (E.c (.bl true)) (E.cons (E.c (.bl true)) (E.nil)))) (E.nil))))) (E.call l_next_M (E.cons (E.var 1) (E.cons (E.c (.int 3)) (E.nil)))))) (Z.nil)) (Z.seq (Z.asg 4 (E.bin O.eq (E.call l_next_M (E.cons (E.var 1) (E.cons (E.c (.int 3)) (E.nil)))) (E.c (.int 1)))) (Z.seq (Z.asg 5 (E.call l_next_M (E.cons (E.var 1) (E.cons (E.bin O.pow (E.c (.int 10)) (E.c (.int 18))) (E.nil))))) (Z.seq (Z.ite (T.val (E.bin O.eq (E.call l_next_M (E.cons (E.var 1) (E.cons (E.c (.int 3)) (E.nil)))) (E.c (.int 1)))) (Z.asg 5 (E.bin O.ix (E.lst (E.cons (E.c (.int 0)) (E.cons (E.c (.int 1)) (E.cons (E.c (.int 9)) (E.cons (E.c (.int 10)) (E.cons (E.bin O.pow (E.c (.int 10)) (E.c (.int 17))) (E.cons (E.bin O.sub (E.bin O.pow (E.c (.int 10)) (E.c (.int 18))) (E.c (.int 1))) (E.nil)))))))) (E.call l_next_M (E.cons (E.var 1) (E.cons (E.c (.int 6)) (E.nil)))))) (Z.nil)) (Z.seq (Z.asg 6 (E.lst (E.nil))) (Z.seq (Z.forR1 (G.name 7) (E.cons (E.c (.int 2)) (E.nil)) (Z.seq (Z.asg 1 (E.call l_pool_M (E.cons (E.var 0) (E.cons (E.bin O.add (E.c (.int 1)) (E.var 7)) (E.nil))))) (Z.ite (T.tru (E.bin O.ix (E.var 3) (E.var 7))) (Z.drop (E.bmT "list" O.append (E.var 6) (E.cons (E.call l_bad_path_M (E.cons (E.var 1) (E.nil))) (E.nil)))) (Z.drop (E.bmT "list" O.append (E.var 6) (E.cons (E.call l_path_M (E.cons (E.var 1) (E.nil))) (E.nil))))))) (Z.seq (Z.asg 8 (E.tup (E.cons (E.var 2) (E.cons (E.bin O.ix (E.var 6) (E.c (.int 0))) (E.nil))))) (Z.seq (Z.asg 9 (E.lst (E.cons (E.bin O.add (E.bin O.add (E.var 2) (E.c (.str (S " ")))) (E.bin O.ix (E.var 6) (E.c (.int 0)))) (E.nil)))) (Z.seq (Z.ite (T.val (E.bin O.eq (E.var 2) (E.c (.str (S "append"))))) (Z.seq (Z.asg 10 (E.call l_some_text_M (E.cons (E.call l_pool_M (E.cons (E.var 0) (E.cons (E.c (.int 3)) (E.nil)))) (E.cons (E.c (.int 200)) (E.nil))))) (Z.seq (Z.asg 8 (E.tup (E.cons (E.var 2) (E.cons (E.bin O.ix (E.var 6) (E.c (.int 0))) (E.cons (E.var 10) (E.nil)))))) (Z.asg 9 (E.lst (E.cons (E.bin O.add (E.bin O.add (E.bin O.add (E.bin O.add (E.var 2) (E.c (.str (S " ")))) (E.bin O.ix (E.var 6) (E.c (.int 0)))) (E.c (.str (S " ")))) (E.var 10)) (E.nil)))))) (Z.nil)) (Z.seq (Z.ite (T.val (E.bin O.eq (E.var 2) (E.c (.str (S "limit"))))) (Z.seq (Z.asg 8 (E.tup (E.cons (E.var 2) (E.cons (E.bin O.ix (E.var 6) (E.c (.int 0))) (E.cons (E.var 5) (E.nil)))))) (Z.asg 9 (E.lst (E.cons (E.bin O.add (E.bin O.add (E.bin O.add (E.bin O.add (E.var 2) (E.c (.str (S " ")))) (E.bin O.ix (E.var 6) (E.c (.int 0)))) (E.c (.str (S " ")))) (E.blt O.str1 (E.cons (E.var 5) (E.nil)))) (E.nil))))) (Z.nil)) (Z.seq (Z.ite (T.or (T.val (E.bin O.eq (E.var 2) (E.c (.str (S "move"))))) (T.val (E.bin O.eq (E.var 2) (E.c (.str (S "snapshot")))))) (Z.seq (Z.asg 8 (E.tup (E.cons (E.var 2) (E.cons (E.bin O.ix (E.var 6) (E.c (.int 0))) (E.cons (E.bin O.ix (E.var 6) (E.c (.int 1))) (E.nil)))))) (Z.asg 9 (E.lst (E.cons (E.bin O.add (E.bin O.add (E.bin O.add (E.bin O.add (E.var 2) (E.c (.str (S " ")))) (E.bin O.ix (E.var 6) (E.c (.int 0)))) (E.c (.str (S " ")))) (E.bin O.ix (E.var 6) (E.c (.int 1)))) (E.nil))))) (Z.nil)) (Z.seq (Z.ite (T.or (T.tru (E.bin O.ix (E.var 3) (E.c (.int 0)))) (T.and (T.tru (E.bin O.ix (E.var 3) (E.c (.int 1)))) (T.val (E.bin O.inY (E.var 2) (E.lst (E.cons (E.c (.str (S "move"))) (E.cons (E.c (.str (S "snapshot"))) (E.nil)))))))) (Z.asg 9 (E.c (.str (S "path")))) (Z.nil)) (Z.seq (Z.ite (T.tru (E.var 4)) (Z.seq (Z.asg 8 (E.call l_spoilt_M (E.cons (E.var 8) (E.cons (E.call l_pool_M (E.cons (E.var 0) (E.cons (E.c (.int 4)) (E.nil)))) (E.nil))))) (Z.asg 9 (E.c (.str (S "command"))))) (Z.nil)) (Z.seq (Z.forR1 (G.name 11) (E.cons (E.c (.int 2)) (E.nil)) (Z.seq (Z.asg 12 (E.call l_asked_M (E.cons (E.var 8) (E.nil)))) (Z.seq (Z.ite (T.val (E.bin O.ne (E.var 12) (E.var 9))) (Z.ret (E.c (.bl false))) (Z.nil)) (Z.ite (T.and (T.not (T.tru (E.var 4))) (T.and (T.val (E.bin O.ne (E.var 9) (E.c (.str (S "path"))))) (T.not (T.tru (E.isi (O.isiT "str" []) (E.bin O.ix (E.var 12) (E.c (.int 0)))))))) (Z.ret (E.c (.bl false))) (Z.nil))))) (Z.ret (E.c (.bl true)))))))))))))))))))
def law_M : FF := Z.run 1 13 law_b
end YL

set_option Elab.async false
set_option linter.all false
set_option maxRecDepth 100000
set_option maxHeartbeats 4000000
namespace YL
open PySem PySem.Spec PyProof.Rows L2 Y

def top (i : Nat) : Stmt := PySem.Challenge.pw_appendhall_k58_commands_written.main.body.getD i (.Pass ⟨0, 0, 0, 0⟩)
abbrev s_l_pool : Stmt := top 28
abbrev s_l_next : Stmt := top 29
abbrev s_l_path : Stmt := top 32
abbrev s_l_bad_path : Stmt := top 33
abbrev s_l_char : Stmt := top 30
abbrev s_l_some_text : Stmt := top 31
abbrev s_l_third : Stmt := top 35
abbrev s_l_spoilt : Stmt := top 36
abbrev s_is_integer : Stmt := top 15
abbrev s_is_text : Stmt := top 17
abbrev s_is_deed : Stmt := top 19
abbrev s_is_number : Stmt := top 16
abbrev s_has_form : Stmt := top 25
abbrev s_is_name : Stmt := top 8
abbrev s_check_names : Stmt := top 9
abbrev s_split_path : Stmt := top 10
abbrev s_check_paths : Stmt := top 24
abbrev s_format_command : Stmt := top 26
abbrev s_l_asked : Stmt := top 34
abbrev s_law : Stmt := top 37
def fa0 : List Fy := [.he (.free "len"),
  .he (.free "int"),
  .he (.free "range"),
  .he (.free "str"),
  .he (.free "list"),
  .isT "tuple" [],
  .he (.free "isinstance"),
  .he (.free "tuple"),
  .isT "int" [],
  .isT "bool" [],
  .he (.free "bool"),
  .he (.int "NUMBER_MOST" (1000000000000000000)),
  .isT "str" [],
  .he (.int "TEXT_MOST" (200)),
  .he (.free "ord"),
  .he (.int "PERCENT" (37)),
  .tup "ONE_PATH" ["mkdir", "create", "seal"],
  .he (.int "DIGITS_MOST" (18)),
  .tup "TWO_PATHS" ["move", "snapshot"],
  .he (.exc (Str.ofString "BadCommand")),
  .he (.glo (Str.ofString "BadCommand")),
  .he (.exc (Str.ofString "BadPath")),
  .he (.glo (Str.ofString "BadPath")),
  .he (.int "NAMES_MOST" (6)),
  .he (.int "NAME_MOST" (12)),
  .he (.str "NAME_CHARS" (Str.ofString "abcdefghijklmnopqrstuvwxyz0123456789-.")),
  .cl "HallError" [("HallError", true), ("BadPath", true), ("BadCommand", true)],
  .isX [("HallError", false), ("BadPath", false), ("BadCommand", true)] (some "BadCommand") "",
  .isX [("HallError", false), ("BadPath", true), ("BadCommand", false)] (some "BadPath") "",
  .he (.glo "_law_pool")]
def fa1 : List Fy := [.he (.glo "_law_next"),
  .he (.glo "_law_path"),
  .he (.glo "_law_bad_path"),
  .he (.glo "_law_char"),
  .he (.glo "_law_some_text"),
  .he (.glo "_law_third"),
  .he (.glo "_law_spoilt"),
  .he (.glo "is_integer"),
  .he (.glo "is_text"),
  .he (.glo "is_deed"),
  .he (.glo "is_number"),
  .he (.glo "has_form"),
  .he (.glo "is_name"),
  .he (.glo "check_names"),
  .he (.glo "split_path"),
  .he (.glo "check_paths"),
  .he (.glo "format_command"),
  .he (.glo "_law_asked"),
  .he (.glo "law")]
def fa : List Fy := fa0 ++ fa1
def fn0 : List DefY := [⟨.glo "_law_pool", "_law_pool", "_law_pool", s_l_pool⟩,
  ⟨.glo "_law_next", "_law_next", "_law_next", s_l_next⟩,
  ⟨.glo "_law_path", "_law_path", "_law_path", s_l_path⟩,
  ⟨.glo "_law_bad_path", "_law_bad_path", "_law_bad_path", s_l_bad_path⟩,
  ⟨.glo "_law_char", "_law_char", "_law_char", s_l_char⟩,
  ⟨.glo "_law_some_text", "_law_some_text", "_law_some_text", s_l_some_text⟩,
  ⟨.glo "_law_third", "_law_third", "_law_third", s_l_third⟩,
  ⟨.glo "_law_spoilt", "_law_spoilt", "_law_spoilt", s_l_spoilt⟩,
  ⟨.glo "is_integer", "is_integer", "is_integer", s_is_integer⟩,
  ⟨.glo "is_text", "is_text", "is_text", s_is_text⟩,
  ⟨.glo "is_deed", "is_deed", "is_deed", s_is_deed⟩,
  ⟨.glo "is_number", "is_number", "is_number", s_is_number⟩,
  ⟨.glo "has_form", "has_form", "has_form", s_has_form⟩,
  ⟨.glo "is_name", "is_name", "is_name", s_is_name⟩,
  ⟨.glo "check_names", "check_names", "check_names", s_check_names⟩,
  ⟨.glo "split_path", "split_path", "split_path", s_split_path⟩,
  ⟨.glo "check_paths", "check_paths", "check_paths", s_check_paths⟩,
  ⟨.glo "format_command", "format_command", "format_command", s_format_command⟩,
  ⟨.glo "_law_asked", "_law_asked", "_law_asked", s_l_asked⟩,
  ⟨.glo "law", "law", "law", s_law⟩]
def fn : List DefY := fn0
/-- the module as the head leaves it -/
structure Txt (M : Mo) : Prop where
  O : ∃ h, OkY M h
  c : SaysY fa fn M.K
namespace Txt
variable {M : Mo} (T : Txt M)
include T
theorem b_len : M.mg "len" = none := let ⟨_, O⟩ := T.O; y_free O (T.c.fact 0)
theorem b_int : M.mg "int" = none := let ⟨_, O⟩ := T.O; y_free O (T.c.fact 1)
theorem b_range : M.mg "range" = none := let ⟨_, O⟩ := T.O; y_free O (T.c.fact 2)
theorem b_str : M.mg "str" = none := let ⟨_, O⟩ := T.O; y_free O (T.c.fact 3)
theorem b_list : M.mg "list" = none := let ⟨_, O⟩ := T.O; y_free O (T.c.fact 4)
theorem isT_tuple : IsT M "tuple" [] := let ⟨_, O⟩ := T.O; y_isT O (T.c.fact 5)
theorem b_isinstance : M.mg "isinstance" = none := let ⟨_, O⟩ := T.O; y_free O (T.c.fact 6)
theorem b_tuple : M.mg "tuple" = none := let ⟨_, O⟩ := T.O; y_free O (T.c.fact 7)
theorem isT_int : IsT M "int" [] := let ⟨_, O⟩ := T.O; y_isT O (T.c.fact 8)
theorem isT_bool : IsT M "bool" [] := let ⟨_, O⟩ := T.O; y_isT O (T.c.fact 9)
theorem b_bool : M.mg "bool" = none := let ⟨_, O⟩ := T.O; y_free O (T.c.fact 10)
theorem c_NUMBER_MOST : ∃ t, M.mg "NUMBER_MOST" = some (.int 1000000000000000000 t) := let ⟨_, O⟩ := T.O; y_int O (T.c.fact 11)
theorem isT_str : IsT M "str" [] := let ⟨_, O⟩ := T.O; y_isT O (T.c.fact 12)
theorem c_TEXT_MOST : ∃ t, M.mg "TEXT_MOST" = some (.int 200 t) := let ⟨_, O⟩ := T.O; y_int O (T.c.fact 13)
theorem b_ord : M.mg "ord" = none := let ⟨_, O⟩ := T.O; y_free O (T.c.fact 14)
theorem c_PERCENT : ∃ t, M.mg "PERCENT" = some (.int 37 t) := let ⟨_, O⟩ := T.O; y_int O (T.c.fact 15)
theorem c_ONE_PATH : GTup M "ONE_PATH" ["mkdir", "create", "seal"] := let ⟨_, O⟩ := T.O; y_tup O (T.c.fact 16)
theorem c_DIGITS_MOST : ∃ t, M.mg "DIGITS_MOST" = some (.int 18 t) := let ⟨_, O⟩ := T.O; y_int O (T.c.fact 17)
theorem c_TWO_PATHS : GTup M "TWO_PATHS" ["move", "snapshot"] := let ⟨_, O⟩ := T.O; y_tup O (T.c.fact 18)
theorem exn_BadCommand : Exn M (Str.ofString "BadCommand") "BadCommand" := let ⟨_, O⟩ := T.O; y_exn O (T.c.fact 19) (T.c.fact 20)
theorem exn_BadPath : Exn M (Str.ofString "BadPath") "BadPath" := let ⟨_, O⟩ := T.O; y_exn O (T.c.fact 21) (T.c.fact 22)
theorem c_NAMES_MOST : ∃ t, M.mg "NAMES_MOST" = some (.int 6 t) := let ⟨_, O⟩ := T.O; y_int O (T.c.fact 23)
theorem c_NAME_MOST : ∃ t, M.mg "NAME_MOST" = some (.int 12 t) := let ⟨_, O⟩ := T.O; y_int O (T.c.fact 24)
theorem c_NAME_CHARS : ∃ t, M.mg "NAME_CHARS" = some (.str (Str.ofString "abcdefghijklmnopqrstuvwxyz0123456789-.") t) := let ⟨_, O⟩ := T.O; y_str O (T.c.fact 25)
theorem cl_HallError : Clause M "HallError" [("HallError", true), ("BadPath", true), ("BadCommand", true)] := let ⟨_, O⟩ := T.O; y_cl O (T.c.fact 26)
theorem at_BadCommand : M.mg (Str.ofString "BadCommand") = some (.ref (M.cv "BadCommand")) := let ⟨_, O⟩ := T.O; y_at O (T.c.fact 20)
theorem isX_BadCommand : ∀ p ∈ ([("HallError", false), ("BadPath", false), ("BadCommand", true)] : List (String × Bool)), IsX M p.1 (.ref (M.cv "BadCommand")) p.2 := let ⟨_, O⟩ := T.O; y_isXo (D := "BadCommand") (n := "") O (T.c.fact 27)
theorem at_BadPath : M.mg (Str.ofString "BadPath") = some (.ref (M.cv "BadPath")) := let ⟨_, O⟩ := T.O; y_at O (T.c.fact 22)
theorem isX_BadPath : ∀ p ∈ ([("HallError", false), ("BadPath", true), ("BadCommand", false)] : List (String × Bool)), IsX M p.1 (.ref (M.cv "BadPath")) p.2 := let ⟨_, O⟩ := T.O; y_isXo (D := "BadPath") (n := "") O (T.c.fact 28)
theorem glo_l_pool : M.mg "_law_pool" = some (.ref (He.ga M.K "_law_pool")) := let ⟨_, O⟩ := T.O; y_glo O (T.c.fact 29)
theorem glo_l_next : M.mg "_law_next" = some (.ref (He.ga M.K "_law_next")) := let ⟨_, O⟩ := T.O; y_glo O (T.c.fact 30)
theorem glo_l_path : M.mg "_law_path" = some (.ref (He.ga M.K "_law_path")) := let ⟨_, O⟩ := T.O; y_glo O (T.c.fact 31)
theorem glo_l_bad_path : M.mg "_law_bad_path" = some (.ref (He.ga M.K "_law_bad_path")) := let ⟨_, O⟩ := T.O; y_glo O (T.c.fact 32)
theorem glo_l_char : M.mg "_law_char" = some (.ref (He.ga M.K "_law_char")) := let ⟨_, O⟩ := T.O; y_glo O (T.c.fact 33)
theorem glo_l_some_text : M.mg "_law_some_text" = some (.ref (He.ga M.K "_law_some_text")) := let ⟨_, O⟩ := T.O; y_glo O (T.c.fact 34)
theorem glo_l_third : M.mg "_law_third" = some (.ref (He.ga M.K "_law_third")) := let ⟨_, O⟩ := T.O; y_glo O (T.c.fact 35)
theorem glo_l_spoilt : M.mg "_law_spoilt" = some (.ref (He.ga M.K "_law_spoilt")) := let ⟨_, O⟩ := T.O; y_glo O (T.c.fact 36)
theorem glo_is_integer : M.mg "is_integer" = some (.ref (He.ga M.K "is_integer")) := let ⟨_, O⟩ := T.O; y_glo O (T.c.fact 37)
theorem glo_is_text : M.mg "is_text" = some (.ref (He.ga M.K "is_text")) := let ⟨_, O⟩ := T.O; y_glo O (T.c.fact 38)
theorem glo_is_deed : M.mg "is_deed" = some (.ref (He.ga M.K "is_deed")) := let ⟨_, O⟩ := T.O; y_glo O (T.c.fact 39)
theorem glo_is_number : M.mg "is_number" = some (.ref (He.ga M.K "is_number")) := let ⟨_, O⟩ := T.O; y_glo O (T.c.fact 40)
theorem glo_has_form : M.mg "has_form" = some (.ref (He.ga M.K "has_form")) := let ⟨_, O⟩ := T.O; y_glo O (T.c.fact 41)
theorem glo_is_name : M.mg "is_name" = some (.ref (He.ga M.K "is_name")) := let ⟨_, O⟩ := T.O; y_glo O (T.c.fact 42)
theorem glo_check_names : M.mg "check_names" = some (.ref (He.ga M.K "check_names")) := let ⟨_, O⟩ := T.O; y_glo O (T.c.fact 43)
theorem glo_split_path : M.mg "split_path" = some (.ref (He.ga M.K "split_path")) := let ⟨_, O⟩ := T.O; y_glo O (T.c.fact 44)
theorem glo_check_paths : M.mg "check_paths" = some (.ref (He.ga M.K "check_paths")) := let ⟨_, O⟩ := T.O; y_glo O (T.c.fact 45)
theorem glo_format_command : M.mg "format_command" = some (.ref (He.ga M.K "format_command")) := let ⟨_, O⟩ := T.O; y_glo O (T.c.fact 46)
theorem glo_l_asked : M.mg "_law_asked" = some (.ref (He.ga M.K "_law_asked")) := let ⟨_, O⟩ := T.O; y_glo O (T.c.fact 47)
theorem glo_law : M.mg "law" = some (.ref (He.ga M.K "law")) := let ⟨_, O⟩ := T.O; y_glo O (T.c.fact 48)
theorem d_l_pool : ∃ fd, L2.Fun M.K "_law_pool" "_law_pool" s_l_pool (AtY.ad M.K (.glo "_law_pool")) fd := T.c.def_ 0
theorem d_l_next : ∃ fd, L2.Fun M.K "_law_next" "_law_next" s_l_next (AtY.ad M.K (.glo "_law_next")) fd := T.c.def_ 1
theorem d_l_path : ∃ fd, L2.Fun M.K "_law_path" "_law_path" s_l_path (AtY.ad M.K (.glo "_law_path")) fd := T.c.def_ 2
theorem d_l_bad_path : ∃ fd, L2.Fun M.K "_law_bad_path" "_law_bad_path" s_l_bad_path (AtY.ad M.K (.glo "_law_bad_path")) fd := T.c.def_ 3
theorem d_l_char : ∃ fd, L2.Fun M.K "_law_char" "_law_char" s_l_char (AtY.ad M.K (.glo "_law_char")) fd := T.c.def_ 4
theorem d_l_some_text : ∃ fd, L2.Fun M.K "_law_some_text" "_law_some_text" s_l_some_text (AtY.ad M.K (.glo "_law_some_text")) fd := T.c.def_ 5
theorem d_l_third : ∃ fd, L2.Fun M.K "_law_third" "_law_third" s_l_third (AtY.ad M.K (.glo "_law_third")) fd := T.c.def_ 6
theorem d_l_spoilt : ∃ fd, L2.Fun M.K "_law_spoilt" "_law_spoilt" s_l_spoilt (AtY.ad M.K (.glo "_law_spoilt")) fd := T.c.def_ 7
theorem d_is_integer : ∃ fd, L2.Fun M.K "is_integer" "is_integer" s_is_integer (AtY.ad M.K (.glo "is_integer")) fd := T.c.def_ 8
theorem d_is_text : ∃ fd, L2.Fun M.K "is_text" "is_text" s_is_text (AtY.ad M.K (.glo "is_text")) fd := T.c.def_ 9
theorem d_is_deed : ∃ fd, L2.Fun M.K "is_deed" "is_deed" s_is_deed (AtY.ad M.K (.glo "is_deed")) fd := T.c.def_ 10
theorem d_is_number : ∃ fd, L2.Fun M.K "is_number" "is_number" s_is_number (AtY.ad M.K (.glo "is_number")) fd := T.c.def_ 11
theorem d_has_form : ∃ fd, L2.Fun M.K "has_form" "has_form" s_has_form (AtY.ad M.K (.glo "has_form")) fd := T.c.def_ 12
theorem d_is_name : ∃ fd, L2.Fun M.K "is_name" "is_name" s_is_name (AtY.ad M.K (.glo "is_name")) fd := T.c.def_ 13
theorem d_check_names : ∃ fd, L2.Fun M.K "check_names" "check_names" s_check_names (AtY.ad M.K (.glo "check_names")) fd := T.c.def_ 14
theorem d_split_path : ∃ fd, L2.Fun M.K "split_path" "split_path" s_split_path (AtY.ad M.K (.glo "split_path")) fd := T.c.def_ 15
theorem d_check_paths : ∃ fd, L2.Fun M.K "check_paths" "check_paths" s_check_paths (AtY.ad M.K (.glo "check_paths")) fd := T.c.def_ 16
theorem d_format_command : ∃ fd, L2.Fun M.K "format_command" "format_command" s_format_command (AtY.ad M.K (.glo "format_command")) fd := T.c.def_ 17
theorem d_l_asked : ∃ fd, L2.Fun M.K "_law_asked" "_law_asked" s_l_asked (AtY.ad M.K (.glo "_law_asked")) fd := T.c.def_ 18
theorem d_law : ∃ fd, L2.Fun M.K "law" "law" s_law (AtY.ad M.K (.glo "law")) fd := T.c.def_ 19
end Txt
theorem l_asked_su0_no (c : String) (a : Addr) : NoEx (l_asked_su0 c a) := by repeat (first | exact nxs_nil | exact nxs_brk | exact nxs_ctn | exact nx_c | exact nx_nil | exact nx_var | exact nx_isx | apply nxs_seq | apply nxs_ite | apply nxs_ret | apply nxs_asg | apply nxt_tru | apply nxt_val | apply nxt_and | apply nxt_or | apply nxt_not | apply nx_and | apply nx_or | apply nx_not | apply nx_cons | apply nx_tup | apply nx_lst | apply nx_bin | apply nx_un | apply nx_call | apply nxf_run)
theorem l_asked_su0_in (c : String) (a : Addr) (ρ : Rho) (s : Sto) : Z.wipe 1 (l_asked_su0 c a (ρ.set 1 (some (.con a))) s) = Z.wipe 1 (l_asked_su0 c 0 (ρ.set 1 (some (.con 0))) s) := wipe_sim (f := l_asked_su0 c a) (g := l_asked_su0 c 0) (by repeat (first | exact eqs_nil | exact eqs_brk | exact eqs_ctn | exact eq_c | exact eq_nil | exact eq_isx | exact eq_var | apply eqs_seq | apply eqs_ite | apply eqs_ret | apply eqs_asg | apply eqt_tru | apply eqt_val | apply eqt_and | apply eqt_or | apply eqt_not | apply eq_and | apply eq_or | apply eq_not | apply eq_cons | apply eq_tup | apply eq_lst | apply eq_bin | apply eq_call | exact nxs_nil | exact nx_c | exact nx_nil | exact nx_var | exact nx_isx | apply nxt_tru | apply nxt_val | apply nxt_and | apply nxt_or | apply nxt_not | apply nx_and | apply nx_or | apply nx_not | apply nx_cons | apply nx_tup | apply nx_lst | apply nx_bin | apply nx_un | apply nx_call | apply nxf_run)) ρ s
theorem sc_l_pool : FnScope ["_law_script", "_law_at", "_law_cell"] ["_law_script", "_law_at"] (defScope s_l_pool) := ⟨rfl, rfl, rfl, by decide +kernel, rfl, by decide +kernel, by decide +kernel⟩
theorem ok_l_pool {M : Mo} (T : Txt M) {a : Addr} {fd : FuncData} (F : L2.Fun M.K "_law_pool" "_law_pool" s_l_pool a fd) : FnOk M.P M.w M.K M.mg M.base (L2N.CX M.P M.w) 1 a fd ["_law_script", "_law_at"] (sp2 M.K M.cv l_pool_M) := fn2 (N := ["_law_script", "_law_at", "_law_cell"]) F sc_l_pool rfl rfl fun cdv A outer s H E hr => by
  have nd := sc_l_pool.nd
  exact pss2_cons (ps2_set (i := 2) nd rfl (by first | exact Or.inl rfl | exact Or.inr rfl) (pe2_int)) (pss2_cons (ps2_if (pt2_cmp or_lt o_lt (pe2_var (i := 1)) (pe2_blt call_lenY o_len1 rfl T.b_len (by decide +kernel) (pa2_cons (pe2_var (i := 0)) (pa2_nil))) (nomark _)) (pss2_one (ps2_set (i := 2) nd rfl (by first | exact Or.inl rfl | exact Or.inr rfl) (pe2_ix (pe2_var (i := 0)) (pe2_var (i := 1))))) (pss2_nil)) (pss2_cons (ps2_if (pt2_cmp or_lt o_lt (pe2_var (i := 2)) (pe2_int) (nomark _)) (pss2_one (ps2_set (i := 2) nd rfl (by first | exact Or.inl rfl | exact Or.inr rfl) (pe2_op op_sub o_sub (pe2_un un_neg o_neg (pe2_int)) (pe2_var (i := 2))))) (pss2_nil)) (pss2_cons (ps2_if (pt2_cmp or_ge o_ge (pe2_var (i := 2)) (pe2_op op_pow o_pow (pe2_int) (pe2_int)) (nomark _)) (pss2_one (ps2_ret (pe2_lst (pa2_cons (pe2_int) (pa2_cons (pe2_op op_sub o_sub (pe2_var (i := 2)) (pe2_op op_pow o_pow (pe2_int) (pe2_int))) (pa2_nil)))))) (pss2_nil)) (pss2_one (ps2_ret (pe2_lst (pa2_cons (pe2_int) (pa2_cons (pe2_op or_addY o_add (pe2_op or_mulY o_mul (pe2_var (i := 2)) (pe2_int)) (pe2_var (i := 1))) (pa2_nil)))))))))
theorem cal_l_pool {M : Mo} (T : Txt M) : Cal M 1 "_law_pool" l_pool_M := let ⟨fd, F⟩ := T.d_l_pool; ⟨_, fd, _, ok_l_pool T F, T.glo_l_pool, F.kp, F.binds (ps := ["_law_script", "_law_at"]) fun _ _ _ _ _ _ us hl => match us, hl with | [_, _], _ => rfl⟩
theorem sc_l_next : FnScope ["_law_pool_here", "_law_many", "_law_draw"] ["_law_pool_here", "_law_many"] (defScope s_l_next) := ⟨rfl, rfl, rfl, by decide +kernel, rfl, by decide +kernel, by decide +kernel⟩
theorem ok_l_next {M : Mo} (T : Txt M) {a : Addr} {fd : FuncData} (F : L2.Fun M.K "_law_next" "_law_next" s_l_next a fd) : FnOk M.P M.w M.K M.mg M.base (L2N.CX M.P M.w) 1 a fd ["_law_pool_here", "_law_many"] (sp2 M.K M.cv l_next_M) := fn2 (N := ["_law_pool_here", "_law_many", "_law_draw"]) F sc_l_next rfl rfl fun cdv A outer s H E hr => by
  have nd := sc_l_next.nd
  have hu := hu_r hr
  exact pss2_cons (ps2_if (pt2_cmp (op_eqD (hu_e hu)) o_eq (pe2_ix (pe2_var (i := 0)) (pe2_int)) (pe2_int) (nomark _)) (pss2_cons (ps2_set (i := 2) nd rfl (by first | exact Or.inl rfl | exact Or.inr rfl) (pe2_op op_mod o_mod (pe2_bty call_int1 o_int1 rfl T.b_int (by decide +kernel) (pa2_cons (pe2_ix (pe2_var (i := 0)) (pe2_int)) (pa2_nil))) (pe2_var (i := 1)))) (pss2_cons (ps2_lset (pe2_op op_fdivW o_fdiv (pe2_ix (pe2_var (i := 0)) (pe2_int)) (pe2_var (i := 1))) (pe2_var (i := 0)) (pe2_int)) (pss2_one (ps2_ret (pe2_var (i := 2)))))) (pss2_nil)) (pss2_cons (ps2_lset (pe2_op op_mod o_mod (pe2_bty call_int1 o_int1 rfl T.b_int (by decide +kernel) (pa2_cons (pe2_op or_addY o_add (pe2_op or_mulY o_mul (pe2_ix (pe2_var (i := 0)) (pe2_int)) (pe2_int)) (pe2_int)) (pa2_nil))) (pe2_int)) (pe2_var (i := 0)) (pe2_int)) (pss2_one (ps2_ret (pe2_op op_mod o_mod (pe2_op op_mod o_mod (pe2_bty call_int1 o_int1 rfl T.b_int (by decide +kernel) (pa2_cons (pe2_op or_addY o_add (pe2_op op_fdivW o_fdiv (pe2_ix (pe2_var (i := 0)) (pe2_int)) (pe2_int)) (pe2_op or_mulY o_mul (pe2_ix (pe2_var (i := 0)) (pe2_int)) (pe2_int))) (pa2_nil))) (pe2_int)) (pe2_var (i := 1))))))
theorem cal_l_next {M : Mo} (T : Txt M) : Cal M 1 "_law_next" l_next_M := let ⟨fd, F⟩ := T.d_l_next; ⟨_, fd, _, ok_l_next T F, T.glo_l_next, F.kp, F.binds (ps := ["_law_pool_here", "_law_many"]) fun _ _ _ _ _ _ us hl => match us, hl with | [_, _], _ => rfl⟩
theorem sc_l_path : FnScope ["_law_pool_here", "_law_chars", "_law_path_here", "_law_k", "_law_length", "_law_name", "_law_j"] ["_law_pool_here"] (defScope s_l_path) := ⟨rfl, rfl, rfl, by decide +kernel, rfl, by decide +kernel, by decide +kernel⟩
theorem ok_l_path {M : Mo} (T : Txt M) {a : Addr} {fd : FuncData} (F : L2.Fun M.K "_law_path" "_law_path" s_l_path a fd) : FnOk M.P M.w M.K M.mg M.base (L2N.CX M.P M.w) 2 a fd ["_law_pool_here"] (sp2 M.K M.cv l_path_M) := fn2 (N := ["_law_pool_here", "_law_chars", "_law_path_here", "_law_k", "_law_length", "_law_name", "_law_j"]) F sc_l_path rfl rfl fun cdv A outer s H E hr => by
  have nd := sc_l_path.nd
  have hu := hu_r hr
  have tk := L2N.takes_of (X := cxY M ["_law_pool_here", "_law_chars", "_law_path_here", "_law_k", "_law_length", "_law_name", "_law_j"] "_law_path" (defScope s_l_path) a cdv A outer s H E) (E := E) rfl rfl rfl rfl
  have po := passes_of (X := cxY M ["_law_pool_here", "_law_chars", "_law_path_here", "_law_k", "_law_length", "_law_name", "_law_j"] "_law_path" (defScope s_l_path) a cdv A outer s H E) rfl
  exact pss2_cons (ps2_set (i := 1) nd rfl (by first | exact Or.inl rfl | exact Or.inr rfl) (pe2_str)) (pss2_cons (ps2_set (i := 2) nd rfl (by first | exact Or.inl rfl | exact Or.inr rfl) (pe2_str)) (pss2_cons (ps2_forR1 po rfl rfl T.b_range (pa2_cons (pe2_call ⟨rfl, rfl, rfl, rfl, rfl⟩ (cal_l_next T) hr (by decide) tk (pa2_cons (pe2_var (i := 0)) (pa2_cons (pe2_int) (pa2_nil)))) (pa2_nil)) (pg2_name (i := 3) nd rfl (by first | exact Or.inl rfl | exact Or.inr rfl)) (pss2_cons (ps2_set (i := 4) nd rfl (by first | exact Or.inl rfl | exact Or.inr rfl) (pe2_op or_addY o_add (pe2_int) (pe2_call ⟨rfl, rfl, rfl, rfl, rfl⟩ (cal_l_next T) hr (by decide) tk (pa2_cons (pe2_var (i := 0)) (pa2_cons (pe2_int) (pa2_nil)))))) (pss2_cons (ps2_if (pt2_cmp (op_eqD (hu_e hu)) o_eq (pe2_call ⟨rfl, rfl, rfl, rfl, rfl⟩ (cal_l_next T) hr (by decide) tk (pa2_cons (pe2_var (i := 0)) (pa2_cons (pe2_int) (pa2_nil)))) (pe2_int) (nomark _)) (pss2_one (ps2_set (i := 4) nd rfl (by first | exact Or.inl rfl | exact Or.inr rfl) (pe2_op or_addY o_add (pe2_int) (pe2_call ⟨rfl, rfl, rfl, rfl, rfl⟩ (cal_l_next T) hr (by decide) tk (pa2_cons (pe2_var (i := 0)) (pa2_cons (pe2_int) (pa2_nil))))))) (pss2_nil)) (pss2_cons (ps2_set (i := 5) nd rfl (by first | exact Or.inl rfl | exact Or.inr rfl) (pe2_bm (.inr rfl) PySem.F.plainAttrs_str PySem.F.slot_str_join PySem.F.type_str_join mt_join o_join (pe2_str) (pa2_cons (pe2_lcR1 rfl nd ⟨blkOk_by (N := ["_law_pool_here", "_law_chars", "_law_path_here", "_law_k", "_law_length", "_law_name", "_law_j"]) (sc := defScope s_l_path) (by decide +kernel), fun _ _ _ _ _ => pg_name (i := 6) nd rfl (Or.inl rfl), ⟨_, fun _ _ _ _ _ => pts_nil, fun σ H Q ⟨m, s, ρ, R, S, h⟩ => h m H (.refl _ _) R⟩, fun s1 H1 C1 cl1 fp1 => pe2_ix (pe2_var (i := 1)) (pe2_call ⟨rfl, rfl, rfl, rfl, rfl⟩ (cal_l_next T) hr (by decide) takes0N (pa2_cons (pe2_var (i := 0)) (pa2_cons (pe2_int) (pa2_nil))))⟩ rfl T.b_range (pa2_cons (pe2_var (i := 4)) (pa2_nil))) (pa2_nil)))) (pss2_cons (ps2_if (PW2.pt (pw2_or (pt2_cmp (op_eqD (hu_e hu)) o_eq (pe2_var (i := 5)) (pe2_str) (nomark _)) (pw2_or1 (pt2_cmp (op_eqD (hu_e hu)) o_eq (pe2_var (i := 5)) (pe2_str) (nomark _))))) (pss2_one (ps2_set (i := 5) nd rfl (by first | exact Or.inl rfl | exact Or.inr rfl) (pe2_op or_addY o_add (pe2_var (i := 5)) (pe2_str)))) (pss2_nil)) (pss2_one (ps2_set (i := 2) nd rfl (by first | exact Or.inl rfl | exact Or.inr rfl) (pe2_op or_addY o_add (pe2_op or_addY o_add (pe2_var (i := 2)) (pe2_str)) (pe2_var (i := 5)))))))))) (pss2_cons (ps2_if (pt2_cmp (op_eqD (hu_e hu)) o_eq (pe2_var (i := 2)) (pe2_str) (nomark _)) (pss2_one (ps2_ret (pe2_str))) (pss2_nil)) (pss2_one (ps2_ret (pe2_var (i := 2)))))))
theorem cal_l_path {M : Mo} (T : Txt M) : Cal M 2 "_law_path" l_path_M := let ⟨fd, F⟩ := T.d_l_path; ⟨_, fd, _, ok_l_path T F, T.glo_l_path, F.kp, F.binds (ps := ["_law_pool_here"]) fun _ _ _ _ _ _ us hl => match us, hl with | [_], _ => rfl⟩
theorem sc_l_bad_path : FnScope ["_law_pool_here", "_law_path_here", "_law_choice", "_law_odd", "_law_place"] ["_law_pool_here"] (defScope s_l_bad_path) := ⟨rfl, rfl, rfl, by decide +kernel, rfl, by decide +kernel, by decide +kernel⟩
theorem ok_l_bad_path {M : Mo} (T : Txt M) {a : Addr} {fd : FuncData} (F : L2.Fun M.K "_law_bad_path" "_law_bad_path" s_l_bad_path a fd) : FnOk M.P M.w M.K M.mg M.base (L2N.CX M.P M.w) 3 a fd ["_law_pool_here"] (sp2 M.K M.cv l_bad_path_M) := fn2 (N := ["_law_pool_here", "_law_path_here", "_law_choice", "_law_odd", "_law_place"]) F sc_l_bad_path rfl rfl fun cdv A outer s H E hr => by
  have nd := sc_l_bad_path.nd
  have hu := hu_r hr
  have tk := L2N.takes_of (X := cxY M ["_law_pool_here", "_law_path_here", "_law_choice", "_law_odd", "_law_place"] "_law_bad_path" (defScope s_l_bad_path) a cdv A outer s H E) (E := E) rfl rfl rfl rfl
  exact pss2_cons (ps2_set (i := 1) nd rfl (by first | exact Or.inl rfl | exact Or.inr rfl) (pe2_call ⟨rfl, rfl, rfl, rfl, rfl⟩ (cal_l_path T) hr (by decide) tk (pa2_cons (pe2_var (i := 0)) (pa2_nil)))) (pss2_cons (ps2_set (i := 2) nd rfl (by first | exact Or.inl rfl | exact Or.inr rfl) (pe2_call ⟨rfl, rfl, rfl, rfl, rfl⟩ (cal_l_next T) hr (by decide) tk (pa2_cons (pe2_var (i := 0)) (pa2_cons (pe2_int) (pa2_nil))))) (pss2_cons (ps2_if (pt2_cmp (op_eqD (hu_e hu)) o_eq (pe2_var (i := 2)) (pe2_int) (nomark _)) (pss2_one (ps2_ret (pe2_slice (pe2_var (i := 1)) (po2_some (pe2_int)) po2_none))) (pss2_nil)) (pss2_cons (ps2_if (pt2_cmp (op_eqD (hu_e hu)) o_eq (pe2_var (i := 2)) (pe2_int) (nomark _)) (pss2_one (ps2_ret (pe2_op or_addY o_add (pe2_var (i := 1)) (pe2_str)))) (pss2_nil)) (pss2_cons (ps2_if (pt2_cmp (op_eqD (hu_e hu)) o_eq (pe2_var (i := 2)) (pe2_int) (nomark _)) (pss2_one (ps2_ret (pe2_ix (pe2_lst (pa2_cons (pe2_str) (pa2_cons (pe2_str) (pa2_cons (pe2_str) (pa2_cons (pe2_str) (pa2_cons (pe2_str) (pa2_cons (pe2_str) (pa2_cons (pe2_str) (pa2_cons (pe2_str) (pa2_nil)))))))))) (pe2_call ⟨rfl, rfl, rfl, rfl, rfl⟩ (cal_l_next T) hr (by decide) tk (pa2_cons (pe2_var (i := 0)) (pa2_cons (pe2_int) (pa2_nil))))))) (pss2_nil)) (pss2_cons (ps2_if (pt2_cmp (op_eqD (hu_e hu)) o_eq (pe2_var (i := 2)) (pe2_int) (nomark _)) (pss2_one (ps2_ret (pe2_op or_mulY o_mul (pe2_str) (pe2_op or_addY o_add (pe2_int) (pe2_call ⟨rfl, rfl, rfl, rfl, rfl⟩ (cal_l_next T) hr (by decide) tk (pa2_cons (pe2_var (i := 0)) (pa2_cons (pe2_int) (pa2_nil)))))))) (pss2_nil)) (pss2_cons (ps2_if (pt2_cmp (op_eqD (hu_e hu)) o_eq (pe2_var (i := 2)) (pe2_int) (nomark _)) (pss2_one (ps2_ret (pe2_op or_addY o_add (pe2_str) (pe2_slice (pe2_str) po2_none (po2_some (pe2_op or_addY o_add (pe2_int) (pe2_call ⟨rfl, rfl, rfl, rfl, rfl⟩ (cal_l_next T) hr (by decide) tk (pa2_cons (pe2_var (i := 0)) (pa2_cons (pe2_int) (pa2_nil)))))))))) (pss2_nil)) (pss2_cons (ps2_set (i := 3) nd rfl (by first | exact Or.inl rfl | exact Or.inr rfl) (pe2_ix (pe2_str) (pe2_call ⟨rfl, rfl, rfl, rfl, rfl⟩ (cal_l_next T) hr (by decide) tk (pa2_cons (pe2_var (i := 0)) (pa2_cons (pe2_int) (pa2_nil)))))) (pss2_cons (ps2_set (i := 4) nd rfl (by first | exact Or.inl rfl | exact Or.inr rfl) (pe2_op or_addY o_add (pe2_int) (pe2_call ⟨rfl, rfl, rfl, rfl, rfl⟩ (cal_l_next T) hr (by decide) tk (pa2_cons (pe2_var (i := 0)) (pa2_cons (pe2_blt call_lenY o_len1 rfl T.b_len (by decide +kernel) (pa2_cons (pe2_var (i := 1)) (pa2_nil))) (pa2_nil)))))) (pss2_one (ps2_ret (pe2_op or_addY o_add (pe2_op or_addY o_add (pe2_slice (pe2_var (i := 1)) po2_none (po2_some (pe2_var (i := 4)))) (pe2_var (i := 3))) (pe2_slice (pe2_var (i := 1)) (po2_some (pe2_var (i := 4))) po2_none))))))))))))
theorem cal_l_bad_path {M : Mo} (T : Txt M) : Cal M 3 "_law_bad_path" l_bad_path_M := let ⟨fd, F⟩ := T.d_l_bad_path; ⟨_, fd, _, ok_l_bad_path T F, T.glo_l_bad_path, F.kp, F.binds (ps := ["_law_pool_here"]) fun _ _ _ _ _ _ us hl => match us, hl with | [_], _ => rfl⟩
theorem sc_l_char : FnScope ["_law_draw", "_law_chars"] ["_law_draw"] (defScope s_l_char) := ⟨rfl, rfl, rfl, by decide +kernel, rfl, by decide +kernel, by decide +kernel⟩
theorem ok_l_char {M : Mo} (T : Txt M) {a : Addr} {fd : FuncData} (F : L2.Fun M.K "_law_char" "_law_char" s_l_char a fd) : FnOk M.P M.w M.K M.mg M.base (L2N.CX M.P M.w) 1 a fd ["_law_draw"] (sp2 M.K M.cv l_char_M) := fn2 (N := ["_law_draw", "_law_chars"]) F sc_l_char rfl rfl fun cdv A outer s H E hr => by
  have nd := sc_l_char.nd
  exact pss2_cons (ps2_set (i := 1) nd rfl (by first | exact Or.inl rfl | exact Or.inr rfl) (pe2_str)) (pss2_one (ps2_ret (pe2_ix (pe2_op or_addY o_add (pe2_var (i := 1)) (pe2_str)) (pe2_var (i := 0)))))
theorem cal_l_char {M : Mo} (T : Txt M) : Cal M 1 "_law_char" l_char_M := let ⟨fd, F⟩ := T.d_l_char; ⟨_, fd, _, ok_l_char T F, T.glo_l_char, F.kp, F.binds (ps := ["_law_draw"]) fun _ _ _ _ _ _ us hl => match us, hl with | [_], _ => rfl⟩
theorem sc_l_some_text : FnScope ["_law_pool_here", "_law_most", "_law_length", "_law_chars", "_law_k"] ["_law_pool_here", "_law_most"] (defScope s_l_some_text) := ⟨rfl, rfl, rfl, by decide +kernel, rfl, by decide +kernel, by decide +kernel⟩
theorem ok_l_some_text {M : Mo} (T : Txt M) {a : Addr} {fd : FuncData} (F : L2.Fun M.K "_law_some_text" "_law_some_text" s_l_some_text a fd) : FnOk M.P M.w M.K M.mg M.base (L2N.CX M.P M.w) 2 a fd ["_law_pool_here", "_law_most"] (sp2 M.K M.cv l_some_text_M) := fn2 (N := ["_law_pool_here", "_law_most", "_law_length", "_law_chars", "_law_k"]) F sc_l_some_text rfl rfl fun cdv A outer s H E hr => by
  have nd := sc_l_some_text.nd
  have hu := hu_r hr
  have tk := L2N.takes_of (X := cxY M ["_law_pool_here", "_law_most", "_law_length", "_law_chars", "_law_k"] "_law_some_text" (defScope s_l_some_text) a cdv A outer s H E) (E := E) rfl rfl rfl rfl
  exact pss2_cons (ps2_set (i := 2) nd rfl (by first | exact Or.inl rfl | exact Or.inr rfl) (pe2_call ⟨rfl, rfl, rfl, rfl, rfl⟩ (cal_l_next T) hr (by decide) tk (pa2_cons (pe2_var (i := 0)) (pa2_cons (pe2_int) (pa2_nil))))) (pss2_cons (ps2_if (pt2_cmp (op_eqD (hu_e hu)) o_eq (pe2_call ⟨rfl, rfl, rfl, rfl, rfl⟩ (cal_l_next T) hr (by decide) tk (pa2_cons (pe2_var (i := 0)) (pa2_cons (pe2_int) (pa2_nil)))) (pe2_int) (nomark _)) (pss2_one (ps2_set (i := 2) nd rfl (by first | exact Or.inl rfl | exact Or.inr rfl) (pe2_ix (pe2_lst (pa2_cons (pe2_var (i := 1)) (pa2_cons (pe2_op op_sub o_sub (pe2_var (i := 1)) (pe2_int)) (pa2_cons (pe2_call ⟨rfl, rfl, rfl, rfl, rfl⟩ (cal_l_next T) hr (by decide) tk (pa2_cons (pe2_var (i := 0)) (pa2_cons (pe2_op or_addY o_add (pe2_var (i := 1)) (pe2_int)) (pa2_nil)))) (pa2_nil))))) (pe2_call ⟨rfl, rfl, rfl, rfl, rfl⟩ (cal_l_next T) hr (by decide) tk (pa2_cons (pe2_var (i := 0)) (pa2_cons (pe2_int) (pa2_nil))))))) (pss2_nil)) (pss2_cons (ps2_set (i := 3) nd rfl (by first | exact Or.inl rfl | exact Or.inr rfl) (pe2_bm (.inr rfl) PySem.F.plainAttrs_str PySem.F.slot_str_join PySem.F.type_str_join mt_join o_join (pe2_str) (pa2_cons (pe2_lcR1 rfl nd ⟨blkOk_by (N := ["_law_pool_here", "_law_most", "_law_length", "_law_chars", "_law_k"]) (sc := defScope s_l_some_text) (by decide +kernel), fun _ _ _ _ _ => pg_name (i := 4) nd rfl (Or.inl rfl), ⟨_, fun _ _ _ _ _ => pts_nil, fun σ H Q ⟨m, s, ρ, R, S, h⟩ => h m H (.refl _ _) R⟩, fun s1 H1 C1 cl1 fp1 => pe2_call ⟨rfl, rfl, rfl, rfl, rfl⟩ (cal_l_char T) hr (by decide) takes0N (pa2_cons (pe2_call ⟨rfl, rfl, rfl, rfl, rfl⟩ (cal_l_next T) hr (by decide) takes0N (pa2_cons (pe2_var (i := 0)) (pa2_cons (pe2_int) (pa2_nil)))) (pa2_nil))⟩ rfl T.b_range (pa2_cons (pe2_int) (pa2_nil))) (pa2_nil)))) (pss2_one (ps2_ret (pe2_slice (pe2_op or_mulY o_mul (pe2_var (i := 3)) (pe2_int)) po2_none (po2_some (pe2_var (i := 2))))))))
theorem cal_l_some_text {M : Mo} (T : Txt M) : Cal M 2 "_law_some_text" l_some_text_M := let ⟨fd, F⟩ := T.d_l_some_text; ⟨_, fd, _, ok_l_some_text T F, T.glo_l_some_text, F.kp, F.binds (ps := ["_law_pool_here", "_law_most"]) fun _ _ _ _ _ _ us hl => match us, hl with | [_, _], _ => rfl⟩
theorem sc_l_third : FnScope ["_law_name", "_law_pool_here", "_law_text", "_law_most"] ["_law_name", "_law_pool_here"] (defScope s_l_third) := ⟨rfl, rfl, rfl, by decide +kernel, rfl, by decide +kernel, by decide +kernel⟩
theorem ok_l_third {M : Mo} (T : Txt M) {a : Addr} {fd : FuncData} (F : L2.Fun M.K "_law_third" "_law_third" s_l_third a fd) : FnOk M.P M.w M.K M.mg M.base (L2N.CX M.P M.w) 3 a fd ["_law_name", "_law_pool_here"] (sp2 M.K M.cv l_third_M) := fn2 (N := ["_law_name", "_law_pool_here", "_law_text", "_law_most"]) F sc_l_third rfl rfl fun cdv A outer s H E hr => by
  have nd := sc_l_third.nd
  have hu := hu_r hr
  have tk := L2N.takes_of (X := cxY M ["_law_name", "_law_pool_here", "_law_text", "_law_most"] "_law_third" (defScope s_l_third) a cdv A outer s H E) (E := E) rfl rfl rfl rfl
  exact pss2_cons (ps2_if (pt2_cmp (op_eqD (hu_e hu)) o_eq (pe2_var (i := 0)) (pe2_str) (nomark _)) (pss2_cons (ps2_set (i := 2) nd rfl (by first | exact Or.inl rfl | exact Or.inr rfl) (pe2_call ⟨rfl, rfl, rfl, rfl, rfl⟩ (cal_l_some_text T) hr (by decide) tk (pa2_cons (pe2_var (i := 1)) (pa2_cons (pe2_int) (pa2_nil))))) (pss2_one (ps2_ret (pe2_ix (pe2_lst (pa2_cons (pe2_int) (pa2_cons (pe2_non) (pa2_cons (pe2_op or_mulY o_mul (pe2_str) (pe2_op or_addY o_add (pe2_int) (pe2_call ⟨rfl, rfl, rfl, rfl, rfl⟩ (cal_l_next T) hr (by decide) tk (pa2_cons (pe2_var (i := 1)) (pa2_cons (pe2_int) (pa2_nil)))))) (pa2_cons (pe2_op or_addY o_add (pe2_var (i := 2)) (pe2_str)) (pa2_cons (pe2_op or_addY o_add (pe2_str) (pe2_var (i := 2))) (pa2_cons (pe2_tup (pa2_nil)) (pa2_nil)))))))) (pe2_call ⟨rfl, rfl, rfl, rfl, rfl⟩ (cal_l_next T) hr (by decide) tk (pa2_cons (pe2_var (i := 1)) (pa2_cons (pe2_int) (pa2_nil)))))))) (pss2_nil)) (pss2_cons (ps2_if (pt2_cmp (op_eqD (hu_e hu)) o_eq (pe2_var (i := 0)) (pe2_str) (nomark _)) (pss2_cons (ps2_set (i := 3) nd rfl (by first | exact Or.inl rfl | exact Or.inr rfl) (pe2_call ⟨rfl, rfl, rfl, rfl, rfl⟩ (cal_l_next T) hr (by decide) tk (pa2_cons (pe2_var (i := 1)) (pa2_cons (pe2_op op_pow o_pow (pe2_int) (pe2_int)) (pa2_nil))))) (pss2_one (ps2_ret (pe2_ix (pe2_lst (pa2_cons (pe2_un un_neg o_neg (pe2_int)) (pa2_cons (pe2_op op_sub o_sub (pe2_un un_neg o_neg (pe2_int)) (pe2_var (i := 3))) (pa2_cons (pe2_op op_pow o_pow (pe2_int) (pe2_int)) (pa2_cons (pe2_op or_addY o_add (pe2_op op_pow o_pow (pe2_int) (pe2_int)) (pe2_var (i := 3))) (pa2_cons (pe2_bty call_strY o_str1 rfl T.b_str (by decide +kernel) (pa2_cons (pe2_var (i := 3)) (pa2_nil))) (pa2_cons (pe2_bl) (pa2_cons (pe2_non) (pa2_cons (pe2_str) (pa2_nil)))))))))) (pe2_call ⟨rfl, rfl, rfl, rfl, rfl⟩ (cal_l_next T) hr (by decide) tk (pa2_cons (pe2_var (i := 1)) (pa2_cons (pe2_int) (pa2_nil)))))))) (pss2_nil)) (pss2_one (ps2_ret (pe2_ix (pe2_lst (pa2_cons (pe2_int) (pa2_cons (pe2_non) (pa2_cons (pe2_tup (pa2_cons (pe2_str) (pa2_nil))) (pa2_cons (pe2_str) (pa2_cons (pe2_op or_addY o_add (pe2_str) (pe2_op or_mulY o_mul (pe2_str) (pe2_int))) (pa2_nil))))))) (pe2_call ⟨rfl, rfl, rfl, rfl, rfl⟩ (cal_l_next T) hr (by decide) tk (pa2_cons (pe2_var (i := 1)) (pa2_cons (pe2_int) (pa2_nil))))))))
theorem cal_l_third {M : Mo} (T : Txt M) : Cal M 3 "_law_third" l_third_M := let ⟨fd, F⟩ := T.d_l_third; ⟨_, fd, _, ok_l_third T F, T.glo_l_third, F.kp, F.binds (ps := ["_law_name", "_law_pool_here"]) fun _ _ _ _ _ _ us hl => match us, hl with | [_, _], _ => rfl⟩
theorem sc_l_spoilt : FnScope ["_law_deed", "_law_pool_here", "_law_choice", "_law_rest", "_law_spoilt_here"] ["_law_deed", "_law_pool_here"] (defScope s_l_spoilt) := ⟨rfl, rfl, rfl, by decide +kernel, rfl, by decide +kernel, by decide +kernel⟩
theorem ok_l_spoilt {M : Mo} (T : Txt M) {a : Addr} {fd : FuncData} (F : L2.Fun M.K "_law_spoilt" "_law_spoilt" s_l_spoilt a fd) : FnOk M.P M.w M.K M.mg M.base (L2N.CX M.P M.w) 4 a fd ["_law_deed", "_law_pool_here"] (sp2 M.K M.cv l_spoilt_M) := fn2 (N := ["_law_deed", "_law_pool_here", "_law_choice", "_law_rest", "_law_spoilt_here"]) F sc_l_spoilt rfl rfl fun cdv A outer s H E hr => by
  have nd := sc_l_spoilt.nd
  have tk := L2N.takes_of (X := cxY M ["_law_deed", "_law_pool_here", "_law_choice", "_law_rest", "_law_spoilt_here"] "_law_spoilt" (defScope s_l_spoilt) a cdv A outer s H E) (E := E) rfl rfl rfl rfl
  exact pss2_cons (ps2_set (i := 2) nd rfl (by first | exact Or.inl rfl | exact Or.inr rfl) (pe2_call ⟨rfl, rfl, rfl, rfl, rfl⟩ (cal_l_next T) hr (by decide) tk (pa2_cons (pe2_var (i := 1)) (pa2_cons (pe2_int) (pa2_nil))))) (pss2_cons (ps2_set (i := 3) nd rfl (by first | exact Or.inl rfl | exact Or.inr rfl) (pe2_slice (pe2_var (i := 0)) (po2_some (pe2_int)) po2_none)) (pss2_cons (ps2_set (i := 4) nd rfl (by first | exact Or.inl rfl | exact Or.inr rfl) (pe2_lst (pa2_cons (pe2_bty call_list_of o_list1 rfl T.b_list (by decide +kernel) (pa2_cons (pe2_var (i := 0)) (pa2_nil))) (pa2_cons (pe2_op or_addY o_add (pe2_var (i := 0)) (pe2_tup (pa2_cons (pe2_int) (pa2_nil)))) (pa2_cons (pe2_slice (pe2_var (i := 0)) po2_none (po2_some (pe2_op op_sub o_sub (pe2_blt call_lenY o_len1 rfl T.b_len (by decide +kernel) (pa2_cons (pe2_var (i := 0)) (pa2_nil))) (pe2_int)))) (pa2_cons (pe2_op or_addY o_add (pe2_tup (pa2_cons (pe2_op or_addY o_add (pe2_ix (pe2_var (i := 0)) (pe2_int)) (pe2_str)) (pa2_nil))) (pe2_var (i := 3))) (pa2_cons (pe2_op or_addY o_add (pe2_tup (pa2_cons (pe2_bm0 (.inr rfl) PySem.F.plainAttrs_str PySem.F.slot_str_upper PySem.F.type_str_upper mt_upper o_upper (pe2_ix (pe2_var (i := 0)) (pe2_int))) (pa2_nil))) (pe2_var (i := 3))) (pa2_nil)))))))) (pss2_cons (ps2_set (i := 4) nd rfl (by first | exact Or.inl rfl | exact Or.inr rfl) (pe2_op or_addY o_add (pe2_var (i := 4)) (pe2_lst (pa2_cons (pe2_op or_addY o_add (pe2_tup (pa2_cons (pe2_ix (pe2_var (i := 0)) (pe2_int)) (pa2_cons (pe2_int) (pa2_nil)))) (pe2_slice (pe2_var (i := 0)) (po2_some (pe2_int)) po2_none)) (pa2_cons (pe2_op or_addY o_add (pe2_tup (pa2_cons (pe2_str) (pa2_nil))) (pe2_var (i := 3))) (pa2_cons (pe2_op or_addY o_add (pe2_tup (pa2_cons (pe2_non) (pa2_nil))) (pe2_var (i := 3))) (pa2_cons (pe2_ix (pe2_var (i := 0)) (pe2_int)) (pa2_cons (pe2_non) (pa2_nil))))))))) (pss2_cons (ps2_set (i := 4) nd rfl (by first | exact Or.inl rfl | exact Or.inr rfl) (pe2_op or_addY o_add (pe2_var (i := 4)) (pe2_lst (pa2_cons (pe2_tup (pa2_nil)) (pa2_cons (pe2_int) (pa2_cons (pe2_dnew) (pa2_cons (pe2_bl) (pa2_nil)))))))) (pss2_cons (ps2_if (pt2_cmp or_lt o_lt (pe2_var (i := 2)) (pe2_int) (nomark _)) (pss2_one (ps2_ret (pe2_ix (pe2_var (i := 4)) (pe2_var (i := 2))))) (pss2_nil)) (pss2_one (ps2_ret (pe2_op or_addY o_add (pe2_slice (pe2_var (i := 0)) po2_none (po2_some (pe2_int))) (pe2_tup (pa2_cons (pe2_call ⟨rfl, rfl, rfl, rfl, rfl⟩ (cal_l_third T) hr (by decide) tk (pa2_cons (pe2_ix (pe2_var (i := 0)) (pe2_int)) (pa2_cons (pe2_var (i := 1)) (pa2_nil)))) (pa2_nil)))))))))))
theorem cal_l_spoilt {M : Mo} (T : Txt M) : Cal M 4 "_law_spoilt" l_spoilt_M := let ⟨fd, F⟩ := T.d_l_spoilt; ⟨_, fd, _, ok_l_spoilt T F, T.glo_l_spoilt, F.kp, F.binds (ps := ["_law_deed", "_law_pool_here"]) fun _ _ _ _ _ _ us hl => match us, hl with | [_, _], _ => rfl⟩
theorem sc_is_integer : FnScope ["thing"] ["thing"] (defScope s_is_integer) := ⟨rfl, rfl, rfl, by decide +kernel, rfl, by decide +kernel, by decide +kernel⟩
theorem ok_is_integer {M : Mo} (T : Txt M) {a : Addr} {fd : FuncData} (F : L2.Fun M.K "is_integer" "is_integer" s_is_integer a fd) : FnOk M.P M.w M.K M.mg M.base (L2N.CX M.P M.w) 1 a fd ["thing"] (sp2 M.K M.cv is_integer_M) := fn2 (N := ["thing"]) F sc_is_integer rfl rfl fun cdv A outer s H E hr => by
  exact pss2_cons (ps2_if (PW2.pt (pw2_or (pt2_not (pt2_tru (pe2_isTy ⟨rfl, rfl, rfl, rfl, rfl⟩ T.isT_int (pe2_var (i := 0)) rfl T.b_isinstance rfl T.b_int (by decide +kernel)))) (pw2_or1 (pt2_tru (pe2_isTy ⟨rfl, rfl, rfl, rfl, rfl⟩ T.isT_bool (pe2_var (i := 0)) rfl T.b_isinstance rfl T.b_bool (by decide +kernel)))))) (pss2_one (ps2_ret (pe2_bl))) (pss2_nil)) (pss2_one (ps2_ret (pe2_chain or_le o_le or_le o_le (pe2_un un_neg o_neg (pe2_gint (i := 1000000000000000000) rfl T.c_NUMBER_MOST.choose_spec)) (pe2_var (i := 0)) (pe2_gint (i := 1000000000000000000) rfl T.c_NUMBER_MOST.choose_spec))))
theorem cal_is_integer {M : Mo} (T : Txt M) : Cal M 1 "is_integer" is_integer_M := let ⟨fd, F⟩ := T.d_is_integer; ⟨_, fd, _, ok_is_integer T F, T.glo_is_integer, F.kp, F.binds (ps := ["thing"]) fun _ _ _ _ _ _ us hl => match us, hl with | [_], _ => rfl⟩
theorem sc_is_text : FnScope ["thing", "char"] ["thing"] (defScope s_is_text) := ⟨rfl, rfl, rfl, by decide +kernel, rfl, by decide +kernel, by decide +kernel⟩
theorem ok_is_text {M : Mo} (T : Txt M) {a : Addr} {fd : FuncData} (F : L2.Fun M.K "is_text" "is_text" s_is_text a fd) : FnOk M.P M.w M.K M.mg M.base (L2N.CX M.P M.w) 1 a fd ["thing"] (sp2 M.K M.cv is_text_M) := fn2 (N := ["thing", "char"]) F sc_is_text rfl rfl fun cdv A outer s H E hr => by
  have nd := sc_is_text.nd
  have hu := hu_r hr
  have po := passes_of (X := cxY M ["thing", "char"] "is_text" (defScope s_is_text) a cdv A outer s H E) rfl
  exact pss2_cons (ps2_if (PW2.pt (pw2_or (pt2_not (pt2_tru (pe2_isTy ⟨rfl, rfl, rfl, rfl, rfl⟩ T.isT_str (pe2_var (i := 0)) rfl T.b_isinstance rfl T.b_str (by decide +kernel)))) (pw2_or1 (pt2_cmp or_gt o_gt (pe2_blt call_lenY o_len1 rfl T.b_len (by decide +kernel) (pa2_cons (pe2_var (i := 0)) (pa2_nil))) (pe2_gint (i := 200) rfl T.c_TEXT_MOST.choose_spec) (nomark _))))) (pss2_one (ps2_ret (pe2_bl))) (pss2_nil)) (pss2_cons (ps2_forS po rfl (pe2_var (i := 0)) (pg2_name (i := 1) nd rfl (by first | exact Or.inl rfl | exact Or.inr rfl)) (pss2_one (ps2_if (PW2.pt (pw2_or (pt2_cmp or_lt o_lt (pe2_var (i := 1)) (pe2_str) (nomark _)) (pw2_or (pt2_cmp or_gt o_gt (pe2_var (i := 1)) (pe2_str) (nomark _)) (pw2_or1 (pt2_cmp (op_eqD (hu_e hu)) o_eq (pe2_blt call_ord o_ord1 rfl T.b_ord (by decide +kernel) (pa2_cons (pe2_var (i := 1)) (pa2_nil))) (pe2_gint (i := 37) rfl T.c_PERCENT.choose_spec) (nomark _)))))) (pss2_one (ps2_ret (pe2_bl))) (pss2_nil)))) (pss2_one (ps2_ret (pe2_bl))))
theorem cal_is_text {M : Mo} (T : Txt M) : Cal M 1 "is_text" is_text_M := let ⟨fd, F⟩ := T.d_is_text; ⟨_, fd, _, ok_is_text T F, T.glo_is_text, F.kp, F.binds (ps := ["thing"]) fun _ _ _ _ _ _ us hl => match us, hl with | [_], _ => rfl⟩
theorem sc_is_deed : FnScope ["thing", "item"] ["thing"] (defScope s_is_deed) := ⟨rfl, rfl, rfl, by decide +kernel, rfl, by decide +kernel, by decide +kernel⟩
theorem ok_is_deed {M : Mo} (T : Txt M) {a : Addr} {fd : FuncData} (F : L2.Fun M.K "is_deed" "is_deed" s_is_deed a fd) : FnOk M.P M.w M.K M.mg M.base (L2N.CX M.P M.w) 2 a fd ["thing"] (sp2 M.K M.cv is_deed_M) := fn2 (N := ["thing", "item"]) F sc_is_deed rfl rfl fun cdv A outer s H E hr => by
  have nd := sc_is_deed.nd
  have hu := hu_r hr
  have tk := L2N.takes_of (X := cxY M ["thing", "item"] "is_deed" (defScope s_is_deed) a cdv A outer s H E) (E := E) rfl rfl rfl rfl
  have po := passes_of (X := cxY M ["thing", "item"] "is_deed" (defScope s_is_deed) a cdv A outer s H E) rfl
  exact pss2_cons (ps2_if (PW2.pt (pw2_or (pt2_not (pt2_tru (pe2_isTy ⟨rfl, rfl, rfl, rfl, rfl⟩ T.isT_tuple (pe2_var (i := 0)) rfl T.b_isinstance rfl T.b_tuple (by decide +kernel)))) (pw2_or1 (pt2_not (pt2_chain or_le o_le or_le o_le (pe2_int) (pe2_blt call_lenY o_len1 rfl T.b_len (by decide +kernel) (pa2_cons (pe2_var (i := 0)) (pa2_nil))) (pe2_int)))))) (pss2_one (ps2_ret (pe2_bl))) (pss2_nil)) (pss2_cons (ps2_forV po rfl (pe2_var (i := 0)) (pg2_name (i := 1) nd rfl (by first | exact Or.inl rfl | exact Or.inr rfl)) (pss2_one (ps2_if (PW2.pt (pw2_and (pt2_not (pt2_tru (pe2_call ⟨rfl, rfl, rfl, rfl, rfl⟩ (cal_is_integer T) hr (by decide) tk (pa2_cons (pe2_var (i := 1)) (pa2_nil))))) (pw2_and1 (pt2_not (pt2_tru (pe2_call ⟨rfl, rfl, rfl, rfl, rfl⟩ (cal_is_text T) hr (by decide) tk (pa2_cons (pe2_var (i := 1)) (pa2_nil)))))))) (pss2_one (ps2_ret (pe2_bl))) (pss2_nil)))) (pss2_one (ps2_ret (pe2_and (pe2_call ⟨rfl, rfl, rfl, rfl, rfl⟩ (cal_is_text T) hr (by decide) tk (pa2_cons (pe2_ix (pe2_var (i := 0)) (pe2_int)) (pa2_nil))) (pe2_one (pe2_cmp (op_neD (hu_e hu)) o_ne (pe2_ix (pe2_var (i := 0)) (pe2_int)) (pe2_str) (nomark _)))))))
theorem cal_is_deed {M : Mo} (T : Txt M) : Cal M 2 "is_deed" is_deed_M := let ⟨fd, F⟩ := T.d_is_deed; ⟨_, fd, _, ok_is_deed T F, T.glo_is_deed, F.kp, F.binds (ps := ["thing"]) fun _ _ _ _ _ _ us hl => match us, hl with | [_], _ => rfl⟩
theorem sc_is_number : FnScope ["thing"] ["thing"] (defScope s_is_number) := ⟨rfl, rfl, rfl, by decide +kernel, rfl, by decide +kernel, by decide +kernel⟩
theorem ok_is_number {M : Mo} (T : Txt M) {a : Addr} {fd : FuncData} (F : L2.Fun M.K "is_number" "is_number" s_is_number a fd) : FnOk M.P M.w M.K M.mg M.base (L2N.CX M.P M.w) 2 a fd ["thing"] (sp2 M.K M.cv is_number_M) := fn2 (N := ["thing"]) F sc_is_number rfl rfl fun cdv A outer s H E hr => by
  have tk := L2N.takes_of (X := cxY M ["thing"] "is_number" (defScope s_is_number) a cdv A outer s H E) (E := E) rfl rfl rfl rfl
  exact pss2_one (ps2_ret (pe2_and (pe2_call ⟨rfl, rfl, rfl, rfl, rfl⟩ (cal_is_integer T) hr (by decide) tk (pa2_cons (pe2_var (i := 0)) (pa2_nil))) (pe2_one (pe2_cmp or_ge o_ge (pe2_var (i := 0)) (pe2_int) (nomark _)))))
theorem cal_is_number {M : Mo} (T : Txt M) : Cal M 2 "is_number" is_number_M := let ⟨fd, F⟩ := T.d_is_number; ⟨_, fd, _, ok_is_number T F, T.glo_is_number, F.kp, F.binds (ps := ["thing"]) fun _ _ _ _ _ _ us hl => match us, hl with | [_], _ => rfl⟩
theorem sc_has_form : FnScope ["deed"] ["deed"] (defScope s_has_form) := ⟨rfl, rfl, rfl, by decide +kernel, rfl, by decide +kernel, by decide +kernel⟩
theorem ok_has_form {M : Mo} (T : Txt M) {a : Addr} {fd : FuncData} (F : L2.Fun M.K "has_form" "has_form" s_has_form a fd) : FnOk M.P M.w M.K M.mg M.base (L2N.CX M.P M.w) 3 a fd ["deed"] (sp2 M.K M.cv has_form_M) := fn2 (N := ["deed"]) F sc_has_form rfl rfl fun cdv A outer s H E hr => by
  have hu := hu_r hr
  have tk := L2N.takes_of (X := cxY M ["deed"] "has_form" (defScope s_has_form) a cdv A outer s H E) (E := E) rfl rfl rfl rfl
  exact pss2_cons (ps2_if (PW2.pt (pw2_or (pt2_not (pt2_tru (pe2_call ⟨rfl, rfl, rfl, rfl, rfl⟩ (cal_is_deed T) hr (by decide) tk (pa2_cons (pe2_var (i := 0)) (pa2_nil))))) (pw2_or (pt2_cmp or_lt o_lt (pe2_blt call_lenY o_len1 rfl T.b_len (by decide +kernel) (pa2_cons (pe2_var (i := 0)) (pa2_nil))) (pe2_int) (nomark _)) (pw2_or1 (pt2_not (pt2_tru (pe2_call ⟨rfl, rfl, rfl, rfl, rfl⟩ (cal_is_text T) hr (by decide) tk (pa2_cons (pe2_ix (pe2_var (i := 0)) (pe2_int)) (pa2_nil))))))))) (pss2_one (ps2_ret (pe2_bl))) (pss2_nil)) (pss2_cons (ps2_if (pt2_cmp (or_inY hu) o_inY (pe2_ix (pe2_var (i := 0)) (pe2_int)) (pe2_gtup ⟨rfl, rfl, rfl, rfl, rfl⟩ (by rfl) T.c_ONE_PATH) rfl) (pss2_one (ps2_ret (pe2_cmp (op_eqD (hu_e hu)) o_eq (pe2_blt call_lenY o_len1 rfl T.b_len (by decide +kernel) (pa2_cons (pe2_var (i := 0)) (pa2_nil))) (pe2_int) (nomark _)))) (pss2_nil)) (pss2_cons (ps2_if (pt2_cmp (op_neD (hu_e hu)) o_ne (pe2_blt call_lenY o_len1 rfl T.b_len (by decide +kernel) (pa2_cons (pe2_var (i := 0)) (pa2_nil))) (pe2_int) (nomark _)) (pss2_one (ps2_ret (pe2_bl))) (pss2_nil)) (pss2_cons (ps2_if (pt2_cmp (op_eqD (hu_e hu)) o_eq (pe2_ix (pe2_var (i := 0)) (pe2_int)) (pe2_str) (nomark _)) (pss2_one (ps2_ret (pe2_and (pe2_call ⟨rfl, rfl, rfl, rfl, rfl⟩ (cal_is_number T) hr (by decide) tk (pa2_cons (pe2_ix (pe2_var (i := 0)) (pe2_int)) (pa2_nil))) (pe2_one (pe2_cmp or_le o_le (pe2_blt call_lenY o_len1 rfl T.b_len (by decide +kernel) (pa2_cons (pe2_bty call_strY o_str1 rfl T.b_str (by decide +kernel) (pa2_cons (pe2_ix (pe2_var (i := 0)) (pe2_int)) (pa2_nil))) (pa2_nil))) (pe2_gint (i := 18) rfl T.c_DIGITS_MOST.choose_spec) (nomark _)))))) (pss2_nil)) (pss2_one (ps2_ret (pe2_and (pe2_or (pe2_cmp (or_inY hu) o_inY (pe2_ix (pe2_var (i := 0)) (pe2_int)) (pe2_gtup ⟨rfl, rfl, rfl, rfl, rfl⟩ (by rfl) T.c_TWO_PATHS) rfl) (pe2_one (pe2_cmp (op_eqD (hu_e hu)) o_eq (pe2_ix (pe2_var (i := 0)) (pe2_int)) (pe2_str) (nomark _)))) (pe2_one (pe2_call ⟨rfl, rfl, rfl, rfl, rfl⟩ (cal_is_text T) hr (by decide) tk (pa2_cons (pe2_ix (pe2_var (i := 0)) (pe2_int)) (pa2_nil))))))))))
theorem cal_has_form {M : Mo} (T : Txt M) : Cal M 3 "has_form" has_form_M := let ⟨fd, F⟩ := T.d_has_form; ⟨_, fd, _, ok_has_form T F, T.glo_has_form, F.kp, F.binds (ps := ["deed"]) fun _ _ _ _ _ _ us hl => match us, hl with | [_], _ => rfl⟩
theorem sc_is_name : FnScope ["thing", "char"] ["thing"] (defScope s_is_name) := ⟨rfl, rfl, rfl, by decide +kernel, rfl, by decide +kernel, by decide +kernel⟩
theorem ok_is_name {M : Mo} (T : Txt M) {a : Addr} {fd : FuncData} (F : L2.Fun M.K "is_name" "is_name" s_is_name a fd) : FnOk M.P M.w M.K M.mg M.base (L2N.CX M.P M.w) 1 a fd ["thing"] (sp2 M.K M.cv is_name_M) := fn2 (N := ["thing", "char"]) F sc_is_name rfl rfl fun cdv A outer s H E hr => by
  have nd := sc_is_name.nd
  have hu := hu_r hr
  have po := passes_of (X := cxY M ["thing", "char"] "is_name" (defScope s_is_name) a cdv A outer s H E) rfl
  exact pss2_cons (ps2_if (PW2.pt (pw2_or (pt2_not (pt2_tru (pe2_isTy ⟨rfl, rfl, rfl, rfl, rfl⟩ T.isT_str (pe2_var (i := 0)) rfl T.b_isinstance rfl T.b_str (by decide +kernel)))) (pw2_or1 (pt2_not (pt2_chain or_le o_le or_le o_le (pe2_int) (pe2_blt call_lenY o_len1 rfl T.b_len (by decide +kernel) (pa2_cons (pe2_var (i := 0)) (pa2_nil))) (pe2_gint (i := 12) rfl T.c_NAME_MOST.choose_spec)))))) (pss2_one (ps2_ret (pe2_bl))) (pss2_nil)) (pss2_cons (ps2_forS po rfl (pe2_var (i := 0)) (pg2_name (i := 1) nd rfl (by first | exact Or.inl rfl | exact Or.inr rfl)) (pss2_one (ps2_if (pt2_cmp (or_notInY hu) o_notInY (pe2_var (i := 1)) (pe2_gstr (z := "abcdefghijklmnopqrstuvwxyz0123456789-.") rfl T.c_NAME_CHARS.choose_spec) rfl) (pss2_one (ps2_ret (pe2_bl))) (pss2_nil)))) (pss2_one (ps2_ret (pe2_and (pe2_cmp (op_neD (hu_e hu)) o_ne (pe2_var (i := 0)) (pe2_str) (nomark _)) (pe2_one (pe2_cmp (op_neD (hu_e hu)) o_ne (pe2_var (i := 0)) (pe2_str) (nomark _)))))))
theorem cal_is_name {M : Mo} (T : Txt M) : Cal M 1 "is_name" is_name_M := let ⟨fd, F⟩ := T.d_is_name; ⟨_, fd, _, ok_is_name T F, T.glo_is_name, F.kp, F.binds (ps := ["thing"]) fun _ _ _ _ _ _ us hl => match us, hl with | [_], _ => rfl⟩
theorem sc_check_names : FnScope ["names", "name"] ["names"] (defScope s_check_names) := ⟨rfl, rfl, rfl, by decide +kernel, rfl, by decide +kernel, by decide +kernel⟩
theorem ok_check_names {M : Mo} (T : Txt M) {a : Addr} {fd : FuncData} (F : L2.Fun M.K "check_names" "check_names" s_check_names a fd) : FnOk M.P M.w M.K M.mg M.base (L2N.CX M.P M.w) 2 a fd ["names"] (sp2 M.K M.cv check_names_M) := fn2 (N := ["names", "name"]) F sc_check_names rfl rfl fun cdv A outer s H E hr => by
  have nd := sc_check_names.nd
  have tk := L2N.takes_of (X := cxY M ["names", "name"] "check_names" (defScope s_check_names) a cdv A outer s H E) (E := E) rfl rfl rfl rfl
  have po := passes_of (X := cxY M ["names", "name"] "check_names" (defScope s_check_names) a cdv A outer s H E) rfl
  exact pss2_cons (ps2_if (pt2_cmp or_gt o_gt (pe2_blt call_lenY o_len1 rfl T.b_len (by decide +kernel) (pa2_cons (pe2_var (i := 0)) (pa2_nil))) (pe2_gint (i := 6) rfl T.c_NAMES_MOST.choose_spec) (nomark _)) (pss2_one (ps2_raise ⟨rfl, rfl, rfl, rfl, rfl⟩ T.exn_BadPath rfl tk)) (pss2_nil)) (pss2_one (ps2_forV po rfl (pe2_var (i := 0)) (pg2_name (i := 1) nd rfl (by first | exact Or.inl rfl | exact Or.inr rfl)) (pss2_one (ps2_if (pt2_not (pt2_tru (pe2_call ⟨rfl, rfl, rfl, rfl, rfl⟩ (cal_is_name T) hr (by decide) tk (pa2_cons (pe2_var (i := 1)) (pa2_nil))))) (pss2_one (ps2_raise ⟨rfl, rfl, rfl, rfl, rfl⟩ T.exn_BadPath rfl tk)) (pss2_nil)))))
theorem cal_check_names {M : Mo} (T : Txt M) : Cal M 2 "check_names" check_names_M := let ⟨fd, F⟩ := T.d_check_names; ⟨_, fd, _, ok_check_names T F, T.glo_check_names, F.kp, F.binds (ps := ["names"]) fun _ _ _ _ _ _ us hl => match us, hl with | [_], _ => rfl⟩
theorem sc_split_path : FnScope ["path", "names"] ["path"] (defScope s_split_path) := ⟨rfl, rfl, rfl, by decide +kernel, rfl, by decide +kernel, by decide +kernel⟩
theorem ok_split_path {M : Mo} (T : Txt M) {a : Addr} {fd : FuncData} (F : L2.Fun M.K "split_path" "split_path" s_split_path a fd) : FnOk M.P M.w M.K M.mg M.base (L2N.CX M.P M.w) 3 a fd ["path"] (sp2 M.K M.cv split_path_M) := fn2 (N := ["path", "names"]) F sc_split_path rfl rfl fun cdv A outer s H E hr => by
  have nd := sc_split_path.nd
  have hu := hu_r hr
  have tk := L2N.takes_of (X := cxY M ["path", "names"] "split_path" (defScope s_split_path) a cdv A outer s H E) (E := E) rfl rfl rfl rfl
  exact pss2_cons (ps2_if (PW2.pt (pw2_or (pt2_not (pt2_tru (pe2_isTy ⟨rfl, rfl, rfl, rfl, rfl⟩ T.isT_str (pe2_var (i := 0)) rfl T.b_isinstance rfl T.b_str (by decide +kernel)))) (pw2_or1 (pt2_cmp (op_neD (hu_e hu)) o_ne (pe2_slice (pe2_var (i := 0)) po2_none (po2_some (pe2_int))) (pe2_str) (nomark _))))) (pss2_one (ps2_raise ⟨rfl, rfl, rfl, rfl, rfl⟩ T.exn_BadPath rfl tk)) (pss2_nil)) (pss2_cons (ps2_if (pt2_cmp (op_eqD (hu_e hu)) o_eq (pe2_var (i := 0)) (pe2_str) (nomark _)) (pss2_one (ps2_ret (pe2_lst (pa2_nil)))) (pss2_nil)) (pss2_cons (ps2_set (i := 1) nd rfl (by first | exact Or.inl rfl | exact Or.inr rfl) (pe2_bm (.inr rfl) PySem.F.plainAttrs_str PySem.F.slot_str_split PySem.F.type_str_split mt_split o_split (pe2_slice (pe2_var (i := 0)) (po2_some (pe2_int)) po2_none) (pa2_cons (pe2_str) (pa2_nil)))) (pss2_cons (ps2_expr (pe2_call ⟨rfl, rfl, rfl, rfl, rfl⟩ (cal_check_names T) hr (by decide) tk (pa2_cons (pe2_var (i := 1)) (pa2_nil)))) (pss2_one (ps2_ret (pe2_var (i := 1)))))))
theorem cal_split_path {M : Mo} (T : Txt M) : Cal M 3 "split_path" split_path_M := let ⟨fd, F⟩ := T.d_split_path; ⟨_, fd, _, ok_split_path T F, T.glo_split_path, F.kp, F.binds (ps := ["path"]) fun _ _ _ _ _ _ us hl => match us, hl with | [_], _ => rfl⟩
theorem sc_check_paths : FnScope ["deed"] ["deed"] (defScope s_check_paths) := ⟨rfl, rfl, rfl, by decide +kernel, rfl, by decide +kernel, by decide +kernel⟩
theorem ok_check_paths {M : Mo} (T : Txt M) {a : Addr} {fd : FuncData} (F : L2.Fun M.K "check_paths" "check_paths" s_check_paths a fd) : FnOk M.P M.w M.K M.mg M.base (L2N.CX M.P M.w) 4 a fd ["deed"] (sp2 M.K M.cv check_paths_M) := fn2 (N := ["deed"]) F sc_check_paths rfl rfl fun cdv A outer s H E hr => by
  have hu := hu_r hr
  have tk := L2N.takes_of (X := cxY M ["deed"] "check_paths" (defScope s_check_paths) a cdv A outer s H E) (E := E) rfl rfl rfl rfl
  exact pss2_cons (ps2_expr (pe2_call ⟨rfl, rfl, rfl, rfl, rfl⟩ (cal_split_path T) hr (by decide) tk (pa2_cons (pe2_ix (pe2_var (i := 0)) (pe2_int)) (pa2_nil)))) (pss2_one (ps2_if (pt2_cmp (or_inY hu) o_inY (pe2_ix (pe2_var (i := 0)) (pe2_int)) (pe2_gtup ⟨rfl, rfl, rfl, rfl, rfl⟩ (by rfl) T.c_TWO_PATHS) rfl) (pss2_one (ps2_expr (pe2_call ⟨rfl, rfl, rfl, rfl, rfl⟩ (cal_split_path T) hr (by decide) tk (pa2_cons (pe2_ix (pe2_var (i := 0)) (pe2_int)) (pa2_nil))))) (pss2_nil)))
theorem cal_check_paths {M : Mo} (T : Txt M) : Cal M 4 "check_paths" check_paths_M := let ⟨fd, F⟩ := T.d_check_paths; ⟨_, fd, _, ok_check_paths T F, T.glo_check_paths, F.kp, F.binds (ps := ["deed"]) fun _ _ _ _ _ _ us hl => match us, hl with | [_], _ => rfl⟩
theorem sc_format_command : FnScope ["deed", "item"] ["deed"] (defScope s_format_command) := ⟨rfl, rfl, rfl, by decide +kernel, rfl, by decide +kernel, by decide +kernel⟩
theorem ok_format_command {M : Mo} (T : Txt M) {a : Addr} {fd : FuncData} (F : L2.Fun M.K "format_command" "format_command" s_format_command a fd) : FnOk M.P M.w M.K M.mg M.base (L2N.CX M.P M.w) 5 a fd ["deed"] (sp2 M.K M.cv format_command_M) := fn2 (N := ["deed", "item"]) F sc_format_command rfl rfl fun cdv A outer s H E hr => by
  have nd := sc_format_command.nd
  have tk := L2N.takes_of (X := cxY M ["deed", "item"] "format_command" (defScope s_format_command) a cdv A outer s H E) (E := E) rfl rfl rfl rfl
  exact pss2_cons (ps2_if (pt2_not (pt2_tru (pe2_call ⟨rfl, rfl, rfl, rfl, rfl⟩ (cal_has_form T) hr (by decide) tk (pa2_cons (pe2_var (i := 0)) (pa2_nil))))) (pss2_one (ps2_raise ⟨rfl, rfl, rfl, rfl, rfl⟩ T.exn_BadCommand rfl tk)) (pss2_nil)) (pss2_cons (ps2_expr (pe2_call ⟨rfl, rfl, rfl, rfl, rfl⟩ (cal_check_paths T) hr (by decide) tk (pa2_cons (pe2_var (i := 0)) (pa2_nil)))) (pss2_one (ps2_ret (pe2_bm (.inr rfl) PySem.F.plainAttrs_str PySem.F.slot_str_join PySem.F.type_str_join mt_join o_join (pe2_str) (pa2_cons (pe2_lcV rfl nd ⟨blkOk_by (N := ["deed", "item"]) (sc := defScope s_format_command) (by decide +kernel), fun _ _ _ _ _ => pg_name (i := 1) nd rfl (Or.inl rfl), ⟨_, fun _ _ _ _ _ => pts_nil, fun σ H Q ⟨m, s, ρ, R, S, h⟩ => h m H (.refl _ _) R⟩, fun s1 H1 C1 cl1 fp1 => pe2_bty call_strY o_str1 rfl T.b_str (by decide +kernel) (pa2_cons (pe2_var (i := 1)) (pa2_nil))⟩ (pe2_var (i := 0))) (pa2_nil))))))
theorem cal_format_command {M : Mo} (T : Txt M) : Cal M 5 "format_command" format_command_M := let ⟨fd, F⟩ := T.d_format_command; ⟨_, fd, _, ok_format_command T F, T.glo_format_command, F.kp, F.binds (ps := ["deed"]) fun _ _ _ _ _ _ us hl => match us, hl with | [_], _ => rfl⟩
theorem sc_l_asked : FnScope ["_law_deed", "e"] ["_law_deed"] (defScope s_l_asked) := ⟨rfl, rfl, rfl, by decide +kernel, rfl, by decide +kernel, by decide +kernel⟩
theorem ok_l_asked {M : Mo} (T : Txt M) {a : Addr} {fd : FuncData} (F : L2.Fun M.K "_law_asked" "_law_asked" s_l_asked a fd) : FnOk M.P M.w M.K M.mg M.base (L2N.CX M.P M.w) 6 a fd ["_law_deed"] (sp2 M.K M.cv l_asked_M) := fn2 (N := ["_law_deed", "e"]) F sc_l_asked rfl rfl fun cdv A outer s H E hr => by
  have nd := sc_l_asked.nd
  have tk := L2N.takes_of (X := cxY M ["_law_deed", "e"] "_law_asked" (defScope s_l_asked) a cdv A outer s H E) (E := E) rfl rfl rfl rfl
  exact pss2_cons (ps2_tryA (g := l_asked_su0) (i := 1) ⟨rfl, rfl, rfl, rfl, rfl⟩ rfl rfl nd rfl rfl T.cl_HallError rfl (by decide) tk (fun W1 pn1 xe1 tk1 po1 => pss2_one (ps2_ret (pe2_lst (pa2_cons (pe2_call ⟨rfl, rfl, rfl, rfl, rfl⟩ (cal_format_command T) hr (by decide) tk1 (pa2_cons (pe2_var (i := 0)) (pa2_nil))) (pa2_nil))))) (fun a1 oe1 c1 pn1 hz1 hf1 => pss2_cons (ps2_if (PW2.pt (pw2_and (pt2_tru (pe2_isxL ⟨rfl, rfl, rfl, rfl, rfl⟩ hz1 hf1 T.isX_BadCommand rfl T.b_isinstance rfl (.inl rfl) (by decide) (by decide) (pe_glob (v := .ref (M.cv "BadCommand")) rfl T.at_BadCommand rfl) (fun u r => r))) (pw2_and1 (pt2_not (pt2_tru (pe2_isxL ⟨rfl, rfl, rfl, rfl, rfl⟩ hz1 hf1 T.isX_BadPath rfl T.b_isinstance rfl (.inl rfl) (by decide) (by decide) (pe_glob (v := .ref (M.cv "BadPath")) rfl T.at_BadPath rfl) (fun u r => r))))))) (pss2_one (ps2_ret (pe2_str))) (pss2_nil)) (pss2_one (ps2_if (PW2.pt (pw2_and (pt2_tru (pe2_isxL ⟨rfl, rfl, rfl, rfl, rfl⟩ hz1 hf1 T.isX_BadPath rfl T.b_isinstance rfl (.inl rfl) (by decide) (by decide) (pe_glob (v := .ref (M.cv "BadPath")) rfl T.at_BadPath rfl) (fun u r => r))) (pw2_and1 (pt2_not (pt2_tru (pe2_isxL ⟨rfl, rfl, rfl, rfl, rfl⟩ hz1 hf1 T.isX_BadCommand rfl T.b_isinstance rfl (.inl rfl) (by decide) (by decide) (pe_glob (v := .ref (M.cv "BadCommand")) rfl T.at_BadCommand rfl) (fun u r => r))))))) (pss2_one (ps2_ret (pe2_str))) (pss2_nil)))) l_asked_su0_no l_asked_su0_in) (pss2_one (ps2_ret (pe2_str)))
theorem cal_l_asked {M : Mo} (T : Txt M) : Cal M 6 "_law_asked" l_asked_M := let ⟨fd, F⟩ := T.d_l_asked; ⟨_, fd, _, ok_l_asked T F, T.glo_l_asked, F.kp, F.binds (ps := ["_law_deed"]) fun _ _ _ _ _ _ us hl => match us, hl with | [_], _ => rfl⟩
theorem sc_law : FnScope ["_law_script", "_law_pool_here", "_law_name", "_law_bad", "_law_spoilt_here", "_law_most", "_law_paths", "_law_k", "_law_deed", "_law_due", "_law_text", "_law_turn", "_law_told"] ["_law_script"] (defScope s_law) := ⟨rfl, rfl, rfl, by decide +kernel, rfl, by decide +kernel, by decide +kernel⟩
theorem ok_law {M : Mo} (T : Txt M) {a : Addr} {fd : FuncData} (F : L2.Fun M.K "law" "law" s_law a fd) : FnOk M.P M.w M.K M.mg M.base (L2N.CX M.P M.w) 7 a fd ["_law_script"] (sp2 M.K M.cv law_M) := fn2 (N := ["_law_script", "_law_pool_here", "_law_name", "_law_bad", "_law_spoilt_here", "_law_most", "_law_paths", "_law_k", "_law_deed", "_law_due", "_law_text", "_law_turn", "_law_told"]) F sc_law rfl rfl fun cdv A outer s H E hr => by
  have nd := sc_law.nd
  have hu := hu_r hr
  have tk := L2N.takes_of (X := cxY M ["_law_script", "_law_pool_here", "_law_name", "_law_bad", "_law_spoilt_here", "_law_most", "_law_paths", "_law_k", "_law_deed", "_law_due", "_law_text", "_law_turn", "_law_told"] "law" (defScope s_law) a cdv A outer s H E) (E := E) rfl rfl rfl rfl
  have po := passes_of (X := cxY M ["_law_script", "_law_pool_here", "_law_name", "_law_bad", "_law_spoilt_here", "_law_most", "_law_paths", "_law_k", "_law_deed", "_law_due", "_law_text", "_law_turn", "_law_told"] "law" (defScope s_law) a cdv A outer s H E) rfl
  exact pss2_cons (ps2_set (i := 1) nd rfl (by first | exact Or.inl rfl | exact Or.inr rfl) (pe2_call ⟨rfl, rfl, rfl, rfl, rfl⟩ (cal_l_pool T) hr (by decide) tk (pa2_cons (pe2_var (i := 0)) (pa2_cons (pe2_int) (pa2_nil))))) (pss2_cons (ps2_set (i := 2) nd rfl (by first | exact Or.inl rfl | exact Or.inr rfl) (pe2_ix (pe2_lst (pa2_cons (pe2_str) (pa2_cons (pe2_str) (pa2_cons (pe2_str) (pa2_cons (pe2_str) (pa2_cons (pe2_str) (pa2_cons (pe2_str) (pa2_cons (pe2_str) (pa2_nil))))))))) (pe2_call ⟨rfl, rfl, rfl, rfl, rfl⟩ (cal_l_next T) hr (by decide) tk (pa2_cons (pe2_var (i := 1)) (pa2_cons (pe2_int) (pa2_nil)))))) (pss2_cons (ps2_set (i := 3) nd rfl (by first | exact Or.inl rfl | exact Or.inr rfl) (pe2_lst (pa2_cons (pe2_bl) (pa2_cons (pe2_bl) (pa2_nil))))) (pss2_cons (ps2_if (pt2_cmp (op_eqD (hu_e hu)) o_eq (pe2_call ⟨rfl, rfl, rfl, rfl, rfl⟩ (cal_l_next T) hr (by decide) tk (pa2_cons (pe2_var (i := 1)) (pa2_cons (pe2_int) (pa2_nil)))) (pe2_int) (nomark _)) (pss2_one (ps2_set (i := 3) nd rfl (by first | exact Or.inl rfl | exact Or.inr rfl) (pe2_ix (pe2_lst (pa2_cons (pe2_lst (pa2_cons (pe2_bl) (pa2_cons (pe2_bl) (pa2_nil)))) (pa2_cons (pe2_lst (pa2_cons (pe2_bl) (pa2_cons (pe2_bl) (pa2_nil)))) (pa2_cons (pe2_lst (pa2_cons (pe2_bl) (pa2_cons (pe2_bl) (pa2_nil)))) (pa2_nil))))) (pe2_call ⟨rfl, rfl, rfl, rfl, rfl⟩ (cal_l_next T) hr (by decide) tk (pa2_cons (pe2_var (i := 1)) (pa2_cons (pe2_int) (pa2_nil))))))) (pss2_nil)) (pss2_cons (ps2_set (i := 4) nd rfl (by first | exact Or.inl rfl | exact Or.inr rfl) (pe2_cmp (op_eqD (hu_e hu)) o_eq (pe2_call ⟨rfl, rfl, rfl, rfl, rfl⟩ (cal_l_next T) hr (by decide) tk (pa2_cons (pe2_var (i := 1)) (pa2_cons (pe2_int) (pa2_nil)))) (pe2_int) (nomark _))) (pss2_cons (ps2_set (i := 5) nd rfl (by first | exact Or.inl rfl | exact Or.inr rfl) (pe2_call ⟨rfl, rfl, rfl, rfl, rfl⟩ (cal_l_next T) hr (by decide) tk (pa2_cons (pe2_var (i := 1)) (pa2_cons (pe2_op op_pow o_pow (pe2_int) (pe2_int)) (pa2_nil))))) (pss2_cons (ps2_if (pt2_cmp (op_eqD (hu_e hu)) o_eq (pe2_call ⟨rfl, rfl, rfl, rfl, rfl⟩ (cal_l_next T) hr (by decide) tk (pa2_cons (pe2_var (i := 1)) (pa2_cons (pe2_int) (pa2_nil)))) (pe2_int) (nomark _)) (pss2_one (ps2_set (i := 5) nd rfl (by first | exact Or.inl rfl | exact Or.inr rfl) (pe2_ix (pe2_lst (pa2_cons (pe2_int) (pa2_cons (pe2_int) (pa2_cons (pe2_int) (pa2_cons (pe2_int) (pa2_cons (pe2_op op_pow o_pow (pe2_int) (pe2_int)) (pa2_cons (pe2_op op_sub o_sub (pe2_op op_pow o_pow (pe2_int) (pe2_int)) (pe2_int)) (pa2_nil)))))))) (pe2_call ⟨rfl, rfl, rfl, rfl, rfl⟩ (cal_l_next T) hr (by decide) tk (pa2_cons (pe2_var (i := 1)) (pa2_cons (pe2_int) (pa2_nil))))))) (pss2_nil)) (pss2_cons (ps2_set (i := 6) nd rfl (by first | exact Or.inl rfl | exact Or.inr rfl) (pe2_lst (pa2_nil))) (pss2_cons (ps2_forR1 po rfl rfl T.b_range (pa2_cons (pe2_int) (pa2_nil)) (pg2_name (i := 7) nd rfl (by first | exact Or.inl rfl | exact Or.inr rfl)) (pss2_cons (ps2_set (i := 1) nd rfl (by first | exact Or.inl rfl | exact Or.inr rfl) (pe2_call ⟨rfl, rfl, rfl, rfl, rfl⟩ (cal_l_pool T) hr (by decide) tk (pa2_cons (pe2_var (i := 0)) (pa2_cons (pe2_op or_addY o_add (pe2_int) (pe2_var (i := 7))) (pa2_nil))))) (pss2_one (ps2_if (pt2_tru (pe2_ix (pe2_var (i := 3)) (pe2_var (i := 7)))) (pss2_one (ps2_expr (pe2_bm (.inl rfl) PySem.F.plainAttrs_list PySem.F.slot_list_append PySem.F.type_list_append mt_append o_append (pe2_var (i := 6)) (pa2_cons (pe2_call ⟨rfl, rfl, rfl, rfl, rfl⟩ (cal_l_bad_path T) hr (by decide) tk (pa2_cons (pe2_var (i := 1)) (pa2_nil))) (pa2_nil))))) (pss2_one (ps2_expr (pe2_bm (.inl rfl) PySem.F.plainAttrs_list PySem.F.slot_list_append PySem.F.type_list_append mt_append o_append (pe2_var (i := 6)) (pa2_cons (pe2_call ⟨rfl, rfl, rfl, rfl, rfl⟩ (cal_l_path T) hr (by decide) tk (pa2_cons (pe2_var (i := 1)) (pa2_nil))) (pa2_nil))))))))) (pss2_cons (ps2_set (i := 8) nd rfl (by first | exact Or.inl rfl | exact Or.inr rfl) (pe2_tup (pa2_cons (pe2_var (i := 2)) (pa2_cons (pe2_ix (pe2_var (i := 6)) (pe2_int)) (pa2_nil))))) (pss2_cons (ps2_set (i := 9) nd rfl (by first | exact Or.inl rfl | exact Or.inr rfl) (pe2_lst (pa2_cons (pe2_op or_addY o_add (pe2_op or_addY o_add (pe2_var (i := 2)) (pe2_str)) (pe2_ix (pe2_var (i := 6)) (pe2_int))) (pa2_nil)))) (pss2_cons (ps2_if (pt2_cmp (op_eqD (hu_e hu)) o_eq (pe2_var (i := 2)) (pe2_str) (nomark _)) (pss2_cons (ps2_set (i := 10) nd rfl (by first | exact Or.inl rfl | exact Or.inr rfl) (pe2_call ⟨rfl, rfl, rfl, rfl, rfl⟩ (cal_l_some_text T) hr (by decide) tk (pa2_cons (pe2_call ⟨rfl, rfl, rfl, rfl, rfl⟩ (cal_l_pool T) hr (by decide) tk (pa2_cons (pe2_var (i := 0)) (pa2_cons (pe2_int) (pa2_nil)))) (pa2_cons (pe2_int) (pa2_nil))))) (pss2_cons (ps2_set (i := 8) nd rfl (by first | exact Or.inl rfl | exact Or.inr rfl) (pe2_tup (pa2_cons (pe2_var (i := 2)) (pa2_cons (pe2_ix (pe2_var (i := 6)) (pe2_int)) (pa2_cons (pe2_var (i := 10)) (pa2_nil)))))) (pss2_one (ps2_set (i := 9) nd rfl (by first | exact Or.inl rfl | exact Or.inr rfl) (pe2_lst (pa2_cons (pe2_op or_addY o_add (pe2_op or_addY o_add (pe2_op or_addY o_add (pe2_op or_addY o_add (pe2_var (i := 2)) (pe2_str)) (pe2_ix (pe2_var (i := 6)) (pe2_int))) (pe2_str)) (pe2_var (i := 10))) (pa2_nil))))))) (pss2_nil)) (pss2_cons (ps2_if (pt2_cmp (op_eqD (hu_e hu)) o_eq (pe2_var (i := 2)) (pe2_str) (nomark _)) (pss2_cons (ps2_set (i := 8) nd rfl (by first | exact Or.inl rfl | exact Or.inr rfl) (pe2_tup (pa2_cons (pe2_var (i := 2)) (pa2_cons (pe2_ix (pe2_var (i := 6)) (pe2_int)) (pa2_cons (pe2_var (i := 5)) (pa2_nil)))))) (pss2_one (ps2_set (i := 9) nd rfl (by first | exact Or.inl rfl | exact Or.inr rfl) (pe2_lst (pa2_cons (pe2_op or_addY o_add (pe2_op or_addY o_add (pe2_op or_addY o_add (pe2_op or_addY o_add (pe2_var (i := 2)) (pe2_str)) (pe2_ix (pe2_var (i := 6)) (pe2_int))) (pe2_str)) (pe2_bty call_strY o_str1 rfl T.b_str (by decide +kernel) (pa2_cons (pe2_var (i := 5)) (pa2_nil)))) (pa2_nil)))))) (pss2_nil)) (pss2_cons (ps2_if (PW2.pt (pw2_or (pt2_cmp (op_eqD (hu_e hu)) o_eq (pe2_var (i := 2)) (pe2_str) (nomark _)) (pw2_or1 (pt2_cmp (op_eqD (hu_e hu)) o_eq (pe2_var (i := 2)) (pe2_str) (nomark _))))) (pss2_cons (ps2_set (i := 8) nd rfl (by first | exact Or.inl rfl | exact Or.inr rfl) (pe2_tup (pa2_cons (pe2_var (i := 2)) (pa2_cons (pe2_ix (pe2_var (i := 6)) (pe2_int)) (pa2_cons (pe2_ix (pe2_var (i := 6)) (pe2_int)) (pa2_nil)))))) (pss2_one (ps2_set (i := 9) nd rfl (by first | exact Or.inl rfl | exact Or.inr rfl) (pe2_lst (pa2_cons (pe2_op or_addY o_add (pe2_op or_addY o_add (pe2_op or_addY o_add (pe2_op or_addY o_add (pe2_var (i := 2)) (pe2_str)) (pe2_ix (pe2_var (i := 6)) (pe2_int))) (pe2_str)) (pe2_ix (pe2_var (i := 6)) (pe2_int))) (pa2_nil)))))) (pss2_nil)) (pss2_cons (ps2_if (PW2.pt (pw2_or (pt2_tru (pe2_ix (pe2_var (i := 3)) (pe2_int))) (pw2_or1 (PW2.pt (pw2_and (pt2_tru (pe2_ix (pe2_var (i := 3)) (pe2_int))) (pw2_and1 (pt2_cmp (or_inY hu) o_inY (pe2_var (i := 2)) (pe2_lst (pa2_cons (pe2_str) (pa2_cons (pe2_str) (pa2_nil)))) rfl))))))) (pss2_one (ps2_set (i := 9) nd rfl (by first | exact Or.inl rfl | exact Or.inr rfl) (pe2_str))) (pss2_nil)) (pss2_cons (ps2_if (pt2_tru (pe2_var (i := 4))) (pss2_cons (ps2_set (i := 8) nd rfl (by first | exact Or.inl rfl | exact Or.inr rfl) (pe2_call ⟨rfl, rfl, rfl, rfl, rfl⟩ (cal_l_spoilt T) hr (by decide) tk (pa2_cons (pe2_var (i := 8)) (pa2_cons (pe2_call ⟨rfl, rfl, rfl, rfl, rfl⟩ (cal_l_pool T) hr (by decide) tk (pa2_cons (pe2_var (i := 0)) (pa2_cons (pe2_int) (pa2_nil)))) (pa2_nil))))) (pss2_one (ps2_set (i := 9) nd rfl (by first | exact Or.inl rfl | exact Or.inr rfl) (pe2_str)))) (pss2_nil)) (pss2_cons (ps2_forR1 po rfl rfl T.b_range (pa2_cons (pe2_int) (pa2_nil)) (pg2_name (i := 11) nd rfl (by first | exact Or.inl rfl | exact Or.inr rfl)) (pss2_cons (ps2_set (i := 12) nd rfl (by first | exact Or.inl rfl | exact Or.inr rfl) (pe2_call ⟨rfl, rfl, rfl, rfl, rfl⟩ (cal_l_asked T) hr (by decide) tk (pa2_cons (pe2_var (i := 8)) (pa2_nil)))) (pss2_cons (ps2_if (pt2_cmp (op_neD (hu_e hu)) o_ne (pe2_var (i := 12)) (pe2_var (i := 9)) (nomark _)) (pss2_one (ps2_ret (pe2_bl))) (pss2_nil)) (pss2_one (ps2_if (PW2.pt (pw2_and (pt2_not (pt2_tru (pe2_var (i := 4)))) (pw2_and (pt2_cmp (op_neD (hu_e hu)) o_ne (pe2_var (i := 9)) (pe2_str) (nomark _)) (pw2_and1 (pt2_not (pt2_tru (pe2_isTy ⟨rfl, rfl, rfl, rfl, rfl⟩ T.isT_str (pe2_ix (pe2_var (i := 12)) (pe2_int)) rfl T.b_isinstance rfl T.b_str (by decide +kernel)))))))) (pss2_one (ps2_ret (pe2_bl))) (pss2_nil)))))) (pss2_one (ps2_ret (pe2_bl)))))))))))))))))))
theorem cal_law {M : Mo} (T : Txt M) : Cal M 7 "law" law_M := let ⟨fd, F⟩ := T.d_law; ⟨_, fd, _, ok_law T F, T.glo_law, F.kp, F.binds (ps := ["_law_script"]) fun _ _ _ _ _ _ us hl => match us, hl with | [_], _ => rfl⟩
def loose0 : List Str := ["HallError",
  "BadPath",
  "BadCommand",
  "NAME_CHARS",
  "NAME_MOST",
  "NAMES_MOST",
  "is_name",
  "check_names",
  "split_path",
  "NUMBER_MOST",
  "TEXT_MOST",
  "PERCENT",
  "is_integer",
  "is_number",
  "is_text",
  "is_deed",
  "ONE_PATH",
  "TWO_PATHS",
  "DIGITS_MOST",
  "check_paths",
  "has_form",
  "format_command",
  "_law_pool",
  "_law_next",
  "_law_char",
  "_law_some_text",
  "_law_path",
  "_law_bad_path",
  "_law_asked",
  "_law_third"]
def loose1 : List Str := ["_law_spoilt"]
def loose : List Str := loose0 ++ loose1
abbrev R : PySem.W.OpenRow := PySem.W.OpenLaw.row PySem.Challenge.rw_appendhall_k58_commands_written
abbrev hk : PySem.W.Hook := hookY 7 fa fn
def ob (s : PySem.W.SharedT) : AlY := obsYG 7 fa fn (HandSHeadRun.getT s)
theorem ob_eq (s : PySem.W.SharedT) : ob s = hk.obs s.abs := obsYG_eq (HandSHeadRun.getT_eq s)
theorem run (w : World) : HandSHeadRun.RunEq R (PySem.W.view R.prog [37]) hk ob 4000 loose w := by
  intro os
  kernel_rfl
theorem ends {M : Mo} {h : Heap} (O : OkY M h) (c : SaysY fa fn M.K) : ∃ f fd, M.mg "law" = some (.ref f) ∧ (∀ (s : Shared) (u : Value), BindsTo s fd ⟨[u], []⟩ [("_law_script", u)]) ∧
    ∀ base : Heap, M.K.In base → base.Ns mainGlobals M.mg → FnOk M.P M.w M.K M.mg base (L2N.CX M.P M.w) 7 f fd ["_law_script"] (sp2 M.K M.cv law_M) := by
  have T : Txt M := ⟨⟨h, O⟩, c⟩
  obtain ⟨fd, F⟩ := T.d_law
  refine ⟨_, fd, T.glo_law, ?_, fun base h1 h2 => ?_⟩
  · obtain ⟨oc, od, kV, doc, pm, an, cdv, ct, osl, rfl, lk, hcd⟩ := F.ex
    exact fun s u => .of_eq rfl
  · exact ok_law (M := ⟨M.P, M.w, M.K, M.mg, base, M.cv⟩) ⟨⟨base, h1, h2, O.cv⟩, c⟩ F
end YL
open PySem PySem.W PySem.Calls PyProof.Rows
theorem YL.holds (ht : Y.Truth YL.law_M) : PySem.Challenge.rw_appendhall_k58_commands_written.Holds := by
  w_on; o_law
  refine HandSHeadRun.head_any (r := OpenLaw.row PySem.Challenge.rw_appendhall_k58_commands_written) (q := view (OpenLaw.row PySem.Challenge.rw_appendhall_k58_commands_written).prog [37]) (H := YL.hk) (ob := YL.ob) (M := 4000) (loose := YL.loose) (d := HandSHeadRun.topDef (OpenLaw.row PySem.Challenge.rw_appendhall_k58_commands_written).prog 37) (kwd := []) YL.ob_eq
    (by kernel_rfl) (fun s => by kernel_rfl) YL.run (by kernel_rfl) (by kernel_rfl) (by kernel_rfl) (by rfl) (by first | assumption | decide +kernel) (by decide +kernel) ⟨rfl, rfl, rfl, rfl, rfl, by decide +kernel⟩ ?hw ?hc
  case hw => w_witness2
  case hc =>
    refine Y.walkY (l := PySem.Challenge.rw_appendhall_k58_commands_written) (k := 7) (x := "_law_script") rfl (by kernel_rfl) ⟨rfl, by decide, by decide⟩ (fun M h hP O c => ?_) ht
    have e : (HandSHeadRun.topDef (OpenLaw.row PySem.Challenge.rw_appendhall_k58_commands_written).prog 37).name = ("law" : PySem.Str) := by kernel_rfl
    rw [e]
    exact YL.ends O c

set_option Elab.async false
set_option linter.all false
set_option maxRecDepth 100000
set_option maxHeartbeats 4000000
namespace YL
open Y PySem
/-! ### what the program's functions answer -/
def isInt : PV → Bool
  | .int i => decide (-1000000000000000000 ≤ i ∧ i ≤ 1000000000000000000)
  | _ => false
def chT (c : Nat) : Bool := decide (32 ≤ c) && (decide (c ≤ 126) && !decide (c = 37))
def isTxt : PV → Bool
  | .str x => decide (x.length ≤ 200) && x.all chT
  | _ => false
/-- a value of the built-in types -/
def Bt (v : PV) (s : Sto) : Prop := ∃ T, O.tyOf v s = some (.t T)
/-- no text of an absurd length -/
def Sm : PV → Prop
  | .str x => x.length ≤ 100000
  | _ => True
theorem sm_line {n : Nat} (h : n ≤ 100000) : n ≤ sizeLine := by rw [sizeLine_eq]; omega
theorem ref_ty {n : Nat} {s : Sto} {T : String} (h : O.tyOf (.ref n) s = some (.t T)) : T = "list" ∨ T = "dict" ∨ T = "set" := by
  unfold O.tyOf at h
  cases e : s[n]? with
  | none => simp only [e] at h; cases h
  | some o => cases o <;> simp only [e] at h <;> cases h <;> simp
theorem isi_t {v : PV} {s : Sto} {T n : String} {cs : List String} (h : O.tyOf v s = some (.t T)) : O.isiT n cs [v] s = some (.bl (O.subT T n), s) := by
  show (match O.tyOf v s with | some (.t a) => some (PV.bl (O.subT a n), s) | some (.own C) => if C ∈ cs then some (.bl false, s) else none | none => none) = _
  rw [h]
theorem is_integer_eq {v : PV} {s : Sto} (h : Bt v s) : is_integer_M [v] s = .ok (.bl (isInt v)) s := by
  obtain ⟨T, h⟩ := h
  unfold is_integer_M is_integer_b Z.run
  simp only [List.length_cons, List.length_nil, if_true, List.map_cons, List.map_nil, Nat.sub_self, List.replicate_zero, List.append_nil, z_seq, z_ite, t_or, t_not, t_tru, e_isi, e_var, List.getElem?_cons_zero, ER.bind_ok, isi_t h, ER.of_some, t_bl, z_ret, e_c, z_nil]
  cases v with
  | int i =>
    cases h
    simp [O.subT, O.neg, O.le, isInt]
    by_cases h1 : -1000000000000000000 ≤ i <;> simp [h1]
  | bl b => cases h; simp [O.subT, isInt]
  | non => cases h; simp [O.subT, isInt]
  | str x => cases h; simp [O.subT, isInt]
  | tup x => cases h; simp [O.subT, isInt]
  | ref n => rcases ref_ty h with e | e | e <;> subst e <;> simp [O.subT, isInt]
  | con _ => cases h
  | ty _ => cases h
theorem lt1 (c d : Nat) : decide ([c] < [d]) = decide (c < d) := by
  by_cases h : c < d
  · rw [decide_eq_true h]
    exact decide_eq_true (List.Lex.rel h)
  · rw [decide_eq_false h]
    refine decide_eq_false fun z => ?_
    cases z with
    | rel h' => exact h h'
    | cons h' => cases h'
theorem is_text_eq {v : PV} {s : Sto} (h : Bt v s) (hs : Sm v) : is_text_M [v] s = .ok (.bl (isTxt v)) s := by
  obtain ⟨T, h⟩ := h
  unfold is_text_M is_text_b Z.run
  simp only [List.length_cons, List.length_nil, if_true, List.map_cons, List.map_nil, List.append_nil, z_seq, z_ite, t_or, t_not, t_tru, e_isi, e_var, List.getElem?_cons_zero, ER.bind_ok, isi_t h, ER.of_some, t_bl, z_ret, e_c, z_nil, List.cons_append]
  cases v with
  | str x =>
    cases h
    have hl : x.length ≤ sizeLine := sm_line hs
    have key := forP_look (i := 1) (b := Z.ite (T.or (T.val (E.bin O.lt (E.var 1) (E.c (.str (S " "))))) (T.or (T.val (E.bin O.gt (E.var 1) (E.c (.str (S "~"))))) (T.val (E.bin O.eq (E.blt O.ord1 (E.cons (E.var 1) (E.nil))) (E.c (.int 37)))))) (Z.ret (E.c (.bl false))) (Z.nil)) (s := s)
      (fun p => match p with | .str [c] => chT c | _ => false) (fun r => r = .rt (.bl false) s) (fun r k e => by subst e; rfl) (ps := x.map fun c => .str [c]) (ρ := [some (.str x), none]) (by simp) (fun p ρ' hp hl => by
        obtain ⟨c, _, rfl⟩ := List.mem_map.mp hp
        have hg : (ρ'.set 1 (some (PV.str [c])))[1]? = some (some (.str [c])) := List.getElem?_set_self (by rw [hl]; simp)
        have e1 : S " " = [32] := rfl
        have e2 : S "~" = [126] := rfl
        simp only [z_ite, t_or, t_val, e_bin, e_var, hg, ER.bind_ok, e_c, e1, e2, O.lt, O.gt, lt1, ER.of_some, e_blt, e_cons, e_nil, O.ord1, eq_ii, chT]
        by_cases a : c < 32
        · have a' : ¬ 32 ≤ c := by omega
          simp [a, a']
        · have a' : 32 ≤ c := by omega
          by_cases b : 126 < c
          · have b' : ¬ c ≤ 126 := by omega
            simp [a, a', b, b']
          · have b' : c ≤ 126 := by omega
            by_cases d : c = 37
            · subst d; simp
            · have d' : ¬ (c : Int) = 37 := by omega
              simp [a, a', b, b', d, d'])
    have e3 : (x.map fun c => PV.str [c]).all (fun p => match p with | .str [c] => chT c | _ => false) = x.all chT := by rw [List.all_map]; rfl
    rw [e3] at key
    simp only [O.subT, O.len1, O.gt, hl, if_true]
    by_cases h2 : x.length ≤ 200
    · have h2' : ¬ (200 : Int) < x.length := by omega
      rcases key with ⟨k1, o, k2⟩ | ⟨k1, k2⟩
      · simp [Z.forS, k2, isTxt, h2, k1, h2', O.len1, hl, O.gt]
      · simp [Z.forS, k2, isTxt, h2, k1, h2', O.len1, hl, O.gt]
    · have h2' : (200 : Int) < x.length := by omega
      simp [isTxt, h2, h2', O.len1, hl, O.gt]
  | bl b => cases h; simp [O.subT, isTxt]
  | non => cases h; simp [O.subT, isTxt]
  | int x => cases h; simp [O.subT, isTxt]
  | tup x => cases h; simp [O.subT, isTxt]
  | ref n => rcases ref_ty h with e | e | e <;> subst e <;> simp [O.subT, isTxt]
  | con _ => cases h
  | ty _ => cases h
end YL

set_option Elab.async false
set_option linter.all false
set_option maxRecDepth 100000
set_option maxHeartbeats 4000000
namespace YL
open Y PySem
theorem ok_txt {x : List Nat} (h : isTxt (.str x) = true) : okT x = true := by
  have h' : (decide (x.length ≤ 200) && x.all chT) = true := h
  rw [Bool.and_eq_true] at h'
  refine List.all_eq_true.mpr fun c hc => ?_
  have z := List.all_eq_true.mp h'.2 c hc
  unfold chT at z
  simp only [Bool.and_eq_true, decide_eq_true_eq] at z
  exact decide_eq_true (by omega)
theorem run_eq {np n : Nat} {b : SF} {vs : List PV} {s s' : Sto} {v : PV} (hl : vs.length = np) (h : b (vs.map some ++ List.replicate (n - np) none) s = .rt v s') : Z.run np n b vs s = .ok v s' := by
  unfold Z.run
  rw [if_pos hl, h]
theorem run_nx {np n : Nat} {b : SF} {vs : List PV} {s s' : Sto} {ρ : Rho} (hl : vs.length = np) (h : b (vs.map some ++ List.replicate (n - np) none) s = .nx ρ s') : Z.run np n b vs s = .ok .non s' := by
  unfold Z.run
  rw [if_pos hl, h]
theorem run_ex {np n : Nat} {b : SF} {vs : List PV} {s s' : Sto} {ρ : Rho} {c : String} (hl : vs.length = np) (h : b (vs.map some ++ List.replicate (n - np) none) s = .ex c ρ s') : Z.run np n b vs s = .ex c s' := by
  unfold Z.run
  rw [if_pos hl, h]
def BS (v : PV) (s : Sto) : Prop := Bt v s ∧ Sm v
def isItem (v : PV) : Bool := isInt v || isTxt v
def isEmp : PV → Bool
  | .str [] => true
  | _ => false
def isDeed : PV → Bool
  | .tup ps => decide (1 ≤ ps.length ∧ ps.length ≤ 4) && (ps.all isItem && (match ps with | p :: _ => isTxt p && !isEmp p | [] => false))
  | _ => false
/-- lo <= len(x) <= hi -/
theorem len_between {x : EF} {ρ : Rho} {s : Sto} {v : PV} {n : Nat} (lo hi : Nat) (hx : x ρ s = .ok v s) (hl : O.len1 [v] s = some (.int n, s)) :
    E.chain O.le O.le (E.c (.int lo)) (E.blt O.len1 (E.cons x E.nil)) (E.c (.int hi)) ρ s = .ok (.bl (decide (lo ≤ n ∧ n ≤ hi))) s := by
  simp only [e_chain, e_c, e_blt, e_cons, e_nil, hx, ER.bind_ok, hl, ER.of_some, O.le]
  by_cases a : lo ≤ n
  · have a' : (lo : Int) ≤ (n : Int) := by omega
    rw [decide_eq_true a']
    simp only [ER.bind_ok, e_c, ER.of_some]
    by_cases b : n ≤ hi
    · rw [decide_eq_true (show (n : Int) ≤ hi by omega), decide_eq_true ⟨a, b⟩]
    · rw [decide_eq_false (show ¬ (n : Int) ≤ hi by omega), decide_eq_false (show ¬ (lo ≤ n ∧ n ≤ hi) from fun z => b z.2)]
  · have a' : ¬ (lo : Int) ≤ (n : Int) := by omega
    rw [decide_eq_false a', decide_eq_false (show ¬ (lo ≤ n ∧ n ≤ hi) from fun z => a z.1)]
theorem is_deed_eq {v : PV} {s : Sto} (h : Bt v s) (hs : ∀ ps, v = .tup ps → ∀ p ∈ ps, BS p s) : is_deed_M [v] s = .ok (.bl (isDeed v)) s := by
  obtain ⟨T, h⟩ := h
  refine run_eq rfl (show is_deed_b [some v, none] s = _ from ?_)
  unfold is_deed_b
  simp only [z_seq, z_ite, t_or, t_not, t_tru, e_isi, e_var, List.getElem?_cons_zero, ER.bind_ok, isi_t h, ER.of_some, t_bl, z_ret, e_c, z_nil, List.cons_append, List.nil_append]
  cases v with
  | tup ps =>
    cases h
    have hB := hs ps rfl
    have key := forP_look (i := 1) (b := Z.ite (T.and (T.not (T.tru (E.call is_integer_M (E.cons (E.var 1) (E.nil))))) (T.not (T.tru (E.call is_text_M (E.cons (E.var 1) (E.nil)))))) (Z.ret (E.c (.bl false))) (Z.nil)) (s := s)
      isItem (fun r => r = .rt (.bl false) s) (fun r k e => by subst e; rfl) (ps := ps) (ρ := [some (.tup ps), none]) (by simp) (fun p ρ' hp hl => by
        have hg : (ρ'.set 1 (some p))[1]? = some (some p) := List.getElem?_set_self (by rw [hl]; simp)
        simp only [z_ite, t_and, t_not, t_tru, e_call, e_cons, e_nil, e_var, hg, ER.bind_ok, is_integer_eq (hB p hp).1, is_text_eq (hB p hp).1 (hB p hp).2, isItem, t_bl]
        cases isInt p <;> cases isTxt p <;> simp [ER.bind_ok, is_integer_eq (hB p hp).1, is_text_eq (hB p hp).1 (hB p hp).2])
    have hc := len_between (x := E.var 0) (ρ := [some (.tup ps), none]) (s := s) (v := .tup ps) (n := ps.length) 1 4 rfl rfl
    simp only [O.subT, t_val]
    rw [show (E.chain O.le O.le (E.c (.int 1)) (E.blt O.len1 (E.cons (E.var 0) E.nil)) (E.c (.int 4))) [some (.tup ps), none] s = _ from hc]
    by_cases h1 : 1 ≤ ps.length ∧ ps.length ≤ 4
    · rw [decide_eq_true h1]
      rcases key with ⟨k1, o, k2⟩ | ⟨k1, k2⟩
      · obtain ⟨p, r, rfl⟩ : ∃ p r, ps = p :: r := by
          cases ps with
          | nil => simp at h1
          | cons p r => exact ⟨p, r, rfl⟩
        have hp := hB p List.mem_cons_self
        have hix : O.ix (.tup (p :: r)) (.int 0) s = some (p, s) := by
          show (L2.atI (p :: r) 0).map _ = _
          unfold L2.atI L2.ixN
          simp
        have e1 : S "" = [] := rfl
        have hd : isDeed (.tup (p :: r)) = (isTxt p && !isEmp p) := by
          show (decide _ && (List.all _ _ && _)) = _
          rw [decide_eq_true h1, k1]
          rfl
        rw [hd]
        simp [Z.forV, k2, is_text_eq hp.1 hp.2, hix]
        cases ht : isTxt p with
        | false => simp
        | true =>
          cases p with
          | str x =>
            simp [e1, ne_ss (ok_txt ht) (show okT [] = true from rfl), hix, isEmp]
            cases x <;> simp
          | _ => cases ht
      · have hd : isDeed (.tup ps) = false := by
          show (decide _ && (List.all _ _ && _)) = _
          rw [k1]
          simp
        rw [hd]
        simp [Z.forV, k2]
    · have hd : isDeed (.tup ps) = false := by
        show (decide _ && (List.all _ _ && _)) = _
        rw [decide_eq_false h1]
        rfl
      rw [hd, decide_eq_false h1]
      simp
  | bl b => cases h; simp [O.subT, isDeed]
  | non => cases h; simp [O.subT, isDeed]
  | int x => cases h; simp [O.subT, isDeed]
  | str x => cases h; simp [O.subT, isDeed]
  | ref n => rcases ref_ty h with e | e | e <;> subst e <;> simp [O.subT, isDeed]
  | con _ => cases h
  | ty _ => cases h
end YL

set_option Elab.async false
set_option linter.all false
set_option maxRecDepth 100000
set_option maxHeartbeats 4000000
namespace YL
open Y PySem
def isNum : PV → Bool
  | .int i => decide (0 ≤ i ∧ i ≤ 1000000000000000000)
  | _ => false
theorem is_number_eq {v : PV} {s : Sto} (h : Bt v s) : is_number_M [v] s = .ok (.bl (isNum v)) s := by
  refine run_eq rfl (show is_number_b [some v] s = _ from ?_)
  unfold is_number_b
  simp only [z_ret, e_and, e_call, e_cons, e_nil, e_var, List.getElem?_cons_zero, ER.bind_ok, is_integer_eq h]
  cases v with
  | int i =>
    by_cases a : -1000000000000000000 ≤ i ∧ i ≤ 1000000000000000000
    · simp [isInt, a, O.ge, isNum]
    · have b : ¬ (0 ≤ i ∧ i ≤ 1000000000000000000) := by omega
      have e : isInt (.int i) = false := decide_eq_false a
      have e2 : isNum (.int i) = false := decide_eq_false b
      rw [e, e2]
      rfl
  | _ => rfl
def one : PV → Bool
  | .str x => S "mkdir" == x || (S "create" == x || S "seal" == x)
  | _ => false
def two : PV → Bool
  | .str x => S "move" == x || S "snapshot" == x
  | _ => false
def isS (z : String) : PV → Bool
  | .str x => decide (x = S z)
  | _ => false
def digs : PV → Nat
  | .int i => (S (toString i)).length
  | _ => 0
def hasForm (v : PV) : Bool := isDeed v && (match v with
  | .tup [a, b] => isTxt b && one a
  | .tup [a, b, c] => isTxt b && (!one a && (if isS "limit" a = true then isNum c && decide (digs c ≤ 18) else (two a || isS "append" a) && isTxt c))
  | _ => false)
theorem in3 (x : List Nat) (s : Sto) : O.inY (.str x) (.tup [.str (S "mkdir"), .str (S "create"), .str (S "seal")]) s = some (.bl (one (.str x)), s) := by
  simp only [O.inY, O.inL, O.flatP, List.all_cons, List.all_nil, Bool.and_self, if_true, List.any_cons, List.any_nil, Option.map_some, O.eqP, Bool.or_false, one]
theorem in2 (x : List Nat) (s : Sto) : O.inY (.str x) (.tup [.str (S "move"), .str (S "snapshot")]) s = some (.bl (two (.str x)), s) := by
  simp only [O.inY, O.inL, O.flatP, List.all_cons, List.all_nil, Bool.and_self, if_true, List.any_cons, List.any_nil, Option.map_some, O.eqP, Bool.or_false, two]
theorem ix0 (a : PV) (r : List PV) (s : Sto) : O.ix (.tup (a :: r)) (.int 0) s = some (a, s) := by
  show (L2.atI (a :: r) 0).map _ = _
  unfold L2.atI L2.ixN
  simp
theorem ix1 (a b : PV) (r : List PV) (s : Sto) : O.ix (.tup (a :: b :: r)) (.int 1) s = some (b, s) := by
  show (L2.atI (a :: b :: r) 1).map _ = _
  unfold L2.atI L2.ixN
  rw [if_pos (by decide), if_pos (by simp only [List.length_cons]; omega)]
  rfl
theorem ix2 (a b c : PV) (r : List PV) (s : Sto) : O.ix (.tup (a :: b :: c :: r)) (.int 2) s = some (c, s) := by
  show (L2.atI (a :: b :: c :: r) 2).map _ = _
  unfold L2.atI L2.ixN
  rw [if_pos (by decide), if_pos (by simp only [List.length_cons]; omega)]
  rfl
theorem okS (z : String) (h : okT (S z) = true := by decide) : okT (S z) = true := h
theorem S_num (n : Nat) : S (toString ((n : Nat) : Int)) = TL.numL n := by
  have e := SX.num_S n
  rw [ofS] at e
  exact SX.S_inj e
theorem digs_le (n k : Nat) (hk : 0 < k) : digs (.int (n : Int)) ≤ k ↔ n < 10 ^ k := by
  show (S (toString ((n : Nat) : Int))).length ≤ k ↔ _
  rw [S_num]
  unfold TL.numL
  rw [List.length_map]
  exact Nat.length_toDigits_le_iff (by decide) hk
theorem isDeed_hd {ps : List PV} (h : isDeed (.tup ps) = true) : (1 ≤ ps.length ∧ ps.length ≤ 4) ∧ ∃ x r, ps = .str x :: r ∧ isTxt (.str x) = true ∧ x ≠ [] := by
  unfold isDeed at h
  simp only [Bool.and_eq_true, decide_eq_true_eq] at h
  refine ⟨h.1, ?_⟩
  cases ps with
  | nil => exact absurd h.1.1 (by simp)
  | cons p r =>
    have h2 : (isTxt p && !isEmp p) = true := h.2.2
    rw [Bool.and_eq_true] at h2
    cases p with
    | str x =>
      refine ⟨x, r, rfl, h2.1, fun e => ?_⟩
      subst e
      exact absurd h2.2 (by decide)
    | _ => cases h2.1
theorem has_form_eq {v : PV} {s : Sto} (h : Bt v s) (hs : ∀ ps, v = .tup ps → ∀ p ∈ ps, BS p s) : has_form_M [v] s = .ok (.bl (hasForm v)) s := by
  refine run_eq rfl (show has_form_b [some v] s = _ from ?_)
  unfold has_form_b
  simp only [z_seq, z_ite, t_or, t_not, t_tru, t_val, e_call, e_cons, e_nil, e_var, List.getElem?_cons_zero, ER.bind_ok, is_deed_eq h hs, t_bl]
  cases hd : isDeed v with
  | false => simp [hasForm, hd]
  | true =>
    cases v with
    | tup ps =>
      have hB := hs ps rfl
      obtain ⟨⟨l1, l2⟩, x, r, rfl, ha1, hne⟩ := isDeed_hd hd
      have hx := ok_txt ha1
      cases r with
      | nil => simp [hasForm, O.len1, O.lt]
      | cons b r =>
        have hb := hB b (by simp)
        have hl : ¬ ((PV.str x :: b :: r).length : Int) < 2 := by simp only [List.length_cons]; omega
        have l3 : O.len1 [PV.tup (.str x :: b :: r)] s = some (.int ((PV.str x :: b :: r).length : Nat), s) := rfl
        simp only [e_bin, e_blt, e_cons, e_nil, e_var, List.getElem?_cons_zero, ER.bind_ok, l3, e_c, ER.of_some, O.lt, decide_eq_false hl, ix1, is_text_eq hb.1 hb.2, t_bl]
        cases tb : isTxt b with
        | false =>
          have : hasForm (.tup (.str x :: b :: r)) = false := by
            unfold hasForm
            rw [hd]
            match r with
            | [] => simp [tb]
            | [c] => simp [tb]
            | _ :: _ :: _ => rfl
          rw [this]
          simp
        | true =>
          simp only [ix0, in3, Bool.not_true, Bool.false_eq_true, if_false, ER.bind_ok, ER.thenS_ok, z_nil, SR.next_nx, z_seq, z_ite, t_val, e_bin, e_var, List.getElem?_cons_zero, e_c, ER.of_some, e_blt, e_cons, e_nil, l3, eq_ii, ne_ii]
          cases o1 : one (.str x) with
          | true =>
            simp only [if_true, z_ret, e_bin, e_blt, e_cons, e_nil, e_var, List.getElem?_cons_zero, ER.bind_ok, l3, e_c, ER.of_some, eq_ii, ER.thenS_ok, SR.next_rt]
            cases r with
            | nil => simp [hasForm, hd, tb, o1]
            | cons c r =>
              cases r with
              | nil => simp [hasForm, hd, tb, o1]
              | cons d r => 
                have e : ¬ ((PV.str x :: b :: c :: d :: r).length : Int) = 2 := by simp only [List.length_cons]; omega
                simp [hasForm, decide_eq_false e]
                omega
          | false =>
            simp only [Bool.false_eq_true, if_false, SR.next_nx, z_seq, z_ite, t_val, e_bin, e_blt, e_cons, e_nil, e_var, List.getElem?_cons_zero, ER.bind_ok, l3, e_c, ER.of_some, ne_ii]
            cases r with
            | nil => simp [hasForm, hd, tb, o1]
            | cons c r =>
              cases r with
              | cons d r =>
                have e : ¬ ((PV.str x :: b :: c :: d :: r).length : Int) = 3 := by simp only [List.length_cons]; omega
                rw [decide_eq_false e]
                simp [hasForm]
              | nil =>
                have hc := hB c (by simp)
                have e3 : ((([PV.str x, b, c] : List PV).length : Nat) : Int) = 3 := rfl
                simp only [e3, z_seq, z_ite, t_val, decide_true, Bool.not_true, if_false, Bool.false_eq_true, ER.bind_ok, ER.thenS_ok, z_nil, SR.next_nx, ix0, eq_ss hx (okS "limit"), ER.of_some, z_ret, e_and, e_or, e_call, e_bin, e_cons, e_nil, e_var, List.getElem?_cons_zero, e_c, ix2, is_number_eq hc.1, e_blt]
                by_cases el : x = S "limit"
                · have e4 : isS "limit" (.str x) = true := decide_eq_true el
                  have hf : hasForm (.tup [.str x, b, c]) = (isNum c && decide (digs c ≤ 18)) := by
                    unfold hasForm
                    rw [hd]
                    simp only [tb, o1, e4, Bool.true_and, Bool.not_false, if_true]
                  rw [hf, decide_eq_true el]
                  simp only [if_true]
                  cases nc : isNum c with
                  | false => simp
                  | true =>
                    obtain ⟨i, rfl⟩ : ∃ i, c = .int i := by cases c <;> first | exact ⟨_, rfl⟩ | cases nc
                    have hi : 0 ≤ i ∧ i ≤ 1000000000000000000 := of_decide_eq_true nc
                    obtain ⟨n, rfl⟩ : ∃ n : Nat, i = n := ⟨i.toNat, by omega⟩
                    have h64 : (n : Int).natAbs.log2 < 1920 := by
                      have h5 : (n : Int).natAbs < 2 ^ 64 := by omega
                      by_cases z : (n : Int).natAbs = 0
                      · rw [z]; decide
                      · have := (Nat.log2_lt z).mpr h5
                        omega
                    have h6 : O.str1 [.int (n : Int)] s = some (.str (S (toString (n : Int))), s) := if_pos h64
                    have h7 : (S (toString (n : Int))).length ≤ 19 := by
                      have := (digs_le n 19 (by decide)).mpr (by omega)
                      exact this
                    have h8 : O.len1 [.str (S (toString (n : Int)))] s = some (.int (S (toString (n : Int))).length, s) := if_pos (sm_line (by omega))
                    have h9 : decide ((((S (toString (n : Int))).length : Nat) : Int) ≤ 18) = decide (digs (.int (n : Int)) ≤ 18) := by
                      show _ = decide ((S (toString (n : Int))).length ≤ 18)
                      by_cases z : (S (toString (n : Int))).length ≤ 18
                      · rw [decide_eq_true z, decide_eq_true (by omega)]
                      · rw [decide_eq_false z, decide_eq_false (by omega)]
                    simp only [h6, h8, ER.of_some, ER.bind_ok, O.le, h9, ER.thenS_ok, SR.next_rt, Bool.true_and]
                · have e4 : isS "limit" (.str x) = false := decide_eq_false el
                  have hf : hasForm (.tup [.str x, b, c]) = ((two (.str x) || isS "append" (.str x)) && isTxt c) := by
                    unfold hasForm
                    rw [hd]
                    simp only [tb, o1, e4, Bool.true_and, Bool.not_false, if_false, Bool.false_eq_true]
                  rw [hf, decide_eq_false el]
                  simp only [if_false, Bool.false_eq_true, z_nil, ER.thenS_ok, SR.next_nx, z_ret, e_and, e_or, e_bin, e_call, e_cons, e_nil, e_var, List.getElem?_cons_zero, e_c, ix0, ix2, in2, ER.of_some, ER.bind_ok]
                  cases t2 : two (.str x) with
                  | true => simp only [ER.bind_ok, is_text_eq hc.1 hc.2, ER.thenS_ok, Bool.true_or, Bool.true_and]
                  | false =>
                    simp only [ER.bind_ok, ix0, ER.of_some, ER.bind_ok, eq_ss hx (okS "append")]
                    show _ = SR.rt (.bl ((false || decide (x = S "append")) && isTxt c)) s
                    cases ea : decide (x = S "append") <;> simp [is_text_eq hc.1 hc.2, ix2]
    | _ => cases hd
end YL

set_option Elab.async false
set_option linter.all false
set_option maxRecDepth 100000
set_option maxHeartbeats 4000000
namespace YL
open Y PySem
def nch : List Nat := S "abcdefghijklmnopqrstuvwxyz0123456789-."
def nmT (x : List Nat) : Bool := decide (1 ≤ x.length ∧ x.length ≤ 12) && (x.all (fun c => decide (c ∈ nch)) && (!decide (x = S ".") && !decide (x = S "..")))
def isNm : PV → Bool
  | .str x => nmT x
  | _ => false
theorem nch_ok : ∀ c ∈ nch, c < 1114112 := by decide
theorem is_name_eq {x : List Nat} {s : Sto} (hs : Sm (.str x)) : is_name_M [.str x] s = .ok (.bl (nmT x)) s := by
  refine run_eq rfl (show is_name_b [some (.str x), none] s = _ from ?_)
  unfold is_name_b
  have hl : x.length ≤ sizeLine := sm_line hs
  have hty : O.tyOf (.str x) s = some (.t "str") := rfl
  have hc := len_between (x := E.var 0) (ρ := [some (.str x), none]) (s := s) (v := .str x) (n := x.length) 1 12 rfl (if_pos hl)
  have hc' : (E.chain O.le O.le (E.c (.int 1)) (E.blt O.len1 (E.cons (E.var 0) E.nil)) (E.c (.int 12))) [some (.str x), none] s = _ := hc
  simp only [z_seq, z_ite, t_or, t_not, t_tru, t_val, e_isi, e_var, List.getElem?_cons_zero, ER.bind_ok, isi_t hty, ER.of_some, t_bl, O.subT]
  rw [hc']
  by_cases h1 : 1 ≤ x.length ∧ x.length ≤ 12
  · rw [decide_eq_true h1]
    have key := forP_look (i := 1) (b := Z.ite (T.val (E.bin O.notInY (E.var 1) (E.c (.str (S "abcdefghijklmnopqrstuvwxyz0123456789-."))))) (Z.ret (E.c (.bl false))) (Z.nil)) (s := s)
      (fun p => match p with | .str [c] => decide (c ∈ nch) | _ => false) (fun r => r = .rt (.bl false) s) (fun r k e => by subst e; rfl) (ps := x.map fun c => .str [c]) (ρ := [some (.str x), none]) (by simp) (fun p ρ' hp hl => by
        obtain ⟨c, _, rfl⟩ := List.mem_map.mp hp
        have hg : (ρ'.set 1 (some (PV.str [c])))[1]? = some (some (.str [c])) := List.getElem?_set_self (by rw [hl]; simp)
        simp only [z_ite, t_val, e_bin, e_var, hg, ER.bind_ok, e_c, O.notInY, O.inY, O.notB, ER.of_some]
        show _ ∧ _
        cases hm : decide (c ∈ nch) with
        | true => have hm' : decide (c ∈ S "abcdefghijklmnopqrstuvwxyz0123456789-.") = true := hm; simp [hm']
        | false => have hm' : decide (c ∈ S "abcdefghijklmnopqrstuvwxyz0123456789-.") = false := hm; simp [hm'])
    have e3 : (x.map fun c => PV.str [c]).all (fun p => match p with | .str [c] => decide (c ∈ nch) | _ => false) = x.all (fun c => decide (c ∈ nch)) := by rw [List.all_map]; rfl
    rw [e3] at key
    rcases key with ⟨k1, o, k2⟩ | ⟨k1, k2⟩
    · have hok : okT x = true := List.all_eq_true.mpr fun c hc => decide_eq_true (nch_ok c (of_decide_eq_true (List.all_eq_true.mp k1 c hc)))
      have hd : nmT x = (!decide (x = S ".") && !decide (x = S "..")) := by
        unfold nmT
        rw [decide_eq_true h1, k1]
        rfl
      rw [hd]
      simp [Z.forS, k2, ne_ss hok (okS "."), ne_ss hok (okS "..")]
      by_cases e : x = S "." <;> simp [e, ne_ss hok (okS "."), ne_ss hok (okS "..")]
    · have hd : nmT x = false := by
        unfold nmT
        rw [k1]
        simp
      rw [hd]
      simp [Z.forS, k2]
  · have hd : nmT x = false := by
      unfold nmT
      rw [decide_eq_false h1]
      rfl
    rw [hd, decide_eq_false h1]
    simp
theorem check_names_eq {n : Nat} {xs : List (List Nat)} {s : Sto} (h : s[n]? = some (.lst (xs.map PV.str))) (hs : ∀ x ∈ xs, Sm (.str x)) : check_names_M [.ref n] s = if xs.length ≤ 6 ∧ xs.all nmT = true then .ok .non s else .ex "BadPath" s := by
  have hl1 : O.len1 [.ref n] s = some (.int xs.length, s) := by
    show (match s[n]? with | some (.lst ps) => some (PV.int ps.length, s) | some (.frz ps) => some (.int ps.length, s) | some (.dct kvs) => some (.int kvs.length, s) | _ => none) = _
    rw [h]
    simp
  have hit : Z.items n s = some (xs.map PV.str) := by
    unfold Z.items
    rw [h]
  have key := forL_look (i := 1) (n := n) (b := Z.ite (T.not (T.tru (E.call is_name_M (E.cons (E.var 1) (E.nil))))) (Z.raise "BadPath") (Z.nil)) (s := s) isNm (fun r => ∃ ρ, r = .ex "BadPath" ρ s) (fun r k ⟨ρ, e⟩ => by subst e; rfl) hit
    (f := (xs.map PV.str).length) (j := 0) (ρ := [some (.ref n), none]) (by simp) (by simp) (fun p ρ' hp hl => by
      obtain ⟨x, hx, rfl⟩ := List.mem_map.mp hp
      have hg : (ρ'.set 1 (some (PV.str x)))[1]? = some (some (.str x)) := List.getElem?_set_self (by rw [hl]; simp)
      simp only [z_ite, t_not, t_tru, e_call, e_cons, e_nil, e_var, hg, ER.bind_ok, is_name_eq (hs x hx), t_bl, ER.thenS_ok, isNm]
      cases nmT x <;> simp)
  have e3 : (xs.map PV.str).all isNm = xs.all nmT := by rw [List.all_map]; rfl
  rw [List.drop_zero, e3] at key
  have guard : (Z.ite (T.val (E.bin O.gt (E.blt O.len1 (E.cons (E.var 0) (E.nil))) (E.c (.int 6)))) (Z.raise "BadPath") (Z.nil)) [some (.ref n), none] s = if xs.length ≤ 6 then .nx [some (.ref n), none] s else .ex "BadPath" [some (.ref n), none] s := by
    simp only [z_ite, t_val, e_bin, e_blt, e_cons, e_nil, e_var, List.getElem?_cons_zero, ER.bind_ok, hl1, ER.of_some, e_c, O.gt, ER.thenS_ok]
    by_cases z : xs.length ≤ 6
    · have z' : ¬ (6 : Int) < xs.length := by omega
      rw [decide_eq_false z', if_pos z]
      rfl
    · have z' : (6 : Int) < xs.length := by omega
      rw [decide_eq_true z', if_neg z]
      rfl
  have body : check_names_b [some (.ref n), none] s = ((Z.ite (T.val (E.bin O.gt (E.blt O.len1 (E.cons (E.var 0) (E.nil))) (E.c (.int 6)))) (Z.raise "BadPath") (Z.nil)) [some (.ref n), none] s).next fun ρ s => Z.forV (G.name 1) (E.var 0) (Z.ite (T.not (T.tru (E.call is_name_M (E.cons (E.var 1) (E.nil))))) (Z.raise "BadPath") (Z.nil)) ρ s := rfl
  rw [guard] at body
  by_cases z : xs.length ≤ 6
  · rw [if_pos z, SR.next_nx] at body
    have fv : Z.forV (G.name 1) (E.var 0) (Z.ite (T.not (T.tru (E.call is_name_M (E.cons (E.var 1) (E.nil))))) (Z.raise "BadPath") (Z.nil)) [some (.ref n), none] s = Z.forL (G.name 1) (Z.ite (T.not (T.tru (E.call is_name_M (E.cons (E.var 1) (E.nil))))) (Z.raise "BadPath") (Z.nil)) n (xs.map PV.str).length 0 [some (.ref n), none] s := by
      simp only [Z.forV, e_var, List.getElem?_cons_zero, ER.thenS_ok, hit]
    rw [fv] at body
    rcases key with ⟨k1, o, k2⟩ | ⟨k1, ρ', k2⟩
    · rw [if_pos ⟨z, k1⟩]
      exact run_nx rfl (body.trans k2)
    · rw [if_neg (by rw [k1]; simp)]
      exact run_ex rfl (body.trans k2)
  · rw [if_neg z, SR.next_ex] at body
    rw [if_neg fun q => z q.1]
    exact run_ex rfl body
end YL

set_option Elab.async false
set_option linter.all false
set_option maxRecDepth 100000
set_option maxHeartbeats 4000000
namespace YL
open Y PySem
def parts (x : List Nat) : List (List Nat) := TL.spl [47] 0 [] (x.drop 1)
def namesOk (xs : List (List Nat)) : Bool := decide (xs.length ≤ 6) && xs.all nmT
def pathOk (x : List Nat) : Bool := decide (x.take 1 = [47]) && (decide (x = [47]) || namesOk (parts x))
theorem okT_take {x : List Nat} (h : okT x = true) (k : Nat) : okT (x.take k) = true := List.all_eq_true.mpr fun c hc => List.all_eq_true.mp h c (List.mem_of_mem_take hc)
theorem okT_drop {x : List Nat} (h : okT x = true) (k : Nat) : okT (x.drop k) = true := List.all_eq_true.mpr fun c hc => List.all_eq_true.mp h c (List.mem_of_mem_drop hc)
/-- the parts of a text are no longer than it -/
theorem spl_len : ∀ {x acc : List Nat} {k : Nat} {S0 : List Nat}, ∀ p ∈ TL.spl S0 k acc x, p.length ≤ acc.length + x.length
  | [], acc, 0, S0, p, hp => by
    rw [TL.spl] at hp
    · have : p = acc := by simpa using hp
      subst this; simp
  | [], acc, k + 1, S0, p, hp => by
    rw [TL.spl] at hp
    · have : p = acc := by simpa using hp
      subst this; simp
  | c :: r, acc, 0, S0, p, hp => by
    rw [TL.spl] at hp
    split at hp
    · rcases List.mem_cons.mp hp with z | z
      · subst z; simp
      · have := spl_len p z
        simp at this ⊢
        omega
    · have := spl_len p hp
      simp at this ⊢
      omega
  | c :: r, acc, k + 1, S0, p, hp => by
    rw [TL.spl] at hp
    have := spl_len p hp
    simp at this ⊢
    omega
theorem o_cut_take {x : List Nat} {s : Sto} (hs : x.length ≤ 100000) (k : Nat) : O.slice (.str x) none (some (k : Int)) s = some (.str (x.take k), s) := by
  show (if x.length ≤ sizeLine then some (PV.str (O.cut x none (some (k : Int))), s) else none) = _
  rw [if_pos (sm_line hs), cut_take]
theorem o_cut_drop {x : List Nat} {s : Sto} (hs : x.length ≤ 100000) (k : Nat) : O.slice (.str x) (some (k : Int)) none s = some (.str (x.drop k), s) := by
  show (if x.length ≤ sizeLine then some (PV.str (O.cut x (some (k : Int)) none), s) else none) = _
  rw [if_pos (sm_line hs), cut_drop]
theorem o_split {x : List Nat} {s : Sto} (hs : x.length ≤ 100000) : O.split (.str x) [.str (S "/")] s = some (.ref s.length, s ++ [.lst ((TL.spl [47] 0 [] x).map PV.str)]) := by
  show (if (S "/").length ≠ 0 ∧ x.length + 2 ≤ sizeLine then some (PV.ref s.length, s ++ [SO.lst ((Txt.split ⟨x.toArray⟩ ⟨(S "/").toArray⟩).map fun x => .str (O.toL x))]) else none) = _
  rw [if_pos ⟨by decide, by rw [sizeLine_eq]; omega⟩, split_T (by decide) (by decide)]
  rfl
theorem split_path_eq {x : List Nat} {s : Sto} (hs : x.length ≤ 100000) (hx : okT x = true) : ∃ t, split_path_M [.str x] s = if pathOk x = true then .ok (.ref s.length) (s ++ t) else .ex "BadPath" (s ++ t) := by
  have hty : O.tyOf (.str x) s = some (.t "str") := rfl
  have e1 : S "/" = [47] := rfl
  have b0 : split_path_b [some (.str x), none] s = if x.take 1 = [47] then
      (if x = [47] then SR.rt (.ref s.length) (s ++ [.lst []]) else (Z.seq (Z.drop (E.call check_names_M (E.cons (E.var 1) (E.nil)))) (Z.ret (E.var 1))) [some (.str x), some (.ref s.length)] (s ++ [.lst ((parts x).map PV.str)]))
      else .ex "BadPath" [some (.str x), none] s := by
    unfold split_path_b
    simp only [z_seq, z_ite, t_or, t_not, t_tru, t_val, e_isi, e_var, List.getElem?_cons_zero, ER.bind_ok, isi_t hty, ER.of_some, t_bl, O.subT, e_bin, e_c, E.slice, o_cut_take hs 1]
    have q1 : O.slice (.str x) none (some (1 : Int)) s = some (.str (x.take 1), s) := o_cut_take hs 1
    have q2 : O.slice (.str x) (some (1 : Int)) none s = some (.str (x.drop 1), s) := o_cut_drop hs 1
    have ne : O.ne (.str (x.take 1)) (.str (S "/")) s = some (.bl (!decide (x.take 1 = [47])), s) := ne_ss (okT_take hx 1) (okS "/") s
    have eq : O.eq (.str x) (.str (S "/")) s = some (.bl (decide (x = [47])), s) := eq_ss hx (okS "/") s
    by_cases h1 : x.take 1 = [47]
    · rw [if_pos h1]
      rw [decide_eq_true h1] at ne
      simp only [q1, ER.of_some, ER.bind_ok, ne]
      by_cases h2 : x = [47]
      · rw [decide_eq_true h2] at eq
        rw [if_pos h2]
        simp [eq]
      · rw [decide_eq_false h2] at eq
        rw [if_neg h2]
        have sp : O.split (.str (x.drop 1)) [.str (S "/")] s = some (.ref s.length, s ++ [.lst ((parts x).map PV.str)]) := o_split (by rw [List.length_drop]; omega)
        have hts : O.tyOf (.str (x.drop 1)) s = some (.t "str") := rfl
        simp [-List.drop_one, eq, E.bmT, E.slice, q2, hts, sp]
    · rw [if_neg h1]
      rw [decide_eq_false h1] at ne
      simp [q1, ne]
  by_cases h1 : x.take 1 = [47]
  · rw [if_pos h1] at b0
    by_cases h2 : x = [47]
    · rw [if_pos h2] at b0
      refine ⟨[.lst []], ?_⟩
      rw [if_pos (by unfold pathOk; rw [decide_eq_true h1, decide_eq_true h2]; rfl)]
      exact run_eq rfl b0
    · rw [if_neg h2] at b0
      refine ⟨[.lst ((parts x).map PV.str)], ?_⟩
      have hc : check_names_M [.ref s.length] (s ++ [.lst ((parts x).map PV.str)]) = _ := check_names_eq (xs := parts x) (by simp) fun p hp => by
        have := spl_len p (show p ∈ TL.spl [47] 0 [] (x.drop 1) from hp)
        show p.length ≤ 100000
        simp at this
        omega
      have hp : pathOk x = namesOk (parts x) := by unfold pathOk; rw [decide_eq_true h1, decide_eq_false h2]; rfl
      have e3 : (Z.seq (Z.drop (E.call check_names_M (E.cons (E.var 1) (E.nil)))) (Z.ret (E.var 1))) [some (.str x), some (.ref s.length)] (s ++ [.lst ((parts x).map PV.str)]) =
          ((check_names_M [.ref s.length] (s ++ [.lst ((parts x).map PV.str)])).thenS [some (.str x), some (.ref s.length)] fun _ s1 => .nx [some (.str x), some (.ref s.length)] s1).next fun ρ s => Z.ret (E.var 1) ρ s := rfl
      rw [e3, hc] at b0
      cases hn : namesOk (parts x) with
      | true =>
        have hn' : (parts x).length ≤ 6 ∧ (parts x).all nmT = true := by
          unfold namesOk at hn
          rw [Bool.and_eq_true, decide_eq_true_eq] at hn
          exact hn
        rw [if_pos hn'] at b0
        rw [if_pos (hp.trans hn)]
        exact run_eq rfl b0
      | false =>
        have hn' : ¬ ((parts x).length ≤ 6 ∧ (parts x).all nmT = true) := fun z => by
          unfold namesOk at hn
          rw [decide_eq_true z.1, z.2] at hn
          cases hn
        rw [if_neg hn'] at b0
        rw [if_neg (by rw [hp, hn]; exact Bool.false_ne_true)]
        exact run_ex rfl b0
  · rw [if_neg h1] at b0
    refine ⟨[], ?_⟩
    rw [if_neg (by unfold pathOk; rw [decide_eq_false h1]; exact Bool.false_ne_true), List.append_nil]
    exact run_ex rfl b0
end YL

set_option Elab.async false
set_option linter.all false
set_option maxRecDepth 100000
set_option maxHeartbeats 4000000
namespace YL
open Y PySem
/-- a path text of bounded length -/
def PT (p : PV) : Prop := ∃ x, p = .str x ∧ x.length ≤ 100000 ∧ okT x = true
def pOk : PV → Bool
  | .str x => pathOk x
  | _ => false
theorem split_pv {p : PV} {s : Sto} (h : PT p) : ∃ t, split_path_M [p] s = if pOk p = true then .ok (.ref s.length) (s ++ t) else .ex "BadPath" (s ++ t) := by
  obtain ⟨x, rfl, h1, h2⟩ := h
  exact split_path_eq h1 h2
theorem pt_of {p : PV} (h : isTxt p = true) : PT p := by
  cases p with
  | str x =>
    have h' : (decide (x.length ≤ 200) && x.all chT) = true := h
    rw [Bool.and_eq_true, decide_eq_true_eq] at h'
    exact ⟨x, rfl, by omega, ok_txt h⟩
  | _ => cases h
/-- the paths of a deed -/
def pathsOk : PV → Bool
  | .tup (a :: b :: r) => pOk b && (!two a || (match r with | c :: _ => pOk c | [] => false))
  | _ => false
theorem check_paths_eq {x : List Nat} {b : PV} {r : List PV} {s : Sto} (hb : PT b) (hr : two (.str x) = true → ∃ c r', r = c :: r' ∧ PT c) :
    ∃ t, check_paths_M [.tup (.str x :: b :: r)] s = if pathsOk (.tup (.str x :: b :: r)) = true then .ok .non (s ++ t) else .ex "BadPath" (s ++ t) := by
  obtain ⟨t1, e1⟩ := split_pv (s := s) hb
  have b0 : check_paths_b [some (.tup (.str x :: b :: r))] s = ((split_path_M [b] s).thenS [some (.tup (.str x :: b :: r))] fun _ s1 => .nx [some (.tup (.str x :: b :: r))] s1).next fun ρ s =>
      (Z.ite (T.val (E.bin O.inY (E.bin O.ix (E.var 0) (E.c (.int 0))) (E.c (.tup [.str (S "move"), .str (S "snapshot")])))) (Z.drop (E.call split_path_M (E.cons (E.bin O.ix (E.var 0) (E.c (.int 2))) (E.nil)))) (Z.nil)) ρ s := by
    unfold check_paths_b
    simp only [z_seq, z_drop, e_call, e_cons, e_bin, e_var, List.getElem?_cons_zero, ER.bind_ok, e_c, ix1, ER.of_some, e_nil]
  rw [e1] at b0
  cases hp : pOk b with
  | false =>
    rw [if_neg (by rw [hp]; exact Bool.false_ne_true)] at b0
    refine ⟨t1, ?_⟩
    rw [if_neg (by unfold pathsOk; simp [hp])]
    exact run_ex rfl b0
  | true =>
    rw [if_pos hp, ER.thenS_ok, SR.next_nx] at b0
    simp only [z_ite, t_val, e_bin, e_var, List.getElem?_cons_zero, ER.bind_ok, e_c, ix0, ER.of_some, in2, ER.thenS_ok] at b0
    cases ht : two (.str x) with
    | false =>
      rw [ht, if_neg Bool.false_ne_true] at b0
      refine ⟨t1, ?_⟩
      rw [if_pos (by unfold pathsOk; simp [hp, ht])]
      exact run_nx rfl b0
    | true =>
      obtain ⟨c, r', rfl, hc⟩ := hr ht
      obtain ⟨t2, e2⟩ := split_pv (s := s ++ t1) hc
      rw [ht, if_pos rfl] at b0
      simp only [z_drop, e_call, e_cons, e_bin, e_var, List.getElem?_cons_zero, ER.bind_ok, e_c, ix2, ER.of_some, e_nil, e2] at b0
      refine ⟨t1 ++ t2, ?_⟩
      rw [← List.append_assoc]
      cases hq : pOk c with
      | true =>
        rw [hq, if_pos rfl] at b0
        rw [if_pos (by unfold pathsOk; simp [hp, hq])]
        exact run_nx rfl b0
      | false =>
        rw [hq, if_neg Bool.false_ne_true] at b0
        rw [if_neg (by unfold pathsOk; simp [hp, ht, hq])]
        exact run_ex rfl b0
/-- str(item) -/
def strOf : PV → List Nat
  | .str x => x
  | .int i => S (toString i)
  | _ => []
def due (v : PV) : List Nat := match v with
  | .tup ps => TL.joinL [32] (ps.map strOf)
  | _ => []
theorem form_shape {v : PV} (h : hasForm v = true) : ∃ x b r, v = .tup (.str x :: b :: r) ∧ isTxt (.str x) = true ∧ isTxt b = true ∧ r.length ≤ 1 ∧ (∀ c ∈ r, (isTxt c || isNum c) = true) ∧ (two (.str x) = true → ∃ c r', r = c :: r' ∧ isTxt c = true) := by
  unfold hasForm at h
  rw [Bool.and_eq_true] at h
  obtain ⟨hd, h2⟩ := h
  cases v with
  | tup ps =>
    obtain ⟨⟨l1, l2⟩, x, r, rfl, ha1, hne⟩ := isDeed_hd hd
    match r, h2 with
    | [b], h2 =>
      have h3 : (isTxt b && one (.str x)) = true := h2
      rw [Bool.and_eq_true] at h3
      refine ⟨x, b, [], rfl, ha1, h3.1, by simp, by simp, fun ht => ?_⟩
      have o1 := h3.2
      unfold one at o1
      unfold two at ht
      simp only [Bool.or_eq_true, beq_iff_eq] at o1 ht
      rcases ht with ht | ht <;> subst ht <;> exact absurd o1 (by decide)
    | [b, c], h2 =>
      have h3 : (isTxt b && (!one (.str x) && (if isS "limit" (.str x) = true then isNum c && decide (digs c ≤ 18) else (two (.str x) || isS "append" (.str x)) && isTxt c))) = true := h2
      rw [Bool.and_eq_true, Bool.and_eq_true] at h3
      have h4 := h3.2.2
      refine ⟨x, b, [c], rfl, ha1, h3.1, by simp, fun d hd => ?_, fun ht => ⟨c, [], rfl, ?_⟩⟩
      · have ed : d = c := by simpa using hd
        subst ed
        by_cases el : isS "limit" (.str x) = true
        · rw [if_pos el, Bool.and_eq_true] at h4
          rw [h4.1, Bool.or_true]
        · rw [if_neg el, Bool.and_eq_true] at h4
          rw [h4.2, Bool.true_or]
      by_cases el : isS "limit" (.str x) = true
      · unfold two at ht
        have e : x = S "limit" := of_decide_eq_true el
        subst e
        exact absurd ht (by decide)
      · rw [if_neg el, Bool.and_eq_true] at h4
        exact h4.2
    | [], h2 => cases h2
    | _ :: _ :: _ :: _, h2 => cases h2
  | _ => cases h2
theorem num_nat {c : PV} (h : isNum c = true) : ∃ n : Nat, c = .int n ∧ n ≤ 1000000000000000000 := by
  cases c with
  | int i =>
    have hi : 0 ≤ i ∧ i ≤ 1000000000000000000 := of_decide_eq_true h
    exact ⟨i.toNat, by congr 1; omega, by omega⟩
  | _ => cases h
theorem num_str1 {n : Nat} {s : Sto} (h : n ≤ 1000000000000000000) : O.str1 [.int (n : Int)] s = some (.str (S (toString (n : Int))), s) := by
  refine if_pos ?_
  have h5 : (n : Int).natAbs < 2 ^ 64 := by omega
  by_cases z : (n : Int).natAbs = 0
  · rw [z]; decide
  · have := (Nat.log2_lt z).mpr h5
    omega
theorem str1_item {c : PV} {s : Sto} (h : (isTxt c || isNum c) = true) : O.str1 [c] s = some (.str (strOf c), s) := by
  cases c with
  | str x => rfl
  | int i =>
    have h2 : isNum (.int i) = true := h
    obtain ⟨n, e, hn⟩ := num_nat h2
    cases e
    exact num_str1 hn
  | _ => cases h
theorem strOf_len {c : PV} (h : (isTxt c || isNum c) = true) : (strOf c).length ≤ 200 := by
  cases c with
  | str x =>
    have h1 : (isTxt (.str x) || false) = true := h
    rw [Bool.or_false] at h1
    have h'' : (decide (x.length ≤ 200) && x.all chT) = true := h1
    rw [Bool.and_eq_true, decide_eq_true_eq] at h''
    exact h''.1
  | int i =>
    have h2 : isNum (.int i) = true := h
    obtain ⟨n, e, hn⟩ := num_nat h2
    cases e
    have := (digs_le n 19 (by decide)).mpr (by omega)
    have h3 : (strOf (.int (n : Int))).length = digs (.int (n : Int)) := rfl
    omega
  | _ => cases h
theorem strs_map (ps : List PV) : O.strsOf (ps.map fun p => PV.str (strOf p)) = some (ps.map strOf) := by
  induction ps with
  | nil => rfl
  | cons p ps ih =>
    show (O.strsOf (ps.map fun p => PV.str (strOf p))).map (strOf p :: ·) = _
    rw [ih]
    rfl
theorem format_eq {v : PV} {s : Sto} (h : Bt v s) (hs : ∀ ps, v = .tup ps → ∀ p ∈ ps, BS p s) :
    ∃ t, format_command_M [v] s = if hasForm v = true then (if pathsOk v = true then .ok (.str (due v)) (s ++ t) else .ex "BadPath" (s ++ t)) else .ex "BadCommand" (s ++ t) := by
  have b0 : format_command_b [some v, none] s = (if hasForm v = true then (Z.seq (Z.drop (E.call check_paths_M (E.cons (E.var 0) (E.nil)))) (Z.ret (E.bmT "str" O.join (E.c (.str (S " "))) (E.cons (E.lcV 1 (E.var 0) (T.yes) (E.blt O.str1 (E.cons (E.var 1) (E.nil)))) (E.nil))))) [some v, none] s else SR.ex "BadCommand" [some v, none] s) := by
    unfold format_command_b
    simp only [z_seq, z_ite, t_not, t_tru, e_call, e_cons, e_nil, e_var, List.getElem?_cons_zero, ER.bind_ok, has_form_eq h hs, t_bl]
    cases hasForm v <;> rfl
  cases hf : hasForm v with
  | false =>
    rw [hf, if_neg Bool.false_ne_true] at b0
    refine ⟨[], ?_⟩
    rw [if_neg Bool.false_ne_true, List.append_nil]
    exact run_ex rfl b0
  | true =>
    rw [hf, if_pos rfl] at b0
    simp only [if_true]
    obtain ⟨x, b, r, rfl, hx, hb, hl, hr, h2⟩ := form_shape hf
    obtain ⟨t1, e1⟩ := check_paths_eq (x := x) (b := b) (r := r) (s := s) (pt_of hb) fun ht => let ⟨c, r', e, hc⟩ := h2 ht; ⟨c, r', e, pt_of hc⟩
    have b1 : (Z.drop (E.call check_paths_M (E.cons (E.var 0) E.nil))) [some (.tup (.str x :: b :: r)), none] s = (check_paths_M [.tup (.str x :: b :: r)] s).thenS [some (.tup (.str x :: b :: r)), none] fun _ s1 => .nx [some (.tup (.str x :: b :: r)), none] s1 := rfl
    rw [z_seq, b1, e1] at b0
    cases hp : pathsOk (.tup (.str x :: b :: r)) with
    | false =>
      rw [hp, if_neg Bool.false_ne_true] at b0
      refine ⟨t1, ?_⟩
      rw [if_neg Bool.false_ne_true]
      exact run_ex rfl b0
    | true =>
      rw [hp, if_pos rfl, ER.thenS_ok, SR.next_nx] at b0
      simp only [if_true]
      have hall : ∀ c ∈ (PV.str x :: b :: r), (isTxt c || isNum c) = true := fun c hc => by
        rcases List.mem_cons.mp hc with e | hc
        · rw [e, hx]; rfl
        · rcases List.mem_cons.mp hc with e | hc
          · rw [e, hb]; rfl
          · exact hr c hc
      have hlen : (PV.str x :: b :: r).length ≤ 3 := by simp only [List.length_cons]; omega
      have lc := lcP_map (i := 1) (d := (s ++ t1).length) (e := E.blt O.str1 (E.cons (E.var 1) E.nil)) (fun p => PV.str (strOf p)) (ps := .str x :: b :: r) (ρ := [some (.tup (.str x :: b :: r)), none]) (s := (s ++ t1) ++ [.lst []]) (acc := [])
        (fun p s' hp => by
          show ((ER.ok [p] s').bind fun xs s1 => ER.of (O.str1 xs s1)) = _
          rw [ER.bind_ok, str1_item (hall p hp)]
          rfl) (by simp) (by rw [sizeLine_eq]; simp only [List.length_nil]; omega)
      refine ⟨t1 ++ [.lst ((PV.str x :: b :: r).map fun p => PV.str (strOf p))], ?_⟩
      refine run_eq rfl (b0.trans ?_)
      have e3 : (E.lcV 1 (E.var 0) T.yes (E.blt O.str1 (E.cons (E.var 1) E.nil))) [some (.tup (.str x :: b :: r)), none] (s ++ t1) = lcP 1 T.yes (E.blt O.str1 (E.cons (E.var 1) E.nil)) (s ++ t1).length (.str x :: b :: r) [some (.tup (.str x :: b :: r)), none] ((s ++ t1) ++ [.lst []]) := rfl
      have e4 : ((s ++ t1 ++ [SO.lst []]).set (s ++ t1).length (SO.lst ([] ++ (PV.str x :: b :: r).map fun p => PV.str (strOf p)))) = s ++ (t1 ++ [.lst ((PV.str x :: b :: r).map fun p => PV.str (strOf p))]) := by
        rw [← List.append_assoc, List.set_append_right _ _ (Nat.le_refl _)]
        simp
      have hty : O.tyOf (.str (S " ")) (s ++ t1) = some (.t "str") := rfl
      have hj : O.join (.str (S " ")) [.ref (s ++ t1).length] (s ++ (t1 ++ [.lst ((PV.str x :: b :: r).map fun p => PV.str (strOf p))])) = some (.str (due (.tup (.str x :: b :: r))), s ++ (t1 ++ [.lst ((PV.str x :: b :: r).map fun p => PV.str (strOf p))])) := by
        have hit : O.items (.ref (s ++ t1).length) (s ++ (t1 ++ [.lst ((PV.str x :: b :: r).map fun p => PV.str (strOf p))])) = some ((PV.str x :: b :: r).map fun p => PV.str (strOf p)) := by
          unfold O.items
          rw [← List.append_assoc]
          simp only [last_get]
        have hsum : (((PV.str x :: b :: r).map strOf).map (·.length)).sum + ((PV.str x :: b :: r).map strOf).length * (S " ").length ≤ 16777216 := by
          have i1 := strOf_len (hall _ List.mem_cons_self)
          have i2 := strOf_len (hall b (by simp))
          match r, hl, hall with
          | [], _, _ =>
            simp only [List.map_cons, List.map_nil, List.sum_cons, List.sum_nil, List.length_cons, List.length_nil]
            have : (S " ").length = 1 := by decide
            omega
          | [c], _, hall =>
            have i3 := strOf_len (hall c (by simp))
            simp only [List.map_cons, List.map_nil, List.sum_cons, List.sum_nil, List.length_cons, List.length_nil]
            have : (S " ").length = 1 := by decide
            omega
          | _ :: _ :: _, hl, _ => simp at hl
        exact join_eq hit (strs_map _) hsum
      simp only [z_ret, E.bmT, e_c, ER.bind_ok, hty, if_true, e_cons, e_nil, e3, lc, e4, hj, ER.of_some, ER.thenS_ok]
end YL

set_option Elab.async false
set_option linter.all false
set_option maxRecDepth 100000
set_option maxHeartbeats 4000000
namespace YL
open Y PySem
theorem asked_eq {v : PV} {s : Sto} (h : Bt v s) (hs : ∀ ps, v = .tup ps → ∀ p ∈ ps, BS p s) :
    ∃ t r, l_asked_M [v] s = .ok r (s ++ t) ∧ (if hasForm v = true then (if pathsOk v = true then ∃ n, r = .ref n ∧ (s ++ t)[n]? = some (.lst [.str (due v)]) else r = .str (S "path")) else r = .str (S "command")) := by
  obtain ⟨t, e⟩ := format_eq h hs
  have b0 : (Z.ret (E.lst (E.cons (E.call format_command_M (E.cons (E.var 0) (E.nil))) (E.nil)))) [some v, none] s = ((format_command_M [v] s).bind fun x s1 => (ER.ok [x] s1).bind fun xs s1 => if xs.length ≤ sizeLine then ER.ok (.ref s1.length) (s1 ++ [.lst xs]) else .bad).thenS [some v, none] fun v s1 => .rt v s1 := by
    simp only [z_ret, e_lst, e_cons, e_call, e_var, List.getElem?_cons_zero, ER.bind_ok, e_nil]
    cases format_command_M [v] s <;> rfl
  rw [e] at b0
  have body : l_asked_b [some v, none] s = (match (Z.ret (E.lst (E.cons (E.call format_command_M (E.cons (E.var 0) (E.nil))) (E.nil)))) [some v, none] s with
    | .ex c ρ1 s1 => (match List.lookup c [("HallError", true), ("BadPath", true), ("BadCommand", true)] with
      | some true => Z.wipe 1 (l_asked_su0 c 0 (ρ1.set 1 (some (.con 0))) s1)
      | some false => .ex c ρ1 s1
      | none => .bad)
    | r => r).next fun ρ s => Z.ret (E.c (.str (S "other"))) ρ s := rfl
  rw [b0] at body
  cases hf : hasForm v with
  | false =>
    rw [hf, if_neg Bool.false_ne_true] at body
    refine ⟨t, .str (S "command"), ?_, by rw [if_neg Bool.false_ne_true]⟩
    refine run_eq rfl (body.trans ?_)
    show (Z.wipe 1 (l_asked_su0 "BadCommand" 0 [some v, some (.con 0)] (s ++ t))).next _ = _
    rfl
  | true =>
    rw [hf, if_pos rfl] at body
    cases hp : pathsOk v with
    | false =>
      rw [hp, if_neg Bool.false_ne_true] at body
      refine ⟨t, .str (S "path"), ?_, by rw [if_pos rfl, if_neg Bool.false_ne_true]⟩
      refine run_eq rfl (body.trans ?_)
      show (Z.wipe 1 (l_asked_su0 "BadPath" 0 [some v, some (.con 0)] (s ++ t))).next _ = _
      rfl
    | true =>
      rw [hp, if_pos rfl] at body
      refine ⟨t ++ [.lst [.str (due v)]], .ref (s ++ t).length, ?_, ?_⟩
      · rw [← List.append_assoc]
        refine run_eq rfl (body.trans ?_)
        simp only [ER.bind_ok, List.length_singleton]
        rw [if_pos (by rw [sizeLine_eq]; omega)]
        rfl
      · rw [if_pos rfl, if_pos rfl, ← List.append_assoc]
        exact ⟨_, rfl, by simp⟩

/-! ### what is drawn -/
/-- the pool at p -/
def Pool (s : Sto) (p : Nat) : Prop := ∃ v : Int, 0 ≤ v ∧ (s[p]? = some (.lst [.int 1, .int v]) ∨ (s[p]? = some (.lst [.int 0, .int v]) ∧ v < 2 ^ 80))
theorem Pool.keep {s s' : Sto} {p : Nat} {P : Nat → Prop} (h : Pool s p) (f : Fr P s s') (hp : ¬ P p) : Pool s' p := by
  obtain ⟨v, h0, h1⟩ := h
  rcases h1 with h1 | ⟨h1, h2⟩
  · exact ⟨v, h0, .inl (f.keep _ _ hp h1)⟩
  · exact ⟨v, h0, .inr ⟨f.keep _ _ hp h1, h2⟩⟩
theorem pow18 : ∀ s : Sto, O.pow (.int 10) (.int 18) s = some (.int 1000000000000000000, s) := fun s => by
  show (if (0 : Int) ≤ 18 ∧ (18 : Int) ≤ 1000000 ∧ (10 : Int).natAbs < 2 ^ 64 then some (PV.int ((10 : Int) ^ (18 : Int).toNat), s) else none) = _
  rw [if_pos (by decide)]
  rfl
theorem pow17 : ∀ s : Sto, O.pow (.int 10) (.int 17) s = some (.int 100000000000000000, s) := fun s => by
  show (if (0 : Int) ≤ 17 ∧ (17 : Int) ≤ 1000000 ∧ (10 : Int).natAbs < 2 ^ 64 then some (PV.int ((10 : Int) ^ (17 : Int).toNat), s) else none) = _
  rw [if_pos (by decide)]
  rfl
theorem mul_small {a b : Int} {s : Sto} (ha : a.natAbs < 2 ^ 80) (hb : b.natAbs < 2 ^ 80) : O.mul (.int a) (.int b) s = some (.int (a * b), s) := by
  refine if_pos ?_
  have x := PyProof.Rows.intBits_le ha
  have y := PyProof.Rows.intBits_le hb
  omega
theorem len_frz {ns : List Int} {s : Sto} (h : s[0]? = some (.frz (ns.map PV.int))) : O.len1 [.ref 0] s = some (.int ns.length, s) := by
  show (match s[0]? with | some (.lst ps) => some (PV.int ps.length, s) | some (.frz ps) => some (.int ps.length, s) | some (.dct kvs) => some (.int kvs.length, s) | _ => none) = _
  rw [h]
  simp
theorem ix_frz {ns : List Int} {s : Sto} (h : s[0]? = some (.frz (ns.map PV.int))) {k : Nat} (hk : k < ns.length) : O.ix (.ref 0) (.int k) s = some (.int ns[k], s) := by
  show (match s[0]? with | some (.lst ps) => (L2.atI ps k).map fun v => (v, s) | some (.frz ps) => (L2.atI ps k).map fun v => (v, s) | _ => none) = _
  rw [h]
  show (L2.atI (ns.map PV.int) k).map _ = _
  unfold L2.atI L2.ixN
  rw [if_pos (by omega), if_pos (by simp; omega)]
  simp [hk]
def poolT : SF := (Z.seq (Z.ite (T.val (E.bin O.ge (E.var 2) (E.bin O.pow (E.c (.int 10)) (E.c (.int 18))))) (Z.ret (E.lst (E.cons (E.c (.int 1)) (E.cons (E.bin O.sub (E.var 2) (E.bin O.pow (E.c (.int 10)) (E.c (.int 18)))) (E.nil))))) (Z.nil)) (Z.ret (E.lst (E.cons (E.c (.int 0)) (E.cons (E.bin O.add (E.bin O.mul (E.var 2) (E.c (.int 64))) (E.var 1)) (E.nil))))))
def poolA : SF := (Z.ite (T.val (E.bin O.lt (E.var 1) (E.blt O.len1 (E.cons (E.var 0) (E.nil))))) (Z.asg 2 (E.bin O.ix (E.var 0) (E.var 1))) (Z.nil))
def poolB : SF := (Z.ite (T.val (E.bin O.lt (E.var 2) (E.c (.int 0)))) (Z.asg 2 (E.bin O.sub (E.un O.neg (E.c (.int 1))) (E.var 2))) (Z.nil))
theorem pool_b : l_pool_b = Z.seq (Z.asg 2 (E.c (.int 0))) (Z.seq poolA (Z.seq poolB poolT)) := rfl
theorem pool_start (v w : PV) (s : Sto) : l_pool_b [some v, some w, none] s = (poolA [some v, some w, some (.int 0)] s).next fun ρ s => (poolB ρ s).next fun ρ s => poolT ρ s := by
  rw [pool_b]
  simp only [z_seq, z_asg, e_c, ER.thenS_ok, SR.next_nx, List.set]
  rfl
theorem poolT1 {c k : Int} {s : Sto} (g : (1000000000000000000 : Int) ≤ c) : poolT [some (.ref 0), some (.int k), some (.int c)] s = .rt (.ref s.length) (s ++ [.lst [.int 1, .int (c - 1000000000000000000)]]) := by
  have hsz : (2 : Nat) ≤ sizeLine := by rw [sizeLine_eq]; omega
  unfold poolT
  simp only [z_seq, z_ite, t_val, e_bin, e_var, e_c, ER.bind_ok, List.getElem?_cons_zero, List.getElem?_cons_succ, pow18, ER.of_some, O.ge, decide_eq_true g, ER.thenS_ok, if_true, z_ret, e_lst, e_cons, e_nil, O.sub, List.length_cons, List.length_nil, if_pos hsz, SR.next_rt]
theorem poolT0 {c k : Int} {s : Sto} (g : ¬ (1000000000000000000 : Int) ≤ c) (h0 : 0 ≤ c) : poolT [some (.ref 0), some (.int k), some (.int c)] s = .rt (.ref s.length) (s ++ [.lst [.int 0, .int (c * 64 + k)]]) := by
  have hsz : (2 : Nat) ≤ sizeLine := by rw [sizeLine_eq]; omega
  have hm : O.mul (.int c) (.int 64) s = some (.int (c * 64), s) := mul_small (by omega) (by decide)
  unfold poolT
  simp only [z_seq, z_ite, t_val, e_bin, e_var, e_c, ER.bind_ok, List.getElem?_cons_zero, List.getElem?_cons_succ, pow18, ER.of_some, O.ge, decide_eq_false g, ER.thenS_ok, if_false, Bool.false_eq_true, z_nil, SR.next_nx, z_ret, e_lst, e_cons, e_nil, hm, O.add, List.length_cons, List.length_nil, if_pos hsz]
/-- the pool of a cell: a new list behind -/
theorem pool_wp {ns : List Int} {s : Sto} {k : Nat} (h : s[0]? = some (.frz (ns.map PV.int))) (hk : k ≤ 63) : ∃ a b, l_pool_M [.ref 0, .int k] s = .ok (.ref s.length) (s ++ [.lst [.int a, .int b]]) ∧ 0 ≤ b ∧ (a = 1 ∨ (a = 0 ∧ b < 2 ^ 80)) := by
  have fin : ∀ c : Int, 0 ≤ c → ∃ a b, poolT [some (.ref 0), some (.int k), some (.int c)] s = .rt (.ref s.length) (s ++ [.lst [.int a, .int b]]) ∧ 0 ≤ b ∧ (a = 1 ∨ (a = 0 ∧ b < 2 ^ 80)) := fun c hc => by
    by_cases g : (1000000000000000000 : Int) ≤ c
    · exact ⟨1, c - 1000000000000000000, poolT1 g, by omega, .inl rfl⟩
    · exact ⟨0, c * 64 + k, poolT0 g hc, by omega, .inr ⟨rfl, by omega⟩⟩
  have start : ∃ c : Int, 0 ≤ c ∧ l_pool_b [some (.ref 0), some (.int k), none] s = poolT [some (.ref 0), some (.int k), some (.int c)] s := by
    have neg : ∀ z : Int, ∃ c : Int, 0 ≤ c ∧ poolB [some (.ref 0), some (.int k), some (.int z)] s = .nx [some (.ref 0), some (.int k), some (.int c)] s := fun z => by
      unfold poolB
      by_cases hz : z < 0
      · exact ⟨-1 - z, by omega, by simp [O.lt, hz, O.neg, O.sub]⟩
      · exact ⟨z, by omega, by simp [O.lt, hz]⟩
    by_cases hk2 : k < ns.length
    · obtain ⟨c, hc, e⟩ := neg ns[k]
      refine ⟨c, hc, ?_⟩
      have g : ((k : Int) < (ns.length : Int)) := by omega
      have e1 : poolA [some (.ref 0), some (.int k), some (.int 0)] s = .nx [some (.ref 0), some (.int k), some (.int ns[k])] s := by
        unfold poolA
        simp only [z_ite, t_val, e_bin, e_blt, e_cons, e_nil, e_var, ER.bind_ok, List.getElem?_cons_zero, List.getElem?_cons_succ, len_frz h, ER.of_some, O.lt, decide_eq_true g, ER.thenS_ok, if_true, z_asg, ix_frz h hk2, List.set]
      rw [pool_start, e1, SR.next_nx, e, SR.next_nx]
    · obtain ⟨c, hc, e⟩ := neg 0
      refine ⟨c, hc, ?_⟩
      have g : ¬ ((k : Int) < (ns.length : Int)) := by omega
      have e1 : poolA [some (.ref 0), some (.int k), some (.int 0)] s = .nx [some (.ref 0), some (.int k), some (.int 0)] s := by
        unfold poolA
        simp only [z_ite, t_val, e_bin, e_blt, e_cons, e_nil, e_var, ER.bind_ok, List.getElem?_cons_zero, List.getElem?_cons_succ, len_frz h, ER.of_some, O.lt, decide_eq_false g, ER.thenS_ok, if_false, Bool.false_eq_true, z_nil]
      rw [pool_start, e1, SR.next_nx, e, SR.next_nx]
  obtain ⟨c, hc, e⟩ := start
  obtain ⟨a, b, e2, h2⟩ := fin c hc
  exact ⟨a, b, run_eq rfl (e.trans e2), h2⟩
end YL

set_option Elab.async false
set_option linter.all false
set_option maxRecDepth 100000
set_option maxHeartbeats 4000000
namespace YL
open Y PySem
theorem ixA {s : Sto} {p : Nat} {a b : PV} (h : s[p]? = some (.lst [a, b])) : O.ix (.ref p) (.int 0) s = some (a, s) := by
  show (match s[p]? with | some (.lst ps) => (L2.atI ps 0).map fun v => (v, s) | some (.frz ps) => (L2.atI ps 0).map fun v => (v, s) | _ => none) = _
  rw [h]
  rfl
theorem ixB {s : Sto} {p : Nat} {a b : PV} (h : s[p]? = some (.lst [a, b])) : O.ix (.ref p) (.int 1) s = some (b, s) := by
  show (match s[p]? with | some (.lst ps) => (L2.atI ps 1).map fun v => (v, s) | some (.frz ps) => (L2.atI ps 1).map fun v => (v, s) | _ => none) = _
  rw [h]
  rfl
theorem lsetB {s : Sto} {p : Nat} {a b v : PV} {ρ : Rho} {e : EF} (h : s[p]? = some (.lst [a, b])) (h0 : ρ[0]? = some (some (.ref p))) (he : e ρ s = .ok v s) : Z.lset (E.var 0) (E.c (.int 1)) e ρ s = .nx ρ (s.set p (.lst [a, v])) := by
  unfold Z.lset
  simp only [he, ER.thenS_ok, e_var, h0, e_c, h]
  rfl
theorem mod_pos {a b : Int} {s : Sto} (h : 0 < b) : O.mod (.int a) (.int b) s = some (.int (a % b), s) := if_pos h
theorem log_small {b : Int} (h : b.natAbs < 2 ^ 80) : b.natAbs.log2 < 9000 := by
  by_cases z : b.natAbs = 0
  · rw [z]; decide
  · have := (Nat.log2_lt z).mpr h
    omega
theorem div_pos {a b : Int} {s : Sto} (h : 0 < b) (h2 : b < 2 ^ 80) : O.fdiv (.int a) (.int b) s = some (.int (a / b), s) := if_pos ⟨h, log_small (by omega)⟩
theorem int1_i {a : Int} {s : Sto} : O.int1 [.int a] s = some (.int a, s) := rfl
theorem add_i {a b : Int} {s : Sto} : O.add (.int a) (.int b) s = some (.int (a + b), s) := rfl
theorem next_ok {s : Sto} {p : Nat} {many : Int} (hp : Pool s p) (h0 : 0 < many) (h1 : many < 2 ^ 80) : ∃ d a b, l_next_M [.ref p, .int many] s = .ok (.int d) (s.set p (.lst [.int a, .int b])) ∧ 0 ≤ d ∧ d < many ∧ 0 ≤ b ∧ (a = 1 ∨ (a = 0 ∧ b < 2 ^ 80)) := by
  obtain ⟨v, hv, h | ⟨h, hb⟩⟩ := hp
  · refine ⟨v % many, 1, v / many, ?_, Int.emod_nonneg _ (by omega), Int.emod_lt_of_pos _ h0, Int.ediv_nonneg hv (by omega), .inl rfl⟩
    refine run_eq rfl (show l_next_b [some (.ref p), some (.int many), none] s = _ from ?_)
    unfold l_next_b
    simp only [z_seq, z_ite, t_val, e_bin, e_var, e_c, e_blt, e_cons, e_nil, List.getElem?_cons_zero, List.getElem?_cons_succ, ER.bind_ok, ixA h, ixB h, ER.of_some, eq_ii, decide_true, ER.thenS_ok, if_true, z_asg, int1_i, mod_pos h0, SR.next_nx, List.set]
    rw [lsetB (v := .int (v / many)) h rfl (by simp only [e_bin, e_var, e_c, List.getElem?_cons_zero, List.getElem?_cons_succ, ER.bind_ok, ixB h, ER.of_some, div_pos h0 h1])]
    simp only [SR.next_nx, z_ret, e_var, List.getElem?_cons_zero, List.getElem?_cons_succ, ER.thenS_ok, SR.next_rt]
  · have hm1 : O.mul (.int v) (.int 48271) s = some (.int (v * 48271), s) := mul_small (by omega) (by decide)
    have hw0 : 0 ≤ (v * 48271 + 12345) % 2147483647 := Int.emod_nonneg _ (by decide)
    have hw1 : (v * 48271 + 12345) % 2147483647 < 2147483647 := Int.emod_lt_of_pos _ (by decide)
    generalize hw : (v * 48271 + 12345) % 2147483647 = w at hw0 hw1
    have hs : (s.set p (.lst [.int 0, .int w]))[p]? = some (.lst [.int 0, .int w]) := List.getElem?_set_self (List.getElem?_eq_some_iff.mp h).1
    have hm2 : O.mul (.int w) (.int 69621) (s.set p (.lst [.int 0, .int w])) = some (.int (w * 69621), s.set p (.lst [.int 0, .int w])) := mul_small (by omega) (by decide)
    refine ⟨(w / 16 + w * 69621) % 2147483629 % many, 0, w, ?_, Int.emod_nonneg _ (by omega), Int.emod_lt_of_pos _ h0, hw0, .inr ⟨rfl, by omega⟩⟩
    refine run_eq rfl (show l_next_b [some (.ref p), some (.int many), none] s = _ from ?_)
    unfold l_next_b
    have z01 : decide ((0 : Int) = 1) = false := rfl
    simp only [z_seq, z_ite, t_val, e_bin, e_var, e_c, List.getElem?_cons_zero, List.getElem?_cons_succ, ER.bind_ok, ixA h, ER.of_some, eq_ii, z01, ER.thenS_ok, if_false, Bool.false_eq_true, z_nil, SR.next_nx]
    rw [lsetB (v := .int w) h rfl (by
      have hmod : O.mod (.int (v * 48271 + 12345)) (.int 2147483647) s = some (.int w, s) := by rw [mod_pos (by decide), hw]
      simp only [e_bin, e_var, e_c, e_blt, e_cons, e_nil, List.getElem?_cons_zero, List.getElem?_cons_succ, ER.bind_ok, ixB h, ER.of_some, hm1, add_i, int1_i, hmod])]
    have hd : O.fdiv (.int w) (.int 16) (s.set p (.lst [.int 0, .int w])) = some (.int (w / 16), s.set p (.lst [.int 0, .int w])) := div_pos (by decide) (by decide)
    have hq : O.mod (.int (w / 16 + w * 69621)) (.int 2147483629) (s.set p (.lst [.int 0, .int w])) = some (.int ((w / 16 + w * 69621) % 2147483629), s.set p (.lst [.int 0, .int w])) := mod_pos (by decide)
    simp only [SR.next_nx, z_ret, e_bin, e_var, e_c, e_blt, e_cons, e_nil, List.getElem?_cons_zero, List.getElem?_cons_succ, ER.bind_ok, ixB hs, ER.of_some, hd, hm2, add_i, int1_i, hq, mod_pos h0, ER.thenS_ok]
/-- the same as a rule -/
theorem next_wp {s : Sto} {p : Nat} {many : Int} {Q : PV → Sto → Prop} (hp : Pool s p) (h0 : 0 < many) (h1 : many < 2 ^ 80) (k : ∀ d s', 0 ≤ d → d < many → Pool s' p → s'.length = s.length → Fr (· = p) s s' → Q (.int d) s') : (l_next_M [.ref p, .int many] s).wp Q := by
  obtain ⟨d, a, b, e, hd0, hd1, hb, hab⟩ := next_ok hp h0 h1
  rw [e, wp_ok]
  have hl : p < s.length := by
    obtain ⟨v, _, h | ⟨h, _⟩⟩ := hp <;> exact (List.getElem?_eq_some_iff.mp h).1
  refine k d _ hd0 hd1 ⟨b, hb, ?_⟩ (by simp) (Fr.set rfl)
  rcases hab with rfl | ⟨rfl, h2⟩
  · exact .inl (List.getElem?_set_self hl)
  · exact .inr ⟨List.getElem?_set_self hl, h2⟩
end YL

set_option Elab.async false
set_option linter.all false
set_option maxRecDepth 100000
set_option maxHeartbeats 4000000
namespace YL
open Y PySem
theorem ix_str {z : List Nat} {s : Sto} {d : Int} (hz : z.length ≤ 100000) (h0 : 0 ≤ d) (h1 : d < z.length) : ∃ c ∈ z, O.ix (.str z) (.int d) s = some (.str [c], s) := by
  have hd : d.toNat < z.length := by omega
  refine ⟨z[d.toNat], List.getElem_mem hd, ?_⟩
  show (if z.length ≤ sizeLine then (L2.atI z d).map (fun c => (PV.str [c], s)) else none) = _
  rw [if_pos (sm_line hz)]
  unfold L2.atI L2.ixN
  rw [if_pos h0, if_pos h1]
  simp [hd]
theorem add_s {a b : List Nat} {s : Sto} (h : a.length + b.length ≤ 100000) : O.add (.str a) (.str b) s = some (.str (a ++ b), s) := if_pos (sm_line h)
def tabC : List Nat := S " !\"#$&'()*+,-./0123456789:;<=>?@ABCDEFGHIJKLMNOPQRSTUVWXYZ[\\]^_`" ++ S "abcdefghijklmnopqrstuvwxyz{|}~"
theorem tabC_ok : tabC.all chT = true ∧ tabC.length = 94 := by decide
theorem char_wp {s : Sto} {d : Int} (h0 : 0 ≤ d) (h1 : d < 94) : ∃ c, l_char_M [.int d] s = .ok (.str [c]) s ∧ chT c = true := by
  obtain ⟨c, hc, e⟩ := ix_str (z := tabC) (s := s) (d := d) (by rw [tabC_ok.2]; omega) h0 (by rw [tabC_ok.2]; exact h1)
  refine ⟨c, ?_, List.all_eq_true.mp tabC_ok.1 c hc⟩
  refine run_eq rfl (show l_char_b [some (.int d), none] s = _ from ?_)
  unfold l_char_b
  have ha : O.add (.str (S " !\"#$&'()*+,-./0123456789:;<=>?@ABCDEFGHIJKLMNOPQRSTUVWXYZ[\\]^_`")) (.str (S "abcdefghijklmnopqrstuvwxyz{|}~")) s = some (.str tabC, s) := add_s (by decide)
  simp only [z_seq, z_asg, e_c, ER.thenS_ok, SR.next_nx, List.set, z_ret, e_bin, e_var, List.getElem?_cons_zero, List.getElem?_cons_succ, ER.bind_ok, ha, ER.of_some, e]
/-- an index into a new list -/
theorem ix_new {s t : Sto} {xs : List PV} {n : Nat} {d : Int} (h : s[n]? = some (.lst xs)) (h0 : 0 ≤ d) (h1 : d < xs.length) : ∃ x ∈ xs, O.ix (.ref n) (.int d) s = some (x, s) := by
  have hd : d.toNat < xs.length := by omega
  refine ⟨xs[d.toNat], List.getElem_mem hd, ?_⟩
  show (match s[n]? with | some (.lst ps) => (L2.atI ps d).map fun v => (v, s) | some (.frz ps) => (L2.atI ps d).map fun v => (v, s) | _ => none) = _
  rw [h]
  show (L2.atI xs d).map _ = _
  unfold L2.atI L2.ixN
  rw [if_pos h0, if_pos h1]
  simp [hd]
theorem rep_all {x : List Nat} (h : x.all chT = true) : ∀ n, ((List.replicate n x).flatten).all chT = true
  | 0 => rfl
  | n + 1 => by rw [List.replicate_succ, List.flatten_cons, List.all_append, h, rep_all h n]; rfl
theorem Pool.lt {s : Sto} {p : Nat} (h : Pool s p) : p < s.length := by
  obtain ⟨v, _, h | ⟨h, _⟩⟩ := h <;> exact (List.getElem?_eq_some_iff.mp h).1
/-- what a drawn text is -/
def TxtP (s0 : Sto) (p : Nat) (most : Nat) (v : PV) (s : Sto) : Prop := ∃ x, v = .str x ∧ x.length ≤ most ∧ x.all chT = true ∧ Pool s p ∧ Fr (· = p) s0 s
/-- seven drawn signs -/
theorem seven_wp {s : Sto} {p : Nat} {ρ : Rho} {Q : PV → Sto → Prop} (hp : Pool s p) (h0 : ρ[0]? = some (some (.ref p))) (k : ∀ x s', x.length = 7 → x.all chT = true → Pool s' p → Fr (· = p) s s' → Q (.str x) s') :
    ((E.bmT "str" O.join (E.c (.str (S ""))) (E.cons (E.lcR1 4 (E.cons (E.c (.int 7)) (E.nil)) (T.yes) (E.call l_char_M (E.cons (E.call l_next_M (E.cons (E.var 0) (E.cons (E.c (.int 94)) (E.nil)))) (E.nil)))) (E.nil))) ρ s).wp Q := by
  have hty : O.tyOf (.str (S "")) s = some (.t "str") := rfl
  have lc : ((E.lcR1 4 (E.cons (E.c (.int 7)) (E.nil)) (T.yes) (E.call l_char_M (E.cons (E.call l_next_M (E.cons (E.var 0) (E.cons (E.c (.int 94)) (E.nil)))) (E.nil)))) ρ s).wp (fun v s' => ∃ acc, v = .ref s.length ∧ s'[s.length]? = some (.lst acc) ∧ (∀ y ∈ acc, ∃ x, y = .str x ∧ (∃ c, x = [c] ∧ chT c = true)) ∧ acc.length = 7 ∧ Pool s' p ∧ Fr (· = p) s s') := by
    show (lcP 4 T.yes _ s.length (Z.rng 0 7) ρ (s ++ [.lst []])).wp _
    refine lcP_wp (J := fun s' => Pool s' p ∧ Fr (fun n => n = p ∨ s.length ≤ n) s s') (P := fun y => ∃ x, y = .str x ∧ (∃ c, x = [c] ∧ chT c = true)) (acc := []) ⟨hp.keep (P := fun _ => False) Fr.app (fun z => z), Fr.app⟩ (by simp) (by simp) (by rw [sizeLine_eq]; simp [Z.rng]) (fun q s' A hq hJ hA => ?_) (fun s' a hJ => ?_) fun s' acc' hJ hd hP hl => ?_
    · have hv : (ρ.set 4 (some q))[0]? = some (some (.ref p)) := by rw [List.getElem?_set_ne (by decide)]; exact h0
      simp only [e_call, e_cons, e_nil, e_var, e_c, hv, ER.bind_ok, wp_bind]
      refine next_wp hJ.1 (by decide) (by decide) fun d s2 hd0 hd1 hp2 hl2 hf2 => ?_
      obtain ⟨c, ec, hc⟩ := char_wp (s := s2) hd0 hd1
      simp only [wp_ok, ec]
      refine ⟨⟨[c], rfl, c, rfl, hc⟩, ⟨hp2, hJ.2.trans (hf2.mono fun n e => .inl e)⟩, hf2.keep _ _ (fun z => ?_) hA⟩
      have := hp.lt
      omega
    · have hne : s.length ≠ p := by have := hp.lt; omega
      refine ⟨?_, hJ.2.trans (Fr.set (.inr (Nat.le_refl _)))⟩
      obtain ⟨v, hv, h | ⟨h, hb⟩⟩ := hJ.1
      · exact ⟨v, hv, .inl (by rw [List.getElem?_set_ne hne]; exact h)⟩
      · exact ⟨v, hv, .inr ⟨by rw [List.getElem?_set_ne hne]; exact h, hb⟩⟩
    · exact ⟨acc', rfl, hd, hP, by rw [hl]; simp [Z.rng], hJ.1, Fr.old hJ.2⟩
  obtain ⟨v, s', e, acc, rfl, hd, hP, hl, hp', hf⟩ := ER.wp_ok lc
  obtain ⟨xs, ex, hR, hxl⟩ := strs_of hP
  have hone : ∀ ys : List (List Nat), (∀ x ∈ ys, ∃ c, x = [c] ∧ chT c = true) → ys.flatten.length = ys.length ∧ ys.flatten.all chT = true := fun ys => by
    induction ys with
    | nil => intro _; exact ⟨rfl, rfl⟩
    | cons y ys ih =>
      intro h
      obtain ⟨c, rfl, hc⟩ := h y List.mem_cons_self
      obtain ⟨i1, i2⟩ := ih fun z hz => h z (List.mem_cons_of_mem _ hz)
      exact ⟨by simp [i1], by simp [hc]; simpa using i2⟩
  obtain ⟨g1, g2⟩ := hone xs hR
  have hit : O.items (.ref s.length) s' = some acc := by
    unfold O.items
    simp only [hd]
  have hsum : (xs.map (·.length)).sum + xs.length * (S "").length ≤ 16777216 := by
    have e0 : (S "").length = 0 := rfl
    have e1 : (xs.map (·.length)).sum = xs.flatten.length := by rw [List.length_flatten]
    rw [e0, e1, g1]
    omega
  have hj : O.join (.str (S "")) [.ref s.length] s' = some (.str xs.flatten, s') := by
    rw [join_eq hit ex hsum]
    have e0 : S "" = [] := rfl
    rw [e0, joinL_nil]
  simp only [E.bmT, e_c, ER.bind_ok, hty, if_true, e_cons, e_nil, e, hj, ER.of_some, wp_ok]
  exact k _ _ (by omega) g2 hp' hf
end YL

set_option Elab.async false
set_option linter.all false
set_option maxRecDepth 100000
set_option maxHeartbeats 4000000
namespace YL
open Y PySem
theorem some_text_wp {s : Sto} {p : Nat} {most : Int} {Q : PV → Sto → Prop} (hp : Pool s p) (h0 : 8 ≤ most) (h1 : most ≤ 1000) (k : ∀ x s', x.length ≤ most.toNat → x.all chT = true → Pool s' p → Fr (· = p) s s' → Q (.str x) s') : (l_some_text_M [.ref p, .int most] s).wp Q := by
  refine run_wp rfl (show (l_some_text_b [some (.ref p), some (.int most), none, none, none] s).wp _ _ from ?_)
  unfold l_some_text_b
  refine seq_wp (fun ρ s' => ∃ d, ρ = [some (.ref p), some (.int most), some (.int d), none, none] ∧ 0 ≤ d ∧ d ≤ most ∧ Pool s' p ∧ Fr (· = p) s s') ?_ ?_
  · simp only [z_asg, e_call, e_cons, e_nil, e_var, e_c, List.getElem?_cons_zero, ER.bind_ok, wp_thenS, wp_bind, wp_ok, swp_nx, List.set]
    exact next_wp hp (by decide) (by decide) fun d s' a b c _ f => ⟨d, rfl, a, by omega, c, f⟩
  rintro ρ s1 ⟨d, rfl, hd0, hd1, hp1, f1⟩
  refine seq_wp (fun ρ s' => ∃ d, ρ = [some (.ref p), some (.int most), some (.int d), none, none] ∧ 0 ≤ d ∧ d ≤ most ∧ Pool s' p ∧ Fr (· = p) s s') ?_ ?_
  · simp only [z_ite, t_val, e_bin, e_call, e_cons, e_nil, e_var, e_c, List.getElem?_cons_zero, ER.bind_ok, wp_thenS, wp_bind, wp_ok, z_nil, z_asg]
    refine next_wp hp1 (by decide) (by decide) fun c s2 a b hp2 _ f2 => ?_
    simp only [eq_ii, ER.of_some, ER.bind_ok, wp_ok]
    cases hc : decide (c = 0) with
    | false =>
      simp only [wp_ok, if_false, Bool.false_eq_true, swp_nx]
      exact ⟨d, rfl, hd0, hd1, hp2, f1.trans f2⟩
    | true =>
      simp only [wp_ok, if_true, wp_thenS, wp_bind, e_lst, e_cons, e_nil, e_bin, e_var, e_c, e_call, List.getElem?_cons_zero, List.getElem?_cons_succ, ER.bind_ok, O.sub, add_i, ER.of_some]
      refine next_wp hp2 (by omega) (by omega) fun e s3 e0 e1 hp3 _ f3 => ?_
      have hsz : (3 : Nat) ≤ sizeLine := by rw [sizeLine_eq]; omega
      simp only [wp_ok, List.length_cons, List.length_nil, Nat.zero_add, if_pos hsz]
      have hp4 : Pool (s3 ++ [SO.lst [.int most, .int (most - 1), .int e]]) p := hp3.keep (P := fun _ => False) Fr.app fun z => z
      refine next_wp hp4 (by decide) (by decide) fun g s5 g0 g1 hp5 _ f5 => ?_
      have hl : s5[s3.length]? = some (.lst [.int most, .int (most - 1), .int e]) := f5.keep _ _ (by have := hp3.lt; omega) (by simp)
      obtain ⟨x, hx, ex⟩ := ix_new (t := s5) hl g0 (by simpa using g1)
      have hxi : ∃ z, x = .int z ∧ 0 ≤ z ∧ z ≤ most := by
        simp only [List.mem_cons, List.not_mem_nil, or_false] at hx
        rcases hx with rfl | rfl | rfl
        · exact ⟨_, rfl, by omega, by omega⟩
        · exact ⟨_, rfl, by omega, by omega⟩
        · exact ⟨_, rfl, by omega, by omega⟩
      obtain ⟨z, rfl, z0, z1⟩ := hxi
      simp only [ex, ER.of_some, wp_ok, swp_nx, List.set]
      exact ⟨z, rfl, z0, z1, hp5, (((f1.trans f2).trans f3).trans Fr.app).trans f5⟩
  rintro ρ s2 ⟨d, rfl, hd0, hd1, hp2, f2⟩
  refine seq_wp (fun ρ s' => ∃ x, ρ = [some (.ref p), some (.int most), some (.int d), some (.str x), none] ∧ x.length = 7 ∧ x.all chT = true ∧ Pool s' p ∧ Fr (· = p) s s') ?_ ?_
  · rw [z_asg, wp_thenS]
    exact seven_wp hp2 rfl fun x s' a b c f => .nx ⟨x, rfl, a, b, c, f2.trans f⟩
  rintro ρ s3 ⟨x, rfl, hx7, hxc, hp3, f3⟩
  have hm : O.mul (.str x) (.int 30) s3 = some (.str ((List.replicate 30 x).flatten), s3) := if_pos ⟨by decide, by decide, by omega⟩
  have hlen : ((List.replicate 30 x).flatten).length = 210 := by simp [List.length_flatten, hx7]
  have hd : d = (d.toNat : Int) := by omega
  have hsl : O.slice (.str ((List.replicate 30 x).flatten)) none (some d) s3 = some (.str (((List.replicate 30 x).flatten).take d.toNat), s3) := by
    rw [hd]
    exact o_cut_take (by omega) d.toNat
  simp only [z_ret, E.slice, e_bin, e_var, e_c, List.getElem?_cons_zero, List.getElem?_cons_succ, ER.bind_ok, hm, ER.of_some, hsl, ER.thenS_ok, swp_rt]
  refine k _ _ ?_ ?_ hp3 f3
  · have := List.length_take_le d.toNat ((List.replicate 30 x).flatten)
    omega
  · exact List.all_eq_true.mpr fun c hc => List.all_eq_true.mp (rep_all hxc 30) c (List.mem_of_mem_take hc)
end YL

set_option Elab.async false
set_option linter.all false
set_option maxRecDepth 100000
set_option maxHeartbeats 4000000
namespace YL
open Y PySem
/-- a drawn word -/
theorem word_wp {s : Sto} {p i n : Nat} {ρ : Rho} {e : EF} {a : AF} {C : Nat → Prop} {Q : PV → Sto → Prop} (hp : Pool s p) (hn : n ≤ 1000) (ha : a ρ s = .ok [.int n] s)
    (he : ∀ (q : PV) (s' : Sto), Pool s' p → (e (ρ.set i (some q)) s').wp fun y s'' => (∃ c, y = .str [c] ∧ C c) ∧ Pool s'' p ∧ Fr (· = p) s' s'')
    (k : ∀ x s', x.length = n → (∀ c ∈ x, C c) → Pool s' p → Fr (· = p) s s' → Q (.str x) s') : ((E.bmT "str" O.join (E.c (.str (S ""))) (E.cons (E.lcR1 i a T.yes e) (E.nil))) ρ s).wp Q := by
  have hty : O.tyOf (.str (S "")) s = some (.t "str") := rfl
  have hrng : (Z.rng 0 (n : Int).toNat).length = n := by simp [Z.rng]
  have lc : ((E.lcR1 i a T.yes e) ρ s).wp (fun v s' => ∃ acc, v = .ref s.length ∧ s'[s.length]? = some (.lst acc) ∧ (∀ y ∈ acc, ∃ x, y = .str x ∧ (∃ c, x = [c] ∧ C c)) ∧ acc.length = n ∧ Pool s' p ∧ Fr (· = p) s s') := by
    unfold E.lcR1
    rw [ha]
    simp only [ER.bind_ok]
    rw [if_pos (by omega)]
    refine lcP_wp (J := fun s' => Pool s' p ∧ Fr (fun n => n = p ∨ s.length ≤ n) s s') (P := fun y => ∃ x, y = .str x ∧ (∃ c, x = [c] ∧ C c)) (acc := []) ⟨hp.keep (P := fun _ => False) Fr.app (fun z => z), Fr.app⟩ (by simp) (by simp) (by rw [sizeLine_eq, hrng]; simp only [List.length_nil]; omega) (fun q s' A hq hJ hA => ?_) (fun s' a hJ => ?_) fun s' acc' hJ hd hP hl => ?_
    · refine ER.wp_mono (he q s' hJ.1) fun y s'' ⟨⟨c, ey, hc⟩, hp2, hf2⟩ => ⟨⟨[c], ey, c, rfl, hc⟩, ⟨hp2, hJ.2.trans (hf2.mono fun n e => .inl e)⟩, hf2.keep _ _ (fun z => ?_) hA⟩
      have := hp.lt
      omega
    · have hne : s.length ≠ p := by have := hp.lt; omega
      refine ⟨?_, hJ.2.trans (Fr.set (.inr (Nat.le_refl _)))⟩
      obtain ⟨v, hv, h | ⟨h, hb⟩⟩ := hJ.1
      · exact ⟨v, hv, .inl (by rw [List.getElem?_set_ne hne]; exact h)⟩
      · exact ⟨v, hv, .inr ⟨by rw [List.getElem?_set_ne hne]; exact h, hb⟩⟩
    · exact ⟨acc', rfl, hd, hP, by rw [hl, hrng]; simp, hJ.1, Fr.old hJ.2⟩
  obtain ⟨v, s', ev, acc, rfl, hd, hP, hl, hp', hf⟩ := ER.wp_ok lc
  obtain ⟨xs, ex, hR, hxl⟩ := strs_of hP
  have hone : ∀ ys : List (List Nat), (∀ x ∈ ys, ∃ c, x = [c] ∧ C c) → ys.flatten.length = ys.length ∧ ∀ c ∈ ys.flatten, C c := fun ys => by
    induction ys with
    | nil => intro _; exact ⟨rfl, by simp⟩
    | cons y ys ih =>
      intro h
      obtain ⟨c, rfl, hc⟩ := h y List.mem_cons_self
      obtain ⟨i1, i2⟩ := ih fun z hz => h z (List.mem_cons_of_mem _ hz)
      refine ⟨by simp [i1], fun d hd => ?_⟩
      rw [List.flatten_cons] at hd
      rcases List.mem_append.mp hd with z | z
      · have : d = c := by simpa using z
        subst this; exact hc
      · exact i2 d z
  obtain ⟨g1, g2⟩ := hone xs hR
  have hit : O.items (.ref s.length) s' = some acc := by
    unfold O.items
    simp only [hd]
  have hsum : (xs.map (·.length)).sum + xs.length * (S "").length ≤ 16777216 := by
    have e0 : (S "").length = 0 := rfl
    have e1 : (xs.map (·.length)).sum = xs.flatten.length := by rw [List.length_flatten]
    rw [e0, e1, g1]
    omega
  have hj : O.join (.str (S "")) [.ref s.length] s' = some (.str xs.flatten, s') := by
    rw [join_eq hit ex hsum]
    have e0 : S "" = [] := rfl
    rw [e0, joinL_nil]
  simp only [E.bmT, e_c, ER.bind_ok, hty, if_true, e_cons, e_nil, ev, hj, ER.of_some, wp_ok]
  exact k _ _ (by omega) g2 hp' hf
/-- the text of a path -/
def flat (ns : List (List Nat)) : List Nat := (ns.map (47 :: ·)).flatten
def pathT (ns : List (List Nat)) : List Nat := if ns = [] then [47] else flat ns
theorem nm_len {x : List Nat} (h : nmT x = true) : 1 ≤ x.length ∧ x.length ≤ 12 ∧ ∀ c ∈ x, c ∈ nch := by
  unfold nmT at h
  simp only [Bool.and_eq_true, decide_eq_true_eq] at h
  exact ⟨h.1.1, h.1.2, fun c hc => of_decide_eq_true (List.all_eq_true.mp h.2.1 c hc)⟩
theorem flat_len : ∀ {ns : List (List Nat)}, (∀ n ∈ ns, nmT n = true) → (flat ns).length ≤ 13 * ns.length
  | [], _ => by simp [flat]
  | n :: ns, h => by
    have a := nm_len (h n List.mem_cons_self)
    have b := flat_len (ns := ns) fun m hm => h m (List.mem_cons_of_mem _ hm)
    unfold flat at b ⊢
    simp only [List.map_cons, List.flatten_cons, List.length_append, List.length_cons]
    omega
theorem flat_join : ∀ {ns : List (List Nat)}, ns ≠ [] → flat ns = 47 :: TL.joinL [47] ns
  | [], h => absurd rfl h
  | [n], _ => by simp [flat, TL.joinL]
  | n :: m :: r, _ => by
    have ih := flat_join (ns := m :: r) (by simp)
    unfold flat at ih ⊢
    rw [List.map_cons, List.flatten_cons, ih, TL.joinL]
    simp
theorem nch47 : (47 : Nat) ∉ nch := by decide
theorem nch_chT : ∀ c ∈ nch, chT c = true := by decide
theorem flat_app (ns : List (List Nat)) (n : List Nat) : flat (ns ++ [n]) = flat ns ++ [47] ++ n := by
  unfold flat
  simp
theorem pathT_ok {ns : List (List Nat)} (hl : ns.length ≤ 6) (h : ∀ n ∈ ns, nmT n = true) : pathOk (pathT ns) = true := by
  unfold pathT pathOk
  by_cases e : ns = []
  · rw [if_pos e]; rfl
  · rw [if_neg e, flat_join e]
    have e1 : decide ((47 :: TL.joinL [47] ns).take 1 = [47]) = true := by simp
    have e2 : parts (47 :: TL.joinL [47] ns) = ns := by
      show TL.spl [47] 0 [] (TL.joinL [47] ns) = ns
      exact TL.spl_join e fun n hn hm => nch47 ((nm_len (h n hn)).2.2 _ hm)
    rw [e1, e2]
    unfold namesOk
    rw [decide_eq_true hl, List.all_eq_true.mpr h]
    simp
theorem chT47 : chT 47 = true := by decide
theorem flat_chT : ∀ {ns : List (List Nat)}, (∀ n ∈ ns, nmT n = true) → (flat ns).all chT = true
  | [], _ => rfl
  | n :: ns, h => by
    have b := flat_chT (ns := ns) fun m hm => h m (List.mem_cons_of_mem _ hm)
    unfold flat at b ⊢
    rw [List.map_cons, List.flatten_cons, List.all_append, b, List.all_cons, chT47]
    rw [List.all_eq_true.mpr fun c hc => nch_chT c ((nm_len (h n List.mem_cons_self)).2.2 c hc)]
    rfl
theorem pathT_txt {ns : List (List Nat)} (hl : ns.length ≤ 6) (h : ∀ n ∈ ns, nmT n = true) : (pathT ns).length ≤ 78 ∧ (pathT ns).all chT = true ∧ 1 ≤ (pathT ns).length := by
  unfold pathT
  by_cases e : ns = []
  · rw [if_pos e]; exact ⟨by decide, by decide, by decide⟩
  · rw [if_neg e]
    have := flat_len h
    refine ⟨by omega, flat_chT h, ?_⟩
    rw [flat_join e]
    simp
theorem okT_chT {x : List Nat} (h : x.all chT = true) : okT x = true := List.all_eq_true.mpr fun c hc => by
  have z := List.all_eq_true.mp h c hc
  unfold chT at z
  simp only [Bool.and_eq_true, decide_eq_true_eq] at z
  exact decide_eq_true (by omega)
theorem dot_a {x : List Nat} (h : ∀ c ∈ x, c ∈ nch) (h1 : 1 ≤ x.length) (h2 : x.length ≤ 12) : nmT (if x = S "." ∨ x = S ".." then x ++ S "a" else x) = true := by
  by_cases e : x = S "." ∨ x = S ".."
  · rw [if_pos e]
    rcases e with e | e <;> subst e <;> decide
  · rw [if_neg e]
    unfold nmT
    rw [decide_eq_true ⟨h1, h2⟩, List.all_eq_true.mpr fun c hc => decide_eq_true (h c hc), decide_eq_false fun z => e (.inl z), decide_eq_false fun z => e (.inr z)]
    rfl
end YL

set_option Elab.async false
set_option linter.all false
set_option maxRecDepth 100000
set_option maxHeartbeats 4000000
namespace YL
open Y PySem
theorem flat_okT {ns : List (List Nat)} (h : ∀ n ∈ ns, nmT n = true) : okT (flat ns) = true := okT_chT (flat_chT h)
theorem nch_okT {x : List Nat} (h : ∀ c ∈ x, c ∈ nch) : okT x = true := List.all_eq_true.mpr fun c hc => decide_eq_true (nch_ok c (h c hc))
/-- one word of a path -/
abbrev stepB : SF := (Z.seq (Z.asg 4 (E.bin O.add (E.c (.int 1)) (E.call l_next_M (E.cons (E.var 0) (E.cons (E.c (.int 3)) (E.nil)))))) (Z.seq (Z.ite (T.val (E.bin O.eq (E.call l_next_M (E.cons (E.var 0) (E.cons (E.c (.int 4)) (E.nil)))) (E.c (.int 0)))) (Z.asg 4 (E.bin O.add (E.c (.int 1)) (E.call l_next_M (E.cons (E.var 0) (E.cons (E.c (.int 12)) (E.nil)))))) (Z.nil)) (Z.seq (Z.asg 5 (E.bmT "str" O.join (E.c (.str (S ""))) (E.cons (E.lcR1 6 (E.cons (E.var 4) (E.nil)) (T.yes) (E.bin O.ix (E.var 1) (E.call l_next_M (E.cons (E.var 0) (E.cons (E.c (.int 38)) (E.nil)))))) (E.nil)))) (Z.seq (Z.ite (T.or (T.val (E.bin O.eq (E.var 5) (E.c (.str (S "."))))) (T.val (E.bin O.eq (E.var 5) (E.c (.str (S "..")))))) (Z.asg 5 (E.bin O.add (E.var 5) (E.c (.str (S "a"))))) (Z.nil)) (Z.asg 2 (E.bin O.add (E.bin O.add (E.var 2) (E.c (.str (S "/")))) (E.var 5)))))))
theorem path_b : l_path_b = Z.seq (Z.asg 1 (E.c (.str (S "abcdefghijklmnopqrstuvwxyz0123456789-.")))) (Z.seq (Z.asg 2 (E.c (.str (S "")))) (Z.seq (Z.forR1 (G.name 3) (E.cons (E.call l_next_M (E.cons (E.var 0) (E.cons (E.c (.int 7)) (E.nil)))) (E.nil)) stepB) (Z.seq (Z.ite (T.val (E.bin O.eq (E.var 2) (E.c (.str (S ""))))) (Z.ret (E.c (.str (S "/")))) (Z.nil)) (Z.ret (E.var 2))))) := rfl
def InvP (s0 : Sto) (p j : Nat) (ρ : Rho) (s : Sto) : Prop := ∃ ns v3 v4 v5, ρ = [some (.ref p), some (.str nch), some (.str (flat ns)), v3, v4, v5, none] ∧ ns.length = j ∧ (∀ n ∈ ns, nmT n = true) ∧ Pool s p ∧ Fr (· = p) s0 s
theorem step_wp {s0 s : Sto} {p j : Nat} {ns : List (List Nat)} {v3 v4 v5 : Option PV} {R : PV → Sto → Prop} (hj : j ≤ 6) (hn : ns.length = j) (hns : ∀ n ∈ ns, nmT n = true) (hp : Pool s p) (f : Fr (· = p) s0 s) :
    (stepB [some (.ref p), some (.str nch), some (.str (flat ns)), v3, v4, v5, none] s).wp (InvP s0 p (j + 1)) R := by
  refine seq_wp (fun ρ s' => ∃ d : Nat, ρ = [some (.ref p), some (.str nch), some (.str (flat ns)), v3, some (.int d), v5, none] ∧ 1 ≤ d ∧ d ≤ 12 ∧ Pool s' p ∧ Fr (· = p) s0 s') ?_ ?_
  · simp only [z_asg, e_bin, e_call, e_cons, e_nil, e_var, e_c, List.getElem?_cons_zero, ER.bind_ok, wp_thenS, wp_bind, wp_ok]
    refine next_wp hp (by decide) (by decide) fun d s' a b c _ f' => ?_
    simp only [add_i, ER.of_some, wp_ok, swp_nx, List.set]
    exact ⟨(1 + d).toNat, by rw [show ((1 + d).toNat : Int) = 1 + d by omega], by omega, by omega, c, f.trans f'⟩
  rintro ρ s1 ⟨d, rfl, hd0, hd1, hp1, f1⟩
  refine seq_wp (fun ρ s' => ∃ d : Nat, ρ = [some (.ref p), some (.str nch), some (.str (flat ns)), v3, some (.int d), v5, none] ∧ 1 ≤ d ∧ d ≤ 12 ∧ Pool s' p ∧ Fr (· = p) s0 s') ?_ ?_
  · simp only [z_ite, t_val, e_bin, e_call, e_cons, e_nil, e_var, e_c, List.getElem?_cons_zero, ER.bind_ok, wp_thenS, wp_bind, wp_ok, z_nil, z_asg]
    refine next_wp hp1 (by decide) (by decide) fun c s2 a b hp2 _ f2 => ?_
    simp only [eq_ii, ER.of_some, ER.bind_ok, wp_ok]
    cases hc : decide (c = 0) with
    | false =>
      simp only [wp_ok, if_false, Bool.false_eq_true, swp_nx]
      exact ⟨d, rfl, hd0, hd1, hp2, f1.trans f2⟩
    | true =>
      simp only [wp_ok, if_true, wp_thenS, wp_bind]
      refine next_wp hp2 (by decide) (by decide) fun e s3 e0 e1 hp3 _ f3 => ?_
      simp only [add_i, ER.of_some, wp_ok, swp_nx, List.set]
      exact ⟨(1 + e).toNat, by rw [show ((1 + e).toNat : Int) = 1 + e by omega], by omega, by omega, hp3, (f1.trans f2).trans f3⟩
  rintro ρ s2 ⟨d, rfl, hd0, hd1, hp2, f2⟩
  refine seq_wp (fun ρ s' => ∃ x, ρ = [some (.ref p), some (.str nch), some (.str (flat ns)), v3, some (.int d), some (.str x), none] ∧ x.length = d ∧ (∀ c ∈ x, c ∈ nch) ∧ Pool s' p ∧ Fr (· = p) s0 s') ?_ ?_
  · rw [z_asg, wp_thenS]
    refine word_wp (C := fun c => c ∈ nch) hp2 (show d ≤ 1000 by omega) rfl (fun q s' hq => ?_) fun x s' a b c f => .nx ⟨x, rfl, a, b, c, f2.trans f⟩
    simp only [List.set, e_bin, e_call, e_cons, e_nil, e_var, e_c, List.getElem?_cons_zero, List.getElem?_cons_succ, ER.bind_ok, wp_bind, wp_ok]
    refine next_wp hq (by decide) (by decide) fun g s3 g0 g1 hp3 _ f3 => ?_
    obtain ⟨c, hc, ec⟩ := ix_str (z := nch) (s := s3) (d := g) (by decide) g0 (by rw [show nch.length = 38 by decide]; omega)
    simp only [ec, ER.of_some, wp_ok]
    exact ⟨⟨c, rfl, hc⟩, hp3, f3⟩
  rintro ρ s3 ⟨x, rfl, hx, hxc, hp3, f3⟩
  have hok := nch_okT hxc
  refine seq_wp (fun ρ s' => ∃ x, ρ = [some (.ref p), some (.str nch), some (.str (flat ns)), v3, some (.int d), some (.str x), none] ∧ nmT x = true ∧ Pool s' p ∧ Fr (· = p) s0 s') ?_ ?_
  · have hd := dot_a hxc (by omega) (by omega)
    have hadd : O.add (.str x) (.str (S "a")) s3 = some (.str (x ++ S "a"), s3) := add_s (by rw [show (S "a").length = 1 by decide]; omega)
    simp only [z_ite, t_or, t_val, e_bin, e_var, e_c, List.getElem?_cons_zero, List.getElem?_cons_succ, ER.bind_ok, eq_ss hok (okS "."), eq_ss hok (okS ".."), ER.of_some, z_asg, hadd, z_nil]
    by_cases e1 : x = S "."
    · rw [if_pos (.inl e1)] at hd
      rw [decide_eq_true e1]
      simp only [ER.bind_ok, if_true, ER.thenS_ok, hadd, ER.of_some, List.set]
      exact .nx ⟨x ++ S "a", rfl, hd, hp3, f3⟩
    · by_cases e2 : x = S ".."
      · rw [decide_eq_false e1, decide_eq_true e2]
        rw [if_pos (.inr e2)] at hd
        simp only [ER.bind_ok, if_true, if_false, Bool.false_eq_true, ER.thenS_ok, hadd, ER.of_some, List.set]
        exact .nx ⟨x ++ S "a", rfl, hd, hp3, f3⟩
      · rw [decide_eq_false e1, decide_eq_false e2]
        rw [if_neg (fun z => z.elim e1 e2)] at hd
        simp only [ER.bind_ok, if_false, Bool.false_eq_true, ER.thenS_ok]
        exact .nx ⟨x, rfl, hd, hp3, f3⟩
  rintro ρ s4 ⟨y, rfl, hy, hp4, f4⟩
  have hl := flat_len hns
  have hyl := nm_len hy
  have h1 : O.add (.str (flat ns)) (.str (S "/")) s4 = some (.str (flat ns ++ [47]), s4) := add_s (by rw [show (S "/").length = 1 by decide]; omega)
  have h2 : O.add (.str (flat ns ++ [47])) (.str y) s4 = some (.str (flat ns ++ [47] ++ y), s4) := add_s (by rw [List.length_append, List.length_singleton]; omega)
  simp only [z_asg, e_bin, e_var, e_c, List.getElem?_cons_zero, List.getElem?_cons_succ, ER.bind_ok, h1, h2, ER.of_some, ER.thenS_ok, swp_nx, List.set]
  refine ⟨ns ++ [y], v3, some (.int d), some (.str y), by rw [flat_app], by simp [hn], fun n hm => ?_, hp4, f4⟩
  rcases List.mem_append.mp hm with z | z
  · exact hns n z
  · have : n = y := by simpa using z
    subst this; exact hy
theorem path_wp {s : Sto} {p : Nat} {Q : PV → Sto → Prop} (hp : Pool s p) (k : ∀ ns s', ns.length ≤ 6 → (∀ n ∈ ns, nmT n = true) → Pool s' p → Fr (· = p) s s' → Q (.str (pathT ns)) s') : (l_path_M [.ref p] s).wp Q := by
  refine run_wp rfl (show (l_path_b [some (.ref p), none, none, none, none, none, none] s).wp _ _ from ?_)
  rw [path_b]
  simp only [z_seq, z_asg, e_c, ER.thenS_ok, SR.next_nx, List.set]
  refine seq_wp (a := Z.forR1 _ _ _) (fun ρ s' => ∃ j, j ≤ 6 ∧ InvP s p j ρ s') ?_ ?_
  · unfold Z.forR1
    simp only [e_cons, e_nil, e_call, e_var, e_c, List.getElem?_cons_zero, ER.bind_ok, wp_thenS, wp_bind, wp_ok]
    refine next_wp hp (by decide) (by decide) fun d s1 d0 d1 hp1 _ f1 => ?_
    simp only [wp_ok]
    rw [if_pos (by omega)]
    have hr : (Z.rng 0 d.toNat).length = d.toNat := by simp [Z.rng]
    refine forP_wp2 (fun j ρ s' => InvP s p j ρ s') ⟨[], none, none, none, rfl, rfl, by simp, hp1, f1⟩ (fun i q ρ s' hq hI => ?_) fun ρ s' hI => ⟨d.toNat, by omega, by rw [hr] at hI; exact hI⟩
    obtain ⟨ns, v3, v4, v5, rfl, hn, hns, hp', f'⟩ := hI
    have hi : i < (Z.rng 0 d.toNat).length := (List.getElem?_eq_some_iff.mp hq).1
    exact ⟨_, s', rfl, step_wp (by omega) hn hns hp' f'⟩
  rintro ρ s1 ⟨j, hj, ns, v3, v4, v5, rfl, hn, hns, hp1, f1⟩
  have hok := flat_okT hns
  simp only [z_seq, z_ite, t_val, e_bin, e_var, e_c, List.getElem?_cons_zero, List.getElem?_cons_succ, ER.bind_ok, eq_ss hok (okS ""), ER.of_some, z_ret, z_nil, ER.thenS_ok]
  have e0 : S "" = [] := rfl
  have e1 : S "/" = [47] := rfl
  have kk := k ns s1 (by omega) hns hp1 f1
  unfold pathT at kk
  by_cases e : ns = []
  · rw [if_pos e] at kk
    have ez : flat ns = [] := by rw [e]; rfl
    rw [e0, decide_eq_true ez]
    simp only [if_true, ER.bind_ok, ER.thenS_ok, SR.next_rt]
    exact .rt kk
  · rw [if_neg e] at kk
    have ne : ¬ flat ns = [] := by rw [flat_join e]; simp
    rw [e0, decide_eq_false ne]
    simp only [if_false, Bool.false_eq_true, ER.bind_ok, ER.thenS_ok, SR.next_nx]
    exact .rt kk
end YL

set_option Elab.async false
set_option linter.all false
set_option maxRecDepth 100000
set_option maxHeartbeats 4000000
namespace YL
open Y PySem
theorem pre47 {c : Nat} {r : List Nat} (h : TL.pre [47] (c :: r) = true) : c = 47 := by
  have e := eq_of_beq h
  simpa using e
theorem spl_has {o : Nat} (ho : o ≠ 47) : ∀ {y acc : List Nat}, (o ∈ acc ∨ o ∈ y) → ∃ q ∈ TL.spl [47] 0 acc y, o ∈ q
  | [], acc, h => by
    rw [TL.spl]
    exact ⟨acc, by simp, by simpa using h⟩
  | c :: r, acc, h => by
    rw [TL.spl]
    split
    · rename_i hp
      have hc := pre47 hp
      rcases h with h | h
      · exact ⟨acc, List.mem_cons_self, h⟩
      · have hr : o ∈ r := by
          rcases List.mem_cons.mp h with z | z
          · exact absurd (z.trans hc) ho
          · exact z
        obtain ⟨q, h1, h2⟩ := spl_has ho (y := r) (acc := []) (.inr hr)
        exact ⟨q, List.mem_cons_of_mem _ h1, h2⟩
    · refine spl_has ho ?_
      rcases h with h | h
      · exact .inl (by simp [h])
      · rcases List.mem_cons.mp h with z | z
        · exact .inl (by simp [z])
        · exact .inr z
theorem bad_part {x : List Nat} (hx : x ≠ [47]) (h : ∃ q ∈ parts x, nmT q = false) : pathOk x = false := by
  obtain ⟨q, h1, h2⟩ := h
  have e : namesOk (parts x) = false := by
    unfold namesOk
    have : (parts x).all nmT = false := by
      cases z : (parts x).all nmT with
      | false => rfl
      | true =>
        have := List.all_eq_true.mp z q h1
        rw [h2] at this
        cases this
    rw [this, Bool.and_false]
  unfold pathOk
  rw [decide_eq_false hx, e]
  simp
theorem nm_nil : nmT [] = false := by decide
theorem spl_end : ∀ {y acc : List Nat}, [] ∈ TL.spl [47] 0 acc (y ++ [47])
  | [], acc => by
    show [] ∈ TL.spl [47] 0 acc [47]
    rw [TL.spl]
    have : TL.pre [47] [47] = true := rfl
    rw [if_pos this]
    show [] ∈ acc :: TL.spl [47] 0 [] []
    rw [TL.spl]
    · simp
    
  | c :: r, acc => by
    show [] ∈ TL.spl [47] 0 acc (c :: (r ++ [47]))
    rw [TL.spl]
    split
    · exact List.mem_cons_of_mem _ (spl_end (y := r) (acc := []))
    · exact spl_end (y := r)
def oddC : List Nat := S " !\"#$&'()*+,:;<=>?@ABCDEFGHIJKLMNOPQRSTUVWXYZ[\\]^_`{|}~"
theorem oddC_ok : oddC.length = 55 ∧ oddC.all (fun c => chT c && (!decide (c ∈ nch) && !decide (c = 47))) = true := by decide
theorem odd_bad {a b : List Nat} {o : Nat} (ho : o ∈ oddC) : pathOk (47 :: a ++ [o] ++ b) = false := by
  have h := List.all_eq_true.mp oddC_ok.2 o ho
  simp only [Bool.and_eq_true, Bool.not_eq_true', decide_eq_false_iff_not] at h
  refine bad_part (fun z => ?_) ?_
  · have := congrArg List.length z
    simp at this
  · obtain ⟨q, h1, h2⟩ := spl_has h.2.2 (y := a ++ [o] ++ b) (acc := []) (.inr (by simp))
    refine ⟨q, h1, ?_⟩
    cases z : nmT q with
    | false => rfl
    | true => exact absurd ((nm_len z).2.2 o h2) h.2.1
theorem pathT_hd (ns : List (List Nat)) : ∃ y, pathT ns = 47 :: y ∧ (ns = [] → y = []) ∧ (ns ≠ [] → y = TL.joinL [47] ns) := by
  unfold pathT
  by_cases e : ns = []
  · rw [if_pos e]; exact ⟨[], rfl, fun _ => rfl, fun z => absurd e z⟩
  · rw [if_neg e, flat_join e]; exact ⟨_, rfl, fun z => absurd z e, fun _ => rfl⟩
theorem cut_bad {ns : List (List Nat)} (h : ∀ n ∈ ns, nmT n = true) : pathOk ((pathT ns).drop 1) = false := by
  obtain ⟨y, e, h1, h2⟩ := pathT_hd ns
  rw [e]
  show pathOk y = false
  cases ns with
  | nil => rw [h1 rfl]; decide
  | cons n r =>
    have hn := nm_len (h n List.mem_cons_self)
    rw [h2 (by simp)]
    have : ∃ c t, TL.joinL [47] (n :: r) = c :: t ∧ c ∈ n := by
      cases n with
      | nil => simp at hn
      | cons c t =>
        cases r with
        | nil => exact ⟨c, t, rfl, by simp⟩
        | cons m r => exact ⟨c, t ++ ([47] ++ TL.joinL [47] (m :: r)), rfl, by simp⟩
    obtain ⟨c, t, e2, hc⟩ := this
    rw [e2]
    unfold pathOk
    have : ¬ (c :: t).take 1 = [47] := fun z => by
      have : c = 47 := by simpa using z
      subst this
      exact nch47 (hn.2.2 _ hc)
    rw [decide_eq_false this]
    rfl
theorem app_bad (ns : List (List Nat)) : pathOk (pathT ns ++ [47]) = false := by
  obtain ⟨y, e, _⟩ := pathT_hd ns
  rw [e]
  refine bad_part (fun z => ?_) ⟨[], spl_end (y := y), nm_nil⟩
  have := congrArg List.length z
  simp at this
theorem txt_of {x : List Nat} (h : x.length ≤ 200) (h2 : x.all chT = true) : isTxt (.str x) = true := by
  show (decide (x.length ≤ 200) && x.all chT) = true
  rw [decide_eq_true h, h2]
  rfl
end YL

set_option Elab.async false
set_option linter.all false
set_option maxRecDepth 100000
set_option maxHeartbeats 4000000
namespace YL
open Y PySem
theorem bad_path_wp {s : Sto} {p : Nat} {Q : PV → Sto → Prop} (hp : Pool s p) (k : ∀ x s', isTxt (.str x) = true → pathOk x = false → Pool s' p → Fr (· = p) s s' → Q (.str x) s') : (l_bad_path_M [.ref p] s).wp Q := by
  refine run_wp rfl (show (l_bad_path_b [some (.ref p), none, none, none, none] s).wp _ _ from ?_)
  unfold l_bad_path_b
  refine seq_wp (fun ρ s' => ∃ ns, ρ = [some (.ref p), some (.str (pathT ns)), none, none, none] ∧ ns.length ≤ 6 ∧ (∀ n ∈ ns, nmT n = true) ∧ Pool s' p ∧ Fr (· = p) s s') ?_ ?_
  · simp only [z_asg, e_call, e_cons, e_nil, e_var, List.getElem?_cons_zero, ER.bind_ok, wp_thenS, wp_bind, wp_ok]
    exact path_wp hp fun ns s' a b c f => .nx ⟨ns, rfl, a, b, c, f⟩
  rintro ρ s1 ⟨ns, rfl, hl, hns, hp1, f1⟩
  obtain ⟨x1, x2, x3⟩ := pathT_txt hl hns
  refine seq_wp (fun ρ s' => ∃ d, ρ = [some (.ref p), some (.str (pathT ns)), some (.int d), none, none] ∧ 0 ≤ d ∧ d < 8 ∧ Pool s' p ∧ Fr (· = p) s s') ?_ ?_
  · simp only [z_asg, e_call, e_cons, e_nil, e_var, e_c, List.getElem?_cons_zero, ER.bind_ok, wp_thenS, wp_bind, wp_ok]
    exact next_wp hp1 (by decide) (by decide) fun d s' a b c _ f => .nx ⟨d, rfl, a, b, c, f1.trans f⟩
  rintro ρ s2 ⟨d, rfl, hd0, hd1, hp2, f2⟩
  have e47 : S "/" = [47] := rfl
  have hsz8 : (8 : Nat) ≤ sizeLine := by rw [sizeLine_eq]; omega
  by_cases d0 : d = 0
  · subst d0
    have q2 : O.slice (.str (pathT ns)) (some (1 : Int)) none s2 = some (.str ((pathT ns).drop 1), s2) := o_cut_drop (by omega) 1
    simp only [z_seq, z_ite, t_val, e_bin, e_var, e_c, List.getElem?_cons_zero, List.getElem?_cons_succ, ER.bind_ok, ER.of_some, eq_ii, decide_true, ER.thenS_ok, if_true, z_ret, E.slice, q2, SR.next_rt]
    exact .rt (k _ _ (txt_of (by rw [List.length_drop]; omega) (List.all_eq_true.mpr fun c hc => List.all_eq_true.mp x2 c (List.mem_of_mem_drop hc))) (cut_bad hns) hp2 f2)
  by_cases d1 : d = 1
  · subst d1
    have q2 : O.add (.str (pathT ns)) (.str (S "/")) s2 = some (.str (pathT ns ++ [47]), s2) := add_s (by rw [show (S "/").length = 1 by decide]; omega)
    simp only [z_seq, z_ite, t_val, e_bin, e_var, e_c, List.getElem?_cons_zero, List.getElem?_cons_succ, ER.bind_ok, ER.of_some, eq_ii, Int.reduceEq, decide_true, decide_false, ER.thenS_ok, if_true, if_false, Bool.false_eq_true, z_nil, SR.next_nx, z_ret, q2, SR.next_rt]
    exact .rt (k _ _ (txt_of (by rw [List.length_append, List.length_singleton]; omega) (by rw [List.all_append, x2]; rfl)) (app_bad ns) hp2 f2)
  by_cases d2 : d = 2
  · subst d2
    simp only [z_seq, z_ite, t_val, e_bin, e_var, e_c, List.getElem?_cons_zero, List.getElem?_cons_succ, ER.bind_ok, ER.of_some, eq_ii, Int.reduceEq, decide_true, decide_false, ER.thenS_ok, if_true, if_false, Bool.false_eq_true, z_nil, SR.next_nx, z_ret, e_lst, e_cons, e_nil, List.length_cons, List.length_nil, Nat.zero_add, Nat.reduceAdd, if_pos hsz8, e_call, swp_next, wp_thenS, wp_bind, wp_ok]
    have hp3 : Pool (s2 ++ [SO.lst [.str (S ""), .str (S "//"), .str (S "/."), .str (S "/.."), .str (S "a"), .str (S "/a//b"), .str (S "/a/./b"), .str (S "/a/..")]]) p := hp2.keep (P := fun _ => False) Fr.app fun z => z
    refine next_wp hp3 (by decide) (by decide) fun g s5 g0 g1 hp5 _ f5 => ?_
    have hl5 : s5[s2.length]? = some (.lst [.str (S ""), .str (S "//"), .str (S "/."), .str (S "/.."), .str (S "a"), .str (S "/a//b"), .str (S "/a/./b"), .str (S "/a/..")]) := f5.keep _ _ (by have := hp2.lt; omega) (by simp)
    obtain ⟨x, hx, ex⟩ := ix_new (t := s5) hl5 g0 (by simpa using g1)
    simp only [ex, ER.of_some, wp_ok, swp_rt]
    simp only [List.mem_cons, List.not_mem_nil, or_false] at hx
    have ff := (f2.trans Fr.app).trans f5
    rcases hx with rfl | rfl | rfl | rfl | rfl | rfl | rfl | rfl
    all_goals exact k _ _ (by decide) (by decide +kernel) hp5 ff
  by_cases d3 : d = 3
  · subst d3
    simp only [z_seq, z_ite, t_val, e_bin, e_var, e_c, List.getElem?_cons_zero, List.getElem?_cons_succ, ER.bind_ok, ER.of_some, eq_ii, Int.reduceEq, decide_true, decide_false, ER.thenS_ok, if_true, if_false, Bool.false_eq_true, z_nil, SR.next_nx, z_ret, e_cons, e_nil, e_call, swp_next, wp_thenS, wp_bind, wp_ok]
    refine next_wp hp2 (by decide) (by decide) fun g s5 g0 g1 hp5 _ f5 => ?_
    have hm : O.mul (.str (S "/a")) (.int (7 + g)) s5 = some (.str ((List.replicate (7 + g).toNat (S "/a")).flatten), s5) := if_pos ⟨by omega, by omega, by decide⟩
    simp only [add_i, hm, ER.of_some, wp_ok, swp_rt]
    have hg : g = 0 ∨ g = 1 ∨ g = 2 := by omega
    rcases hg with rfl | rfl | rfl
    all_goals exact k _ _ (by decide) (by decide +kernel) hp5 (f2.trans f5)
  by_cases d4 : d = 4
  · subst d4
    simp only [z_seq, z_ite, t_val, e_bin, e_var, e_c, List.getElem?_cons_zero, List.getElem?_cons_succ, ER.bind_ok, ER.of_some, eq_ii, Int.reduceEq, decide_true, decide_false, ER.thenS_ok, if_true, if_false, Bool.false_eq_true, z_nil, SR.next_nx, z_ret, e_cons, e_nil, e_call, E.slice, swp_next, wp_thenS, wp_bind, wp_ok]
    refine next_wp hp2 (by decide) (by decide) fun g s5 g0 g1 hp5 _ f5 => ?_
    have hg : g = 0 ∨ g = 1 ∨ g = 2 := by omega
    rcases hg with rfl | rfl | rfl
    · have q : O.slice (.str (S "abcdefghijklmnop")) none (some (13 + 0)) s5 = some (.str ((S "abcdefghijklmnop").take 13), s5) := o_cut_take (by decide) 13
      have q2 : O.add (.str (S "/")) (.str ((S "abcdefghijklmnop").take 13)) s5 = some (.str (S "/" ++ (S "abcdefghijklmnop").take 13), s5) := add_s (by decide)
      simp only [add_i, q, q2, ER.of_some, ER.bind_ok, wp_ok, swp_rt]
      exact k _ _ (by decide) (by decide +kernel) hp5 (f2.trans f5)
    · have q : O.slice (.str (S "abcdefghijklmnop")) none (some (13 + 1)) s5 = some (.str ((S "abcdefghijklmnop").take 14), s5) := o_cut_take (by decide) 14
      have q2 : O.add (.str (S "/")) (.str ((S "abcdefghijklmnop").take 14)) s5 = some (.str (S "/" ++ (S "abcdefghijklmnop").take 14), s5) := add_s (by decide)
      simp only [add_i, q, q2, ER.of_some, ER.bind_ok, wp_ok, swp_rt]
      exact k _ _ (by decide) (by decide +kernel) hp5 (f2.trans f5)
    · have q : O.slice (.str (S "abcdefghijklmnop")) none (some (13 + 2)) s5 = some (.str ((S "abcdefghijklmnop").take 15), s5) := o_cut_take (by decide) 15
      have q2 : O.add (.str (S "/")) (.str ((S "abcdefghijklmnop").take 15)) s5 = some (.str (S "/" ++ (S "abcdefghijklmnop").take 15), s5) := add_s (by decide)
      simp only [add_i, q, q2, ER.of_some, ER.bind_ok, wp_ok, swp_rt]
      exact k _ _ (by decide) (by decide +kernel) hp5 (f2.trans f5)
  simp only [z_seq, z_ite, t_val, e_bin, e_var, e_c, List.getElem?_cons_zero, List.getElem?_cons_succ, ER.bind_ok, ER.of_some, eq_ii, decide_eq_false d0, decide_eq_false d1, decide_eq_false d2, decide_eq_false d3, decide_eq_false d4, ER.thenS_ok, if_false, Bool.false_eq_true, z_nil, SR.next_nx, z_asg, e_call, e_cons, e_nil, swp_next, wp_thenS, wp_bind, wp_ok]
  refine next_wp hp2 (by decide) (by decide) fun g s5 g0 g1 hp5 _ f5 => ?_
  obtain ⟨o, ho, eo⟩ := ix_str (z := oddC) (s := s5) (d := g) (by decide) g0 (by rw [oddC_ok.1]; omega)
  have eo' : O.ix (.str (S " !\"#$&'()*+,:;<=>?@ABCDEFGHIJKLMNOPQRSTUVWXYZ[\\]^_`{|}~")) (.int g) s5 = some (.str [o], s5) := eo
  have hlen : O.len1 [.str (pathT ns)] s5 = some (.int (pathT ns).length, s5) := if_pos (sm_line (by omega))
  simp only [eo', ER.of_some, wp_ok, swp_nx, List.set, e_blt, e_cons, e_nil, e_var, List.getElem?_cons_zero, List.getElem?_cons_succ, ER.bind_ok, hlen, wp_bind]
  refine next_wp hp5 (by omega) (by omega) fun a s6 a0 a1 hp6 _ f6 => ?_
  obtain ⟨m, hm⟩ : ∃ m : Nat, 1 + a = m + 1 := ⟨a.toNat, by omega⟩
  have hml : m < (pathT ns).length := by omega
  have q1 : O.slice (.str (pathT ns)) none (some (1 + a)) s6 = some (.str ((pathT ns).take (m + 1)), s6) := by rw [hm]; exact o_cut_take (by omega) (m + 1)
  have q2 : O.slice (.str (pathT ns)) (some (1 + a)) none s6 = some (.str ((pathT ns).drop (m + 1)), s6) := by rw [hm]; exact o_cut_drop (by omega) (m + 1)
  have l1 := List.length_take_le (m + 1) (pathT ns)
  have q3 : O.add (.str ((pathT ns).take (m + 1))) (.str [o]) s6 = some (.str ((pathT ns).take (m + 1) ++ [o]), s6) := add_s (by rw [List.length_singleton, List.length_take]; omega)
  have q4 : O.add (.str ((pathT ns).take (m + 1) ++ [o])) (.str ((pathT ns).drop (m + 1))) s6 = some (.str ((pathT ns).take (m + 1) ++ [o] ++ (pathT ns).drop (m + 1)), s6) := add_s (by rw [List.length_append, List.length_singleton, List.length_take, List.length_drop]; omega)
  simp only [add_i, ER.of_some, wp_ok, swp_nx, E.slice, e_bin, e_var, e_c, List.getElem?_cons_zero, List.getElem?_cons_succ, ER.bind_ok, z_ret, q1, q2, q3, q4, ER.thenS_ok, swp_rt]
  have hoc : chT o = true := by
    have := List.all_eq_true.mp oddC_ok.2 o ho
    rw [Bool.and_eq_true] at this
    exact this.1
  have h200 : ((pathT ns).take (m + 1) ++ [o] ++ (pathT ns).drop (m + 1)).length ≤ 200 := by
    rw [List.length_append, List.length_append, List.length_singleton, List.length_take, List.length_drop]
    omega
  refine k _ _ (txt_of h200 ?_) ?_ hp6 ((f2.trans f5).trans f6)
  · rw [List.all_append, List.all_append, List.all_eq_true.mpr fun c hc => List.all_eq_true.mp x2 c (List.mem_of_mem_take hc), List.all_eq_true.mpr fun c hc => List.all_eq_true.mp x2 c (List.mem_of_mem_drop hc)]
    simp [hoc]
  · obtain ⟨y, ey, _⟩ := pathT_hd ns
    rw [ey, List.take_succ_cons]
    exact odd_bad ho
end YL

set_option Elab.async false
set_option linter.all false
set_option maxRecDepth 100000
set_option maxHeartbeats 4000000
namespace YL
open Y PySem
theorem hf_one {a b c : PV} (h : one a = true) : hasForm (.tup [a, b, c]) = false := by
  show (isDeed _ && (isTxt b && (!one a && _))) = false
  rw [h]; simp
theorem hf_two {a b : PV} (h : one a = false) : hasForm (.tup [a, b]) = false := by
  show (isDeed _ && (isTxt b && one a)) = false
  rw [h]; simp
theorem hf_oth {a b c : PV} (h1 : isS "limit" a = false) (h2 : two a = false) (h3 : isS "append" a = false) : hasForm (.tup [a, b, c]) = false := by
  show (isDeed _ && (isTxt b && (!one a && (if isS "limit" a = true then _ else (two a || isS "append" a) && isTxt c)))) = false
  rw [h1, h2, h3]; simp
theorem hf_b {a b : PV} {r : List PV} (h : isTxt b = false) : hasForm (.tup (a :: b :: r)) = false := by
  match r with
  | [] => show (isDeed _ && (isTxt b && one a)) = false; rw [h]; simp
  | [c] => show (isDeed _ && (isTxt b && _)) = false; rw [h]; simp
  | c :: d :: r => show (isDeed _ && false) = false; simp
theorem hf_emp {r : List PV} : hasForm (.tup (.str [] :: r)) = false := by
  have : isDeed (.tup (.str [] :: r)) = false := by
    show (decide _ && (_ && (isTxt (.str []) && !isEmp (.str [])))) = false
    simp [isEmp]
  unfold hasForm
  rw [this]; rfl
theorem hf_non {r : List PV} : hasForm (.tup (.non :: r)) = false := by
  have : isDeed (.tup (.non :: r)) = false := by
    show (decide _ && (_ && (isTxt .non && _))) = false
    simp [isTxt]
  unfold hasForm
  rw [this]; rfl
theorem hf_4 {a b c d : PV} : hasForm (.tup [a, b, c, d]) = false := by
  show (isDeed _ && false) = false; simp
theorem hf_1 {a : PV} : hasForm (.tup [a]) = false := by
  show (isDeed _ && false) = false; simp
theorem mul_s {x : List Nat} {k : Int} {s : Sto} (h0 : 0 ≤ k) (h1 : k ≤ 100000) (h2 : x.length ≤ 100) : O.mul (.str x) (.int k) s = some (.str ((List.replicate k.toNat x).flatten), s) := if_pos ⟨h0, h1, h2⟩
/-- what spoils the third item of a deed w .. -/
def tOk (w : List Nat) (v : PV) : Bool := if w = S "limit" then isNum v && decide (digs v ≤ 18) else isTxt v
theorem hf_third {w : List Nat} {b c : PV} (h : tOk w c = false) : hasForm (.tup [.str w, b, c]) = false := by
  show (isDeed _ && (isTxt b && (!one (.str w) && (if isS "limit" (.str w) = true then isNum c && decide (digs c ≤ 18) else (two (.str w) || isS "append" (.str w)) && isTxt c)))) = false
  unfold tOk at h
  by_cases e : w = S "limit"
  · rw [if_pos e] at h
    rw [if_pos (show isS "limit" (.str w) = true from decide_eq_true e), h]
    simp
  · rw [if_neg e] at h
    rw [if_neg (by rw [show isS "limit" (.str w) = false from decide_eq_false e]; exact Bool.false_ne_true), h]
    simp
theorem BS.of {v : PV} {s : Sto} (T : String) (h : O.tyOf v s = some (.t T)) (h2 : Sm v) : BS v s := ⟨⟨T, h⟩, h2⟩
theorem nl_bad {x y : List Nat} {c : Nat} (h : chT c = false) : isTxt (.str (x ++ [c] ++ y)) = false := by
  show (decide _ && List.all _ _) = false
  rw [List.all_append, List.all_append]
  simp [h]
theorem long_bad {x : List Nat} (h : 200 < x.length) : isTxt (.str x) = false := by
  show (decide (x.length ≤ 200) && _) = false
  rw [decide_eq_false (by omega)]
  rfl
theorem big_bad {i : Int} (h : 1000000000000000000 ≤ i) : (isNum (.int i) && decide (digs (.int i) ≤ 18)) = false := by
  obtain ⟨n, rfl⟩ : ∃ n : Nat, i = n := ⟨i.toNat, by omega⟩
  have : ¬ digs (.int (n : Int)) ≤ 18 := fun z => by
    have := (digs_le n 18 (by decide)).mp z
    omega
  rw [decide_eq_false this, Bool.and_false]
theorem third_wp {s : Sto} {p : Nat} {w : List Nat} {Q : PV → Sto → Prop} (hw : okT w = true) (hp : Pool s p) (k : ∀ v s', tOk w v = false → BS v s' → Pool s' p → Fr (· = p) s s' → Q v s') : (l_third_M [.str w, .ref p] s).wp Q := by
  refine run_wp rfl (show (l_third_b [some (.str w), some (.ref p), none, none] s).wp _ _ from ?_)
  unfold l_third_b
  by_cases ea : w = S "append"
  · have nl : ¬ w = S "limit" := by rw [ea]; decide
    have tk : ∀ v, isTxt v = false → tOk w v = false := fun v h => by unfold tOk; rw [if_neg nl]; exact h
    simp only [z_seq, z_ite, t_val, e_bin, e_var, e_c, List.getElem?_cons_zero, ER.bind_ok, ER.of_some, eq_ss hw (okS "append"), decide_eq_true ea, ER.thenS_ok, if_true, z_asg, e_call, e_cons, e_nil, List.getElem?_cons_succ, swp_next, wp_thenS, wp_bind, wp_ok]
    refine some_text_wp hp (by decide) (by decide) fun x s1 hx hxc hp1 f1 => ?_
    have hx' : x.length ≤ 100 := hx
    simp only [swp_nx, List.set, z_ret, wp_thenS, e_bin, e_lst, e_cons, e_nil, e_var, e_c, e_call, e_tup, List.getElem?_cons_zero, List.getElem?_cons_succ, ER.bind_ok, wp_bind, wp_ok]
    refine next_wp hp1 (by decide) (by decide) fun g s2 g0 g1 hp2 _ f2 => ?_
    have hm : O.mul (.str (S "x")) (.int (201 + g)) s2 = some (.str ((List.replicate (201 + g).toNat (S "x")).flatten), s2) := if_pos ⟨by omega, by omega, by decide⟩
    have a1 : O.add (.str x) (.str (S "\n")) s2 = some (.str (x ++ S "\n"), s2) := add_s (by rw [show (S "\n").length = 1 by decide]; omega)
    have a2 : O.add (.str (S "\t")) (.str x) s2 = some (.str (S "\t" ++ x), s2) := add_s (by rw [show (S "\t").length = 1 by decide]; omega)
    have z0 : (0 : Nat) ≤ sizeLine := Nat.zero_le _
    have z6 : (6 : Nat) ≤ sizeLine := by rw [sizeLine_eq]; omega
    simp only [add_i, hm, a1, a2, ER.of_some, wp_ok, List.length_nil, if_pos z0, List.length_cons, Nat.zero_add, Nat.reduceAdd, if_pos z6]
    have hp3 := hp2.keep (P := fun _ => False) (Fr.app (t := [SO.lst [.int 5, .non, .str ((List.replicate (201 + g).toNat (S "x")).flatten), .str (x ++ S "\n"), .str (S "\t" ++ x), .tup []]])) fun z => z
    refine next_wp hp3 (by decide) (by decide) fun j s4 j0 j1 hp4 _ f4 => ?_
    have hl : s4[s2.length]? = some (.lst [.int 5, .non, .str ((List.replicate (201 + g).toNat (S "x")).flatten), .str (x ++ S "\n"), .str (S "\t" ++ x), .tup []]) := f4.keep _ _ (by have := hp2.lt; omega) (by simp)
    obtain ⟨v, hv, ev⟩ := ix_new (t := s4) hl j0 (by simpa using j1)
    simp only [ev, ER.of_some, wp_ok, swp_rt]
    have ff := ((f1.trans f2).trans Fr.app).trans f4
    have hrl : ((List.replicate (201 + g).toNat (S "x")).flatten).length = (201 + g).toNat := by rw [List.length_flatten]; simp [show (S "x").length = 1 from rfl]
    simp only [List.mem_cons, List.not_mem_nil, or_false] at hv
    rcases hv with rfl | rfl | rfl | rfl | rfl | rfl
    · exact k _ _ (tk _ rfl) (.of "int" rfl trivial) hp4 ff
    · exact k _ _ (tk _ rfl) (.of "NoneType" rfl trivial) hp4 ff
    · exact k _ _ (tk _ (long_bad (by omega))) (.of "str" rfl (show _ ≤ 100000 by omega)) hp4 ff
    · exact k _ _ (tk _ (by have := nl_bad (x := x) (y := []) (c := 10) (by decide); rw [List.append_nil] at this; exact this)) (.of "str" rfl (show _ ≤ 100000 by rw [List.length_append, show (S "\n").length = 1 by decide]; omega)) hp4 ff
    · exact k _ _ (tk _ (nl_bad (x := []) (y := x) (c := 9) (by decide))) (.of "str" rfl (show _ ≤ 100000 by rw [List.length_append, show (S "\t").length = 1 by decide]; omega)) hp4 ff
    · exact k _ _ (tk _ rfl) (.of "tuple" rfl trivial) hp4 ff
  by_cases el : w = S "limit"
  · have tk : ∀ v, (isNum v && decide (digs v ≤ 18)) = false → tOk w v = false := fun v h => by unfold tOk; rw [if_pos el]; exact h
    simp only [z_seq, z_ite, t_val, e_bin, e_var, e_c, List.getElem?_cons_zero, ER.bind_ok, ER.of_some, eq_ss hw (okS "append"), eq_ss hw (okS "limit"), decide_eq_true el, decide_eq_false ea, ER.thenS_ok, if_true, if_false, Bool.false_eq_true, z_nil, SR.next_nx, z_asg, e_call, e_cons, e_nil, List.getElem?_cons_succ, pow18, swp_next, wp_thenS, wp_bind, wp_ok]
    refine next_wp hp (by decide) (by decide) fun m s1 m0 m1 hp1 _ f1 => ?_
    obtain ⟨n, rfl⟩ : ∃ n : Nat, m = n := ⟨m.toNat, by omega⟩
    have hn : O.neg (.int 1) s1 = some (.int (-1), s1) := rfl
    have hsub : O.sub (.int (-1)) (.int (n : Int)) s1 = some (.int (-1 - n), s1) := rfl
    have hst : O.str1 [.int (n : Int)] s1 = some (.str (S (toString (n : Int))), s1) := num_str1 (by omega)
    have z8 : (8 : Nat) ≤ sizeLine := by rw [sizeLine_eq]; omega
    simp only [swp_nx, List.set, z_ret, wp_thenS, e_bin, e_un, e_blt, e_lst, e_cons, e_nil, e_var, e_c, e_call, List.getElem?_cons_zero, List.getElem?_cons_succ, ER.bind_ok, wp_bind, wp_ok, hn, hsub, hst, pow18, add_i, ER.of_some, List.length_nil, List.length_cons, Nat.zero_add, Nat.reduceAdd, if_pos z8]
    have hp3 := hp1.keep (P := fun _ => False) (Fr.app (t := [SO.lst [.int (-1), .int (-1 - n), .int 1000000000000000000, .int (1000000000000000000 + n), .str (S (toString (n : Int))), .bl true, .non, .str (S "0")]])) fun z => z
    refine next_wp hp3 (by decide) (by decide) fun j s4 j0 j1 hp4 _ f4 => ?_
    have hl : s4[s1.length]? = some (.lst [.int (-1), .int (-1 - n), .int 1000000000000000000, .int (1000000000000000000 + n), .str (S (toString (n : Int))), .bl true, .non, .str (S "0")]) := f4.keep _ _ (by have := hp1.lt; omega) (by simp)
    obtain ⟨v, hv, ev⟩ := ix_new (t := s4) hl j0 (by simpa using j1)
    simp only [ev, ER.of_some, wp_ok, swp_rt]
    have ff := (f1.trans Fr.app).trans f4
    have neg : ∀ i : Int, i < 0 → isNum (.int i) = false := fun i hi => decide_eq_false (by omega)
    simp only [List.mem_cons, List.not_mem_nil, or_false] at hv
    rcases hv with rfl | rfl | rfl | rfl | rfl | rfl | rfl | rfl
    · exact k _ _ (tk _ (by rw [neg _ (by decide)]; rfl)) (.of "int" rfl trivial) hp4 ff
    · exact k _ _ (tk _ (by rw [neg _ (by omega)]; rfl)) (.of "int" rfl trivial) hp4 ff
    · exact k _ _ (tk _ (big_bad (by omega))) (.of "int" rfl trivial) hp4 ff
    · exact k _ _ (tk _ (big_bad (by omega))) (.of "int" rfl trivial) hp4 ff
    · exact k _ _ (tk _ rfl) (.of "str" rfl (by
        have := (digs_le n 19 (by decide)).mpr (by omega)
        have h3 : (S (toString (n : Int))).length = digs (.int (n : Int)) := rfl
        show (S (toString (n : Int))).length ≤ 100000
        omega)) hp4 ff
    · exact k _ _ (tk _ rfl) (.of "bool" rfl trivial) hp4 ff
    · exact k _ _ (tk _ rfl) (.of "NoneType" rfl trivial) hp4 ff
    · exact k _ _ (tk _ rfl) (.of "str" rfl (show _ ≤ 100000 by decide)) hp4 ff
  · have tk : ∀ v, isTxt v = false → tOk w v = false := fun v h => by unfold tOk; rw [if_neg el]; exact h
    have hm : O.mul (.str (S "a")) (.int 200) s = some (.str ((List.replicate 200 (S "a")).flatten), s) := mul_s (k := 200) (by decide) (by decide) (by decide)
    have hml : ((List.replicate 200 (S "a")).flatten).length = 200 := by rw [List.length_flatten]; simp [show (S "a").length = 1 from rfl]
    have ha : O.add (.str (S "/")) (.str ((List.replicate 200 (S "a")).flatten)) s = some (.str (S "/" ++ (List.replicate 200 (S "a")).flatten), s) := add_s (by rw [hml]; decide)
    have z1 : (1 : Nat) ≤ sizeLine := by rw [sizeLine_eq]; omega
    have z5 : (5 : Nat) ≤ sizeLine := by rw [sizeLine_eq]; omega
    simp only [z_seq, z_ite, t_val, e_bin, e_var, e_c, List.getElem?_cons_zero, ER.bind_ok, ER.of_some, eq_ss hw (okS "append"), eq_ss hw (okS "limit"), decide_eq_false el, decide_eq_false ea, ER.thenS_ok, if_false, Bool.false_eq_true, z_nil, SR.next_nx, z_ret, e_lst, e_tup, e_call, e_cons, e_nil, List.getElem?_cons_succ, hm, ha, wp_thenS, wp_bind, wp_ok, List.length_nil, List.length_cons, Nat.zero_add, Nat.reduceAdd, if_pos z1, if_pos z5]
    have hp3 := hp.keep (P := fun _ => False) (Fr.app (t := [SO.lst [.int 5, .non, .tup [.str (S "/a")], .str (S "/b\n"), .str (S "/" ++ (List.replicate 200 (S "a")).flatten)]])) fun z => z
    refine next_wp hp3 (by decide) (by decide) fun j s4 j0 j1 hp4 _ f4 => ?_
    have hl : s4[s.length]? = some (.lst [.int 5, .non, .tup [.str (S "/a")], .str (S "/b\n"), .str (S "/" ++ (List.replicate 200 (S "a")).flatten)]) := f4.keep _ _ (by have := hp.lt; omega) (by simp)
    obtain ⟨v, hv, ev⟩ := ix_new (t := s4) hl j0 (by simpa using j1)
    simp only [ev, ER.of_some, wp_ok, swp_rt]
    have ff := Fr.app.trans f4
    have hl201 : (S "/" ++ (List.replicate 200 (S "a")).flatten).length = 201 := by rw [List.length_append, hml]; decide
    simp only [List.mem_cons, List.not_mem_nil, or_false] at hv
    rcases hv with rfl | rfl | rfl | rfl | rfl
    · exact k _ _ (tk _ rfl) (.of "int" rfl trivial) hp4 ff
    · exact k _ _ (tk _ rfl) (.of "NoneType" rfl trivial) hp4 ff
    · exact k _ _ (tk _ rfl) (.of "tuple" rfl trivial) hp4 ff
    · exact k _ _ (tk _ (by decide)) (.of "str" rfl (show _ ≤ 100000 by decide)) hp4 ff
    · exact k _ _ (tk _ (long_bad (by rw [hl201]; decide))) (.of "str" rfl (show _ ≤ 100000 by rw [hl201]; decide)) hp4 ff
end YL

set_option Elab.async false
set_option linter.all false
set_option maxRecDepth 100000
set_option maxHeartbeats 4000000
namespace YL
open Y PySem
def words : List (List Nat) := [S "mkdir", S "create", S "seal", S "move", S "snapshot", S "append", S "limit"]
def up (w : List Nat) : List Nat := O.toL (Txt.upper ⟨w.toArray⟩)
/-- a deed of the seven forms, its paths texts -/
structure DeedOk (w : List Nat) (P : PV) (r : List PV) : Prop where
  hw : w ∈ words
  hP : isTxt P = true
  hr : (r = [] ∧ one (.str w) = true) ∨ ∃ c, r = [c] ∧ one (.str w) = false ∧ (isTxt c || isNum c) = true
theorem words_ok : ∀ w ∈ words, w.length ≤ 10 ∧ okT w = true ∧ isTxt (.str w) = true ∧ w ≠ [] ∧ (one (.str (w ++ S "s")) = false ∧ isS "limit" (.str (w ++ S "s")) = false ∧ two (.str (w ++ S "s")) = false ∧ isS "append" (.str (w ++ S "s")) = false) := by decide
theorem words_up : ∀ w ∈ words, (up w).length ≤ 10 ∧ one (.str (up w)) = false ∧ isS "limit" (.str (up w)) = false ∧ two (.str (up w)) = false ∧ isS "append" (.str (up w)) = false := by decide +kernel
theorem BS.item {c : PV} {s : Sto} (h : (isTxt c || isNum c) = true) : BS c s := by
  cases c with
  | str x =>
    refine .of "str" rfl ?_
    have := strOf_len h
    show x.length ≤ 100000
    have : x.length ≤ 200 := this
    omega
  | int i => exact .of "int" rfl trivial
  | _ => cases h
theorem add_refs {s : Sto} {n m : Nat} {a b : List PV} (h1 : s[n]? = some (.lst a)) (h2 : s[m]? = some (.lst b)) (hl : a.length + b.length ≤ 100000) : O.add (.ref n) (.ref m) s = some (.ref s.length, s ++ [.lst (a ++ b)]) := by
  show (match s[n]?, s[m]? with | some (.lst a), some (.lst b) => if a.length + b.length ≤ sizeLine then some (PV.ref s.length, s ++ [SO.lst (a ++ b)]) else none | _, _ => none) = _
  rw [h1, h2]
  exact if_pos (sm_line hl)
theorem add_t {a b : List PV} {s : Sto} (h : a.length + b.length ≤ 100000) : O.add (.tup a) (.tup b) s = some (.tup (a ++ b), s) := if_pos (sm_line h)
theorem sl_take {ps : List PV} {s : Sto} (k : Nat) : O.slice (.tup ps) none (some (k : Int)) s = some (.tup (ps.take k), s) := by
  show some (PV.tup (O.cut ps none (some (k : Int))), s) = _
  rw [cut_take]
theorem sl_drop {ps : List PV} {s : Sto} (k : Nat) : O.slice (.tup ps) (some (k : Int)) none s = some (.tup (ps.drop k), s) := by
  show some (PV.tup (O.cut ps (some (k : Int)) none), s) = _
  rw [cut_drop]
/-- what a spoilt deed is -/
def Spoilt (v : PV) (s : Sto) : Prop := Bt v s ∧ (∀ ps, v = .tup ps → ∀ q ∈ ps, BS q s) ∧ hasForm v = false
theorem Spoilt.plain {v : PV} {s : Sto} (T : String) (h : O.tyOf v s = some (.t T)) (h2 : ∀ ps, v ≠ .tup ps) : Spoilt v s := ⟨⟨T, h⟩, fun ps e => absurd e (h2 ps), by
  cases v with
  | tup ps => exact absurd rfl (h2 ps)
  | _ => rfl⟩
theorem Spoilt.tup {ps : List PV} {s : Sto} (h : ∀ q ∈ ps, BS q s) (h2 : hasForm (.tup ps) = false) : Spoilt (.tup ps) s := ⟨⟨"tuple", rfl⟩, fun qs e => by cases e; exact h, h2⟩
theorem spoilt_wp {s : Sto} {p : Nat} {w : List Nat} {P : PV} {r : List PV} {Q : PV → Sto → Prop} (hp : Pool s p) (D : DeedOk w P r) (k : ∀ v s', Spoilt v s' → Pool s' p → Fr (· = p) s s' → Q v s') : (l_spoilt_M [.tup (.str w :: P :: r), .ref p] s).wp Q := by
  obtain ⟨w1, w2, w3, w4, w5, w6, w7, w8⟩ := words_ok w D.hw
  obtain ⟨u1, u2, u3, u4, u5⟩ := words_up w D.hw
  have hr1 : r.length ≤ 1 := by rcases D.hr with ⟨e, _⟩ | ⟨c, e, _⟩ <;> subst e <;> simp
  have bsr : ∀ (s' : Sto), ∀ q ∈ r, BS q s' := fun s' q hq => by
    rcases D.hr with ⟨e, _⟩ | ⟨c, e, _, hc⟩
    · subst e; simp at hq
    · subst e
      have : q = c := by simpa using hq
      subst this
      exact BS.item hc
  have bsP : ∀ s' : Sto, BS P s' := fun s' => BS.item (by rw [D.hP]; rfl)
  have bsPr : ∀ (s' : Sto), ∀ q ∈ P :: r, BS q s' := fun s' q hq => by
    rcases List.mem_cons.mp hq with e | hq
    · rw [e]; exact bsP s'
    · exact bsr s' q hq
  have bsx : ∀ (x : List Nat) (s' : Sto), x.length ≤ 100 → BS (.str x) s' := fun x s' h => .of "str" rfl (show x.length ≤ 100000 by omega)
  have bsxr : ∀ (a : PV) (s' : Sto), BS a s' → ∀ q ∈ a :: P :: r, BS q s' := fun a s' ha q hq => by
    rcases List.mem_cons.mp hq with e | hq
    · rw [e]; exact ha
    · exact bsPr s' q hq
  refine run_wp rfl (show (l_spoilt_b [some (.tup (.str w :: P :: r)), some (.ref p), none, none, none] s).wp _ _ from ?_)
  unfold l_spoilt_b
  simp only [z_seq, z_asg, e_call, e_cons, e_nil, e_var, e_c, List.getElem?_cons_zero, List.getElem?_cons_succ, ER.bind_ok, swp_next, wp_thenS, wp_bind, wp_ok]
  refine next_wp hp (by decide) (by decide) fun d s1 d0 d1 hp1 _ f1 => ?_
  have q1 : ∀ s : Sto, O.slice (.tup (.str w :: P :: r)) (some 1) none s = some (.tup (P :: r), s) := fun s => sl_drop 1
  have hlen : ((PV.str w :: P :: r).length : Int) - 1 = ((1 + r.length : Nat) : Int) := by simp only [List.length_cons]; omega
  have q2 : ∀ s : Sto, O.slice (.tup (.str w :: P :: r)) none (some (((r.length + 1 + 1 : Nat) : Int) - 1)) s = some (.tup ((PV.str w :: P :: r).take (1 + r.length)), s) := fun s => by
    have e : ((r.length + 1 + 1 : Nat) : Int) - 1 = ((1 + r.length : Nat) : Int) := by omega
    rw [e]; exact sl_take (1 + r.length)
  have q3 : ∀ s : Sto, O.slice (.tup (.str w :: P :: r)) (some 2) none s = some (.tup r, s) := fun s => sl_drop 2
  have q4 : ∀ s : Sto, O.slice (.tup (.str w :: P :: r)) none (some 2) s = some (.tup [.str w, P], s) := fun s => sl_take 2
  have l1 : ∀ s : Sto, O.len1 [.tup (.str w :: P :: r)] s = some (.int (PV.str w :: P :: r).length, s) := fun s => rfl
  have t1 : ∀ s : Sto, O.add (.tup (.str w :: P :: r)) (.tup [.int 0]) s = some (.tup ((.str w :: P :: r) ++ [.int 0]), s) := fun s => add_t (by simp only [List.length_cons, List.length_nil]; omega)
  have t2 : ∀ (a : PV) (s : Sto), O.add (.tup [a]) (.tup (P :: r)) s = some (.tup (a :: P :: r), s) := fun a s => add_t (by simp only [List.length_cons, List.length_nil]; omega)
  have t3 : ∀ s : Sto, O.add (.tup [.str w, .int 7]) (.tup r) s = some (.tup (.str w :: .int 7 :: r), s) := fun s => add_t (by simp only [List.length_cons, List.length_nil]; omega)
  have a1 : ∀ s : Sto, O.add (.str w) (.str (S "s")) s = some (.str (w ++ S "s"), s) := fun s => add_s (by rw [show (S "s").length = 1 by decide]; omega)
  have up1 : ∀ s : Sto, O.upper (.str w) [] s = some (.str (up w), s) := fun s => if_pos (by omega)
  have ty : ∀ s : Sto, O.tyOf (.str w) s = some (.t "str") := fun s => rfl
  have ls : ∀ s : Sto, O.list1 [.tup (.str w :: P :: r)] s = some (.ref s.length, s ++ [.lst (.str w :: P :: r)]) := fun s => rfl
  have z0 : (0 : Nat) ≤ sizeLine := Nat.zero_le _
  have z1 : (1 : Nat) ≤ sizeLine := by rw [sizeLine_eq]; omega
  have z2 : (2 : Nat) ≤ sizeLine := by rw [sizeLine_eq]; omega
  have z4 : (4 : Nat) ≤ sizeLine := by rw [sizeLine_eq]; omega
  have z5 : (5 : Nat) ≤ sizeLine := by rw [sizeLine_eq]; omega
  have sn : (S "") = [] := rfl
  have sub_i : ∀ (a b : Int) (s : Sto), O.sub (.int a) (.int b) s = some (.int (a - b), s) := fun _ _ _ => rfl
  have ixh : ∀ s : Sto, O.ix (.tup (.str w :: P :: r)) (.int 0) s = some (.str w, s) := fun s => ix0 _ _ s
  simp only [swp_nx, List.set, t1, t2, t3, a1, up1, ty, q4, l1, ixh, E.bmT, sub_i, if_pos z4, if_pos z5, if_true, E.dnew, E.slice, e_var, e_c, List.getElem?_cons_zero, List.getElem?_cons_succ, ER.bind_ok, q1, q2, q3, ER.of_some, wp_ok, e_lst, e_cons, e_nil, e_blt, ls, e_bin, e_tup, List.length_nil, List.length_cons, Nat.zero_add, Nat.reduceAdd, if_pos z0, if_pos z1, if_pos z2]
  generalize hA : PV.tup (PV.str w :: P :: r ++ [PV.int 0]) = A
  generalize hB : PV.tup (List.take (1 + r.length) (PV.str w :: P :: r)) = B
  generalize hC : PV.tup (PV.str (w ++ S "s") :: P :: r) = C
  generalize hD : PV.tup (PV.str (up w) :: P :: r) = Dd
  generalize hE : PV.tup (PV.str w :: PV.int 7 :: r) = Ee
  generalize hF : PV.tup (PV.str (S "") :: P :: r) = F
  generalize hG : PV.tup (PV.non :: P :: r) = G
  generalize hs2 : (s1 ++ [SO.lst (PV.str w :: P :: r)]) = s2
  have n2 : s2.length = s1.length + 1 := by rw [← hs2]; simp
  have e1 : O.add (.ref s2.length) (.ref (s2 ++ [SO.lst [.ref s1.length, A, B, C, Dd]]).length) (s2 ++ [SO.lst [.ref s1.length, A, B, C, Dd]] ++ [SO.lst [Ee, F, G, .str w, .non]]) = some (.ref (s2 ++ [SO.lst [.ref s1.length, A, B, C, Dd]] ++ [SO.lst [Ee, F, G, .str w, .non]]).length, s2 ++ [SO.lst [.ref s1.length, A, B, C, Dd]] ++ [SO.lst [Ee, F, G, .str w, .non]] ++ [SO.lst [.ref s1.length, A, B, C, Dd, Ee, F, G, .str w, .non]]) :=
    add_refs (a := [.ref s1.length, A, B, C, Dd]) (b := [Ee, F, G, .str w, .non]) (by simp) (by simp) (by simp)
  simp only [q2, e1, ER.of_some, ER.bind_ok, wp_ok, List.length_cons, List.length_nil, Nat.zero_add, Nat.reduceAdd, if_pos z5, hA, hB, hC, hD, hE, hF, hG, hs2]
  generalize hs3 : s2 ++ [SO.lst [.ref s1.length, A, B, C, Dd]] ++ [SO.lst [Ee, F, G, .str w, .non]] = s3
  have e2 : O.add (.ref s3.length) (.ref (s3 ++ [SO.lst [.ref s1.length, A, B, C, Dd, Ee, F, G, .str w, .non]] ++ [SO.dct []]).length) (s3 ++ [SO.lst [.ref s1.length, A, B, C, Dd, Ee, F, G, .str w, .non]] ++ [SO.dct []] ++ [SO.lst [.tup [], .int 7, .ref (s3 ++ [SO.lst [.ref s1.length, A, B, C, Dd, Ee, F, G, .str w, .non]]).length, .bl true]]) =
      some (.ref (s3 ++ [SO.lst [.ref s1.length, A, B, C, Dd, Ee, F, G, .str w, .non]] ++ [SO.dct []] ++ [SO.lst [.tup [], .int 7, .ref (s3 ++ [SO.lst [.ref s1.length, A, B, C, Dd, Ee, F, G, .str w, .non]]).length, .bl true]]).length,
        s3 ++ [SO.lst [.ref s1.length, A, B, C, Dd, Ee, F, G, .str w, .non]] ++ [SO.dct []] ++ [SO.lst [.tup [], .int 7, .ref (s3 ++ [SO.lst [.ref s1.length, A, B, C, Dd, Ee, F, G, .str w, .non]]).length, .bl true]] ++ [SO.lst [.ref s1.length, A, B, C, Dd, Ee, F, G, .str w, .non, .tup [], .int 7, .ref (s3 ++ [SO.lst [.ref s1.length, A, B, C, Dd, Ee, F, G, .str w, .non]]).length, .bl true]]) :=
    add_refs (a := [.ref s1.length, A, B, C, Dd, Ee, F, G, .str w, .non]) (b := [.tup [], .int 7, .ref (s3 ++ [SO.lst [.ref s1.length, A, B, C, Dd, Ee, F, G, .str w, .non]]).length, .bl true]) (by simp) (by simp) (by simp)
  simp only [e2, ER.of_some, wp_ok]
  generalize hs4 : s3 ++ [SO.lst [.ref s1.length, A, B, C, Dd, Ee, F, G, .str w, .non]] = s4
  generalize hs5 : s4 ++ [SO.dct []] ++ [SO.lst [.tup [], .int 7, .ref s4.length, .bl true]] = s5
  generalize hs6 : s5 ++ [SO.lst [.ref s1.length, A, B, C, Dd, Ee, F, G, .str w, .non, .tup [], .int 7, .ref s4.length, .bl true]] = s6
  have f6 : Fr (fun _ => False) s1 s6 := by
    rw [← hs6, ← hs5, ← hs4, ← hs3, ← hs2]
    simp only [List.append_assoc]
    exact Fr.app
  have f26 : Fr (fun _ => False) s2 s6 := by
    rw [← hs6, ← hs5, ← hs4, ← hs3]
    simp only [List.append_assoc]
    exact Fr.app
  have f46 : Fr (fun _ => False) (s4 ++ [SO.dct []]) s6 := by
    rw [← hs6, ← hs5]
    simp only [List.append_assoc]
    rw [← List.append_assoc]
    exact Fr.app
  have hp6 : Pool s6 p := hp1.keep f6 fun z => z
  have ff : Fr (· = p) s s6 := f1.trans (f6.mono fun _ z => z.elim)
  have hl6 : s6[s5.length]? = some (.lst [.ref s1.length, A, B, C, Dd, Ee, F, G, .str w, .non, .tup [], .int 7, .ref s4.length, .bl true]) := by rw [← hs6]; simp
  have hd1 : s6[s1.length]? = some (.lst (PV.str w :: P :: r)) := f26.keep _ _ (fun z => z) (by rw [← hs2]; simp)
  have hd4 : s6[s4.length]? = some (.dct []) := f46.keep _ _ (fun z => z) (by simp)
  simp only [z_ite, t_val, e_bin, e_var, e_c, List.getElem?_cons_zero, List.getElem?_cons_succ, ER.bind_ok, O.lt, ER.of_some, ER.thenS_ok]
  by_cases hd : d < 14
  · obtain ⟨v, hv, ev⟩ := ix_new (t := s6) hl6 d0 (by simpa using hd)
    rw [decide_eq_true hd]
    simp only [ER.bind_ok, ER.thenS_ok, if_true, z_ret, e_bin, e_var, List.getElem?_cons_zero, List.getElem?_cons_succ, ev, ER.of_some, swp_rt]
    have fin : ∀ v, Spoilt v s6 → Q v s6 := fun v h => k v s6 h hp6 ff
    simp only [List.mem_cons, List.not_mem_nil, or_false] at hv
    have one_or : one (.str w) = true ∨ (one (.str w) = false ∧ ∃ c, r = [c]) := by
      rcases D.hr with ⟨_, h⟩ | ⟨c, e, h, _⟩
      · exact .inl h
      · exact .inr ⟨h, c, e⟩
    rcases hv with rfl | rfl | rfl | rfl | rfl | rfl | rfl | rfl | rfl | rfl | rfl | rfl | rfl | rfl
    · refine fin _ (Spoilt.plain "list" ?_ (by simp))
      show (match s6[s1.length]? with | some (.lst _) => some (TyN.t "list") | some (.frz _) => some (.t "list") | some (.dct _) => some (.t "dict") | some (.set _) => some (.t "set") | some (.ins C _) => some (.own C) | none => none) = _
      rw [hd1]
    · rw [← hA]
      refine fin _ (Spoilt.tup (fun q hq => ?_) ?_)
      · rcases List.mem_append.mp hq with h | h
        · exact bsxr _ _ (bsx w s6 (by omega)) q h
        · have : q = .int 0 := by simpa using h
          subst this
          exact .of "int" rfl trivial
      · rcases D.hr with ⟨e, h⟩ | ⟨c, e, h, _⟩
        · subst e; exact hf_one h
        · subst e; exact hf_4
    · rw [← hB]
      refine fin _ (Spoilt.tup (fun q hq => bsxr _ _ (bsx w s6 (by omega)) q (List.mem_of_mem_take hq)) ?_)
      rcases D.hr with ⟨e, h⟩ | ⟨c, e, h, _⟩
      · subst e; exact hf_1
      · subst e; exact hf_two h
    · rw [← hC]
      refine fin _ (Spoilt.tup (bsxr _ _ (bsx _ s6 (by rw [List.length_append, show (S "s").length = 1 by decide]; omega))) ?_)
      rcases D.hr with ⟨e, h⟩ | ⟨c, e, h, _⟩
      · subst e; exact hf_two w5
      · subst e; exact hf_oth w6 w7 w8
    · rw [← hD]
      refine fin _ (Spoilt.tup (bsxr _ _ (bsx _ s6 (by omega))) ?_)
      rcases D.hr with ⟨e, h⟩ | ⟨c, e, h, _⟩
      · subst e; exact hf_two u2
      · subst e; exact hf_oth u3 u4 u5
    · rw [← hE]
      refine fin _ (Spoilt.tup (fun q hq => ?_) (hf_b rfl))
      rcases List.mem_cons.mp hq with e | hq
      · rw [e]; exact bsx w s6 (by omega)
      · rcases List.mem_cons.mp hq with e | hq
        · rw [e]; exact .of "int" rfl trivial
        · exact bsr s6 q hq
    · rw [← hF]
      exact fin _ (Spoilt.tup (bsxr _ _ (bsx _ s6 (by decide))) hf_emp)
    · rw [← hG]
      exact fin _ (Spoilt.tup (bsxr _ _ (.of "NoneType" rfl trivial)) hf_non)
    · exact fin _ (Spoilt.plain "str" rfl (by simp))
    · exact fin _ (Spoilt.plain "NoneType" rfl (by simp))
    · exact fin _ (Spoilt.tup (by simp) rfl)
    · exact fin _ (Spoilt.plain "int" rfl (by simp))
    · refine fin _ (Spoilt.plain "dict" ?_ (by simp))
      show (match s6[s4.length]? with | some (.lst _) => some (TyN.t "list") | some (.frz _) => some (.t "list") | some (.dct _) => some (.t "dict") | some (.set _) => some (.t "set") | some (.ins C _) => some (.own C) | none => none) = _
      rw [hd4]
    · exact fin _ (Spoilt.plain "bool" rfl (by simp))
  · rw [decide_eq_false hd]
    simp only [ER.bind_ok, ER.thenS_ok, if_false, Bool.false_eq_true, z_nil, swp_nx, z_ret, wp_thenS, e_bin, E.slice, e_var, e_c, List.getElem?_cons_zero, List.getElem?_cons_succ, q4, ixh, ER.of_some, e_tup, e_cons, e_nil, e_call, wp_bind, wp_ok]
    refine third_wp w2 hp6 fun v s7 hv hbs hp7 f7 => ?_
    have ta : O.add (.tup [.str w, P]) (.tup [v]) s7 = some (.tup [.str w, P, v], s7) := add_t (by simp)
    simp only [wp_ok, List.length_cons, List.length_nil, Nat.zero_add, Nat.reduceAdd, if_pos z1, ta, ER.of_some, swp_rt]
    refine k _ s7 (Spoilt.tup (fun q hq => ?_) (hf_third hv)) hp7 (ff.trans f7)
    simp only [List.mem_cons, List.not_mem_nil, or_false] at hq
    rcases hq with rfl | rfl | rfl
    · exact bsx w s7 (by omega)
    · exact bsP s7
    · exact hbs
end YL

set_option Elab.async false
set_option linter.all false
set_option maxRecDepth 100000
set_option maxHeartbeats 4000000
namespace YL
open Y PySem
/-- the script at 0, a pool at p -/
structure Gr (ns : List Int) (p : Nat) (s : Sto) : Prop where
  b : s[0]? = some (.frz (ns.map PV.int))
  p : Pool s p
theorem Gr.ne {ns : List Int} {p : Nat} {s : Sto} (g : Gr ns p s) : p ≠ 0 := fun e => by
  subst e
  obtain ⟨v, _, h | ⟨h, _⟩⟩ := g.p <;> (rw [g.b] at h; cases h)
theorem Gr.next {ns : List Int} {p : Nat} {s s' : Sto} (g : Gr ns p s) (f : Fr (· = p) s s') (h : Pool s' p) : Gr ns p s' := ⟨f.keep _ _ (fun z => g.ne z.symm) g.b, h⟩
theorem Gr.app {ns : List Int} {p : Nat} {s t : Sto} (g : Gr ns p s) : Gr ns p (s ++ t) := ⟨(Fr.app (p := fun _ => False)).keep _ _ (fun z => z) g.b, g.p.keep (P := fun _ => False) Fr.app fun z => z⟩
/-- a new pool -/
theorem pool_new {ns : List Int} {s : Sto} {k : Nat} {Q : PV → Sto → Prop} (h : s[0]? = some (.frz (ns.map PV.int))) (hk : k ≤ 63) (q : ∀ s', Gr ns s.length s' → Fr (fun _ => False) s s' → Q (.ref s.length) s') : (l_pool_M [.ref 0, .int k] s).wp Q := by
  obtain ⟨a, b, e, hb, hab⟩ := pool_wp h hk
  rw [e, wp_ok]
  refine q _ ⟨(Fr.app (p := fun _ => False)).keep _ _ (fun z => z) h, b, hb, ?_⟩ Fr.app
  rcases hab with rfl | ⟨rfl, h2⟩
  · exact .inl (by simp)
  · exact .inr ⟨by simp, h2⟩
abbrev rr (p : Nat) (w : List Nat) (l : List (Option PV)) : Rho := some (.ref 0) :: some (.ref p) :: some (.str w) :: l
abbrev no (n : Nat) : List (Option PV) := List.replicate n none
theorem z7 : (7 : Nat) ≤ sizeLine := by rw [sizeLine_eq]; omega
theorem z6 : (6 : Nat) ≤ sizeLine := by rw [sizeLine_eq]; omega
theorem z3 : (3 : Nat) ≤ sizeLine := by rw [sizeLine_eq]; omega
theorem z2 : (2 : Nat) ≤ sizeLine := by rw [sizeLine_eq]; omega
theorem z1 : (1 : Nat) ≤ sizeLine := by rw [sizeLine_eq]; omega
theorem z0 : (0 : Nat) ≤ sizeLine := Nat.zero_le _
/-- the flags: which paths are bad -/
def Flags (nb : Nat) (b0 b1 : Bool) (s : Sto) : Prop := s[nb]? = some (.lst [.bl b0, .bl b1])
theorem Flags.keep {nb p : Nat} {b0 b1 : Bool} {s s' : Sto} (h : Flags nb b0 b1 s) (f : Fr (· = p) s s') (hp : Pool s p) : Flags nb b0 b1 s' := f.keep _ _ (fun z => by
  subst z
  obtain ⟨v, _, q | ⟨q, _⟩⟩ := hp <;> (rw [show s[nb]? = _ from h] at q; cases q)) h
def law1 : SF := Z.seq (Z.asg 1 (E.call l_pool_M (E.cons (E.var 0) (E.cons (E.c (.int 0)) (E.nil))))) (Z.asg 2 (E.bin O.ix (E.lst (E.cons (E.c (.str (S "mkdir"))) (E.cons (E.c (.str (S "create"))) (E.cons (E.c (.str (S "seal"))) (E.cons (E.c (.str (S "move"))) (E.cons (E.c (.str (S "snapshot"))) (E.cons (E.c (.str (S "append"))) (E.cons (E.c (.str (S "limit"))) (E.nil))))))))) (E.call l_next_M (E.cons (E.var 1) (E.cons (E.c (.int 7)) (E.nil))))))
theorem seq_assoc (a b c : SF) : Z.seq a (Z.seq b c) = Z.seq (Z.seq a b) c := by
  funext ρ s
  show (a ρ s).next (fun ρ s => (b ρ s).next c) = ((a ρ s).next b).next c
  cases a ρ s <;> simp
theorem law1_wp {ns : List Int} {R : PV → Sto → Prop} : (law1 (some (.ref 0) :: no 12) [.frz (ns.map PV.int)]).wp (fun ρ s => ∃ p w, ρ = rr p w (no 10) ∧ w ∈ words ∧ Gr ns p s) R := by
  unfold law1
  simp only [no, List.replicate, z_seq, z_asg, e_call, e_cons, e_nil, e_var, e_c, List.getElem?_cons_zero, ER.bind_ok, swp_next, wp_thenS, wp_bind, wp_ok]
  refine pool_new (k := 0) rfl (by decide) fun s1 g1 f1 => ?_
  simp only [swp_nx, List.set, e_bin, e_lst, e_cons, e_nil, e_call, e_var, e_c, List.getElem?_cons_zero, List.getElem?_cons_succ, ER.bind_ok, List.length_cons, List.length_nil, Nat.zero_add, Nat.reduceAdd, if_pos z7, wp_bind, wp_ok]
  have g2 := g1.app (t := [SO.lst [.str (S "mkdir"), .str (S "create"), .str (S "seal"), .str (S "move"), .str (S "snapshot"), .str (S "append"), .str (S "limit")]])
  refine next_wp g2.p (by decide) (by decide) fun d s3 d0 d1 hp3 _ f3 => ?_
  have hl : s3[s1.length]? = some (.lst [.str (S "mkdir"), .str (S "create"), .str (S "seal"), .str (S "move"), .str (S "snapshot"), .str (S "append"), .str (S "limit")]) := f3.keep _ _ (by have := g1.p.lt; simp at this ⊢; omega) (by simp)
  obtain ⟨v, hv, ev⟩ := ix_new (t := s3) hl d0 (by simpa using d1)
  simp only [ev, ER.of_some, wp_ok, swp_nx]
  have hw : ∃ w, v = .str w ∧ w ∈ words := by
    simp only [List.mem_cons, List.not_mem_nil, or_false] at hv
    rcases hv with rfl | rfl | rfl | rfl | rfl | rfl | rfl <;> exact ⟨_, rfl, by decide⟩
  obtain ⟨w, rfl, hw⟩ := hw
  exact ⟨_, w, rfl, hw, g2.next f3 hp3⟩
def law2 : SF := Z.seq (Z.asg 3 (E.lst (E.cons (E.c (.bl false)) (E.cons (E.c (.bl false)) (E.nil))))) (Z.ite (T.val (E.bin O.eq (E.call l_next_M (E.cons (E.var 1) (E.cons (E.c (.int 3)) (E.nil)))) (E.c (.int 1)))) (Z.asg 3 (E.bin O.ix (E.lst (E.cons (E.lst (E.cons (E.c (.bl true)) (E.cons (E.c (.bl false)) (E.nil)))) (E.cons (E.lst (E.cons (E.c (.bl false)) (E.cons (E.c (.bl true)) (E.nil)))) (E.cons (E.lst (E.cons (E.c (.bl true)) (E.cons (E.c (.bl true)) (E.nil)))) (E.nil))))) (E.call l_next_M (E.cons (E.var 1) (E.cons (E.c (.int 3)) (E.nil)))))) (Z.nil))
theorem law2_wp {ns : List Int} {p : Nat} {w : List Nat} {s : Sto} {R : PV → Sto → Prop} (g : Gr ns p s) : (law2 (rr p w (no 10)) s).wp (fun ρ s' => ∃ nb b0 b1, ρ = rr p w (some (.ref nb) :: no 9) ∧ Flags nb b0 b1 s' ∧ Gr ns p s') R := by
  unfold law2
  have g1 := g.app (t := [SO.lst [.bl false, .bl false]])
  simp only [rr, no, List.replicate, z_seq, z_asg, z_ite, t_val, e_bin, e_lst, e_call, e_cons, e_nil, e_var, e_c, List.getElem?_cons_zero, List.getElem?_cons_succ, List.length_cons, List.length_nil, Nat.zero_add, Nat.reduceAdd, if_pos z2, ER.bind_ok, ER.thenS_ok, SR.next_nx, swp_next, wp_thenS, wp_bind, wp_ok, List.set]
  refine next_wp g1.p (by decide) (by decide) fun d s2 d0 d1 hp2 _ f2 => ?_
  have g2 := g1.next f2 hp2
  simp only [eq_ii, ER.of_some, wp_ok]
  cases hc : decide (d = 1) with
  | false =>
    simp only [wp_ok, if_false, Bool.false_eq_true, z_nil, swp_nx]
    exact ⟨_, false, false, rfl, f2.keep _ _ (by have := g.p.lt; simp at this ⊢; omega) (by simp), g2⟩
  | true =>
    simp only [wp_ok, if_true, if_pos z3, wp_thenS, wp_bind]
    have g3 := g2.app (t := [SO.lst [.bl true, .bl false]] ++ [SO.lst [.bl false, .bl true]] ++ [SO.lst [.bl true, .bl true]] ++ [SO.lst [.ref s2.length, .ref (s2 ++ [SO.lst [.bl true, .bl false]]).length, .ref (s2 ++ [SO.lst [.bl true, .bl false]] ++ [SO.lst [.bl false, .bl true]]).length]])
    simp only [← List.append_assoc] at g3
    refine next_wp g3.p (by decide) (by decide) fun e s4 e0 e1 hp4 _ f4 => ?_
    have g4 := g3.next f4 hp4
    have hlt := g2.p.lt
    have hl : s4[(s2 ++ [SO.lst [.bl true, .bl false]] ++ [SO.lst [.bl false, .bl true]] ++ [SO.lst [.bl true, .bl true]]).length]? = some (.lst [.ref s2.length, .ref (s2 ++ [SO.lst [.bl true, .bl false]]).length, .ref (s2 ++ [SO.lst [.bl true, .bl false]] ++ [SO.lst [.bl false, .bl true]]).length]) := f4.keep _ _ (by simp; omega) (by simp)
    obtain ⟨v, hv, ev⟩ := ix_new (t := s4) hl e0 (by simpa using e1)
    simp only [ev, ER.of_some, wp_ok, swp_nx]
    simp only [List.mem_cons, List.not_mem_nil, or_false] at hv
    rcases hv with rfl | rfl | rfl
    · exact ⟨_, true, false, rfl, f4.keep _ _ (by omega) (by simp [List.append_assoc]), g4⟩
    · exact ⟨_, false, true, rfl, f4.keep _ _ (by simp; omega) (by simp [List.append_assoc]), g4⟩
    · exact ⟨_, true, true, rfl, f4.keep _ _ (by simp; omega) (by simp [List.append_assoc]), g4⟩
end YL

set_option Elab.async false
set_option linter.all false
set_option maxRecDepth 100000
set_option maxHeartbeats 4000000
namespace YL
open Y PySem
def law3 : SF := Z.seq (Z.asg 4 (E.bin O.eq (E.call l_next_M (E.cons (E.var 1) (E.cons (E.c (.int 3)) (E.nil)))) (E.c (.int 1)))) (Z.seq (Z.asg 5 (E.call l_next_M (E.cons (E.var 1) (E.cons (E.bin O.pow (E.c (.int 10)) (E.c (.int 18))) (E.nil))))) (Z.ite (T.val (E.bin O.eq (E.call l_next_M (E.cons (E.var 1) (E.cons (E.c (.int 3)) (E.nil)))) (E.c (.int 1)))) (Z.asg 5 (E.bin O.ix (E.lst (E.cons (E.c (.int 0)) (E.cons (E.c (.int 1)) (E.cons (E.c (.int 9)) (E.cons (E.c (.int 10)) (E.cons (E.bin O.pow (E.c (.int 10)) (E.c (.int 17))) (E.cons (E.bin O.sub (E.bin O.pow (E.c (.int 10)) (E.c (.int 18))) (E.c (.int 1))) (E.nil)))))))) (E.call l_next_M (E.cons (E.var 1) (E.cons (E.c (.int 6)) (E.nil)))))) (Z.nil)))
theorem law3_wp {ns : List Int} {p nb : Nat} {b0 b1 : Bool} {w : List Nat} {s : Sto} {R : PV → Sto → Prop} (g : Gr ns p s) (hf : Flags nb b0 b1 s) :
    (law3 (rr p w (some (.ref nb) :: no 9)) s).wp (fun ρ s' => ∃ (sp : Bool) (m : Nat), ρ = rr p w (some (.ref nb) :: some (.bl sp) :: some (.int m) :: no 7) ∧ m < 1000000000000000000 ∧ Flags nb b0 b1 s' ∧ Gr ns p s') R := by
  unfold law3
  simp only [rr, no, List.replicate, z_seq, z_asg, z_ite, t_val, e_bin, e_lst, e_call, e_cons, e_nil, e_var, e_c, List.getElem?_cons_zero, List.getElem?_cons_succ, ER.bind_ok, swp_next, wp_thenS, wp_bind, wp_ok]
  refine next_wp g.p (by decide) (by decide) fun d s2 d0 d1 hp2 _ f2 => ?_
  have g2 := g.next f2 hp2
  have h2 := hf.keep f2 g.p
  simp only [eq_ii, ER.of_some, wp_ok, swp_nx, List.set, List.getElem?_cons_zero, List.getElem?_cons_succ, ER.bind_ok, pow18]
  refine next_wp g2.p (by decide) (by decide) fun m s3 m0 m1 hp3 _ f3 => ?_
  have g3 := g2.next f3 hp3
  have h3 := h2.keep f3 g2.p
  refine next_wp g3.p (by decide) (by decide) fun e s4 e0 e1 hp4 _ f4 => ?_
  have g4 := g3.next f4 hp4
  have h4 := h3.keep f4 g3.p
  simp only [eq_ii, ER.of_some, wp_ok]
  cases hc : decide (e = 1) with
  | false =>
    simp only [wp_ok, if_false, Bool.false_eq_true, z_nil, swp_nx]
    exact ⟨_, m.toNat, by rw [show (m.toNat : Int) = m by omega], by omega, h4, g4⟩
  | true =>
    have hsub : ∀ s : Sto, O.sub (.int 1000000000000000000) (.int 1) s = some (.int 999999999999999999, s) := fun s => rfl
    simp only [wp_ok, if_true, pow17, pow18, hsub, ER.of_some, ER.bind_ok, List.length_cons, List.length_nil, Nat.zero_add, Nat.reduceAdd, if_pos z6, wp_thenS, wp_bind]
    have g5 := g4.app (t := [SO.lst [.int 0, .int 1, .int 9, .int 10, .int 100000000000000000, .int 999999999999999999]])
    refine next_wp g5.p (by decide) (by decide) fun a s6 a0 a1 hp6 _ f6 => ?_
    have g6 := g5.next f6 hp6
    have h6 : Flags nb b0 b1 s6 := (show Flags nb b0 b1 _ from (Fr.app (p := fun _ => False)).keep _ _ (fun z => z) h4).keep f6 g5.p
    have hlt := g4.p.lt
    have hl : s6[s4.length]? = some (.lst [.int 0, .int 1, .int 9, .int 10, .int 100000000000000000, .int 999999999999999999]) := f6.keep _ _ (by omega) (by simp)
    obtain ⟨v, hv, ev⟩ := ix_new (t := s6) hl a0 (by simpa using a1)
    simp only [ev, ER.of_some, wp_ok, swp_nx]
    simp only [List.mem_cons, List.not_mem_nil, or_false] at hv
    rcases hv with rfl | rfl | rfl | rfl | rfl | rfl
    · exact ⟨_, 0, rfl, by decide, h6, g6⟩
    · exact ⟨_, 1, rfl, by decide, h6, g6⟩
    · exact ⟨_, 9, rfl, by decide, h6, g6⟩
    · exact ⟨_, 10, rfl, by decide, h6, g6⟩
    · exact ⟨_, 100000000000000000, rfl, by decide, h6, g6⟩
    · exact ⟨_, 999999999999999999, rfl, by decide, h6, g6⟩
/-- the paths drawn so far -/
def Paths (np : Nat) (b0 b1 : Bool) (xs : List (List Nat)) (s : Sto) : Prop := s[np]? = some (.lst (xs.map PV.str)) ∧ ∀ i x, xs[i]? = some x → isTxt (.str x) = true ∧ pathOk x = !(if i = 0 then b0 else b1)
abbrev turnP : SF := (Z.seq (Z.asg 1 (E.call l_pool_M (E.cons (E.var 0) (E.cons (E.bin O.add (E.c (.int 1)) (E.var 7)) (E.nil))))) (Z.ite (T.tru (E.bin O.ix (E.var 3) (E.var 7))) (Z.drop (E.bmT "list" O.append (E.var 6) (E.cons (E.call l_bad_path_M (E.cons (E.var 1) (E.nil))) (E.nil)))) (Z.drop (E.bmT "list" O.append (E.var 6) (E.cons (E.call l_path_M (E.cons (E.var 1) (E.nil))) (E.nil))))))
def law4 : SF := Z.seq (Z.asg 6 (E.lst (E.nil))) (Z.forR1 (G.name 7) (E.cons (E.c (.int 2)) (E.nil)) turnP)
theorem app_list {s : Sto} {n : Nat} {ps : List PV} {v : PV} (h : s[n]? = some (.lst ps)) (hl : ps.length ≤ 1000) : O.append (.ref n) [v] s = some (.non, s.set n (.lst (ps ++ [v]))) := by
  show (match s[n]? with | some (.lst ps) => if ps.length < sizeLine then some (PV.non, s.set n (.lst (ps ++ [v]))) else none | _ => none) = _
  rw [h]
  exact if_pos (by rw [sizeLine_eq]; omega)
theorem ix_bl {s : Sto} {nb : Nat} {b0 b1 : Bool} (h : Flags nb b0 b1 s) (i : Nat) (hi : i < 2) : O.ix (.ref nb) (.int i) s = some (.bl (if i = 0 then b0 else b1), s) := by
  show (match s[nb]? with | some (.lst ps) => (L2.atI ps (i : Int)).map fun v => (v, s) | some (.frz ps) => (L2.atI ps (i : Int)).map fun v => (v, s) | _ => none) = _
  rw [show s[nb]? = _ from h]
  have : i = 0 ∨ i = 1 := by omega
  rcases this with rfl | rfl <;> rfl
theorem ty_list {s : Sto} {n : Nat} {ps : List PV} (h : s[n]? = some (.lst ps)) : O.tyOf (.ref n) s = some (.t "list") := by
  show (match s[n]? with | some (.lst _) => some (TyN.t "list") | some (.frz _) => some (.t "list") | some (.dct _) => some (.t "dict") | some (.set _) => some (.t "set") | some (.ins C _) => some (.own C) | none => none) = _
  rw [h]
def InvQ (ns : List Int) (nb np : Nat) (b0 b1 : Bool) (w : List Nat) (sp : Bool) (m : Nat) (j : Nat) (ρ : Rho) (s : Sto) : Prop := ∃ p v7 xs, ρ = rr p w (some (.ref nb) :: some (.bl sp) :: some (.int m) :: some (.ref np) :: v7 :: no 5) ∧ xs.length = j ∧ Paths np b0 b1 xs s ∧ Flags nb b0 b1 s ∧ Gr ns p s
theorem turn_wp {ns : List Int} {p nb np j : Nat} {b0 b1 sp : Bool} {w : List Nat} {m : Nat} {xs : List (List Nat)} {s : Sto} {R : PV → Sto → Prop} (hj : j < 2) (hx : xs.length = j) (hP : Paths np b0 b1 xs s) (hf : Flags nb b0 b1 s) (g : Gr ns p s) :
    (turnP (rr p w (some (.ref nb) :: some (.bl sp) :: some (.int m) :: some (.ref np) :: some (.int j) :: no 5)) s).wp (InvQ ns nb np b0 b1 w sp m (j + 1)) R := by
  have e1 : ((1 : Int) + (j : Int)) = ((1 + j : Nat) : Int) := by omega
  simp only [turnP, rr, no, List.replicate, z_seq, z_asg, z_ite, e_call, e_cons, e_nil, e_bin, e_var, e_c, List.getElem?_cons_zero, List.getElem?_cons_succ, ER.bind_ok, add_i, ER.of_some, swp_next, wp_thenS, wp_bind, wp_ok, e1]
  refine pool_new (k := 1 + j) g.b (by omega) fun s2 g2 f2 => ?_
  have h2 : Flags nb b0 b1 s2 := f2.keep _ _ (fun z => z) hf
  have P2 : s2[np]? = some (.lst (xs.map PV.str)) := f2.keep _ _ (fun z => z) hP.1
  simp only [swp_nx, List.set, t_tru, e_bin, e_var, List.getElem?_cons_zero, List.getElem?_cons_succ, ER.bind_ok, ix_bl h2 j hj, ER.of_some, t_bl, wp_ok]
  have hnp : np < s.length := (List.getElem?_eq_some_iff.mp hP.1).1
  have fin : ∀ x s3, isTxt (.str x) = true → pathOk x = (!(if j = 0 then b0 else b1)) → Pool s3 s.length → Fr (· = s.length) s2 s3 → InvQ ns nb np b0 b1 w sp m (j + 1) (rr s.length w (some (.ref nb) :: some (.bl sp) :: some (.int m) :: some (.ref np) :: some (.int j) :: no 5)) (s3.set np (.lst (xs.map PV.str ++ [.str x]))) := fun x s3 hx1 hx2 hp3 f3 => by
    have P3 : s3[np]? = some (.lst (xs.map PV.str)) := f3.keep _ _ (by omega) P2
    have h3 := h2.keep f3 g2.p
    have g3 := g2.next f3 hp3
    have hlt := (List.getElem?_eq_some_iff.mp P3).1
    have nenb : np ≠ nb := fun z => by
      subst z
      rw [show s3[np]? = _ from h3] at P3
      cases xs with
      | nil => cases P3
      | cons y ys => cases P3
    have ne0 : np ≠ 0 := fun z => by
      subst z
      rw [g3.b] at P3
      cases P3
    have nep : np ≠ s.length := by omega
    refine ⟨s.length, some (.int j), xs ++ [x], rfl, by simp [hx], ⟨?_, fun i y hy => ?_⟩, ?_, ?_, ?_⟩
    · rw [List.getElem?_set_self hlt, List.map_append]
      rfl
    · by_cases hi : i < xs.length
      · rw [List.getElem?_append_left hi] at hy
        exact hP.2 i y hy
      · rw [List.getElem?_append_right (by omega)] at hy
        have hi2 : i - xs.length = 0 := by
          have := (List.getElem?_eq_some_iff.mp hy).1
          simp at this
          omega
        rw [hi2] at hy
        have ey : x = y := by simpa using hy
        subst ey
        have : i = j := by omega
        subst this
        exact ⟨hx1, hx2⟩
    · show (s3.set np _)[nb]? = _
      rw [List.getElem?_set_ne nenb]
      exact h3
    · rw [List.getElem?_set_ne ne0]
      exact g3.b
    · obtain ⟨v, hv, h | ⟨h, hb⟩⟩ := hp3
      · exact ⟨v, hv, .inl (by rw [List.getElem?_set_ne nep]; exact h)⟩
      · exact ⟨v, hv, .inr ⟨by rw [List.getElem?_set_ne nep]; exact h, hb⟩⟩
  have hxl : (xs.map PV.str).length ≤ 1000 := by rw [List.length_map]; omega
  cases hb : (if j = 0 then b0 else b1) with
  | true =>
    simp only [wp_ok, if_true, z_drop, wp_thenS, E.bmT, e_var, List.getElem?_cons_zero, List.getElem?_cons_succ, ER.bind_ok, ty_list P2, e_cons, e_nil, e_call, wp_bind]
    refine bad_path_wp g2.p fun x s3 hx1 hx2 hp3 f3 => ?_
    have P3 : s3[np]? = some (.lst (xs.map PV.str)) := f3.keep _ _ (by omega) P2
    simp only [wp_ok, app_list P3 hxl, ER.of_some, swp_nx]
    exact fin x s3 hx1 (by rw [hx2, hb]; rfl) hp3 f3
  | false =>
    simp only [wp_ok, if_false, Bool.false_eq_true, z_drop, wp_thenS, E.bmT, e_var, List.getElem?_cons_zero, List.getElem?_cons_succ, ER.bind_ok, ty_list P2, e_cons, e_nil, e_call, wp_bind, if_true]
    refine path_wp g2.p fun qs s3 hl hqs hp3 f3 => ?_
    have P3 : s3[np]? = some (.lst (xs.map PV.str)) := f3.keep _ _ (by omega) P2
    obtain ⟨c1, c2, _⟩ := pathT_txt hl hqs
    simp only [wp_ok, app_list P3 hxl, ER.of_some, swp_nx]
    exact fin _ s3 (txt_of (by omega) c2) (by rw [pathT_ok hl hqs, hb]; rfl) hp3 f3
theorem law4_wp {ns : List Int} {p nb : Nat} {b0 b1 sp : Bool} {w : List Nat} {m : Nat} {s : Sto} {R : PV → Sto → Prop} (g : Gr ns p s) (hf : Flags nb b0 b1 s) :
    (law4 (rr p w (some (.ref nb) :: some (.bl sp) :: some (.int m) :: no 7)) s).wp (fun ρ s' => ∃ p v7 np x0 x1, ρ = rr p w (some (.ref nb) :: some (.bl sp) :: some (.int m) :: some (.ref np) :: v7 :: no 5) ∧ Paths np b0 b1 [x0, x1] s' ∧ Flags nb b0 b1 s' ∧ Gr ns p s') R := by
  unfold law4
  simp only [rr, no, List.replicate, z_seq, z_asg, e_lst, e_nil, ER.bind_ok, List.length_nil, if_pos z0, ER.thenS_ok, SR.next_nx, List.set]
  simp only [Z.forR1, e_cons, e_c, e_nil, ER.bind_ok, ER.thenS_ok]
  rw [if_pos (by decide)]
  have hr : (Z.rng 0 (2 : Int).toNat) = [.int 0, .int 1] := rfl
  rw [hr]
  refine forP_wp2 (InvQ ns nb s.length b0 b1 w sp m) ⟨p, none, [], rfl, rfl, ⟨by simp, by simp⟩, (Fr.app (p := fun _ => False)).keep _ _ (fun z => z) hf, g.app⟩ (fun i q ρ s' hq hI => ?_) fun ρ s' hI => ?_
  · obtain ⟨p', v7, xs, rfl, hx, hP, hf', g'⟩ := hI
    have hi : i < 2 := (List.getElem?_eq_some_iff.mp hq).1
    have eq : q = .int i := by
      have : i = 0 ∨ i = 1 := by omega
      rcases this with rfl | rfl <;> (simp at hq; exact hq.symm)
    subst eq
    exact ⟨_, s', rfl, turn_wp hi hx hP hf' g'⟩
  · obtain ⟨p', v7, xs, rfl, hx, hP, hf', g'⟩ := hI
    match xs, hx with
    | [x0, x1], _ => exact ⟨p', v7, s.length, x0, x1, rfl, hP, hf', g'⟩
end YL

set_option Elab.async false
set_option linter.all false
set_option maxRecDepth 100000
set_option maxHeartbeats 4000000
namespace YL
open Y PySem
theorem words3 : ∀ w ∈ words, one (.str w) = false → w ≠ S "limit" → (two (.str w) || isS "append" (.str w)) = true := by decide
theorem isTxt_item {c : PV} (h : isTxt c = true) : isItem c = true := by
  show (isInt c || isTxt c) = true
  rw [h, Bool.or_true]
theorem form_two {w : List Nat} {P : PV} (hw : w ∈ words) (h1 : one (.str w) = true) (hP : isTxt P = true) : hasForm (.tup [.str w, P]) = true := by
  obtain ⟨w1, w2, w3, w4, _⟩ := words_ok w hw
  have hd : isDeed (.tup [.str w, P]) = true := by
    show (decide (1 ≤ 2 ∧ 2 ≤ 4) && ((isItem (.str w) && (isItem P && true)) && (isTxt (.str w) && !isEmp (.str w)))) = true
    rw [isTxt_item w3, isTxt_item hP, w3]
    cases w with
    | nil => exact absurd rfl w4
    | cons _ _ => rfl
  show (isDeed _ && (isTxt P && one (.str w))) = true
  rw [hd, hP, h1]
  rfl
theorem form_three {w : List Nat} {P c : PV} (hw : w ∈ words) (h1 : one (.str w) = false) (hP : isTxt P = true) (hc : isItem c = true) (ht : tOk w c = true) : hasForm (.tup [.str w, P, c]) = true := by
  obtain ⟨w1, w2, w3, w4, _⟩ := words_ok w hw
  have hd : isDeed (.tup [.str w, P, c]) = true := by
    show (decide (1 ≤ 3 ∧ 3 ≤ 4) && ((isItem (.str w) && (isItem P && (isItem c && true))) && (isTxt (.str w) && !isEmp (.str w)))) = true
    rw [isTxt_item w3, isTxt_item hP, hc, w3]
    cases w with
    | nil => exact absurd rfl w4
    | cons _ _ => rfl
  show (isDeed _ && (isTxt P && (!one (.str w) && (if isS "limit" (.str w) = true then isNum c && decide (digs c ≤ 18) else (two (.str w) || isS "append" (.str w)) && isTxt c)))) = true
  rw [hd, hP, h1]
  unfold tOk at ht
  by_cases e : w = S "limit"
  · rw [if_pos e] at ht
    rw [if_pos (show isS "limit" (.str w) = true from decide_eq_true e), ht]
    rfl
  · rw [if_neg e] at ht
    rw [if_neg (by rw [show isS "limit" (.str w) = false from decide_eq_false e]; exact Bool.false_ne_true), ht, words3 w hw h1 e]
    rfl
/-- what stands when the deed and what is due of it are put together -/
structure Made (ns : List Int) (nb : Nat) (b0 b1 : Bool) (w : List Nat) (P : PV) (r : List PV) (n9 : Nat) (s : Sto) : Prop where
  d : DeedOk w P r
  f : hasForm (.tup (.str w :: P :: r)) = true
  o : pathsOk (.tup (.str w :: P :: r)) = (!b0 && (!two (.str w) || !b1))
  n : s[n9]? = some (.lst [.str (due (.tup (.str w :: P :: r)))])
  fl : Flags nb b0 b1 s
  g : s[0]? = some (.frz (ns.map PV.int))
theorem ixP {s : Sto} {np : Nat} {b0 b1 : Bool} {x0 x1 : List Nat} (h : Paths np b0 b1 [x0, x1] s) : O.ix (.ref np) (.int 0) s = some (.str x0, s) ∧ O.ix (.ref np) (.int 1) s = some (.str x1, s) := ⟨ixA h.1, ixB h.1⟩
def law5 : SF := Z.seq (Z.asg 8 (E.tup (E.cons (E.var 2) (E.cons (E.bin O.ix (E.var 6) (E.c (.int 0))) (E.nil))))) (Z.seq (Z.asg 9 (E.lst (E.cons (E.bin O.add (E.bin O.add (E.var 2) (E.c (.str (S " ")))) (E.bin O.ix (E.var 6) (E.c (.int 0)))) (E.nil)))) (Z.seq (Z.ite (T.val (E.bin O.eq (E.var 2) (E.c (.str (S "append"))))) (Z.seq (Z.asg 10 (E.call l_some_text_M (E.cons (E.call l_pool_M (E.cons (E.var 0) (E.cons (E.c (.int 3)) (E.nil)))) (E.cons (E.c (.int 200)) (E.nil))))) (Z.seq (Z.asg 8 (E.tup (E.cons (E.var 2) (E.cons (E.bin O.ix (E.var 6) (E.c (.int 0))) (E.cons (E.var 10) (E.nil)))))) (Z.asg 9 (E.lst (E.cons (E.bin O.add (E.bin O.add (E.bin O.add (E.bin O.add (E.var 2) (E.c (.str (S " ")))) (E.bin O.ix (E.var 6) (E.c (.int 0)))) (E.c (.str (S " ")))) (E.var 10)) (E.nil)))))) (Z.nil)) (Z.seq (Z.ite (T.val (E.bin O.eq (E.var 2) (E.c (.str (S "limit"))))) (Z.seq (Z.asg 8 (E.tup (E.cons (E.var 2) (E.cons (E.bin O.ix (E.var 6) (E.c (.int 0))) (E.cons (E.var 5) (E.nil)))))) (Z.asg 9 (E.lst (E.cons (E.bin O.add (E.bin O.add (E.bin O.add (E.bin O.add (E.var 2) (E.c (.str (S " ")))) (E.bin O.ix (E.var 6) (E.c (.int 0)))) (E.c (.str (S " ")))) (E.blt O.str1 (E.cons (E.var 5) (E.nil)))) (E.nil))))) (Z.nil)) (Z.ite (T.or (T.val (E.bin O.eq (E.var 2) (E.c (.str (S "move"))))) (T.val (E.bin O.eq (E.var 2) (E.c (.str (S "snapshot")))))) (Z.seq (Z.asg 8 (E.tup (E.cons (E.var 2) (E.cons (E.bin O.ix (E.var 6) (E.c (.int 0))) (E.cons (E.bin O.ix (E.var 6) (E.c (.int 1))) (E.nil)))))) (Z.asg 9 (E.lst (E.cons (E.bin O.add (E.bin O.add (E.bin O.add (E.bin O.add (E.var 2) (E.c (.str (S " ")))) (E.bin O.ix (E.var 6) (E.c (.int 0)))) (E.c (.str (S " ")))) (E.bin O.ix (E.var 6) (E.c (.int 1)))) (E.nil))))) (Z.nil)))))
theorem txt_len {x : List Nat} (h : isTxt (.str x) = true) : x.length ≤ 200 := by
  have h' : (decide (x.length ≤ 200) && x.all chT) = true := h
  rw [Bool.and_eq_true, decide_eq_true_eq] at h'
  exact h'.1
theorem words_kind : ∀ w ∈ words, (one (.str w) = true ∧ w ≠ S "append" ∧ w ≠ S "limit" ∧ w ≠ S "move" ∧ w ≠ S "snapshot" ∧ two (.str w) = false) ∨ (w = S "append") ∨ (w = S "limit") ∨ ((w = S "move" ∨ w = S "snapshot") ∧ one (.str w) = false ∧ w ≠ S "append" ∧ w ≠ S "limit" ∧ two (.str w) = true) := by decide
theorem law5_wp {ns : List Int} {p nb np : Nat} {b0 b1 sp : Bool} {w : List Nat} {m : Nat} {v7 : Option PV} {x0 x1 : List Nat} {s : Sto} {R : PV → Sto → Prop} (hw : w ∈ words) (hm : m < 1000000000000000000) (g : Gr ns p s) (hf : Flags nb b0 b1 s) (hP : Paths np b0 b1 [x0, x1] s) :
    (law5 (rr p w (some (.ref nb) :: some (.bl sp) :: some (.int m) :: some (.ref np) :: v7 :: no 5)) s).wp (fun ρ s' => ∃ p r n9 v10, ρ = rr p w (some (.ref nb) :: some (.bl sp) :: some (.int m) :: some (.ref np) :: v7 :: some (.tup (.str w :: .str x0 :: r)) :: some (.ref n9) :: v10 :: no 2) ∧ Made ns nb b0 b1 w (.str x0) r n9 s') R := by
  obtain ⟨w1, w2, w3, w4, _⟩ := words_ok w hw
  have t0 := hP.2 0 x0 rfl
  have t1 := hP.2 1 x1 rfl
  have k0 : pathOk x0 = !b0 := t0.2
  have k1 : pathOk x1 = !b1 := t1.2
  have len0 := txt_len t0.1
  have len1 := txt_len t1.1
  have sp1 : (S " ").length = 1 := by decide
  have j2 : due (.tup [.str w, .str x0]) = w ++ S " " ++ x0 := by
    show w ++ ([32] ++ x0) = _
    rw [List.append_assoc]; rfl
  have j3 : ∀ c : PV, due (.tup [.str w, .str x0, c]) = w ++ S " " ++ x0 ++ S " " ++ strOf c := fun c => by
    show w ++ ([32] ++ (x0 ++ ([32] ++ strOf c))) = _
    simp only [List.append_assoc]; rfl
  have a1 : ∀ s, O.add (.str w) (.str (S " ")) s = some (.str (w ++ S " "), s) := fun s => add_s (by omega)
  have a2 : ∀ s, O.add (.str (w ++ S " ")) (.str x0) s = some (.str (w ++ S " " ++ x0), s) := fun s => add_s (by rw [List.length_append]; omega)
  have a3 : ∀ s, O.add (.str (w ++ S " " ++ x0)) (.str (S " ")) s = some (.str (w ++ S " " ++ x0 ++ S " "), s) := fun s => add_s (by rw [List.length_append, List.length_append]; omega)
  have a4 : ∀ (y : List Nat) s, y.length ≤ 1000 → O.add (.str (w ++ S " " ++ x0 ++ S " ")) (.str y) s = some (.str (w ++ S " " ++ x0 ++ S " " ++ y), s) := fun y s hy => add_s (by rw [List.length_append, List.length_append, List.length_append]; omega)
  unfold law5
  have i0 := (ixP hP).1
  simp only [rr, no, List.replicate, z_seq, z_asg, e_tup, e_lst, e_cons, e_nil, e_bin, e_var, e_c, List.getElem?_cons_zero, List.getElem?_cons_succ, ER.bind_ok, i0, ER.of_some, List.length_cons, List.length_nil, Nat.zero_add, Nat.reduceAdd, if_pos z2, if_pos z1, ER.thenS_ok, SR.next_nx, List.set, a1, a2]
  have g1 := g.app (t := [SO.lst [.str (w ++ S " " ++ x0)]])
  have P1 : Paths np b0 b1 [x0, x1] (s ++ [SO.lst [.str (w ++ S " " ++ x0)]]) := ⟨(Fr.app (p := fun _ => False)).keep _ _ (fun z => z) hP.1, hP.2⟩
  have F1 : Flags nb b0 b1 (s ++ [SO.lst [.str (w ++ S " " ++ x0)]]) := (Fr.app (p := fun _ => False)).keep _ _ (fun z => z) hf
  have N1 : (s ++ [SO.lst [.str (w ++ S " " ++ x0)]])[s.length]? = some (.lst [.str (w ++ S " " ++ x0)]) := by simp
  generalize s ++ [SO.lst [.str (w ++ S " " ++ x0)]] = s1 at g1 P1 F1 N1
  have i1 := ixP P1
  have eqw : ∀ (z : String) (h : okT (S z) = true) (s : Sto), O.eq (.str w) (.str (S z)) s = some (.bl (decide (w = S z)), s) := fun z h s => eq_ss w2 h s
  rcases words_kind w hw with ⟨ho, na, nl, nm, nsn, nt⟩ | ea | el | ⟨hms, ho, na, nl, ht⟩
  · simp only [z_seq, z_ite, t_val, t_or, e_bin, e_var, e_c, List.getElem?_cons_zero, List.getElem?_cons_succ, ER.bind_ok, eqw "append" (by decide), eqw "limit" (by decide), eqw "move" (by decide), eqw "snapshot" (by decide), decide_eq_false na, decide_eq_false nl, decide_eq_false nm, decide_eq_false nsn, ER.of_some, ER.thenS_ok, if_false, Bool.false_eq_true, z_nil, SR.next_nx]
    refine .nx ⟨p, [], s.length, none, rfl, ⟨⟨hw, t0.1, .inl ⟨rfl, ho⟩⟩, form_two hw ho t0.1, ?_, by rw [j2]; exact N1, F1, g1.b⟩⟩
    show (pOk (.str x0) && (!two (.str w) || _)) = _
    rw [nt, show pOk (.str x0) = pathOk x0 from rfl, k0]
    simp
  · have ho : one (.str w) = false := by rw [ea]; decide
    have nl : ¬ w = S "limit" := by rw [ea]; decide
    have nm : ¬ w = S "move" := by rw [ea]; decide
    have nsn : ¬ w = S "snapshot" := by rw [ea]; decide
    have nt : two (.str w) = false := by rw [ea]; decide
    simp only [z_ite, t_val, e_bin, e_var, e_c, List.getElem?_cons_zero, List.getElem?_cons_succ, ER.bind_ok, eqw "append" (by decide), decide_eq_true ea, ER.of_some, ER.thenS_ok, if_true, z_seq, z_asg, e_call, e_cons, e_nil, swp_next, wp_thenS, wp_bind, wp_ok]
    refine pool_new (k := 3) g1.b (by decide) fun s2 g2 f2 => ?_
    refine some_text_wp g2.p (by decide) (by decide) fun x s3 hx hxc hp3 f3 => ?_
    have hx' : x.length ≤ 200 := hx
    have hn1 := (List.getElem?_eq_some_iff.mp P1.1).1
    have P2 := f2.keep _ _ (fun z => z) P1.1
    have P3 : Paths np b0 b1 [x0, x1] s3 := ⟨f3.keep _ _ (by omega) P2, P1.2⟩
    have F3 : Flags nb b0 b1 s3 := (show Flags nb b0 b1 s2 from f2.keep _ _ (fun z => z) F1).keep f3 g2.p
    have g3 := g2.next f3 hp3
    have i3 := ixP P3
    simp only [swp_nx, List.set, wp_thenS, e_tup, e_lst, e_cons, e_nil, e_bin, e_var, e_c, List.getElem?_cons_zero, List.getElem?_cons_succ, ER.bind_ok, i3.1, ER.of_some, List.length_cons, List.length_nil, Nat.zero_add, Nat.reduceAdd, if_pos z3, if_pos z1, wp_ok, a1, a2, a3, a4 x s3 (by omega), z_ite, t_val, t_or, eqw "limit" (by decide), eqw "move" (by decide), eqw "snapshot" (by decide), decide_eq_false nl, decide_eq_false nm, decide_eq_false nsn, ER.thenS_ok, if_false, Bool.false_eq_true, z_nil, SR.next_nx]
    have hxt := txt_of hx' hxc
    refine ⟨_, [.str x], s3.length, _, rfl, ⟨⟨hw, t0.1, .inr ⟨.str x, rfl, ho, by rw [hxt]; rfl⟩⟩, form_three hw ho t0.1 (isTxt_item hxt) (by unfold tOk; rw [if_neg nl]; exact hxt), ?_, ?_, (Fr.app (p := fun _ => False)).keep _ _ (fun z => z) F3, g3.app.b⟩⟩
    · show (pOk (.str x0) && (!two (.str w) || _)) = _
      rw [nt, show pOk (.str x0) = pathOk x0 from rfl, k0]
      simp
    · rw [j3]
      exact last_get
  · have ho : one (.str w) = false := by rw [el]; decide
    have na : ¬ w = S "append" := by rw [el]; decide
    have nm : ¬ w = S "move" := by rw [el]; decide
    have nsn : ¬ w = S "snapshot" := by rw [el]; decide
    have nt : two (.str w) = false := by rw [el]; decide
    have hst : O.str1 [.int (m : Int)] s1 = some (.str (S (toString (m : Int))), s1) := num_str1 (by omega)
    have hdl : digs (.int (m : Int)) ≤ 18 := (digs_le m 18 (by decide)).mpr (by omega)
    have hsl : (S (toString (m : Int))).length ≤ 1000 := by
      have h3 : (S (toString (m : Int))).length = digs (.int (m : Int)) := rfl
      omega
    have hnum : isNum (.int (m : Int)) = true := decide_eq_true (by omega)
    simp only [z_ite, t_val, t_or, e_bin, e_var, e_c, List.getElem?_cons_zero, List.getElem?_cons_succ, ER.bind_ok, eqw "append" (by decide), eqw "limit" (by decide), eqw "move" (by decide), eqw "snapshot" (by decide), decide_eq_true el, decide_eq_false na, decide_eq_false nm, decide_eq_false nsn, ER.of_some, ER.thenS_ok, if_true, if_false, Bool.false_eq_true, z_nil, SR.next_nx, z_seq, z_asg, e_tup, e_lst, e_blt, e_cons, e_nil, i1.1, hst, List.set, List.length_cons, List.length_nil, Nat.zero_add, Nat.reduceAdd, if_pos z3, if_pos z1, a1, a2, a3, a4 _ s1 hsl]
    refine .nx ⟨p, [.int m], s1.length, none, rfl, ⟨⟨hw, t0.1, .inr ⟨.int m, rfl, ho, by rw [hnum]; rfl⟩⟩, form_three hw ho t0.1 (by show (isInt _ || _) = true; rw [show isInt (.int (m : Int)) = true from decide_eq_true (by omega)]; rfl) (by unfold tOk; rw [if_pos el, hnum, decide_eq_true hdl]; rfl), ?_, ?_, (Fr.app (p := fun _ => False)).keep _ _ (fun z => z) F1, g1.app.b⟩⟩
    · show (pOk (.str x0) && (!two (.str w) || _)) = _
      rw [nt, show pOk (.str x0) = pathOk x0 from rfl, k0]
      simp
    · rw [j3]
      simp [strOf]
  · have hor : (decide (w = S "move") || decide (w = S "snapshot")) = true := by
      rcases hms with e | e
      · rw [decide_eq_true e]; rfl
      · rw [decide_eq_true e, Bool.or_true]
    have ite_or : (T.or (T.val (E.bin O.eq (E.var 2) (E.c (.str (S "move"))))) (T.val (E.bin O.eq (E.var 2) (E.c (.str (S "snapshot")))))) [some (.ref 0), some (.ref p), some (.str w), some (.ref nb), some (.bl sp), some (.int m), some (.ref np), v7, some (.tup [.str w, .str x0]), some (.ref s.length), none, none, none] s1 = .ok true s1 := by
      simp only [t_or, t_val, e_bin, e_var, e_c, List.getElem?_cons_zero, List.getElem?_cons_succ, ER.bind_ok, eqw "move" (by decide), eqw "snapshot" (by decide), ER.of_some]
      cases h1 : decide (w = S "move") with
      | true => rfl
      | false =>
        rw [h1, Bool.false_or] at hor
        rw [hor]
        rfl
    simp only [z_ite, ite_or, t_val, e_bin, e_var, e_c, List.getElem?_cons_zero, List.getElem?_cons_succ, ER.bind_ok, eqw "append" (by decide), eqw "limit" (by decide), decide_eq_false na, decide_eq_false nl, ER.of_some, ER.thenS_ok, if_true, if_false, Bool.false_eq_true, z_nil, SR.next_nx, z_seq, z_asg, e_tup, e_lst, e_cons, e_nil, i1.1, i1.2, List.set, List.length_cons, List.length_nil, Nat.zero_add, Nat.reduceAdd, if_pos z3, if_pos z1, a1, a2, a3, a4 x1 s1 (by omega)]
    refine .nx ⟨p, [.str x1], s1.length, none, rfl, ⟨⟨hw, t0.1, .inr ⟨.str x1, rfl, ho, by rw [t1.1]; rfl⟩⟩, form_three hw ho t0.1 (isTxt_item t1.1) (by unfold tOk; rw [if_neg nl]; exact t1.1), ?_, ?_, (Fr.app (p := fun _ => False)).keep _ _ (fun z => z) F1, g1.app.b⟩⟩
    · show (pOk (.str x0) && (!two (.str w) || pOk (.str x1))) = _
      rw [ht, show pOk (.str x0) = pathOk x0 from rfl, show pOk (.str x1) = pathOk x1 from rfl, k0, k1]
    · rw [j3]
      simp [strOf]
end YL

set_option Elab.async false
set_option linter.all false
set_option maxRecDepth 100000
set_option maxHeartbeats 4000000
namespace YL
open Y PySem
/-- what is asked for v: dv -/
def Exp (v dv : PV) (s : Sto) : Prop := if hasForm v = true then (if pathsOk v = true then ∃ n, dv = .ref n ∧ s[n]? = some (.lst [.str (due v)]) else dv = .str (S "path")) else dv = .str (S "command")
structure Fin (v dv : PV) (sp : Bool) (s : Sto) : Prop where
  t : Bt v s
  i : ∀ ps, v = .tup ps → ∀ q ∈ ps, BS q s
  e : Exp v dv s
  f : sp = true ∨ hasForm v = true
def law6 : SF := Z.ite (T.or (T.tru (E.bin O.ix (E.var 3) (E.c (.int 0)))) (T.and (T.tru (E.bin O.ix (E.var 3) (E.c (.int 1)))) (T.val (E.bin O.inY (E.var 2) (E.lst (E.cons (E.c (.str (S "move"))) (E.cons (E.c (.str (S "snapshot"))) (E.nil)))))))) (Z.asg 9 (E.c (.str (S "path")))) (Z.nil)
theorem in_ref2 {x : List Nat} {s : Sto} {n : Nat} (h : s[n]? = some (.lst [.str (S "move"), .str (S "snapshot")])) : O.inY (.str x) (.ref n) s = some (.bl (two (.str x)), s) := by
  show (match s[n]? with | some (.lst ys) => (match O.inL (.str x) ys with | some b => some (PV.bl b, s) | none => (match O.dat s 60 (.str x), O.dat s 59 (.ref n) with | some d, some (.list ds) => some (.bl (ds.any fun z => PyData.eqv z d), s) | _, _ => none)) | some (.frz ys) => (O.inL (.str x) ys).map fun b => (.bl b, s) | _ => none) = _
  rw [h]
  simp only [O.inL, O.flatP, List.all_cons, List.all_nil, Bool.and_self, if_true, List.any_cons, List.any_nil, O.eqP, Bool.or_false, two]
theorem Bt.app {v : PV} {s t : Sto} (h : Bt v s) : Bt v (s ++ t) := by
  obtain ⟨T, e⟩ := h
  refine ⟨T, ?_⟩
  cases v with
  | ref n =>
    unfold O.tyOf at e ⊢
    cases q : s[n]? with
    | none => simp only [q] at e; cases e
    | some o =>
      have q' : (s ++ t)[n]? = some o := (Fr.app (p := fun _ => False)).keep _ _ (fun z => z) q
      simp only [q'] 
      simp only [q] at e
      exact e
  | _ => exact e
theorem BS.app {v : PV} {s t : Sto} (h : BS v s) : BS v (s ++ t) := ⟨Bt.app h.1, h.2⟩
theorem Fin.app {v dv : PV} {sp : Bool} {s t : Sto} (h : Fin v dv sp s) : Fin v dv sp (s ++ t) := by
  refine ⟨h.t.app, fun ps e q hq => (h.i ps e q hq).app, ?_, h.f⟩
  have e := h.e
  unfold Exp at e ⊢
  split at e
  · split at e
    · rename_i c1 c2
      rw [if_pos c1, if_pos c2]
      obtain ⟨n, e1, e2⟩ := e
      exact ⟨n, e1, (Fr.app (p := fun _ => False)).keep _ _ (fun z => z) e2⟩
    · rename_i c1 c2
      rw [if_pos c1, if_neg c2]
      exact e
  · rename_i c1
    rw [if_neg c1]
    exact e
theorem Made.bt {ns : List Int} {nb n9 : Nat} {b0 b1 : Bool} {w : List Nat} {P : PV} {r : List PV} {s : Sto} (h : Made ns nb b0 b1 w P r n9 s) (s' : Sto) : Bt (.tup (.str w :: P :: r)) s' ∧ ∀ q ∈ (PV.str w :: P :: r), BS q s' := by
  refine ⟨⟨"tuple", rfl⟩, fun q hq => ?_⟩
  obtain ⟨w1, w2, w3, _⟩ := words_ok w h.d.hw
  rcases List.mem_cons.mp hq with e | hq
  · rw [e]; exact BS.item (by rw [w3]; rfl)
  · rcases List.mem_cons.mp hq with e | hq
    · rw [e]; exact BS.item (by rw [h.d.hP]; rfl)
    · rcases h.d.hr with ⟨e, _⟩ | ⟨c, e, _, hc⟩
      · subst e; simp at hq
      · subst e
        have : q = c := by simpa using hq
        subst this
        exact BS.item hc
abbrev r13 (p : Nat) (w : List Nat) (v3 v4 v5 v6 v7 v8 v9 v10 v11 v12 : Option PV) : Rho := [some (.ref 0), some (.ref p), some (.str w), v3, v4, v5, v6, v7, v8, v9, v10, v11, v12]
theorem law6_wp {ns : List Int} {p nb np n9 : Nat} {b0 b1 sp : Bool} {w : List Nat} {P : PV} {r : List PV} {v5 v6 v7 v10 : Option PV} {s : Sto} {R : PV → Sto → Prop} (M : Made ns nb b0 b1 w P r n9 s) :
    (law6 (r13 p w (some (.ref nb)) (some (.bl sp)) v5 v6 v7 (some (.tup (.str w :: P :: r))) (some (.ref n9)) v10 none none) s).wp (fun ρ s' => ∃ dv, ρ = r13 p w (some (.ref nb)) (some (.bl sp)) v5 v6 v7 (some (.tup (.str w :: P :: r))) (some dv) v10 none none ∧ Fin (.tup (.str w :: P :: r)) dv sp s' ∧ s'[0]? = some (.frz (ns.map PV.int)) ∧ DeedOk w P r) R := by
  have bt := M.bt
  have i0 : O.ix (.ref nb) (.int 0) s = some (.bl b0, s) := ix_bl M.fl 0 (by decide)
  have i1 : O.ix (.ref nb) (.int 1) s = some (.bl b1, s) := ix_bl M.fl 1 (by decide)
  have ok : ∀ s', s'[0]? = some (.frz (ns.map PV.int)) → s'[n9]? = some (.lst [.str (due (.tup (.str w :: P :: r)))]) → (!b0 && (!two (.str w) || !b1)) = true → ∃ dv, r13 p w (some (.ref nb)) (some (.bl sp)) v5 v6 v7 (some (.tup (.str w :: P :: r))) (some (.ref n9)) v10 none none = r13 p w (some (.ref nb)) (some (.bl sp)) v5 v6 v7 (some (.tup (.str w :: P :: r))) (some dv) v10 none none ∧ Fin (.tup (.str w :: P :: r)) dv sp s' ∧ s'[0]? = some (.frz (ns.map PV.int)) ∧ DeedOk w P r := fun s' h1 h2 h3 =>
    ⟨_, rfl, ⟨(bt s').1, fun ps e => by cases e; exact (bt s').2, by unfold Exp; rw [if_pos M.f, if_pos (M.o.trans h3)]; exact ⟨n9, rfl, h2⟩, .inr M.f⟩, h1, M.d⟩
  have no : ∀ s', s'[0]? = some (.frz (ns.map PV.int)) → (!b0 && (!two (.str w) || !b1)) = false → ∃ dv, r13 p w (some (.ref nb)) (some (.bl sp)) v5 v6 v7 (some (.tup (.str w :: P :: r))) (some (.str (S "path"))) v10 none none = r13 p w (some (.ref nb)) (some (.bl sp)) v5 v6 v7 (some (.tup (.str w :: P :: r))) (some dv) v10 none none ∧ Fin (.tup (.str w :: P :: r)) dv sp s' ∧ s'[0]? = some (.frz (ns.map PV.int)) ∧ DeedOk w P r := fun s' h1 h3 =>
    ⟨_, rfl, ⟨(bt s').1, fun ps e => by cases e; exact (bt s').2, by unfold Exp; rw [if_pos M.f, if_neg (by rw [M.o, h3]; exact Bool.false_ne_true)], .inr M.f⟩, h1, M.d⟩
  unfold law6
  simp only [r13, z_ite, t_or, t_and, t_tru, t_val, e_bin, e_var, e_c, e_lst, e_cons, e_nil, List.getElem?_cons_zero, List.getElem?_cons_succ, ER.bind_ok, i0, ER.of_some, t_bl]
  cases b0 with
  | true =>
    simp only [if_true, ER.thenS_ok, z_asg, e_c, List.set, swp_nx]
    exact no s M.g rfl
  | false =>
    simp only [i1, ER.of_some, ER.bind_ok, t_bl, if_false, Bool.false_eq_true]
    cases b1 with
    | false =>
      simp only [ER.thenS_ok, if_false, Bool.false_eq_true, z_nil, swp_nx, ER.bind_ok]
      exact ok s M.g M.n (by simp)
    | true =>
      have hin : O.inY (.str w) (.ref s.length) (s ++ [SO.lst [.str (S "move"), .str (S "snapshot")]]) = some (.bl (two (.str w)), s ++ [SO.lst [.str (S "move"), .str (S "snapshot")]]) := in_ref2 (by simp)
      simp only [if_true, List.length_cons, List.length_nil, Nat.zero_add, Nat.reduceAdd, if_pos z2, ER.bind_ok, hin, ER.of_some]
      cases ht : two (.str w) with
      | true =>
        simp only [ER.thenS_ok, ER.bind_ok, if_true, z_asg, e_c, List.set, swp_nx]
        exact no _ ((Fr.app (p := fun _ => False)).keep _ _ (fun z => z) M.g) (by rw [ht]; rfl)
      | false =>
        simp only [ER.thenS_ok, ER.bind_ok, if_false, Bool.false_eq_true, z_nil, swp_nx]
        exact ok _ ((Fr.app (p := fun _ => False)).keep _ _ (fun z => z) M.g) ((Fr.app (p := fun _ => False)).keep _ _ (fun z => z) M.n) (by rw [ht]; rfl)
def law7 : SF := Z.ite (T.tru (E.var 4)) (Z.seq (Z.asg 8 (E.call l_spoilt_M (E.cons (E.var 8) (E.cons (E.call l_pool_M (E.cons (E.var 0) (E.cons (E.c (.int 4)) (E.nil)))) (E.nil))))) (Z.asg 9 (E.c (.str (S "command"))))) (Z.nil)
theorem law7_wp {ns : List Int} {p : Nat} {sp : Bool} {w : List Nat} {P dv : PV} {r : List PV} {v3 v5 v6 v7 v10 : Option PV} {s : Sto} {R : PV → Sto → Prop} (F : Fin (.tup (.str w :: P :: r)) dv sp s) (hb : s[0]? = some (.frz (ns.map PV.int))) (D : DeedOk w P r) :
    (law7 (r13 p w v3 (some (.bl sp)) v5 v6 v7 (some (.tup (.str w :: P :: r))) (some dv) v10 none none) s).wp (fun ρ s' => ∃ v dv, ρ = r13 p w v3 (some (.bl sp)) v5 v6 v7 (some v) (some dv) v10 none none ∧ Fin v dv sp s') R := by
  unfold law7
  simp only [r13, z_ite, t_tru, e_var, List.getElem?_cons_zero, List.getElem?_cons_succ, ER.bind_ok, t_bl, ER.thenS_ok]
  cases sp with
  | false =>
    simp only [if_false, Bool.false_eq_true, z_nil, swp_nx]
    exact ⟨_, _, rfl, F⟩
  | true =>
    simp only [if_true, z_seq, z_asg, e_call, e_cons, e_nil, e_var, e_c, List.getElem?_cons_zero, List.getElem?_cons_succ, ER.bind_ok, swp_next, wp_thenS, wp_bind, wp_ok]
    refine pool_new (k := 4) hb (by decide) fun s2 g2 f2 => ?_
    refine spoilt_wp g2.p D fun v s3 hv hp3 f3 => ?_
    simp only [swp_nx, List.set, wp_ok]
    exact ⟨v, _, rfl, hv.1, hv.2.1, by unfold Exp; rw [if_neg (by rw [hv.2.2]; exact Bool.false_ne_true)], .inl rfl⟩
theorem numL_ok (n : Nat) : okT (TL.numL n) = true := List.all_eq_true.mpr fun c hc => decide_eq_true (by
  by_cases h : c < 48 ∨ 57 < c
  · exact absurd hc (TL.numL_free h)
  · omega)
theorem okT_app {a b : List Nat} (h1 : okT a = true) (h2 : okT b = true) : okT (a ++ b) = true := by
  unfold okT at *
  rw [List.all_append, h1, h2]; rfl
theorem strOf_ok {c : PV} (h : (isTxt c || isNum c) = true) : okT (strOf c) = true := by
  cases c with
  | str x =>
    have h1 : (isTxt (.str x) || false) = true := h
    rw [Bool.or_false] at h1
    exact ok_txt h1
  | int i =>
    obtain ⟨n, e, _⟩ := num_nat (show isNum (.int i) = true from h)
    cases e
    show okT (S (toString (n : Int))) = true
    rw [S_num]
    exact numL_ok n
  | _ => cases h
theorem due_ok {v : PV} (h : hasForm v = true) : okT (due v) = true := by
  obtain ⟨x, b, r, rfl, hx, hb, hl, hr, _⟩ := form_shape h
  have o1 := strOf_ok (c := .str x) (by rw [hx]; rfl)
  have o2 := strOf_ok (c := b) (by rw [hb]; rfl)
  have o32 : okT [32] = true := by decide
  match r, hl, hr with
  | [], _, _ => exact okT_app o1 (okT_app o32 o2)
  | [c], _, hr => exact okT_app o1 (okT_app o32 (okT_app o2 (okT_app o32 (strOf_ok (hr c (by simp))))))
  | _ :: _ :: _, hl, _ => simp at hl
theorem dat_ref1 {s : Sto} {n : Nat} {x : List Nat} (h : s[n]? = some (.lst [.str x])) (hx : okT x = true) : O.dat s 60 (.ref n) = some (.list [.str ⟨x.toArray⟩]) := by
  show (match s[n]? with | some (.lst ps) => (O.mapO (O.dat s 59) ps).map PyData.list | some (.frz ps) => (O.mapO (O.dat s 59) ps).map PyData.list | _ => none) = _
  rw [h]
  show (O.mapO (O.dat s 59) [.str x]).map PyData.list = _
  have e : O.mapO (O.dat s 59) [.str x] = some [.str ⟨x.toArray⟩] := by
    simp only [O.mapO, dat_str hx]
  rw [e]
  rfl
theorem ne_refs {s : Sto} {a b : Nat} {x : List Nat} (h1 : s[a]? = some (.lst [.str x])) (h2 : s[b]? = some (.lst [.str x])) (hx : okT x = true) : O.ne (.ref a) (.ref b) s = some (.bl false, s) := by
  unfold O.ne
  rw [dat_ref1 h1 hx, dat_ref1 h2 hx]
  show some (PV.bl (!(((⟨x.toArray⟩ : Str) == ⟨x.toArray⟩) && true)), s) = _
  rw [str_beq]
  simp
theorem ne_rs {s : Sto} {a : Nat} {x y : List Nat} (h1 : s[a]? = some (.lst [.str x])) (hx : okT x = true) (hy : okT y = true) : O.ne (.ref a) (.str y) s = some (.bl true, s) := by
  unfold O.ne
  rw [dat_ref1 h1 hx, dat_str hy]
  rfl
abbrev turnL : SF := (Z.seq (Z.asg 12 (E.call l_asked_M (E.cons (E.var 8) (E.nil)))) (Z.seq (Z.ite (T.val (E.bin O.ne (E.var 12) (E.var 9))) (Z.ret (E.c (.bl false))) (Z.nil)) (Z.ite (T.and (T.not (T.tru (E.var 4))) (T.and (T.val (E.bin O.ne (E.var 9) (E.c (.str (S "path"))))) (T.not (T.tru (E.isi (O.isiT "str" []) (E.bin O.ix (E.var 12) (E.c (.int 0)))))))) (Z.ret (E.c (.bl false))) (Z.nil))))
theorem turnL_wp {p : Nat} {sp : Bool} {w : List Nat} {v dv : PV} {v3 v5 v6 v7 v10 v11 v12 : Option PV} {s : Sto} {R : PV → Sto → Prop} (F : Fin v dv sp s) :
    (turnL (r13 p w v3 (some (.bl sp)) v5 v6 v7 (some v) (some dv) v10 v11 v12) s).wp (fun ρ s' => ∃ v12, ρ = r13 p w v3 (some (.bl sp)) v5 v6 v7 (some v) (some dv) v10 v11 v12 ∧ Fin v dv sp s') R := by
  obtain ⟨t, told, e, h⟩ := asked_eq F.t F.i
  have F2 := F.app (t := t)
  have hE := F2.e
  simp only [turnL, r13, z_seq, z_asg, e_call, e_cons, e_nil, e_var, List.getElem?_cons_zero, List.getElem?_cons_succ, ER.bind_ok, e, ER.thenS_ok, SR.next_nx, List.set, z_ite, t_val, t_and, t_not, t_tru, e_bin, e_isi, e_c, t_bl]
  unfold Exp at hE
  cases hf : hasForm v with
  | false =>
    rw [hf, if_neg Bool.false_ne_true] at h hE
    subst h hE
    have hsp : sp = true := by
      rcases F.f with z | z
      · exact z
      · rw [hf] at z; cases z
    subst hsp
    simp only [z_ite, t_and, t_not, t_tru, t_val, e_bin, e_isi, e_var, e_c, z_ret, List.getElem?_cons_zero, List.getElem?_cons_succ, t_bl, ne_ss (okS "command") (okS "command"), decide_true, Bool.not_true, ER.of_some, ER.bind_ok, ER.thenS_ok, if_false, Bool.false_eq_true, z_nil, SR.next_nx, swp_nx]
    exact ⟨_, rfl, F2⟩
  | true =>
    rw [hf, if_pos rfl] at h hE
    cases hp : pathsOk v with
    | false =>
      rw [hp, if_neg Bool.false_ne_true] at h hE
      subst h hE
      cases sp with
      | true =>
        simp only [z_ite, t_and, t_not, t_tru, t_val, e_bin, e_isi, e_var, e_c, z_ret, List.getElem?_cons_zero, List.getElem?_cons_succ, t_bl, ne_ss (okS "path") (okS "path"), decide_true, Bool.not_true, ER.of_some, ER.bind_ok, ER.thenS_ok, if_false, Bool.false_eq_true, z_nil, SR.next_nx, swp_nx]
        exact ⟨_, rfl, F2⟩
      | false =>
        simp only [z_ite, t_and, t_not, t_tru, t_val, e_bin, e_isi, e_var, e_c, z_ret, List.getElem?_cons_zero, List.getElem?_cons_succ, t_bl, ne_ss (okS "path") (okS "path"), decide_true, Bool.not_true, Bool.not_false, if_true, ER.of_some, ER.bind_ok, ER.thenS_ok, if_false, Bool.false_eq_true, z_nil, SR.next_nx, swp_nx]
        exact ⟨_, rfl, F2⟩
    | true =>
      rw [hp, if_pos rfl] at h hE
      obtain ⟨a, rfl, ha⟩ := h
      obtain ⟨b, rfl, hb⟩ := hE
      have hok := due_ok hf
      have hix : O.ix (.ref a) (.int 0) (s ++ t) = some (.str (due v), s ++ t) := by
        show (match (s ++ t)[a]? with | some (.lst ps) => (L2.atI ps 0).map fun v => (v, s ++ t) | some (.frz ps) => (L2.atI ps 0).map fun v => (v, s ++ t) | _ => none) = _
        rw [ha]
        rfl
      have hty : O.tyOf (.str (due v)) (s ++ t) = some (.t "str") := rfl
      have hsub : O.subT "str" "str" = true := rfl
      cases sp with
      | true =>
        simp only [z_ite, t_and, t_not, t_tru, t_val, e_bin, e_isi, e_var, e_c, z_ret, List.getElem?_cons_zero, List.getElem?_cons_succ, t_bl, ne_refs ha hb hok, ne_rs hb hok (okS "path"), Bool.not_true, ER.of_some, ER.bind_ok, ER.thenS_ok, if_false, Bool.false_eq_true, z_nil, SR.next_nx, hix, isi_t hty, hsub, swp_nx]
        exact ⟨_, rfl, F2⟩
      | false =>
        simp only [z_ite, t_and, t_not, t_tru, t_val, e_bin, e_isi, e_var, e_c, z_ret, List.getElem?_cons_zero, List.getElem?_cons_succ, t_bl, ne_refs ha hb hok, ne_rs hb hok (okS "path"), Bool.not_true, Bool.not_false, if_true, ER.of_some, ER.bind_ok, ER.thenS_ok, if_false, Bool.false_eq_true, z_nil, SR.next_nx, hix, isi_t hty, hsub, swp_nx]
        exact ⟨_, rfl, F2⟩
def law8 : SF := Z.seq (Z.forR1 (G.name 11) (E.cons (E.c (.int 2)) (E.nil)) turnL) (Z.ret (E.c (.bl true)))
theorem law8_wp {p : Nat} {sp : Bool} {w : List Nat} {v dv : PV} {v3 v5 v6 v7 v10 : Option PV} {s : Sto} {N : Rho → Sto → Prop} (F : Fin v dv sp s) :
    (law8 (r13 p w v3 (some (.bl sp)) v5 v6 v7 (some v) (some dv) v10 none none) s).wp N (fun v _ => v = .bl true) := by
  unfold law8
  refine seq_wp (fun _ _ => True) ?_ fun ρ s _ => ?_
  · simp only [Z.forR1, e_cons, e_c, e_nil, ER.bind_ok, ER.thenS_ok]
    rw [if_pos (by decide)]
    refine forP_wp2 (fun _ ρ s' => ∃ v11 v12, ρ = r13 p w v3 (some (.bl sp)) v5 v6 v7 (some v) (some dv) v10 v11 v12 ∧ Fin v dv sp s') ⟨none, none, rfl, F⟩ (fun i q ρ s' hq hI => ?_) fun _ _ _ => trivial
    obtain ⟨v11, v12, rfl, F'⟩ := hI
    exact ⟨_, s', rfl, SR.wp_mono (turnL_wp (v11 := some q) (v12 := v12) F') (fun ρ s ⟨v12', e, F3⟩ => ⟨some q, v12', e, F3⟩) fun _ _ z => z⟩
  · simp only [z_ret, e_c, ER.thenS_ok, swp_rt]
theorem law_b_eq : law_b = Z.seq law1 (Z.seq law2 (Z.seq law3 (Z.seq law4 (Z.seq law5 (Z.seq law6 (Z.seq law7 law8)))))) := by
  unfold law1 law2 law3 law4 law5
  simp only [← seq_assoc]
  rfl
theorem truth : Truth law_M := fun ns hl => by
  have h : (law_M [.ref 0] [.frz (ns.map PV.int)]).wp (fun v _ => v = .bl true) := by
    refine run_wp rfl (show (law_b (some (.ref 0) :: no 12) [.frz (ns.map PV.int)]).wp _ _ from ?_)
    rw [law_b_eq]
    refine seq_wp _ law1_wp fun ρ s ⟨p, w, e, hw, g⟩ => ?_
    subst e
    refine seq_wp _ (law2_wp g) fun ρ s ⟨nb, b0, b1, e, hf, g⟩ => ?_
    subst e
    refine seq_wp _ (law3_wp g hf) fun ρ s ⟨sp, m, e, hm, hf, g⟩ => ?_
    subst e
    refine seq_wp _ (law4_wp g hf) fun ρ s ⟨p, v7, np, x0, x1, e, hP, hf, g⟩ => ?_
    subst e
    refine seq_wp _ (law5_wp (sp := sp) hw hm g hf hP) fun ρ s ⟨p, r, n9, v10, e, M⟩ => ?_
    subst e
    refine seq_wp _ (law6_wp (p := p) (np := np) (sp := sp) (v5 := some (.int m)) (v6 := some (.ref np)) (v7 := v7) (v10 := v10) M) fun ρ s ⟨dv, e, F, hb, D⟩ => ?_
    subst e
    refine seq_wp _ (law7_wp F hb D) fun ρ s ⟨v, dv, e, F⟩ => ?_
    subst e
    exact law8_wp F
  obtain ⟨v, s, e, hv⟩ := ER.wp_ok h
  exact ⟨s, by rw [e, hv]⟩
end YL

theorem PySem.Challenge.cw_appendhall_k58_commands_written_holds : PySem.Challenge.rw_appendhall_k58_commands_written.Holds := by
  exact YL.holds YL.truth
