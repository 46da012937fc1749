import PyProof.Rows.All
import Wide.All
import OpenK.AllK
import Wide.FinOn
import HandS.ForMost
import HandS.ForExc
import HandS.TupAny
import HandS.TupMul
import HandS.Deep
import HandS.Style
import HandS.Zip
import HandS.Conv
import HandS.IsInst
import HandS.Walk
import HandS.Wide
import HandS.CallSlots
import HandS.Rev
import KE.SortData
import KE.KDictZip
import PyProof.ReprRoads
import PySem.Challenge.RW_toldback_k19_whole_odd_triples
set_option Elab.async false
set_option linter.all false
set_option maxRecDepth 100000
/-! A mirror machine over HandS: values are trees, changeable lists and dicts stand at places of a small heap; its runs are functions.
What the mirror answers the model answers. -/
namespace Tb
open PySem PySem.Spec PyProof.Rows L2

/-- a mirror value -/
inductive M where
  | non | bl (b : Bool) | int (i : Int) | str (x : Str) | tup (xs : List M) | ro (xs : List M) | tmp (xs : List M) | loc (n : Nat) | ty (n : String)
/-- what stands at a place -/
inductive O where
  | lst (xs : List M) | dk (kvs : List (Key × M)) | dt (kvs : List (List Key × M))
abbrev MH := List O
abbrev MS := List (Option M)
/-- an exception: its class's name, its field -/
structure Er where
  cls : Str
  fld : Option (Str × M)
inductive R (α : Type) where
  | ok (a : α) (h : MH) | err (e : Er) (h : MH) | bad
/-- the end of a statement -/
inductive RS where
  | nx (s : MS) (h : MH) | rt (v : M) (h : MH) | bk (s : MS) (h : MH) | ct (s : MS) (h : MH) | er (e : Er) (s : MS) (h : MH) | bad
abbrev ME := MS → MH → R M
abbrev MT := MS → MH → R Bool
abbrev MA := MS → MH → R (List M)
abbrev MX := MS → MH → RS
abbrev MF := List M → MH → R M

/-- the places' addresses; lists that are being built (nothing else points there) -/
structure Ph where
  ls : List Addr
  rs : List Addr
def Ph.Has (φ : Ph) (a : Addr) : Prop := a ∈ φ.ls ∨ a ∈ φ.rs
def Ph.add (φ : Ph) (a : Addr) : Ph := ⟨φ.ls ++ [a], φ.rs⟩
def Ph.hold (φ : Ph) (a : Addr) : Ph := ⟨φ.ls, a :: φ.rs⟩
/-! ### what a mirror value stands for -/
/-- a list that is read, never written -/
def SqF (K : PySem.W.Frag) (H : Hp) (a : Addr) (xs : List V) : Prop :=
  (∃ o, H a = some (.frz o (.lst xs))) ∨
    ∃ (o : Obj) (its : Array Value) (n : Nat), K.lookup a = some o ∧ o.cls = .type "list" ∧ o.dict = none ∧ o.data = .seq its n ∧ its.size ≤ sizeLine ∧ Vals xs its.toList
theorem SqF.sq {K : PySem.W.Frag} {H : Hp} {a : Addr} {xs : List V} (h : SqF K H a xs) : SqL K H a xs := by
  rcases h with ⟨o, h⟩ | h
  · exact .inl (.inr ⟨o, h⟩)
  · exact .inr h
mutual
def Rep (K : PySem.W.Frag) (φ : Ph) (H : Hp) : M → V → Prop
  | .non, v => v = .non
  | .bl b, v => v = .bl b
  | .int i, v => v = .int i
  | .str x, v => v = .str x
  | .tup xs, v => ∃ a vs, v = .ref a ∧ H a = some (.tup vs) ∧ Reps K φ H xs vs
  | .ro xs, v => ∃ a vs, v = .ref a ∧ SqF K H a vs ∧ Reps K φ H xs vs
  | .tmp xs, v => ∃ a vs, v = .ref a ∧ H a = some (.lst vs) ∧ ¬ φ.Has a ∧ Reps K φ H xs vs
  | .loc n, v => ∃ a, v = .ref a ∧ φ.ls[n]? = some a
  | .ty n, v => v = .ty n
def Reps (K : PySem.W.Frag) (φ : Ph) (H : Hp) : List M → List V → Prop
  | [], vs => vs = []
  | x :: xs, vs => ∃ v r, vs = v :: r ∧ Rep K φ H x v ∧ Reps K φ H xs r
end
section
variable {K : PySem.W.Frag} {φ φ' φ2 : Ph} {H H' H2 : Hp}
theorem Reps.iff : ∀ {xs : List M} {vs : List V}, Reps K φ H xs vs ↔ Paired (Rep K φ H) xs vs
  | [], vs => by
    rw [Reps]
    constructor
    · rintro rfl; exact .nil
    · intro h; cases h; rfl
  | x :: xs, vs => by
    rw [Reps]
    constructor
    · rintro ⟨v, r, rfl, h1, h2⟩; exact .cons h1 (Reps.iff.mp h2)
    · intro h
      cases h with
      | cons h1 h2 => exact ⟨_, _, rfl, h1, Reps.iff.mpr h2⟩
/-- pairs of a dict -/
abbrev RepKV {κ : Type} (K : PySem.W.Frag) (φ : Ph) (H : Hp) : List (κ × M) → List (κ × V) → Prop := Paired fun p q => p.1 = q.1 ∧ Rep K φ H p.2 q.2
def OR (K : PySem.W.Frag) (φ : Ph) (H : Hp) : O → Addr → Prop
  | .lst xs, a => ∃ vs, H a = some (.lst vs) ∧ Reps K φ H xs vs
  | .dk kvs, a => ∃ ws, H a = some (.dK ws) ∧ RepKV K φ H kvs ws
  | .dt kvs, a => ∃ ws, H a = some (.dT ws) ∧ RepKV K φ H kvs ws
/-- the small heap stands at φ -/
structure HR (K : PySem.W.Frag) (φ : Ph) (mh : MH) (H : Hp) : Prop where
  len : φ.ls.length = mh.length
  nd : φ.ls.Nodup
  obj : ∀ (i : Nat) o a, mh[i]? = some o → φ.ls[i]? = some a → OR K φ H o a
  res : ∀ a ∈ φ.rs, ∃ o, H a = some o
/-- behind a step: more places, nothing else changed; lists that are being built may have come -/
structure ExtW (φ : Ph) (H : Hp) (φ' : Ph) (H' : Hp) : Prop where
  pre : ∃ new, φ'.ls = φ.ls ++ new ∧ ∀ a ∈ new, H a = none
  rsw : ∀ a ∈ φ'.rs, a ∈ φ.rs ∨ H a = none
  keep : ∀ a o, H a = some o → a ∉ φ.ls → H' a = some o
  there : ∀ a o, H a = some o → ∃ o', H' a = some o'
  tups : ∀ a vs, H a = some (.tup vs) → H' a = some (.tup vs)
  frzs : ∀ a o u, H a = some (.frz o u) → H' a = some (.frz o u)
/-- the same lists are being built -/
structure Ext (φ : Ph) (H : Hp) (φ' : Ph) (H' : Hp) : Prop extends ExtW φ H φ' H' where
  rs : φ'.rs = φ.rs
theorem Ext.mk' {φ φ' : Ph} {H H' : Hp} (pre : ∃ new, φ'.ls = φ.ls ++ new ∧ ∀ a ∈ new, H a = none) (rs : φ'.rs = φ.rs) (keep : ∀ a o, H a = some o → a ∉ φ.ls → H' a = some o) (there : ∀ a o, H a = some o → ∃ o', H' a = some o')
    (tups : ∀ a vs, H a = some (.tup vs) → H' a = some (.tup vs)) (frzs : ∀ a o u, H a = some (.frz o u) → H' a = some (.frz o u)) : Ext φ H φ' H' :=
  ⟨⟨pre, fun a h => .inl (rs ▸ h), keep, there, tups, frzs⟩, rs⟩
theorem ExtW.trans (a : ExtW φ H φ' H') (b : ExtW φ' H' φ2 H2) : ExtW φ H φ2 H2 := by
  obtain ⟨n1, e1, f1⟩ := a.pre
  obtain ⟨n2, e2, f2⟩ := b.pre
  have back : ∀ x, H' x = none → H x = none := fun x q => by
    cases z : H x with
    | none => rfl
    | some o =>
      obtain ⟨o', e⟩ := a.there x o z
      rw [e] at q; cases q
  refine ⟨⟨n1 ++ n2, by rw [e2, e1, List.append_assoc], fun x hx => ?_⟩, fun x hx => ?_, fun x o h n => ?_, fun x o h => ?_, fun x vs h => b.tups x vs (a.tups x vs h), fun x o u h => b.frzs x o u (a.frzs x o u h)⟩
  · rcases List.mem_append.mp hx with h | h
    · exact f1 x h
    · exact back x (f2 x h)
  · rcases b.rsw x hx with h | h
    · exact a.rsw x h
    · exact .inr (back x h)
  · refine b.keep x o (a.keep x o h n) fun hm => ?_
    rw [e1] at hm
    rcases List.mem_append.mp hm with q | q
    · exact n q
    · rw [f1 x q] at h; cases h
  · obtain ⟨o', e⟩ := a.there x o h
    exact b.there x o' e
theorem Ext.refl : Ext φ H φ H := Ext.mk' ⟨[], by simp, by simp⟩ rfl (fun _ _ h _ => h) (fun _ o h => ⟨o, h⟩) (fun _ _ h => h) (fun _ _ _ h => h)
theorem Ext.trans (a : Ext φ H φ' H') (b : Ext φ' H' φ2 H2) : Ext φ H φ2 H2 := ⟨a.toExtW.trans b.toExtW, b.rs.trans a.rs⟩
theorem SqT.ext {a : Addr} {vs : List V} (e : ExtW φ H φ' H') (h : SqT K H a vs) : SqT K H' a vs := by
  rcases h with (h | ⟨o, h⟩) | h
  · exact .inl (.inl (e.tups _ _ h))
  · exact .inl (.inr ⟨o, e.frzs _ _ _ h⟩)
  · exact .inr h
theorem SqF.ext {a : Addr} {vs : List V} (e : ExtW φ H φ' H') (h : SqF K H a vs) : SqF K H' a vs := by
  rcases h with ⟨o, h⟩ | h
  · exact .inl ⟨o, e.frzs _ _ _ h⟩
  · exact .inr h
theorem ExtW.at_ {n : Nat} {a : Addr} (e : ExtW φ H φ' H') (h : φ.ls[n]? = some a) : φ'.ls[n]? = some a := by
  obtain ⟨new, e1, _⟩ := e.pre
  obtain ⟨hl, _⟩ := List.getElem?_eq_some_iff.mp h
  rw [e1, List.getElem?_append_left hl]
  exact h
theorem ExtW.out {a : Addr} {o : HO} (e : ExtW φ H φ' H') (h : H a = some o) (n : ¬ φ.Has a) : H' a = some o ∧ ¬ φ'.Has a := by
  refine ⟨e.keep a o h fun z => n (.inl z), fun hm => ?_⟩
  obtain ⟨new, e1, f⟩ := e.pre
  rcases hm with hm | hm
  · rw [e1] at hm
    rcases List.mem_append.mp hm with q | q
    · exact n (.inl q)
    · rw [f a q] at h; cases h
  · rcases e.rsw a hm with q | q
    · exact n (.inr q)
    · rw [q] at h; cases h
mutual
theorem Rep.extW (e : ExtW φ H φ' H') : ∀ {m : M} {v : V}, Rep K φ H m v → Rep K φ' H' m v
  | .non, _, h => by rw [Rep] at h ⊢; exact h
  | .bl _, _, h => by rw [Rep] at h ⊢; exact h
  | .int _, _, h => by rw [Rep] at h ⊢; exact h
  | .str _, _, h => by rw [Rep] at h ⊢; exact h
  | .tup xs, _, h => by
    rw [Rep] at h ⊢
    obtain ⟨a, vs, rfl, q, r⟩ := h
    exact ⟨a, vs, rfl, e.tups _ _ q, Reps.extW e r⟩
  | .ro xs, _, h => by
    rw [Rep] at h ⊢
    obtain ⟨a, vs, rfl, q, r⟩ := h
    exact ⟨a, vs, rfl, SqF.ext e q, Reps.extW e r⟩
  | .tmp xs, _, h => by
    rw [Rep] at h ⊢
    obtain ⟨a, vs, rfl, q, n, r⟩ := h
    obtain ⟨q1, q2⟩ := e.out q n
    exact ⟨a, vs, rfl, q1, q2, Reps.extW e r⟩
  | .loc n, _, h => by
    rw [Rep] at h ⊢
    obtain ⟨a, rfl, q⟩ := h
    exact ⟨a, rfl, e.at_ q⟩
  | .ty _, _, h => by rw [Rep] at h ⊢; exact h
theorem Reps.extW (e : ExtW φ H φ' H') : ∀ {xs : List M} {vs : List V}, Reps K φ H xs vs → Reps K φ' H' xs vs
  | [], _, h => by rw [Reps] at h ⊢; exact h
  | x :: xs, _, h => by
    rw [Reps] at h ⊢
    obtain ⟨v, r, rfl, h1, h2⟩ := h
    exact ⟨v, r, rfl, Rep.extW e h1, Reps.extW e h2⟩
end
theorem Rep.ext (e : Ext φ H φ' H') {m : M} {v : V} (h : Rep K φ H m v) : Rep K φ' H' m v := Rep.extW e.toExtW h
theorem Reps.ext (e : Ext φ H φ' H') {m : List M} {v : List V} (h : Reps K φ H m v) : Reps K φ' H' m v := Reps.extW e.toExtW h
theorem RepKV.ext {κ : Type} {kvs : List (κ × M)} {ws : List (κ × V)} (e : Ext φ H φ' H') (h : RepKV K φ H kvs ws) : RepKV K φ' H' kvs ws :=
  Paired.mapP h fun _ _ q => ⟨q.1, Rep.ext e q.2⟩
/-- the slots -/
structure SR (K : PySem.W.Frag) (φ : Ph) (H : Hp) (ms : MS) (σ : L2.St) : Prop where
  len : ms.length = σ.length
  at_ : ∀ (i : Nat) m, ms[i]? = some (some m) → ∃ v, σ[i]? = some (some v) ∧ Rep K φ H m v
theorem SR.extW {ms : MS} {σ : L2.St} (e : ExtW φ H φ' H') (h : SR K φ H ms σ) : SR K φ' H' ms σ := ⟨h.len, fun i m q => let ⟨v, a, b⟩ := h.at_ i m q; ⟨v, a, Rep.extW e b⟩⟩
theorem SR.ext {ms : MS} {σ : L2.St} (e : Ext φ H φ' H') (h : SR K φ H ms σ) : SR K φ' H' ms σ := ⟨h.len, fun i m q => let ⟨v, a, b⟩ := h.at_ i m q; ⟨v, a, Rep.ext e b⟩⟩
end

/-! ### readings -/
/-- what is wanted of an exception -/
abbrev WM := Er → Ph → MS → MH → L2.St → Hp → Prop
section
variable (K : PySem.W.Frag) (W : WM)
/-- behind an expression -/
def PostR {α β : Type} (rel : Ph → Hp → α → β → Prop) (φ : Ph) (H : Hp) (ms : MS) (σ : L2.St) (r : R α) (Q : β → Hp → Prop) : Prop :=
  match r with
  | .ok m h => ∀ φ' v H', Ext φ H φ' H' → HR K φ' h H' → rel φ' H' m v → Q v H'
  | .err e h => ∀ φ' H', Ext φ H φ' H' → HR K φ' h H' → SR K φ' H' ms σ → W e φ' ms h σ H'
  | .bad => False
def rdR {α β : Type} (rel : Ph → Hp → α → β → Prop) (f : MS → MH → R α) (σ : L2.St) (H : Hp) (Q : β → Hp → Prop) : Prop :=
  ∃ φ ms mh, HR K φ mh H ∧ SR K φ H ms σ ∧ PostR K W rel φ H ms σ (f ms mh) Q
def relB : Ph → Hp → Bool → Bool → Prop := fun _ _ a b => a = b
abbrev rdE (f : ME) : TE := rdR K W (Rep K) f
abbrev rdT (f : MT) : TT := rdR K W relB f
abbrev rdA (f : MA) : TA := rdR K W (Reps K) f
/-- behind a statement -/
def PostS (φ : Ph) (H : Hp) (r : RS) (D : Ends) : Prop :=
  match r with
  | .nx ms h => ∀ φ' σ' H', Ext φ H φ' H' → HR K φ' h H' → SR K φ' H' ms σ' → D.nx σ' H'
  | .rt m h => ∀ φ' v H', Ext φ H φ' H' → HR K φ' h H' → Rep K φ' H' m v → D.rt v H'
  | .bk ms h => ∀ φ' σ' H', Ext φ H φ' H' → HR K φ' h H' → SR K φ' H' ms σ' → D.bk σ' H'
  | .ct ms h => ∀ φ' σ' H', Ext φ H φ' H' → HR K φ' h H' → SR K φ' H' ms σ' → D.ct σ' H'
  | .er e ms h => ∀ φ' σ' H', Ext φ H φ' H' → HR K φ' h H' → SR K φ' H' ms σ' → W e φ' ms h σ' H'
  | .bad => False
def rdS (f : MX) : TS := fun D σ H => ∃ φ ms mh, HR K φ mh H ∧ SR K φ H ms σ ∧ PostS K W φ H (f ms mh) D
end
section
variable {K : PySem.W.Frag} {W : WM} {φ φ' φ2 : Ph} {H H' H2 : Hp} {α β γ δ : Type} {rel : Ph → Hp → α → β → Prop} {rel2 : Ph → Hp → γ → δ → Prop} {ms : MS} {σ : L2.St}
theorem PostR.ext {r : R α} {Q : β → Hp → Prop} (e : Ext φ H φ' H') (h : PostR K W rel φ H ms σ r Q) : PostR K W rel φ' H' ms σ r Q := by
  cases r with
  | ok m mh => exact fun φ2 v H2 e2 hr rl => h φ2 v H2 (e.trans e2) hr rl
  | err x mh => exact fun φ2 H2 e2 hr hs => h φ2 H2 (e.trans e2) hr hs
  | bad => exact h
theorem PostS.ext {r : RS} {D : Ends} (e : Ext φ H φ' H') (h : PostS K W φ H r D) : PostS K W φ' H' r D := by
  cases r with
  | nx m mh => exact fun φ2 v H2 e2 hr rl => h φ2 v H2 (e.trans e2) hr rl
  | rt m mh => exact fun φ2 v H2 e2 hr rl => h φ2 v H2 (e.trans e2) hr rl
  | bk m mh => exact fun φ2 v H2 e2 hr rl => h φ2 v H2 (e.trans e2) hr rl
  | ct m mh => exact fun φ2 v H2 e2 hr rl => h φ2 v H2 (e.trans e2) hr rl
  | er x m mh => exact fun φ2 v H2 e2 hr rl => h φ2 v H2 (e.trans e2) hr rl
  | bad => exact h
def R.bind {α β : Type} (r : R α) (k : α → MH → R β) : R β := match r with
  | .ok a h => k a h
  | .err e h => .err e h
  | .bad => .bad
/-- one step, then the rest -/
theorem PostR.bind {r : R γ} {k : γ → MH → R α} {Q : β → Hp → Prop} (hs : SR K φ H ms σ) (h : PostR K W rel φ H ms σ (r.bind k) Q) :
    PostR K W rel2 φ H ms σ r fun v H1 => ∃ φ1 m h1, HR K φ1 h1 H1 ∧ SR K φ1 H1 ms σ ∧ rel2 φ1 H1 m v ∧ Ext φ H φ1 H1 ∧ PostR K W rel φ1 H1 ms σ (k m h1) Q := by
  cases r with
  | ok m mh => exact fun φ' v H' e hr rl => ⟨φ', m, mh, hr, hs.ext e, rl, e, PostR.ext e h⟩
  | err x mh => exact h
  | bad => exact h
theorem rdR.bind {f : MS → MH → R γ} {k : MS → γ → MH → R α} {Q : β → Hp → Prop} (h : rdR K W rel (fun ms mh => (f ms mh).bind (k ms)) σ H Q) :
    rdR K W rel2 f σ H fun v H1 => ∃ φ φ1 ms m h1, HR K φ1 h1 H1 ∧ SR K φ1 H1 ms σ ∧ rel2 φ1 H1 m v ∧ Ext φ H φ1 H1 ∧ PostR K W rel φ1 H1 ms σ (k ms m h1) Q := by
  obtain ⟨φ, ms, mh, hr, hs, p⟩ := h
  refine ⟨φ, ms, mh, hr, hs, ?_⟩
  have q := PostR.bind (rel2 := rel2) hs p
  cases e : f ms mh with
  | ok m h1 =>
    rw [e] at q
    exact fun φ' v H' e hr rl => let ⟨φ1, m, h1, a⟩ := q φ' v H' e hr rl; ⟨φ, φ1, ms, m, h1, a⟩
  | err x h1 => rw [e] at q; exact q
  | bad => rw [e] at q; exact q
end
section
variable {X : Cx}
theorem _root_.L2.PE.imp {e : Expr} {t t' : TE} (h : PE X e t) (i : ∀ σ H Q, t' σ H Q → t σ H Q) : PE X e t' := ⟨fun pins s σ H Q I q => h.run pins s σ H Q I (i σ H Q q)⟩
theorem _root_.L2.PT.imp {e : Expr} {t t' : TT} (h : PT X e t) (i : ∀ σ H Q, t' σ H Q → t σ H Q) : PT X e t' := ⟨fun pins s σ H Q I q => h.run pins s σ H Q I (i σ H Q q)⟩
theorem _root_.L2.PW.imp {e : Expr} {t t' : TT} (h : PW X e t) (i : ∀ σ H Q, t' σ H Q → t σ H Q) : PW X e t' := ⟨fun wh pins s σ H Q I q => h.run wh pins s σ H Q I (i σ H Q q)⟩
theorem _root_.L2.PA.imp {e : List Expr} {t t' : TA} (h : PA X e t) (i : ∀ σ H Q, t' σ H Q → t σ H Q) : PA X e t' := ⟨fun pos pins s σ H Q I q => h.run pos pins s σ H Q I (i σ H Q q)⟩
theorem _root_.L2.PS.imp {e : Stmt} {t t' : TS} (h : PS X e t) (i : ∀ D σ H, t' D σ H → t D σ H) : PS X e t' := ⟨fun pins s σ H D I q => h.run pins s σ H D I (i D σ H q)⟩
theorem _root_.L2.PSs.imp {e : List Stmt} {t t' : TS} (h : PSs X e t) (i : ∀ D σ H, t' D σ H → t D σ H) : PSs X e t' := ⟨fun pins s σ H D I q => h.run pins s σ H D I (i D σ H q)⟩
end
abbrev SE (X : Cx) (W : WM) (e : Expr) (f : ME) : Prop := PE X e (rdE X.K W f)
abbrev ST (X : Cx) (W : WM) (e : Expr) (f : MT) : Prop := PT X e (rdT X.K W f)
abbrev SA (X : Cx) (W : WM) (es : List Expr) (f : MA) : Prop := PA X es (rdA X.K W f)
abbrev SS (X : Cx) (W : WM) (st : Stmt) (f : MX) : Prop := PS X st (rdS X.K W f)
abbrev SSs (X : Cx) (W : WM) (sts : List Stmt) (f : MX) : Prop := PSs X sts (rdS X.K W f)
end Tb

set_option Elab.async false
set_option linter.all false
set_option maxRecDepth 100000
namespace Tb
open PySem PySem.Spec PyProof.Rows L2

/-! ### new objects, written objects -/
section
variable {K : PySem.W.Frag} {W : WM} {φ φ' φ2 : Ph} {H H' H2 : Hp} {mh : MH} {ms : MS} {σ : L2.St} {α β : Type} {rel : Ph → Hp → α → β → Prop}
theorem OR.some {o : O} {a : Addr} (h : OR K φ H o a) : ∃ u, H a = some u ∧ (∀ vs, u ≠ .tup vs) ∧ ∀ o' x, u ≠ .frz o' x := by
  cases o with
  | lst xs => obtain ⟨vs, e, _⟩ := h; exact ⟨_, e, by simp, by simp⟩
  | dk kvs => obtain ⟨vs, e, _⟩ := h; exact ⟨_, e, by simp, by simp⟩
  | dt kvs => obtain ⟨vs, e, _⟩ := h; exact ⟨_, e, by simp, by simp⟩
theorem OR.move {o : O} {a : Addr} (e : Ext φ H φ' H') (s : H' a = H a) (h : OR K φ H o a) : OR K φ' H' o a := by
  cases o with
  | lst xs => obtain ⟨vs, q, r⟩ := h; exact ⟨vs, s.trans q, Reps.ext e r⟩
  | dk kvs => obtain ⟨vs, q, r⟩ := h; exact ⟨vs, s.trans q, RepKV.ext e r⟩
  | dt kvs => obtain ⟨vs, q, r⟩ := h; exact ⟨vs, s.trans q, RepKV.ext e r⟩
theorem HR.ix (hr : HR K φ mh H) {i : Nat} {a : Addr} (h : φ.ls[i]? = some a) : ∃ o, mh[i]? = some o ∧ OR K φ H o a := by
  obtain ⟨hl, _⟩ := List.getElem?_eq_some_iff.mp h
  have hm : i < mh.length := by rw [← hr.len]; exact hl
  exact ⟨mh[i], by simp [hm], hr.obj i _ a (by simp [hm]) h⟩
theorem HR.at_ (hr : HR K φ mh H) {i : Nat} {o : O} (h : mh[i]? = some o) : ∃ a, φ.ls[i]? = some a ∧ OR K φ H o a := by
  obtain ⟨hl, _⟩ := List.getElem?_eq_some_iff.mp h
  have hm : i < φ.ls.length := by rw [hr.len]; exact hl
  exact ⟨φ.ls[i], by simp [hm], hr.obj i _ _ h (by simp [hm])⟩
theorem HR.freshH (hr : HR K φ mh H) {p : Addr} (hp : H p = none) : ¬ φ.Has p := by
  intro hm
  rcases hm with hm | hm
  rotate_left
  · obtain ⟨o, e⟩ := hr.res p hm
    rw [hp] at e; cases e
  obtain ⟨i, hi⟩ := List.mem_iff_getElem?.mp hm
  obtain ⟨o, _, q⟩ := hr.ix hi
  obtain ⟨u, e, _⟩ := q.some
  rw [hp] at e; cases e
theorem HR.fresh (hr : HR K φ mh H) {p : Addr} (hp : H p = none) : p ∉ φ.ls := by
  intro hm
  obtain ⟨i, hi⟩ := List.mem_iff_getElem?.mp hm
  obtain ⟨o, _, q⟩ := hr.ix hi
  obtain ⟨u, e, _⟩ := q.some
  rw [hp] at e; cases e
theorem Ext.new {p : Addr} {u : HO} (hp : H p = none) : Ext φ H φ (upd H p u) := by
  have ne : ∀ a o, H a = some o → upd H p u a = some o := fun a o h => by rw [upd_ne (ne_of_none h hp)]; exact h
  exact Ext.mk' ⟨[], by simp, by simp⟩ rfl (fun a o h _ => ne a o h) (fun a o h => ⟨o, ne a o h⟩) (fun a vs h => ne a _ h) (fun a o x h => ne a _ h)
theorem HR.new (hr : HR K φ mh H) {p : Addr} {u : HO} (hp : H p = none) : HR K φ mh (upd H p u) := by
  refine ⟨hr.len, hr.nd, fun i o a h1 h2 => ?_, fun a ha => let ⟨o, e⟩ := hr.res a ha; (Ext.new (φ := φ) hp).there a o e⟩
  refine (hr.obj i o a h1 h2).move (Ext.new hp) ?_
  obtain ⟨v, e, _⟩ := (hr.obj i o a h1 h2).some
  rw [upd_ne (ne_of_none e hp)]
theorem Ext.alloc {p : Addr} {u : HO} (hp : H p = none) : Ext φ H (φ.add p) (upd H p u) := by
  have e : Ext φ H φ (upd H p u) := Ext.new hp
  exact Ext.mk' ⟨[p], rfl, fun a ha => by rw [List.mem_singleton.mp ha]; exact hp⟩ rfl e.keep e.there e.tups e.frzs
theorem HR.alloc (hr : HR K φ mh H) {p : Addr} {u : HO} {o : O} (hp : H p = none) (ho : OR K (φ.add p) (upd H p u) o p) : HR K (φ.add p) (mh ++ [o]) (upd H p u) := by
  refine ⟨by simp [Ph.add, hr.len], ?_, fun i o' a h1 h2 => ?_, fun a ha => let ⟨o, e⟩ := hr.res a ha; (Ext.new (φ := φ) hp).there a o e⟩
  · show (φ.ls ++ [p]).Nodup
    rw [List.nodup_append]
    refine ⟨hr.nd, by simp, fun x hx y hy => ?_⟩
    rw [List.mem_singleton.mp hy]
    rintro rfl
    exact hr.fresh hp hx
  · have h2 : (φ.ls ++ [p])[i]? = some a := h2
    by_cases hi : i < mh.length
    · rw [List.getElem?_append_left hi] at h1
      rw [List.getElem?_append_left (by rw [hr.len]; exact hi)] at h2
      refine (hr.obj i o' a h1 h2).move (Ext.alloc hp) ?_
      obtain ⟨v, e, _⟩ := (hr.obj i o' a h1 h2).some
      rw [upd_ne (ne_of_none e hp)]
    · have hl := hr.len
      obtain ⟨h3, _⟩ := List.getElem?_eq_some_iff.mp h1
      simp only [List.length_append, List.length_cons, List.length_nil] at h3
      have e : i = mh.length := by omega
      subst e
      rw [List.getElem?_append_right (Nat.le_refl _)] at h1
      rw [← hl, List.getElem?_append_right (Nat.le_refl _)] at h2
      simp at h1 h2
      subst h1; subst h2
      exact ho
theorem Ext.write {n : Nat} {a : Addr} {u : HO} (hr : HR K φ mh H) (ha : φ.ls[n]? = some a) : Ext φ H φ (upd H a u) := by
  obtain ⟨o, _, q⟩ := hr.ix ha
  obtain ⟨v, e, n1, n2⟩ := q.some
  have hm : a ∈ φ.ls := List.mem_of_getElem? ha
  refine Ext.mk' ⟨[], by simp, by simp⟩ rfl (fun b o h hb => ?_) (fun b o h => ?_) (fun b vs h => ?_) (fun b o x h => ?_)
  · have hb' : b ≠ a := by rintro rfl; exact hb hm
    rw [upd_ne hb']; exact h
  · by_cases hb : b = a
    · subst hb; exact ⟨u, upd_same⟩
    · exact ⟨o, by rw [upd_ne hb]; exact h⟩
  · have hb : b ≠ a := by rintro rfl; rw [e] at h; cases h; exact n1 _ rfl
    rw [upd_ne hb]; exact h
  · have hb : b ≠ a := by rintro rfl; rw [e] at h; cases h; exact n2 _ _ rfl
    rw [upd_ne hb]; exact h
theorem nodup_get {α : Type} {l : List α} (hN : l.Nodup) {i j : Nat} {x : α} (a : l[i]? = some x) (b : l[j]? = some x) : i = j := by
  obtain ⟨h1, e1⟩ := List.getElem?_eq_some_iff.mp a
  obtain ⟨h2, e2⟩ := List.getElem?_eq_some_iff.mp b
  exact (List.getElem_inj hN).mp (e1.trans e2.symm)
theorem HR.write {n : Nat} {a : Addr} {u : HO} {o' : O} (hr : HR K φ mh H) (ha : φ.ls[n]? = some a) (ho : OR K φ (upd H a u) o' a) : HR K φ (mh.set n o') (upd H a u) := by
  refine ⟨by simp [hr.len], hr.nd, fun i o b h1 h2 => ?_, fun b hb => let ⟨o, e⟩ := hr.res b hb; (Ext.write hr ha).there b o e⟩
  by_cases hi : i = n
  · subst hi
    rw [ha] at h2; cases h2
    obtain ⟨h3, _⟩ := List.getElem?_eq_some_iff.mp h1
    rw [List.length_set] at h3
    rw [List.getElem?_set_self h3] at h1
    cases h1
    exact ho
  · rw [List.getElem?_set_ne (Ne.symm hi)] at h1
    refine (hr.obj i o b h1 h2).move (Ext.write hr ha) (upd_ne ?_)
    rintro rfl
    exact hi (nodup_get hr.nd h2 ha)
theorem PostR.mono {r : R α} {Q Q' : β → Hp → Prop} (h : PostR K W rel φ H ms σ r Q) (i : ∀ v H, Q v H → Q' v H) : PostR K W rel φ H ms σ r Q' := by
  cases r with
  | ok m mh => exact fun φ2 v H2 e2 hr rl => i _ _ (h φ2 v H2 e2 hr rl)
  | err x mh => exact h
  | bad => exact h
theorem rdR.mono {f : MS → MH → R α} {Q Q' : β → Hp → Prop} (h : rdR K W rel f σ H Q) (i : ∀ v H, Q v H → Q' v H) : rdR K W rel f σ H Q' := by
  obtain ⟨φ, ms, mh, a, b, p⟩ := h
  exact ⟨φ, ms, mh, a, b, p.mono i⟩
/-- the end: a value, the heap as it is -/
theorem PostR.here {m : α} {v : β} {Q : β → Hp → Prop} (hr : HR K φ mh H) (rl : rel φ H m v) (p : PostR K W rel φ H ms σ (.ok m mh) Q) : Q v H := p φ v H Ext.refl hr rl
end

/-! ### what a value is to be read as -/
def LIM : Nat := 16777216
theorem LIM_eq : sizeLine = LIM := sizeLine_eq
def seqOf (h : MH) : M → Option (List M)
  | .tup xs => some xs
  | .ro xs => some xs
  | .tmp xs => some xs
  | .loc n => match h[n]? with
    | some (.lst xs) => some xs
    | _ => none
  | _ => none
section
variable {K : PySem.W.Frag} {W : WM} {φ φ' φ2 : Ph} {H H' H2 : Hp} {mh : MH} {ms : MS} {σ : L2.St}
theorem Rep.ref_loc {n : Nat} {v : V} (h : Rep K φ H (.loc n) v) : ∃ a, v = .ref a ∧ φ.ls[n]? = some a := by rw [Rep] at h; exact h
theorem Rep.lst {n : Nat} {v : V} {xs : List M} (hr : HR K φ mh H) (h : Rep K φ H (.loc n) v) (e : mh[n]? = some (.lst xs)) : ∃ a vs, v = .ref a ∧ φ.ls[n]? = some a ∧ H a = some (.lst vs) ∧ Reps K φ H xs vs := by
  obtain ⟨a, rfl, ha⟩ := h.ref_loc
  obtain ⟨vs, q, r⟩ := hr.obj n _ a e ha
  exact ⟨a, vs, rfl, ha, q, r⟩
theorem seq_of {m : M} {v : V} {xs : List M} (hr : HR K φ mh H) (h : Rep K φ H m v) (e : seqOf mh m = some xs) : ∃ a vs, v = .ref a ∧ (SqL K H a vs ∨ SqT K H a vs) ∧ Reps K φ H xs vs := by
  cases m with
  | tup ys =>
    rw [Rep] at h
    obtain ⟨a, vs, rfl, q, r⟩ := h
    cases e
    exact ⟨a, vs, rfl, .inr (SqT.of q), r⟩
  | ro ys =>
    rw [Rep] at h
    obtain ⟨a, vs, rfl, q, r⟩ := h
    cases e
    exact ⟨a, vs, rfl, .inl q.sq, r⟩
  | tmp ys =>
    rw [Rep] at h
    obtain ⟨a, vs, rfl, q, n, r⟩ := h
    cases e
    exact ⟨a, vs, rfl, .inl (SqL.of q), r⟩
  | loc n =>
    have e' : (match mh[n]? with
      | some (.lst xs) => some xs
      | _ => none) = some xs := e
    split at e'
    · rename_i ys he
      cases e'
      obtain ⟨a, vs, rfl, ha, q, r⟩ := h.lst hr he
      exact ⟨a, vs, rfl, .inl (SqL.of q), r⟩
    · cases e'
  | _ => simp [seqOf] at e
/-- a list that is read -/
def lsq (h : MH) : M → Option (List M)
  | .ro xs => some xs
  | .tmp xs => some xs
  | .loc n => match h[n]? with
    | some (.lst xs) => some xs
    | _ => none
  | _ => none
theorem lsq_of {m : M} {v : V} {xs : List M} (hr : HR K φ mh H) (h : Rep K φ H m v) (e : lsq mh m = some xs) : ∃ a vs, v = .ref a ∧ SqL K H a vs ∧ Reps K φ H xs vs := by
  cases m with
  | ro ys =>
    rw [Rep] at h
    obtain ⟨a, vs, rfl, q, r⟩ := h
    cases e
    exact ⟨a, vs, rfl, q.sq, r⟩
  | tmp ys =>
    rw [Rep] at h
    obtain ⟨a, vs, rfl, q, n, r⟩ := h
    cases e
    exact ⟨a, vs, rfl, SqL.of q, r⟩
  | loc n =>
    have e' : (match mh[n]? with
      | some (.lst xs) => some xs
      | _ => none) = some xs := e
    split at e'
    · rename_i ys he
      cases e'
      obtain ⟨a, vs, rfl, ha, q, r⟩ := h.lst hr he
      exact ⟨a, vs, rfl, SqL.of q, r⟩
    · cases e'
  | _ => simp [lsq] at e
theorem Reps.length {xs : List M} {vs : List V} (h : Reps K φ H xs vs) : xs.length = vs.length := Paired.length (Reps.iff.mp h)
theorem Reps.nil : Reps K φ H [] [] := by rw [Reps]
theorem Reps.cons {x : M} {v : V} {xs : List M} {vs : List V} (h : Rep K φ H x v) (t : Reps K φ H xs vs) : Reps K φ H (x :: xs) (v :: vs) := by rw [Reps]; exact ⟨v, vs, rfl, h, t⟩
theorem Reps.one {x : M} {vs : List V} (h : Reps K φ H [x] vs) : ∃ v, vs = [v] ∧ Rep K φ H x v := by
  rw [Reps] at h
  obtain ⟨v, r, rfl, h1, h2⟩ := h
  rw [Reps] at h2
  subst h2
  exact ⟨v, rfl, h1⟩
theorem Reps.two {x y : M} {vs : List V} (h : Reps K φ H [x, y] vs) : ∃ v w, vs = [v, w] ∧ Rep K φ H x v ∧ Rep K φ H y w := by
  rw [Reps] at h
  obtain ⟨v, r, rfl, h1, h2⟩ := h
  obtain ⟨w, rfl, h3⟩ := h2.one
  exact ⟨v, w, rfl, h1, h3⟩
theorem Reps.append : ∀ {xs ys : List M} {vs ws : List V}, Reps K φ H xs vs → Reps K φ H ys ws → Reps K φ H (xs ++ ys) (vs ++ ws)
  | [], _, _, _, h, t => by
    rw [Reps] at h
    subst h
    exact t
  | x :: xs, _, _, _, h, t => by
    rw [Reps] at h
    obtain ⟨v, r, rfl, h1, h2⟩ := h
    exact Reps.cons h1 (Reps.append h2 t)
theorem Reps.get : ∀ {xs : List M} {vs : List V} {i : Nat} {x : M}, Reps K φ H xs vs → xs[i]? = some x → ∃ v, vs[i]? = some v ∧ Rep K φ H x v
  | [], _, i, _, _, e => by simp at e
  | y :: xs, _, 0, x, h, e => by
    rw [Reps] at h
    obtain ⟨v, r, rfl, h1, h2⟩ := h
    simp at e; subst e
    exact ⟨v, rfl, h1⟩
  | y :: xs, _, i + 1, x, h, e => by
    rw [Reps] at h
    obtain ⟨v, r, rfl, h1, h2⟩ := h
    obtain ⟨u, a, b⟩ := Reps.get (i := i) h2 (by simpa using e)
    exact ⟨u, by simpa using a, b⟩
theorem Reps.set : ∀ {xs : List M} {vs : List V} (i : Nat) {x : M} {v : V}, Reps K φ H xs vs → Rep K φ H x v → Reps K φ H (xs.set i x) (vs.set i v)
  | [], _, i, _, _, h, _ => by rw [Reps] at h; subst h; simp [Reps]
  | y :: xs, _, 0, x, v, h, q => by
    rw [Reps] at h
    obtain ⟨u, r, rfl, h1, h2⟩ := h
    exact Reps.cons q h2
  | y :: xs, _, i + 1, x, v, h, q => by
    rw [Reps] at h
    obtain ⟨u, r, rfl, h1, h2⟩ := h
    exact Reps.cons h1 (Reps.set i h2 q)
theorem Reps.take : ∀ {xs : List M} {vs : List V} (i : Nat), Reps K φ H xs vs → Reps K φ H (xs.take i) (vs.take i)
  | _, _, 0, _ => by rw [List.take_zero, List.take_zero]; exact Reps.nil
  | [], _, i + 1, h => by rw [Reps] at h; subst h; exact Reps.nil
  | y :: xs, _, i + 1, h => by
    rw [Reps] at h
    obtain ⟨u, r, rfl, h1, h2⟩ := h
    exact Reps.cons h1 (Reps.take i h2)
theorem Reps.drop : ∀ {xs : List M} {vs : List V} (i : Nat), Reps K φ H xs vs → Reps K φ H (xs.drop i) (vs.drop i)
  | _, _, 0, h => h
  | [], _, i + 1, h => by rw [Reps] at h; subst h; exact Reps.nil
  | y :: xs, _, i + 1, h => by
    rw [Reps] at h
    obtain ⟨u, r, rfl, h1, h2⟩ := h
    exact Reps.drop i h2
theorem Reps.reverse : ∀ {xs : List M} {vs : List V}, Reps K φ H xs vs → Reps K φ H xs.reverse vs.reverse
  | [], _, h => by rw [Reps] at h; subst h; exact Reps.nil
  | y :: xs, _, h => by
    rw [Reps] at h
    obtain ⟨u, r, rfl, h1, h2⟩ := h
    rw [List.reverse_cons, List.reverse_cons]
    exact Reps.append (Reps.reverse h2) (Reps.cons h1 Reps.nil)
theorem Reps.eraseIdx : ∀ {xs : List M} {vs : List V} (i : Nat), Reps K φ H xs vs → Reps K φ H (xs.eraseIdx i) (vs.eraseIdx i)
  | [], _, i, h => by rw [Reps] at h; subst h; exact Reps.nil
  | y :: xs, _, 0, h => by
    rw [Reps] at h
    obtain ⟨u, r, rfl, h1, h2⟩ := h
    exact h2
  | y :: xs, _, i + 1, h => by
    rw [Reps] at h
    obtain ⟨u, r, rfl, h1, h2⟩ := h
    exact Reps.cons h1 (Reps.eraseIdx i h2)
theorem Reps.dropLast : ∀ {xs : List M} {vs : List V}, Reps K φ H xs vs → Reps K φ H xs.dropLast vs.dropLast := fun {xs vs} h => by
  rw [List.dropLast_eq_take, List.dropLast_eq_take, h.length]
  exact Reps.take _ h
theorem Reps.flatten_rep {xs : List M} {vs : List V} (h : Reps K φ H xs vs) : ∀ k : Nat, Reps K φ H (List.replicate k xs).flatten (List.replicate k vs).flatten
  | 0 => Reps.nil
  | k + 1 => by
    rw [List.replicate_succ, List.replicate_succ, List.flatten_cons, List.flatten_cons]
    exact Reps.append h (Reps.flatten_rep h k)
theorem Reps.ints : ∀ {ns : List Int} {vs : List V}, Reps K φ H (ns.map M.int) vs → vs = ns.map V.int
  | [], _, h => by rw [List.map_nil, Reps] at h; subst h; rfl
  | n :: ns, _, h => by
    rw [List.map_cons, Reps] at h
    obtain ⟨v, r, rfl, h1, h2⟩ := h
    rw [Rep] at h1
    rw [h1, Reps.ints h2, List.map_cons]
theorem Reps.of_ints : ∀ {ns : List Int}, Reps K φ H (ns.map M.int) (ns.map V.int)
  | [] => Reps.nil
  | n :: ns => Reps.cons (by rw [Rep]) Reps.of_ints
/-- a new list: at the next place, or a value -/
def mkL (bx : Bool) (xs : List M) (h : MH) : R M := if bx = true then .ok (.loc h.length) (h ++ [.lst xs]) else .ok (.tmp xs) h
/-- a new list at the next place -/
theorem new_lst {W : WM} {xs : List M} {vs : List V} {p : Addr} {Q : VK} (hr : HR K φ mh H) (r : Reps K φ H xs vs) (hp : H p = none) (q : PostR K W (Rep K) φ H ms σ (.ok (.loc mh.length) (mh ++ [.lst xs])) Q) : Q (.ref p) (upd H p (.lst vs)) := by
  refine q (φ.add p) _ _ (Ext.alloc hp) (hr.alloc hp ⟨vs, upd_same, Reps.ext (Ext.alloc hp) r⟩) ?_
  rw [Rep]
  exact ⟨p, rfl, by rw [← hr.len]; simp [Ph.add]⟩
theorem new_tmp {W : WM} {xs : List M} {vs : List V} {p : Addr} {Q : VK} (hr : HR K φ mh H) (r : Reps K φ H xs vs) (hp : H p = none) (q : PostR K W (Rep K) φ H ms σ (.ok (.tmp xs) mh) Q) : Q (.ref p) (upd H p (.lst vs)) := by
  refine q φ _ _ (Ext.new hp) (hr.new hp) ?_
  rw [Rep]
  exact ⟨p, vs, rfl, upd_same, hr.freshH hp, Reps.ext (Ext.new hp) r⟩
theorem new_l {W : WM} {bx : Bool} {xs : List M} {vs : List V} {p : Addr} {Q : VK} (hr : HR K φ mh H) (r : Reps K φ H xs vs) (hp : H p = none) (q : PostR K W (Rep K) φ H ms σ (mkL bx xs mh) Q) : Q (.ref p) (upd H p (.lst vs)) := by
  cases bx with
  | true => exact new_lst hr r hp q
  | false => exact new_tmp hr r hp q
/-- a new tuple -/
theorem new_tup {W : WM} {xs : List M} {vs : List V} {p : Addr} {Q : VK} (hr : HR K φ mh H) (r : Reps K φ H xs vs) (hp : H p = none) (q : PostR K W (Rep K) φ H ms σ (.ok (.tup xs) mh) Q) : Q (.ref p) (upd H p (.tup vs)) := by
  refine q φ _ _ (Ext.new hp) (hr.new hp) ?_
  rw [Rep]
  exact ⟨p, vs, rfl, upd_same, Reps.ext (Ext.new hp) r⟩
/-- a list written -/
theorem set_lst {W : WM} {n : Nat} {a : Addr} {xs' : List M} {vs' : List V} {m : M} {v : V} {Q : VK} (hr : HR K φ mh H) (ha : φ.ls[n]? = some a) (r : Reps K φ H xs' vs') (hm : Rep K φ H m v)
    (q : PostR K W (Rep K) φ H ms σ (.ok m (mh.set n (.lst xs'))) Q) : Q v (upd H a (.lst vs')) := by
  have e : Ext φ H φ (upd H a (.lst vs')) := Ext.write hr ha
  exact q φ v _ e (hr.write ha ⟨vs', upd_same, Reps.ext e r⟩) (Rep.ext e hm)
end

/-! ### two-place operations -/
def OpM (K : PySem.W.Frag) (g : M → M → MH → R M) (r : R2) : Prop :=
  ∀ (W : WM) (φ : Ph) (mh : MH) (ms : MS) (σ : L2.St) (H : Hp) (x y : M) (v u : V) (Q : VK), HR K φ mh H → SR K φ H ms σ → Rep K φ H x v → Rep K φ H y u → PostR K W (Rep K) φ H ms σ (g x y mh) Q → r v u H Q
def mBin (g : M → M → MH → R M) (fa fb : ME) : ME := fun ms mh => (fa ms mh).bind fun x h1 => (fb ms h1).bind fun y h2 => g x y h2
def asB (r : R M) : R Bool := r.bind fun m h => match m with
  | .bl b => .ok b h
  | _ => .bad
def tB' (f : ME) : MT := fun ms mh => asB (f ms mh)
section
variable {X : Cx} {W : WM} {a b : Expr} {fa fb : ME} {pos : Pos} {r : R2} {g : M → M → MH → R M}
theorem bin_rd {K : PySem.W.Frag} {σ : L2.St} {H : Hp} {Q : VK} (hg : OpM K g r) (h : rdE K W (mBin g fa fb) σ H Q) : tOp r (rdE K W fa) (rdE K W fb) σ H Q := by
  refine (rdR.bind (rel2 := Rep K) (k := fun ms x h1 => (fb ms h1).bind fun y h2 => g x y h2) h).mono fun v H1 q => ?_
  obtain ⟨φ, φ1, ms, m, h1, hr, hs, rl, e, p⟩ := q
  refine ⟨φ1, ms, h1, hr, hs, ?_⟩
  refine (PostR.bind (rel2 := Rep K) hs p).mono fun u H2 q => ?_
  obtain ⟨φ2, y, h2, hr2, hs2, rl2, e2, p2⟩ := q
  exact hg W φ2 h2 ms σ H2 m y v u Q hr2 hs2 (Rep.ext e2 rl) rl2 p2
theorem se_op {op : Operator} (ho : OpR X (binaryOp op) r) (hg : OpM X.K g r) (ha : SE X W a fa) (hb : SE X W b fb) : SE X W (.BinOp a op b pos) (mBin g fa fb) :=
  (pe_op ho ha hb).imp fun _ _ _ h => bin_rd hg h
theorem se_cmp {op : CmpOp} (ho : OpR X (compareOp op) r) (hg : OpM X.K g r) (ha : SE X W a fa) (hb : SE X W b fb) (hm : behindInMarks op b = false) : SE X W (.Compare a [op] [b] pos) (mBin g fa fb) :=
  (pe_cmpR ho ha hb hm).imp fun _ _ _ h => bin_rd hg h
theorem asB_rd {K : PySem.W.Frag} {f : ME} {σ : L2.St} {H : Hp} {Q : Bool → Hp → Prop} (h : rdT K W (tB' f) σ H Q) : rdE K W f σ H fun x H' => ∃ k, x = .bl k ∧ Q k H' := by
  refine (rdR.bind (rel2 := Rep K) (k := fun ms m h => match m with
    | .bl b => R.ok b h
    | _ => .bad) h).mono fun v H1 q => ?_
  obtain ⟨φ, φ1, ms, m, h1, hr, hs, rl, e, p⟩ := q
  cases m with
  | bl b =>
    rw [Rep] at rl
    exact ⟨b, rl, p.here hr rfl⟩
  | _ => exact p.elim
theorem st_cmp {op : CmpOp} (ho : OpR X (compareOp op) r) (hg : OpM X.K g r) (ha : SE X W a fa) (hb : SE X W b fb) (hm : behindInMarks op b = false) : ST X W (.Compare a [op] [b] pos) (tB' (mBin g fa fb)) :=
  (pt_cmpR ho ha hb hm).imp fun _ _ _ h => bin_rd hg (asB_rd h)
/-- an expression whose value is a bool, as a test -/
theorem st_val {e : Expr} {f : ME} (h : SE X W e f) (he : ∀ whole, isTrue e X.env whole = (do let v ← whole; standAt e.pos; holding [v] (truthy v)) := by intro _; rfl) : ST X W e (tB' f) :=
  (pt_val h he).imp fun _ _ _ h => asB_rd h
end
end Tb

set_option Elab.async false
set_option linter.all false
set_option maxRecDepth 100000
namespace Tb
open PySem PySem.Spec PyProof.Rows L2

/-! ### data for == -/
def optMap {α β : Type} (f : α → Option β) : List α → Option (List β)
  | [] => some []
  | x :: xs => match f x with
    | some y => match optMap f xs with
      | some ys => some (y :: ys)
      | none => none
    | none => none
def dat (h : MH) : Nat → M → Option PyData
  | 0, _ => none
  | k + 1, m => match m with
    | .non => some .none
    | .bl b => some (.bool b)
    | .int i => some (.int i)
    | .str x => if PyData.strOk x = true then some (.str x) else none
    | .tup xs => (optMap (dat h k) xs).map .tuple
    | .ro xs => (optMap (dat h k) xs).map .list
    | .tmp xs => (optMap (dat h k) xs).map .list
    | .loc n => match h[n]? with
      | some (.lst xs) => (optMap (dat h k) xs).map .list
      | _ => none
    | .ty _ => none
theorem optMap_lay {f : M → Option PyData} {k : Nat} (hf : ∀ m d, f m = some d → d.canLay0 = true ∧ d.depth ≤ k) : ∀ {xs : List M} {ds : List PyData}, optMap f xs = some ds → PyData.canLayAll0 ds = true ∧ PyData.depthAll ds ≤ k
  | [], ds, e => by cases e; simp [PyData.canLayAll0, PyData.depthAll]
  | x :: xs, ds, e => by
    unfold optMap at e
    split at e
    · rename_i y hy
      split at e
      · rename_i ys hys
        cases e
        obtain ⟨a, b⟩ := hf x y hy
        obtain ⟨c, d⟩ := optMap_lay hf hys
        simp only [PyData.canLayAll0, PyData.depthAll, a, c, Bool.and_self, true_and]
        omega
      · cases e
    · cases e
theorem dat_lay {h : MH} : ∀ (k : Nat) (m : M) (d : PyData), dat h k m = some d → d.canLay0 = true ∧ d.depth ≤ k
  | 0, m, d, e => by simp [dat] at e
  | k + 1, m, d, e => by
    have ih := dat_lay (h := h) k
    have lst : ∀ {xs : List M} {d : PyData}, (optMap (dat h k) xs).map PyData.list = some d → d.canLay0 = true ∧ d.depth ≤ k + 1 := fun {xs d} e => by
      obtain ⟨ds, h1, rfl⟩ := Option.map_eq_some_iff.mp e
      obtain ⟨a, b⟩ := optMap_lay ih h1
      exact ⟨by rw [PyData.canLay0]; exact a, by rw [PyData.depth]; omega⟩
    cases m with
    | non => cases e; simp [PyData.canLay0, PyData.depth]
    | bl b => cases e; simp [PyData.canLay0, PyData.depth]
    | int i => cases e; simp [PyData.canLay0, PyData.depth]
    | str x =>
      have e' : (if PyData.strOk x = true then some (PyData.str x) else none) = some d := e
      split at e'
      · rename_i hx
        cases e'
        exact ⟨by rw [PyData.canLay0]; exact hx, by simp [PyData.depth]⟩
      · cases e'
    | tup xs =>
      have e' : (optMap (dat h k) xs).map PyData.tuple = some d := e
      obtain ⟨ds, h1, rfl⟩ := Option.map_eq_some_iff.mp e'
      obtain ⟨a, b⟩ := optMap_lay ih h1
      exact ⟨by rw [PyData.canLay0]; exact a, by rw [PyData.depth]; omega⟩
    | ro xs => exact lst e
    | tmp xs => exact lst e
    | loc n =>
      have e' : (match h[n]? with
        | some (.lst xs) => (optMap (dat h k) xs).map PyData.list
        | _ => none) = some d := e
      split at e'
      · exact lst e'
      · cases e'
    | ty n => cases e
section
variable {K : PySem.W.Frag} {W : WM} {φ φ' φ2 : Ph} {H H' H2 : Hp} {mh : MH} {ms : MS} {σ : L2.St}
theorem optMap_dp {f : M → Option PyData} (hf : ∀ m v d, Rep K φ H m v → f m = some d → Dp K H v d) : ∀ {xs : List M} {vs : List V} {ds : List PyData}, Reps K φ H xs vs → optMap f xs = some ds → DpAll K H vs ds
  | [], vs, ds, r, e => by rw [Reps] at r; subst r; cases e; exact .nil
  | x :: xs, vs, ds, r, e => by
    rw [Reps] at r
    obtain ⟨v, vs', rfl, r1, r2⟩ := r
    unfold optMap at e
    split at e
    · rename_i y hy
      split at e
      · rename_i ys hys
        cases e
        exact .cons (hf x v y r1 hy) (optMap_dp hf r2 hys)
      · cases e
    · cases e
theorem dat_dp (hr : HR K φ mh H) : ∀ (k : Nat) (m : M) (v : V) (d : PyData), Rep K φ H m v → dat mh k m = some d → Dp K H v d
  | 0, m, v, d, r, e => by simp [dat] at e
  | k + 1, m, v, d, r, e => by
    have ih := dat_dp hr k
    cases m with
    | non => cases e; rw [Rep] at r; subst r; exact .non
    | bl b => cases e; rw [Rep] at r; subst r; exact .bl b
    | int i => cases e; rw [Rep] at r; subst r; exact .int i
    | str x =>
      have e' : (if PyData.strOk x = true then some (PyData.str x) else none) = some d := e
      split at e'
      · cases e'; rw [Rep] at r; subst r; exact .str x
      · cases e'
    | tup xs =>
      have e' : (optMap (dat mh k) xs).map PyData.tuple = some d := e
      obtain ⟨ds, h1, rfl⟩ := Option.map_eq_some_iff.mp e'
      rw [Rep] at r
      obtain ⟨a, vs, rfl, q, rs⟩ := r
      exact .tup (SqT.of q) (optMap_dp ih rs h1)
    | ro xs =>
      have e' : (optMap (dat mh k) xs).map PyData.list = some d := e
      obtain ⟨ds, h1, rfl⟩ := Option.map_eq_some_iff.mp e'
      rw [Rep] at r
      obtain ⟨a, vs, rfl, q, rs⟩ := r
      exact .lst q.sq (optMap_dp ih rs h1)
    | tmp xs =>
      have e' : (optMap (dat mh k) xs).map PyData.list = some d := e
      obtain ⟨ds, h1, rfl⟩ := Option.map_eq_some_iff.mp e'
      rw [Rep] at r
      obtain ⟨a, vs, rfl, q, _, rs⟩ := r
      exact .lst (SqL.of q) (optMap_dp ih rs h1)
    | loc n =>
      have e' : (match mh[n]? with
        | some (.lst xs) => (optMap (dat mh k) xs).map PyData.list
        | _ => none) = some d := e
      split at e'
      · rename_i xs he
        obtain ⟨ds, h1, rfl⟩ := Option.map_eq_some_iff.mp e'
        obtain ⟨a, vs, rfl, ha, q, rs⟩ := r.lst hr he
        exact .lst (SqL.of q) (optMap_dp ih rs h1)
      · cases e'
    | ty n => cases e
theorem shaped_of {h : MH} {k : Nat} {m : M} {d : PyData} (hk : k ≤ 64) (e : dat h k m = some d) : SeqAt.shaped d = true := by
  obtain ⟨a, b⟩ := dat_lay k m d e
  unfold SeqAt.shaped
  rw [a, Bool.true_and]
  exact decide_eq_true (Nat.le_trans b hk)
end
/-- how deep -/
def DP : Nat := 12
/-- two texts -/
def strs2 : M → M → Option (Str × Str)
  | .str a, .str b => some (a, b)
  | _, _ => none
def eqM (x y : M) (h : MH) : R M := match strs2 x y with
  | some (a, b) => .ok (.bl (decide (a = b))) h
  | none => match dat h DP x, dat h DP y with
    | some d, some e => .ok (.bl (PyData.eqv d e)) h
    | _, _ => .bad
def neM (x y : M) (h : MH) : R M := match strs2 x y with
  | some (a, b) => .ok (.bl (!decide (a = b))) h
  | none => match dat h DP x, dat h DP y with
    | some d, some e => .ok (.bl (!PyData.eqv d e)) h
    | _, _ => .bad
def rEqX (K : PySem.W.Frag) : R2 := fun x y H Q => rEq x y H Q ∨ rEqD K x y H Q
def rNeX (K : PySem.W.Frag) : R2 := fun x y H Q => rNe x y H Q ∨ rNeD K x y H Q
theorem op_eqX {X : Cx} (hu : X.A.units + 64 < cLine) : OpR X (compareOp .Eq) (rEqX X.K) := op_eq.or (op_eqD hu)
theorem op_neX {X : Cx} (hu : X.A.units + 64 < cLine) : OpR X (compareOp .NotEq) (rNeX X.K) := op_ne.or (op_neD hu)
theorem strs2_some {x y : M} {a b : Str} (e : strs2 x y = some (a, b)) : x = .str a ∧ y = .str b := by
  cases x <;> cases y <;> simp [strs2] at e
  exact ⟨by rw [e.1], by rw [e.2]⟩
theorem dec_strV (a b : Str) : decide (V.str a = V.str b) = decide (a = b) := by simp
theorem om_eq {K : PySem.W.Frag} : OpM K eqM (rEqX K) := by
  intro W φ mh ms σ H x y v u Q hr hs rx ry p
  unfold eqM at p
  split at p
  · rename_i a b hab
    obtain ⟨rfl, rfl⟩ := strs2_some hab
    rw [Rep] at rx ry
    subst rx; subst ry
    exact .inl ⟨rfl, by rw [dec_strV]; exact p.here hr (by rw [Rep])⟩
  · split at p
    · rename_i d e hd he
      exact .inr ⟨d, e, dat_dp hr _ x v d rx hd, dat_dp hr _ y u e ry he, shaped_of (by decide) hd, shaped_of (by decide) he, p.here hr (by rw [Rep])⟩
    · exact p.elim
theorem om_ne {K : PySem.W.Frag} : OpM K neM (rNeX K) := by
  intro W φ mh ms σ H x y v u Q hr hs rx ry p
  unfold neM at p
  split at p
  · rename_i a b hab
    obtain ⟨rfl, rfl⟩ := strs2_some hab
    rw [Rep] at rx ry
    subst rx; subst ry
    exact .inl ⟨rfl, by rw [dec_strV]; exact p.here hr (by rw [Rep])⟩
  · split at p
    · rename_i d e hd he
      exact .inr ⟨d, e, dat_dp hr _ x v d rx hd, dat_dp hr _ y u e ry he, shaped_of (by decide) hd, shaped_of (by decide) he, p.here hr (by rw [Rep])⟩
    · exact p.elim

/-! ### x in a list, a tuple, a dict -/
section
variable {X : Cx}
def rInDT (K : PySem.W.Frag) : R2 := fun x y H Q => ∃ d ds, Dp K H x d ∧ Dp K H y (.tuple ds) ∧ SeqAt.shaped d = true ∧ SeqAt.shaped (.tuple ds) = true ∧ Q (.bl (ds.any fun z => PyData.eqv z d)) H
def rNotInDT (K : PySem.W.Frag) : R2 := fun x y H Q => ∃ d ds, Dp K H x d ∧ Dp K H y (.tuple ds) ∧ SeqAt.shaped d = true ∧ SeqAt.shaped (.tuple ds) = true ∧ Q (.bl (!ds.any fun z => PyData.eqv z d)) H
theorem op_inDT (hu : X.A.units + 65 < cLine) : OpR X (compareOp .In) (rInDT X.K) := by
  intro pins s σ H x y v u Q I rx ry h
  obtain ⟨d, ds, hd, he, sd, se, q⟩ := h
  obtain ⟨as, r1⟩ := Dp.reads I d x v hd rx
  obtain ⟨bs, r2⟩ := Dp.reads I (.tuple ds) y u he ry
  exact SeqAt.in_tuple_reads r2 r1 (SeqAt.canLay_of_shaped se) (SeqAt.canLay_of_shaped sd) (room_in_shaped sd hu) ⟨.bl _, H, I, rfl, q⟩
theorem op_notInDT (hu : X.A.units + 65 < cLine) : OpR X (compareOp .NotIn) (rNotInDT X.K) := by
  intro pins s σ H x y v u Q I rx ry h
  obtain ⟨d, ds, hd, he, sd, se, q⟩ := h
  obtain ⟨as, r1⟩ := Dp.reads I d x v hd rx
  obtain ⟨bs, r2⟩ := Dp.reads I (.tuple ds) y u he ry
  exact SeqAt.notIn_tuple_reads r2 r1 (SeqAt.canLay_of_shaped se) (SeqAt.canLay_of_shaped sd) (room_in_shaped sd hu) ⟨.bl _, H, I, rfl, q⟩
def rInDct (neg : Bool) : R2 := fun y x H Q => ∃ a o, x = .ref a ∧ DGet H a y o ∧ Q (.bl (if neg then !o.isSome else o.isSome)) H
theorem op_inDct (hu : X.A.units + 1 < cLine) : OpR X (compareOp .In) (rInDct false) := by
  intro pins s σ H x y v u Q I rx ry h
  obtain ⟨a, o, rfl, g, q⟩ := h
  obtain rfl : u = Value.ref a := ry
  exact d_in hu I g rx fun s3 I3 => ⟨.bl o.isSome, H, I3, rfl, q⟩
theorem op_notInDct (hu : X.A.units + 1 < cLine) : OpR X (compareOp .NotIn) (rInDct true) := by
  intro pins s σ H x y v u Q I rx ry h
  obtain ⟨a, o, rfl, g, q⟩ := h
  obtain rfl : u = Value.ref a := ry
  exact d_notIn hu I g rx fun s3 I3 => ⟨.bl (!o.isSome), H, I3, rfl, q⟩
end
def keyOf : M → Option Key
  | .int i => some (.inl i)
  | .str x => some (.inr x)
  | _ => none
def keysOf : M → Option (List Key)
  | .tup xs => optMap keyOf xs
  | _ => none
def valM {κ : Type} [DecidableEq κ] (kvs : List (κ × M)) (k : κ) : Option M := (kvs.find? fun kv => decide (kv.1 = k)).map (·.2)
def putM {κ : Type} [DecidableEq κ] (kvs : List (κ × M)) (k : κ) (v : M) : List (κ × M) :=
  if (kvs.any fun kv => decide (kv.1 = k)) = true then kvs.map (fun kv => if kv.1 = k then (kv.1, v) else kv) else kvs ++ [(k, v)]
/-- what a dict holds at a key: none where there is no such dict or key kind -/
def dgetM (h : MH) (d k : M) : Option (Option M) := match d with
  | .loc n => match h[n]? with
    | some (.dk kvs) => match keyOf k with
      | some q => some (valM kvs q)
      | none => none
    | some (.dt kvs) => match keysOf k with
      | some q => some (valM kvs q)
      | none => none
    | _ => none
  | _ => none
section
variable {K : PySem.W.Frag} {W : WM} {φ φ' φ2 : Ph} {H H' H2 : Hp} {mh : MH} {ms : MS} {σ : L2.St}
theorem keyOf_v {m : M} {v : V} {k : Key} (r : Rep K φ H m v) (e : keyOf m = some k) : v = kV k := by
  cases m with
  | int i => cases e; rw [Rep] at r; exact r
  | str x => cases e; rw [Rep] at r; exact r
  | _ => simp [keyOf] at e
theorem optMap_keys : ∀ {xs : List M} {vs : List V} {ks : List Key}, Reps K φ H xs vs → optMap keyOf xs = some ks → vs = ks.map kV
  | [], vs, ks, r, e => by rw [Reps] at r; subst r; cases e; rfl
  | x :: xs, vs, ks, r, e => by
    rw [Reps] at r
    obtain ⟨v, vs', rfl, r1, r2⟩ := r
    unfold optMap at e
    split at e
    · rename_i y hy
      split at e
      · rename_i ys hys
        cases e
        rw [keyOf_v r1 hy, optMap_keys r2 hys, List.map_cons]
      · cases e
    · cases e
theorem keysOf_v {m : M} {v : V} {k : List Key} (r : Rep K φ H m v) (e : keysOf m = some k) : ∃ b, v = .ref b ∧ H b = some (.tup (k.map kV)) := by
  cases m with
  | tup xs =>
    rw [Rep] at r
    obtain ⟨a, vs, rfl, q, rs⟩ := r
    rw [optMap_keys rs e] at q
    exact ⟨a, rfl, q⟩
  | _ => simp [keysOf] at e
/-- one of both, or none -/
def RepO (K : PySem.W.Frag) (φ : Ph) (H : Hp) : Option M → Option V → Prop
  | some m, some v => Rep K φ H m v
  | none, none => True
  | _, _ => False
theorem RepKV.val {κ : Type} [DecidableEq κ] (k : κ) : ∀ {kvs : List (κ × M)} {ws : List (κ × V)}, RepKV K φ H kvs ws → RepO K φ H (valM kvs k) (valV ws k)
  | _, _, .nil => by simp [valM, valV, RepO]
  | _, _, .cons (a := p) (b := q) h t => by
    have ih := RepKV.val k t
    by_cases e : p.1 = k
    · have e2 : q.1 = k := h.1 ▸ e
      rw [valV_pos e2]
      simp only [valM, List.find?_cons, e, decide_true, Option.map_some, RepO]
      exact h.2
    · have e2 : ¬ q.1 = k := h.1 ▸ e
      rw [valV_neg e2]
      simp only [valM, List.find?_cons, e, decide_false]
      exact ih
theorem RepKV.any {κ : Type} [DecidableEq κ] (k : κ) : ∀ {kvs : List (κ × M)} {ws : List (κ × V)}, RepKV K φ H kvs ws → (kvs.any fun kv => decide (kv.1 = k)) = ws.any fun kv => decide (kv.1 = k)
  | _, _, .nil => rfl
  | _, _, .cons (a := p) (b := q) h t => by
    rw [List.any_cons, List.any_cons, RepKV.any k t, h.1]
theorem RepKV.repl {κ : Type} [DecidableEq κ] (k : κ) {m : M} {v : V} (r : Rep K φ H m v) : ∀ {kvs : List (κ × M)} {ws : List (κ × V)}, RepKV K φ H kvs ws →
    RepKV K φ H (kvs.map fun kv => if kv.1 = k then (kv.1, m) else kv) (ws.map fun kv => if kv.1 = k then (kv.1, v) else kv)
  | _, _, .nil => .nil
  | _, _, .cons (a := p) (b := q) h t => by
    rw [List.map_cons, List.map_cons]
    refine .cons ?_ (RepKV.repl k r t)
    rw [← h.1]
    by_cases e : p.1 = k
    · rw [if_pos e, if_pos e]; exact ⟨rfl, r⟩
    · rw [if_neg e, if_neg e]; exact h
theorem Paired.app {α β : Type} {F : α → β → Prop} : ∀ {l₁ l₃ : List α} {l₂ l₄ : List β}, Paired F l₁ l₂ → Paired F l₃ l₄ → Paired F (l₁ ++ l₃) (l₂ ++ l₄)
  | _, _, _, _, .nil, h => h
  | _, _, _, _, .cons a t, h => .cons a (Paired.app t h)
theorem RepKV.put {κ : Type} [DecidableEq κ] (k : κ) {m : M} {v : V} (r : Rep K φ H m v) {kvs : List (κ × M)} {ws : List (κ × V)} (h : RepKV K φ H kvs ws) : RepKV K φ H (putM kvs k m) (putK ws k v) := by
  unfold putM putK
  rw [RepKV.any k h]
  split
  · exact RepKV.repl k r h
  · exact Paired.app h (.cons ⟨rfl, r⟩ .nil)
theorem RepKV.length {κ : Type} {kvs : List (κ × M)} {ws : List (κ × V)} (h : RepKV K φ H kvs ws) : kvs.length = ws.length := Paired.length h
theorem dget_of {d k : M} {dv kv : V} {o : Option M} (hr : HR K φ mh H) (rd : Rep K φ H d dv) (rk : Rep K φ H k kv) (e : dgetM mh d k = some o) : ∃ a o', dv = .ref a ∧ DGet H a kv o' ∧ RepO K φ H o o' := by
  cases d with
  | loc n =>
    obtain ⟨a, rfl, ha⟩ := rd.ref_loc
    have e' : (match mh[n]? with
      | some (.dk kvs) => (match keyOf k with
        | some q => some (valM kvs q)
        | none => none)
      | some (.dt kvs) => (match keysOf k with
        | some q => some (valM kvs q)
        | none => none)
      | _ => none) = some o := e
    split at e'
    · rename_i kvs he
      split at e'
      · rename_i q hq
        cases e'
        obtain ⟨ws, h1, h2⟩ := hr.obj n _ a he ha
        have ek := keyOf_v rk hq
        subst ek
        exact ⟨a, _, rfl, DGet.k h1, RepKV.val q h2⟩
      · cases e'
    · rename_i kvs he
      split at e'
      · rename_i q hq
        cases e'
        obtain ⟨ws, h1, h2⟩ := hr.obj n _ a he ha
        obtain ⟨b, rfl, hb⟩ := keysOf_v rk hq
        exact ⟨a, _, rfl, DGet.t h1 hb, RepKV.val q h2⟩
      · cases e'
    · cases e'
  | _ => simp [dgetM] at e
theorem RepO.isSome {o : Option M} {o' : Option V} (h : RepO K φ H o o') : o.isSome = o'.isSome := by
  cases o <;> cases o' <;> first | rfl | exact h.elim
end
def inM (neg : Bool) (x y : M) (h : MH) : R M :=
  match dgetM h y x with
  | some o => .ok (.bl (if neg then !o.isSome else o.isSome)) h
  | none => match dat h DP x, dat h DP y with
    | some d, some (.list ds) => .ok (.bl (if neg then !ds.any (fun z => PyData.eqv z d) else ds.any (fun z => PyData.eqv z d))) h
    | some d, some (.tuple ds) => .ok (.bl (if neg then !ds.any (fun z => PyData.eqv z d) else ds.any (fun z => PyData.eqv z d))) h
    | _, _ => .bad
theorem om_in {K : PySem.W.Frag} : OpM K (inM false) (fun x y H Q => rInDct false x y H Q ∨ rInD K x y H Q ∨ rInDT K x y H Q) := by
  intro W φ mh ms σ H x y v u Q hr hs rx ry p
  unfold inM at p
  split at p
  · rename_i o ho
    obtain ⟨a, o', rfl, g, ro⟩ := dget_of hr ry rx ho
    refine .inl ⟨a, o', rfl, g, p.here hr ?_⟩
    rw [Rep, ro.isSome]
  · split at p
    · rename_i d ds hd he
      exact .inr (.inl ⟨d, ds, dat_dp hr _ x v d rx hd, dat_dp hr _ y u _ ry he, shaped_of (by decide) hd, shaped_of (by decide) he, p.here hr (by rw [Rep]; rfl)⟩)
    · rename_i d ds hd he
      exact .inr (.inr ⟨d, ds, dat_dp hr _ x v d rx hd, dat_dp hr _ y u _ ry he, shaped_of (by decide) hd, shaped_of (by decide) he, p.here hr (by rw [Rep]; rfl)⟩)
    · exact p.elim
theorem om_notIn {K : PySem.W.Frag} : OpM K (inM true) (fun x y H Q => rInDct true x y H Q ∨ rNotInD K x y H Q ∨ rNotInDT K x y H Q) := by
  intro W φ mh ms σ H x y v u Q hr hs rx ry p
  unfold inM at p
  split at p
  · rename_i o ho
    obtain ⟨a, o', rfl, g, ro⟩ := dget_of hr ry rx ho
    refine .inl ⟨a, o', rfl, g, p.here hr ?_⟩
    rw [Rep, ro.isSome]
  · split at p
    · rename_i d ds hd he
      exact .inr (.inl ⟨d, ds, dat_dp hr _ x v d rx hd, dat_dp hr _ y u _ ry he, shaped_of (by decide) hd, shaped_of (by decide) he, p.here hr (by rw [Rep]; rfl)⟩)
    · rename_i d ds hd he
      exact .inr (.inr ⟨d, ds, dat_dp hr _ x v d rx hd, dat_dp hr _ y u _ ry he, shaped_of (by decide) hd, shaped_of (by decide) he, p.here hr (by rw [Rep]; rfl)⟩)
    · exact p.elim
/-! ### is -/
def isM (neg : Bool) (x y : M) (h : MH) : R M := match y with
  | .non => .ok (.bl (if neg then !(match x with | .non => true | _ => false) else (match x with | .non => true | _ => false))) h
  | .bl b => .ok (.bl (if neg then !(match x with | .bl c => c == b | _ => false) else (match x with | .bl c => c == b | _ => false))) h
  | _ => .bad
def rIsC (neg : Bool) : R2 := fun x y H Q => (y = .non ∨ ∃ b, y = .bl b) ∧ Q (.bl (if neg then !decide (x = y) else decide (x = y))) H
theorem op_isC {X : Cx} : OpR X (compareOp .Is) (rIsC false) := by
  intro pins s σ H x y v u Q I rx ry h
  obtain ⟨hy, q⟩ := h
  rcases hy with rfl | ⟨b, rfl⟩
  · exact op_isN pins s σ H x .non v u Q I rx ry ⟨rfl, q⟩
  · have hq : Q (.bl (decide (x = .bl b))) H := q
    obtain rfl : u = Value.bool b := ry
    have fin : ∀ k, decide (x = .bl b) = k → EP X pins σ Q (.bool k) s := fun k e => ⟨.bl k, H, I, rfl, e ▸ hq⟩
    cases x with
    | bl c => exact op_isBl pins s σ H _ (.bl b) v _ Q I rx (show RelV (.bl b) (.bool b) from rfl) ⟨c, b, rfl, rfl, by simpa using hq⟩
    | non => cases rx; exact wpAny_pure (fin _ (by simp))
    | int _ => obtain ⟨t, rfl⟩ := rx; exact wpAny_pure (fin _ (by simp))
    | str _ => obtain ⟨t, rfl⟩ := rx; exact wpAny_pure (fin _ (by simp))
    | byt _ => obtain ⟨t, rfl⟩ := rx; exact wpAny_pure (fin _ (by simp))
    | flt _ => obtain ⟨t, rfl⟩ := rx; exact wpAny_pure (fin _ (by simp))
    | ref _ => cases rx; exact wpAny_pure (fin _ (by simp))
    | ty _ => cases rx; exact wpAny_pure (fin _ (by simp))
end Tb

set_option Elab.async false
set_option linter.all false
set_option maxRecDepth 100000
namespace Tb
open PySem PySem.Spec PyProof.Rows L2

section
variable {X : Cx} {W : WM} {pos p : Pos}
/-! ### names, constants -/
def mVar (i : Nat) : ME := fun ms mh => match ms[i]? with
  | some (some m) => .ok m mh
  | _ => .bad
def mK (m : M) : ME := fun _ mh => .ok m mh
theorem se_var (i : Nat) {x : Str} (hN : X.N[i]? = some x := by rfl) (hv : Vis X.env.scope x := by first | exact Or.inl rfl | exact Or.inr (Or.inl rfl) | exact Or.inr (Or.inr rfl)) (hd : (x == ("__debug__" : Str)) = false := by decide)
    (hcd : (x == ("__classdict__" : Str)) = false := by decide) : SE X W (.Name x pos) (mVar i) := by
  refine (pe_var hN hv hd hcd).imp fun σ H Q h => ?_
  obtain ⟨φ, ms, mh, hr, hs, p⟩ := h
  unfold mVar at p
  split at p
  · rename_i m e
    obtain ⟨v, e2, r⟩ := hs.at_ i m e
    exact ⟨v, e2, p.here hr r⟩
  · exact p.elim
theorem const_rd {K : PySem.W.Frag} {m : M} {v : V} {σ : L2.St} {H : Hp} {Q : VK} (r : ∀ φ H, Rep K φ H m v) (h : rdE K W (mK m) σ H Q) : tC v σ H Q := by
  obtain ⟨φ, ms, mh, hr, hs, p⟩ := h
  exact p.here hr (r φ H)
theorem se_int {i : Int} {j : Nat} : SE X W (.Constant (.int i) j pos) (mK (.int i)) := pe_int.imp fun _ _ _ h => const_rd (fun _ _ => by rw [Rep]) h
theorem se_bl {b : Bool} {j : Nat} : SE X W (.Constant (.bool b) j pos) (mK (.bl b)) := pe_bl.imp fun _ _ _ h => const_rd (fun _ _ => by rw [Rep]) h
theorem se_non {j : Nat} : SE X W (.Constant .none j pos) (mK .non) := pe_non.imp fun _ _ _ h => const_rd (fun _ _ => by rw [Rep]) h
theorem se_str {x : Str} {j : Nat} : SE X W (.Constant (.str x) j pos) (mK (.str x)) := pe_str.imp fun _ _ _ h => const_rd (fun _ _ => by rw [Rep]) h
/-- a module's int -/
theorem se_gint {x : Str} {n : Int} {t : Tok} (hg : Gl X x) (hm : X.mg x = some (.int n t)) (hd : (x == ("__debug__" : Str)) = false := by decide) : SE X W (.Name x pos) (mK (.int n)) :=
  (pe_glob (v := .int n) hg hm ⟨t, rfl⟩ hd).imp fun _ _ _ h => const_rd (fun _ _ => by rw [Rep]) h
/-- a built-in class as a value -/
theorem se_ty {x : Str} {n : String} (hg : Gl X x) (hm : X.mg x = none) (hv : bootBuiltins x = some (.type n)) (hn : x ≠ "__name__" := by decide) (hd : (x == ("__debug__" : Str)) = false := by decide) : SE X W (.Name x pos) (mK (.ty n)) :=
  (pe_bltn (v := .ty n) hg hm hv rfl hn hd).imp fun _ _ _ h => const_rd (fun _ _ => by rw [Rep]) h

/-! ### arithmetic -/
def int2 (g : Int → Int → M) (C : Int → Int → Bool) (x y : M) (h : MH) : R M := match x, y with
  | .int i, .int j => if C i j = true then .ok (g i j) h else .bad
  | _, _ => .bad
theorem om_int {K : PySem.W.Frag} {g : Int → Int → M} {gv : Int → Int → V} {C : Int → Int → Bool} {CP : Int → Int → Prop} (hg : ∀ i j φ H, Rep K φ H (g i j) (gv i j)) (hc : ∀ i j, C i j = true → CP i j) : OpM K (int2 g C) (rI CP gv) := by
  intro W φ mh ms σ H x y v u Q hr hs rx ry p
  unfold int2 at p
  split at p
  · rename_i i j
    split at p
    · rename_i c
      rw [Rep] at rx ry
      exact ⟨i, j, rx, ry, hc i j c, p.here hr (hg i j φ H)⟩
    · exact p.elim
  · exact p.elim
theorem om_int0 {K : PySem.W.Frag} {g : Int → Int → M} {gv : Int → Int → V} (hg : ∀ i j φ H, Rep K φ H (g i j) (gv i j)) : OpM K (int2 g fun _ _ => true) (rI0 gv) := by
  intro W φ mh ms σ H x y v u Q hr hs rx ry p
  obtain ⟨i, j, e1, e2, _, q⟩ := om_int (CP := fun _ _ => True) hg (fun _ _ _ => trivial) W φ mh ms σ H x y v u Q hr hs rx ry p
  exact ⟨i, j, e1, e2, q⟩
def cMul (i j : Int) : Bool := (decide (-(2 ^ 64) < i) && decide (i < 2 ^ 64)) || (decide (-(2 ^ 64) < j) && decide (j < 2 ^ 64))
def cDiv (_ j : Int) : Bool := decide (0 < j) && decide (j < 1073741824)
def cMod (_ j : Int) : Bool := decide (0 < j)
def cPow (i j : Int) : Bool := decide (0 ≤ j) && decide (j ≤ 1000000) && decide (i.natAbs < 2 ^ 64)
def cShr (_ j : Int) : Bool := decide (0 ≤ j)
def addM (bx : Bool) (x y : M) (h : MH) : R M := match x, y with
  | .int i, .int j => .ok (.int (i + j)) h
  | .tup a, .tup b => if a.length + b.length ≤ LIM then .ok (.tup (a ++ b)) h else .bad
  | .int _, _ => .bad
  | .tup _, _ => .bad
  | x, y => match lstOf h x, lstOf h y with
    | some a, some b => if a.length + b.length ≤ LIM then mkL bx (a ++ b) h else .bad
    | _, _ => .bad
where lstOf (h : MH) : M → Option (List M)
  | .tmp xs => some xs
  | .loc n => match h[n]? with
    | some (.lst xs) => some xs
    | _ => none
  | _ => none
theorem lst_of {K : PySem.W.Frag} {φ : Ph} {H : Hp} {mh : MH} {m : M} {v : V} {xs : List M} (hr : HR K φ mh H) (h : Rep K φ H m v) (e : addM.lstOf mh m = some xs) : ∃ a vs, v = .ref a ∧ H a = some (.lst vs) ∧ Reps K φ H xs vs := by
  cases m with
  | tmp ys =>
    rw [Rep] at h
    obtain ⟨a, vs, rfl, q, n, r⟩ := h
    cases e
    exact ⟨a, vs, rfl, q, r⟩
  | loc n =>
    have e' : (match mh[n]? with
      | some (.lst xs) => some xs
      | _ => none) = some xs := e
    split at e'
    · rename_i ys he
      cases e'
      obtain ⟨a, vs, rfl, ha, q, r⟩ := h.lst hr he
      exact ⟨a, vs, rfl, q, r⟩
    · cases e'
  | _ => simp [addM.lstOf] at e
def rAddA (K : PySem.W.Frag) : R2 := fun x y H Q => rI0 (fun i j => .int (i + j)) x y H Q ∨ rCatA K x y H Q ∨ rCat x y H Q
theorem op_addA : OpR X (binaryOp .Add) (rAddA X.K) := op_add.or (op_catA.or op_cat)
theorem om_add {K : PySem.W.Frag} {bx : Bool} : OpM K (addM bx) (rAddA K) := by
  intro W φ mh ms σ H x y v u Q hr hs rx ry p
  unfold addM at p
  split at p
  · rename_i i j
    rw [Rep] at rx ry
    exact .inl ⟨i, j, rx, ry, p.here hr (by rw [Rep])⟩
  · rename_i a b
    split at p
    · rename_i hl
      have rx' := rx
      have ry' := ry
      rw [Rep] at rx ry
      obtain ⟨c, vs, rfl, q1, r1⟩ := rx
      obtain ⟨d, ws, rfl, q2, r2⟩ := ry
      have l1 := r1.length
      have l2 := r2.length
      refine .inr (.inl ⟨c, d, vs, ws, rfl, rfl, SqT.of q1, SqT.of q2, by rw [LIM_eq, ← l1, ← l2]; exact hl, fun e => ?_, fun _ e => ?_, fun _ _ b hb => ?_⟩)
      · subst e
        have : a = [] := List.length_eq_zero_iff.mp (by simpa using l1)
        subst this
        exact p.here hr ry'
      · subst e
        have : b = [] := List.length_eq_zero_iff.mp (by simpa using l2)
        subst this
        rw [List.append_nil] at p
        exact p.here hr rx'
      · exact new_tup hr (Reps.append r1 r2) hb p
    · exact p.elim
  · exact p.elim
  · exact p.elim
  · split at p
    · rename_i a b ha hb
      split at p
      · rename_i hl
        obtain ⟨c, vs, rfl, q1, r1⟩ := lst_of hr rx ha
        obtain ⟨d, ws, rfl, q2, r2⟩ := lst_of hr ry hb
        exact .inr (.inr ⟨c, d, vs, ws, rfl, rfl, q1, q2, by rw [LIM_eq, ← r1.length, ← r2.length]; exact hl, fun b hb => new_l hr (Reps.append r1 r2) hb p⟩)
      · exact p.elim
    · exact p.elim
variable {a b : Expr} {fa fb : ME}
theorem se_add (bx : Bool) (ha : SE X W a fa) (hb : SE X W b fb) : SE X W (.BinOp a .Add b pos) (mBin (addM bx) fa fb) := se_op op_addA om_add ha hb
def subM := int2 (fun i j => .int (i - j)) fun _ _ => true
theorem se_sub (ha : SE X W a fa) (hb : SE X W b fb) : SE X W (.BinOp a .Sub b pos) (mBin subM fa fb) := se_op op_sub (om_int0 fun _ _ _ _ => by rw [Rep]) ha hb
def fdivM := int2 (fun i j => .int (i / j)) cDiv
theorem se_fdiv (ha : SE X W a fa) (hb : SE X W b fb) : SE X W (.BinOp a .FloorDiv b pos) (mBin fdivM fa fb) :=
  se_op op_fdiv (om_int (fun _ _ _ _ => by rw [Rep]) fun i j h => by simp [cDiv] at h; exact h) ha hb
def modM := int2 (fun i j => .int (i % j)) cMod
theorem se_mod (ha : SE X W a fa) (hb : SE X W b fb) : SE X W (.BinOp a .Mod b pos) (mBin modM fa fb) :=
  se_op op_mod (om_int (fun _ _ _ _ => by rw [Rep]) fun i j h => by simpa [cMod] using h) ha hb
def powM := int2 (fun i j => .int (i ^ j.toNat)) cPow
theorem cPow_ok {i j : Int} (h : cPow i j = true) : CPow i j := by
  unfold cPow at h
  simp only [Bool.and_eq_true, decide_eq_true_eq] at h
  exact ⟨h.1.1, h.1.2, h.2⟩
theorem se_pow (ha : SE X W a fa) (hb : SE X W b fb) : SE X W (.BinOp a .Pow b pos) (mBin powM fa fb) := se_op op_pow (om_int (fun _ _ _ _ => by rw [Rep]) fun i j h => cPow_ok h) ha hb
def shlM := int2 (fun i j => .int (i * 2 ^ j.toNat)) cPow
theorem se_shl (ha : SE X W a fa) (hb : SE X W b fb) : SE X W (.BinOp a .LShift b pos) (mBin shlM fa fb) := se_op op_shl (om_int (fun _ _ _ _ => by rw [Rep]) fun i j h => cPow_ok h) ha hb
def shrM := int2 (fun i j => .int (i / 2 ^ j.toNat)) cShr
theorem se_shr (ha : SE X W a fa) (hb : SE X W b fb) : SE X W (.BinOp a .RShift b pos) (mBin shrM fa fb) :=
  se_op op_shr (om_int (fun _ _ _ _ => by rw [Rep]) fun i j h => by simpa [cShr] using h) ha hb
def bandM := int2 (fun i j => .int (Builtin.bitAnd i j)) fun _ _ => true
theorem se_band (ha : SE X W a fa) (hb : SE X W b fb) : SE X W (.BinOp a .BitAnd b pos) (mBin bandM fa fb) := se_op op_and (om_int0 fun _ _ _ _ => by rw [Rep]) ha hb
def borM := int2 (fun i j => .int (Builtin.bitOr i j)) fun _ _ => true
theorem se_bor (ha : SE X W a fa) (hb : SE X W b fb) : SE X W (.BinOp a .BitOr b pos) (mBin borM fa fb) := se_op op_or (om_int0 fun _ _ _ _ => by rw [Rep]) ha hb
def bxorM := int2 (fun i j => .int (Builtin.bitXor i j)) fun _ _ => true
theorem se_bxor (ha : SE X W a fa) (hb : SE X W b fb) : SE X W (.BinOp a .BitXor b pos) (mBin bxorM fa fb) := se_op op_xor (om_int0 fun _ _ _ _ => by rw [Rep]) ha hb
/-- products: ints, a list or a tuple times an int -/
def mulM (bx : Bool) (x y : M) (h : MH) : R M := match x, y with
  | .int i, .int j => if cMul i j = true then .ok (.int (i * j)) h else .bad
  | .int _, _ => .bad
  | .tup xs, .int k => if 2 ≤ k ∧ k ≤ 1000 ∧ xs ≠ [] ∧ xs.length ≤ 1000 then .ok (.tup (List.replicate k.toNat xs).flatten) h else .bad
  | x, .int k => match addM.lstOf h x with
    | some xs => if -(2 ^ 63) ≤ k ∧ k < 2 ^ 63 ∧ xs.length * k.toNat ≤ LIM then mkL bx (List.replicate k.toNat xs).flatten h else .bad
    | none => .bad
  | _, _ => .bad
def rMulA (K : PySem.W.Frag) : R2 := fun x y H Q => rI CMul (fun i j => .int (i * j)) x y H Q ∨ rRepT K x y H Q ∨ rRep x y H Q
theorem op_mulA : OpR X (binaryOp .Mult) (rMulA X.K) := op_mul.or (op_repT.or op_rep)
theorem cMul_ok {i j : Int} (h : cMul i j = true) : CMul i j := by
  unfold cMul at h
  simp only [Bool.or_eq_true, Bool.and_eq_true, decide_eq_true_eq] at h
  exact h
theorem om_mul {K : PySem.W.Frag} {bx : Bool} : OpM K (mulM bx) (rMulA K) := by
  intro W φ mh ms σ H x y v u Q hr hs rx ry p
  unfold mulM at p
  split at p
  · rename_i i j
    split at p
    · rename_i c
      rw [Rep] at rx ry
      exact .inl ⟨i, j, rx, ry, cMul_ok c, p.here hr (by rw [Rep])⟩
    · exact p.elim
  · exact p.elim
  · rename_i xs k
    split at p
    · rename_i c
      simp only [Rep] at rx ry
      obtain ⟨a, vs, rfl, q, r⟩ := rx
      refine .inr (.inl ⟨a, k, vs, rfl, ry, SqT.of q, fun e => c.2.2.1 ?_, c.1, c.2.1, by rw [← r.length]; exact c.2.2.2, fun b hb => new_tup hr (Reps.flatten_rep r _) hb p⟩)
      subst e
      exact List.length_eq_zero_iff.mp (by simpa using r.length)
    · exact p.elim
  · split at p
    · rename_i xs hx
      split at p
      · rename_i c
        rw [Rep] at ry
        obtain ⟨a, vs, rfl, q, r⟩ := lst_of hr rx hx
        exact .inr (.inr ⟨a, _, vs, rfl, ry, q, c.1, c.2.1, by rw [LIM_eq, ← r.length]; exact c.2.2, fun b hb => new_l hr (Reps.flatten_rep r _) hb p⟩)
      · exact p.elim
    · exact p.elim
  · exact p.elim
theorem se_mul (bx : Bool) (ha : SE X W a fa) (hb : SE X W b fb) : SE X W (.BinOp a .Mult b pos) (mBin (mulM bx) fa fb) := se_op op_mulA om_mul ha hb
def negM (x : M) (h : MH) : R M := match x with
  | .int i => .ok (.int (-i)) h
  | _ => .bad
def mUn (g : M → MH → R M) (fa : ME) : ME := fun ms mh => (fa ms mh).bind fun x h1 => g x h1
theorem se_neg (ha : SE X W a fa) : SE X W (.UnaryOp .USub a pos) (mUn negM fa) := by
  refine (pe_un un_neg ha).imp fun σ H Q h => ?_
  refine (rdR.bind (rel2 := Rep X.K) (k := fun ms x h1 => negM x h1) h).mono fun v H1 q => ?_
  obtain ⟨φ, φ1, ms, m, h1, hr, hs, rl, e, p⟩ := q
  cases m with
  | int i => rw [Rep] at rl; exact ⟨i, rl, p.here hr (by rw [Rep])⟩
  | _ => exact p.elim

/-! ### comparisons -/
def ltM := int2 (fun i j => .bl (decide (i < j))) fun _ _ => true
def leM := int2 (fun i j => .bl (decide (i ≤ j))) fun _ _ => true
def gtM := int2 (fun i j => .bl (decide (j < i))) fun _ _ => true
def geM := int2 (fun i j => .bl (decide (j ≤ i))) fun _ _ => true
theorem om_lt {K} : OpM K ltM (rI0 fun i j => .bl (decide (i < j))) := om_int0 fun _ _ _ _ => by rw [Rep]
theorem om_le {K} : OpM K leM (rI0 fun i j => .bl (decide (i ≤ j))) := om_int0 fun _ _ _ _ => by rw [Rep]
theorem om_gt {K} : OpM K gtM (rI0 fun i j => .bl (decide (j < i))) := om_int0 fun _ _ _ _ => by rw [Rep]
theorem om_ge {K} : OpM K geM (rI0 fun i j => .bl (decide (j ≤ i))) := om_int0 fun _ _ _ _ => by rw [Rep]
theorem om_is {K : PySem.W.Frag} : OpM K (isM false) (rIsC false) := by
  intro W φ mh ms σ H x y v u Q hr hs rx ry p
  unfold isM at p
  split at p
  · rw [Rep] at ry
    refine ⟨.inl ry, p.here hr ?_⟩
    subst ry
    rw [Rep]
    cases x <;> rw [Rep] at rx <;> first | (subst rx; simp) | (obtain ⟨_, _, rfl, _⟩ := rx; simp) | (obtain ⟨_, rfl, _⟩ := rx; simp)
  · rename_i b
    rw [Rep] at ry
    refine ⟨.inr ⟨b, ry⟩, p.here hr ?_⟩
    subst ry
    rw [Rep]
    cases x <;> rw [Rep] at rx <;> first | (subst rx; simp [Bool.beq_eq_decide_eq]) | (obtain ⟨_, _, rfl, _⟩ := rx; simp) | (obtain ⟨_, rfl, _⟩ := rx; simp)
  · exact p.elim
end
end Tb

set_option Elab.async false
set_option linter.all false
set_option maxRecDepth 100000
namespace Tb
open PySem PySem.Spec PyProof.Rows L2

/-! ### tests and, or, not, if .. else -/
def tNot' (t : MT) : MT := fun ms mh => (t ms mh).bind fun b h => .ok (!b) h
def tAnd' (t u : MT) : MT := fun ms mh => (t ms mh).bind fun b h => if b = true then u ms h else .ok false h
def tOr' (t u : MT) : MT := fun ms mh => (t ms mh).bind fun b h => if b = true then .ok true h else u ms h
def mIf (t : MT) (f g : ME) : ME := fun ms mh => (t ms mh).bind fun b h => if b = true then f ms h else g ms h
abbrev SW (X : Cx) (W : WM) (e : Expr) (f : MT) : Prop := PW X e (rdT X.K W f)
section
variable {X : Cx} {W : WM} {pos p : Pos} {a b c : Expr} {rest : List Expr} {t u : MT} {f g : ME}
theorem st_not (h : ST X W a t) : ST X W (.UnaryOp .Not a pos) (tNot' t) := by
  refine (pt_not h).imp fun σ H Q h => ?_
  refine (rdR.bind (rel2 := relB) (k := fun ms b h => .ok (!b) h) h).mono fun v H1 q => ?_
  obtain ⟨φ, φ1, ms, m, h1, hr, hs, rl, e, p⟩ := q
  obtain rfl : m = v := rl
  exact p.here hr rfl
theorem sw_and1 (h : ST X W a t) : SW X W (.BoolOp .And [a] pos) t := pw_and1 h
theorem sw_or1 (h : ST X W a t) : SW X W (.BoolOp .Or [a] pos) t := pw_or1 h
theorem sw_and (ha : ST X W a t) (hb : SW X W (.BoolOp .And (b :: rest) pos) u) : SW X W (.BoolOp .And (a :: b :: rest) pos) (tAnd' t u) := by
  refine (pw_and ha hb).imp fun σ H Q h => ?_
  refine (rdR.bind (rel2 := relB) (k := fun ms b h => if b = true then u ms h else .ok false h) h).mono fun v H1 q => ?_
  obtain ⟨φ, φ1, ms, m, h1, hr, hs, rl, e, p⟩ := q
  obtain rfl : m = v := rl
  cases m with
  | true => rw [if_pos rfl]; exact ⟨φ1, ms, h1, hr, hs, p⟩
  | false => rw [if_neg Bool.false_ne_true]; exact p.here hr rfl
theorem sw_or (ha : ST X W a t) (hb : SW X W (.BoolOp .Or (b :: rest) pos) u) : SW X W (.BoolOp .Or (a :: b :: rest) pos) (tOr' t u) := by
  refine (pw_or ha hb).imp fun σ H Q h => ?_
  refine (rdR.bind (rel2 := relB) (k := fun ms b h => if b = true then .ok true h else u ms h) h).mono fun v H1 q => ?_
  obtain ⟨φ, φ1, ms, m, h1, hr, hs, rl, e, p⟩ := q
  obtain rfl : m = v := rl
  cases m with
  | true => rw [if_pos rfl]; exact p.here hr rfl
  | false => rw [if_neg Bool.false_ne_true]; exact ⟨φ1, ms, h1, hr, hs, p⟩
theorem st_sw (h : SW X W a t) : ST X W a t := h.pt
theorem se_if (hc : ST X W c t) (ha : SE X W a f) (hb : SE X W b g) : SE X W (.IfExp c a b pos) (mIf t f g) := by
  refine (pe_ifExp hc ha hb).imp fun σ H Q h => ?_
  refine (rdR.bind (rel2 := relB) (k := fun ms b h => if b = true then f ms h else g ms h) h).mono fun v H1 q => ?_
  obtain ⟨φ, φ1, ms, m, h1, hr, hs, rl, e, p⟩ := q
  obtain rfl : m = v := rl
  cases m with
  | true => rw [if_pos rfl]; exact ⟨φ1, ms, h1, hr, hs, p⟩
  | false => rw [if_neg Bool.false_ne_true]; exact ⟨φ1, ms, h1, hr, hs, p⟩
/-- .. as values: all but the last are bools -/
def vAnd (f g : ME) : ME := fun ms mh => (f ms mh).bind fun m h => match m with
  | .bl true => g ms h
  | .bl false => .ok (.bl false) h
  | _ => .bad
def vOr (f g : ME) : ME := fun ms mh => (f ms mh).bind fun m h => match m with
  | .bl true => .ok (.bl true) h
  | .bl false => g ms h
  | _ => .bad
def vNot (f : ME) : ME := fun ms mh => (f ms mh).bind fun m h => match m with
  | .bl b => .ok (.bl (!b)) h
  | _ => .bad
theorem se_one {op} (h : SE X W a f) : SE X W (.BoolOp op [a] pos) f := pe_one h
theorem se_and (ha : SE X W a f) (hb : SE X W (.BoolOp .And (b :: rest) pos) g) : SE X W (.BoolOp .And (a :: b :: rest) pos) (vAnd f g) := by
  refine (pe_and ha hb).imp fun σ H Q h => ?_
  refine (rdR.bind (rel2 := Rep X.K) (k := fun ms m h => match m with
    | .bl true => g ms h
    | .bl false => .ok (.bl false) h
    | _ => .bad) h).mono fun v H1 q => ?_
  obtain ⟨φ, φ1, ms, m, h1, hr, hs, rl, e, p⟩ := q
  cases m with
  | bl b =>
    rw [Rep] at rl
    refine ⟨b, rl, ?_⟩
    cases b with
    | true => rw [if_pos rfl]; exact ⟨φ1, ms, h1, hr, hs, p⟩
    | false => rw [if_neg Bool.false_ne_true]; exact p.here hr (by rw [Rep])
  | _ => exact p.elim
theorem se_or (ha : SE X W a f) (hb : SE X W (.BoolOp .Or (b :: rest) pos) g) : SE X W (.BoolOp .Or (a :: b :: rest) pos) (vOr f g) := by
  refine (pe_or ha hb).imp fun σ H Q h => ?_
  refine (rdR.bind (rel2 := Rep X.K) (k := fun ms m h => match m with
    | .bl true => .ok (.bl true) h
    | .bl false => g ms h
    | _ => .bad) h).mono fun v H1 q => ?_
  obtain ⟨φ, φ1, ms, m, h1, hr, hs, rl, e, p⟩ := q
  cases m with
  | bl b =>
    rw [Rep] at rl
    refine ⟨b, rl, ?_⟩
    cases b with
    | true => rw [if_pos rfl]; exact p.here hr (by rw [Rep])
    | false => rw [if_neg Bool.false_ne_true]; exact ⟨φ1, ms, h1, hr, hs, p⟩
  | _ => exact p.elim
theorem se_not (ha : SE X W a f) : SE X W (.UnaryOp .Not a pos) (vNot f) := by
  refine (pe_not ha).imp fun σ H Q h => ?_
  refine (rdR.bind (rel2 := Rep X.K) (k := fun ms m h => match m with
    | .bl b => R.ok (M.bl (!b)) h
    | _ => .bad) h).mono fun v H1 q => ?_
  obtain ⟨φ, φ1, ms, m, h1, hr, hs, rl, e, p⟩ := q
  cases m with
  | bl b =>
    rw [Rep] at rl
    exact ⟨b, rl, p.here hr (by rw [Rep])⟩
  | _ => exact p.elim
end

/-! ### subscripts -/
def ixM (x y : M) (h : MH) : R M := match y with
  | .int i => match seqOf h x with
    | some xs => match atI xs i with
      | some m => .ok m h
      | none => .bad
    | none => match dgetM h x y with
      | some (some m) => .ok m h
      | _ => .bad
  | _ => match dgetM h x y with
    | some (some m) => .ok m h
    | _ => .bad
def rIxD : R2 := fun x y H Q => ∃ a v, x = .ref a ∧ DGet H a y (some v) ∧ Q v H
theorem ix_dct {X : Cx} (hu : X.A.units + 1 < cLine) : IxR X rIxD := by
  intro value slice pins s σ H x y v u Q I rx ry h hs
  obtain ⟨a, z, rfl, g, q⟩ := h
  obtain rfl : v = Value.ref a := rx
  exact tail_any (dict_typeIs I g) PySem.F.slot_dict_getitem.lookup (d_getItem hu I g ry fun w' s3 I3 rw' => ⟨z, H, I3, rw', q⟩) hs
def rIxA (K : PySem.W.Frag) : R2 := fun x y H Q => rIxL K x y H Q ∨ rIxT K x y H Q ∨ rIxD x y H Q
theorem ix_all {X : Cx} (hu : X.A.units + 1 < cLine) : IxR X (rIxA X.K) := ix_list.or (ix_tup.or (ix_dct hu))
section
variable {K : PySem.W.Frag} {W : WM} {φ : Ph} {H : Hp} {mh : MH} {ms : MS} {σ : L2.St}
theorem Reps.atI {xs : List M} {vs : List V} {i : Int} {m : M} (r : Reps K φ H xs vs) (e : atI xs i = some m) : ∃ v, L2.atI vs i = some v ∧ Rep K φ H m v := by
  unfold L2.atI at e ⊢
  rw [r.length] at e
  cases h : ixN vs.length i with
  | none => rw [h] at e; cases e
  | some j =>
    rw [h] at e
    exact Reps.get r e
theorem ix_dcase {x y : M} {v u : V} {Q : VK} (hr : HR K φ mh H) (rx : Rep K φ H x v) (ry : Rep K φ H y u) (p : PostR K W (Rep K) φ H ms σ (match dgetM mh x y with
    | some (some m) => R.ok m mh
    | _ => .bad) Q) : rIxD v u H Q := by
  split at p
  · rename_i m hm
    obtain ⟨a, o', rfl, g, ro⟩ := dget_of hr rx ry hm
    cases o' with
    | none => exact ro.elim
    | some z => exact ⟨a, z, rfl, g, p.here hr ro⟩
  · exact p.elim
theorem om_ix : OpM K ixM (rIxA K) := by
  intro W φ mh ms σ H x y v u Q hr hs rx ry p
  unfold ixM at p
  split at p
  · rename_i i
    split at p
    · rename_i xs hx
      split at p
      · rename_i m hm
        obtain ⟨a, vs, rfl, q, r⟩ := seq_of hr rx hx
        rw [Rep] at ry
        obtain ⟨z, hz, rz⟩ := Reps.atI r hm
        rcases q with q | q
        · exact .inl ⟨a, vs, i, z, rfl, ry, q, hz, p.here hr rz⟩
        · exact .inr (.inl ⟨a, vs, i, z, rfl, ry, q, hz, p.here hr rz⟩)
      · exact p.elim
    · exact .inr (.inr (ix_dcase hr rx ry p))
  · exact .inr (.inr (ix_dcase hr rx ry p))
end
section
variable {X : Cx} {W : WM} {pos p p2 : Pos} {a b c e : Expr} {es : List Expr} {t u : MT} {f g fa fb : ME}
theorem se_ix (hu : X.A.units + 1 < cLine) (ha : SE X W a fa) (hb : SE X W b fb) (hs : PlainIx b) : SE X W (.Subscript a b pos) (mBin ixM fa fb) :=
  (pe_ix (ix_all hu) ha hb hs).imp fun _ _ _ h => bin_rd om_ix h
/-! ### slices -/
abbrev MO := MS → MH → R (Option Int)
def relO : Ph → Hp → Option Int → Option Int → Prop := fun _ _ a b => a = b
abbrev SO (X : Cx) (W : WM) (e : Option Expr) (f : MO) : Prop := PO X e (rdR X.K W relO f)
def oNone : MO := fun _ mh => .ok none mh
def oSome (f : ME) : MO := fun ms mh => (f ms mh).bind fun m h => match m with
  | .int i => .ok (some i) h
  | _ => .bad
theorem PO.imp {e : Option Expr} {t t' : TO} (h : PO X e t) (i : ∀ σ H Q, t' σ H Q → t σ H Q) : PO X e t' := ⟨fun pins s σ H Q I q => h.run pins s σ H Q I (i σ H Q q)⟩
theorem so_none : SO X W none oNone := PO.imp po_none fun σ H Q h => by
  obtain ⟨φ, ms, mh, hr, hs, p⟩ := h
  exact p.here hr rfl
theorem so_some (h : SE X W e f) : SO X W (some e) (oSome f) := PO.imp (po_some h) fun σ H Q h => by
  refine (rdR.bind (rel2 := Rep X.K) (k := fun ms m h => match m with
    | .int i => R.ok (some i) h
    | _ => .bad) h).mono fun v H1 q => ?_
  obtain ⟨φ, φ1, ms, m, h1, hr, hs, rl, e, p⟩ := q
  cases m with
  | int i =>
    rw [Rep] at rl
    exact ⟨i, rl, p.here hr rfl⟩
  | _ => exact p.elim
def cutM (xs : List M) (lo hi : Option Int) : List M := (xs.drop (HT.sIx xs.length 0 lo)).take (HT.sIx xs.length xs.length hi - HT.sIx xs.length 0 lo)
theorem Reps.cut {K : PySem.W.Frag} {φ : Ph} {H : Hp} {xs : List M} {vs : List V} {lo hi : Option Int} (r : Reps K φ H xs vs) : Reps K φ H (cutM xs lo hi) (cutV vs lo hi) := by
  unfold cutM cutV
  rw [r.length]
  exact Reps.take _ (Reps.drop _ r)
def sliceM (bx : Bool) (x : M) (lo hi : Option Int) (h : MH) : R M := match x with
  | .tup xs => .ok (.tup (cutM xs lo hi)) h
  | x => match lsq h x with
    | some xs => mkL bx (cutM xs lo hi) h
    | none => .bad
def rSlB (K : PySem.W.Frag) : V → Option Int → Option Int → Hp → VK → Prop := fun x lo hi H Q => rSlL K x lo hi H Q ∨ rSlA K x lo hi H Q
theorem sl_all : SlR X (rSlB X.K) := sl_list.or sl_tupA
def mSlice (bx : Bool) (f : ME) (lo hi : MO) : ME := fun ms mh => (f ms mh).bind fun x h1 => (lo ms h1).bind fun l h2 => (hi ms h2).bind fun u h3 => sliceM bx x l u h3
theorem om_slice {K : PySem.W.Frag} {W : WM} {φ : Ph} {H : Hp} {mh : MH} {ms : MS} {σ : L2.St} {bx : Bool} {x : M} {v : V} {lo hi : Option Int} {Q : VK} (hr : HR K φ mh H) (rx : Rep K φ H x v)
    (p : PostR K W (Rep K) φ H ms σ (sliceM bx x lo hi mh) Q) : rSlB K v lo hi H Q := by
  unfold sliceM at p
  split at p
  · rename_i xs
    have rx' := rx
    rw [Rep] at rx
    obtain ⟨a, vs, rfl, q, r⟩ := rx
    refine .inr ⟨a, vs, rfl, SqT.of q, fun hw => ?_, fun hw b hb => new_tup hr (Reps.cut r) hb p⟩
    have e : cutM xs lo hi = xs := by
      unfold cutM
      rw [r.length, hw.1, hw.2, List.drop_zero, Nat.sub_zero, ← r.length, List.take_length]
    rw [e] at p
    exact p.here hr rx'
  · split at p
    · rename_i xs hx
      obtain ⟨a, vs, rfl, q, r⟩ := lsq_of hr rx hx
      exact .inl ⟨a, vs, rfl, q, fun b hb => new_l hr (Reps.cut r) hb p⟩
    · exact p.elim
theorem se_slice (bx : Bool) {lo hi : Option Expr} {fl fh : MO} (hf : SE X W e f) (hl : SO X W lo fl) (hh : SO X W hi fh) : SE X W (.Subscript e (.Slice lo hi none p2) pos) (mSlice bx f fl fh) := by
  refine (pe_slice sl_all hf hl hh).imp fun σ H Q h => ?_
  refine (rdR.bind (rel2 := Rep X.K) (k := fun ms x h1 => (fl ms h1).bind fun l h2 => (fh ms h2).bind fun u h3 => sliceM bx x l u h3) h).mono fun v H1 q => ?_
  obtain ⟨φ, φ1, ms, m, h1, hr, hs, rl, e, p⟩ := q
  refine ⟨φ1, ms, h1, hr, hs, (PostR.bind (rel2 := relO) hs p).mono fun l H2 q => ?_⟩
  obtain ⟨φ2, l', h2, hr2, hs2, rl2, e2, p2⟩ := q
  obtain rfl : l' = l := rl2
  refine ⟨φ2, ms, h2, hr2, hs2, (PostR.bind (rel2 := relO) hs2 p2).mono fun u H3 q => ?_⟩
  obtain ⟨φ3, u', h3, hr3, hs3, rl3, e3, p3⟩ := q
  obtain rfl : u' = u := rl3
  exact om_slice hr3 (Rep.ext e3 (Rep.ext e2 rl)) p3
/-- xs[::-1] -/
def revM (bx : Bool) (x : M) (h : MH) : R M := match lsq h x with
  | some xs => mkL bx xs.reverse h
  | none => .bad
theorem se_rev (bx : Bool) {k : Nat} {p1 q2 q3 : Pos} (hf : SE X W e f) : SE X W (.Subscript e (.Slice none none (some (.UnaryOp .USub (.Constant (.int 1) k p1) q2)) q3) pos) (mUn (revM bx) f) := by
  refine (pe_revL hf).imp fun σ H Q h => ?_
  refine (rdR.bind (rel2 := Rep X.K) (k := fun ms x h1 => revM bx x h1) h).mono fun v H1 q => ?_
  obtain ⟨φ, φ1, ms, m, h1, hr, hs, rl, e, p⟩ := q
  unfold revM at p
  split at p
  · rename_i xs hx
    obtain ⟨a, vs, rfl, q, r⟩ := lsq_of hr rl hx
    exact ⟨a, vs, rfl, q, fun b hb => new_l hr (Reps.reverse r) hb p⟩
  · exact p.elim

/-! ### argument lists, displays -/
def aNil : MA := fun _ mh => .ok [] mh
def aCons (f : ME) (r : MA) : MA := fun ms mh => (f ms mh).bind fun x h1 => (r ms h1).bind fun xs h2 => .ok (x :: xs) h2
theorem sa_nil : SA X W [] aNil := pa_nil.imp fun σ H Q h => by
  obtain ⟨φ, ms, mh, hr, hs, p⟩ := h
  exact p.here hr Reps.nil
theorem sa_rd {K : PySem.W.Frag} {r : MA} {σ : L2.St} {H : Hp} {Q : List V → Hp → Prop} (h : rdA K W (aCons f r) σ H Q) : tCons (rdE K W f) (rdA K W r) σ H Q := by
  refine (rdR.bind (rel2 := Rep K) (k := fun ms x h1 => (r ms h1).bind fun xs h2 => .ok (x :: xs) h2) h).mono fun v H1 q => ?_
  obtain ⟨φ, φ1, ms, m, h1, hr, hs, rl, e, p⟩ := q
  refine ⟨φ1, ms, h1, hr, hs, (PostR.bind (rel2 := Reps K) hs p).mono fun l H2 q => ?_⟩
  obtain ⟨φ2, l', h2, hr2, hs2, rl2, e2, p2⟩ := q
  exact p2.here hr2 (Reps.cons (Rep.ext e2 rl) rl2)
theorem sa_cons {r : MA} (ha : SE X W e f) (hr : SA X W es r) (hs : starEach (e :: es) X.env = (false, eval e X.env) :: starEach es X.env := by rfl) : SA X W (e :: es) (aCons f r) := (pa_cons ha hr hs).imp fun _ _ _ h => sa_rd h
def mTup (r : MA) : ME := fun ms mh => (r ms mh).bind fun xs h => if xs.length ≤ LIM then .ok (.tup xs) h else .bad
def mLst (bx : Bool) (r : MA) : ME := fun ms mh => (r ms mh).bind fun xs h => if xs.length ≤ LIM then mkL bx xs h else .bad
theorem se_tup {r : MA} {x1 : Nat} (h : SA X W es r) : SE X W (.Tuple es x1 pos) (mTup r) := by
  refine (pe_tup h).imp fun σ H Q h => ?_
  refine (rdR.bind (rel2 := Reps X.K) (k := fun ms xs h => if xs.length ≤ LIM then R.ok (M.tup xs) h else .bad) h).mono fun v H1 q => ?_
  obtain ⟨φ, φ1, ms, m, h1, hr, hs, rl, e, p⟩ := q
  split at p
  · rename_i hl
    exact ⟨by rw [LIM_eq, ← rl.length]; exact hl, fun b hb => new_tup hr rl hb p⟩
  · exact p.elim
theorem se_lst (bx : Bool) {r : MA} (h : SA X W es r) : SE X W (.List es pos) (mLst bx r) := by
  refine (pe_lst h).imp fun σ H Q h => ?_
  refine (rdR.bind (rel2 := Reps X.K) (k := fun ms xs h => if xs.length ≤ LIM then mkL bx xs h else .bad) h).mono fun v H1 q => ?_
  obtain ⟨φ, φ1, ms, m, h1, hr, hs, rl, e, p⟩ := q
  split at p
  · rename_i hl
    exact ⟨by rw [LIM_eq, ← rl.length]; exact hl, fun b hb => new_l hr rl hb p⟩
  · exact p.elim
/-- {}: its keys ints and texts; tuples of these -/
def mDk : ME := fun _ mh => .ok (.loc mh.length) (mh ++ [.dk []])
def mDt : ME := fun _ mh => .ok (.loc mh.length) (mh ++ [.dt []])
theorem se_dk : SE X W (.Dict [] [] pos) mDk := pe_dnewK.imp fun σ H Q h => by
  obtain ⟨φ, ms, mh, hr, hs, p⟩ := h
  intro b hb
  exact p (φ.add b) _ _ (Ext.alloc hb) (hr.alloc hb ⟨[], upd_same, .nil⟩) (by rw [Rep]; exact ⟨b, rfl, by rw [← hr.len]; simp [Ph.add]⟩)
theorem se_dt : SE X W (.Dict [] [] pos) mDt := pe_dnewT.imp fun σ H Q h => by
  obtain ⟨φ, ms, mh, hr, hs, p⟩ := h
  intro b hb
  exact p (φ.add b) _ _ (Ext.alloc hb) (hr.alloc hb ⟨[], upd_same, .nil⟩) (by rw [Rep]; exact ⟨b, rfl, by rw [← hr.len]; simp [Ph.add]⟩)

/-! ### calls of built-ins -/
def CallM (K : PySem.W.Frag) (g : List M → MH → R M) (r : List V → Hp → VK → Prop) : Prop :=
  ∀ (W : WM) (φ : Ph) (mh : MH) (ms : MS) (σ : L2.St) (H : Hp) (xs : List M) (vs : List V) (Q : VK), HR K φ mh H → SR K φ H ms σ → Reps K φ H xs vs → PostR K W (Rep K) φ H ms σ (g xs mh) Q → r vs H Q
def mCall (g : List M → MH → R M) (fa : MA) : ME := fun ms mh => (fa ms mh).bind fun xs h => g xs h
theorem call_rd {K : PySem.W.Frag} {g : List M → MH → R M} {r : List V → Hp → VK → Prop} {fa : MA} {σ : L2.St} {H : Hp} {Q : VK} (hg : CallM K g r) (h : rdE K W (mCall g fa) σ H Q) : tCB r (rdA K W fa) σ H Q := by
  refine (rdR.bind (rel2 := Reps K) (k := fun ms xs h => g xs h) h).mono fun v H1 q => ?_
  obtain ⟨φ, φ1, ms, m, h1, hr, hs, rl, e, p⟩ := q
  exact hg W φ1 h1 ms σ H1 m v Q hr hs rl p
theorem se_callB {x : Str} {id : String} {g : List M → MH → R M} {r : List V → Hp → VK → Prop} {fa : MA} (hc : CallR X (.builtin id) r) (hg : CallM X.K g r) (hgl : Gl X x) (hm : X.mg x = none) (hv : bootBuiltins x = some (.builtin id)) (ha : SA X W (e :: es) fa)
    (hn : x ≠ "__name__" := by decide) (hdb : (x == ("__debug__" : Str)) = false := by decide)
    (he : starEach (e :: es) X.env = (false, eval e X.env) :: starEach es X.env := by rfl) (hpl : (backTo pos (starEach es X.env)).any (·.1) = false := by rfl) : SE X W (.Call (.Name x p) (e :: es) [] pos) (mCall g fa) :=
  (pe_callB hc hgl hm hv ha hn hdb he hpl).imp fun _ _ _ h => call_rd hg h
theorem se_callTy {x : Str} {T : String} {g : List M → MH → R M} {r : List V → Hp → VK → Prop} {fa : MA} (hc : CallR X (.type T) r) (hg : CallM X.K g r) (hgl : Gl X x) (hm : X.mg x = none) (hv : bootBuiltins x = some (.type T)) (ha : SA X W (e :: es) fa)
    (hn : x ≠ "__name__" := by decide) (hdb : (x == ("__debug__" : Str)) = false := by decide)
    (he : starEach (e :: es) X.env = (false, eval e X.env) :: starEach es X.env := by rfl) (hpl : (backTo pos (starEach es X.env)).any (·.1) = false := by rfl) : SE X W (.Call (.Name x p) (e :: es) [] pos) (mCall g fa) :=
  (pe_callTy hc hgl hm hv ha hn hdb he hpl).imp fun _ _ _ h => call_rd hg h
end
end Tb

set_option Elab.async false
set_option linter.all false
set_option maxRecDepth 100000
namespace Tb
open PySem PySem.Spec PyProof.Rows L2

/-! ### exceptions -/
def ErRep (K : PySem.W.Frag) (mg : Str → Option Value) (e : Er) (φ : Ph) (H : Hp) (cls : Value) (d : Option Addr) : Prop :=
  mg e.cls = some cls ∧ match e.fld with
    | none => d = none
    | some (f, m) => ∃ a v, d = some a ∧ H a = some (.xd [(f, v)]) ∧ Rep K φ H m v
/-- the layer's wish, from the mirror's -/
def wx (K : PySem.W.Frag) (mg : Str → Option Value) (W : WM) : WX := fun cls d σ H => ∃ e φ ms mh, ErRep K mg e φ H cls d ∧ HR K φ mh H ∧ SR K φ H ms σ ∧ W e φ ms mh σ H
structure Gd (X : Cx) (W : WM) : Prop where
  tk : Takes X (wx X.K X.mg W)
  calm : X.calm = true
  nd : X.N.Nodup
  po : PassesOwn (model X.prog X.w) X.A X.env X.xe
  gs : X.A.guards = some []
/-- within a comprehension nothing may be let out -/
def WF : WM := fun _ _ _ _ _ _ => False
theorem takesF {X : Cx} {K mg} : Takes X (wx K mg WF) := Takes.imp takes0 fun _ _ _ _ ⟨_, _, _, _, _, _, _, z⟩ => z

/-! ### calls of the program's own -/
def PostF (K : PySem.W.Frag) (mg : Str → Option Value) (φ : Ph) (H : Hp) (r : R M) (Q : VK) (E : XK) : Prop :=
  match r with
  | .ok m h => ∀ φ' v H', Ext φ H φ' H' → HR K φ' h H' → Rep K φ' H' m v → Q v H'
  | .err e h => ∀ φ' H' cls d, Ext φ H φ' H' → HR K φ' h H' → ErRep K mg e φ' H' cls d → E cls d H'
  | .bad => False
def spF (K : PySem.W.Frag) (mg : Str → Option Value) (n : Nat) (F : MF) : Sp := fun vs H Q E => vs.length = n ∧ ∃ φ mh args, HR K φ mh H ∧ Reps K φ H args vs ∧ PostF K mg φ H (F args mh) Q E
/-- a def keeps its promise wherever no repr is under way -/
structure FnG (P : Program) (w : World) (K : PySem.W.Frag) (mg : Str → Option Value) (base : Heap) (k : Nat) (f : Addr) (fd : FuncData) (ps : List Str) (sp : Sp) : Prop where
  len : ∀ vs H Q E, sp vs H Q E → vs.length = ps.length
  run : ∀ (A : Around) (outer : List Env) (s : Shared) (H : Hp) (args : Args) (us : List Value) (vs : List V) (Q : VK) (E : XK), Room k A → A.guards = some [] → Env0 P w K mg base A outer s H → BindsTo s fd args (ps.zip us) → Vals vs us →
    sp vs H Q E → codeAny (model P w) A (.call (.ref f) args) (CR (L2.CX P w) outer P w H s Q E) s
theorem FnG.mono {P : Program} {w : World} {K : PySem.W.Frag} {mg : Str → Option Value} {base : Heap} {j k : Nat} {f : Addr} {fd : FuncData} {ps : List Str} {sp : Sp} (F : FnG P w K mg base j f fd ps sp) (h : j ≤ k) : FnG P w K mg base k f fd ps sp :=
  ⟨F.len, fun A o s H a us vs Q E hr => F.run A o s H a us vs Q E (hr.mono h)⟩
theorem FnG.imp {P : Program} {w : World} {K : PySem.W.Frag} {mg : Str → Option Value} {base : Heap} {k : Nat} {f : Addr} {fd : FuncData} {ps : List Str} {sp sp' : Sp} (F : FnG P w K mg base k f fd ps sp) (h : ∀ vs H Q E, sp' vs H Q E → sp vs H Q E) : FnG P w K mg base k f fd ps sp' :=
  ⟨fun vs H Q E q => F.len vs H Q E (h _ _ _ _ q), fun A o s H a us vs Q E hr hg he hb hv hs => F.run A o s H a us vs Q E hr hg he hb hv (h _ _ _ _ hs)⟩
section
variable {X : Cx} {W : WM} {pos p p2 : Pos} {a b c e : Expr} {es : List Expr} {t u : MT} {f g fa fb : ME} {k : Nat} {fn : Addr} {fd : FuncData} {ps : List Str} {F : MF} {x : Str} {fas : MA}
theorem call_post {φ : Ph} {H : Hp} {ms : MS} {σ : L2.St} {r : R M} {Q : VK} (hs : SR X.K φ H ms σ) (h : PostR X.K W (Rep X.K) φ H ms σ r Q) : PostF X.K X.mg φ H r Q (WE (wx X.K X.mg W) σ) := by
  cases r with
  | ok m h1 => exact h
  | err e h1 => exact fun φ' H' cls d ex hr er => ⟨e, φ', ms, h1, er, hr, hs.ext ex, h φ' H' ex hr (hs.ext ex)⟩
  | bad => exact h
theorem se_call (Fk : FnG X.prog X.w X.K X.mg X.base k fn fd ps (spF X.K X.mg ps.length F)) (gd : Gd X W) (hr : Room k X.A) (hg : Gl X x) (hm : X.mg x = some (.ref fn)) (hk : PySem.W.keepIn X.K (.ref fn) = true) (hb : Binds X.K fd ps [])
    (ha : SA X W (e :: es) fas) (hlen : (e :: es).length = ps.length) (hdb : (x == ("__debug__" : Str)) = false := by decide) (he : starEach (e :: es) X.env = (false, eval e X.env) :: starEach es X.env := by rfl) (hpl : (backTo pos (starEach es X.env)).any (·.1) = false := by rfl) :
    SE X W (.Call (.Name x p) (e :: es) [] pos) (mCall (fun args h => if args.length = ps.length then F args h else .bad) fas) := by
  refine ⟨fun pins s σ H Q I hw => ?_⟩
  have hw2 := rdR.bind (rel2 := Reps X.K) (k := fun ms args h => if args.length = ps.length then F args h else .bad) hw
  refine wpAny_Call_Name_kw (ld_glob I hg hm ?_ hdb)
  refine PySem.W.callWith_K (h₀ := X.base) I.ok.mod.kin hk (thn (ha.run pos pins s σ H _ I hw2) fun us s1 ⟨zs, H1, I1, rz, q1⟩ => ⟨I1.kIn, ?_⟩) he hpl
  obtain ⟨φ, φ1, ms, m, hh, hr1, hs1, rl, e1, p1⟩ := q1
  split at p1
  · rename_i hl
    have hl' : (us ++ []).length = ps.length := by rw [List.append_nil, ← rz.length, ← rl.length]; exact hl
    have b := hb s1 us I1.kIn hl'
    rw [List.append_nil] at b
    refine wpAny_call (codeAny_mono (Fk.run X.A X.stack s1 H1 ⟨us, []⟩ us zs Q (WE (wx X.K X.mg W) σ) hr gd.gs I1.env0 b rz ⟨by rw [← rl.length]; exact hl, φ1, hh, m, hr1, rl, call_post hs1 p1⟩) fun r s' hq => ?_)
    cases r with
    | error er => exact passAt gd.tk σ pins H1 s1 er s' I1 hq
    | ok fl =>
      cases fl with
      | ret u => exact I1.after hq
      | next => exact False.elim hq
      | brk => exact False.elim hq
      | cont => exact False.elim hq
  · exact p1.elim
end
/-! ### a def -/
def mDef (n : Nat) (body : MX) : MF := fun args h => match body (args.map some ++ List.replicate (n - args.length) none) h with
  | .nx _ h' => .ok .non h'
  | .rt v h' => .ok v h'
  | .er e _ h' => .err e h'
  | _ => .bad
def wOf (K : PySem.W.Frag) (mg : Str → Option Value) (E : XK) : WM := fun e φ _ _ _ H => ∀ cls d, ErRep K mg e φ H cls d → E cls d H
section
variable {P : Program} {w : World} {K : PySem.W.Frag} {mg : Str → Option Value} {base : Heap}
abbrev cxD (P : Program) (w : World) (K : PySem.W.Frag) (mg : Str → Option Value) (base : Heap) (N : List Str) (qual : Str) (st : Stmt) (f : Addr) (cdv : Value) (A : Around) (outer : List Env) (s : Shared) (H : Hp) (E : XK) : Cx :=
  cxOf (L2.CX P w) P w K mg base N qual (defScope st) f cdv A outer s H E
theorem gd_def {N : List Str} {qual : Str} {st : Stmt} {f : Addr} {cdv : Value} {A : Around} {outer : List Env} {s : Shared} {H : Hp} {E : XK} (hgs : A.guards = some []) (nd : N.Nodup) : Gd (cxD P w K mg base N qual st f cdv A outer s H E) (wOf K mg E) := by
  refine ⟨?_, rfl, nd, passes_of rfl, hgs⟩
  refine Takes.imp (takes_of (E := E) rfl rfl rfl rfl) fun cls d σ H' q => ?_
  obtain ⟨e, φ, ms, mh, er, _, _, w⟩ := q
  exact w cls d er
theorem start_sr {φ : Ph} {H : Hp} {args : List M} {vs : List V} {N : List Str} (r : Reps K φ H args vs) : SR K φ H (args.map some ++ List.replicate (N.length - args.length) none) (L2.start N vs) := by
  unfold L2.start
  refine ⟨by simp [r.length], fun i m e => ?_⟩
  by_cases hi : i < args.length
  · rw [List.getElem?_append_left (by simpa using hi)] at e
    rw [List.getElem?_append_left (by rw [List.length_map, ← r.length]; exact hi)]
    simp only [List.getElem?_map, Option.map_eq_some_iff] at e
    obtain ⟨m', e1, e2⟩ := e
    cases e2
    obtain ⟨v, e3, r3⟩ := Reps.get r e1
    exact ⟨v, by simp [e3], r3⟩
  · rw [List.getElem?_append_right (by simpa using hi)] at e
    simp only [List.length_map, List.getElem?_replicate] at e
    split at e <;> simp at e
/-- a def by its body, the guards known -/
theorem body_ok {k : Nat} {f : Addr} {name qual : Str} {params : Arguments} {body : List Stmt} {scope : Scope} {dV kV doc pm cdv ct oc : Value} {an od : Option Addr} {osl : Array (Option Value)} {N ps : List Str} {sp : Sp}
    (lk : K.lookup f = some ⟨oc, od, .func (PySem.W.fnOf name qual params body scope dV kV doc pm an cdv ct), osl⟩) (hcd : PySem.W.codeIn K cdv qual = true) (S : FnScope N ps scope) (len : ∀ vs H Q E, sp vs H Q E → vs.length = ps.length)
    (hb : ∀ (A : Around) (outer : List Env) (s : Shared) (H : Hp) (vs : List V) (Q : VK) (E : XK), Room k (A.deeper (envOfC qual scope s.heap.objs.size f cdv)) → A.guards = some [] → sp vs H Q E →
      ∃ t, PSs (cxOf (L2.CX P w) P w K mg base N qual scope f cdv A outer s H E) body t ∧ t { nx := fun _ H' => Q .non H', rt := Q } (L2.start N vs) H) :
    FnG P w K mg base (k + 1) f (PySem.W.fnOf name qual params body scope dV kV doc pm an cdv ct) ps sp := by
  refine ⟨len, fun A outer s H args us vs Q E hr hgs e0 bi rv hsp => ?_⟩
  have inK : K.In s.heap := e0.mod.kin.keeps fun b o e => (e0.bs b o e).1
  have nol : s.heap.NoLimit := e0.mod.nolimit.keeps fun b o e => (e0.bs b o e).1
  have kinds : ∀ y ∈ ps.zip us, scope.names.lookup y.1 = some .local ∨ (scope.names.lookup y.1 = some .cell ∧ ((cellsFrom (s.heap.objs.size + 1) scope.names []).lookup y.1).isSome = true) := by
    rintro ⟨n, v⟩ hy
    rcases S.par n (List.of_mem_zip hy).1 with q | q
    · exact .inl q
    · exact .inr ⟨q, PySem.W.cellsFrom_some _ _ _ (.inl q)⟩
  refine codeAny_call_function hr.depth (inK _ _ lk) rfl S.co S.gen rfl (PySem.W.codeRec_of inK hcd) (bi _ _ _ _ (wpAny_newFunctionEnv_cells S.kind kinds fun env he s1 x => ?_))
  subst he
  refine ⟨nol.keeps x.toInCall.keep, codeAny_func ?_⟩
  obtain ⟨t, ht, hq⟩ := hb A outer s H vs Q E (hr.deeper _) hgs hsp
  have I := inv_start (CX := L2.CX P w) (E := E) S hr.hd e0 (len _ _ _ _ hsp) rv x
  refine wpAny_mono (ht.run [] s1 (L2.start N vs) H _ I hq) (fun fl s' hs => ?_) fun e s' hs => hs
  cases fl with
  | ret u => obtain ⟨v, σ', H', J, r, q⟩ := hs; exact ⟨v, H', J.os, J.bare, J.base, J.hok, r, q⟩
  | next => obtain ⟨σ', H', J, q⟩ := hs; exact ⟨.non, H', J.os, J.bare, J.base, J.hok, rfl, q⟩
  | brk => obtain ⟨_, _, _, q⟩ := hs; exact q.elim
  | cont => obtain ⟨_, _, _, q⟩ := hs; exact q.elim
theorem def_ok {name qual : Str} {st : Stmt} {f : Addr} {fd : FuncData} {N ps : List Str} {k : Nat} {body : MX} (Fd : Fun K name qual st f fd) (S : FnScope N ps (defScope st))
    (hbody : ∀ (cdv : Value) (A : Around) (outer : List Env) (s : Shared) (H : Hp) (E : XK), Room k (A.deeper (envOfC qual (defScope st) s.heap.objs.size f cdv)) → A.guards = some [] →
      SSs (cxD P w K mg base N qual st f cdv A outer s H E) (wOf K mg E) (defBody st) body) : FnG P w K mg base (k + 1) f fd ps (spF K mg ps.length (mDef N.length body)) := by
  obtain ⟨oc, od, kV, doc, pm, an, cdv, ct, osl, rfl, lk, hcd⟩ := Fd.ex
  refine body_ok lk hcd S (fun vs H Q E h => h.1) fun A outer s H vs Q E hr hgs h => ?_
  obtain ⟨hl, φ, mh, args, h1, h2, p⟩ := h
  refine ⟨_, hbody cdv A outer s H E hr hgs, ?_⟩
  refine ⟨φ, _, mh, h1, start_sr (N := N) h2, ?_⟩
  unfold mDef at p
  generalize body (args.map some ++ List.replicate (N.length - args.length) none) mh = r at p
  cases r with
  | nx ms h => exact fun φ' σ' H' e hr sr => p φ' _ H' e hr (by rw [Rep])
  | rt m h => exact fun φ' v H' e hr rl => p φ' v H' e hr rl
  | bk ms h => exact p.elim
  | ct ms h => exact p.elim
  | er e ms h => exact fun φ' σ' H' ex hr sr cls d er => p φ' H' cls d ex hr er
  | bad => exact p.elim
end

/-! ### statements -/
def xNil : MX := fun ms h => .nx ms h
def xSeq (f g : MX) : MX := fun ms h => match f ms h with
  | .nx ms' h' => g ms' h'
  | r => r
def xOf {α : Type} (r : R α) (ms : MS) (k : α → MH → RS) : RS := match r with
  | .ok a h => k a h
  | .err e h => .er e ms h
  | .bad => .bad
def xExpr (f : ME) : MX := fun ms h => xOf (f ms h) ms fun _ h' => .nx ms h'
def xRet (f : ME) : MX := fun ms h => xOf (f ms h) ms fun m h' => .rt m h'
def xRetN : MX := fun ms h => .rt .non h
def xIf (t : MT) (f g : MX) : MX := fun ms h => xOf (t ms h) ms fun b h' => if b = true then f ms h' else g ms h'
def xBreak : MX := fun ms h => .bk ms h
def xCont : MX := fun ms h => .ct ms h
section
variable {K : PySem.W.Frag} {W : WM} {φ φ' : Ph} {H H' : Hp} {mh : MH} {ms : MS} {σ : L2.St} {α β : Type} {rel : Ph → Hp → α → β → Prop}
/-- an expression, then the rest of a statement -/
theorem xOf_post {r : R α} {k : α → MH → RS} {D : Ends} (hs : SR K φ H ms σ) (h : PostS K W φ H (xOf r ms k) D) :
    PostR K W rel φ H ms σ r fun v H1 => ∃ φ1 m h1, HR K φ1 h1 H1 ∧ SR K φ1 H1 ms σ ∧ rel φ1 H1 m v ∧ Ext φ H φ1 H1 ∧ PostS K W φ1 H1 (k m h1) D := by
  cases r with
  | ok m h1 => exact fun φ' v H' e hr rl => ⟨φ', m, h1, hr, hs.ext e, rl, e, PostS.ext e h⟩
  | err x h1 => exact fun φ' H' e hr sr => h φ' σ H' e hr sr
  | bad => exact h
theorem PostS.nx_here {D : Ends} (hr : HR K φ mh H) (hs : SR K φ H ms σ) (h : PostS K W φ H (.nx ms mh) D) : D.nx σ H := h φ σ H Ext.refl hr hs
end
section
variable {X : Cx} {W : WM} {pos p p2 pos' : Pos} {a b c e : Expr} {es : List Expr} {t u : MT} {f g fa fb : ME} {st : Stmt} {sts s1 s2 : List Stmt} {xf xg : MX}
theorem ss_nil : SSs X W [] xNil := pss_nil.imp fun D σ H h => by
  obtain ⟨φ, ms, mh, hr, hs, p⟩ := h
  exact p.nx_here hr hs
theorem ss_cons (h1 : SS X W st xf) (h2 : SSs X W sts xg) : SSs X W (st :: sts) (xSeq xf xg) := by
  refine (pss_cons h1 h2).imp fun D σ H h => ?_
  obtain ⟨φ, ms, mh, hr, hs, p⟩ := h
  refine ⟨φ, ms, mh, hr, hs, ?_⟩
  unfold xSeq at p
  generalize xf ms mh = r at p
  cases r with
  | nx ms' h' => exact fun φ' σ' H' e hr sr => ⟨φ', ms', h', hr, sr, PostS.ext e p⟩
  | rt m h' => exact p
  | bk m h' => exact p
  | ct m h' => exact p
  | er e m h' => exact p
  | bad => exact p
theorem ss_one (h1 : SS X W st xf) : SSs X W [st] xf := pss_one h1
theorem ss_doc {x : Str} {j : Nat} : SS X W (.Expr (.Constant (.str x) j pos) pos') xNil := ps_doc.imp fun D σ H h => by
  obtain ⟨φ, ms, mh, hr, hs, p⟩ := h
  exact p.nx_here hr hs
theorem ss_pass : SS X W (.Pass pos) xNil := ps_pass.imp fun D σ H h => by
  obtain ⟨φ, ms, mh, hr, hs, p⟩ := h
  exact p.nx_here hr hs
theorem ss_expr (he : SE X W e f) (hs : swapsWith e none pos.line X.env = pure false := by rfl) : SS X W (.Expr e pos) (xExpr f) := by
  refine (ps_expr he hs).imp fun D σ H h => ?_
  obtain ⟨φ, ms, mh, hr, hs, p⟩ := h
  refine ⟨φ, ms, mh, hr, hs, (xOf_post hs p).mono fun v H1 q => ?_⟩
  obtain ⟨φ1, m, h1, hr1, hs1, rl, e1, p1⟩ := q
  exact p1.nx_here hr1 hs1
theorem ss_ret (he : SE X W e f) : SS X W (.Return (some e) pos) (xRet f) := by
  refine (ps_ret he).imp fun D σ H h => ?_
  obtain ⟨φ, ms, mh, hr, hs, p⟩ := h
  refine ⟨φ, ms, mh, hr, hs, (xOf_post hs p).mono fun v H1 q => ?_⟩
  obtain ⟨φ1, m, h1, hr1, hs1, rl, e1, p1⟩ := q
  exact p1 φ1 v H1 Ext.refl hr1 rl
theorem ss_retN : SS X W (.Return none pos) xRetN := ps_retN.imp fun D σ H h => by
  obtain ⟨φ, ms, mh, hr, hs, p⟩ := h
  exact p φ _ H Ext.refl hr (by rw [Rep])
theorem ss_break : SS X W (.Break pos) xBreak := ps_break.imp fun D σ H h => by
  obtain ⟨φ, ms, mh, hr, hs, p⟩ := h
  exact p φ _ H Ext.refl hr hs
theorem ss_cont : SS X W (.Continue pos) xCont := ps_continue.imp fun D σ H h => by
  obtain ⟨φ, ms, mh, hr, hs, p⟩ := h
  exact p φ _ H Ext.refl hr hs
theorem ss_if (hc : ST X W c t) (ha : SSs X W s1 xf) (hb : SSs X W s2 xg) : SS X W (.If c s1 s2 pos) (xIf t xf xg) := by
  refine (ps_if hc ha hb).imp fun D σ H h => ?_
  obtain ⟨φ, ms, mh, hr, hs, p⟩ := h
  refine ⟨φ, ms, mh, hr, hs, (xOf_post hs p).mono fun v H1 q => ?_⟩
  obtain ⟨φ1, m, h1, hr1, hs1, rl, e1, p1⟩ := q
  obtain rfl : m = v := rl
  cases m with
  | true => rw [if_pos rfl]; exact ⟨φ1, ms, h1, hr1, hs1, p1⟩
  | false => rw [if_neg Bool.false_ne_true]; exact ⟨φ1, ms, h1, hr1, hs1, p1⟩
/-- never come to -/
def xNever : MX := fun _ _ => .bad
theorem ss_never : SS X W st xNever := ps_never.imp fun D σ H h => by
  obtain ⟨φ, ms, mh, hr, hs, p⟩ := h
  exact p.elim
end

/-! ### targets -/
abbrev MG := M → MS → MH → R MS
abbrev MGs := List M → MS → MH → R MS
/-- the slots but those at vs are as they were -/
def Out (vs : List Nat) (σ σ' : L2.St) : Prop := σ'.length = σ.length ∧ ∀ i, i ∉ vs → σ'[i]? = σ[i]?
theorem Out.refl {vs : List Nat} {σ : L2.St} : Out vs σ σ := ⟨rfl, fun _ _ => rfl⟩
theorem Out.trans {vs : List Nat} {σ σ1 σ2 : L2.St} (a : Out vs σ σ1) (b : Out vs σ1 σ2) : Out vs σ σ2 := ⟨b.1.trans a.1, fun i h => (b.2 i h).trans (a.2 i h)⟩
theorem Out.mono {vs ws : List Nat} {σ σ' : L2.St} (a : Out vs σ σ') (h : ∀ i ∈ vs, i ∈ ws) : Out ws σ σ' := ⟨a.1, fun i hi => a.2 i fun z => hi (h i z)⟩
section
variable (K : PySem.W.Frag) (W : WM) (vs : List Nat)
def PostG (φ : Ph) (H : Hp) (σ : L2.St) (r : R MS) (Q : L2.St → Hp → Prop) : Prop :=
  match r with
  | .ok ms h => ∀ φ' σ' H', Ext φ H φ' H' → HR K φ' h H' → SR K φ' H' ms σ' → Out vs σ σ' → Q σ' H'
  | _ => False
def rdG (f : MG) : TG := fun v σ H Q => ∃ φ m ms mh, HR K φ mh H ∧ SR K φ H ms σ ∧ Rep K φ H m v ∧ PostG K vs φ H σ (f m ms mh) Q
def rdGs (f : MGs) : TGs := fun us σ H Q => ∃ φ xs ms mh, HR K φ mh H ∧ SR K φ H ms σ ∧ Reps K φ H xs us ∧ PostG K vs φ H σ (f xs ms mh) Q
end
theorem _root_.L2.PG.imp {X : Cx} {e : Expr} {t t' : TG} (h : PG X e t) (i : ∀ v σ H Q, t' v σ H Q → t v σ H Q) : PG X e t' := ⟨fun pins s σ H v u Q I r q => h.run pins s σ H v u Q I r (i v σ H Q q)⟩
theorem _root_.L2.PGs.imp {X : Cx} {e : List Expr} {t t' : TGs} (h : PGs X e t) (i : ∀ v σ H Q, t' v σ H Q → t v σ H Q) : PGs X e t' := ⟨fun pins s σ H v u Q I r q => h.run pins s σ H v u Q I r (i v σ H Q q)⟩
abbrev SG (X : Cx) (vs : List Nat) (e : Expr) (f : MG) : Prop := PG X e (rdG X.K vs f)
abbrev SGs (X : Cx) (vs : List Nat) (e : List Expr) (f : MGs) : Prop := PGs X e (rdGs X.K vs f)
def gN (i : Nat) : MG := fun m ms h => .ok (ms.set i (some m)) h
def gsNil : MGs := fun xs ms h => match xs with
  | [] => .ok ms h
  | _ => .bad
def gsCons (f : MG) (g : MGs) : MGs := fun xs ms h => match xs with
  | x :: r => match f x ms h with
    | .ok ms' h' => g r ms' h'
    | _ => .bad
  | [] => .bad
def gT (n : Nat) (g : MGs) : MG := fun m ms h => match m with
  | .tup xs => if xs.length = n then g xs ms h else .bad
  | _ => .bad
section
variable {K : PySem.W.Frag} {W : WM} {φ φ' : Ph} {H H' : Hp} {mh : MH} {ms : MS} {σ : L2.St} {vs : List Nat}
theorem SR.set {i : Nat} {m : M} {v : V} (hs : SR K φ H ms σ) (r : Rep K φ H m v) : SR K φ H (ms.set i (some m)) (σ.set i (some v)) := by
  refine ⟨by simp [hs.len], fun j x e => ?_⟩
  by_cases hj : i = j
  · subst hj
    obtain ⟨hl, _⟩ := List.getElem?_eq_some_iff.mp e
    rw [List.length_set] at hl
    rw [List.getElem?_set_self hl] at e
    cases e
    exact ⟨v, by rw [List.getElem?_set_self (by rw [← hs.len]; exact hl)], r⟩
  · rw [List.getElem?_set_ne hj] at e
    rw [List.getElem?_set_ne hj]
    exact hs.at_ j x e
theorem Out.set {i : Nat} {x : Option V} (hi : i ∈ vs) : Out vs σ (σ.set i x) := ⟨by simp, fun j hj => List.getElem?_set_ne (by rintro rfl; exact hj hi)⟩
theorem PostG.ext {r : R MS} {Q : L2.St → Hp → Prop} (e : Ext φ H φ' H') (h : PostG K vs φ H σ r Q) : PostG K vs φ' H' σ r Q := by
  cases r with
  | ok m mh => exact fun φ2 v H2 e2 hr rl => h φ2 v H2 (e.trans e2) hr rl
  | err x mh => exact h
  | bad => exact h
end
section
variable {X : Cx} {W : WM} {pos p p2 pos' : Pos} {a b c e : Expr} {es : List Expr} {vs : List Nat}
theorem sg_name {i : Nat} {x : Str} (hN : X.N.Nodup) (hi : X.N[i]? = some x) (hx : Loc X.env.scope x) (hv : i ∈ vs) (hf : X.fn x = true ∨ X.env.scope.names.lookup x = some .local := by first | exact .inl rfl | exact .inr rfl | assumption) : SG X vs (.Name x pos) (gN i) := by
  refine (pg_name hN hi hx hf).imp fun v σ H Q h => ?_
  obtain ⟨φ, m, ms, mh, hr, hs, rl, p⟩ := h
  exact p φ _ H Ext.refl hr (hs.set rl) (Out.set hv)
theorem sgs_nil : SGs X vs [] gsNil := by
  refine pgs_nil.imp fun us σ H Q h => ?_
  obtain ⟨φ, xs, ms, mh, hr, hs, rl, p⟩ := h
  unfold gsNil at p
  split at p
  · rw [Reps] at rl
    exact ⟨rl, p φ _ H Ext.refl hr hs Out.refl⟩
  · exact p.elim
theorem sgs_cons {f : MG} {g : MGs} (h1 : SG X vs e f) (h2 : SGs X vs es g) (hs : (assignEach (e :: es) X.env).map (·.2) = assign e X.env :: (assignEach es X.env).map (·.2) := by rfl) : SGs X vs (e :: es) (gsCons f g) := by
  refine (pgs_cons h1 h2 hs).imp fun us σ H Q h => ?_
  obtain ⟨φ, xs, ms, mh, hr, hs, rl, p⟩ := h
  unfold gsCons at p
  split at p
  · rename_i x r
    rw [Reps] at rl
    obtain ⟨v, vs', rfl, r1, r2⟩ := rl
    refine ⟨v, vs', rfl, φ, x, ms, mh, hr, hs, r1, ?_⟩
    generalize f x ms mh = q at p
    cases q with
    | ok ms1 h1 =>
      refine fun φ1 σ1 H1 e1 hr1 hs1 o1 => ⟨φ1, r, ms1, h1, hr1, hs1, Reps.ext e1 r2, ?_⟩
      have p1 : PostG X.K vs φ1 H1 σ (g r ms1 h1) Q := PostG.ext e1 p
      generalize g r ms1 h1 = q2 at p1
      cases q2 with
      | ok ms2 h2 => exact fun φ2 σ2 H2 e2 hr2 hs2 o2 => p1 φ2 σ2 H2 e2 hr2 hs2 (o1.trans o2)
      | err _ _ => exact p1.elim
      | bad => exact p1.elim
    | err _ _ => exact p.elim
    | bad => exact p.elim
  · exact p.elim
theorem sg_tup {k n : Nat} {g : MGs} (hc : X.calm = true) (h : SGs X vs es g) (hn : (assignEach es X.env).length = n := by rfl) (hst : (assignEach es X.env).findIdx? (·.1) = none := by rfl) : SG X vs (.Tuple es k pos) (gT n g) := by
  refine (pg_tup hc h hn hst).imp fun v σ H Q h => ?_
  obtain ⟨φ, m, ms, mh, hr, hs, rl, p⟩ := h
  unfold gT at p
  split at p
  · rename_i xs
    split at p
    · rename_i hl
      rw [Rep] at rl
      obtain ⟨a, us, rfl, q, r⟩ := rl
      exact ⟨a, us, rfl, SqT.of q, by rw [← r.length]; exact hl, φ, xs, ms, mh, hr, hs, r, p⟩
    · exact p.elim
  · exact p.elim
/-! ### o[i] = v -/
def setIx (xs : List M) (i v : M) : Option (List M) := match i with
  | .int k => match ixN xs.length k with
    | some j => some (xs.set j v)
    | none => none
  | _ => none
def setM (o i v : M) (h : MH) : Option MH := match o with
  | .loc n => match h[n]? with
    | some (.lst xs) => match setIx xs i v with
      | some ys => some (h.set n (.lst ys))
      | none => none
    | some (.dk kvs) => match keyOf i with
      | some q => if kvs.length < LIM then some (h.set n (.dk (putM kvs q v))) else none
      | none => none
    | some (.dt kvs) => match keysOf i with
      | some q => if kvs.length < LIM then some (h.set n (.dt (putM kvs q v))) else none
      | none => none
    | _ => none
  | _ => none
def rSetA : TSet := fun o i v H Q => rSetL o i v H Q ∨ ∃ a H', o = .ref a ∧ DPut H a i v H' ∧ Q H'
theorem set_all (hu : X.A.units + 1 < cLine) : PSet X rSetA := by
  intro pins s σ H o i v ov iv u Q I ro ri rv h
  rcases h with h | ⟨a, H', rfl, g, q⟩
  · exact set_list pins s σ H o i v ov iv u Q I ro ri rv h
  · obtain rfl : ov = Value.ref a := ro
    exact d_setItem hu I g ri rv fun s' I' => ⟨H', I', q⟩
theorem setM_post {K : PySem.W.Frag} {φ : Ph} {H : Hp} {mh mh' : MH} {o i v : M} {ov iv u : V} {Q : Hp → Prop} (hr : HR K φ mh H) (ro : Rep K φ H o ov) (ri : Rep K φ H i iv) (rv : Rep K φ H v u) (e : setM o i v mh = some mh')
    (q : ∀ H', Ext φ H φ H' → HR K φ mh' H' → Q H') : rSetA ov iv u H Q := by
  cases o with
  | loc n =>
    obtain ⟨a, rfl, ha⟩ := ro.ref_loc
    have e' : (match mh[n]? with
      | some (.lst xs) => (match setIx xs i v with
        | some ys => some (mh.set n (.lst ys))
        | none => none)
      | some (.dk kvs) => (match keyOf i with
        | some q => if kvs.length < LIM then some (mh.set n (.dk (putM kvs q v))) else none
        | none => none)
      | some (.dt kvs) => (match keysOf i with
        | some q => if kvs.length < LIM then some (mh.set n (.dt (putM kvs q v))) else none
        | none => none)
      | _ => none) = some mh' := e
    split at e'
    · rename_i xs hx
      split at e'
      · rename_i ys hy
        cases e'
        unfold setIx at hy
        split at hy
        · rename_i k
          split at hy
          · rename_i j hj
            cases hy
            obtain ⟨vs, h1, h2⟩ := hr.obj n _ a hx ha
            rw [Rep] at ri
            have ex : Ext φ H φ (upd H a (.lst (vs.set j u))) := Ext.write hr ha
            refine .inl ⟨a, vs, k, j, rfl, ri, h1, by rw [← h2.length]; exact hj, q _ ex ?_⟩
            exact hr.write ha ⟨_, upd_same, Reps.ext ex (Reps.set j h2 rv)⟩
          · cases hy
        · cases hy
      · cases e'
    · rename_i kvs hx
      split at e'
      · rename_i qk hk
        split at e'
        · rename_i hl
          cases e'
          obtain ⟨ws, h1, h2⟩ := hr.obj n _ a hx ha
          have ek := keyOf_v ri hk
          subst ek
          have ex : Ext φ H φ (upd H a (.dK (putK ws qk u))) := Ext.write hr ha
          refine .inr ⟨a, _, rfl, DPut.k h1 (by rw [LIM_eq, ← RepKV.length h2]; exact hl), q _ ex ?_⟩
          exact hr.write ha ⟨_, upd_same, RepKV.ext ex (RepKV.put qk rv h2)⟩
        · cases e'
      · cases e'
    · rename_i kvs hx
      split at e'
      · rename_i qk hk
        split at e'
        · rename_i hl
          cases e'
          obtain ⟨ws, h1, h2⟩ := hr.obj n _ a hx ha
          obtain ⟨b, rfl, hb⟩ := keysOf_v ri hk
          have ex : Ext φ H φ (upd H a (.dT (putK ws qk u))) := Ext.write hr ha
          refine .inr ⟨a, _, rfl, DPut.t h1 hb (by rw [LIM_eq, ← RepKV.length h2]; exact hl), q _ ex ?_⟩
          exact hr.write ha ⟨_, upd_same, RepKV.ext ex (RepKV.put qk rv h2)⟩
        · cases e'
      · cases e'
    · cases e'
  | _ => simp [setM] at e
/-- the target's own parts let nothing out -/
def gSet (fo fi : ME) : MG := fun v ms h => match fo ms h with
  | .ok o h1 => match fi ms h1 with
    | .ok i h2 => match setM o i v h2 with
      | some h3 => .ok ms h3
      | none => .bad
    | _ => .bad
  | _ => .bad
theorem sg_sub {fo fi : ME} (hu : X.A.units + 1 < cLine) (ho : SE X W a fo) (hi : SE X W b fi)
    (ha : ∀ v, assign (.Subscript a b pos) X.env v = (do
      let ov ← holding [v] (eval a X.env)
      let iv ← holding [v, ov] (eval b X.env)
      standAt pos
      holding [v, ov, iv] (setItem ov iv v)
      release [v, ov, iv] []) := by intro _; rfl) : SG X vs (.Subscript a b pos) (gSet fo fi) := by
  refine (pg_sub ho hi (set_all hu) ha).imp fun v σ H Q h => ?_
  obtain ⟨φ, m, ms, mh, hr, hs, rl, p⟩ := h
  unfold gSet at p
  refine ⟨φ, ms, mh, hr, hs, ?_⟩
  generalize fo ms mh = r at p
  cases r with
  | ok o h1 =>
    refine fun φ1 ov H1 e1 hr1 ro => ⟨φ1, ms, h1, hr1, hs.ext e1, ?_⟩
    have p1 : PostG X.K vs φ1 H1 σ (match fi ms h1 with
      | .ok i h2 => match setM o i m h2 with
        | some h3 => R.ok ms h3
        | none => .bad
      | _ => .bad) Q := PostG.ext e1 p
    generalize fi ms h1 = r2 at p1
    cases r2 with
    | ok i h2 =>
      intro φ2 iv H2 e2 hr2 ri
      have p2 : PostG X.K vs φ2 H2 σ (match setM o i m h2 with
        | some h3 => R.ok ms h3
        | none => .bad) Q := PostG.ext e2 p1
      split at p2
      · rename_i h3 hh
        exact setM_post hr2 (Rep.ext e2 ro) ri (Rep.ext (e1.trans e2) rl) hh fun H3 e3 hr3 => p2 φ2 σ H3 e3 hr3 (hs.ext (e1.trans (e2.trans e3))) Out.refl
      · exact p2.elim
    | err _ _ => exact p1.elim
    | bad => exact p1.elim
  | err _ _ => exact p.elim
  | bad => exact p.elim
/-- target = e -/
def xAsg (f : ME) (g : MG) : MX := fun ms h => xOf (f ms h) ms fun m h' => match g m ms h' with
  | .ok ms' h2 => .nx ms' h2
  | _ => .bad
theorem asg_post {K : PySem.W.Frag} {f : ME} {g : MG} {D : Ends} {σ : L2.St} {H : Hp} (h : rdS K W (xAsg f g) D σ H) : rdE K W f σ H fun x H1 => rdG K vs g x σ H1 D.nx := by
  obtain ⟨φ, ms, mh, hr, hs, p⟩ := h
  refine ⟨φ, ms, mh, hr, hs, (xOf_post hs p).mono fun v H1 q => ?_⟩
  obtain ⟨φ1, m, h1, hr1, hs1, rl, e1, p1⟩ := q
  refine ⟨φ1, m, ms, h1, hr1, hs1, rl, ?_⟩
  generalize g m ms h1 = r at p1
  cases r with
  | ok ms2 h2 => exact fun φ2 σ2 H2 e2 hr2 hs2 _ => p1 φ2 σ2 H2 e2 hr2 hs2
  | err _ _ => exact p1.elim
  | bad => exact p1.elim
theorem ss_asg {tg : Expr} {f : ME} {g : MG} (he : SE X W e f) (hg : SG X vs tg g) (hs : swapsWithSole [tg] e pos.line X.env = pure false := by rfl) (hw : swappedStores [tg] e X.env = pure none := by rfl)
    (h1 : (assignEach [tg] X.env).map (·.2) = [assign tg X.env] := by rfl) : SS X W (.Assign [tg] e pos) (xAsg f g) := (ps_asg he hg hs hw h1).imp fun _ _ _ h => asg_post h
theorem ss_set {i : Nat} {x : Str} {f : ME} {pos' : Pos} (hN : X.N.Nodup) (hi : X.N[i]? = some x) (hx : Loc X.env.scope x) (he : SE X W e f) (hs : swapsWith e (some (.Name x pos')) pos.line X.env = pure false := by rfl) (hf : X.fn x = true ∨ X.env.scope.names.lookup x = some .local := by first | exact .inl rfl | exact .inr rfl | assumption) :
    SS X W (.Assign [.Name x pos'] e pos) (xAsg f (gN i)) := by
  refine (ps_set hN hi hx he hs hf).imp fun D σ H h => ?_
  refine (asg_post (vs := [i]) h).mono fun v H1 q => ?_
  obtain ⟨φ, m, ms, mh, hr, hs, rl, p⟩ := q
  exact p φ _ H1 Ext.refl hr (hs.set rl) (Out.set (by simp))
/-- a, b = x, y -/
def xPar (i j : Nat) (fa : MA) : MX := fun ms h => xOf (fa ms h) ms fun xs h' => match xs with
  | [x, y] => .nx ((ms.set i (some x)).set j (some y)) h'
  | _ => .bad
theorem ss_par {i j : Nat} {x y : Str} {fa : MA} {px py pt : Pos} {kt k2 pt2} (hc : X.calm = true) (hN : X.N.Nodup) (hi : X.N[i]? = some x) (hj : X.N[j]? = some y) (hij : i ≠ j)
    (hx : X.env.scope.names.lookup x = some .local) (hy : X.env.scope.names.lookup y = some .local) (ha : SA X W [a, b] fa)
    (hw : swappedStores [.Tuple [.Name x px, .Name y py] kt pt] (.Tuple [a, b] k2 pt2) X.env = pure (some [x, y]))
    (hs : swapsWithSole [.Tuple [.Name x px, .Name y py] kt pt] (.Tuple [a, b] k2 pt2) pos.line X.env = pure false := by rfl) :
    SS X W (.Assign [.Tuple [.Name x px, .Name y py] kt pt] (.Tuple [a, b] k2 pt2) pos) (xPar i j fa) := by
  refine (ps_par hc hN hi hj hij hx hy ha hw hs).imp fun D σ H h => ?_
  obtain ⟨φ, ms, mh, hr, hs, p⟩ := h
  refine ⟨φ, ms, mh, hr, hs, (xOf_post hs p).mono fun us H1 q => ?_⟩
  obtain ⟨φ1, xs, h1, hr1, hs1, rl, e1, p1⟩ := q
  split at p1
  · rename_i m1 m2
    obtain ⟨v, w', rfl, r1, r2⟩ := rl.two
    exact ⟨v, w', rfl, p1 φ1 _ H1 Ext.refl hr1 ((hs1.set r1).set r2)⟩
  · exact p1.elim
/-- a name op= e -/
def xAug (i : Nat) (g : M → M → MH → R M) (f : ME) : MX := fun ms h => match ms[i]? with
  | some (some x) => xOf (f ms h) ms fun y h1 => xOf (g x y h1) ms fun z h2 => .nx (ms.set i (some z)) h2
  | _ => .bad
end
end Tb

set_option Elab.async false
set_option linter.all false
set_option maxRecDepth 100000
namespace Tb
open PySem PySem.Spec PyProof.Rows L2

/-! ### what is walked -/
inductive IV where
  | vals (xs : List M) | at_ (n : Nat)
abbrev MI := MS → MH → R IV
/-- the layer's walk gives the items -/
def ItOk (K : PySem.W.Frag) (φ₀ : Ph) (H₀ : Hp) (J : It) : IV → Prop
  | .vals xs => ∀ (i : Nat) (φ : Ph) (H : Hp) (mh : MH), ExtW φ₀ H₀ φ H → HR K φ mh H →
      (∀ m, xs[i]? = some m → J.go i H ∧ ∀ x H', J.yld i H x H' → Ext φ H φ H' ∧ HR K φ mh H' ∧ Rep K φ H' m x) ∧ (xs.length ≤ i → J.stop i H)
  | .at_ n => ∃ a, φ₀.ls[n]? = some a ∧ J = Itl K a
def PostI (K : PySem.W.Frag) (W : WM) (φ : Ph) (H : Hp) (ms : MS) (σ : L2.St) (r : R IV) (Q : It → Hp → Prop) : Prop :=
  match r with
  | .ok iv h => ∀ φ' J H', Ext φ H φ' H' → HR K φ' h H' → ItOk K φ' H' J iv → Q J H'
  | .err e h => ∀ φ' H', Ext φ H φ' H' → HR K φ' h H' → SR K φ' H' ms σ → W e φ' ms h σ H'
  | .bad => False
def rdI (K : PySem.W.Frag) (W : WM) (f : MI) : TI := fun σ H Q => ∃ φ ms mh, HR K φ mh H ∧ SR K φ H ms σ ∧ PostI K W φ H ms σ (f ms mh) Q
abbrev SI (X : Cx) (W : WM) (tg e : Expr) (f : MI) : Prop := PI X tg e (rdI X.K W f)
theorem _root_.L2.PI.imp {X : Cx} {tg e : Expr} {t t' : TI} (h : PI X tg e t) (i : ∀ σ H Q, t' σ H Q → t σ H Q) : PI X tg e t' := ⟨fun pins s σ H Q I q => h.run pins s σ H Q I (i σ H Q q)⟩
section
variable {K : PySem.W.Frag} {W : WM} {φ φ' : Ph} {H H' : Hp} {mh : MH} {ms : MS} {σ : L2.St}
/-- a value, then what is walked -/
theorem PostI.bind {α β : Type} {rel : Ph → Hp → α → β → Prop} {r : R α} {k : α → MH → R IV} {Q : It → Hp → Prop} (hs : SR K φ H ms σ) (h : PostI K W φ H ms σ (r.bind k) Q) :
    PostR K W rel φ H ms σ r fun v H1 => ∃ φ1 m h1, HR K φ1 h1 H1 ∧ SR K φ1 H1 ms σ ∧ rel φ1 H1 m v ∧ Ext φ H φ1 H1 ∧ PostI K W φ1 H1 ms σ (k m h1) Q := by
  cases r with
  | ok m mh =>
    refine fun φ' v H' e hr rl => ⟨φ', m, mh, hr, hs.ext e, rl, e, ?_⟩
    have h' : PostI K W φ H ms σ (k m mh) Q := h
    generalize k m mh = q at h'
    cases q with
    | ok iv h2 => exact fun φ2 J H2 e2 hr2 it => h' φ2 J H2 (e.trans e2) hr2 it
    | err x h2 => exact fun φ2 H2 e2 hr2 sr => h' φ2 H2 (e.trans e2) hr2 sr
    | bad => exact h'
  | err x mh => exact h
  | bad => exact h
theorem itOk_list {a : Addr} {vs : List V} {xs : List M} (hk : ∀ φ2 H2, ExtW φ H φ2 H2 → SqL K H2 a vs) (r : Reps K φ H xs vs) : ItOk K φ H (Itl K a) (.vals xs) := by
  intro i φ2 H2 mh2 e hr
  have q := hk φ2 H2 e
  refine ⟨fun m hm => ?_, fun hl => ⟨vs, q, by rw [← r.length]; exact hl⟩⟩
  obtain ⟨v, hv, rv⟩ := Reps.get r hm
  refine ⟨⟨vs, v, q, hv⟩, fun x H' y => ?_⟩
  obtain ⟨rfl, y⟩ := y
  have := y vs q
  rw [hv] at this; cases this
  exact ⟨Ext.refl, hr, Rep.extW e rv⟩
theorem itOk_tup {a : Addr} {vs : List V} {xs : List M} (hk : ∀ φ2 H2, ExtW φ H φ2 H2 → SqT K H2 a vs) (r : Reps K φ H xs vs) : ItOk K φ H (Itt K a) (.vals xs) := by
  intro i φ2 H2 mh2 e hr
  have q := hk φ2 H2 e
  refine ⟨fun m hm => ?_, fun hl => ⟨vs, q, by rw [← r.length]; exact hl⟩⟩
  obtain ⟨v, hv, rv⟩ := Reps.get r hm
  refine ⟨⟨vs, v, q, hv⟩, fun x H' y => ?_⟩
  obtain ⟨rfl, y⟩ := y
  have := y vs q
  rw [hv] at this; cases this
  exact ⟨Ext.refl, hr, Rep.extW e rv⟩
end
/-- lo, lo + 1, .. (n of them) -/
def rngV (lo : Int) (n : Nat) : List M := (List.range n).map fun i => .int (lo + (i : Nat))
theorem itOk_range {K : PySem.W.Frag} {φ : Ph} {H : Hp} {lo : Int} {n : Nat} : ItOk K φ H (Itr lo n) (.vals (rngV lo n)) := by
  intro i φ2 H2 mh2 e hr
  unfold rngV
  refine ⟨fun m hm => ?_, fun hl => (by simpa using hl : n ≤ i)⟩
  simp only [List.getElem?_map, Option.map_eq_some_iff] at hm
  obtain ⟨j, hj, rfl⟩ := hm
  obtain ⟨h1, h2⟩ := List.getElem?_eq_some_iff.mp hj
  rw [List.getElem_range] at h2
  subst h2
  refine ⟨(by simpa using h1 : i < n), fun x H' y => ?_⟩
  obtain ⟨rfl, rfl⟩ := y
  exact ⟨Ext.refl, hr, by rw [Rep]⟩
def cR (j : Int) : Bool := decide (-(2 ^ 62) ≤ j) && decide (j < 2 ^ 62)
/-- over a list or a tuple -/
def iSeqM : M → MH → R IV := fun m h => match m with
  | .tup xs => .ok (.vals xs) h
  | .tmp xs => .ok (.vals xs) h
  | .ro xs => .ok (.vals xs) h
  | .loc n => match h[n]? with
    | some (.lst _) => .ok (.at_ n) h
    | _ => .bad
  | _ => .bad
def iSeq (f : ME) : MI := fun ms mh => (f ms mh).bind fun m h => iSeqM m h
def iRange1 (fa : MA) : MI := fun ms mh => (fa ms mh).bind fun xs h => match xs with
  | [.int j] => if cR j = true then .ok (.vals (rngV 0 j.toNat)) h else .bad
  | _ => .bad
def iRange2 (fa : MA) : MI := fun ms mh => (fa ms mh).bind fun xs h => match xs with
  | [.int i, .int j] => if (cR i && cR j) = true then .ok (.vals (rngV i (j - i).toNat)) h else .bad
  | _ => .bad
section
variable {X : Cx} {W : WM} {pos p p2 : Pos} {tg a b c e : Expr} {es : List Expr} {f g : ME} {fas : MA}
theorem si_seq (h : SE X W e f) : SI X W tg e (iSeq f) := by
  refine ⟨fun pins s σ H R I hw => ?_⟩
  obtain ⟨φ, ms, mh, hr, hs, p⟩ := hw
  have q := PostI.bind (rel := Rep X.K) hs p
  -- which of both it is hangs on the mirror's value
  by_cases ht : ∃ xs h', f ms mh = .ok (.tup xs) h'
  · obtain ⟨xs, h', ht⟩ := ht
    refine (pi_tup (tg := tg) h).run pins s σ H R I ⟨φ, ms, mh, hr, hs, ?_⟩
    rw [ht] at q ⊢
    intro φ1 v H1 e1 hr1 rl
    obtain ⟨φ2, m, h2, hr2, hs2, rl2, e2, p2⟩ := q φ1 v H1 e1 hr1 rl
    have p2 : PostI X.K W φ1 H1 ms σ (iSeqM (.tup xs) h') R := by
      have p : PostI X.K W φ H ms σ (iSeqM (.tup xs) h') R := by
        have := p
        unfold iSeq at this
        rw [ht] at this
        exact this
      exact fun φ3 J H3 e3 hr3 it => p φ3 J H3 (e1.trans e3) hr3 it
    rw [Rep] at rl
    obtain ⟨a, vs, rfl, z, r⟩ := rl
    exact ⟨a, rfl, ⟨vs, SqT.of z⟩, p2 φ1 _ H1 Ext.refl hr1 (itOk_tup (fun φ2 H2 e => SqT.of (e.tups _ _ z)) r)⟩
  · refine (pi_list (tg := tg) h).run pins s σ H R I ⟨φ, ms, mh, hr, hs, ?_⟩
    cases er : f ms mh with
    | bad => rw [er] at q; exact q
    | err x h' => rw [er] at q; exact q
    | ok m0 h' =>
      intro φ1 v H1 e1 hr1 rl
      have p1 : PostI X.K W φ H ms σ (iSeqM m0 h') R := by
        have := p
        unfold iSeq at this
        rw [er] at this
        exact this
      have fin : ∀ J iv, iSeqM m0 h' = .ok iv h' → ItOk X.K φ1 H1 J iv → R J H1 := fun J iv e it => by
        rw [e] at p1
        exact p1 φ1 J H1 e1 hr1 it
      cases m0 with
      | tup xs => exact absurd ⟨xs, h', er⟩ ht
      | tmp xs =>
        rw [Rep] at rl
        obtain ⟨a, vs, rfl, z, n, r⟩ := rl
        exact ⟨a, rfl, ⟨vs, SqL.of z⟩, fin _ _ rfl (itOk_list (fun φ2 H2 e => SqL.of (e.keep _ _ z fun y => n (.inl y))) r)⟩
      | ro xs =>
        rw [Rep] at rl
        obtain ⟨a, vs, rfl, z, r⟩ := rl
        exact ⟨a, rfl, ⟨vs, z.sq⟩, fin _ _ rfl (itOk_list (fun φ2 H2 e => (SqF.ext e z).sq) r)⟩
      | loc n =>
        have fn : ∀ xs, h'[n]? = some (.lst xs) → iSeqM (.loc n) h' = .ok (.at_ n) h' := fun xs hx => by simp [iSeqM, hx]
        cases hx : h'[n]? with
        | none => simp [iSeqM, hx] at p1; exact p1.elim
        | some o =>
          cases o with
          | lst xs =>
            obtain ⟨a, vs, rfl, ha, z, r⟩ := rl.lst hr1 hx
            exact ⟨a, rfl, ⟨vs, SqL.of z⟩, fin _ _ (fn xs hx) ⟨a, ha, rfl⟩⟩
          | dk _ => simp [iSeqM, hx] at p1; exact p1.elim
          | dt _ => simp [iSeqM, hx] at p1; exact p1.elim
      | _ => exact p1.elim
theorem si_range1 (hg : Gl X "range") (hm : X.mg "range" = none) (ha : SA X W [a] fas) (hs : starEach [a] X.env = [(false, eval a X.env)] := by rfl) : SI X W tg (.Call (.Name "range" p) [a] [] pos) (iRange1 fas) := by
  refine (pi_range1 hg hm ha hs).imp fun σ H Q h => ?_
  obtain ⟨φ, ms, mh, hr, hs, p⟩ := h
  refine ⟨φ, ms, mh, hr, hs, (PostI.bind (rel := Reps X.K) hs p).mono fun v H1 q => ?_⟩
  obtain ⟨φ1, m, h1, hr1, hs1, rl, e1, p1⟩ := q
  split at p1
  · rename_i j
    split at p1
    · rename_i hc
      obtain ⟨v1, rfl, r1⟩ := rl.one
      rw [Rep] at r1
      subst r1
      simp only [cR, Bool.and_eq_true, decide_eq_true_eq] at hc
      exact ⟨j, rfl, hc.1, hc.2, p1 φ1 _ H1 Ext.refl hr1 itOk_range⟩
    · exact p1.elim
  · exact p1.elim
theorem si_range2 (hg : Gl X "range") (hm : X.mg "range" = none) (ha : SA X W [a, b] fas) (hs : starEach [a, b] X.env = [(false, eval a X.env), (false, eval b X.env)] := by rfl) (hs2 : starEach [b] X.env = [(false, eval b X.env)] := by rfl) :
    SI X W tg (.Call (.Name "range" p) [a, b] [] pos) (iRange2 fas) := by
  refine (pi_range2 hg hm ha hs hs2).imp fun σ H Q h => ?_
  obtain ⟨φ, ms, mh, hr, hs, p⟩ := h
  refine ⟨φ, ms, mh, hr, hs, (PostI.bind (rel := Reps X.K) hs p).mono fun v H1 q => ?_⟩
  obtain ⟨φ1, m, h1, hr1, hs1, rl, e1, p1⟩ := q
  split at p1
  · rename_i i j
    split at p1
    · rename_i hc
      obtain ⟨v1, v2, rfl, r1, r2⟩ := rl.two
      rw [Rep] at r1 r2
      subst r1; subst r2
      simp only [cR, Bool.and_eq_true, decide_eq_true_eq] at hc
      exact ⟨i, j, rfl, ⟨hc.1.1, hc.1.2, hc.2.1, hc.2.2⟩, p1 φ1 _ H1 Ext.refl hr1 itOk_range⟩
    · exact p1.elim
  · exact p1.elim
end

/-! ### for -/
/-- a turn, then the rest -/
def turn (g : MG) (body : MX) (k : MS → MH → RS) (x : M) (ms : MS) (h : MH) : RS := match g x ms h with
  | .ok ms1 h1 => match body ms1 h1 with
    | .nx ms2 h2 => k ms2 h2
    | .ct ms2 h2 => k ms2 h2
    | .bk ms2 h2 => .nx ms2 h2
    | r => r
  | _ => .bad
def forV (g : MG) (body : MX) : List M → MS → MH → RS
  | [], ms, h => .nx ms h
  | x :: xs, ms, h => turn g body (forV g body xs) x ms h
def forN (g : MG) (body : MX) (n : Nat) : Nat → Nat → MS → MH → RS
  | 0, _, _, _ => .bad
  | k + 1, i, ms, h => match h[n]? with
    | some (.lst ys) => match ys[i]? with
      | some x => turn g body (forN g body n k (i + 1)) x ms h
      | none => .nx ms h
    | _ => .bad
def xFor (fi : MI) (g : MG) (body : MX) : MX := fun ms h => xOf (fi ms h) ms fun iv h' => match iv with
  | .vals xs => forV g body xs ms h'
  | .at_ n => forN g body n 16777217 0 ms h'
section
variable {X : Cx} {W : WM} {pos p p2 : Pos} {tg iter a b c e : Expr} {es : List Expr} {f ff : ME} {fas : MA} {vs : List Nat}
/-- one turn of the layer's loop from the mirror's -/
theorem turn_post {K : PySem.W.Frag} {g : MG} {body : MX} {k : MS → MH → RS} {φ : Ph} {H : Hp} {mh : MH} {ms : MS} {σ : L2.St} {m : M} {x : V} {D : Ends} {N : L2.St → Hp → Prop}
    (hr : HR K φ mh H) (hs : SR K φ H ms σ) (rx : Rep K φ H m x) (p : PostS K W φ H (turn g body k m ms mh) D)
    (hN : ∀ φ2 σ2 H2 ms2 h2, Ext φ H φ2 H2 → HR K φ2 h2 H2 → SR K φ2 H2 ms2 σ2 → PostS K W φ2 H2 (k ms2 h2) D → N σ2 H2) :
    rdG K vs g x σ H fun σ2 H2 => rdS K W body { D with nx := N, ct := N, bk := D.nx } σ2 H2 := by
  refine ⟨φ, m, ms, mh, hr, hs, rx, ?_⟩
  unfold turn at p
  generalize g m ms mh = r at p
  cases r with
  | ok ms1 h1 =>
    refine fun φ1 σ1 H1 e1 hr1 hs1 _ => ⟨φ1, ms1, h1, hr1, hs1, ?_⟩
    have p1 : PostS K W φ1 H1 (match body ms1 h1 with
      | .nx ms2 h2 => k ms2 h2
      | .ct ms2 h2 => k ms2 h2
      | .bk ms2 h2 => .nx ms2 h2
      | r => r) D := PostS.ext e1 p
    generalize body ms1 h1 = r2 at p1
    cases r2 with
    | nx ms2 h2 => exact fun φ2 σ2 H2 e2 hr2 hs2 => hN φ2 σ2 H2 ms2 h2 (e1.trans e2) hr2 hs2 (PostS.ext e2 p1)
    | ct ms2 h2 => exact fun φ2 σ2 H2 e2 hr2 hs2 => hN φ2 σ2 H2 ms2 h2 (e1.trans e2) hr2 hs2 (PostS.ext e2 p1)
    | bk ms2 h2 => exact fun φ2 σ2 H2 e2 hr2 hs2 => p1 φ2 σ2 H2 e2 hr2 hs2
    | rt v h2 => exact p1
    | er x m2 h2 => exact p1
    | bad => exact p1
  | err _ _ => exact p.elim
  | bad => exact p.elim
theorem ss_for {fi : MI} {g : MG} {body : List Stmt} {xb : MX} (gd : Gd X W) (hi : SI X W tg iter fi) (hg : SG X vs tg g) (hb : SSs X W body xb)
    (hs : ∀ x, foldedSetIterable iter X.env x = pure x := by intro _; rfl) : SS X W (.For tg iter body [] pos) (xFor fi g xb) := by
  refine (ps_for gd.po gd.calm hi hg hb hs).imp fun D σ H h => ?_
  obtain ⟨φ, ms, mh, hr, hs, p⟩ := h
  refine ⟨φ, ms, mh, hr, hs, ?_⟩
  unfold xFor at p
  generalize fi ms mh = r at p
  cases r with
  | err x h1 => exact fun φ' H' e hr' sr => p φ' σ H' e hr' sr
  | bad => exact p
  | ok iv h1 =>
    intro φ1 J H1 e1 hr1 it
    cases iv with
    | vals xs =>
      have p1 : PostS X.K W φ1 H1 (forV g xb xs ms h1) D := PostS.ext e1 p
      refine ⟨fun i m σ H => ∃ φ ms mh, Ext φ1 H1 φ H ∧ HR X.K φ mh H ∧ SR X.K φ H ms σ ∧ i + m = xs.length ∧ PostS X.K W φ H (forV g xb (xs.drop i) ms mh) D, ⟨xs.length, φ1, ms, h1, Ext.refl, hr1, hs.ext e1, by omega, by simpa using p1⟩, ?_⟩
      rintro i m σ2 H2 ⟨φ2, ms2, mh2, e2, hr2, hs2, hm, p2⟩
      obtain ⟨i1, i2⟩ := it i φ2 H2 mh2 e2.toExtW hr2
      by_cases hlt : i < xs.length
      · have hx : xs[i]? = some xs[i] := List.getElem?_eq_getElem hlt
        obtain ⟨go, yl⟩ := i1 _ hx
        rw [List.drop_eq_getElem_cons hlt, forV] at p2
        refine .inr ⟨go, fun σ H => ∃ φ ms mh, Ext φ1 H1 φ H ∧ HR X.K φ mh H ∧ SR X.K φ H ms σ ∧ (i + 1) + (m - 1) = xs.length ∧ PostS X.K W φ H (forV g xb (xs.drop (i + 1)) ms mh) D, fun σ' H' n => ⟨m - 1, by omega, n⟩, fun x H' y => ?_⟩
        obtain ⟨e3, hr3, rx⟩ := yl x H' y
        refine turn_post hr3 (hs2.ext e3) rx (PostS.ext e3 p2) fun φ4 σ4 H4 ms4 h4 e4 hr4 hs4 p4 => ?_
        exact ⟨φ4, ms4, h4, e2.trans (e3.trans e4), hr4, hs4, by omega, p4⟩
      · refine .inl ⟨i2 (by omega), ?_⟩
        rw [List.drop_eq_nil_of_le (by omega), forV] at p2
        exact p2.nx_here hr2 hs2
    | at_ n =>
      have p1 : PostS X.K W φ1 H1 (forN g xb n 16777217 0 ms h1) D := PostS.ext e1 p
      obtain ⟨a, ha, rfl⟩ := it
      refine ⟨fun i m σ H => ∃ φ ms mh, Ext φ1 H1 φ H ∧ HR X.K φ mh H ∧ SR X.K φ H ms σ ∧ PostS X.K W φ H (forN g xb n m i ms mh) D, ⟨16777217, φ1, ms, h1, Ext.refl, hr1, hs.ext e1, p1⟩, ?_⟩
      rintro i m σ2 H2 ⟨φ2, ms2, mh2, e2, hr2, hs2, p2⟩
      cases m with
      | zero => exact p2.elim
      | succ k =>
        unfold forN at p2
        split at p2
        · rename_i ys hy
          obtain ⟨vs', q, r⟩ := hr2.obj n _ a hy (e2.at_ ha)
          split at p2
          · rename_i x hx
            obtain ⟨v, hv, rv⟩ := Reps.get r hx
            refine .inr ⟨⟨vs', v, SqL.of q, hv⟩, fun σ H => ∃ φ ms mh, Ext φ1 H1 φ H ∧ HR X.K φ mh H ∧ SR X.K φ H ms σ ∧ PostS X.K W φ H (forN g xb n k (i + 1) ms mh) D, fun σ' H' n => ⟨k, by omega, n⟩, fun y H' hy => ?_⟩
            obtain ⟨rfl, hy⟩ := hy
            have := hy vs' (SqL.of q)
            rw [hv] at this; cases this
            refine turn_post hr2 hs2 rv p2 fun φ4 σ4 H4 ms4 h4 e4 hr4 hs4 p4 => ?_
            exact ⟨φ4, ms4, h4, e2.trans e4, hr4, hs4, p4⟩
          · rename_i hx
            refine .inl ⟨⟨vs', SqL.of q, ?_⟩, p2.nx_here hr2 hs2⟩
            rw [← r.length]
            exact List.getElem?_eq_none_iff.mp hx
        · exact p2.elim

/-! ### while -/
def whileF (t : MT) (body : MX) : Nat → MS → MH → RS
  | 0, _, _ => .bad
  | k + 1, ms, h => xOf (t ms h) ms fun b h1 => if b = true then (match body ms h1 with
    | .nx ms2 h2 => whileF t body k ms2 h2
    | .ct ms2 h2 => whileF t body k ms2 h2
    | .bk ms2 h2 => .nx ms2 h2
    | r => r) else .nx ms h1
def xWhile (fuel : Nat) (t : MT) (body : MX) : MX := fun ms h => whileF t body fuel ms h
theorem ss_while {t : MT} {body : List Stmt} {xb : MX} (fuel : Nat) (gd : Gd X W) (hc : ST X W c t) (hb : SSs X W body xb) : SS X W (.While c body [] pos) (xWhile fuel t xb) := by
  refine (ps_while gd.po hc hb).imp fun D σ H h => ?_
  obtain ⟨φ, ms, mh, hr, hs, p⟩ := h
  refine ⟨fun m σ H => ∃ φ ms mh, HR X.K φ mh H ∧ SR X.K φ H ms σ ∧ PostS X.K W φ H (whileF t xb m ms mh) D, ⟨fuel, φ, ms, mh, hr, hs, p⟩, ?_⟩
  rintro m σ2 H2 ⟨φ2, ms2, mh2, hr2, hs2, p2⟩
  cases m with
  | zero => exact p2.elim
  | succ k =>
    unfold whileF at p2
    refine ⟨φ2, ms2, mh2, hr2, hs2, (xOf_post hs2 p2).mono fun v H3 q => ?_⟩
    obtain ⟨φ3, b, h3, hr3, hs3, rl, e3, p3⟩ := q
    obtain rfl : b = v := rl
    cases b with
    | false =>
      rw [if_neg Bool.false_ne_true] at p3 ⊢
      exact p3.nx_here hr3 hs3
    | true =>
      rw [if_pos rfl] at p3 ⊢
      refine ⟨fun σ H => ∃ φ ms mh, HR X.K φ mh H ∧ SR X.K φ H ms σ ∧ PostS X.K W φ H (whileF t xb k ms mh) D, fun σ' H' n => ⟨k, by omega, n⟩, φ3, ms2, h3, hr3, hs3, ?_⟩
      generalize xb ms2 h3 = r2 at p3
      cases r2 with
      | nx ms4 h4 => exact fun φ4 σ4 H4 e4 hr4 hs4 => ⟨φ4, ms4, h4, hr4, hs4, PostS.ext e4 p3⟩
      | ct ms4 h4 => exact fun φ4 σ4 H4 e4 hr4 hs4 => ⟨φ4, ms4, h4, hr4, hs4, PostS.ext e4 p3⟩
      | bk ms4 h4 => exact p3
      | rt v h4 => exact p3
      | er x m4 h4 => exact p3
      | bad => exact p3
end
end Tb

set_option Elab.async false
set_option linter.all false
set_option maxRecDepth 100000
namespace Tb
open PySem PySem.Spec PyProof.Rows L2

/-! ### comprehensions -/
def lcTurn (g : MG) (tt : MT) (te : ME) (ms : MS) (k : MH → R (List M)) (x : M) (h : MH) : R (List M) := match g x ms h with
  | .ok ms1 h1 => match tt ms1 h1 with
    | .ok true h2 => match te ms1 h2 with
      | .ok y h3 => match k h3 with
        | .ok ys h4 => .ok (y :: ys) h4
        | _ => .bad
      | _ => .bad
    | .ok false h2 => k h2
    | _ => .bad
  | _ => .bad
def lcV (g : MG) (tt : MT) (te : ME) (ms : MS) : List M → MH → R (List M)
  | [], h => .ok [] h
  | x :: xs, h => lcTurn g tt te ms (lcV g tt te ms xs) x h
def lcN (g : MG) (tt : MT) (te : ME) (ms : MS) (n : Nat) : Nat → Nat → MH → R (List M)
  | 0, _, _ => .bad
  | k + 1, i, h => match h[n]? with
    | some (.lst ys) => match ys[i]? with
      | some x => lcTurn g tt te ms (lcN g tt te ms n k (i + 1)) x h
      | none => .ok [] h
    | _ => .bad
def wipeM (ms : MS) : List Nat → MS
  | [] => ms
  | v :: vs => (wipeM ms vs).set v none
def lcRun (g : MG) (tt : MT) (te : ME) (ms : MS) (iv : IV) (h : MH) : R (List M) := match iv with
  | .vals xs => lcV g tt te ms xs h
  | .at_ n => lcN g tt te ms n 16777217 0 h
def mLc (bx : Bool) (fi : MI) (g : MG) (tt : MT) (te : ME) (vs : List Nat) : ME := fun ms mh => (fi ms mh).bind fun iv h =>
  match lcRun g tt te (wipeM ms vs) iv h with
  | .ok ys h' => if ys.length ≤ LIM then mkL bx ys h' else .bad
  | _ => .bad
def ttYes : MT := fun _ h => .ok true h
section
variable {K : PySem.W.Frag} {W : WM} {φ φ' : Ph} {H H' : Hp} {mh : MH} {ms : MS} {σ : L2.St}
/-- a held list is no one's -/
theorem Ext.hold {D : Addr} {u : HO} (hp : H D = none) : ∀ {m : M} {v : V}, Rep K φ H m v → Rep K (φ.hold D) (upd H D u) m v
  | .non, _, h => by rw [Rep] at h ⊢; exact h
  | .bl _, _, h => by rw [Rep] at h ⊢; exact h
  | .int _, _, h => by rw [Rep] at h ⊢; exact h
  | .str _, _, h => by rw [Rep] at h ⊢; exact h
  | .ty _, _, h => by rw [Rep] at h ⊢; exact h
  | .tup xs, _, h => by
    rw [Rep] at h ⊢
    obtain ⟨a, vs, rfl, q, r⟩ := h
    exact ⟨a, vs, rfl, by rw [upd_ne (ne_of_none q hp)]; exact q, all xs r⟩
  | .ro xs, _, h => by
    rw [Rep] at h ⊢
    obtain ⟨a, vs, rfl, q, r⟩ := h
    exact ⟨a, vs, rfl, SqF.ext (Ext.new (φ := φ) hp).toExtW q, all xs r⟩
  | .tmp xs, _, h => by
    rw [Rep] at h ⊢
    obtain ⟨a, vs, rfl, q, n, r⟩ := h
    have hne : a ≠ D := ne_of_none q hp
    refine ⟨a, vs, rfl, by rw [upd_ne hne]; exact q, fun z => ?_, all xs r⟩
    rcases z with z | z
    · exact n (.inl z)
    · rcases List.mem_cons.mp z with z | z
      · exact hne z
      · exact n (.inr z)
  | .loc n, _, h => by
    rw [Rep] at h ⊢
    exact h
where all : ∀ (xs : List M) {vs : List V}, Reps K φ H xs vs → Reps K (φ.hold D) (upd H D u) xs vs
  | [], _, h => by rw [Reps] at h ⊢; exact h
  | x :: xs, _, h => by
    rw [Reps] at h ⊢
    obtain ⟨v, r, rfl, h1, h2⟩ := h
    exact ⟨v, r, rfl, Ext.hold hp h1, all xs h2⟩
end
/-! φ where D is held no longer: left alone, or at the next place -/
mutual
theorem Rep.drop {K : PySem.W.Frag} {φ : Ph} {H : Hp} {D : Addr} : ∀ {m : M} {v : V}, Rep K (φ.hold D) H m v → Rep K φ H m v
  | .non, _, h => by rw [Rep] at h ⊢; exact h
  | .bl _, _, h => by rw [Rep] at h ⊢; exact h
  | .int _, _, h => by rw [Rep] at h ⊢; exact h
  | .str _, _, h => by rw [Rep] at h ⊢; exact h
  | .ty _, _, h => by rw [Rep] at h ⊢; exact h
  | .tup xs, _, h => by
    rw [Rep] at h ⊢
    obtain ⟨a, vs, rfl, q, r⟩ := h
    exact ⟨a, vs, rfl, q, Reps.dropH r⟩
  | .ro xs, _, h => by
    rw [Rep] at h ⊢
    obtain ⟨a, vs, rfl, q, r⟩ := h
    exact ⟨a, vs, rfl, q, Reps.dropH r⟩
  | .tmp xs, _, h => by
    rw [Rep] at h ⊢
    obtain ⟨a, vs, rfl, q, n, r⟩ := h
    refine ⟨a, vs, rfl, q, fun z => n ?_, Reps.dropH r⟩
    rcases z with z | z
    · exact .inl z
    · exact .inr (List.mem_cons_of_mem _ z)
  | .loc n, _, h => by rw [Rep] at h ⊢; exact h
theorem Reps.dropH {K : PySem.W.Frag} {φ : Ph} {H : Hp} {D : Addr} : ∀ {xs : List M} {vs : List V}, Reps K (φ.hold D) H xs vs → Reps K φ H xs vs
  | [], _, h => by rw [Reps] at h ⊢; exact h
  | x :: xs, _, h => by
    rw [Reps] at h ⊢
    obtain ⟨v, r, rfl, h1, h2⟩ := h
    exact ⟨v, r, rfl, Rep.drop h1, Reps.dropH h2⟩
end
mutual
theorem Rep.adopt {K : PySem.W.Frag} {φ : Ph} {H : Hp} {D : Addr} : ∀ {m : M} {v : V}, Rep K (φ.hold D) H m v → Rep K (φ.add D) H m v
  | .non, _, h => by rw [Rep] at h ⊢; exact h
  | .bl _, _, h => by rw [Rep] at h ⊢; exact h
  | .int _, _, h => by rw [Rep] at h ⊢; exact h
  | .str _, _, h => by rw [Rep] at h ⊢; exact h
  | .ty _, _, h => by rw [Rep] at h ⊢; exact h
  | .tup xs, _, h => by
    rw [Rep] at h ⊢
    obtain ⟨a, vs, rfl, q, r⟩ := h
    exact ⟨a, vs, rfl, q, Reps.adopt r⟩
  | .ro xs, _, h => by
    rw [Rep] at h ⊢
    obtain ⟨a, vs, rfl, q, r⟩ := h
    exact ⟨a, vs, rfl, q, Reps.adopt r⟩
  | .tmp xs, _, h => by
    rw [Rep] at h ⊢
    obtain ⟨a, vs, rfl, q, n, r⟩ := h
    refine ⟨a, vs, rfl, q, fun z => n ?_, Reps.adopt r⟩
    rcases z with z | z
    · rcases List.mem_append.mp z with z | z
      · exact .inl z
      · exact .inr (by rw [List.mem_singleton.mp z]; exact List.mem_cons_self)
    · exact .inr (List.mem_cons_of_mem _ z)
  | .loc n, _, h => by
    rw [Rep] at h ⊢
    obtain ⟨a, rfl, q⟩ := h
    have q : φ.ls[n]? = some a := q
    obtain ⟨hl, _⟩ := List.getElem?_eq_some_iff.mp q
    exact ⟨a, rfl, by
      show (φ.ls ++ [D])[n]? = some a
      rw [List.getElem?_append_left hl]; exact q⟩
theorem Reps.adopt {K : PySem.W.Frag} {φ : Ph} {H : Hp} {D : Addr} : ∀ {xs : List M} {vs : List V}, Reps K (φ.hold D) H xs vs → Reps K (φ.add D) H xs vs
  | [], _, h => by rw [Reps] at h ⊢; exact h
  | x :: xs, _, h => by
    rw [Reps] at h ⊢
    obtain ⟨v, r, rfl, h1, h2⟩ := h
    exact ⟨v, r, rfl, Rep.adopt h1, Reps.adopt h2⟩
end
section
variable {K : PySem.W.Frag} {W : WM} {φ φ' φ2 : Ph} {H H' H2 : Hp} {mh : MH} {ms : MS} {σ : L2.St} {D : Addr}
theorem OR.map {φ φ' : Ph} {H H' : Hp} (f : ∀ m v, Rep K φ H m v → Rep K φ' H' m v) {o : O} {a : Addr} (s : H' a = H a) (h : OR K φ H o a) : OR K φ' H' o a := by
  cases o with
  | lst xs => obtain ⟨vs, q, r⟩ := h; exact ⟨vs, s.trans q, Reps.iff.mpr (Paired.mapP (Reps.iff.mp r) f)⟩
  | dk kvs => obtain ⟨vs, q, r⟩ := h; exact ⟨vs, s.trans q, Paired.mapP r fun _ _ z => ⟨z.1, f _ _ z.2⟩⟩
  | dt kvs => obtain ⟨vs, q, r⟩ := h; exact ⟨vs, s.trans q, Paired.mapP r fun _ _ z => ⟨z.1, f _ _ z.2⟩⟩
theorem HR.hold {u : HO} (hr : HR K φ mh H) (hp : H D = none) : HR K (φ.hold D) mh (upd H D u) := by
  refine ⟨hr.len, hr.nd, fun i o a h1 h2 => ?_, fun a ha => ?_⟩
  · refine (hr.obj i o a h1 h2).map (fun _ _ => Ext.hold hp) ?_
    obtain ⟨v, e, _⟩ := (hr.obj i o a h1 h2).some
    rw [upd_ne (ne_of_none e hp)]
  · rcases List.mem_cons.mp ha with rfl | ha
    · exact ⟨u, upd_same⟩
    · obtain ⟨o, e⟩ := hr.res a ha
      exact ⟨o, by rw [upd_ne (ne_of_none e hp)]; exact e⟩
theorem SR.map {φ φ' : Ph} {H H' : Hp} (f : ∀ m v, Rep K φ H m v → Rep K φ' H' m v) (h : SR K φ H ms σ) : SR K φ' H' ms σ := ⟨h.len, fun i m e => let ⟨v, a, b⟩ := h.at_ i m e; ⟨v, a, f m v b⟩⟩
theorem HR.drop (hr : HR K (φ.hold D) mh H) : HR K φ mh H := ⟨hr.len, hr.nd, fun i o a h1 h2 => (hr.obj i o a h1 h2).map (fun _ _ => Rep.drop) rfl, fun a ha => hr.res a (List.mem_cons_of_mem _ ha)⟩
theorem HR.adopt {o : O} (hr : HR K (φ.hold D) mh H) (hn : D ∉ φ.ls) (ho : OR K (φ.add D) H o D) : HR K (φ.add D) (mh ++ [o]) H := by
  refine ⟨by simp [Ph.add]; exact hr.len, ?_, fun i o' a h1 h2 => ?_, fun a ha => hr.res a (List.mem_cons_of_mem _ ha)⟩
  · show (φ.ls ++ [D]).Nodup
    rw [List.nodup_append]
    refine ⟨hr.nd, by simp, fun x hx y hy => ?_⟩
    rw [List.mem_singleton.mp hy]
    rintro rfl
    exact hn hx
  · have h2 : (φ.ls ++ [D])[i]? = some a := h2
    have hl : φ.ls.length = mh.length := hr.len
    by_cases hi : i < mh.length
    · rw [List.getElem?_append_left hi] at h1
      rw [List.getElem?_append_left (by rw [hl]; exact hi)] at h2
      exact (hr.obj i o' a h1 h2).map (fun _ _ => Rep.adopt) rfl
    · obtain ⟨h3, _⟩ := List.getElem?_eq_some_iff.mp h1
      simp only [List.length_append, List.length_cons, List.length_nil] at h3
      have e : i = mh.length := by omega
      subst e
      rw [List.getElem?_append_right (Nat.le_refl _)] at h1
      rw [← hl, List.getElem?_append_right (Nat.le_refl _)] at h2
      simp at h1 h2
      subst h1; subst h2
      exact ho
/-- a held list is written on -/
theorem Rep.redo {u : HO} {xs : List V} (hD : H D = some (.lst xs)) (hm : φ.Has D) : ∀ {m : M} {v : V}, Rep K φ H m v → Rep K φ (upd H D u) m v
  | .non, _, h => by rw [Rep] at h ⊢; exact h
  | .bl _, _, h => by rw [Rep] at h ⊢; exact h
  | .int _, _, h => by rw [Rep] at h ⊢; exact h
  | .str _, _, h => by rw [Rep] at h ⊢; exact h
  | .ty _, _, h => by rw [Rep] at h ⊢; exact h
  | .tup xs, _, h => by
    rw [Rep] at h ⊢
    obtain ⟨a, vs, rfl, q, r⟩ := h
    have hne : a ≠ D := by rintro rfl; rw [hD] at q; cases q
    exact ⟨a, vs, rfl, by rw [upd_ne hne]; exact q, all xs r⟩
  | .ro xs, _, h => by
    rw [Rep] at h ⊢
    obtain ⟨a, vs, rfl, q, r⟩ := h
    refine ⟨a, vs, rfl, ?_, all xs r⟩
    rcases q with ⟨o, q⟩ | q
    · have hne : a ≠ D := by rintro rfl; rw [hD] at q; cases q
      exact .inl ⟨o, by rw [upd_ne hne]; exact q⟩
    · exact .inr q
  | .tmp xs, _, h => by
    rw [Rep] at h ⊢
    obtain ⟨a, vs, rfl, q, n, r⟩ := h
    have hne : a ≠ D := by rintro rfl; exact n hm
    exact ⟨a, vs, rfl, by rw [upd_ne hne]; exact q, n, all xs r⟩
  | .loc n, _, h => by
    rw [Rep] at h ⊢
    exact h
where all : ∀ (xs : List M) {vs : List V}, Reps K φ H xs vs → Reps K φ (upd H D u) xs vs
  | [], _, h => by rw [Reps] at h ⊢; exact h
  | x :: xs, _, h => by
    rw [Reps] at h ⊢
    obtain ⟨v, r, rfl, h1, h2⟩ := h
    exact ⟨v, r, rfl, Rep.redo hD hm h1, all xs h2⟩
theorem HR.redo {u : HO} {xs : List V} (hD : H D = some (.lst xs)) (hm : D ∈ φ.rs) (hn : D ∉ φ.ls) (hr : HR K φ mh H) : HR K φ mh (upd H D u) := by
  refine ⟨hr.len, hr.nd, fun i o a h1 h2 => (hr.obj i o a h1 h2).map (fun _ _ => Rep.redo hD (.inr hm)) (upd_ne ?_), fun a ha => ?_⟩
  · rintro rfl; exact hn (List.mem_of_getElem? h2)
  · by_cases e : a = D
    · exact ⟨u, by rw [e, upd_same]⟩
    · obtain ⟨o, q⟩ := hr.res a ha
      exact ⟨o, by rw [upd_ne e]; exact q⟩
/-- a step in the held state, seen without it -/
theorem Ext.of_hold (e : Ext (φ.hold D) H φ2 H2) : ∃ φ3 : Ph, φ2 = φ3.hold D ∧ Ext φ H φ3 H2 := by
  refine ⟨⟨φ2.ls, φ.rs⟩, ?_, Ext.mk' e.pre rfl e.keep e.there e.tups e.frzs⟩
  have := e.rs
  show φ2 = ⟨φ2.ls, D :: φ.rs⟩
  rw [← (show φ2.rs = D :: φ.rs from this)]
theorem ExtW.hold {φ1 : Ph} {H1 : Hp} (hp : H1 D = none) (e : ExtW φ1 H1 φ H) : ExtW φ1 H1 (φ.hold D) H :=
  ⟨e.pre, fun a ha => (List.mem_cons.mp ha).elim (fun z => .inr (z ▸ hp)) (e.rsw a), e.keep, e.there, e.tups, e.frzs⟩
theorem Ext.upd_new {φ1 : Ph} {H1 : Hp} {u : HO} (hp : H1 D = none) (e : Ext φ1 H1 φ H) : Ext φ1 H1 φ (upd H D u) := by
  have ne : ∀ {a o}, H1 a = some o → a ≠ D := fun h => ne_of_none h hp
  exact Ext.mk' e.pre e.rs (fun a o h n => by rw [upd_ne (ne h)]; exact e.keep a o h n) (fun a o h => by rw [upd_ne (ne h)]; exact e.there a o h) (fun a vs h => by rw [upd_ne (ne h)]; exact e.tups a vs h)
    (fun a o x h => by rw [upd_ne (ne h)]; exact e.frzs a o x h)
theorem Ext.notin {xs : HO} (e : Ext φ H φ2 H2) (hD : H D = some xs) (hn : D ∉ φ.ls) : D ∉ φ2.ls ∧ H2 D = some xs := by
  refine ⟨fun hm => ?_, e.keep D _ hD hn⟩
  obtain ⟨new, e1, f⟩ := e.pre
  rw [e1] at hm
  rcases List.mem_append.mp hm with q | q
  · exact hn q
  · rw [f D q] at hD; cases hD
end
theorem wipe_set {σ σ2 : L2.St} {vs : List Nat} (o : Out vs (wipe σ vs) σ2) : wipe σ2 vs = wipe σ vs := by
  have key : ∀ (vs : List Nat) (τ : L2.St) (i : Nat), (wipe τ vs)[i]? = if i ∈ vs ∧ i < τ.length then some none else τ[i]? := by
    intro vs
    induction vs with
    | nil => intro τ i; simp [wipe]
    | cons v vs ih =>
      intro τ i
      rw [wipe]
      by_cases hv : v = i
      · subst hv
        by_cases hl : v < τ.length
        · rw [List.getElem?_set_self (by rw [wipe_length]; exact hl), if_pos ⟨List.mem_cons_self, hl⟩]
        · rw [if_neg (fun z => hl z.2), List.getElem?_eq_none (by rw [List.length_set, wipe_length]; omega), List.getElem?_eq_none (by omega)]
      · rw [List.getElem?_set_ne hv, ih]
        have : (i ∈ v :: vs) ↔ (i ∈ vs) := by
          rw [List.mem_cons]
          exact ⟨fun z => z.resolve_left fun e => hv e.symm, .inr⟩
        simp only [this]
  have hl : σ2.length = σ.length := by rw [o.1, wipe_length]
  refine List.ext_getElem? fun i => ?_
  rw [key vs σ2 i, key vs σ i, hl]
  by_cases hi : i ∈ vs
  · by_cases h2 : i < σ.length
    · rw [if_pos ⟨hi, h2⟩, if_pos ⟨hi, h2⟩]
    · rw [if_neg (fun z => h2 z.2), if_neg (fun z => h2 z.2), List.getElem?_eq_none (by omega), List.getElem?_eq_none (by omega)]
  · rw [if_neg (fun z => hi z.1), if_neg (fun z => hi z.1), o.2 i hi, key vs σ i, if_neg (fun z => hi z.1)]
section
variable {K : PySem.W.Frag} {W : WM} {φ φ' φ2 : Ph} {H H' H2 : Hp} {mh : MH} {ms : MS} {σ : L2.St} {D : Addr}
theorem wipeM_get : ∀ (vs : List Nat) (i : Nat) (m : M), (wipeM ms vs)[i]? = some (some m) → ms[i]? = some (some m) ∧ i ∉ vs
  | [], i, m, h => ⟨h, by simp⟩
  | v :: vs, i, m, h => by
    rw [wipeM] at h
    by_cases hv : v = i
    · subst hv
      obtain ⟨hl, _⟩ := List.getElem?_eq_some_iff.mp h
      rw [List.length_set] at hl
      rw [List.getElem?_set_self hl] at h; cases h
    · rw [List.getElem?_set_ne hv] at h
      obtain ⟨h1, h2⟩ := wipeM_get vs i m h
      exact ⟨h1, by simp only [List.mem_cons, not_or]; exact ⟨fun e => hv e.symm, h2⟩⟩
theorem wipeM_len : ∀ (vs : List Nat), (wipeM ms vs).length = ms.length
  | [] => rfl
  | v :: vs => by rw [wipeM, List.length_set, wipeM_len vs]
theorem wipe_get (σ : L2.St) : ∀ (vs : List Nat) (i : Nat), i ∉ vs → (wipe σ vs)[i]? = σ[i]?
  | [], i, _ => rfl
  | v :: vs, i, h => by
    rw [wipe, List.getElem?_set_ne (fun z => h (by rw [z]; exact List.mem_cons_self))]
    exact wipe_get σ vs i fun z => h (List.mem_cons_of_mem _ z)
theorem SR.wipe (h : SR K φ H ms σ) (vs : List Nat) : SR K φ H (wipeM ms vs) (L2.wipe σ vs) := by
  refine ⟨by rw [wipeM_len, wipe_length, h.len], fun i m e => ?_⟩
  obtain ⟨e1, e2⟩ := wipeM_get vs i m e
  obtain ⟨v, a, b⟩ := h.at_ i m e1
  exact ⟨v, by rw [wipe_get σ vs i e2]; exact a, b⟩
end
/-- a clause's tests -/
abbrev STs (X : Cx) (ifs : List Expr) (f : MT) : Prop := PTs X ifs (rdT X.K WF f)
section
variable {X : Cx} {W : WM} {pos p p2 : Pos} {tg iter elt a b c e : Expr} {es : List Expr}
theorem PTs.imp {es : List Expr} {t t' : TT} (h : PTs X es t) (i : ∀ σ H Q, t' σ H Q → t σ H Q) : PTs X es t' := ⟨fun pins s σ H Q I q => h.run pins s σ H Q I (i σ H Q q)⟩
theorem sts_nil : STs X [] ttYes := PTs.imp pts_nil fun σ H Q h => by
  obtain ⟨φ, ms, mh, hr, hs, p⟩ := h
  exact p.here hr rfl
theorem sts_one {t : MT} (h : ST X WF c t) : STs X [c] t := pts_one h
/-- the rest of a comprehension, from a turn on: acc is made already -/
def PostL (K : PySem.W.Frag) (W : WM) (bx : Bool) (φ1 : Ph) (H1 : Hp) (ms : MS) (σ : L2.St) (Q : VK) (acc : List M) (r : R (List M)) : Prop :=
  match r with
  | .ok ys h => (acc ++ ys).length ≤ LIM ∧ PostR K W (Rep K) φ1 H1 ms σ (mkL bx (acc ++ ys) h) Q
  | _ => False
/-- the state at a turn: D is the list that is being built -/
structure LcAt (K : PySem.W.Frag) (φ1 : Ph) (H1 : Hp) (D : Addr) (ms : MS) (σ : L2.St) (φ : Ph) (mh : MH) (H : Hp) (acc : List M) : Prop where
  ext : Ext φ1 H1 φ H
  out : D ∉ φ.ls
  hr : HR K (φ.hold D) mh H
  sr : SR K (φ.hold D) H ms σ
  at_ : ∃ accV, H D = some (.lst accV) ∧ Reps K (φ.hold D) H acc accV
/-- one turn -/
theorem lcTurn_post {K : PySem.W.Frag} {bx : Bool} {φ1 : Ph} {H1 : Hp} {ms₀ ms : MS} {σ₀ σ : L2.St} {Q : VK} {acc : List M} {g : MG} {tt : MT} {te : ME} {k : MH → R (List M)} {φ : Ph} {H H' : Hp} {mh : MH} {m : M} {x : V} {D : Addr} {vs : List Nat} {Nx : Hp → Prop}
    (hp : H1 D = none) (A : LcAt K φ1 H1 D ms (wipe σ vs) φ mh H acc) (e2 : Ext (φ.hold D) H (φ.hold D) H') (hr' : HR K (φ.hold D) mh H') (rx : Rep K (φ.hold D) H' m x)
    (p : PostL K W bx φ1 H1 ms₀ σ₀ Q acc (lcTurn g tt te ms k m mh))
    (hN : ∀ φ2 H2 h2 acc2, LcAt K φ1 H1 D ms (wipe σ vs) φ2 h2 H2 acc2 → PostL K W bx φ1 H1 ms₀ σ₀ Q acc2 (k h2) → Nx H2) :
    rdG K vs g x (wipe σ vs) H' fun σ2 H2 => wipe σ2 vs = wipe σ vs ∧ rdT K WF tt σ2 H2 fun b H3 =>
      if b = true then rdE K WF te σ2 H3 fun y H4 => ∃ acc, H4 D = some (.lst acc) ∧ acc.length < sizeLine ∧ Nx (upd H4 D (.lst (acc ++ [y]))) else Nx H3 := by
  obtain ⟨accV, hD, ra⟩ := A.at_
  refine ⟨φ.hold D, m, ms, mh, hr', A.sr.ext e2, rx, ?_⟩
  unfold lcTurn at p
  generalize g m ms mh = r at p
  cases r with
  | err _ _ => exact p.elim
  | bad => exact p.elim
  | ok ms1 h1 =>
    intro φ2 σ2 H2 e3 hr2 hs2 o2
    refine ⟨wipe_set o2, φ2, ms1, h1, hr2, hs2, ?_⟩
    have p : PostL K W bx φ1 H1 ms₀ σ₀ Q acc (match tt ms1 h1 with
      | .ok true h2 => (match te ms1 h2 with
        | .ok y h3 => (match k h3 with
          | .ok ys h4 => .ok (y :: ys) h4
          | _ => .bad)
        | _ => .bad)
      | .ok false h2 => k h2
      | _ => .bad) := p
    generalize tt ms1 h1 = r2 at p
    cases r2 with
    | err _ _ => exact p.elim
    | bad => exact p.elim
    | ok b h2 =>
      intro φ3 b' H3 e4 hr3 rb
      obtain rfl : b = b' := rb
      have e5 := e2.trans (e3.trans e4)
      cases b with
      | false =>
        rw [if_neg Bool.false_ne_true]
        obtain ⟨φ4, rfl, e6⟩ := e5.of_hold
        obtain ⟨n1, n2⟩ := e6.notin hD A.out
        exact hN φ4 H3 h2 acc ⟨A.ext.trans e6, n1, hr3, A.sr.ext e5, accV, n2, Reps.ext e5 ra⟩ p
      | true =>
        rw [if_pos rfl]
        refine ⟨φ3, ms1, h2, hr3, hs2.ext e4, ?_⟩
        have p : PostL K W bx φ1 H1 ms₀ σ₀ Q acc (match te ms1 h2 with
          | .ok y h3 => (match k h3 with
            | .ok ys h4 => .ok (y :: ys) h4
            | _ => .bad)
          | _ => .bad) := p
        generalize te ms1 h2 = r3 at p
        cases r3 with
        | err _ _ => exact p.elim
        | bad => exact p.elim
        | ok y h3 =>
          intro φ4 yv H4 e6 hr4 ry
          have p : PostL K W bx φ1 H1 ms₀ σ₀ Q acc (match k h3 with
            | .ok ys h4 => .ok (y :: ys) h4
            | _ => .bad) := p
          have e7 := e5.trans e6
          obtain ⟨φ5, rfl, e8⟩ := e7.of_hold
          obtain ⟨n1, n2⟩ := e8.notin hD A.out
          have hm : D ∈ (φ5.hold D).rs := List.mem_cons_self
          have fin : PostL K W bx φ1 H1 ms₀ σ₀ Q (acc ++ [y]) (k h3) ∧ acc.length < LIM := by
            generalize k h3 = r4 at p ⊢
            cases r4 with
            | err _ _ => exact p.elim
            | bad => exact p.elim
            | ok ys h4 =>
              obtain ⟨p1, p2⟩ := p
              refine ⟨⟨by simpa using p1, by simpa using p2⟩, ?_⟩
              simp only [List.length_append, List.length_cons] at p1
              omega
          refine ⟨accV, n2, by rw [LIM_eq, ← ra.length]; exact fin.2, hN φ5 _ h3 (acc ++ [y]) ⟨(A.ext.trans e8).upd_new hp, n1, hr4.redo n2 hm n1, (A.sr.ext e7).map fun _ _ => Rep.redo n2 (.inr hm), accV ++ [yv], upd_same, ?_⟩ fin.1⟩
          exact Rep.redo.all n2 (.inr hm) _ (Reps.append (Reps.ext e7 ra) (Reps.cons ry Reps.nil))
/-- the layer's reading of a comprehension, from the mirror's -/
theorem lc_rd {K : PySem.W.Frag} {bx : Bool} {fi : MI} {g : MG} {tt : MT} {te : ME} {vs : List Nat} {σ : L2.St} {H : Hp} {Q : VK} (h : rdE K W (mLc bx fi g tt te vs) σ H Q) : tLc (rdI K W fi) (rdG K vs g) (rdT K WF tt) (rdE K WF te) vs σ H Q := by
  obtain ⟨φ, ms, mh, hr, hs, p⟩ := h
  refine ⟨φ, ms, mh, hr, hs, ?_⟩
  unfold mLc at p
  generalize fi ms mh = r at p
  cases r with
  | err e h1 => exact p
  | bad => exact p
  | ok iv h1 =>
    intro φ1 J H1 e1 hr1 it D hp
    have p : PostR K W (Rep K) φ1 H1 ms σ (match lcRun g tt te (wipeM ms vs) iv h1 with
      | .ok ys h' => if ys.length ≤ LIM then mkL bx ys h' else .bad
      | _ => .bad) Q := PostR.ext e1 p
    have p : PostL K W bx φ1 H1 ms σ Q [] (lcRun g tt te (wipeM ms vs) iv h1) := by
      generalize lcRun g tt te (wipeM ms vs) iv h1 = r at p
      cases r with
      | ok ys h' =>
        have p : PostR K W (Rep K) φ1 H1 ms σ (if ys.length ≤ LIM then mkL bx ys h' else .bad) Q := p
        split at p
        · rename_i hl
          exact ⟨hl, p⟩
        · exact p.elim
      | err e h' => exact p.elim
      | bad => exact p.elim
    have hD0 : D ∉ φ1.ls := hr1.fresh hp
    have st0 : LcAt K φ1 H1 D (wipeM ms vs) (wipe σ vs) φ1 h1 (upd H1 D (.lst [])) [] :=
      ⟨Ext.upd_new hp Ext.refl, hD0, hr1.hold hp, ((hs.ext e1).wipe _).map fun _ _ => Ext.hold hp, [], upd_same, Reps.nil⟩
    have done : ∀ φ2 H2 h2 acc, LcAt K φ1 H1 D (wipeM ms vs) (wipe σ vs) φ2 h2 H2 acc → PostL K W bx φ1 H1 ms σ Q acc (.ok [] h2) → Q (.ref D) H2 := by
      intro φ2 H2 h2 acc A p
      obtain ⟨_, p⟩ := p
      rw [List.append_nil] at p
      obtain ⟨accV, hD, ra⟩ := A.at_
      cases bx with
      | false =>
        refine p φ2 _ H2 A.ext A.hr.drop ?_
        rw [Rep]
        refine ⟨D, accV, rfl, hD, fun z => ?_, Reps.dropH ra⟩
        rcases z with z | z
        · exact A.out z
        · rw [A.ext.rs] at z
          exact hr1.freshH hp (.inr z)
      | true =>
        refine p (φ2.add D) _ H2 (Ext.mk' ?_ A.ext.rs A.ext.keep A.ext.there A.ext.tups A.ext.frzs) (A.hr.adopt A.out ⟨accV, hD, Reps.adopt ra⟩) ?_
        · obtain ⟨new, a, b⟩ := A.ext.pre
          refine ⟨new ++ [D], by show φ2.ls ++ [D] = _; rw [a, List.append_assoc], fun x hx => ?_⟩
          rcases List.mem_append.mp hx with z | z
          · exact b x z
          · rw [List.mem_singleton.mp z]; exact hp
        · rw [Rep]
          refine ⟨D, rfl, ?_⟩
          have hl : φ2.ls.length = h2.length := A.hr.len
          show (φ2.ls ++ [D])[h2.length]? = some D
          rw [← hl]; simp
    cases iv with
    | vals xs =>
      refine ⟨fun i m H => ∃ φ mh acc, LcAt K φ1 H1 D (wipeM ms vs) (wipe σ vs) φ mh H acc ∧ i + m = xs.length ∧ PostL K W bx φ1 H1 ms σ Q acc (lcV g tt te (wipeM ms vs) (xs.drop i) mh),
        ⟨xs.length, φ1, h1, [], st0, by omega, by simpa [lcRun] using p⟩, ?_⟩
      rintro i m H2 ⟨φ2, mh2, acc, A, hm, p2⟩
      obtain ⟨i1, i2⟩ := it i (φ2.hold D) H2 mh2 (A.ext.toExtW.hold hp) A.hr
      by_cases hlt : i < xs.length
      · have hx : xs[i]? = some xs[i] := List.getElem?_eq_getElem hlt
        obtain ⟨go, yl⟩ := i1 _ hx
        rw [List.drop_eq_getElem_cons hlt, lcV] at p2
        refine .inr ⟨go, fun H => ∃ φ mh acc, LcAt K φ1 H1 D (wipeM ms vs) (wipe σ vs) φ mh H acc ∧ (i + 1) + (m - 1) = xs.length ∧ PostL K W bx φ1 H1 ms σ Q acc (lcV g tt te (wipeM ms vs) (xs.drop (i + 1)) mh), fun H' n => ⟨m - 1, by omega, n⟩, fun x H' y => ?_⟩
        obtain ⟨e3, hr3, rx⟩ := yl x H' y
        exact lcTurn_post hp A e3 hr3 rx p2 fun φ4 H4 h4 acc4 A4 p4 => ⟨φ4, h4, acc4, A4, by omega, p4⟩
      · rw [List.drop_eq_nil_of_le (by omega), lcV] at p2
        exact .inl ⟨i2 (by omega), done φ2 H2 mh2 acc A p2⟩
    | at_ n =>
      obtain ⟨a, ha, rfl⟩ := it
      refine ⟨fun i m H => ∃ φ mh acc, LcAt K φ1 H1 D (wipeM ms vs) (wipe σ vs) φ mh H acc ∧ PostL K W bx φ1 H1 ms σ Q acc (lcN g tt te (wipeM ms vs) n m i mh), ⟨16777217, φ1, h1, [], st0, by simpa only [lcRun] using p⟩, ?_⟩
      rintro i m H2 ⟨φ2, mh2, acc, A, p2⟩
      cases m with
      | zero => exact p2.elim
      | succ k =>
        unfold lcN at p2
        split at p2
        · rename_i ys hy
          obtain ⟨vs', q, r⟩ := A.hr.obj n _ a hy (A.ext.toExtW.at_ ha)
          split at p2
          · rename_i x hx
            obtain ⟨v, hv, rv⟩ := Reps.get r hx
            refine .inr ⟨⟨vs', v, SqL.of q, hv⟩, fun H => ∃ φ mh acc, LcAt K φ1 H1 D (wipeM ms vs) (wipe σ vs) φ mh H acc ∧ PostL K W bx φ1 H1 ms σ Q acc (lcN g tt te (wipeM ms vs) n k (i + 1) mh), fun H' n => ⟨k, by omega, n⟩, fun y H' hy => ?_⟩
            obtain ⟨rfl, hy⟩ := hy
            have := hy vs' (SqL.of q)
            rw [hv] at this; cases this
            exact lcTurn_post hp A Ext.refl A.hr rv p2 fun φ4 H4 h4 acc4 A4 p4 => ⟨φ4, h4, acc4, A4, p4⟩
          · rename_i hx
            refine .inl ⟨⟨vs', SqL.of q, ?_⟩, done φ2 H2 mh2 acc A p2⟩
            rw [← r.length]
            exact List.getElem?_eq_none_iff.mp hx
        · exact p2.elim
/-- [elt for tg in iter if ..] -/
theorem se_lc (bx : Bool) {fi : MI} {g : MG} {tt : MT} {te : ME} {ifs : List Expr} {scope : Scope} {own : List (Str × Nat)} (gd : Gd X W) (hi : SI X W tg iter fi) (ok : BlkOk X.N X.env.scope scope own)
    (hg : ∀ (s : Shared) (H : Hp) (C : Addr) (cl : List (Str × Addr)) (fp : List Addr), SG (X.blk s H scope (compEnvC scope cl C X.env) fp) (own.map (·.2)) tg g)
    (ht : ∀ (s : Shared) (H : Hp) (C : Addr) (cl : List (Str × Addr)) (fp : List Addr), STs (X.blk s H scope (compEnvC scope cl C X.env) fp) ifs tt)
    (he : ∀ (s : Shared) (H : Hp) (C : Addr) (cl : List (Str × Addr)) (fp : List Addr), SE (X.blk s H scope (compEnvC scope cl C X.env) fp) WF elt te) (hs : ∀ x, foldedSetIterable iter X.env x = pure x := by intro _; rfl) :
    SE X W (.ListComp elt [⟨tg, iter, ifs, 0⟩] scope pos) (mLc bx fi g tt te (own.map (·.2))) :=
  (pe_lc (g := rdG X.K (own.map (·.2)) g) (tt := rdT X.K WF tt) (te := rdE X.K WF te) gd.calm gd.nd hi ok hg ht he hs).imp fun σ H Q h => lc_rd h
/-- name = [..] on one row -/
theorem ss_setLc (bx : Bool) {i : Nat} {y : Str} {py spos : Pos} {fi : MI} {g : MG} {tt : MT} {te : ME} {ifs : List Expr} {scope : Scope} {own : List (Str × Nat)} (gd : Gd X W) (hy : X.N[i]? = some y) (hyl : X.env.scope.names.lookup y = some .local)
    (hsw : swapsWith (.ListComp elt [⟨tg, iter, ifs, 0⟩] scope pos) (some (.Name y py)) spos.line X.env = pure true) (hi : SI X W tg iter fi) (ok : BlkOk X.N X.env.scope scope own)
    (hg : ∀ (s : Shared) (H : Hp) (C : Addr) (cl : List (Str × Addr)) (fp : List Addr), SG (X.blk s H scope (compEnvC scope cl C X.env) fp) (own.map (·.2)) tg g)
    (ht : ∀ (s : Shared) (H : Hp) (C : Addr) (cl : List (Str × Addr)) (fp : List Addr), STs (X.blk s H scope (compEnvC scope cl C X.env) fp) ifs tt)
    (he : ∀ (s : Shared) (H : Hp) (C : Addr) (cl : List (Str × Addr)) (fp : List Addr), SE (X.blk s H scope (compEnvC scope cl C X.env) fp) WF elt te) (hs : ∀ x, foldedSetIterable iter X.env x = pure x := by intro _; rfl) :
    SS X W (.Assign [.Name y py] (.ListComp elt [⟨tg, iter, ifs, 0⟩] scope pos) spos) (xAsg (mLc bx fi g tt te (own.map (·.2))) (gN i)) := by
  refine (ps_setLc (g := rdG X.K (own.map (·.2)) g) (tt := rdT X.K WF tt) (te := rdE X.K WF te) gd.calm gd.nd hy hyl hsw hi ok hg ht he hs).imp fun D σ H h => ?_
  refine lc_rd ((asg_post (vs := [i]) h).mono fun v H1 q => ?_)
  obtain ⟨φ, m, ms, mh, hr, hs, rl, p⟩ := q
  exact p φ _ H1 Ext.refl hr (hs.set rl) (Out.set (by simp))
end
end Tb

set_option Elab.async false
set_option linter.all false
set_option maxRecDepth 100000
namespace Tb
open PySem PySem.Spec PyProof.Rows L2

section
variable {K : PySem.W.Frag} {W : WM} {φ φ' φ2 : Ph} {H H' H2 : Hp} {mh : MH} {ms : MS} {σ : L2.St}
/-! ### len, abs, min, max, int, sum, all, any -/
def lenM (xs : List M) (h : MH) : R M := match xs with
  | [m] => match seqOf h m with
    | some ys => .ok (.int ys.length) h
    | none => .bad
  | _ => .bad
def rLenA (K : PySem.W.Frag) : List V → Hp → VK → Prop := fun xs H Q => (∃ p ys, xs = [.ref p] ∧ (SqL K H p ys ∨ SqT K H p ys) ∧ Q (.int ys.length) H)
theorem cm_len : CallM K lenM (rLenA K) := by
  intro W φ mh ms σ H xs vs Q hr hs rx p
  unfold lenM at p
  split at p
  · rename_i m
    obtain ⟨v, rfl, r⟩ := rx.one
    split at p
    · rename_i ys hy
      obtain ⟨a, us, rfl, q, r2⟩ := seq_of hr r hy
      exact ⟨a, us, rfl, q, p.here hr (by rw [Rep, r2.length])⟩
    · exact p.elim
  · exact p.elim
def absM (xs : List M) (h : MH) : R M := match xs with
  | [.int i] => .ok (.int (if i < 0 then -i else i)) h
  | _ => .bad
theorem cm_abs : CallM K absM (fun xs H Q => ∃ i, xs = [.int i] ∧ Q (.int (if i < 0 then -i else i)) H) := by
  intro W φ mh ms σ H xs vs Q hr hs rx p
  unfold absM at p
  split at p
  · rename_i i
    obtain ⟨v, rfl, r⟩ := rx.one
    rw [Rep] at r
    exact ⟨i, by rw [r], p.here hr (by rw [Rep])⟩
  · exact p.elim
def intsOf : List M → Option (List Int) := optMap fun m => match m with
  | .int i => some i
  | _ => none
def boolsOf : List M → Option (List Bool) := optMap fun m => match m with
  | .bl b => some b
  | _ => none
theorem intsOf_eq : ∀ {xs : List M} {ns : List Int}, intsOf xs = some ns → xs = ns.map M.int
  | [], ns, e => by cases e; rfl
  | x :: xs, ns, e => by
    unfold intsOf optMap at e
    split at e
    · rename_i y hy
      split at e
      · rename_i ys hys
        cases e
        split at hy
        · cases hy
          rw [intsOf_eq hys, List.map_cons]
        · cases hy
      · cases e
    · cases e
theorem intsOf_map : ∀ (ns : List Int), intsOf (ns.map M.int) = some ns
  | [] => rfl
  | n :: ns => by
    have := intsOf_map ns
    unfold intsOf at this ⊢
    rw [List.map_cons, optMap, this]
theorem boolsOf_eq : ∀ {xs : List M} {ns : List Bool}, boolsOf xs = some ns → xs = ns.map M.bl
  | [], ns, e => by cases e; rfl
  | x :: xs, ns, e => by
    unfold boolsOf optMap at e
    split at e
    · rename_i y hy
      split at e
      · rename_i ys hys
        cases e
        split at hy
        · cases hy
          rw [boolsOf_eq hys, List.map_cons]
        · cases hy
      · cases e
    · cases e
theorem boolsOf_map : ∀ (ns : List Bool), boolsOf (ns.map M.bl) = some ns
  | [] => rfl
  | n :: ns => by
    have := boolsOf_map ns
    unfold boolsOf at this ⊢
    rw [List.map_cons, optMap, this]
theorem Reps.bls : ∀ {ns : List Bool} {vs : List V}, Reps K φ H (ns.map M.bl) vs → vs = ns.map V.bl
  | [], _, h => by rw [List.map_nil, Reps] at h; subst h; rfl
  | n :: ns, _, h => by
    rw [List.map_cons, Reps] at h
    obtain ⟨v, r, rfl, h1, h2⟩ := h
    rw [Rep] at h1
    rw [h1, Reps.bls h2, List.map_cons]
/-- of one list of ints -/
def onInts (g : List Int → Option M) (xs : List M) (h : MH) : R M := match xs with
  | [m] => match lsq h m with
    | some ys => match intsOf ys with
      | some ns => match g ns with
        | some r => .ok r h
        | none => .bad
      | none => .bad
    | none => .bad
  | _ => .bad
theorem onInts_post {g : List Int → Option M} {xs : List M} {vs : List V} {Q : VK} (hr : HR K φ mh H) (rx : Reps K φ H xs vs) (p : PostR K W (Rep K) φ H ms σ (onInts g xs mh) Q) :
    ∃ a ns r, vs = [.ref a] ∧ SqL K H a (ns.map V.int) ∧ g ns = some r ∧ PostR K W (Rep K) φ H ms σ (.ok r mh) Q := by
  unfold onInts at p
  split at p
  · rename_i m
    obtain ⟨v, rfl, r⟩ := rx.one
    split at p
    · rename_i ys hy
      split at p
      · rename_i ns hn
        split at p
        · rename_i z hz
          obtain ⟨a, us, rfl, q, r2⟩ := lsq_of hr r hy
          rw [intsOf_eq hn] at r2
          rw [r2.ints] at q
          exact ⟨a, ns, z, rfl, q, hz, p⟩
        · exact p.elim
      · exact p.elim
    · exact p.elim
  · exact p.elim
def sumM := onInts fun ns => some (.int ns.sum)
theorem cm_sum : CallM K sumM (rSum K) := by
  intro W φ mh ms σ H xs vs Q hr hs rx p
  obtain ⟨a, ns, r, rfl, q, e, p⟩ := onInts_post hr rx p
  cases e
  exact ⟨a, ns, rfl, q, p.here hr (by rw [Rep])⟩
def maxLM := onInts fun ns => ns.max?.map M.int
theorem cm_maxL : CallM K maxLM (rMax K) := by
  intro W φ mh ms σ H xs vs Q hr hs rx p
  obtain ⟨a, ns, r, rfl, q, e, p⟩ := onInts_post hr rx p
  obtain ⟨k, hk, rfl⟩ := Option.map_eq_some_iff.mp e
  have h0 : 0 < ns.length := by
    cases ns with
    | nil => cases hk
    | cons _ _ => simp
  refine ⟨a, ns, rfl, q, h0, fun m hm hb => p.here hr ?_⟩
  have : ns.max? = some m := List.max?_eq_some_iff.mpr ⟨hm, hb⟩
  rw [hk] at this; cases this
  rw [Rep]
def minLM := onInts fun ns => ns.min?.map M.int
theorem cm_minL : CallM K minLM (rMin K) := by
  intro W φ mh ms σ H xs vs Q hr hs rx p
  obtain ⟨a, ns, r, rfl, q, e, p⟩ := onInts_post hr rx p
  obtain ⟨k, hk, rfl⟩ := Option.map_eq_some_iff.mp e
  have h0 : 0 < ns.length := by
    cases ns with
    | nil => cases hk
    | cons _ _ => simp
  refine ⟨a, ns, rfl, q, h0, fun m hm hb => p.here hr ?_⟩
  have : ns.min? = some m := List.min?_eq_some_iff.mpr ⟨hm, hb⟩
  rw [hk] at this; cases this
  rw [Rep]
def max2M (xs : List M) (h : MH) : R M := match xs with
  | [.int i, .int j] => .ok (.int (if j > i then j else i)) h
  | _ => .bad
theorem cm_max2 : CallM K max2M (fun xs H Q => ∃ i j, xs = [.int i, .int j] ∧ Q (.int (if j > i then j else i)) H) := by
  intro W φ mh ms σ H xs vs Q hr hs rx p
  unfold max2M at p
  split at p
  · rename_i i j
    obtain ⟨v, w', rfl, r1, r2⟩ := rx.two
    rw [Rep] at r1 r2
    exact ⟨i, j, by rw [r1, r2], p.here hr (by rw [Rep])⟩
  · exact p.elim
def min2M (xs : List M) (h : MH) : R M := match xs with
  | [.int i, .int j] => .ok (.int (if j < i then j else i)) h
  | _ => .bad
theorem cm_min2 : CallM K min2M (fun xs H Q => ∃ i j, xs = [.int i, .int j] ∧ Q (.int (if j < i then j else i)) H) := by
  intro W φ mh ms σ H xs vs Q hr hs rx p
  unfold min2M at p
  split at p
  · rename_i i j
    obtain ⟨v, w', rfl, r1, r2⟩ := rx.two
    rw [Rep] at r1 r2
    exact ⟨i, j, by rw [r1, r2], p.here hr (by rw [Rep])⟩
  · exact p.elim
def intM (xs : List M) (h : MH) : R M := match xs with
  | [.int i] => .ok (.int i) h
  | [.bl b] => .ok (.int (if b then 1 else 0)) h
  | _ => .bad
theorem cm_int : CallM K intM (fun xs H Q => (∃ i, xs = [.int i] ∧ Q (.int i) H) ∨ ∃ k, xs = [.bl k] ∧ Q (.int (if k then 1 else 0)) H) := by
  intro W φ mh ms σ H xs vs Q hr hs rx p
  unfold intM at p
  split at p
  · rename_i i
    obtain ⟨v, rfl, r⟩ := rx.one
    rw [Rep] at r
    exact .inl ⟨i, by rw [r], p.here hr (by rw [Rep])⟩
  · rename_i b
    obtain ⟨v, rfl, r⟩ := rx.one
    rw [Rep] at r
    exact .inr ⟨b, by rw [r], p.here hr (by rw [Rep])⟩
  · exact p.elim
def onBools (g : List Bool → Bool) (xs : List M) (h : MH) : R M := match xs with
  | [m] => match lsq h m with
    | some ys => match boolsOf ys with
      | some ns => .ok (.bl (g ns)) h
      | none => .bad
    | none => .bad
  | _ => .bad
theorem onBools_post {g : List Bool → Bool} {xs : List M} {vs : List V} {Q : VK} (hr : HR K φ mh H) (rx : Reps K φ H xs vs) (p : PostR K W (Rep K) φ H ms σ (onBools g xs mh) Q) :
    ∃ a ns, vs = [.ref a] ∧ SqL K H a (ns.map V.bl) ∧ Q (.bl (g ns)) H := by
  unfold onBools at p
  split at p
  · rename_i m
    obtain ⟨v, rfl, r⟩ := rx.one
    split at p
    · rename_i ys hy
      split at p
      · rename_i ns hn
        obtain ⟨a, us, rfl, q, r2⟩ := lsq_of hr r hy
        rw [boolsOf_eq hn] at r2
        rw [r2.bls] at q
        exact ⟨a, ns, rfl, q, p.here hr (by rw [Rep])⟩
      · exact p.elim
    · exact p.elim
  · exact p.elim
def allM := onBools fun bs => bs.all id
def anyM := onBools fun bs => bs.any id
theorem cm_all : CallM K allM (rAll K) := fun W φ mh ms σ H xs vs Q hr hs rx p => onBools_post hr rx p
theorem cm_any : CallM K anyM (rAny K) := fun W φ mh ms σ H xs vs Q hr hs rx p => onBools_post hr rx p
/-! ### list(x), tuple(x) of a list or a tuple -/
def listM (bx : Bool) (xs : List M) (h : MH) : R M := match xs with
  | [m] => match seqOf h m with
    | some ys => mkL bx ys h
    | none => .bad
  | _ => .bad
theorem cm_list {bx : Bool} : CallM K (listM bx) (fun xs H Q => ∃ p ys, xs = [.ref p] ∧ (SqL K H p ys ∨ SqT K H p ys) ∧ ∀ l, H l = none → Q (.ref l) (upd H l (.lst ys))) := by
  intro W φ mh ms σ H xs vs Q hr hs rx p
  unfold listM at p
  split at p
  · rename_i m
    obtain ⟨v, rfl, r⟩ := rx.one
    split at p
    · rename_i ys hy
      obtain ⟨a, us, rfl, q, r2⟩ := seq_of hr r hy
      exact ⟨a, us, rfl, q, fun l hl => new_l hr r2 hl p⟩
    · exact p.elim
  · exact p.elim
def tupleM (xs : List M) (h : MH) : R M := match xs with
  | [.tup ys] => .ok (.tup ys) h
  | [m] => match lsq h m with
    | some ys => .ok (.tup ys) h
    | none => .bad
  | _ => .bad
theorem cm_tuple : CallM K tupleM (fun xs H Q => ∃ p ys, xs = [.ref p] ∧ ((SqL K H p ys ∧ ∀ l, H l = none → Q (.ref l) (upd H l (.tup ys))) ∨ (SqT K H p ys ∧ Q (.ref p) H))) := by
  intro W φ mh ms σ H xs vs Q hr hs rx p
  unfold tupleM at p
  split at p
  · rename_i ys
    obtain ⟨v, rfl, r⟩ := rx.one
    have r' := r
    rw [Rep] at r
    obtain ⟨a, us, rfl, q, r2⟩ := r
    exact ⟨a, us, rfl, .inr ⟨SqT.of q, p.here hr r'⟩⟩
  · rename_i m
    obtain ⟨v, rfl, r⟩ := rx.one
    split at p
    · rename_i ys hy
      obtain ⟨a, us, rfl, q, r2⟩ := lsq_of hr r hy
      exact ⟨a, us, rfl, .inl ⟨q, fun l hl => new_tup hr r2 hl p⟩⟩
    · exact p.elim
  · exact p.elim
/-! ### isinstance with a built-in class -/
def typO : Option O → Option String
  | some (.lst _) => some "list"
  | some (.dk _) => some "dict"
  | some (.dt _) => some "dict"
  | none => none
def typM (h : MH) : M → Option String
  | .non => some "NoneType"
  | .bl _ => some "bool"
  | .int _ => some "int"
  | .str _ => some "str"
  | .tup _ => some "tuple"
  | .ro _ => some "list"
  | .tmp _ => some "list"
  | .loc n => typO h[n]?
  | .ty _ => none
def isTy (a b : String) : Option Bool := if ["NoneType", "bool", "int", "str", "tuple", "list", "dict"].contains a = true ∧ ["bool", "int", "str", "tuple", "list", "dict"].contains b = true then
  some ((a == b) || (a == "bool" && b == "int")) else none
def isiM (xs : List M) (h : MH) : R M := match xs with
  | [m, .ty c] => match typM h m with
    | some t => match isTy t c with
      | some b => .ok (.bl b) h
      | none => .bad
    | none => .bad
  | _ => .bad
theorem isTy_kit {a b : String} {r : Bool} (h : isTy a b = some r) : kitB a b = some r := by
  unfold isTy at h
  split at h
  · rename_i hc
    cases h
    obtain ⟨h1, h2⟩ := hc
    simp only [List.contains_cons, List.contains_nil, Bool.or_false, Bool.or_eq_true, beq_iff_eq] at h1 h2
    have all : ∀ a ∈ ["NoneType", "bool", "int", "str", "tuple", "list", "dict"], ∀ b ∈ ["bool", "int", "str", "tuple", "list", "dict"], kitB a b = some ((a == b) || (a == "bool" && b == "int")) := by decide +kernel
    exact all a (by simpa using h1) b (by simpa using h2)
  · cases h
theorem typ_of {m : M} {v : V} {t : String} (hr : HR K φ mh H) (r : Rep K φ H m v) (e : typM mh m = some t) : TyX K H v (.type t) := by
  cases m with
  | non => cases e; rw [Rep] at r; subst r; exact .base .non
  | bl b => cases e; rw [Rep] at r; subst r; exact .base (.bl b)
  | int i => cases e; rw [Rep] at r; subst r; exact .base (.int i)
  | str x => cases e; rw [Rep] at r; subst r; exact .base (.str x)
  | tup xs =>
    cases e; rw [Rep] at r
    obtain ⟨a, vs, rfl, q, _⟩ := r
    exact .base (.tup q)
  | ro xs =>
    cases e; rw [Rep] at r
    obtain ⟨a, vs, rfl, q, _⟩ := r
    rcases q with ⟨o, q⟩ | ⟨o, its, n, q, c, _⟩
    · exact .base (.frz q)
    · exact .kList q c
  | tmp xs =>
    cases e; rw [Rep] at r
    obtain ⟨a, vs, rfl, q, _⟩ := r
    exact .base (.lst q)
  | loc n =>
    obtain ⟨a, rfl, ha⟩ := r.ref_loc
    have e2 : typO (mh[n]?) = some _ := e
    clear e
    unfold typO at e2
    split at e2
    · rename_i hx
      cases e2
      obtain ⟨vs, q, _⟩ := hr.obj n _ a hx ha
      exact .base (.lst q)
    · rename_i hx
      cases e2
      obtain ⟨vs, q, _⟩ := hr.obj n _ a hx ha
      exact .base (.dK q)
    · rename_i hx
      cases e2
      obtain ⟨vs, q, _⟩ := hr.obj n _ a hx ha
      exact .base (.dT q)
    · cases e2
  | ty n => cases e
theorem cm_isi : CallM K isiM (rIsi K) := by
  intro W φ mh ms σ H xs vs Q hr hs rx p
  unfold isiM at p
  split at p
  · rename_i m c
    obtain ⟨v, w', rfl, r1, r2⟩ := rx.two
    split at p
    · rename_i t ht
      split at p
      · rename_i b hb
        rw [Rep] at r2
        subst r2
        exact ⟨v, .ty c, .type t, .type c, b, rfl, .ty c, typ_of hr r1 ht, kit_ty (isTy_kit hb), p.here hr (by rw [Rep])⟩
      · exact p.elim
    · exact p.elim
  · exact p.elim
end

/-! ### methods -/
def MethM (K : PySem.W.Frag) (g : M → List M → MH → R M) (r : V → List V → Hp → VK → Prop) : Prop :=
  ∀ (W : WM) (φ : Ph) (mh : MH) (ms : MS) (σ : L2.St) (H : Hp) (x : M) (v : V) (xs : List M) (vs : List V) (Q : VK), HR K φ mh H → SR K φ H ms σ → Rep K φ H x v → Reps K φ H xs vs → PostR K W (Rep K) φ H ms σ (g x xs mh) Q → r v vs H Q
/-- o.m(..): the receiver is of the type already ahead of the arguments -/
def mMeth (T : String) (g : M → List M → MH → R M) (fo : ME) (fa : MA) : ME := fun ms mh => (fo ms mh).bind fun x h1 => if typM h1 x = some T then (fa ms h1).bind fun xs h2 => g x xs h2 else .bad
section
variable {X : Cx} {W : WM} {pos p p2 apos cpos : Pos} {tg iter o elt a b c e : Expr} {es : List Expr} {fo : ME} {fas : MA} {name : Str} {T id : String} {r : V → List V → Hp → VK → Prop} {g : M → List M → MH → R M}
theorem tyV_of {K : PySem.W.Frag} {φ : Ph} {H : Hp} {mh : MH} {m : M} {v : V} (hr : HR K φ mh H) (r : Rep K φ H m v) (e : typM mh m = some T) (hT : T = "list" ∨ T = "dict" ∨ T = "str") : tyV K T v H := by
  cases m with
  | non => cases e; simp at hT
  | bl b => cases e; simp at hT
  | int i => cases e; simp at hT
  | str x => cases e; rw [Rep] at r; subst r; rfl
  | tup xs => cases e; simp at hT
  | ro xs =>
    cases e; rw [Rep] at r
    obtain ⟨a, vs, rfl, q, _⟩ := r
    exact .inl ⟨rfl, vs, q.sq⟩
  | tmp xs =>
    cases e; rw [Rep] at r
    obtain ⟨a, vs, rfl, q, _⟩ := r
    exact .inl ⟨rfl, vs, SqL.of q⟩
  | loc n =>
    obtain ⟨a, rfl, ha⟩ := r.ref_loc
    have e2 : typO (mh[n]?) = some _ := e
    clear e
    unfold typO at e2
    split at e2
    · rename_i hx
      cases e2
      obtain ⟨vs, q, _⟩ := hr.obj n _ a hx ha
      exact .inl ⟨rfl, vs, SqL.of q⟩
    · rename_i hx
      cases e2
      obtain ⟨vs, q, _⟩ := hr.obj n _ a hx ha
      exact .inr (.inr (.inl ⟨rfl, .inl ⟨vs, q⟩⟩))
    · rename_i hx
      cases e2
      obtain ⟨vs, q, _⟩ := hr.obj n _ a hx ha
      exact .inr (.inr (.inl ⟨rfl, .inr ⟨vs, q⟩⟩))
    · cases e2
  | ty n => cases e
theorem se_meth (hT : T = "list" ∨ T = "dict" ∨ T = "str") (pa : PlainAttrs T) (slot : Slot T name id) (hty : typeOf (.builtin id) = pure (.type "method_descriptor")) (hm : MtR X id r) (hg : MethM X.K g r) (ho : SE X W o fo) (ha : SA X W (e :: es) fas)
    (hbase : attributeBase o name X.env (eval o X.env) = eval o X.env := by rfl)
    (hfew : ((backTo cpos (starEach (e :: es) X.env)).all (fun x => !x.1) && (backToKw cpos (keywordEach [] X.env)).all (fun x => x.1.isSome)
      && decide ((e :: es).length + ([] : List Keyword).length + (if ([] : List Keyword).isEmpty then 0 else 1) < 30)) = true := by rfl)
    (hline : (apos.endLine == cpos.line) = true := by rfl) (hs : starEach (e :: es) X.env = (false, eval e X.env) :: starEach es X.env := by rfl) (hplain : (backTo cpos (starEach es X.env)).any (·.1) = false := by rfl) :
    SE X W (.Call (.Attribute o name apos) (e :: es) [] cpos) (mMeth T g fo fas) := by
  refine (pe_bm pa slot hty hm ho ha hbase hfew hline hs hplain).imp fun σ H Q h => ?_
  refine (rdR.bind (rel2 := Rep X.K) (k := fun ms x h1 => if typM h1 x = some T then (fas ms h1).bind fun xs h2 => g x xs h2 else .bad) h).mono fun v H1 q => ?_
  obtain ⟨φ, φ1, ms, m, h1, hr, hs, rl, e, p⟩ := q
  split at p
  · rename_i ht
    refine ⟨tyV_of hr rl ht hT, φ1, ms, h1, hr, hs, (PostR.bind (rel2 := Reps X.K) hs p).mono fun us H2 q => ?_⟩
    obtain ⟨φ2, xs, h2, hr2, hs2, rl2, e2, p2⟩ := q
    exact hg W φ2 h2 ms σ H2 m v xs us Q hr2 hs2 (Rep.ext e2 rl) rl2 p2
  · exact p.elim
theorem se_meth0 (hT : T = "list" ∨ T = "dict" ∨ T = "str") (pa : PlainAttrs T) (slot : Slot T name id) (hty : typeOf (.builtin id) = pure (.type "method_descriptor")) (hm : MtR X id r) (hg : MethM X.K g r) (ho : SE X W o fo)
    (hbase : attributeBase o name X.env (eval o X.env) = eval o X.env := by rfl) (hline : (apos.endLine == cpos.line) = true := by rfl) : SE X W (.Call (.Attribute o name apos) [] [] cpos) (mMeth T g fo aNil) := by
  refine (pe_bm0 pa slot hty hm ho hbase hline).imp fun σ H Q h => ?_
  refine (rdR.bind (rel2 := Rep X.K) (k := fun ms x h1 => if typM h1 x = some T then (aNil ms h1).bind fun xs h2 => g x xs h2 else .bad) h).mono fun v H1 q => ?_
  obtain ⟨φ, φ1, ms, m, h1, hr, hs, rl, e, p⟩ := q
  split at p
  · rename_i ht
    exact ⟨tyV_of hr rl ht hT, hg W φ1 h1 ms σ H1 m v [] [] Q hr hs rl Reps.nil p⟩
  · exact p.elim
def appM (x : M) (xs : List M) (h : MH) : R M := match x, xs with
  | .loc n, [y] => match h[n]? with
    | some (.lst ys) => if ys.length < LIM then .ok .non (h.set n (.lst (ys ++ [y]))) else .bad
    | _ => .bad
  | _, _ => .bad
theorem mm_app {K : PySem.W.Frag} : MethM K appM rAppend := by
  intro W φ mh ms σ H x v xs vs Q hr hs rx rxs p
  unfold appM at p
  split at p
  · rename_i n y
    split at p
    · rename_i ys hy
      split at p
      · rename_i hl
        obtain ⟨a, us, rfl, ha, q, r⟩ := rx.lst hr hy
        obtain ⟨w', rfl, rw'⟩ := rxs.one
        exact ⟨a, us, w', rfl, rfl, q, by rw [LIM_eq, ← r.length]; exact hl, set_lst hr ha (Reps.append r (Reps.cons rw' Reps.nil)) (by rw [Rep]) p⟩
      · exact p.elim
    · exact p.elim
  · exact p.elim
def extM (x : M) (xs : List M) (h : MH) : R M := match x, xs with
  | .loc n, [y] => match h[n]?, addM.lstOf h y with
    | some (.lst ys), some zs => if ys.length + zs.length ≤ LIM then .ok .non (h.set n (.lst (ys ++ zs))) else .bad
    | _, _ => .bad
  | _, _ => .bad
theorem mm_ext {K : PySem.W.Frag} : MethM K extM rExtend := by
  intro W φ mh ms σ H x v xs vs Q hr hs rx rxs p
  unfold extM at p
  split at p
  · rename_i n y
    split at p
    · rename_i ys zs hy hz
      split at p
      · rename_i hl
        obtain ⟨a, us, rfl, ha, q, r⟩ := rx.lst hr hy
        obtain ⟨w', rfl, rw'⟩ := rxs.one
        obtain ⟨b, ws, rfl, q2, r2⟩ := lst_of hr rw' hz
        exact ⟨a, b, us, ws, rfl, rfl, q, q2, by rw [LIM_eq, ← r.length, ← r2.length]; exact hl, set_lst hr ha (Reps.append r r2) (by rw [Rep]) p⟩
      · exact p.elim
    · exact p.elim
  · exact p.elim
def popM (x : M) (xs : List M) (h : MH) : R M := match x, xs with
  | .loc n, [] => match h[n]? with
    | some (.lst ys) => match ys[ys.length - 1]? with
      | some y => .ok y (h.set n (.lst ys.dropLast))
      | none => .bad
    | _ => .bad
  | .loc n, [.int i] => match h[n]? with
    | some (.lst ys) => if -(2 ^ 63) ≤ i ∧ i < 2 ^ 63 then (match seqIndex? i ys.length with
      | some k => match ys[k]? with
        | some y => .ok y (h.set n (.lst (ys.eraseIdx k)))
        | none => .bad
      | none => .bad) else .bad
    | _ => .bad
  | _, _ => .bad
def rPopA : V → List V → Hp → VK → Prop := fun x xs H Q => rPop x xs H Q ∨ rPopAt x xs H Q
theorem mt_popA : MtR X "list.pop" rPopA := MtR.or mt_pop mt_popAt
theorem mm_pop {K : PySem.W.Frag} : MethM K popM rPopA := by
  intro W φ mh ms σ H x v xs vs Q hr hs rx rxs p
  unfold popM at p
  split at p
  · rename_i n
    split at p
    · rename_i ys hy
      split at p
      · rename_i y hl
        obtain ⟨a, us, rfl, ha, q, r⟩ := rx.lst hr hy
        rw [Reps] at rxs
        subst rxs
        obtain ⟨z, hz, rz⟩ := Reps.get r hl
        exact .inl ⟨a, us, z, rfl, rfl, q, by rw [← r.length]; exact hz, set_lst hr ha (Reps.dropLast r) rz p⟩
      · exact p.elim
    · exact p.elim
  · rename_i n i
    split at p
    · rename_i ys hy
      split at p
      · rename_i hb
        split at p
        · rename_i k hk
          split at p
          · rename_i y hl
            obtain ⟨a, us, rfl, ha, q, r⟩ := rx.lst hr hy
            obtain ⟨w', rfl, rw'⟩ := rxs.one
            rw [Rep] at rw'
            obtain ⟨z, hz, rz⟩ := Reps.get r hl
            exact .inr ⟨a, us, i, k, z, rfl, by rw [rw'], q, hb.1, hb.2, by rw [← r.length]; exact hk, hz, set_lst hr ha (Reps.eraseIdx k r) rz p⟩
          · exact p.elim
        · exact p.elim
      · exact p.elim
    · exact p.elim
  · exact p.elim
end
end Tb

set_option Elab.async false
set_option linter.all false
set_option maxRecDepth 100000
namespace Tb
open PySem PySem.Spec PyProof.Rows L2

/-! ### closed values; what is made is handed back as a value -/
mutual
def clo : M → Bool
  | .tup xs => cloL xs
  | .ro xs => cloL xs
  | .tmp xs => cloL xs
  | .loc _ => false
  | _ => true
def cloL : List M → Bool
  | [] => true
  | x :: xs => clo x && cloL xs
end
mutual
def frzM (f : Nat → Option M) : M → Option M
  | .tup xs => (frzL f xs).map .tup
  | .ro xs => (frzL f xs).map .ro
  | .tmp xs => (frzL f xs).map .tmp
  | .loc n => f n
  | .non => some .non
  | .bl b => some (.bl b)
  | .int i => some (.int i)
  | .str x => some (.str x)
  | .ty n => some (.ty n)
def frzL (f : Nat → Option M) : List M → Option (List M)
  | [] => some []
  | x :: xs => match frzM f x with
    | some y => match frzL f xs with
      | some ys => some (y :: ys)
      | none => none
    | none => none
end
def frzAt (h : MH) : Nat → Nat → Option M
  | 0, _ => none
  | k + 1, n => match h[n]? with
    | some (.lst xs) => (frzL (frzAt h k) xs).map .tmp
    | _ => none
mutual
theorem frz_clo {f : Nat → Option M} : ∀ {m : M}, clo m = true → frzM f m = some m
  | .tup xs, h => by rw [clo] at h; rw [frzM, frzL_clo h]; rfl
  | .ro xs, h => by rw [clo] at h; rw [frzM, frzL_clo h]; rfl
  | .tmp xs, h => by rw [clo] at h; rw [frzM, frzL_clo h]; rfl
  | .loc n, h => by rw [clo] at h; cases h
  | .non, _ => by rw [frzM]
  | .bl _, _ => by rw [frzM]
  | .int _, _ => by rw [frzM]
  | .str _, _ => by rw [frzM]
  | .ty _, _ => by rw [frzM]
theorem frzL_clo {f : Nat → Option M} : ∀ {xs : List M}, cloL xs = true → frzL f xs = some xs
  | [], _ => by rw [frzL]
  | x :: xs, h => by
    rw [cloL, Bool.and_eq_true] at h
    rw [frzL, frz_clo h.1, frzL_clo h.2]
end
section
variable {K : PySem.W.Frag} {φ φ' : Ph} {H H' : Hp}
mutual
/-- a closed value hangs on no place -/
theorem Rep.clo_to (hh : ∀ a, φ'.Has a → φ.Has a) : ∀ {m : M} {v : V}, clo m = true → Rep K φ H m v → Rep K φ' H m v
  | .non, _, _, h => by rw [Rep] at h ⊢; exact h
  | .bl _, _, _, h => by rw [Rep] at h ⊢; exact h
  | .int _, _, _, h => by rw [Rep] at h ⊢; exact h
  | .str _, _, _, h => by rw [Rep] at h ⊢; exact h
  | .ty _, _, _, h => by rw [Rep] at h ⊢; exact h
  | .tup xs, _, c, h => by
    rw [clo] at c
    rw [Rep] at h ⊢
    obtain ⟨a, vs, rfl, q, r⟩ := h
    exact ⟨a, vs, rfl, q, Reps.clo_to hh c r⟩
  | .ro xs, _, c, h => by
    rw [clo] at c
    rw [Rep] at h ⊢
    obtain ⟨a, vs, rfl, q, r⟩ := h
    exact ⟨a, vs, rfl, q, Reps.clo_to hh c r⟩
  | .tmp xs, _, c, h => by
    rw [clo] at c
    rw [Rep] at h ⊢
    obtain ⟨a, vs, rfl, q, n, r⟩ := h
    exact ⟨a, vs, rfl, q, fun z => n (hh a z), Reps.clo_to hh c r⟩
  | .loc n, _, c, h => by rw [clo] at c; cases c
theorem Reps.clo_to (hh : ∀ a, φ'.Has a → φ.Has a) : ∀ {xs : List M} {vs : List V}, cloL xs = true → Reps K φ H xs vs → Reps K φ' H xs vs
  | [], _, _, h => by rw [Reps] at h ⊢; exact h
  | x :: xs, _, c, h => by
    rw [cloL, Bool.and_eq_true] at c
    rw [Reps] at h ⊢
    obtain ⟨v, r, rfl, h1, h2⟩ := h
    exact ⟨v, r, rfl, Rep.clo_to hh c.1 h1, Reps.clo_to hh c.2 h2⟩
end
mutual
theorem frz_rep {f : Nat → Option M} (hf : ∀ (n : Nat) (m : M) (a : Addr), f n = some m → φ'.ls[n]? = some a → Rep K φ H' m (.ref a)) (hh : ∀ a, φ.Has a → φ'.Has a) : ∀ {m m' : M} {v : V}, frzM f m = some m' → Rep K φ' H' m v → Rep K φ H' m' v
  | .non, _, _, e, h => by rw [frzM] at e; cases e; rw [Rep] at h ⊢; exact h
  | .bl _, _, _, e, h => by rw [frzM] at e; cases e; rw [Rep] at h ⊢; exact h
  | .int _, _, _, e, h => by rw [frzM] at e; cases e; rw [Rep] at h ⊢; exact h
  | .str _, _, _, e, h => by rw [frzM] at e; cases e; rw [Rep] at h ⊢; exact h
  | .ty _, _, _, e, h => by rw [frzM] at e; cases e; rw [Rep] at h ⊢; exact h
  | .tup xs, _, _, e, h => by
    rw [frzM] at e
    obtain ⟨ys, e1, rfl⟩ := Option.map_eq_some_iff.mp e
    rw [Rep] at h ⊢
    obtain ⟨a, vs, rfl, q, r⟩ := h
    exact ⟨a, vs, rfl, q, frzL_rep hf hh e1 r⟩
  | .ro xs, _, _, e, h => by
    rw [frzM] at e
    obtain ⟨ys, e1, rfl⟩ := Option.map_eq_some_iff.mp e
    rw [Rep] at h ⊢
    obtain ⟨a, vs, rfl, q, r⟩ := h
    exact ⟨a, vs, rfl, q, frzL_rep hf hh e1 r⟩
  | .tmp xs, _, _, e, h => by
    rw [frzM] at e
    obtain ⟨ys, e1, rfl⟩ := Option.map_eq_some_iff.mp e
    rw [Rep] at h ⊢
    obtain ⟨a, vs, rfl, q, n, r⟩ := h
    exact ⟨a, vs, rfl, q, fun z => n (hh a z), frzL_rep hf hh e1 r⟩
  | .loc n, _, _, e, h => by
    rw [frzM] at e
    rw [Rep] at h
    obtain ⟨a, rfl, ha⟩ := h
    exact hf n _ a e ha
theorem frzL_rep {f : Nat → Option M} (hf : ∀ (n : Nat) (m : M) (a : Addr), f n = some m → φ'.ls[n]? = some a → Rep K φ H' m (.ref a)) (hh : ∀ a, φ.Has a → φ'.Has a) : ∀ {xs ys : List M} {vs : List V}, frzL f xs = some ys → Reps K φ' H' xs vs → Reps K φ H' ys vs
  | [], _, _, e, h => by rw [frzL] at e; cases e; rw [Reps] at h ⊢; exact h
  | x :: xs, _, _, e, h => by
    rw [frzL] at e
    split at e
    · rename_i y hy
      split at e
      · rename_i ys hys
        cases e
        rw [Reps] at h ⊢
        obtain ⟨v, r, rfl, h1, h2⟩ := h
        exact ⟨v, r, rfl, frz_rep hf hh hy h1, frzL_rep hf hh hys h2⟩
      · cases e
    · cases e
end
theorem frzAt_rep {h : MH} (hr : HR K φ' h H') (hh : ∀ a, φ.Has a → φ'.Has a) (hn : ∀ (n : Nat) (a : Addr), φ'.ls[n]? = some a → ¬ φ.Has a) : ∀ (k n : Nat) (m : M) (a : Addr), frzAt h k n = some m → φ'.ls[n]? = some a → Rep K φ H' m (.ref a)
  | 0, _, _, _, e, _ => by cases e
  | k + 1, n, m, a, e, ha => by
    unfold frzAt at e
    split at e
    · rename_i xs hx
      obtain ⟨ys, e1, rfl⟩ := Option.map_eq_some_iff.mp e
      obtain ⟨vs, q, r⟩ := hr.obj n _ a hx ha
      rw [Rep]
      exact ⟨a, vs, rfl, q, hn n a ha, frzL_rep (frzAt_rep hr hh hn k) hh e1 r⟩
    · cases e
end
/-- closed arguments: the callee runs over a heap of its own, what it hands back is a value -/
def cloF (F : MF) : MF := fun args h => if cloL args = true then (match F args [] with
    | .ok r h' => match frzM (frzAt h' 6) r with
      | some m => .ok m h
      | none => .bad
    | .err e _ => match e.fld with
      | none => .err e h
      | some (f, m) => if clo m = true then .err e h else .bad
    | .bad => .bad) else F args h
theorem cloF_ok {K : PySem.W.Frag} {mg : Str → Option Value} {n : Nat} {F : MF} {vs : List V} {H : Hp} {Q : VK} {E : XK} (h : spF K mg n (cloF F) vs H Q E) : spF K mg n F vs H Q E := by
  obtain ⟨hl, φ, mh, args, hr, r, p⟩ := h
  unfold cloF at p
  split at p
  · rename_i hc
    -- the caller's places are no one's there
    have hasE : ∀ a, (⟨[], φ.ls ++ φ.rs⟩ : Ph).Has a ↔ φ.Has a := fun a => by
      unfold Ph.Has
      simp
    have some_of : ∀ a, φ.Has a → ∃ o, H a = some o := fun a ha => by
      rcases ha with z | z
      · obtain ⟨i, hi⟩ := List.mem_iff_getElem?.mp z
        obtain ⟨o, _, q⟩ := hr.ix hi
        obtain ⟨u, e, _⟩ := q.some
        exact ⟨u, e⟩
      · exact hr.res a z
    have ext : ∀ φ' H', Ext ⟨[], φ.ls ++ φ.rs⟩ H φ' H' → Ext φ H φ H' := fun φ' H' e =>
      Ext.mk' ⟨[], by simp, by simp⟩ rfl (fun a o q _ => e.keep a o q (by simp)) e.there e.tups e.frzs
    have hrr : ∀ φ' H', Ext ⟨[], φ.ls ++ φ.rs⟩ H φ' H' → HR K φ mh H' := fun φ' H' e => by
      refine ⟨hr.len, hr.nd, fun i o a h1 h2 => ?_, fun a ha => let ⟨o, q⟩ := hr.res a ha; e.there a o q⟩
      have q := hr.obj i o a h1 h2
      obtain ⟨u, eu, _⟩ := q.some
      exact q.move (ext φ' H' e) ((e.keep a u eu (by simp)).trans eu.symm)
    refine ⟨hl, ⟨[], φ.ls ++ φ.rs⟩, [], args, ⟨rfl, List.nodup_nil, fun i o a h1 _ => by simp at h1, fun a ha => some_of a ((hasE a).mp (.inr ha))⟩, Reps.clo_to (fun a z => (hasE a).mp z) hc r, ?_⟩
    generalize F args [] = res at p
    cases res with
    | bad => exact p.elim
    | ok m h' =>
      intro φ' v H' e hr' rm
      have p : PostF K mg φ H (match frzM (frzAt h' 6) m with
        | some m => R.ok m mh
        | none => .bad) Q E := p
      split at p
      · rename_i m' hm
        refine p φ v H' (ext φ' H' e) (hrr φ' H' e) ?_
        have hrs : φ'.rs = φ.ls ++ φ.rs := e.rs
        refine frz_rep (frzAt_rep hr' ?_ ?_ 6) ?_ hm rm
        · intro a z
          exact .inr (by rw [hrs]; exact List.mem_append.mpr z)
        · intro n a ha z
          obtain ⟨new, e1, f⟩ := e.pre
          obtain ⟨o, q⟩ := some_of a z
          rw [e1] at ha
          have := f a (by simpa using List.mem_of_getElem? ha)
          rw [this] at q; cases q
        · intro a z
          exact .inr (by rw [hrs]; exact List.mem_append.mpr z)
      · exact p.elim
    | err er h' =>
      intro φ' H' cls d e hr' rep
      have p : PostF K mg φ H (match er.fld with
        | none => R.err er mh
        | some (f, m) => if clo m = true then R.err er mh else .bad) Q E := p
      obtain ⟨e1, e2⟩ := rep
      cases hf : er.fld with
      | none =>
        rw [hf] at p e2
        exact p φ H' cls d (ext φ' H' e) (hrr φ' H' e) ⟨e1, by rw [hf]; exact e2⟩
      | some fm =>
        obtain ⟨f, m⟩ := fm
        rw [hf] at p e2
        have p : PostF K mg φ H (if clo m = true then R.err er mh else .bad) Q E := p
        split at p
        · rename_i hcm
          obtain ⟨a, v, q1, q2, q3⟩ := e2
          have hrs : φ'.rs = φ.ls ++ φ.rs := e.rs
          refine p φ H' cls d (ext φ' H' e) (hrr φ' H' e) ⟨e1, ?_⟩
          rw [hf]
          exact ⟨a, v, q1, q2, Rep.clo_to (fun b z => .inr (by rw [hrs]; exact List.mem_append.mpr z)) hcm q3⟩
        · exact p.elim
  · exact ⟨hl, φ, mh, args, hr, r, p⟩
theorem Vals.pick {zs : List V} {ws : List Value} (r : Vals zs ws) : ∀ {ix : List Nat}, (∀ i ∈ ix, i < zs.length) → Vals (ix.map fun i => zs.getD i .non) (ix.map fun i => ws.getD i .none)
  | [], _ => .nil
  | i :: ix, lt => by
    refine .cons ?_ (Vals.pick r fun j hj => lt j (List.mem_cons_of_mem _ hj))
    have hi : i < zs.length := lt i List.mem_cons_self
    obtain ⟨u, hu, ru⟩ := Vals.get r (List.getElem?_eq_getElem hi)
    show RelV (zs.getD i .non) (ws.getD i .none)
    rw [List.getD_eq_getElem?_getD, List.getD_eq_getElem?_getD, List.getElem?_eq_getElem hi, hu]
    exact ru
theorem Reps.pick {K : PySem.W.Frag} {φ : Ph} {H : Hp} {ms : List M} {zs : List V} (r : Reps K φ H ms zs) : ∀ {ix : List Nat}, (∀ i ∈ ix, i < ms.length) → Reps K φ H (ix.map fun i => ms.getD i .non) (ix.map fun i => zs.getD i .non)
  | [], _ => Reps.nil
  | i :: ix, lt => by
    refine Reps.cons ?_ (Reps.pick r fun j hj => lt j (List.mem_cons_of_mem _ hj))
    have hi : i < ms.length := lt i List.mem_cons_self
    obtain ⟨u, hu, ru⟩ := Reps.get r (List.getElem?_eq_getElem hi)
    show Rep K φ H (ms.getD i .non) (zs.getD i .non)
    rw [List.getD_eq_getElem?_getD, List.getD_eq_getElem?_getD, List.getElem?_eq_getElem hi, hu]
    exact ru
/-- how f(k = .., ..) binds: the values in the order of ix -/
def KBs (fd : FuncData) (ps ks : List Str) (ix : List Nat) : Prop := ∀ ws : List Value, ws.length = ks.length → bindArgs fd ⟨[], ks.zip ws⟩ = pure (ps.zip (ix.map fun i => ws.getD i .none))
/-- a def that stands behind its name -/
structure FnAt (P : Program) (w : World) (K : PySem.W.Frag) (mg : Str → Option Value) (base : Heap) (k : Nat) (x : Str) (ps : List Str) (kss : List (List Str × List Nat)) (F : MF) : Prop where
  ex : ∃ f fd, FnG P w K mg base k f fd ps (spF K mg ps.length F) ∧ mg x = some (.ref f) ∧ PySem.W.keepIn K (.ref f) = true ∧ Binds K fd ps [] ∧ ∀ q ∈ kss, q.1.length = ps.length ∧ KBs fd ps q.1 q.2
theorem FnAt.clo {P w K mg base k x ps kss F} (h : FnAt P w K mg base k x ps kss F) : FnAt P w K mg base k x ps kss (cloF F) := by
  obtain ⟨f, fd, h1, h2⟩ := h.ex
  exact ⟨f, fd, h1.imp fun vs H Q E q => cloF_ok q, h2⟩
theorem FnAt.mono {P w K mg base j k x ps kss F} (h : FnAt P w K mg base j x ps kss F) (hk : j ≤ k) : FnAt P w K mg base k x ps kss F := by
  obtain ⟨f, fd, h1, h2⟩ := h.ex
  exact ⟨f, fd, h1.mono hk, h2⟩
section
variable {X : Cx} {W : WM} {pos p : Pos} {e : Expr} {es : List Expr} {k j : Nat} {ps : List Str} {kss : List (List Str × List Nat)} {F : MF} {x : Str} {fas : MA}
/-- f(e, ..) -/
def mOwn (n : Nat) (F : MF) (fa : MA) : ME := mCall (fun args h => if args.length = n then F args h else .bad) fa
theorem se_own (h : FnAt X.prog X.w X.K X.mg X.base j x ps kss F) (gd : Gd X W) (hr : Room k X.A) (hj : j ≤ k) (hg : Gl X x) (ha : SA X W (e :: es) fas) (hlen : (e :: es).length = ps.length)
    (hdb : (x == ("__debug__" : Str)) = false := by decide) (he : starEach (e :: es) X.env = (false, eval e X.env) :: starEach es X.env := by rfl) (hpl : (backTo pos (starEach es X.env)).any (·.1) = false := by rfl) :
    SE X W (.Call (.Name x p) (e :: es) [] pos) (mOwn ps.length F fas) := by
  obtain ⟨f, fd, h1, h2, h3, h4, _⟩ := h.ex
  exact se_call h1 gd (hr.mono hj) hg h2 h3 h4 ha hlen hdb he hpl
/-- the keywords' values, from the left -/
abbrev SKw (X : Cx) (W : WM) (kws : List Keyword) (f : MA) : Prop := PK X kws (rdA X.K W f)
theorem _root_.L2.PK.imp {X : Cx} {e : List Keyword} {t t' : TA} (h : PK X e t) (i : ∀ σ H Q, t' σ H Q → t σ H Q) : PK X e t' := ⟨fun pos pins s σ H Q I q => h.run pos pins s σ H Q I (i σ H Q q)⟩
theorem skw_nil : SKw X W [] aNil := pk_nil.imp fun σ H Q h => by
  obtain ⟨φ, ms, mh, hr, hs, p⟩ := h
  exact p.here hr Reps.nil
theorem skw_cons {f : ME} {r : MA} {nm : Option Str} {kpos : Pos} {kws : List Keyword} (ha : SE X W e f) (hr : SKw X W kws r) : SKw X W (⟨nm, e, kpos⟩ :: kws) (aCons f r) := (pk_cons ha hr).imp fun _ _ _ h => sa_rd h
def mOwnK (ix : List Nat) (n : Nat) (F : MF) (fa : MA) : ME := mCall (fun args h => if args.length = n ∧ ix.all (fun i => decide (i < n)) = true then F (ix.map fun i => args.getD i .non) h else .bad) fa
theorem se_ownK {kws : List Keyword} {ks : List Str} {ix : List Nat} (h : FnAt X.prog X.w X.K X.mg X.base j x ps kss F) (gd : Gd X W) (hr : Room k X.A) (hj : j ≤ k) (hg : Gl X x) (hq : (ks, ix) ∈ kss) (hix : ix.length = ps.length) (hkw : SKw X W kws fas)
    (hall : (backToKw pos (keywordEach kws X.env)).all (·.1.isSome) = true := by rfl) (hks : (backToKw pos (keywordEach kws X.env)).filterMap (·.1) = ks := by rfl)
    (hdb : (x == ("__debug__" : Str)) = false := by decide) (hpl : ((backTo pos (starEach [] X.env)).any (·.1) || (backToKw pos (keywordEach kws X.env)).any (·.1.isNone)) = false := by rfl) :
    SE X W (.Call (.Name x p) [] kws pos) (mOwnK ix ps.length F fas) := by
  obtain ⟨f, fd, h1, h2, h3, h4, h5⟩ := h.ex
  obtain ⟨hlk, hkb⟩ := h5 _ hq
  refine ⟨fun pins s σ H Q I hw => ?_⟩
  have hw2 := rdR.bind (rel2 := Reps X.K) (k := fun ms args h => if args.length = ps.length ∧ ix.all (fun i => decide (i < ps.length)) = true then F (ix.map fun i => args.getD i .non) h else .bad) hw
  refine wpAny_Call_Name_kw (ld_glob I hg h2 ?_ hdb)
  refine PySem.W.callWith_KW0 (h₀ := X.base) I.ok.mod.kin h3 hall ?_ hpl
  refine thn (hkw.run pos pins s σ H _ I hw2) fun ws s2 ⟨zs, H2, I2, rz, q2⟩ => ⟨I2.kIn, ?_⟩
  obtain ⟨φ, φ1, ms, m, hh, hr1, hs1, rl, e1, p1⟩ := q2
  split at p1
  · rename_i hc
    obtain ⟨hl, hlt⟩ := hc
    have hl2 : ws.length = ks.length := by rw [← rz.length, ← rl.length, hl]; exact hlk.symm
    have b : BindsTo s2 fd ⟨[], ks.zip ws⟩ (ps.zip (ix.map fun i => ws.getD i .none)) := BindsTo.of_eq (hkb ws hl2)
    have lt : ∀ i ∈ ix, i < ps.length := fun i hi => of_decide_eq_true (List.all_eq_true.mp hlt i hi)
    have rels : Vals (ix.map fun i => zs.getD i .non) (ix.map fun i => ws.getD i .none) := Vals.pick rz fun i hi => by rw [← rl.length, hl]; exact lt i hi
    have repz : Reps X.K φ1 H2 (ix.map fun i => m.getD i .non) (ix.map fun i => zs.getD i .non) := Reps.pick rl fun i hi => by rw [hl]; exact lt i hi
    rw [hks]
    refine wpAny_call (codeAny_mono (h1.run X.A X.stack s2 H2 ⟨[], ks.zip ws⟩ _ _ Q (WE (wx X.K X.mg W) σ) (hr.mono hj) gd.gs I2.env0 b rels ⟨by rw [List.length_map]; exact hix, φ1, hh, _, hr1, repz, call_post hs1 p1⟩) fun r s' hq => ?_)
    cases r with
    | error er => exact passAt gd.tk σ pins H2 s2 er s' I2 hq
    | ok fl =>
      cases fl with
      | ret u => exact I2.after hq
      | next => exact False.elim hq
      | brk => exact False.elim hq
      | cont => exact False.elim hq
  · exact p1.elim
theorem gd_blk {s : Shared} {H : Hp} {scope : Scope} {cenv : Env} {fp : List Addr} (gd : Gd X W) : Gd (X.blk s H scope cenv fp) WF := ⟨takesF, gd.calm, gd.nd, PassesOwn.never, gd.gs⟩
end
end Tb

set_option Elab.async false
set_option linter.all false
set_option maxRecDepth 100000
set_option maxHeartbeats 1000000
/-! list(zip(a, b)), a and b tuples -/
namespace Tb
open PySem PySem.Spec PyProof.Rows L2


section
variable {prog : Program} {w : World} {A : Around} {E : Value → Shared → Prop} {s : Shared}
/-- the next pair, the pair before being held by someone -/
theorem ztItem {z TI TO T i1 i2 l1 l2 : Addr} {f : Bool} {oT : Obj} {k1 k2 : Nat} {xs ys : Array Value} {x y : Value} {Q : Option Value → Shared → Prop} (D : ZipApart z TI TO i1 i2 l1 l2)
    (hz : IsZipHeld s.heap z TI TO T f) (hT : s.heap.get? T = some oT) (hTI : IsPair s.heap TI (.ref i1) (.ref i2))
    (h1 : s.heap.IsTupleIter i1 l1 k1) (h2 : s.heap.IsTupleIter i2 l2 k2) (hl1 : s.heap.IsTuple l1 xs) (hl2 : s.heap.IsTuple l2 ys) (hx : xs[k1]? = some x) (hy : ys[k2]? = some y)
    (hQ : ∀ h', IsZipHeld h' z TI TO T true → h'.IsTupleIter i1 l1 (k1 + 1) → h'.IsTupleIter i2 l2 (k2 + 1) → IsPair h' s.heap.objs.size x y → h'.objs.size = s.heap.objs.size + 1 →
      (∀ c o, c ≠ z → c ≠ i1 → c ≠ i2 → s.heap.get? c = some o → h'.get? c = some o) → Q (some (.ref s.heap.objs.size)) { s with heap := h' }) :
    wpAny (model prog w) A (pyNext (.ref z)) Q E s := by
  have ty : s.TypeIs (.ref z) "zip" := ⟨_, hz, rfl⟩
  unfold pyNext
  refine wpAny_bind (wpAny_attempt (wpAny_callSpecial?_slot (name := Str.ofString "__next__") ty F.slot_zip_next (wpAny_call_entry F.slot_zip_next ty F.entry_zip_next ?_ (F.args_zip_next_1 _))))
  show wpAny _ _ (field (.ref z) 2 >>= _) _ _ _
  refine wpAny_bind (wpAny_field hz rfl (x := .bool false) rfl ?_)
  show wpAny _ _ (field (.ref z) 3 >>= _) _ _ _
  refine wpAny_bind (wpAny_field hz rfl (x := .ref TI) rfl (wpAny_bind (wpAny_seqItems hTI rfl ?_)))
  show wpAny _ _ (Builtin.SmallTypes.ownedTupleIsFree (.ref z) >>= _) _ _ _
  refine wpAny_bind (wpAny_tupleHeld_zip hz hT fun g1 z1 b1 => ?_)
  simp only [Bool.false_eq_true, if_false]
  refine wpAny_bind ?_
  rw [← Array.forIn_toList]
  simp only [List.forIn_cons, List.forIn_nil]
  refine wpAny_bind (wpAny_bind (wpAny_holding ?_))
  show wpAny _ _ (Builtin.SmallTypes.nextOf (.ref i1) >>= _) _ _ _
  refine wpAny_bind (RZ.nextOf_tuple_item (s := { s with heap := g1 }) (h1.extBut b1.extBut D.i1z) (hl1.extBut b1.extBut D.l1z) hx fun g2 t2 b2 => wpAny_pure (wpAny_pure ?_))
  refine wpAny_bind (wpAny_bind (wpAny_holding ?_))
  show wpAny _ _ (Builtin.SmallTypes.nextOf (.ref i2) >>= _) _ _ _
  refine wpAny_bind (RZ.nextOf_tuple_item (s := { s with heap := g2 }) ((h2.extBut b1.extBut D.i2z).extBut b2.extBut D.i12.symm) ((hl2.extBut b1.extBut D.l2z).extBut b2.extBut D.l2i1) hy fun g3 t3 b3 => wpAny_pure (wpAny_pure (wpAny_pure ?_)))
  show wpAny _ _ (newTuple [x, y] >>= _) _ _ _
  refine wpAny_bind (wpAny_newTuple (wpAny_pure ⟨_, rfl, wpAny_pure ?_⟩))
  have sz : g3.objs.size = s.heap.objs.size := by rw [b3.1, b2.1, b1.1]
  have z3 : IsZipHeld g3 z TI TO T true := b3.extBut _ _ D.i2z.symm (b2.extBut _ _ D.i1z.symm z1)
  have kp : ∀ c o, c ≠ z → c ≠ i1 → c ≠ i2 → s.heap.get? c = some o → g3.get? c = some o := fun c o c1 c2 c3 e => b3.extBut _ _ c3 (b2.extBut _ _ c2 (b1.extBut _ _ c1 e))
  have t3' : g3.IsTupleIter i1 l1 (k1 + 1) := t2.extBut b3.extBut D.i12
  show Q (some (.ref g3.objs.size)) _
  have pr : IsPair (g3.push { cls := .type "tuple", data := .seq #[x, y] }) g3.objs.size x y := Heap.get?_push_size _ rfl
  have sz4 : (g3.push { cls := .type "tuple", data := .seq #[x, y] }).objs.size = g3.objs.size + 1 := Heap.size_push ..
  rw [sz] at pr sz4 ⊢
  exact hQ _ (Heap.get?_push_of_some _ z3) (t3'.at fun o e => Heap.get?_push_of_some _ e) (t3.at fun o e => Heap.get?_push_of_some _ e) pr sz4 fun c o c1 c2 c3 e => Heap.get?_push_of_some _ (kp c o c1 c2 c3 e)
/-- its end -/
theorem ztEnd {z TI TO T i1 i2 l1 l2 : Addr} {f : Bool} {oT : Obj} {k1 k2 : Nat} {xs ys : Array Value} {Q : Option Value → Shared → Prop} (hh : A.handled = none) (D : ZipApart z TI TO i1 i2 l1 l2)
    (hz : IsZipHeld s.heap z TI TO T f) (hT : s.heap.get? T = some oT) (hTI : IsPair s.heap TI (.ref i1) (.ref i2))
    (h1 : s.heap.IsTupleIter i1 l1 k1) (h2 : s.heap.IsTupleIter i2 l2 k2) (hl1 : s.heap.IsTuple l1 xs) (hl2 : s.heap.IsTuple l2 ys) (hend : xs[k1]? = none ∨ ys[k2]? = none)
    (hQ : ∀ h', (∀ c o, c ≠ z → c ≠ i1 → c ≠ i2 → s.heap.get? c = some o → h'.get? c = some o) → Q none { s with heap := h' }) : wpAny (model prog w) A (pyNext (.ref z)) Q E s := by
  have ty : s.TypeIs (.ref z) "zip" := ⟨_, hz, rfl⟩
  have fin : ∀ h' e, (∀ c o, c ≠ z → c ≠ i1 → c ≠ i2 → s.heap.get? c = some o → h'.get? c = some o) → (∃ o, h'.get? e = some o ∧ o.cls = .type "StopIteration") →
      wpAny (model prog w) A (isInstance (.ref e) (.type "StopIteration") >>= fun b => if b = true then (pure none : Sem (Option Value)) else throw (.ref e)) Q E { s with heap := h' } := fun h' e k ⟨o, ho, hc⟩ => by
    refine wpAny_bind (wpAny_isInstance (T := "StopIteration") (b := true) ⟨o, ho, hc⟩ isSubtype_stop ?_)
    rw [if_pos rfl]
    exact wpAny_pure (hQ _ k)
  unfold pyNext
  refine wpAny_bind (wpAny_attempt (wpAny_callSpecial?_slot (name := Str.ofString "__next__") ty F.slot_zip_next (wpAny_call_entry F.slot_zip_next ty F.entry_zip_next ?_ (F.args_zip_next_1 _))))
  show wpAny _ _ (field (.ref z) 2 >>= _) _ _ _
  refine wpAny_bind (wpAny_field hz rfl (x := .bool false) rfl ?_)
  show wpAny _ _ (field (.ref z) 3 >>= _) _ _ _
  refine wpAny_bind (wpAny_field hz rfl (x := .ref TI) rfl (wpAny_bind (wpAny_seqItems hTI rfl ?_)))
  show wpAny _ _ (Builtin.SmallTypes.ownedTupleIsFree (.ref z) >>= _) _ _ _
  refine wpAny_bind (wpAny_tupleHeld_zip hz hT fun g1 z1 b1 => ?_)
  simp only [Bool.false_eq_true, if_false]
  refine wpAny_bind ?_
  rw [← Array.forIn_toList]
  simp only [List.forIn_cons, List.forIn_nil]
  refine wpAny_bind (wpAny_bind (wpAny_holding ?_))
  show wpAny _ _ (Builtin.SmallTypes.nextOf (.ref i1) >>= _) _ _ _
  cases hx : xs[k1]? with
  | none =>
    refine wpAny_bind (RZ.nextOf_tuple_end (s := { s with heap := g1 }) hh (h1.extBut b1.extBut D.i1z) (hl1.extBut b1.extBut D.l1z) hx fun g2 e b2 he => ?_)
    exact fin g2 e (fun c o c1 c2 _ x => b2 _ _ c2 (b1.extBut _ _ c1 x)) he
  | some x =>
    have hy : ys[k2]? = none := by
      rcases hend with h | h
      · rw [hx] at h; cases h
      · exact h
    refine wpAny_bind (RZ.nextOf_tuple_item (s := { s with heap := g1 }) (h1.extBut b1.extBut D.i1z) (hl1.extBut b1.extBut D.l1z) hx fun g2 t2 b2 => wpAny_pure (wpAny_pure ?_))
    refine wpAny_bind (wpAny_bind (wpAny_holding ?_))
    show wpAny _ _ (Builtin.SmallTypes.nextOf (.ref i2) >>= _) _ _ _
    refine wpAny_bind (RZ.nextOf_tuple_end (s := { s with heap := g2 }) hh ((h2.extBut b1.extBut D.i2z).extBut b2.extBut D.i12.symm) ((hl2.extBut b1.extBut D.l2z).extBut b2.extBut D.l2i1) hy fun g3 e b3 he => ?_)
    exact fin g3 e (fun c o c1 c2 c3 x => b3 _ _ c3 (b2.extBut _ _ c2 (b1.extBut _ _ c1 x))) he
end
theorem zip_no_len : typeLookup (.type "zip") "__len__" = pure none := am_miss_of_fast (by decide +kernel)
theorem zip_no_hint : typeLookup (.type "zip") "__length_hint__" = pure none := am_miss_of_fast (by decide +kernel)

/-- the zip's own objects at the i-th turn -/
def ZS (H : Hp) (h : Heap) (z TI TO i1 i2 a b : Addr) (i : Nat) : Prop :=
  ((i = 0 ∧ IsZip h z TI TO .none ∧ ∃ x y, IsPair h TO x y) ∨ ∃ T f vs, IsZipHeld h z TI TO T f ∧ H T = some (.tup vs)) ∧ IsPair h TI (.ref i1) (.ref i2) ∧ h.IsTupleIter i1 a i ∧ h.IsTupleIter i2 b i ∧ ∃ oO, h.get? TO = some oO
/-- the pairs so far -/
def ZP (H1 H : Hp) (S : Addr) (xs ys : List V) (i : Nat) : Prop :=
  Same H1 H ∧ ∃ Ts : List Addr, H S = some (.lst (Ts.map V.ref)) ∧ Ts.length = i ∧ ∀ (j : Nat) (T : Addr) (x y : V), Ts[j]? = some T → xs[j]? = some x → ys[j]? = some y → H T = some (.tup [x, y])
section
variable {X : Cx} {pins : List (Addr × Obj)} {σ : L2.St} {H1 : Hp} {S z TI TO i1 i2 a b : Addr} {xs ys : List V} {R : Result → Shared → Prop} {res : Value}
theorem SqT.same {K : PySem.W.Frag} {H H' : Hp} {a : Addr} {vs : List V} (e : Same H H') (h : SqT K H a vs) : SqT K H' a vs := by
  rcases h with (h | ⟨o, h⟩) | h
  · exact .inl (.inl (e _ _ h))
  · exact .inl (.inr ⟨o, e _ _ h⟩)
  · exact .inr h
theorem drainZ {A : Around} (hh : A.handled = none) (D : ZipApart z TI TO i1 i2 a b) (qx : SqT X.K H1 a xs) (qy : SqT X.K H1 b ys) (hS1 : H1 S = none) (hSd : S ∉ [z, TI, TO, i1, i2])
    (hR : ∀ s H, Inv X pins σ H s → ZP H1 H S xs ys (min xs.length ys.length) → R (.ok (.ret res)) s) :
    ∀ (k i : Nat) (s : Shared) (H : Hp), i + k = min xs.length ys.length → Inv X pins σ H s → (∀ c ∈ [z, TI, TO, i1, i2], FpOk X pins H c) → ZS H s.heap z TI TO i1 i2 a b i → ZP H1 H S xs ys i →
      codeAny (model X.prog X.w) A (.builtin "list.extend.loop" ⟨[.ref S, .ref z, res], []⟩) R s := by
  intro k
  induction k with
  | zero =>
    intro i s H hk I hf st pz
    obtain ⟨sm, _⟩ := id pz
    obtain ⟨its, rv, p, _⟩ := I.tuple (SqT.same sm qx)
    obtain ⟨its2, rv2, p2, _⟩ := I.tuple (SqT.same sm qy)
    have l1 := rv.length
    have l2 := rv2.length
    have he : its.toArray[i]? = none ∨ its2.toArray[i]? = none := by
      by_cases q : xs.length ≤ i
      · exact .inl (by simp; omega)
      · exact .inr (by simp; omega)
    refine codeAny_builtin F.entry_extend_loop ?_
    rw [Around.under_plainId F.plain_extend_loop _]
    show wpAny _ A.in1 (pyNext (.ref z) >>= _) _ _ s
    obtain ⟨hd, hTI, h1, h2, oO, hOO⟩ := st
    have ei : i = min xs.length ys.length := by omega
    subst ei
    have fin : ∀ h', (∀ c o, c ≠ z → c ≠ TO → c ≠ i1 → c ≠ i2 → s.heap.get? c = some o → h'.get? c = some o) → R (.ok (.ret res)) { s with heap := h' } := fun h' kp =>
      hR _ H (I.turnedL (t' := s.toks) (ch := [z, TI, TO, i1, i2]) (fun c o hb q => kp c o (fun e => hb (by simp [e])) (fun e => hb (by simp [e])) (fun e => hb (by simp [e])) (fun e => hb (by simp [e])) q) hf) pz
    rcases hd with ⟨_, hz, x, y, hTO⟩ | ⟨T, f, vs, hz, hT⟩
    · exact wpAny_bind (RZ.pyNext_zipT_end (A := A.in1) hh D hz hTI hTO h1 h2 p p2 he fun h' kp => wpAny_pure (fin h' kp))
    · obtain ⟨_, itsT, _, oT, heT, _⟩ := I.hok T _ hT
      exact wpAny_bind (ztEnd (A := A.in1) hh D hz heT hTI h1 h2 p p2 he fun h' kp => wpAny_pure (fin h' fun c o c1 _ c3 c4 => kp c o c1 c3 c4))
  | succ k ih =>
    intro i s H hk I hf st pz
    obtain ⟨sm, Ts, hS, hlT, hTs⟩ := id pz
    obtain ⟨its, rv, p, _⟩ := I.tuple (SqT.same sm qx)
    obtain ⟨its2, rv2, p2, lz⟩ := I.tuple (SqT.same sm qy)
    have ix : xs[i]? = some xs[i] := List.getElem?_eq_getElem (by omega)
    have iy : ys[i]? = some ys[i] := List.getElem?_eq_getElem (by omega)
    generalize xs[i] = x at ix
    generalize ys[i] = y at iy
    obtain ⟨u, hu, ru⟩ := rv.get ix
    obtain ⟨u2, hu2, ru2⟩ := rv2.get iy
    obtain ⟨zS, itsS, nS, rS, lS, eS⟩ := I.lstM hS
    refine codeAny_builtin F.entry_extend_loop ?_
    rw [Around.under_plainId F.plain_extend_loop _]
    show wpAny _ A.in1 (pyNext (.ref z) >>= _) _ _ s
    obtain ⟨hd, hTI, h1, h2, oO, hOO⟩ := st
    have nS : S ≠ z ∧ S ≠ TI ∧ S ≠ TO ∧ S ≠ i1 ∧ S ≠ i2 := by simpa using hSd
    obtain ⟨n1, n2, n3, n4, n5⟩ := nS
    -- the pair has come
    have go : ∀ h' T' f, IsZipHeld h' z TI TO T' f → (T' = s.heap.objs.size ∨ ∃ vs, H T' = some (.tup vs)) → h'.IsTupleIter i1 a (i + 1) → h'.IsTupleIter i2 b (i + 1) → IsPair h' s.heap.objs.size u u2 →
        (∀ c o, c ≠ z → c ≠ TO → c ≠ i1 → c ≠ i2 → s.heap.get? c = some o → h'.get? c = some o) → (∃ oO, h'.get? TO = some oO) →
        wpAny (model X.prog X.w) A.in1 (updateSeq S (·.push (.ref s.heap.objs.size)) >>= fun _ => again (.builtin "list.extend.loop" ⟨[.ref S, .ref z, res], []⟩))
          (fun fin s' => match fin with | .done f => R (.ok f) s' | .again c' => c'.quiet = true ∧ codeAny (model X.prog X.w) A c' R s') (fun e s' => R (.error e) s') { s with heap := h' } := fun h' T' f z' heldT t1 t2 pT kp ⟨oO2, hOO2⟩ => by
      have new : ObjOk X.prog X.w (upd H s.heap.objs.size (.tup [x, y])) h' s.heap.objs.size (.tup [x, y]) :=
        ⟨by show 2 ≤ sizeLine; decide, [u, u2], .cons ru (.cons ru2 .nil), ⟨_, pT, rfl, _, rfl⟩⟩
      have fT : H s.heap.objs.size = none := I.hok.fresh (Nat.le_refl _)
      have I1 : Inv X pins σ (upd H s.heap.objs.size (.tup [x, y])) { s with heap := h' } :=
        I.turnedNew (t' := s.toks) (ch := [z, TI, TO, i1, i2]) (fun c o hb q => kp c o (fun e => hb (by simp [e])) (fun e => hb (by simp [e])) (fun e => hb (by simp [e])) (fun e => hb (by simp [e])) q) hf (Nat.le_refl _) new
      have hS' : (upd H s.heap.objs.size (.tup [x, y])) S = some (.lst (Ts.map V.ref)) := by rw [upd_ne (ne_of_none hS fT)]; exact hS
      obtain ⟨zS', itsS', nS', rS', lS', eS'⟩ := I1.lstM hS'
      have eq : (Ts.map V.ref).length = i := by rw [List.length_map, hlT]
      have hlt : i < sizeLine := by omega
      refine wpAny_bind (wpAny_updateSeq eS' rfl (wpAny_pure ⟨plainId_quiet F.plain_extend_loop _, ?_⟩) (by simp; omega) (by simp; omega))
      have I2 := I1.lset (t' := s.toks) (its' := itsS' ++ [Value.ref s.heap.objs.size]) (f := fun q => q.push (.ref s.heap.objs.size)) (ys := Ts.map V.ref ++ [V.ref s.heap.objs.size]) hS' eS' (by simp)
        (rS'.append (.cons (show RelV (.ref s.heap.objs.size) (.ref s.heap.objs.size) from rfl) .nil)) (by rw [List.length_append, List.length_singleton]; omega)
      have TneS : s.heap.objs.size ≠ S := (ne_of_none hS fT).symm
      have up : ∀ c o, c ≠ S → h'.get? c = some o → (h'.update S (Obj.mapSeq fun q => q.push (.ref s.heap.objs.size))).get? c = some o := fun c o hc e => (Heap.get?_update_other _ _ (Ne.symm hc)).trans e
      have hT2 : (upd (upd H s.heap.objs.size (.tup [x, y])) S (.lst (Ts.map V.ref ++ [V.ref s.heap.objs.size]))) s.heap.objs.size = some (.tup [x, y]) := by rw [upd_ne TneS, upd_same]
      refine ih (i + 1) _ _ (by omega) I2 (fun c hc => ?_) ⟨.inr (heldT.elim (fun e => ⟨T', f, [x, y], up _ _ n1.symm z', e ▸ hT2⟩) fun ⟨vs, e⟩ => ⟨T', f, vs, up _ _ n1.symm z', by rw [upd_ne (by rintro rfl; rw [hS] at e; cases e), upd_ne (ne_of_none e fT)]; exact e⟩), ?_, ?_, ?_, oO2, up _ _ n3.symm hOO2⟩ ⟨fun c o e => ?_, Ts ++ [s.heap.objs.size], ?_, by rw [List.length_append, hlT]; rfl, fun j T x' y' e1 e2 e3 => ?_⟩
      · obtain ⟨f0, f1⟩ := hf c hc
        refine ⟨?_, f1⟩
        have c1 : c ≠ S := fun e => hSd (e ▸ hc)
        have c2 : c ≠ s.heap.objs.size := by
          have lt : c < s.heap.objs.size := by
            have hzl : z < s.heap.objs.size := by
              rcases hd with ⟨_, hz, _⟩ | ⟨_, _, _, hz, _⟩
              · exact Heap.lt_size hz
              · exact Heap.lt_size hz
            have e' : c = z ∨ c = TI ∨ c = TO ∨ c = i1 ∨ c = i2 := by simpa using hc
            rcases e' with q | q | q | q | q
            · rw [q]; exact hzl
            · rw [q]; exact Heap.lt_size hTI
            · rw [q]; exact Heap.lt_size hOO
            · rw [q]; obtain ⟨_, e1, _⟩ := h1; exact Heap.lt_size e1
            · rw [q]; obtain ⟨_, e1, _⟩ := h2; exact Heap.lt_size e1
          exact Nat.ne_of_lt lt
        rw [upd_ne c1, upd_ne c2]
        exact f0
      · exact up _ _ n2.symm (kp _ _ D.TIz D.TITO D.TIi1 D.TIi2 hTI)
      · exact t1.at fun o e => up _ o n4.symm e
      · exact t2.at fun o e => up _ o n5.symm e
      · have c1 : c ≠ S := by rintro rfl; rw [hS1] at e; cases e
        have e' := sm c o e
        rw [upd_ne c1, upd_ne (ne_of_none e' fT)]
        exact e'
      · rw [upd_same, List.map_append]; rfl
      · by_cases hj : j < Ts.length
        · rw [List.getElem?_append_left hj] at e1
          have e4 := hTs j T x' y' e1 e2 e3
          have c1 : T ≠ S := by rintro rfl; rw [hS] at e4; cases e4
          rw [upd_ne c1, upd_ne (ne_of_none e4 fT)]
          exact e4
        · rw [List.getElem?_append_right (by omega)] at e1
          have ej : j = Ts.length := by
            obtain ⟨q, _⟩ := List.getElem?_eq_some_iff.mp e1
            simp at q
            omega
          subst ej
          simp at e1
          subst e1
          rw [hlT, ix] at e2
          rw [hlT, iy] at e3
          cases e2; cases e3
          exact hT2
    rcases hd with ⟨_, hz, x0, y0, hTO⟩ | ⟨T, f, vs, hz, hT⟩
    · exact wpAny_bind (RZ.pyNext_zipT_item (A := A.in1) D hz hTI hTO h1 h2 p p2 (x := u) (y := u2) (by simpa using hu) (by simpa using hu2) fun h' a1 a2 a3 a4 a5 a6 a7 => go h' _ false a1 (.inl rfl) a3 a4 a5 a7 ⟨_, a2⟩)
    · obtain ⟨_, itsT, _, oT, heT, _⟩ := I.hok T _ hT
      exact wpAny_bind (ztItem (A := A.in1) D hz heT hTI h1 h2 p p2 (x := u) (y := u2) (by simpa using hu) (by simpa using hu2) fun h' a1 a3 a4 a5 a6 a7 => go h' _ true a1 (.inr ⟨vs, hT⟩) a3 a4 a5 (fun c o c1 _ c3 c4 => a7 c o c1 c3 c4) ⟨oO, a7 _ _ D.TOz D.TOi1 D.TOi2 hOO⟩)
end

/-! ### the expression list(zip(e, e2)) -/
def tLZ (K : PySem.W.Frag) (ta : TA) : TE := fun σ H Q => ta σ H fun vs H1 => ∃ a b xs ys, vs = [.ref a, .ref b] ∧ SqT K H1 a xs ∧ SqT K H1 b ys ∧
  ∀ S H2, H1 S = none → ZP H1 H2 S xs ys (min xs.length ys.length) → Q (.ref S) H2
theorem call_list_zip {X : Cx} {pins : List (Addr × Obj)} {σ : L2.St} {s : Shared} {H1 : Hp} {z TI TO i1 i2 a b : Addr} {xs ys : List V} {Q : Value → Shared → Prop} {E : Value → Shared → Prop} (hh : X.A.handled = none) (I : Inv X pins σ H1 s)
    (D : ZipApart z TI TO i1 i2 a b) (qx : SqT X.K H1 a xs) (qy : SqT X.K H1 b ys) (hf : ∀ c ∈ [z, TI, TO, i1, i2], FpOk X pins H1 c) (hlt : ∀ c ∈ [z, TI, TO, i1, i2], c < s.heap.objs.size)
    (hz : IsZip s.heap z TI TO .none) (hTI : IsPair s.heap TI (.ref i1) (.ref i2)) (hTO : IsPair s.heap TO .none .none) (h1 : s.heap.IsTupleIter i1 a 0) (h2 : s.heap.IsTupleIter i2 b 0)
    (hQ : ∀ S s' H2, H1 S = none → Inv X pins σ H2 s' → ZP H1 H2 S xs ys (min xs.length ys.length) → Q (.ref S) s') :
    wpAny (model X.prog X.w) X.A (call (.type "list") [.ref z]) Q E s := by
  refine callType_codes (Q₁ := fun obj s₁ => obj = .ref s.heap.objs.size ∧ s₁ = { s with heap := s.heap.push { cls := .type "list", data := .seq #[] } }) F.called_list (F.typeCall_list_1 _) F.entry_list_init
    (code_list_new _ ⟨rfl, rfl⟩) fun obj s₁ hs₁ => ?_
  obtain ⟨rfl, rfl⟩ := hs₁
  have g0 : (s.heap.push { cls := .type "list", data := .seq #[] }).get? s.heap.objs.size = some { cls := .type "list", data := .seq #[] } := Heap.get?_push_size _ rfl
  refine ⟨⟨_, g0, rfl⟩, F.args_list_init_2 _ _, ?_⟩
  have nz : s.heap.objs.size ≠ z := Nat.ne_of_gt (hlt z (by simp))
  show wpAny _ X.A.in1.in1 (do let old ← Builtin.List.listItems (.ref s.heap.objs.size); Builtin.List.listUpdate (.ref s.heap.objs.size) (fun _ => #[]); letGo old.toList.reverse; Builtin.List.listExtendWith (.ref s.heap.objs.size) (.ref z) .none) _ _ _
  refine wpAny_bind ?_
  unfold Builtin.List.listItems
  refine wpAny_bind (wpAny_seqItems g0 rfl (wpAny_pure ?_))
  show wpAny _ X.A.in1.in1 (updateSeq s.heap.objs.size (fun _ => #[]) >>= fun _ => letGo (#[] : Array Value).toList.reverse >>= fun _ => Builtin.List.listExtendWith (.ref s.heap.objs.size) (.ref z) .none) _ _ _
  refine wpAny_bind (wpAny_updateSeq g0 rfl ?_)
  have g1 := Heap.get?_update_self (Obj.mapSeq (fun _ => (#[] : Array Value))) g0 rfl
  refine wpAny_bind (wpAny_letGo ?_)
  unfold Builtin.List.listExtendWith
  have up : ∀ (h : Heap) (f : Obj → Obj), (∀ c o, s.heap.get? c = some o → h.get? c = some o) → ∀ c o, s.heap.get? c = some o → (h.update s.heap.objs.size f).get? c = some o := fun h f q c o e =>
    (Heap.get?_update_other _ _ (Ne.symm (Nat.ne_of_lt (Heap.lt_size e)))).trans (q c o e)
  have k0 : ∀ c o, s.heap.get? c = some o → (s.heap.push { cls := .type "list", data := .seq #[] }).get? c = some o := fun c o e => Heap.get?_push_of_some _ e
  have k1 := up _ (Obj.mapSeq (fun _ => (#[] : Array Value))) k0
  have zt : ∀ {h : Heap}, (∀ c o, s.heap.get? c = some o → h.get? c = some o) → IsZip h z TI TO .none := fun {h} q => q _ _ hz
  refine wpAny_bind (wpAny_typeOf (T := "zip") ⟨_, zt k1, rfl⟩ ?_)
  have b1 : Builtin.List.listSameRef (.ref s.heap.objs.size) (.ref z) = false := by simp [Builtin.List.listSameRef, nz]
  have b2 : (Value.type "zip" == Value.type "list") = false := by decide
  have b3 : (Value.type "zip" == Value.type "tuple") = false := by decide
  simp only [b1, b2, b3, Bool.or_false, Bool.false_eq_true, if_false]
  refine wpAny_bind (wpAny_pyIter_zip (s := { s with heap := _ }) (zt k1) ?_)
  refine wpAny_bind (wpAny_holding ?_)
  unfold Builtin.List.listLengthHint
  refine wpAny_bind (wpAny_specialOf (T := "zip") ⟨_, zt k1, rfl⟩ zip_no_len ?_)
  show wpAny _ X.A.in1.in1 (specialOf (Value.ref z) (Str.ofString "__length_hint__") >>= _) _ _ _
  refine wpAny_bind (wpAny_specialOf (T := "zip") ⟨_, zt k1, rfl⟩ zip_no_hint ?_)
  refine wpAny_pure ?_
  show wpAny _ X.A.in1.in1 (rule "list.extend.makes-room" >>= fun _ => Builtin.List.listTouch (.ref s.heap.objs.size) >>= fun _ => again (.builtin "list.extend.loop" ⟨[.ref s.heap.objs.size, .ref z, .none], []⟩)) _ _ _
  refine wpAny_bind (wpAny_rule (wpAny_bind ?_))
  show wpAny _ X.A.in1.in1 (updateSeq s.heap.objs.size (·.push .none) >>= fun _ => updateSeq s.heap.objs.size (·.pop)) _ _ _
  refine wpAny_bind (wpAny_updateSeq g1 rfl ?_)
  have g2 := Heap.get?_update_self (Obj.mapSeq (·.push Value.none)) g1 rfl
  refine wpAny_updateSeq (hz := by seq_fits) g2 rfl ?_
  have g3 := Heap.get?_update_self (Obj.mapSeq (·.pop)) g2 rfl
  have k3 := up _ (Obj.mapSeq (·.pop)) (up _ (Obj.mapSeq (·.push Value.none)) k1)
  refine wpAny_pure ⟨plainId_quiet F.plain_extend_loop _, ?_⟩
  have hS : H1 s.heap.objs.size = none := I.hok.fresh (Nat.le_refl _)
  have I1 := I.laid (t' := s.toks) (a := s.heap.objs.size) (o := .lst []) k3 (Nat.le_refl _) ⟨Nat.zero_le _, [], _, .nil, g3⟩
  have sm : Same H1 (upd H1 s.heap.objs.size (.lst [])) := fun c o e => by rw [upd_ne (ne_of_none e hS)]; exact e
  refine drainZ (A := X.A.in1) hh D qx qy hS (fun hm => absurd (hlt _ hm) (Nat.lt_irrefl _)) (fun s' H2 I2 pz => ⟨rfl, hQ _ s' H2 hS I2 pz⟩) (min xs.length ys.length) 0 _ _ (by omega) I1 (fun c hc => ?_)
    ⟨.inl ⟨rfl, zt k3, _, _, k3 _ _ hTO⟩, k3 _ _ hTI, h1.at fun o e => k3 _ _ e, h2.at fun o e => k3 _ _ e, _, k3 _ _ hTO⟩ ⟨sm, [], upd_same, rfl, fun j T x y e => by simp at e⟩
  obtain ⟨f0, f1⟩ := hf c hc
  refine ⟨?_, f1⟩
  rw [upd_ne (Nat.ne_of_lt (hlt c hc))]
  exact f0
theorem pe_listZip {X : Cx} {e e2 : Expr} {ta : TA} {p p2 pos pos2 : Pos} (hc : X.calm = true) (hg : Gl X "list") (hm : X.mg "list" = none) (hg2 : Gl X "zip") (hm2 : X.mg "zip" = none) (ha : PA X [e, e2] ta)
    (hs : starEach [e, e2] X.env = (false, eval e X.env) :: starEach [e2] X.env := by rfl) (hpl : (backTo pos2 (starEach [e2] X.env)).any (·.1) = false := by rfl)
    (na : starEach [.Call (.Name "zip" p2) [e, e2] [] pos2] X.env = (false, eval (.Call (.Name "zip" p2) [e, e2] [] pos2) X.env) :: starEach [] X.env := by rfl) :
    PE X (.Call (.Name "list" p) [.Call (.Name "zip" p2) [e, e2] [] pos2] [] pos) (tLZ X.K ta) := by
  refine ⟨fun pins s σ H Q I h => ?_⟩
  refine Call_ (ld_blt I hg hm PyProof.Rows.boot_list (PyProof.Rows.callWith_type1 (args_cons ?_ na) na))
  refine Call_ (ld_blt I hg2 hm2 PyProof.Rows.boot_zip (PyProof.Rows.callWith_type1 (thn (ha.run pos2 pins s σ H _ I h) fun us s1 ⟨vs, H1, I1, r1, q1⟩ => ?_) hs hpl))
  obtain ⟨a, b, xs, ys, ex, hqx, hqy, q1⟩ := q1
  subst ex
  cases r1 with
  | cons r rr =>
    cases rr with
    | cons r' rr =>
      cases rr
      cases r
      cases r'
      obtain ⟨its, rv, p1, _⟩ := I1.tuple hqx
      obtain ⟨its2, rv2, p2, _⟩ := I1.tuple hqy
      obtain ⟨o1, ho1, _⟩ := id p1
      obtain ⟨o2, ho2, _⟩ := id p2
      refine RZ.call_zipT (show s1.heap.IsTuple a its.toArray from p1) (show s1.heap.IsTuple b its2.toArray from p2) fun h' hz hTI hTO h1 h2 hsz hk => args_nil ?_
      have I2 : Inv X pins σ H1 { s1 with heap := h' } := I1.kept (t' := s1.toks) hk
      have e' : ∀ c, c ∈ [s1.heap.objs.size + 4, s1.heap.objs.size + 2, s1.heap.objs.size + 3, s1.heap.objs.size, s1.heap.objs.size + 1] → s1.heap.objs.size ≤ c ∧ c < s1.heap.objs.size + 5 := fun c hcm => by
        have e' : c = s1.heap.objs.size + 4 ∨ c = s1.heap.objs.size + 2 ∨ c = s1.heap.objs.size + 3 ∨ c = s1.heap.objs.size ∨ c = s1.heap.objs.size + 1 := by simpa using hcm
        have up : ∀ j : Nat, j < 5 → s1.heap.objs.size ≤ s1.heap.objs.size + j ∧ s1.heap.objs.size + j < s1.heap.objs.size + 5 := fun j hj => ⟨Nat.le_add_right _ _, Nat.add_lt_add_left hj _⟩
        rcases e' with z | z | z | z | z
        · rw [z]; exact up 4 (by decide)
        · rw [z]; exact up 2 (by decide)
        · rw [z]; exact up 3 (by decide)
        · rw [z]; exact up 0 (by decide)
        · rw [z]; exact up 1 (by decide)
      exact call_list_zip (s := { s1 with heap := h' }) (I2.ok.hd hc) I2 (PySem.W.ktu_apart s1.heap.objs.size a b (Heap.lt_size ho1) (Heap.lt_size ho2)) hqx hqy (fun c hcm => I1.fpOk (e' c hcm).1 (I1.hok.fresh (e' c hcm).1)) (fun c hcm => by rw [hsz]; exact (e' c hcm).2) hz hTI hTO h1 h2
        fun S s' H2 hS I3 pz => ⟨.ref S, H2, I3, rfl, q1 S H2 hS pz⟩
/-! ### in the mirror -/
def zipM (xs : List M) (h : MH) : R M := match xs with
  | [.tup a, .tup b] => .ok (.tmp (List.zipWith (fun x y => M.tup [x, y]) a b)) h
  | _ => .bad
section
variable {K : PySem.W.Frag} {W : WM} {φ φ' φ2 : Ph} {H H' H2 : Hp} {mh : MH} {ms : MS} {σ : L2.St}
theorem Ext.same (e : Same H H') : Ext φ H φ H' := Ext.mk' ⟨[], by simp, by simp⟩ rfl (fun a o q _ => e a o q) (fun a o q => ⟨o, e a o q⟩) (fun a vs q => e a _ q) (fun a o u q => e a _ q)
theorem HR.same (e : Same H H') (hr : HR K φ mh H) : HR K φ mh H' := by
  refine ⟨hr.len, hr.nd, fun i o a h1 h2 => ?_, fun a ha => let ⟨o, q⟩ := hr.res a ha; ⟨o, e a o q⟩⟩
  have q := hr.obj i o a h1 h2
  obtain ⟨u, eu, _⟩ := q.some
  exact q.move (Ext.same e) ((e a u eu).trans eu.symm)
theorem pairs_rep : ∀ {xs ys : List M} {vs us : List V} {Ts : List Addr}, Reps K φ H xs vs → Reps K φ H ys us → Ts.length = min vs.length us.length →
    (∀ (j : Nat) (T : Addr) (x y : V), Ts[j]? = some T → vs[j]? = some x → us[j]? = some y → H T = some (.tup [x, y])) → Reps K φ H (List.zipWith (fun x y => M.tup [x, y]) xs ys) (Ts.map V.ref)
  | [], ys, vs, us, Ts, h1, h2, hl, hT => by
    rw [Reps] at h1
    subst h1
    have : Ts = [] := List.length_eq_zero_iff.mp (by simpa using hl)
    subst this
    simpa using Reps.nil
  | x :: xs, [], vs, us, Ts, h1, h2, hl, hT => by
    rw [Reps] at h2
    subst h2
    have : Ts = [] := List.length_eq_zero_iff.mp (by simpa using hl)
    subst this
    simpa using Reps.nil
  | x :: xs, y :: ys, vs, us, Ts, h1, h2, hl, hT => by
    rw [Reps] at h1 h2
    obtain ⟨v, vs, rfl, r1, r2⟩ := h1
    obtain ⟨u, us, rfl, r3, r4⟩ := h2
    cases Ts with
    | nil => simp at hl
    | cons T Ts =>
      rw [List.zipWith_cons_cons, List.map_cons]
      refine Reps.cons ?_ (pairs_rep r2 r4 (by simp at hl; omega) fun j T' x' y' e1 e2 e3 => hT (j + 1) T' x' y' (by simpa using e1) (by simpa using e2) (by simpa using e3))
      rw [Rep]
      exact ⟨T, [v, u], rfl, hT 0 T v u rfl rfl rfl, Reps.cons r1 (Reps.cons r3 Reps.nil)⟩
end
theorem se_listZip {X : Cx} {W : WM} {e e2 : Expr} {fa : MA} {p p2 pos pos2 : Pos} (gd : Gd X W) (hg : Gl X "list") (hm : X.mg "list" = none) (hg2 : Gl X "zip") (hm2 : X.mg "zip" = none) (ha : SA X W [e, e2] fa)
    (hs : starEach [e, e2] X.env = (false, eval e X.env) :: starEach [e2] X.env := by rfl) (hpl : (backTo pos2 (starEach [e2] X.env)).any (·.1) = false := by rfl)
    (na : starEach [.Call (.Name "zip" p2) [e, e2] [] pos2] X.env = (false, eval (.Call (.Name "zip" p2) [e, e2] [] pos2) X.env) :: starEach [] X.env := by rfl) :
    SE X W (.Call (.Name "list" p) [.Call (.Name "zip" p2) [e, e2] [] pos2] [] pos) (mCall zipM fa) := by
  refine (pe_listZip gd.calm hg hm hg2 hm2 ha hs hpl na).imp fun σ H Q h => ?_
  refine (rdR.bind (rel2 := Reps X.K) (k := fun ms xs h => zipM xs h) h).mono fun v H1 q => ?_
  obtain ⟨φ, φ1, ms, m, h1, hr, hs, rl, e, p⟩ := q
  unfold zipM at p
  split at p
  · rename_i a b
    obtain ⟨v1, v2, rfl, r1, r2⟩ := rl.two
    have r1' := r1
    have r2' := r2
    rw [Rep] at r1 r2
    obtain ⟨c, vs, rfl, q1, s1⟩ := r1
    obtain ⟨d, us, rfl, q2, s2⟩ := r2
    refine ⟨c, d, vs, us, rfl, SqT.of q1, SqT.of q2, fun S H2 hS pz => ?_⟩
    obtain ⟨sm, Ts, eS, lT, hT⟩ := pz
    have ex : Ext φ1 H1 φ1 H2 := Ext.same sm
    have reps := pairs_rep (Reps.ext ex s1) (Reps.ext ex s2) lT hT
    refine p φ1 _ H2 ex (HR.same sm hr) ?_
    rw [Rep]
    exact ⟨S, _, rfl, eS, hr.freshH hS, reps⟩
  · exact p.elim
end Tb

set_option Elab.async false
set_option linter.all false
set_option maxRecDepth 100000
/-! the head: from the law's def to the row's goal, no repr being under way -/
namespace Tb
open PySem PySem.Spec PyProof.Rows L2

/-- behind the top the heap tracks the script alone, or nothing (the script being a module's own list) -/
structure Head (P : Program) (w : World) (K : PySem.W.Frag) (s : Shared) (a : Addr) (vs : List V) (H : Hp) : Prop where
  only : Only H
  sq : SqL K H a vs
  hok : HOk P w H s.heap
  at_ : ∀ b u, H b = some u → b = a ∧ K.lookup a = none
theorem head_at {P : Program} {w : World} {K : PySem.W.Frag} {s : Shared} {a : Addr} {us : List Value} {ns : List Int} (KX : K.In s.heap) (ha : s.heap.get? a = some { cls := .type "list", data := .seq us.toArray }) (hi : IntsAre us ns) (hl : ns.length ≤ sizeLine) :
    ∃ H, Head P w K s a (ns.map V.int) H := by
  have rv := vals_ints hi
  have hlen := hi.length
  cases hk : K.lookup a with
  | some o =>
    have e := KX a o hk
    rw [ha] at e
    cases e
    refine ⟨fun _ => none, fun _ => .inl rfl, .inr ⟨_, us.toArray, _, hk, rfl, rfl, rfl, ?_, by simpa using rv⟩, fun b u z => ?_, fun b u z => ?_⟩
    · rw [List.size_toArray, hlen]; exact hl
    · cases (show (none : Option HO) = some u from z)
    · cases (show (none : Option HO) = some u from z)
  | none =>
    generalize hob : ({ cls := .type "list", data := .seq us.toArray } : Obj) = ob at ha
    have key : ∀ b u, (if b = a then some (HO.frz ob (.lst (ns.map V.int))) else none) = some u → b = a ∧ u = .frz ob (.lst (ns.map V.int)) := fun b u z => by
      by_cases hb : b = a
      · rw [if_pos hb] at z; cases z; exact ⟨hb, rfl⟩
      · rw [if_neg hb] at z; cases z
    refine ⟨fun b => if b = a then some (.frz ob (.lst (ns.map V.int))) else none, fun b => ?_, .inl (.inr ⟨ob, if_pos rfl⟩), fun b u z => ?_, fun b u z => ⟨(key b u z).1, hk⟩⟩
    · by_cases hb : b = a
      · exact .inr ⟨_, _, if_pos hb⟩
      · exact .inl (if_neg hb)
    · obtain ⟨rfl, rfl⟩ := key b u z
      exact ⟨ha, by rw [List.length_map]; exact hl, us, _, rv, by rw [ha, ← hob]⟩
theorem law_runs {P : Program} {w : World} {K : PySem.W.Frag} {mg mb : Str → Option Value} {k : Nat} {fa a : Addr} {x : Str} {sp : Sp} {s : Shared} {us : List Value} {ns : List Int}
    (KX : K.In s.heap) (hns : s.heap.Ns mainGlobals mg) (hb : s.heap.Ns builtinsNs mb) (hbb : ∀ x : Str, x ≠ "__name__" → mb x = bootBuiltins x) (hlim : s.heap.NoLimit) (hg : s.gens = #[])
    (ha : s.heap.get? a = some { cls := .type "list", data := .seq us.toArray }) (hi : IntsAre us ns) (hl : ns.length ≤ sizeLine) (hr : Room k callerA)
    (F : ∀ base : Heap, K.In base → base.Ns mainGlobals mg → ∃ fd, FnG P w K mg base k fa fd [x] sp ∧ Binds K fd [x] [])
    (hsp : ∀ H : Hp, Only H → SqL K H a (ns.map V.int) → sp [.ref a] H (fun v _ => v = .bl true) fun _ _ _ => False) (hCX : ∀ H e s', L2.CX P w [] H s (fun _ _ _ => False) e s' → False) :
    codeAny (model P w) callerA (.call (.ref fa) ⟨[.ref a], []⟩) (fun r s' => r = .ok (.ret (.bool true)) ∧ OldK s.heap s'.heap ∧ s'.os = s.os ∧ AllBare s'.gens) s := by
  obtain ⟨H, hd⟩ := head_at (P := P) (w := w) KX ha hi hl
  have un : ∀ {b : Addr}, (∀ u, H b = some u → False) → H b = none := fun {b} f => by
    cases q : H b with
    | none => rfl
    | some u => exact (f u q).elim
  have ns' : ∀ {b : Addr} {m : Str → Option Value}, s.heap.Ns b m → (hidT s.heap H).Ns b m := by
    rintro b m ⟨o, es, ep, e, d, r⟩
    refine ⟨o, es, ep, hidT_get e (un fun u q => ?_), d, r⟩
    obtain ⟨rfl, _⟩ := hd.at_ b u q
    rw [ha] at e; cases e
    cases (show Data.seq us.toArray _ = Data.dict es ep from d)
  have inB : K.In (hidT s.heap H) := fun b o e => hidT_get (KX b o e) (un fun u q => by
    obtain ⟨rfl, z⟩ := hd.at_ b u q
    rw [z] at e; cases e)
  have md : Mod K mg (hidT s.heap H) := ⟨inB, ns' hns, ⟨mb, ns' hb, hbb⟩, by obtain ⟨mc, h1, h2⟩ := hlim; exact ⟨mc, ns' h1, h2⟩⟩
  have none0 : ∀ b : Addr, b ∉ ([] : List Addr) := fun b z => by simp at z
  have e0 : Env0 P w K mg (hidT s.heap H) callerA [] s H := ⟨rfl, md, fun b o e => of_hidT e, Nat.le_of_eq (hidT_size _ _), trivial, fun b z => (none0 b z).elim, hd.hok, .of_eq hg⟩
  obtain ⟨fd, F1, bi⟩ := F _ inB (ns' hns)
  refine codeAny_mono (F1.run callerA [] s H ⟨[.ref a], []⟩ [.ref a] [.ref a] _ _ hr rfl e0 (bi s [.ref a] KX rfl) (.cons rfl .nil) (hsp H hd.only hd.sq)) fun r s' h => ?_
  cases r with
  | error e => exact (hCX H e s' h).elim
  | ok fl =>
    cases fl with
    | next => exact h.elim
    | brk => exact h.elim
    | cont => exact h.elim
    | ret u =>
      obtain ⟨v, H', os, bare, uu, hok', r', q⟩ := h
      obtain rfl : v = .bl true := q
      obtain rfl : u = Value.bool true := r'
      refine ⟨rfl, OldK.of_keep fun b o e => ?_, os, bare⟩
      rcases hd.only b with q | ⟨ob, xs, q⟩
      · exact uu.keep b o e q (none0 b) (by simp)
      · obtain ⟨e1, _⟩ := hd.hok b _ q
        obtain ⟨e2, _⟩ := hok' b _ (uu.frzs b ob _ q)
        rw [e] at e1; cases e1
        exact e2
/-- what the mirror's law answers is what the row asks -/
theorem law_sp {K : PySem.W.Frag} {mg : Str → Option Value} {F : MF} {ns : List Int} {H : Hp} {a : Addr} (hO : Only H) (hS : SqL K H a (ns.map V.int)) (h : ∃ h', F [.ro (ns.map M.int)] [] = .ok (.bl true) h') :
    spF K mg 1 F [.ref a] H (fun v _ => v = .bl true) fun _ _ _ => False := by
  obtain ⟨h', e⟩ := h
  have sf : SqF K H a (ns.map V.int) := by
    rcases hS with (q | ⟨o, q⟩) | q
    · rcases hO a with z | ⟨o, xs, z⟩
      · rw [q] at z; cases z
      · rw [q] at z; cases z
    · exact .inl ⟨o, q⟩
    · exact .inr q
  refine ⟨rfl, ⟨[], []⟩, [], [.ro (ns.map M.int)], ⟨rfl, List.nodup_nil, fun i o b z => by simp at z, fun b z => by simp at z⟩, Reps.cons ?_ Reps.nil, ?_⟩
  · rw [Rep]
    exact ⟨a, _, rfl, sf, Reps.of_ints⟩
  · rw [e]
    intro φ' v H' _ _ r
    rw [Rep] at r
    exact r
theorem walk_M {l : PySem.W.OpenLaw} {n k : Nat} {q : Program} {loose : List Str} {XP : (Str → Option Value) → Heap → Prop} {YP : World → Heap → Prop} {d : DefRec} {K : Params → PySem.W.Frag} {x : Str} {kss : List (List Str × List Nat)} {Fm : MF}
    (hn : l.most = some n) (hn2 : n ≤ sizeLine) (hdf : d.params.defaults = []) (hr : Room k callerA) (hY : ∀ (w : World) (h : Heap), YP w h → (K w.params).In h)
    (F : ∀ (w : World) (mg : Str → Option Value) (h : Heap), (K w.params).In h → h.Ns mainGlobals mg → ∀ base : Heap, (K w.params).In base → base.Ns mainGlobals mg → FnAt l.prog w (K w.params) mg base k d.name [x] kss Fm)
    (hF : ∀ ns : List Int, ns.length ≤ n → ∃ h', Fm [.ro (ns.map M.int)] [] = .ok (.bl true) h') : PySem.W.WalkO q loose XP YP l.row.toRowW d [] (fun f vs => PySem.call f vs) := by
  refine Att.attach_call hn hdf fun w s₀ s₁ mg mb fa o pm cd doc a vs ns G Y ho hd hcd hmg hobj hints hlen hg => ?_
  have KX := hY w _ Y
  refine law_runs (x := x) (sp := spF (K w.params) mg 1 Fm) KX G.T.g G.T.b G.T.builtins G.T.nolimit hg hobj hints (Nat.le_trans hlen hn2) hr (fun base hb hn => ?_) (fun H hO hS => law_sp hO hS (hF ns hlen)) fun H e s' c => ?_
  · obtain ⟨f, fd, h1, h2, _, h4, _⟩ := (F w mg _ KX G.T.g base hb hn).ex
    rw [hmg] at h2
    cases h2
    exact ⟨fd, h1, h4⟩
  · obtain ⟨_, _, _, _, _, _, _, _, _, _, _, _, hW⟩ := c
    exact hW
end Tb

set_option Elab.async false
set_option linter.all false
set_option maxRecDepth 100000
namespace Tb
open PySem PySem.Spec PyProof.Rows L2

/-! ### is not None -/
def notNM (x y : M) (h : MH) : R M := match y with
  | .non => .ok (.bl (match x with | .non => false | _ => true)) h
  | _ => .bad
theorem om_notN {K : PySem.W.Frag} : OpM K notNM (fun x y H Q => y = .non ∧ Q (.bl (!decide (x = .non))) H) := by
  intro W φ mh ms σ H x y v u Q hr hs rx ry p
  unfold notNM at p
  split at p
  · rw [Rep] at ry
    refine ⟨ry, p.here hr ?_⟩
    rw [Rep]
    cases x <;> rw [Rep] at rx <;> first | (subst rx; simp) | (obtain ⟨_, _, rfl, _⟩ := rx; simp) | (obtain ⟨_, rfl, _⟩ := rx; simp)
  · exact p.elim

/-! ### a op b op c -/
def mChain (g g' : M → M → MH → R M) (fa fb fc : ME) : ME := fun ms mh => (fa ms mh).bind fun x h1 => (fb ms h1).bind fun y h2 => (g x y h2).bind fun z h3 => match z with
  | .bl true => (fc ms h3).bind fun w h4 => g' y w h4
  | .bl false => .ok (.bl false) h3
  | _ => .bad
section
variable {X : Cx} {W : WM} {a b c e : Expr} {fa fb fc : ME} {pos : Pos} {r r' : R2} {g g' : M → M → MH → R M}
theorem chain_rd {K : PySem.W.Frag} {σ : L2.St} {H : Hp} {Q : VK} (hg : OpM K g r) (hg' : OpM K g' r') (h : rdE K W (mChain g g' fa fb fc) σ H Q) : tChain r r' (rdE K W fa) (rdE K W fb) (rdE K W fc) σ H Q := by
  refine (rdR.bind (rel2 := Rep K) (k := fun ms x h1 => (fb ms h1).bind fun y h2 => (g x y h2).bind fun z h3 => match z with
    | .bl true => (fc ms h3).bind fun w h4 => g' y w h4
    | .bl false => .ok (.bl false) h3
    | _ => .bad) h).mono fun v H1 q => ?_
  obtain ⟨φ, φ1, ms, m, h1, hr, hs, rl, e, p⟩ := q
  refine ⟨φ1, ms, h1, hr, hs, (PostR.bind (rel2 := Rep K) hs p).mono fun u H2 q => ?_⟩
  obtain ⟨φ2, y, h2, hr2, hs2, rl2, e2, p2⟩ := q
  refine hg W φ2 h2 ms σ H2 m y v u _ hr2 hs2 (Rep.ext e2 rl) rl2 ((PostR.bind (rel2 := Rep K) hs2 p2).mono fun z H3 q => ?_)
  obtain ⟨φ3, z', h3, hr3, hs3, rl3, e3, p3⟩ := q
  cases z' with
  | bl k =>
    rw [Rep] at rl3
    refine ⟨k, rl3, ?_⟩
    cases k with
    | true =>
      rw [if_pos rfl]
      refine ⟨φ3, ms, h3, hr3, hs3, (PostR.bind (rel2 := Rep K) hs3 p3).mono fun w H4 q => ?_⟩
      obtain ⟨φ4, w', h4, hr4, hs4, rl4, e4, p4⟩ := q
      exact hg' W φ4 h4 ms σ H4 y w' u w Q hr4 hs4 (Rep.ext e4 (Rep.ext e3 rl2)) rl4 p4
    | false =>
      rw [if_neg Bool.false_ne_true]
      exact p3.here hr3 (by rw [Rep])
  | _ => exact p3.elim
theorem se_chain {op op' : CmpOp} (ho : OpR X (compareOp op) r) (ho' : OpR X (compareOp op') r') (hg : OpM X.K g r) (hg' : OpM X.K g' r') (ha : SE X W a fa) (hb : SE X W b fb) (hc : SE X W c fc) (hm : lastMarks [op, op'] [b, c] = false := by with_unfolding_all rfl) :
    SE X W (.Compare a [op, op'] [b, c] pos) (mChain g g' fa fb fc) := (pe_chain ho ho' ha hb hc hm).imp fun _ _ _ h => chain_rd hg hg' h
theorem st_chain {op op' : CmpOp} (ho : OpR X (compareOp op) r) (ho' : OpR X (compareOp op') r') (hg : OpM X.K g r) (hg' : OpM X.K g' r') (ha : SE X W a fa) (hb : SE X W b fb) (hc : SE X W c fc) (hm : lastMarks [op, op'] [b, c] = false := by with_unfolding_all rfl) :
    ST X W (.Compare a [op, op'] [b, c] pos) (tB' (mChain g g' fa fb fc)) := (pt_chain ho ho' ha hb hc hm).imp fun _ _ _ h => chain_rd hg hg' (asB_rd h)
end

/-! ### list(range(..)) -/
def cRg (a b : Int) : Bool := decide (-(2 ^ 62) ≤ a) && decide (a < 2 ^ 62) && decide (-(2 ^ 62) ≤ b) && decide (b < 2 ^ 62) && decide ((b - a).toNat ≤ 2 ^ 24)
theorem cRg_ok {a b : Int} (h : cRg a b = true) : RgOk a b := by
  simp only [cRg, Bool.and_eq_true, decide_eq_true_eq] at h
  exact ⟨h.1.1.1.1, h.1.1.1.2, h.1.1.2, h.1.2, h.2⟩
def lrgM (bx : Bool) (a b : Int) (h : MH) : R M := if cRg a b = true then mkL bx (rngV a (b - a).toNat) h else .bad
def mLrg1 (bx : Bool) (fa : ME) : ME := fun ms mh => (fa ms mh).bind fun x h => match x with
  | .int n => lrgM bx 0 n h
  | _ => .bad
def mLrg2 (bx : Bool) (fa fb : ME) : ME := fun ms mh => (fa ms mh).bind fun x h1 => (fb ms h1).bind fun y h2 => match x, y with
  | .int i, .int j => lrgM bx i j h2
  | _, _ => .bad
section
variable {X : Cx} {W : WM} {a b c e : Expr} {fa fb fc : ME} {p pos p2 pos2 : Pos}
theorem reps_rg {K : PySem.W.Frag} {φ : Ph} {H : Hp} {a : Int} : ∀ (n : Nat), Reps K φ H (rngV a n) ((List.range n).map fun i => V.int (a + (i : Nat))) := fun n => by
  unfold rngV
  generalize List.range n = l
  induction l with
  | nil => exact Reps.nil
  | cons i l ih => exact Reps.cons (by rw [Rep]) ih
theorem lrg_post {K : PySem.W.Frag} {bx : Bool} {φ : Ph} {H : Hp} {mh : MH} {ms : MS} {σ : L2.St} {i j : Int} {Q : VK} (hr : HR K φ mh H) (p : PostR K W (Rep K) φ H ms σ (lrgM bx i j mh) Q) : RgOk i j ∧ ∀ q, H q = none → Q (.ref q) (upd H q (.lst (rgV i j))) := by
  unfold lrgM at p
  split at p
  · rename_i hc
    exact ⟨cRg_ok hc, fun q hq => new_l hr (reps_rg _) hq p⟩
  · exact p.elim
theorem se_listRg1 (bx : Bool) (gd : Gd X W) (hg : Gl X "list") (hm : X.mg "list" = none) (hg2 : Gl X "range") (hm2 : X.mg "range" = none) (ha : SE X W a fa) (na : starEach [.Call (.Name "range" p2) [a] [] pos2] X.env = (false, eval (.Call (.Name "range" p2) [a] [] pos2) X.env) :: starEach [] X.env := by rfl)
    (na2 : starEach [a] X.env = (false, eval a X.env) :: starEach [] X.env := by rfl) : SE X W (.Call (.Name "list" p) [.Call (.Name "range" p2) [a] [] pos2] [] pos) (mLrg1 bx fa) := by
  refine (pe_listRg gd.calm hg hm (prg_1 hg2 hm2 ha na2) na).imp fun σ H Q h => ?_
  refine (rdR.bind (rel2 := Rep X.K) (k := fun ms x h => match x with
    | .int n => lrgM bx 0 n h
    | _ => .bad) h).mono fun v H1 q => ?_
  obtain ⟨φ, φ1, ms, m, h1, hr, hs, rl, e, p⟩ := q
  cases m with
  | int n => rw [Rep] at rl; exact ⟨n, rl, lrg_post hr p⟩
  | _ => exact p.elim
theorem se_listRg2 (bx : Bool) (gd : Gd X W) (hg : Gl X "list") (hm : X.mg "list" = none) (hg2 : Gl X "range") (hm2 : X.mg "range" = none) (ha : SE X W a fa) (hb : SE X W b fb) (na : starEach [.Call (.Name "range" p2) [a, b] [] pos2] X.env = (false, eval (.Call (.Name "range" p2) [a, b] [] pos2) X.env) :: starEach [] X.env := by rfl)
    (na2 : starEach [a, b] X.env = (false, eval a X.env) :: starEach [b] X.env := by rfl) (nb : starEach [b] X.env = (false, eval b X.env) :: starEach [] X.env := by rfl) (hp : (backTo pos2 (starEach [b] X.env)).any (·.1) = false := by rfl) :
    SE X W (.Call (.Name "list" p) [.Call (.Name "range" p2) [a, b] [] pos2] [] pos) (mLrg2 bx fa fb) := by
  refine (pe_listRg gd.calm hg hm (prg_2 hg2 hm2 ha hb na2 nb hp) na).imp fun σ H Q h => ?_
  refine (rdR.bind (rel2 := Rep X.K) (k := fun ms x h1 => (fb ms h1).bind fun y h2 => match x, y with
    | .int i, .int j => lrgM bx i j h2
    | _, _ => .bad) h).mono fun v H1 q => ?_
  obtain ⟨φ, φ1, ms, m, h1, hr, hs, rl, e, p⟩ := q
  refine ⟨φ1, ms, h1, hr, hs, (PostR.bind (rel2 := Rep X.K) hs p).mono fun u H2 q => ?_⟩
  obtain ⟨φ2, y, h2, hr2, hs2, rl2, e2, p2⟩ := q
  cases m with
  | int i =>
    cases y with
    | int j => rw [Rep] at rl rl2; exact ⟨i, j, rl, rl2, lrg_post hr2 p2⟩
    | _ => exact p2.elim
  | _ => exact p2.elim
end

/-! ### range with a step -/
def cStep (i j c : Int) : Bool := decide (c ≠ 0) && decide (c.natAbs < 1073741824) && Builtin.Range.small i j c && decide (0 ≤ Builtin.Range.rangeSize i j c)
def stpV (lo c : Int) (n : Nat) : List M := (List.range n).map fun i => .int (lo + (i : Nat) * c)
def iRange3 (fa : MA) : MI := fun ms mh => (fa ms mh).bind fun xs h => match xs with
  | [.int i, .int j, .int c] => if cStep i j c = true then .ok (.vals (stpV i c (Builtin.Range.rangeSize i j c).toNat)) h else .bad
  | _ => .bad
theorem itOk_step {K : PySem.W.Frag} {φ : Ph} {H : Hp} {lo c : Int} {n : Nat} : ItOk K φ H (Itc lo c n) (.vals (stpV lo c n)) := by
  intro i φ2 H2 mh2 e hr
  unfold stpV
  refine ⟨fun m hm => ?_, fun hl => (by simpa using hl : n ≤ i)⟩
  simp only [List.getElem?_map, Option.map_eq_some_iff] at hm
  obtain ⟨j, hj, rfl⟩ := hm
  obtain ⟨h1, h2⟩ := List.getElem?_eq_some_iff.mp hj
  rw [List.getElem_range] at h2
  subst h2
  refine ⟨(by simpa using h1 : i < n), fun x H' y => ?_⟩
  obtain ⟨rfl, rfl⟩ := y
  exact ⟨Ext.refl, hr, by rw [Rep]⟩
section
variable {X : Cx} {W : WM} {tg a b c e : Expr} {fas : MA} {p pos tpos : Pos} {elts : List Expr} {kk : Nat}
theorem si_range3 (hg : Gl X "range") (hm : X.mg "range" = none) (ha : SA X W [a, b, c] fas) (hs : starEach [a, b, c] X.env = (false, eval a X.env) :: starEach [b, c] X.env := by rfl) (hpl : (backTo pos (starEach [b, c] X.env)).any (·.1) = false := by rfl) :
    SI X W tg (.Call (.Name "range" p) [a, b, c] [] pos) (iRange3 fas) := by
  refine (pi_range3 hg hm ha hs hpl).imp fun σ H Q h => ?_
  obtain ⟨φ, ms, mh, hr, hs, p⟩ := h
  refine ⟨φ, ms, mh, hr, hs, (PostI.bind (rel := Reps X.K) hs p).mono fun v H1 q => ?_⟩
  obtain ⟨φ1, m, h1, hr1, hs1, rl, e1, p1⟩ := q
  split at p1
  · rename_i i j c
    split at p1
    · rename_i hc
      simp only [Reps, Rep] at rl
      obtain ⟨_, _, rfl, rfl, _, _, rfl, rfl, _, _, rfl, rfl, rfl⟩ := rl
      simp only [cStep, Bool.and_eq_true, decide_eq_true_eq] at hc
      refine ⟨i, j, c, (Builtin.Range.rangeSize i j c).toNat, rfl, ⟨hc.1.1.1, hc.1.1.2, hc.1.2, by omega⟩, p1 φ1 _ H1 Ext.refl hr1 itOk_step⟩
    · exact p1.elim
  · exact p1.elim

/-! ### enumerate(a list that stays) -/
def enumV (xs : List M) : List M := xs.zipIdx.map fun q => .tup [.int (q.2 : Nat), q.1]
def iEnumM : M → MH → R IV := fun m h => match m with
  | .tmp xs => .ok (.vals (enumV xs)) h
  | .ro xs => .ok (.vals (enumV xs)) h
  | _ => .bad
def iEnum' (fa : MA) : MI := fun ms mh => (fa ms mh).bind fun xs h => match xs with
  | [m] => iEnumM m h
  | _ => .bad
theorem itOk_enum {K : PySem.W.Frag} {φ : Ph} {H : Hp} {a : Addr} {vs : List V} {xs : List M} (hk : ∀ φ2 H2, ExtW φ H φ2 H2 → SqL K H2 a vs) (r : Reps K φ H xs vs) : ItOk K φ H (Ite K a) (.vals (enumV xs)) := by
  intro i φ2 H2 mh2 e hr
  have q := hk φ2 H2 e
  refine ⟨fun m hm => ?_, fun hl => ⟨vs, q, by rw [← r.length]; simpa [enumV] using hl⟩⟩
  simp only [enumV, List.getElem?_map, List.getElem?_zipIdx, Option.map_map, Option.map_eq_some_iff] at hm
  obtain ⟨m0, hm0, rfl⟩ := hm
  obtain ⟨v, hv, rv⟩ := Reps.get r hm0
  refine ⟨⟨vs, v, q, hv⟩, fun x H' y => ?_⟩
  obtain ⟨T, x1, rfl, nT, rfl, y⟩ := y
  have := y vs q
  rw [hv] at this; cases this
  refine ⟨Ext.new nT, hr.new nT, ?_⟩
  simp only [Function.comp, Rep]
  refine ⟨T, _, rfl, upd_same, Reps.cons (by rw [Rep]; simp) (Reps.cons (Rep.ext (Ext.new nT) (Rep.extW e rv)) Reps.nil)⟩
theorem si_enum (hg : Gl X "enumerate") (hm : X.mg "enumerate" = none) (ha : SA X W [e] fas) (hs : starEach [e] X.env = [(false, eval e X.env)] := by rfl) :
    SI X W (.Tuple elts kk tpos) (.Call (.Name "enumerate" p) [e] [] pos) (iEnum' fas) := by
  refine (pi_enum hg hm ha hs).imp fun σ H Q h => ?_
  obtain ⟨φ, ms, mh, hr, hs, p⟩ := h
  refine ⟨φ, ms, mh, hr, hs, (PostI.bind (rel := Reps X.K) hs p).mono fun v H1 q => ?_⟩
  obtain ⟨φ1, m, h1, hr1, hs1, rl, e1, p1⟩ := q
  split at p1
  · rename_i m
    obtain ⟨v1, rfl, r1⟩ := rl.one
    unfold iEnumM at p1
    split at p1
    · rw [Rep] at r1
      obtain ⟨a, vs, rfl, z, n, r⟩ := r1
      exact ⟨a, vs, rfl, SqL.of z, p1 φ1 _ H1 Ext.refl hr1 (itOk_enum (fun φ2 H2 e => SqL.of (e.keep _ _ z fun y => n (.inl y))) r)⟩
    · rw [Rep] at r1
      obtain ⟨a, vs, rfl, z, r⟩ := r1
      exact ⟨a, vs, rfl, z.sq, p1 φ1 _ H1 Ext.refl hr1 (itOk_enum (fun φ2 H2 e => (SqF.ext e z).sq) r)⟩
    · exact p1.elim
  · exact p1.elim
end

/-! ### repr -/
def cShow (d : PyData) : Bool := d.showable && !d.hasDict && decide (d.depth ≤ 32) && decide (d.shown.length ≤ LIM)
def reprM (xs : List M) (h : MH) : R M := match xs with
  | [x] => match dat h DP x with
    | some d => if cShow d = true then .ok (.str d.shown) h else .bad
    | none => .bad
  | _ => .bad
def rRepr (K : PySem.W.Frag) : List V → Hp → VK → Prop := fun xs H Q => ∃ x d, xs = [x] ∧ Dp K H x d ∧ cShow d = true ∧ Q (.str d.shown) H
theorem cr_repr {X : Cx} (hg : X.A.guards = some []) (hu : X.A.units + 64 < cLine) : CallR X (.builtin "repr") (rRepr X.K) := by
  intro pins s σ H xs us Q I r h
  obtain ⟨x, d, rfl, hd, hc, q⟩ := h
  obtain ⟨u, rfl, ru⟩ := vals1 r
  simp only [cShow, Bool.and_eq_true, decide_eq_true_eq, Bool.not_eq_true'] at hc
  obtain ⟨⟨⟨c1, c2⟩, c3⟩, c4⟩ := hc
  obtain ⟨as, rd⟩ := Dp.reads I d x u hd ru
  have key : ∀ a, u = .ref a → wpAny (model X.prog X.w) X.A (call (.builtin "repr") [u]) (EP X pins σ Q) X.xe s := fun a e => by
    subst e
    exact repr_of_reads' rd c1 (fun z => by rw [c2] at z; cases z) hg (by omega) (fun _ _ e => e) (fun h' w tk hk => ⟨.str d.shown, H, I.kept hk, ⟨w, rfl⟩, q⟩) (by rw [LIM_eq]; exact c4)
  cases x with
  | non => cases ru; cases hd; exact P.repr_of_none ⟨.str _, H, I.tok _, ⟨_, rfl⟩, q⟩
  | bl b => cases ru; cases hd; exact P.repr_of_bool ⟨.str _, H, I.tok _, ⟨_, rfl⟩, q⟩
  | int i => obtain ⟨t, rfl⟩ := ru; cases hd; exact P.repr_of_int (by simpa [PyData.showable] using c1) ⟨.str _, H, I.tok _, ⟨_, rfl⟩, q⟩
  | str x => obtain ⟨t, rfl⟩ := ru; cases hd; exact P.repr_of_str ⟨.str _, H, I.tok _, ⟨_, rfl⟩, q⟩ (by rw [LIM_eq]; exact c4)
  | ref a => cases ru; exact key a rfl
  | _ => cases hd
theorem cm_repr {K : PySem.W.Frag} : CallM K reprM (rRepr K) := by
  intro W φ mh ms σ H xs vs Q hr hs rx p
  unfold reprM at p
  split at p
  · rename_i x
    obtain ⟨v, rfl, r⟩ := rx.one
    split at p
    · rename_i d hd
      split at p
      · rename_i hc
        exact ⟨v, d, rfl, dat_dp hr _ x v d r hd, hc, p.here hr (by rw [Rep])⟩
      · exact p.elim
    · exact p.elim
  · exact p.elim

/-! ### sorted -/
open PySem.W (EachIs dataLe AllAlike Sortable alike)
def cAlike (ds : List PyData) : Bool := ds.all fun d => ds.all fun e => alike d e
def tupNE : PyData → Bool
  | .tuple (_ :: _) => true
  | _ => false
def tupNo : PyData → Bool
  | .tuple _ => false
  | .none => false
  | _ => true
def cSort (ds : List PyData) : Bool := cAlike ds && (ds.all tupNE || ds.all tupNo)
def datD (h : MH) (m : M) : PyData := (dat h DP m).getD .none
def sortM (bx : Bool) (xs : List M) (h : MH) : R M := match xs with
  | [x] => match lsq h x with
    | some ms => if ms.all (fun m => (dat h DP m).isSome) = true ∧ cSort (ms.map (datD h)) = true then mkL bx (ms.mergeSort (dataLe false (datD h))) h else .bad
    | none => .bad
  | _ => .bad
def rSortD (K : PySem.W.Frag) (β : Type) : List V → Hp → VK → Prop := fun xs H Q => ∃ (a : Addr) (bs : List β) (val : β → V) (enc : β → PyData), xs = [.ref a] ∧ SqL K H a (bs.map val) ∧ (∀ b ∈ bs, Dp K H (val b) (enc b)) ∧ AllAlike (bs.map enc) ∧ Sortable (bs.map enc) ∧
  (∀ b ∈ bs, (enc b).depth ≤ 32) ∧ ∀ p, H p = none → Q (.ref p) (upd H p (.lst ((bs.mergeSort (dataLe false enc)).map val)))
theorem cr_sortD {X : Cx} {β : Type} (hu : X.A.units + 64 < cLine) : CallR X (.builtin "sorted") (rSortD X.K β) := by
  intro pins s σ H xs us Q I r h
  obtain ⟨a, bs, val, enc, rfl, hs, hd, hal, hso, hdp, q⟩ := h
  obtain ⟨its, rv, hl, hz⟩ := I.list hs
  rw [Vals.ref1 r]
  have e1 : ∀ {bs : List β} {its : List Value}, Vals (bs.map val) its → EachIs (fun u b => RelV (val b) u) its bs := fun {bs} => by
    induction bs with
    | nil => intro its r; cases r; exact .nil
    | cons b bs ih =>
      intro its r
      cases r with
      | cons r1 r2 => exact .cons r1 (ih r2)
  have e2 : ∀ {bs : List β} {its : List Value}, (∀ b ∈ bs, Dp X.K H (val b) (enc b)) → Vals (bs.map val) its → EachIs (fun u b => ∃ as, Reads s.heap u (enc b) as) its bs := fun {bs} => by
    induction bs with
    | nil => intro its _ r; cases r; exact .nil
    | cons b bs ih =>
      intro its hb r
      cases r with
      | cons r1 r2 => exact .cons (Dp.reads I (enc b) (val b) _ (hb b List.mem_cons_self) r1) (ih (fun c hc => hb c (List.mem_cons_of_mem _ hc)) r2)
  have e3 : ∀ {bs : List β} {out : List Value}, EachIs (fun u b => RelV (val b) u) out bs → Vals (bs.map val) out := fun {bs} => by
    induction bs with
    | nil => intro out r; cases r; exact .nil
    | cons b bs ih =>
      intro out r
      cases r with
      | cons r1 r2 => exact .cons r1 (ih r2)
  have hlen : bs.length ≤ sizeLine := by rw [List.length_map] at hz; exact hz
  refine PySem.W.sorted_data (β := β) (bs := bs) (enc := enc) hl.isList (e1 rv) (e2 hd rv) hal hso hlen (fun b hb => by have := hdp b hb; omega) fun out ho eo => ?_
  obtain ⟨ep, he⟩ := PyProof.Rows.sortedAll_at s.heap its out.toArray
  have hl2 : ((bs.mergeSort (dataLe false enc)).map val).length ≤ sizeLine := by rw [List.length_map, List.length_mergeSort]; exact hlen
  exact ⟨.ref _, upd H (s.heap.objs.size + 1) (.lst ((bs.mergeSort (dataLe false enc)).map val)), I.laid (t' := s.toks) (fun _ _ => PyProof.Rows.sortedAll_old) (Nat.le_succ _) ⟨hl2, out, ep, e3 eo, he⟩, rfl, q _ (I.hok.fresh (Nat.le_succ _))⟩
theorem cSort_ok {ds : List PyData} (h : cSort ds = true) : AllAlike ds ∧ Sortable ds := by
  unfold cSort cAlike at h
  simp only [Bool.and_eq_true, Bool.or_eq_true, List.all_eq_true] at h
  refine ⟨fun d hd e he => h.1 d hd e he, ?_⟩
  rcases h.2 with q | q
  · refine .inl fun d hd => ?_
    have := q d hd
    cases d with
    | tuple l =>
      cases l with
      | nil => simp [tupNE] at this
      | cons x r => exact ⟨x, r, rfl⟩
    | _ => simp [tupNE] at this
  · refine .inr fun d hd => ?_
    have := q d hd
    cases d with
    | tuple l => simp [tupNo] at this
    | none => simp [tupNo] at this
    | _ => exact ⟨by simp, by simp⟩
theorem zip_map {α β : Type} : ∀ {xs : List α} {ys : List β}, xs.length = ys.length → (xs.zip ys).map (·.1) = xs ∧ (xs.zip ys).map (·.2) = ys
  | [], [], _ => ⟨rfl, rfl⟩
  | x :: xs, y :: ys, h => by
    obtain ⟨a, b⟩ := zip_map (xs := xs) (ys := ys) (by simpa using h)
    exact ⟨by rw [List.zip_cons_cons, List.map_cons, a], by rw [List.zip_cons_cons, List.map_cons, b]⟩
theorem Reps.zip_mem {K : PySem.W.Frag} {φ : Ph} {H : Hp} : ∀ {xs : List M} {vs : List V}, Reps K φ H xs vs → ∀ b ∈ xs.zip vs, Rep K φ H b.1 b.2
  | [], _, _, b, hb => by simp at hb
  | x :: xs, _, h, b, hb => by
    rw [Reps] at h
    obtain ⟨v, r, rfl, h1, h2⟩ := h
    rw [List.zip_cons_cons] at hb
    rcases List.mem_cons.mp hb with rfl | hb
    · exact h1
    · exact Reps.zip_mem h2 b hb
theorem Reps.of_pairs {K : PySem.W.Frag} {φ : Ph} {H : Hp} : ∀ {bs : List (M × V)}, (∀ b ∈ bs, Rep K φ H b.1 b.2) → Reps K φ H (bs.map (·.1)) (bs.map (·.2))
  | [], _ => Reps.nil
  | b :: bs, h => Reps.cons (h b List.mem_cons_self) (Reps.of_pairs fun c hc => h c (List.mem_cons_of_mem _ hc))
theorem cm_sort {K : PySem.W.Frag} {bx : Bool} : CallM K (sortM bx) (rSortD K (M × V)) := by
  intro W φ mh ms σ H xs vs Q hr hs rx p
  unfold sortM at p
  split at p
  · rename_i x
    obtain ⟨v, rfl, r⟩ := rx.one
    split at p
    · rename_i l hl
      split at p
      · rename_i hc
        obtain ⟨hd, hc⟩ := hc
        obtain ⟨a, us, rfl, q, rs⟩ := lsq_of hr r hl
        obtain ⟨z1, z2⟩ := zip_map (xs := l) (ys := us) rs.length
        have hds : ∀ m ∈ l, dat mh DP m = some (datD mh m) := fun m hm => by
          have := List.all_eq_true.mp hd m hm
          unfold datD
          cases e : dat mh DP m with
          | none => rw [e] at this; cases this
          | some d => rfl
        have mem : ∀ b ∈ l.zip us, b.1 ∈ l := fun b hb => (List.of_mem_zip (show (b.1, b.2) ∈ l.zip us from hb)).1
        have em : (l.zip us).map (fun b : M × V => datD mh b.1) = l.map (datD mh) := by
          have e : (l.zip us).map (fun b : M × V => datD mh b.1) = ((l.zip us).map (·.1)).map (datD mh) := by rw [List.map_map]; rfl
          rw [e, z1]
        obtain ⟨c1, c2⟩ := cSort_ok hc
        refine ⟨a, l.zip us, (·.2), fun b => datD mh b.1, rfl, by rw [z2]; exact q, fun b hb => dat_dp hr DP b.1 b.2 _ (Reps.zip_mem rs b hb) (hds _ (mem b hb)), by rw [em]; exact c1, by rw [em]; exact c2, fun b hb => ?_, fun p' hp => ?_⟩
        · have := (dat_lay DP b.1 _ (hds _ (mem b hb))).2
          exact Nat.le_trans this (by decide)
        · have es : l.mergeSort (dataLe false (datD mh)) = ((l.zip us).mergeSort (dataLe false fun b => datD mh b.1)).map (·.1) := by
            rw [List.map_mergeSort (r := dataLe false fun b : M × V => datD mh b.1) (s := dataLe false (datD mh)) (f := fun b : M × V => b.1) (fun a _ b _ => rfl), z1]
          rw [es] at p
          exact new_l hr (Reps.of_pairs fun b hb => Reps.zip_mem rs b ((List.mergeSort_perm _ _).mem_iff.mp hb)) hp p
      · exact p.elim
    · exact p.elim
  · exact p.elim
end Tb

set_option Elab.async false
set_option linter.all false
set_option maxRecDepth 100000
/-! the rules by short names -/
namespace Tb
open PySem PySem.Spec PyProof.Rows L2

theorem ru {k : Nat} {A : Around} (hr : Room k A) : A.units + 200 < cLine := by have := hr.un; omega
theorem bt_len : bootBuiltins "len" = some (.builtin "len") := by decide +kernel
theorem bt_abs : bootBuiltins "abs" = some (.builtin "abs") := by decide +kernel
theorem bt_sum : bootBuiltins "sum" = some (.builtin "sum") := by decide +kernel
theorem bt_max : bootBuiltins "max" = some (.builtin "max") := by decide +kernel
theorem bt_min : bootBuiltins "min" = some (.builtin "min") := by decide +kernel
theorem bt_all : bootBuiltins "all" = some (.builtin "all") := by decide +kernel
theorem bt_any : bootBuiltins "any" = some (.builtin "any") := by decide +kernel
theorem bt_isi : bootBuiltins "isinstance" = some (.builtin "isinstance") := by decide +kernel
theorem bt_sorted : bootBuiltins "sorted" = some (.builtin "sorted") := by decide +kernel
theorem bt_repr : bootBuiltins "repr" = some (.builtin "repr") := by decide +kernel
theorem bt_int : bootBuiltins "int" = some (.type "int") := by decide +kernel
theorem bt_bool : bootBuiltins "bool" = some (.type "bool") := by decide +kernel
theorem bt_str : bootBuiltins "str" = some (.type "str") := by decide +kernel
theorem bt_tuple : bootBuiltins "tuple" = some (.type "tuple") := by decide +kernel
theorem bt_list : bootBuiltins "list" = some (.type "list") := by decide +kernel
theorem bt_dict : bootBuiltins "dict" = some (.type "dict") := by decide +kernel

section
variable {X : Cx} {W : WM} {a b c e : Expr} {es : List Expr} {fa fb fc f g : ME} {pos p p2 apos : Pos} {fas : MA}
/-! comparisons -/
theorem se_eq (hu : X.A.units + 200 < cLine) (ha : SE X W a fa) (hb : SE X W b fb) : SE X W (.Compare a [.Eq] [b] pos) (mBin eqM fa fb) := se_cmp (op_eqX (by omega)) om_eq ha hb (nomark b)
theorem st_eq (hu : X.A.units + 200 < cLine) (ha : SE X W a fa) (hb : SE X W b fb) : ST X W (.Compare a [.Eq] [b] pos) (tB' (mBin eqM fa fb)) := st_cmp (op_eqX (by omega)) om_eq ha hb (nomark b)
theorem se_ne (hu : X.A.units + 200 < cLine) (ha : SE X W a fa) (hb : SE X W b fb) : SE X W (.Compare a [.NotEq] [b] pos) (mBin neM fa fb) := se_cmp (op_neX (by omega)) om_ne ha hb (nomark b)
theorem st_ne (hu : X.A.units + 200 < cLine) (ha : SE X W a fa) (hb : SE X W b fb) : ST X W (.Compare a [.NotEq] [b] pos) (tB' (mBin neM fa fb)) := st_cmp (op_neX (by omega)) om_ne ha hb (nomark b)
theorem se_lt (ha : SE X W a fa) (hb : SE X W b fb) : SE X W (.Compare a [.Lt] [b] pos) (mBin ltM fa fb) := se_cmp op_lt om_lt ha hb (nomark b)
theorem st_lt (ha : SE X W a fa) (hb : SE X W b fb) : ST X W (.Compare a [.Lt] [b] pos) (tB' (mBin ltM fa fb)) := st_cmp op_lt om_lt ha hb (nomark b)
theorem se_le (ha : SE X W a fa) (hb : SE X W b fb) : SE X W (.Compare a [.LtE] [b] pos) (mBin leM fa fb) := se_cmp op_le om_le ha hb (nomark b)
theorem st_le (ha : SE X W a fa) (hb : SE X W b fb) : ST X W (.Compare a [.LtE] [b] pos) (tB' (mBin leM fa fb)) := st_cmp op_le om_le ha hb (nomark b)
theorem se_gt (ha : SE X W a fa) (hb : SE X W b fb) : SE X W (.Compare a [.Gt] [b] pos) (mBin gtM fa fb) := se_cmp op_gt om_gt ha hb (nomark b)
theorem st_gt (ha : SE X W a fa) (hb : SE X W b fb) : ST X W (.Compare a [.Gt] [b] pos) (tB' (mBin gtM fa fb)) := st_cmp op_gt om_gt ha hb (nomark b)
theorem se_ge (ha : SE X W a fa) (hb : SE X W b fb) : SE X W (.Compare a [.GtE] [b] pos) (mBin geM fa fb) := se_cmp op_ge om_ge ha hb (nomark b)
theorem st_ge (ha : SE X W a fa) (hb : SE X W b fb) : ST X W (.Compare a [.GtE] [b] pos) (tB' (mBin geM fa fb)) := st_cmp op_ge om_ge ha hb (nomark b)
theorem op_inA (hu : X.A.units + 200 < cLine) : OpR X (compareOp .In) (fun x y H Q => rInDct false x y H Q ∨ rInD X.K x y H Q ∨ rInDT X.K x y H Q) := (op_inDct (by omega)).or ((op_inD (by omega)).or (op_inDT (by omega)))
theorem op_notInA (hu : X.A.units + 200 < cLine) : OpR X (compareOp .NotIn) (fun x y H Q => rInDct true x y H Q ∨ rNotInD X.K x y H Q ∨ rNotInDT X.K x y H Q) := (op_notInDct (by omega)).or ((op_notInD (by omega)).or (op_notInDT (by omega)))
theorem se_in (hu : X.A.units + 200 < cLine) (ha : SE X W a fa) (hb : SE X W b fb) (hm : behindInMarks .In b = false := by with_unfolding_all rfl) : SE X W (.Compare a [.In] [b] pos) (mBin (inM false) fa fb) := se_cmp (op_inA hu) om_in ha hb hm
theorem st_in (hu : X.A.units + 200 < cLine) (ha : SE X W a fa) (hb : SE X W b fb) (hm : behindInMarks .In b = false := by with_unfolding_all rfl) : ST X W (.Compare a [.In] [b] pos) (tB' (mBin (inM false) fa fb)) := st_cmp (op_inA hu) om_in ha hb hm
theorem se_notIn (hu : X.A.units + 200 < cLine) (ha : SE X W a fa) (hb : SE X W b fb) (hm : behindInMarks .NotIn b = false := by with_unfolding_all rfl) : SE X W (.Compare a [.NotIn] [b] pos) (mBin (inM true) fa fb) := se_cmp (op_notInA hu) om_notIn ha hb hm
theorem st_notIn (hu : X.A.units + 200 < cLine) (ha : SE X W a fa) (hb : SE X W b fb) (hm : behindInMarks .NotIn b = false := by with_unfolding_all rfl) : ST X W (.Compare a [.NotIn] [b] pos) (tB' (mBin (inM true) fa fb)) := st_cmp (op_notInA hu) om_notIn ha hb hm
theorem se_is (ha : SE X W a fa) (hb : SE X W b fb) : SE X W (.Compare a [.Is] [b] pos) (mBin (isM false) fa fb) := se_cmp op_isC om_is ha hb (nomark b)
theorem st_is (ha : SE X W a fa) (hb : SE X W b fb) : ST X W (.Compare a [.Is] [b] pos) (tB' (mBin (isM false) fa fb)) := st_cmp op_isC om_is ha hb (nomark b)
theorem se_isNot (ha : SE X W a fa) (hb : SE X W b fb) : SE X W (.Compare a [.IsNot] [b] pos) (mBin notNM fa fb) := se_cmp op_notN om_notN ha hb (nomark b)
theorem st_isNot (ha : SE X W a fa) (hb : SE X W b fb) : ST X W (.Compare a [.IsNot] [b] pos) (tB' (mBin notNM fa fb)) := st_cmp op_notN om_notN ha hb (nomark b)
/-! built-ins -/
theorem se_len (hm : X.mg "len" = none) (ha : SA X W [e] fas) (hg : Gl X "len" := by rfl) (he : starEach [e] X.env = (false, eval e X.env) :: starEach [] X.env := by rfl) : SE X W (.Call (.Name "len" p) [e] [] pos) (mCall lenM fas) := se_callB call_len_seq cm_len hg hm bt_len ha (he := he)
theorem se_abs (hm : X.mg "abs" = none) (ha : SA X W [e] fas) (hg : Gl X "abs" := by rfl) (he : starEach [e] X.env = (false, eval e X.env) :: starEach [] X.env := by rfl) : SE X W (.Call (.Name "abs" p) [e] [] pos) (mCall absM fas) := se_callB call_abs cm_abs hg hm bt_abs ha (he := he)
theorem se_sum (gd : Gd X W) (hm : X.mg "sum" = none) (ha : SA X W [e] fas) (hg : Gl X "sum" := by rfl) (he : starEach [e] X.env = (false, eval e X.env) :: starEach [] X.env := by rfl) : SE X W (.Call (.Name "sum" p) [e] [] pos) (mCall sumM fas) := se_callB (cr_sum gd.calm) cm_sum hg hm bt_sum ha (he := he)
theorem se_maxL (gd : Gd X W) (hm : X.mg "max" = none) (ha : SA X W [e] fas) (hg : Gl X "max" := by rfl) (he : starEach [e] X.env = (false, eval e X.env) :: starEach [] X.env := by rfl) : SE X W (.Call (.Name "max" p) [e] [] pos) (mCall maxLM fas) := se_callB (cr_max gd.calm) cm_maxL hg hm bt_max ha (he := he)
theorem se_minL (gd : Gd X W) (hm : X.mg "min" = none) (ha : SA X W [e] fas) (hg : Gl X "min" := by rfl) (he : starEach [e] X.env = (false, eval e X.env) :: starEach [] X.env := by rfl) : SE X W (.Call (.Name "min" p) [e] [] pos) (mCall minLM fas) := se_callB (cr_min gd.calm) cm_minL hg hm bt_min ha (he := he)
theorem se_max2 (gd : Gd X W) (hm : X.mg "max" = none) (ha : SA X W [a, b] fas) (hg : Gl X "max" := by rfl) (he : starEach [a, b] X.env = (false, eval a X.env) :: starEach [b] X.env := by rfl) (hpl : (backTo pos (starEach [b] X.env)).any (·.1) = false := by rfl) :
    SE X W (.Call (.Name "max" p) [a, b] [] pos) (mCall max2M fas) := se_callB (call_max2 gd.calm) cm_max2 hg hm bt_max ha (he := he) (hpl := hpl)
theorem se_min2 (gd : Gd X W) (hm : X.mg "min" = none) (ha : SA X W [a, b] fas) (hg : Gl X "min" := by rfl) (he : starEach [a, b] X.env = (false, eval a X.env) :: starEach [b] X.env := by rfl) (hpl : (backTo pos (starEach [b] X.env)).any (·.1) = false := by rfl) :
    SE X W (.Call (.Name "min" p) [a, b] [] pos) (mCall min2M fas) := se_callB (call_min2 gd.calm) cm_min2 hg hm bt_min ha (he := he) (hpl := hpl)
theorem se_all (gd : Gd X W) (hm : X.mg "all" = none) (ha : SA X W [e] fas) (hg : Gl X "all" := by rfl) (he : starEach [e] X.env = (false, eval e X.env) :: starEach [] X.env := by rfl) : SE X W (.Call (.Name "all" p) [e] [] pos) (mCall allM fas) := se_callB (cr_all gd.calm) cm_all hg hm bt_all ha (he := he)
theorem se_any (gd : Gd X W) (hm : X.mg "any" = none) (ha : SA X W [e] fas) (hg : Gl X "any" := by rfl) (he : starEach [e] X.env = (false, eval e X.env) :: starEach [] X.env := by rfl) : SE X W (.Call (.Name "any" p) [e] [] pos) (mCall anyM fas) := se_callB (cr_any gd.calm) cm_any hg hm bt_any ha (he := he)
theorem se_isi (hm : X.mg "isinstance" = none) (ha : SA X W [a, b] fas) (hg : Gl X "isinstance" := by rfl) (he : starEach [a, b] X.env = (false, eval a X.env) :: starEach [b] X.env := by rfl) (hpl : (backTo pos (starEach [b] X.env)).any (·.1) = false := by rfl) :
    SE X W (.Call (.Name "isinstance" p) [a, b] [] pos) (mCall isiM fas) := se_callB call_isi cm_isi hg hm bt_isi ha (he := he) (hpl := hpl)
theorem se_sorted (bx : Bool) (hu : X.A.units + 200 < cLine) (hm : X.mg "sorted" = none) (ha : SA X W [e] fas) (hg : Gl X "sorted" := by rfl) (he : starEach [e] X.env = (false, eval e X.env) :: starEach [] X.env := by rfl) : SE X W (.Call (.Name "sorted" p) [e] [] pos) (mCall (sortM bx) fas) :=
  se_callB (cr_sortD (by omega)) cm_sort hg hm bt_sorted ha (he := he)
theorem se_repr (gd : Gd X W) (hu : X.A.units + 200 < cLine) (hm : X.mg "repr" = none) (ha : SA X W [e] fas) (hg : Gl X "repr" := by rfl) (he : starEach [e] X.env = (false, eval e X.env) :: starEach [] X.env := by rfl) : SE X W (.Call (.Name "repr" p) [e] [] pos) (mCall reprM fas) :=
  se_callB (cr_repr gd.gs (by omega)) cm_repr hg hm bt_repr ha (he := he)
theorem se_toInt (hm : X.mg "int" = none) (ha : SA X W [e] fas) (hg : Gl X "int" := by rfl) (he : starEach [e] X.env = (false, eval e X.env) :: starEach [] X.env := by rfl) : SE X W (.Call (.Name "int" p) [e] [] pos) (mCall intM fas) := se_callTy call_int1 cm_int hg hm bt_int ha (he := he)
theorem se_toList (bx : Bool) (hm : X.mg "list" = none) (ha : SA X W [e] fas) (hg : Gl X "list" := by rfl) (he : starEach [e] X.env = (false, eval e X.env) :: starEach [] X.env := by rfl) : SE X W (.Call (.Name "list" p) [e] [] pos) (mCall (listM bx) fas) := se_callTy call_list_of cm_list hg hm bt_list ha (he := he)
theorem se_toTup (hm : X.mg "tuple" = none) (ha : SA X W [e] fas) (hg : Gl X "tuple" := by rfl) (he : starEach [e] X.env = (false, eval e X.env) :: starEach [] X.env := by rfl) : SE X W (.Call (.Name "tuple" p) [e] [] pos) (mCall tupleM fas) := se_callTy call_tuple_of cm_tuple hg hm bt_tuple ha (he := he)
theorem se_append {o : Expr} {fo : ME} (ho : SE X W o fo) (ha : SA X W [e] fas) (hbase : attributeBase o "append" X.env (eval o X.env) = eval o X.env := by rfl)
    (hfew : ((backTo pos (starEach [e] X.env)).all (fun x => !x.1) && (backToKw pos (keywordEach [] X.env)).all (fun x => x.1.isSome) && decide ([e].length + ([] : List Keyword).length + (if ([] : List Keyword).isEmpty then 0 else 1) < 30)) = true := by rfl)
    (hline : (apos.endLine == pos.line) = true := by rfl) (hs : starEach [e] X.env = (false, eval e X.env) :: starEach [] X.env := by rfl) : SE X W (.Call (.Attribute o "append" apos) [e] [] pos) (mMeth "list" appM fo fas) :=
  se_meth (.inl rfl) PySem.F.plainAttrs_list PySem.F.slot_list_append PySem.F.type_list_append mt_append mm_app ho ha hbase hfew hline hs
theorem se_extend {o : Expr} {fo : ME} (ho : SE X W o fo) (ha : SA X W [e] fas) (hbase : attributeBase o "extend" X.env (eval o X.env) = eval o X.env := by rfl)
    (hfew : ((backTo pos (starEach [e] X.env)).all (fun x => !x.1) && (backToKw pos (keywordEach [] X.env)).all (fun x => x.1.isSome) && decide ([e].length + ([] : List Keyword).length + (if ([] : List Keyword).isEmpty then 0 else 1) < 30)) = true := by rfl)
    (hline : (apos.endLine == pos.line) = true := by rfl) (hs : starEach [e] X.env = (false, eval e X.env) :: starEach [] X.env := by rfl) : SE X W (.Call (.Attribute o "extend" apos) [e] [] pos) (mMeth "list" extM fo fas) :=
  se_meth (.inl rfl) PySem.F.plainAttrs_list PySem.F.slot_list_extend PySem.F.type_list_extend mt_extend mm_ext ho ha hbase hfew hline hs
theorem se_pop1 {o : Expr} {fo : ME} (ho : SE X W o fo) (ha : SA X W [e] fas) (hbase : attributeBase o "pop" X.env (eval o X.env) = eval o X.env := by rfl)
    (hfew : ((backTo pos (starEach [e] X.env)).all (fun x => !x.1) && (backToKw pos (keywordEach [] X.env)).all (fun x => x.1.isSome) && decide ([e].length + ([] : List Keyword).length + (if ([] : List Keyword).isEmpty then 0 else 1) < 30)) = true := by rfl)
    (hline : (apos.endLine == pos.line) = true := by rfl) (hs : starEach [e] X.env = (false, eval e X.env) :: starEach [] X.env := by rfl) : SE X W (.Call (.Attribute o "pop" apos) [e] [] pos) (mMeth "list" popM fo fas) :=
  se_meth (.inl rfl) PySem.F.plainAttrs_list PySem.F.slot_list_pop PySem.F.type_list_pop mt_popA mm_pop ho ha hbase hfew hline hs
theorem se_pop0 {o : Expr} {fo : ME} (ho : SE X W o fo) (hbase : attributeBase o "pop" X.env (eval o X.env) = eval o X.env := by rfl) (hline : (apos.endLine == pos.line) = true := by rfl) :
    SE X W (.Call (.Attribute o "pop" apos) [] [] pos) (mMeth "list" popM fo aNil) := se_meth0 (.inl rfl) PySem.F.plainAttrs_list PySem.F.slot_list_pop PySem.F.type_list_pop mt_popA mm_pop ho hbase hline
end

/-! ### a run's litter swept: the places that came are gone, what is handed back is a value -/
def low (n : Nat) : Nat → Option M := fun k => if k < n then some (.loc k) else none
def gcAt (h : MH) (n : Nat) : Nat → Nat → Option M
  | 0, _ => none
  | k + 1, i => if i < n then some (.loc i) else match h[i]? with
    | some (.lst xs) => (frzL (gcAt h n k) xs).map M.tmp
    | _ => none
def frzO (f : Nat → Option M) : O → Option O
  | .lst xs => (frzL f xs).map O.lst
  | .dk kvs => if (kvs.all fun q => clo q.2) = true then some (.dk kvs) else none
  | .dt kvs => if (kvs.all fun q => clo q.2) = true then some (.dt kvs) else none
def gcF (F : MF) : MF := fun args h => match F args h with
  | .ok r h' => match frzM (gcAt h' h.length 6) r, optMap (frzO (low h.length)) (h'.take h.length) with
    | some m, some h2 => .ok m h2
    | _, _ => .bad
  | .err e h' => match e.fld, optMap (frzO (low h.length)) (h'.take h.length) with
    | none, some h2 => .err e h2
    | _, _ => .bad
  | .bad => .bad
theorem optMap_len {α β : Type} {f : α → Option β} : ∀ {xs : List α} {ys : List β}, optMap f xs = some ys → ys.length = xs.length
  | [], ys, e => by cases e; rfl
  | x :: xs, ys, e => by
    unfold optMap at e
    split at e
    · split at e
      · rename_i hys
        cases e
        rw [List.length_cons, List.length_cons, optMap_len hys]
      · cases e
    · cases e
theorem optMap_get {α β : Type} {f : α → Option β} : ∀ {xs : List α} {ys : List β} {i : Nat} {y : β}, optMap f xs = some ys → ys[i]? = some y → ∃ x, xs[i]? = some x ∧ f x = some y
  | [], ys, i, y, e, h => by cases e; simp at h
  | x :: xs, ys, i, y, e, h => by
    unfold optMap at e
    split at e
    · rename_i z hz
      split at e
      · rename_i zs hzs
        cases e
        cases i with
        | zero => simp at h; subst h; exact ⟨x, rfl, hz⟩
        | succ i => exact optMap_get (i := i) hzs (by simpa using h)
      · cases e
    · cases e
section
variable {K : PySem.W.Frag} {mg : Str → Option Value} {φ φ' : Ph} {H H' : Hp}
theorem gcF_ok {n : Nat} {F : MF} {vs : List V} {Q : VK} {E : XK} (h : spF K mg n (gcF F) vs H Q E) : spF K mg n F vs H Q E := by
  obtain ⟨hl, φ, mh, args, hr, r, p⟩ := h
  refine ⟨hl, φ, mh, args, hr, r, ?_⟩
  unfold gcF at p
  -- behind the run, seen without the new places
  have core : ∀ φ' H' h' h2, Ext φ H φ' H' → HR K φ' h' H' → optMap (frzO (low mh.length)) (h'.take mh.length) = some h2 →
      Ext φ H φ H' ∧ HR K φ h2 H' ∧ (∀ a, φ.Has a → φ'.Has a) ∧ (∀ (k : Nat) a, k < mh.length → φ'.ls[k]? = some a → φ.ls[k]? = some a) ∧ ∀ (k : Nat) a, ¬ k < mh.length → φ'.ls[k]? = some a → ¬ φ.Has a := fun φ' H' h' h2 e hr' ho => by
    obtain ⟨new, e1, fr⟩ := e.pre
    have hh : ∀ a, φ.Has a → φ'.Has a := fun a z => by
      rcases z with z | z
      · exact .inl (by rw [e1]; exact List.mem_append_left _ z)
      · exact .inr (by rw [e.rs]; exact z)
    have lo : ∀ (k : Nat) a, k < mh.length → φ'.ls[k]? = some a → φ.ls[k]? = some a := fun k a hk q => by
      rw [e1, List.getElem?_append_left (by rw [hr.len]; exact hk)] at q
      exact q
    have hi : ∀ (k : Nat) a, ¬ k < mh.length → φ'.ls[k]? = some a → ¬ φ.Has a := fun k a hk q z => by
      rw [e1, List.getElem?_append_right (by rw [hr.len]; omega)] at q
      have f := fr a (List.mem_of_getElem? q)
      exact (hr.freshH f) z
    have lowR : ∀ (k : Nat) (m : M) (a : Addr), low mh.length k = some m → φ'.ls[k]? = some a → Rep K φ H' m (.ref a) := fun k m a q z => by
      unfold low at q
      split at q
      · rename_i hk
        cases q
        rw [Rep]
        exact ⟨a, rfl, lo k a hk z⟩
      · cases q
    refine ⟨Ext.mk' ⟨[], by simp, by simp⟩ rfl e.keep e.there e.tups e.frzs, ⟨?_, hr.nd, fun i o a h1 h3 => ?_, fun a ha => hr'.res a (by rw [e.rs]; exact ha)⟩, hh, lo, hi⟩
    · have l1 := optMap_len ho
      have l2 := hr'.len
      rw [l1, List.length_take, hr.len]
      have : mh.length ≤ h'.length := by rw [← l2, e1, List.length_append, hr.len]; omega
      omega
    · obtain ⟨o', g1, g2⟩ := optMap_get ho h1
      have il : i < mh.length := by
        obtain ⟨q, _⟩ := List.getElem?_eq_some_iff.mp h3
        rw [hr.len] at q
        exact q
      rw [List.getElem?_take_of_lt il] at g1
      have h3' : φ'.ls[i]? = some a := by rw [e1, List.getElem?_append_left (by rw [hr.len]; exact il)]; exact h3
      have q := hr'.obj i o' a g1 h3'
      cases o' with
      | lst xs =>
        obtain ⟨ys, g3, rfl⟩ := Option.map_eq_some_iff.mp g2
        obtain ⟨us, q1, q2⟩ := q
        exact ⟨us, q1, frzL_rep lowR hh g3 q2⟩
      | dk kvs =>
        have g2 : (if (kvs.all fun q => clo q.2) = true then some (O.dk kvs) else none) = some o := g2
        split at g2
        · rename_i hc
          cases g2
          obtain ⟨us, q1, q2⟩ := q
          exact ⟨us, q1, kv_low hh kvs us hc q2⟩
        · cases g2
      | dt kvs =>
        have g2 : (if (kvs.all fun q => clo q.2) = true then some (O.dt kvs) else none) = some o := g2
        split at g2
        · rename_i hc
          cases g2
          obtain ⟨us, q1, q2⟩ := q
          exact ⟨us, q1, kv_low hh kvs us hc q2⟩
        · cases g2
  generalize F args mh = res at p
  cases res with
  | bad => exact p.elim
  | ok m h' =>
    intro φ' v H' e hr' rm
    have p : PostF K mg φ H (match frzM (gcAt h' mh.length 6) m, optMap (frzO (low mh.length)) (h'.take mh.length) with
      | some m, some h2 => R.ok m h2
      | _, _ => .bad) Q E := p
    split at p
    · rename_i m' h2 hm ho
      obtain ⟨c1, c2, c3, c4, c5⟩ := core φ' H' h' h2 e hr' ho
      refine p φ v H' c1 c2 (frz_rep (gcAt_rep hr' c3 c4 c5 6) c3 hm rm)
    · exact p.elim
  | err er h' =>
    intro φ' H' cls d e hr' rep
    have p : PostF K mg φ H (match er.fld, optMap (frzO (low mh.length)) (h'.take mh.length) with
      | none, some h2 => R.err er h2
      | _, _ => .bad) Q E := p
    split at p
    · rename_i h2 hf ho
      obtain ⟨c1, c2, _, _, _⟩ := core φ' H' h' h2 e hr' ho
      obtain ⟨e1, e2⟩ := rep
      rw [hf] at e2
      exact p φ H' cls d c1 c2 ⟨e1, by rw [hf]; exact e2⟩
    · exact p.elim
where
  kv_low {κ : Type} {φ φ' : Ph} {H' : Hp} (hh : ∀ a, φ.Has a → φ'.Has a) : ∀ (kvs : List (κ × M)) (us : List (κ × V)), (kvs.all fun q => clo q.2) = true → RepKV K φ' H' kvs us → RepKV K φ H' kvs us
    | [], us, _, h => by cases h; exact .nil
    | q :: kvs, us, hc, h => by
      cases h with
      | cons h1 h2 =>
        rw [List.all_cons, Bool.and_eq_true] at hc
        exact .cons ⟨h1.1, Rep.clo_to hh hc.1 h1.2⟩ (kv_low hh kvs _ hc.2 h2)
  gcAt_rep {φ φ' : Ph} {H' : Hp} {h' : MH} {n : Nat} (hr : HR K φ' h' H') (hh : ∀ a, φ.Has a → φ'.Has a) (lo : ∀ (k : Nat) a, k < n → φ'.ls[k]? = some a → φ.ls[k]? = some a) (hi : ∀ (k : Nat) a, ¬ k < n → φ'.ls[k]? = some a → ¬ φ.Has a) :
      ∀ (k i : Nat) (m : M) (a : Addr), gcAt h' n k i = some m → φ'.ls[i]? = some a → Rep K φ H' m (.ref a)
    | 0, _, _, _, e, _ => by cases e
    | k + 1, i, m, a, e, ha => by
      unfold gcAt at e
      split at e
      · rename_i hlt
        cases e
        rw [Rep]
        exact ⟨a, rfl, lo i a hlt ha⟩
      · rename_i hge
        split at e
        · rename_i xs hx
          obtain ⟨ys, e1, rfl⟩ := Option.map_eq_some_iff.mp e
          obtain ⟨vs, q, r⟩ := hr.obj i _ a hx ha
          rw [Rep]
          exact ⟨a, vs, rfl, q, hi i a hge ha, frzL_rep (gcAt_rep hr hh lo hi k) hh e1 r⟩
        · cases e
end
theorem FnAt.gc {P w K mg base k x ps kss F} (h : FnAt P w K mg base k x ps kss F) : FnAt P w K mg base k x ps kss (gcF F) := by
  obtain ⟨f, fd, h1, h2⟩ := h.ex
  exact ⟨f, fd, h1.imp fun vs H Q E q => gcF_ok q, h2⟩

/-! ### defs behind their names -/
section
variable {P : Program} {w : World} {K : PySem.W.Frag} {mg : Str → Option Value} {base : Heap}
/-- a def of the text stands behind its name, with the known arguments' kinds of binding -/
structure DefAt (K : PySem.W.Frag) (mg : Str → Option Value) (x : Str) (st : Stmt) (ps : List Str) (kss : List (List Str × List Nat)) : Prop where
  ex : ∃ f fd, Fun K x x st f fd ∧ mg x = some (.ref f) ∧ Binds K fd ps [] ∧ ∀ q ∈ kss, q.1.length = ps.length ∧ KBs fd ps q.1 q.2
theorem at_mk {x : Str} {st : Stmt} {N ps : List Str} {kss : List (List Str × List Nat)} {k : Nat} {body : MX} (D : DefAt K mg x st ps kss) (S : FnScope N ps (defScope st))
    (hb : ∀ (f : Addr) (cdv : Value) (A : Around) (outer : List Env) (s : Shared) (H : Hp) (E : XK), Room k (A.deeper (envOfC x (defScope st) s.heap.objs.size f cdv)) → Gd (cxD P w K mg base N x st f cdv A outer s H E) (wOf K mg E) →
      SSs (cxD P w K mg base N x st f cdv A outer s H E) (wOf K mg E) (defBody st) body) : FnAt P w K mg base (k + 1) x ps kss (mDef N.length body) := by
  obtain ⟨f, fd, h1, h2, h3, h4⟩ := D.ex
  exact ⟨f, fd, def_ok h1 S fun cdv A outer s H E hr hg => hb f cdv A outer s H E hr (gd_def hg S.nd), h2, h1.kp, h3, h4⟩
/-- where nothing is promised nothing is to be shown -/
theorem at_bad {x : Str} {st : Stmt} {ps : List Str} {kss : List (List Str × List Nat)} {k : Nat} (D : DefAt K mg x st ps kss) : FnAt P w K mg base k x ps kss (fun _ _ => .bad) := by
  obtain ⟨f, fd, h1, h2, h3, h4⟩ := D.ex
  refine ⟨f, fd, ⟨fun vs H Q E h => h.1, fun A outer s H args us vs Q E hr hg he hb hv h => ?_⟩, h2, h1.kp, h3, h4⟩
  obtain ⟨_, φ, mh, args, _, _, p⟩ := h
  exact p.elim
theorem defAt {x : Str} {st : Stmt} {ps : List Str} {kss : List (List Str × List Nat)} {f : Addr} {oc : Value} {od an : Option Addr} {osl : Array (Option Value)} {kV doc pm cdv ct : Value} {l : PySem.W.Frag} {h : Heap} (X : K.In h) (G : h.Ns mainGlobals mg)
    (a : PySem.W.nsIn K mainGlobals x = some (some (.ref f))) (lk : K.lookup f = some ⟨oc, od, .func (PySem.W.fnOf x x (defArgs st) (defBody st) (defScope st) .none kV doc pm an cdv ct), osl⟩) (c : PySem.W.codeIn K cdv x = true) (kp : PySem.W.keepIn K (.ref f) = true)
    (hp : ∀ us : List Value, us.length = ps.length → bindArgs (PySem.W.fnOf x x (defArgs st) (defBody st) (defScope st) .none kV doc pm an cdv ct) ⟨us, []⟩ = pure (ps.zip us))
    (hk : ∀ q ∈ kss, q.1.length = ps.length ∧ KBs (PySem.W.fnOf x x (defArgs st) (defBody st) (defScope st) .none kV doc pm an cdv ct) ps q.1 q.2) : DefAt K mg x st ps kss :=
  ⟨f, _, fun_mk lk c kp, PySem.W.mg_of X G a, .all hp, hk⟩
end
end Tb

set_option Elab.async false
set_option linter.all false
set_option maxRecDepth 100000
/-! the mirror in plain Lean: equations of its parts -/
namespace Tb
open PySem L2

/-! ### ranges -/
def irg (lo hi : Int) : List Int := (List.range (hi - lo).toNat).map fun i => lo + (i : Nat)
theorem rngV_irg (lo hi : Int) : rngV lo (hi - lo).toNat = (irg lo hi).map M.int := by simp [rngV, irg, List.map_map, Function.comp_def]
theorem rngV_irg0 (n : Int) : rngV 0 n.toNat = (irg 0 n).map M.int := by have := rngV_irg 0 n; rwa [Int.sub_zero] at this
theorem mem_irg {lo hi x : Int} : x ∈ irg lo hi ↔ lo ≤ x ∧ x < hi := by
  simp only [irg, List.mem_map, List.mem_range]
  constructor
  · rintro ⟨i, hi, rfl⟩; omega
  · rintro ⟨h1, h2⟩; exact ⟨(x - lo).toNat, by omega, by omega⟩
theorem irg_length (lo hi : Int) : (irg lo hi).length = (hi - lo).toNat := by simp [irg]
theorem irg_nil {lo hi : Int} (h : hi ≤ lo) : irg lo hi = [] := by simp [irg, Int.toNat_eq_zero.mpr (by omega : hi - lo ≤ 0)]
theorem irg_cons {lo hi : Int} (h : lo < hi) : irg lo hi = lo :: irg (lo + 1) hi := by
  have e : (hi - lo).toNat = (hi - (lo + 1)).toNat + 1 := by omega
  unfold irg
  rw [e, List.range_succ_eq_map, List.map_cons, List.map_map]
  congr 1
  · simp
  · apply List.map_congr_left; intro i _; simp only [Function.comp]; omega
theorem irg_sorted (lo hi : Int) : (irg lo hi).Pairwise (· < ·) := by
  unfold irg
  rw [List.pairwise_map]
  exact List.pairwise_lt_range.imp fun h => by omega
theorem irg_nodup (lo hi : Int) : (irg lo hi).Nodup := (irg_sorted lo hi).imp fun h => by omega

/-! ### data -/
class En (α : Type) [DecidableEq α] where
  en : α → M
  da : α → PyData
  dp : Nat
  dat_en : ∀ (h : MH) (k : Nat) (a : α), dp < k → dat h k (en a) = some (da a)
  eqv : ∀ a b, PyData.eqv (da a) (da b) = decide (a = b)
  nostr : ∀ a b, strs2 (en a) b = none
  clo : ∀ a, clo (en a) = true
open En (en da)
instance : En Int where
  en := .int
  da := .int
  dp := 0
  dat_en h k a hk := by cases k with
    | zero => omega
    | succ k => rfl
  eqv a b := by simp only [PyData.eqv]; rw [Bool.eq_iff_iff]; simp
  nostr a b := by cases b <;> rfl
  clo a := by simp [Tb.clo]
section
variable {α β : Type} [DecidableEq α] [En α] [DecidableEq β] [En β]
theorem optMap_en (h : MH) (k : Nat) (hk : En.dp α < k) : ∀ xs : List α, optMap (dat h k) (xs.map en) = some (xs.map da)
  | [] => rfl
  | x :: xs => by rw [List.map_cons, optMap, En.dat_en h k x hk, optMap_en h k hk xs]; rfl
theorem eqvAll_en : ∀ xs ys : List α, PyData.eqvAll (xs.map da) (ys.map da) = decide (xs = ys)
  | [], [] => by simp [PyData.eqvAll]
  | [], y :: ys => by simp [PyData.eqvAll]
  | x :: xs, [] => by simp [PyData.eqvAll]
  | x :: xs, y :: ys => by
    rw [List.map_cons, List.map_cons, PyData.eqvAll, En.eqv, eqvAll_en xs ys, Bool.eq_iff_iff]
    simp
theorem cloL_en : ∀ xs : List α, cloL (xs.map en) = true
  | [] => by rw [List.map_nil, cloL]
  | x :: xs => by rw [List.map_cons, cloL, En.clo, cloL_en xs]; rfl
instance : En (α × β) where
  en p := .tup [en p.1, en p.2]
  da p := .tuple [da p.1, da p.2]
  dp := max (En.dp α) (En.dp β) + 1
  dat_en h k a hk := by
    cases k with
    | zero => omega
    | succ k =>
      show (optMap (dat h k) [en a.1, en a.2]).map PyData.tuple = _
      rw [optMap, En.dat_en h k a.1 (by omega), optMap, En.dat_en h k a.2 (by omega)]
      rfl
  eqv a b := by
    simp only [PyData.eqv, PyData.eqvAll, En.eqv]
    rw [Bool.eq_iff_iff]
    obtain ⟨a1, a2⟩ := a
    obtain ⟨b1, b2⟩ := b
    simp
  nostr a b := by cases b <;> rfl
  clo a := by simp [Tb.clo, cloL, En.clo]
/-- a list as a tuple -/
instance : En (List α) where
  en xs := .tup (xs.map en)
  da xs := .tuple (xs.map da)
  dp := En.dp α + 1
  dat_en h k a hk := by
    cases k with
    | zero => omega
    | succ k =>
      show (optMap (dat h k) (a.map en)).map PyData.tuple = _
      rw [optMap_en h k (by omega)]
      rfl
  eqv a b := by simp only [PyData.eqv]; exact eqvAll_en a b
  nostr a b := by cases b <;> rfl
  clo a := by rw [Tb.clo]; exact cloL_en a
theorem en_pair (a : α) (b : β) : en (a, b) = .tup [en a, en b] := rfl
theorem en_int (i : Int) : en i = M.int i := rfl
theorem en_list (xs : List α) : en xs = .tup (xs.map en) := rfl
theorem eqM_en (a b : α) (h : MH) (hd : En.dp α < DP := by decide) : eqM (en a) (en b) h = .ok (.bl (decide (a = b))) h := by
  unfold eqM
  rw [En.nostr a]
  simp only [En.dat_en h DP a hd, En.dat_en h DP b hd, En.eqv]
theorem neM_en (a b : α) (h : MH) (hd : En.dp α < DP := by decide) : neM (en a) (en b) h = .ok (.bl (!decide (a = b))) h := by
  unfold neM
  rw [En.nostr a]
  simp only [En.dat_en h DP a hd, En.dat_en h DP b hd, En.eqv]
theorem any_en (a : α) (xs : List α) : ((xs.map da).any fun z => PyData.eqv z (da a)) = decide (a ∈ xs) := by
  rw [Bool.eq_iff_iff, List.any_eq_true, decide_eq_true_eq]
  constructor
  · rintro ⟨z, hz, e⟩
    obtain ⟨x, hx, rfl⟩ := List.mem_map.mp hz
    rw [En.eqv, decide_eq_true_eq] at e
    exact e ▸ hx
  · intro h
    exact ⟨da a, List.mem_map.mpr ⟨a, h, rfl⟩, by rw [En.eqv]; simp⟩
theorem inM_tup (neg : Bool) (a : α) (xs : List α) (h : MH) (hd : En.dp α + 1 < DP := by decide) : inM neg (en a) (.tup (xs.map en)) h = .ok (.bl (if neg then !decide (a ∈ xs) else decide (a ∈ xs))) h := by
  unfold inM
  have e : dgetM h (.tup (xs.map en)) (en a) = none := rfl
  have d2 : dat h DP (.tup (xs.map en)) = some (.tuple (xs.map da)) := En.dat_en (α := List α) h DP xs hd
  simp only [e, En.dat_en h DP a (by omega : En.dp α < DP), d2, any_en]
theorem dat_tmp (h : MH) (xs : List α) (hd : En.dp α + 1 < DP := by decide) : dat h DP (.tmp (xs.map en)) = some (.list (xs.map da)) := by
  show (optMap (dat h 11) (xs.map en)).map PyData.list = _
  rw [optMap_en h 11 (by have : DP = 12 := rfl; omega)]
  rfl
theorem dat_ro (h : MH) (xs : List α) (hd : En.dp α + 1 < DP := by decide) : dat h DP (.ro (xs.map en)) = some (.list (xs.map da)) := dat_tmp h xs hd
theorem dat_loc (h : MH) (n : Nat) (xs : List α) (e : h[n]? = some (.lst (xs.map en))) (hd : En.dp α + 1 < DP := by decide) : dat h DP (.loc n) = some (.list (xs.map da)) := by
  show (match h[n]? with
    | some (.lst xs) => (optMap (dat h 11) xs).map PyData.list
    | _ => none) = _
  rw [e]
  exact dat_tmp h xs hd
theorem inM_tmp (neg : Bool) (a : α) (xs : List α) (h : MH) (hd : En.dp α + 1 < DP := by decide) : inM neg (en a) (.tmp (xs.map en)) h = .ok (.bl (if neg then !decide (a ∈ xs) else decide (a ∈ xs))) h := by
  unfold inM
  have e : dgetM h (.tmp (xs.map en)) (en a) = none := rfl
  simp only [e, En.dat_en h DP a (by omega : En.dp α < DP), dat_tmp h xs hd, any_en]
theorem inM_loc (neg : Bool) (a : α) (xs : List α) (h : MH) (n : Nat) (he : h[n]? = some (.lst (xs.map en))) (hd : En.dp α + 1 < DP := by decide) : inM neg (en a) (.loc n) h = .ok (.bl (if neg then !decide (a ∈ xs) else decide (a ∈ xs))) h := by
  unfold inM
  have e : dgetM h (.loc n) (en a) = none := by simp only [dgetM, he]
  simp only [e, En.dat_en h DP a (by omega : En.dp α < DP), dat_loc h n xs he hd, any_en]
end
/-! ### subscripts -/
theorem atI_nn {α : Type} {xs : List α} {i : Int} (h : 0 ≤ i) : L2.atI xs i = xs[i.toNat]? := by
  unfold L2.atI ixN
  rw [if_pos h]
  by_cases hl : i < (xs.length : Int)
  · rw [if_pos hl]; rfl
  · rw [if_neg hl, List.getElem?_eq_none (by omega)]; rfl
theorem ix_seq {h : MH} {x : M} {xs : List M} {i : Int} {m : M} (hs : seqOf h x = some xs) (h0 : 0 ≤ i) (e : xs[i.toNat]? = some m) : ixM x (.int i) h = .ok m h := by
  unfold ixM
  simp only [hs, atI_nn h0, e]
theorem ix_t0 {x : M} {r : List M} {h : MH} : ixM (.tup (x :: r)) (.int 0) h = .ok x h := ix_seq rfl (by decide) rfl
theorem ix_t1 {x y : M} {r : List M} {h : MH} : ixM (.tup (x :: y :: r)) (.int 1) h = .ok y h := ix_seq rfl (by decide) rfl
theorem ix_t2 {x y z : M} {r : List M} {h : MH} : ixM (.tup (x :: y :: z :: r)) (.int 2) h = .ok z h := ix_seq rfl (by decide) rfl
/-! ### loops -/
def TurnTo (g : MG) (body : MX) (x : M) (ms : MS) (h : MH) (ms' : MS) (h' : MH) : Prop := ∃ ms1 h1, g x ms h = .ok ms1 h1 ∧ (body ms1 h1 = .nx ms' h' ∨ body ms1 h1 = .ct ms' h')
theorem turn_to {g : MG} {body : MX} {x : M} {ms ms' : MS} {h h' : MH} {k : MS → MH → RS} (t : TurnTo g body x ms h ms' h') : turn g body k x ms h = k ms' h' := by
  obtain ⟨ms1, h1, e1, e2⟩ := t
  unfold turn
  rw [e1]
  rcases e2 with e2 | e2 <;> simp only [e2]
theorem forV_pre {α : Type} {g : MG} {body : MX} (enc : α → M) (as : List α) (Inv : List α → MS → MH → Prop)
    (hs : ∀ pre a post ms h, as = pre ++ a :: post → Inv pre ms h → ∃ ms' h', TurnTo g body (enc a) ms h ms' h' ∧ Inv (pre ++ [a]) ms' h') {ms : MS} {h : MH} (h0 : Inv [] ms h) :
    ∃ ms' h', forV g body (as.map enc) ms h = .nx ms' h' ∧ Inv as ms' h' := by
  have go : ∀ suf pre ms h, as = pre ++ suf → Inv pre ms h → ∃ ms' h', forV g body (suf.map enc) ms h = .nx ms' h' ∧ Inv as ms' h' := by
    intro suf
    induction suf with
    | nil => intro pre ms h e i; exact ⟨ms, h, rfl, by rw [e, List.append_nil]; exact i⟩
    | cons a suf ih =>
      intro pre ms h e i
      obtain ⟨ms1, h1, t, i1⟩ := hs pre a suf ms h e i
      obtain ⟨ms2, h2, e2, i2⟩ := ih (pre ++ [a]) ms1 h1 (by rw [e]; simp) i1
      exact ⟨ms2, h2, by rw [List.map_cons, forV, turn_to t, e2], i2⟩
  exact go as [] ms h rfl h0
theorem lcV_pre {α : Type} {g : MG} {tt : MT} {te : ME} {ms : MS} (enc : α → M) (as : List α) (Inv : List α → List M → MH → Prop)
    (hs : ∀ pre a post ys h, as = pre ++ a :: post → Inv pre ys h → ∃ ms1 h1, g (enc a) ms h = .ok ms1 h1 ∧ ((∃ h2, tt ms1 h1 = .ok false h2 ∧ Inv (pre ++ [a]) ys h2) ∨ ∃ h2 y h3, tt ms1 h1 = .ok true h2 ∧ te ms1 h2 = .ok y h3 ∧ Inv (pre ++ [a]) (ys ++ [y]) h3))
    {h : MH} (h0 : Inv [] [] h) : ∃ ys h', lcV g tt te ms (as.map enc) h = .ok ys h' ∧ Inv as ys h' := by
  have go : ∀ suf pre ys h, as = pre ++ suf → Inv pre ys h → ∃ zs h', lcV g tt te ms (suf.map enc) h = .ok zs h' ∧ Inv as (ys ++ zs) h' := by
    intro suf
    induction suf with
    | nil => intro pre ys h e i; exact ⟨[], h, rfl, by rw [e, List.append_nil, List.append_nil]; exact i⟩
    | cons a suf ih =>
      intro pre ys h e i
      obtain ⟨ms1, h1, e1, c⟩ := hs pre a suf ys h e i
      rcases c with ⟨h2, t, i1⟩ | ⟨h2, y, h3, t, u, i1⟩
      · obtain ⟨zs, h4, e4, i4⟩ := ih (pre ++ [a]) ys h2 (by rw [e]; simp) i1
        exact ⟨zs, h4, by rw [List.map_cons, lcV, lcTurn, e1]; simp only [t, e4], i4⟩
      · obtain ⟨zs, h4, e4, i4⟩ := ih (pre ++ [a]) (ys ++ [y]) h3 (by rw [e]; simp) i1
        exact ⟨y :: zs, h4, by rw [List.map_cons, lcV, lcTurn, e1]; simp only [t, u, e4], by rw [List.append_assoc] at i4; exact i4⟩
  exact go as [] [] h rfl h0
/-- no state is touched -/
theorem lcV_map {α : Type} {g : MG} {tt : MT} {te : ME} {ms : MS} (enc : α → M) (p : α → Bool) (y : α → M) (h : MH) : ∀ (as : List α), (∀ a ∈ as, ∃ ms1, g (enc a) ms h = .ok ms1 h ∧ tt ms1 h = .ok (p a) h ∧ (p a = true → te ms1 h = .ok (y a) h)) →
    lcV g tt te ms (as.map enc) h = .ok ((as.filter p).map y) h
  | [], _ => rfl
  | a :: as, hs => by
    obtain ⟨ms1, e1, e2, e3⟩ := hs a List.mem_cons_self
    have ih := lcV_map enc p y h as fun b hb => hs b (List.mem_cons_of_mem _ hb)
    rw [List.map_cons, lcV, lcTurn, e1]
    cases hp : p a with
    | true =>
      rw [hp] at e2 e3
      simp only [e2, e3 rfl, ih, List.filter_cons, hp, if_true, List.map_cons]
    | false =>
      rw [hp] at e2
      simp only [e2, ih, List.filter_cons, hp, Bool.false_eq_true, if_false]
theorem mLc_eq {bx : Bool} {fi : MI} {g : MG} {tt : MT} {te : ME} {vs : List Nat} {ms : MS} {h h1 h2 : MH} {xs ys : List M} (e1 : fi ms h = .ok (.vals xs) h1) (e2 : lcV g tt te (wipeM ms vs) xs h1 = .ok ys h2) (hl : ys.length ≤ LIM) :
    mLc bx fi g tt te vs ms h = mkL bx ys h2 := by
  unfold mLc
  rw [e1]
  show (match lcRun g tt te (wipeM ms vs) (.vals xs) h1 with
    | .ok ys h' => if ys.length ≤ LIM then mkL bx ys h' else .bad
    | _ => .bad) = _
  unfold lcRun
  simp only [e2, hl, if_true]
theorem xFor_eq {fi : MI} {g : MG} {body : MX} {ms : MS} {h h1 : MH} {xs : List M} (e1 : fi ms h = .ok (.vals xs) h1) : xFor fi g body ms h = forV g body xs ms h1 := by
  unfold xFor
  rw [e1]
  rfl
/-! ### calls -/
theorem cloF_eq {F : MF} {args : List M} {h h' : MH} {r m : M} (hc : cloL args = true) (hF : F args [] = .ok r h') (hz : frzM (frzAt h' 6) r = some m) : cloF F args h = .ok m h := by
  unfold cloF
  rw [if_pos hc, hF]
  simp only [hz]
theorem cloF_val {F : MF} {args : List M} {h h' : MH} {r : M} (hc : cloL args = true) (hF : F args [] = .ok r h') (hr : clo r = true) : cloF F args h = .ok r h := cloF_eq hc hF (frz_clo hr)
theorem cloF_loc {F : MF} {args : List M} {h h' : MH} {n : Nat} {xs : List M} (hc : cloL args = true) (hF : F args [] = .ok (.loc n) h') (hn : h'[n]? = some (.lst xs)) (hr : cloL xs = true) : cloF F args h = .ok (.tmp xs) h := by
  refine cloF_eq hc hF ?_
  rw [frzM]
  show (match h'[n]? with
    | some (.lst xs) => (frzL (frzAt h' 5) xs).map M.tmp
    | _ => none) = _
  rw [hn]
  simp only [frzL_clo hr, Option.map_some]
end Tb

set_option Elab.async false
set_option linter.all false
set_option maxRecDepth 100000
/-! the mirror in stages: each equation looks at a finished part, nothing is unfolded ahead of its turn -/
namespace Tb
open PySem L2

/-! ### statements -/
def sSeq (r : RS) (g : MX) : RS := match r with
  | .nx ms h => g ms h
  | r => r
theorem ev_seq (f g : MX) (ms : MS) (h : MH) : xSeq f g ms h = sSeq (f ms h) g := by unfold xSeq sSeq; rfl
theorem ev_seqN (g : MX) (ms : MS) (h : MH) : sSeq (.nx ms h) g = g ms h := rfl
theorem ev_seqR (g : MX) (v : M) (h : MH) : sSeq (.rt v h) g = .rt v h := rfl
theorem ev_seqB (g : MX) (ms : MS) (h : MH) : sSeq (.bk ms h) g = .bk ms h := rfl
theorem ev_seqC (g : MX) (ms : MS) (h : MH) : sSeq (.ct ms h) g = .ct ms h := rfl
theorem ev_seqE (g : MX) (e : Er) (ms : MS) (h : MH) : sSeq (.er e ms h) g = .er e ms h := rfl
theorem ev_nil (ms : MS) (h : MH) : xNil ms h = .nx ms h := rfl
theorem ev_brk (ms : MS) (h : MH) : xBreak ms h = .bk ms h := rfl
theorem ev_cnt (ms : MS) (h : MH) : xCont ms h = .ct ms h := rfl
theorem ev_retN (ms : MS) (h : MH) : xRetN ms h = .rt .non h := rfl
def sExpr (r : R M) (ms : MS) : RS := xOf r ms fun _ h' => .nx ms h'
theorem ev_expr (f : ME) (ms : MS) (h : MH) : xExpr f ms h = sExpr (f ms h) ms := rfl
theorem ev_expr1 (m : M) (ms : MS) (h : MH) : sExpr (.ok m h) ms = .nx ms h := rfl
def sRet (r : R M) (ms : MS) : RS := xOf r ms fun m h' => .rt m h'
theorem ev_ret (f : ME) (ms : MS) (h : MH) : xRet f ms h = sRet (f ms h) ms := rfl
theorem ev_ret1 (m : M) (ms : MS) (h : MH) : sRet (.ok m h) ms = .rt m h := rfl
def sIf (r : R Bool) (f g : MX) (ms : MS) : RS := xOf r ms fun b h' => if b = true then f ms h' else g ms h'
theorem ev_if (t : MT) (f g : MX) (ms : MS) (h : MH) : xIf t f g ms h = sIf (t ms h) f g ms := rfl
theorem ev_ifT (f g : MX) (ms : MS) (h : MH) : sIf (.ok true h) f g ms = f ms h := rfl
theorem ev_ifF (f g : MX) (ms : MS) (h : MH) : sIf (.ok false h) f g ms = g ms h := rfl
def sAsg2 (r : R MS) : RS := match r with
  | .ok ms' h' => .nx ms' h'
  | _ => .bad
def sAsg (r : R M) (g : MG) (ms : MS) : RS := xOf r ms fun m h' => sAsg2 (g m ms h')
theorem ev_asg (f : ME) (g : MG) (ms : MS) (h : MH) : xAsg f g ms h = sAsg (f ms h) g ms := by
  unfold xAsg sAsg sAsg2
  rfl
theorem ev_asg1 (m : M) (g : MG) (ms : MS) (h : MH) : sAsg (.ok m h) g ms = sAsg2 (g m ms h) := rfl
theorem ev_asg2 (ms : MS) (h : MH) : sAsg2 (.ok ms h) = .nx ms h := rfl
def sPar (i j : Nat) (r : R (List M)) (ms : MS) : RS := xOf r ms fun xs h' => match xs with
  | [x, y] => .nx ((ms.set i (some x)).set j (some y)) h'
  | _ => .bad
theorem ev_par (i j : Nat) (fa : MA) (ms : MS) (h : MH) : xPar i j fa ms h = sPar i j (fa ms h) ms := rfl
theorem ev_par1 (i j : Nat) (x y : M) (ms : MS) (h : MH) : sPar i j (.ok [x, y] h) ms = .nx ((ms.set i (some x)).set j (some y)) h := rfl
def sDef (r : RS) : R M := match r with
  | .nx _ h' => .ok .non h'
  | .rt v h' => .ok v h'
  | .er e _ h' => .err e h'
  | _ => .bad
theorem ev_def (n : Nat) (body : MX) (args : List M) (h : MH) : mDef n body args h = sDef (body (args.map some ++ List.replicate (n - args.length) none) h) := by unfold mDef sDef; rfl
theorem ev_defR (v : M) (h : MH) : sDef (.rt v h) = .ok v h := rfl
theorem ev_defN (ms : MS) (h : MH) : sDef (.nx ms h) = .ok .non h := rfl
/-! ### names, constants, lists of arguments -/
theorem ev_var0 (m : M) (r : MS) (h : MH) : mVar 0 (some m :: r) h = .ok m h := rfl
theorem ev_varS (i : Nat) (x : Option M) (r : MS) (h : MH) : mVar (i + 1) (x :: r) h = mVar i r h := rfl
theorem ev_k (m : M) (ms : MS) (h : MH) : mK m ms h = .ok m h := rfl
theorem ev_anil (ms : MS) (h : MH) : aNil ms h = .ok [] h := rfl
def sCons2 (x : M) (r : R (List M)) : R (List M) := r.bind fun xs h2 => .ok (x :: xs) h2
def sCons (q : R M) (r : MA) (ms : MS) : R (List M) := q.bind fun x h1 => sCons2 x (r ms h1)
theorem ev_acons (f : ME) (r : MA) (ms : MS) (h : MH) : aCons f r ms h = sCons (f ms h) r ms := rfl
theorem ev_acons1 (x : M) (r : MA) (ms : MS) (h : MH) : sCons (.ok x h) r ms = sCons2 x (r ms h) := rfl
theorem ev_acons2 (x : M) (xs : List M) (h : MH) : sCons2 x (.ok xs h) = .ok (x :: xs) h := rfl
def sTup (r : R (List M)) : R M := r.bind fun xs h => if xs.length ≤ LIM then .ok (.tup xs) h else .bad
theorem ev_tup (r : MA) (ms : MS) (h : MH) : mTup r ms h = sTup (r ms h) := rfl
theorem ev_tup1 (xs : List M) (h : MH) : sTup (.ok xs h) = if xs.length ≤ LIM then .ok (.tup xs) h else .bad := rfl
theorem ev_tup_0 (h : MH) : sTup (.ok [] h) = .ok (.tup []) h := rfl
theorem ev_tup_1 (x : M) (h : MH) : sTup (.ok [x] h) = .ok (.tup [x]) h := rfl
theorem ev_tup_2 (x y : M) (h : MH) : sTup (.ok [x, y] h) = .ok (.tup [x, y]) h := rfl
theorem ev_tup_3 (x y z : M) (h : MH) : sTup (.ok [x, y, z] h) = .ok (.tup [x, y, z]) h := rfl
def sLst (bx : Bool) (r : R (List M)) : R M := r.bind fun xs h => if xs.length ≤ LIM then mkL bx xs h else .bad
theorem ev_lst (bx : Bool) (r : MA) (ms : MS) (h : MH) : mLst bx r ms h = sLst bx (r ms h) := rfl
theorem ev_lst1 (bx : Bool) (xs : List M) (h : MH) : sLst bx (.ok xs h) = if xs.length ≤ LIM then mkL bx xs h else .bad := rfl
theorem ev_lst_0 (bx : Bool) (h : MH) : sLst bx (.ok [] h) = mkL bx [] h := rfl
theorem ev_lst_1 (bx : Bool) (x : M) (h : MH) : sLst bx (.ok [x] h) = mkL bx [x] h := rfl
theorem ev_lst_2 (bx : Bool) (x y : M) (h : MH) : sLst bx (.ok [x, y] h) = mkL bx [x, y] h := rfl
theorem ev_lst_3 (bx : Bool) (x y z : M) (h : MH) : sLst bx (.ok [x, y, z] h) = mkL bx [x, y, z] h := rfl
theorem ev_mkT (xs : List M) (h : MH) : mkL true xs h = .ok (.loc h.length) (h ++ [.lst xs]) := rfl
theorem ev_mkF (xs : List M) (h : MH) : mkL false xs h = .ok (.tmp xs) h := rfl
/-! ### operations -/
def sBin2 (g : M → M → MH → R M) (x : M) (r : R M) : R M := r.bind fun y h2 => g x y h2
def sBin (g : M → M → MH → R M) (r : R M) (fb : ME) (ms : MS) : R M := r.bind fun x h1 => sBin2 g x (fb ms h1)
theorem ev_bin (g : M → M → MH → R M) (fa fb : ME) (ms : MS) (h : MH) : mBin g fa fb ms h = sBin g (fa ms h) fb ms := rfl
theorem ev_bin1 (g : M → M → MH → R M) (x : M) (fb : ME) (ms : MS) (h : MH) : sBin g (.ok x h) fb ms = sBin2 g x (fb ms h) := rfl
theorem ev_bin2 (g : M → M → MH → R M) (x y : M) (h : MH) : sBin2 g x (.ok y h) = g x y h := rfl
def sUn (g : M → MH → R M) (r : R M) : R M := r.bind fun x h1 => g x h1
theorem ev_un (g : M → MH → R M) (fa : ME) (ms : MS) (h : MH) : mUn g fa ms h = sUn g (fa ms h) := rfl
theorem ev_un1 (g : M → MH → R M) (x : M) (h : MH) : sUn g (.ok x h) = g x h := rfl
theorem ev_add (bx : Bool) (i j : Int) (h : MH) : addM bx (.int i) (.int j) h = .ok (.int (i + j)) h := rfl
theorem ev_addT (bx : Bool) (a b : List M) (h : MH) : addM bx (.tup a) (.tup b) h = if a.length + b.length ≤ LIM then .ok (.tup (a ++ b)) h else .bad := rfl
theorem ev_addL (bx : Bool) (a b : List M) (h : MH) : addM bx (.tmp a) (.tmp b) h = if a.length + b.length ≤ LIM then mkL bx (a ++ b) h else .bad := rfl
theorem ev_sub (i j : Int) (h : MH) : subM (.int i) (.int j) h = .ok (.int (i - j)) h := rfl
theorem ev_mul (bx : Bool) (i j : Int) (h : MH) : mulM bx (.int i) (.int j) h = if cMul i j = true then .ok (.int (i * j)) h else .bad := rfl
theorem ev_div (i j : Int) (h : MH) : fdivM (.int i) (.int j) h = if cDiv i j = true then .ok (.int (i / j)) h else .bad := rfl
theorem ev_mod (i j : Int) (h : MH) : modM (.int i) (.int j) h = if cMod i j = true then .ok (.int (i % j)) h else .bad := rfl
theorem ev_pow (i j : Int) (h : MH) : powM (.int i) (.int j) h = if cPow i j = true then .ok (.int (i ^ j.toNat)) h else .bad := rfl
theorem ev_neg (i : Int) (h : MH) : negM (.int i) h = .ok (.int (-i)) h := rfl
theorem ev_lt (i j : Int) (h : MH) : ltM (.int i) (.int j) h = .ok (.bl (decide (i < j))) h := rfl
theorem ev_le (i j : Int) (h : MH) : leM (.int i) (.int j) h = .ok (.bl (decide (i ≤ j))) h := rfl
theorem ev_gt (i j : Int) (h : MH) : gtM (.int i) (.int j) h = .ok (.bl (decide (j < i))) h := rfl
theorem ev_ge (i j : Int) (h : MH) : geM (.int i) (.int j) h = .ok (.bl (decide (j ≤ i))) h := rfl
theorem ev_eqI (i j : Int) (h : MH) : eqM (.int i) (.int j) h = .ok (.bl (decide (i = j))) h := eqM_en (α := Int) i j h
theorem ev_neI (i j : Int) (h : MH) : neM (.int i) (.int j) h = .ok (.bl (!decide (i = j))) h := neM_en (α := Int) i j h
theorem ev_eqB (i j : Bool) (h : MH) : eqM (.bl i) (.bl j) h = .ok (.bl (i == j)) h := by cases i <;> cases j <;> rfl
theorem ev_neB (i j : Bool) (h : MH) : neM (.bl i) (.bl j) h = .ok (.bl (!(i == j))) h := by cases i <;> cases j <;> rfl
theorem ev_eqS (a b : Str) (h : MH) : eqM (.str a) (.str b) h = .ok (.bl (decide (a = b))) h := rfl
theorem ev_neS (a b : Str) (h : MH) : neM (.str a) (.str b) h = .ok (.bl (!decide (a = b))) h := rfl
def sAnd (r : R M) (g : ME) (ms : MS) : R M := r.bind fun m h => match m with
  | .bl true => g ms h
  | .bl false => .ok (.bl false) h
  | _ => .bad
def sOr (r : R M) (g : ME) (ms : MS) : R M := r.bind fun m h => match m with
  | .bl true => .ok (.bl true) h
  | .bl false => g ms h
  | _ => .bad
def sNot (r : R M) : R M := r.bind fun m h => match m with
  | .bl b => .ok (.bl (!b)) h
  | _ => .bad
theorem ev_and (f g : ME) (ms : MS) (h : MH) : vAnd f g ms h = sAnd (f ms h) g ms := rfl
theorem ev_andT (g : ME) (ms : MS) (h : MH) : sAnd (.ok (.bl true) h) g ms = g ms h := rfl
theorem ev_andF (g : ME) (ms : MS) (h : MH) : sAnd (.ok (.bl false) h) g ms = .ok (.bl false) h := rfl
theorem ev_or (f g : ME) (ms : MS) (h : MH) : vOr f g ms h = sOr (f ms h) g ms := rfl
theorem ev_orT (g : ME) (ms : MS) (h : MH) : sOr (.ok (.bl true) h) g ms = .ok (.bl true) h := rfl
theorem ev_orF (g : ME) (ms : MS) (h : MH) : sOr (.ok (.bl false) h) g ms = g ms h := rfl
theorem ev_not (f : ME) (ms : MS) (h : MH) : vNot f ms h = sNot (f ms h) := rfl
theorem ev_not1 (b : Bool) (h : MH) : sNot (.ok (.bl b) h) = .ok (.bl (!b)) h := rfl
def sTNot (r : R Bool) : R Bool := r.bind fun b h => .ok (!b) h
def sTAnd (r : R Bool) (u : MT) (ms : MS) : R Bool := r.bind fun b h => if b = true then u ms h else .ok false h
def sTOr (r : R Bool) (u : MT) (ms : MS) : R Bool := r.bind fun b h => if b = true then .ok true h else u ms h
theorem ev_tnot (t : MT) (ms : MS) (h : MH) : tNot' t ms h = sTNot (t ms h) := rfl
theorem ev_tnot1 (b : Bool) (h : MH) : sTNot (.ok b h) = .ok (!b) h := rfl
theorem ev_tand (t u : MT) (ms : MS) (h : MH) : tAnd' t u ms h = sTAnd (t ms h) u ms := rfl
theorem ev_tandT (u : MT) (ms : MS) (h : MH) : sTAnd (.ok true h) u ms = u ms h := rfl
theorem ev_tandF (u : MT) (ms : MS) (h : MH) : sTAnd (.ok false h) u ms = .ok false h := rfl
theorem ev_tor (t u : MT) (ms : MS) (h : MH) : tOr' t u ms h = sTOr (t ms h) u ms := rfl
theorem ev_torT (u : MT) (ms : MS) (h : MH) : sTOr (.ok true h) u ms = .ok true h := rfl
theorem ev_torF (u : MT) (ms : MS) (h : MH) : sTOr (.ok false h) u ms = u ms h := rfl
theorem ev_tb (f : ME) (ms : MS) (h : MH) : tB' f ms h = asB (f ms h) := rfl
theorem ev_tb1 (b : Bool) (h : MH) : asB (.ok (.bl b) h) = .ok b h := rfl
theorem ev_yes (ms : MS) (h : MH) : ttYes ms h = .ok true h := rfl
def sIfE (r : R Bool) (f g : ME) (ms : MS) : R M := r.bind fun b h => if b = true then f ms h else g ms h
theorem ev_ife (t : MT) (f g : ME) (ms : MS) (h : MH) : mIf t f g ms h = sIfE (t ms h) f g ms := rfl
theorem ev_ifeT (f g : ME) (ms : MS) (h : MH) : sIfE (.ok true h) f g ms = f ms h := rfl
theorem ev_ifeF (f g : ME) (ms : MS) (h : MH) : sIfE (.ok false h) f g ms = g ms h := rfl
def sCh4 (g' : M → M → MH → R M) (y : M) (r : R M) : R M := r.bind fun w h4 => g' y w h4
def sCh3 (g' : M → M → MH → R M) (y : M) (r : R M) (fc : ME) (ms : MS) : R M := r.bind fun z h3 => match z with
  | .bl true => sCh4 g' y (fc ms h3)
  | .bl false => .ok (.bl false) h3
  | _ => .bad
def sCh2 (g g' : M → M → MH → R M) (x : M) (r : R M) (fc : ME) (ms : MS) : R M := r.bind fun y h2 => sCh3 g' y (g x y h2) fc ms
def sCh1 (g g' : M → M → MH → R M) (r : R M) (fb fc : ME) (ms : MS) : R M := r.bind fun x h1 => sCh2 g g' x (fb ms h1) fc ms
theorem ev_ch (g g' : M → M → MH → R M) (fa fb fc : ME) (ms : MS) (h : MH) : mChain g g' fa fb fc ms h = sCh1 g g' (fa ms h) fb fc ms := rfl
theorem ev_ch1 (g g' : M → M → MH → R M) (x : M) (fb fc : ME) (ms : MS) (h : MH) : sCh1 g g' (.ok x h) fb fc ms = sCh2 g g' x (fb ms h) fc ms := rfl
theorem ev_ch2 (g g' : M → M → MH → R M) (x y : M) (fc : ME) (ms : MS) (h : MH) : sCh2 g g' x (.ok y h) fc ms = sCh3 g' y (g x y h) fc ms := rfl
theorem ev_ch3T (g' : M → M → MH → R M) (y : M) (fc : ME) (ms : MS) (h : MH) : sCh3 g' y (.ok (.bl true) h) fc ms = sCh4 g' y (fc ms h) := rfl
theorem ev_ch3F (g' : M → M → MH → R M) (y : M) (fc : ME) (ms : MS) (h : MH) : sCh3 g' y (.ok (.bl false) h) fc ms = .ok (.bl false) h := rfl
theorem ev_ch4 (g' : M → M → MH → R M) (y w : M) (h : MH) : sCh4 g' y (.ok w h) = g' y w h := rfl
theorem ev_is (neg : Bool) (x : M) (h : MH) : isM neg x .non h = .ok (.bl (if neg then !(match x with | .non => true | _ => false) else (match x with | .non => true | _ => false))) h := rfl
theorem ev_isB (neg : Bool) (x : M) (b : Bool) (h : MH) : isM neg x (.bl b) h = .ok (.bl (if neg then !(match x with | .bl c => c == b | _ => false) else (match x with | .bl c => c == b | _ => false))) h := rfl
def notNon : M → Bool
  | .non => false
  | _ => true
theorem ev_notN (x : M) (h : MH) : notNM x .non h = .ok (.bl (notNon x)) h := by cases x <;> rfl
/-! ### calls -/
def sCall (g : List M → MH → R M) (r : R (List M)) : R M := r.bind fun xs h => g xs h
theorem ev_call (g : List M → MH → R M) (fa : MA) (ms : MS) (h : MH) : mCall g fa ms h = sCall g (fa ms h) := rfl
theorem ev_call1 (g : List M → MH → R M) (xs : List M) (h : MH) : sCall g (.ok xs h) = g xs h := rfl
def sOwn (n : Nat) (F : MF) (r : R (List M)) : R M := r.bind fun args h => if args.length = n then F args h else .bad
theorem ev_own (n : Nat) (F : MF) (fa : MA) (ms : MS) (h : MH) : mOwn n F fa ms h = sOwn n F (fa ms h) := rfl
theorem ev_own_1 (F : MF) (a : M) (h : MH) : sOwn 1 F (.ok [a] h) = F [a] h := rfl
theorem ev_own_2 (F : MF) (a b : M) (h : MH) : sOwn 2 F (.ok [a, b] h) = F [a, b] h := rfl
theorem ev_own_3 (F : MF) (a b c : M) (h : MH) : sOwn 3 F (.ok [a, b, c] h) = F [a, b, c] h := rfl
theorem ev_own_4 (F : MF) (a b c d : M) (h : MH) : sOwn 4 F (.ok [a, b, c, d] h) = F [a, b, c, d] h := rfl
theorem ev_own_5 (F : MF) (a b c d e : M) (h : MH) : sOwn 5 F (.ok [a, b, c, d, e] h) = F [a, b, c, d, e] h := rfl
def sOwnK (ix : List Nat) (n : Nat) (F : MF) (r : R (List M)) : R M := r.bind fun args h => if args.length = n ∧ ix.all (fun i => decide (i < n)) = true then F (ix.map fun i => args.getD i .non) h else .bad
theorem ev_ownK (ix : List Nat) (n : Nat) (F : MF) (fa : MA) (ms : MS) (h : MH) : mOwnK ix n F fa ms h = sOwnK ix n F (fa ms h) := rfl
theorem ev_ownK_1 (F : MF) (a : M) (h : MH) : sOwnK [0] 1 F (.ok [a] h) = F [a] h := rfl
theorem ev_ownK_01 (F : MF) (a b : M) (h : MH) : sOwnK [0, 1] 2 F (.ok [a, b] h) = F [a, b] h := rfl
theorem ev_ownK_10 (F : MF) (a b : M) (h : MH) : sOwnK [1, 0] 2 F (.ok [a, b] h) = F [b, a] h := rfl
theorem ev_len (x : M) (h : MH) : lenM [x] h = match seqOf h x with
    | some ys => .ok (.int ys.length) h
    | none => .bad := rfl
theorem ev_lenT (xs : List M) (h : MH) : lenM [.tup xs] h = .ok (.int xs.length) h := rfl
theorem ev_lenL (xs : List M) (h : MH) : lenM [.tmp xs] h = .ok (.int xs.length) h := rfl
theorem ev_lenO (xs : List M) (h : MH) : lenM [.ro xs] h = .ok (.int xs.length) h := rfl
theorem ev_int (i : Int) (h : MH) : intM [.int i] h = .ok (.int i) h := rfl
theorem ev_intB (b : Bool) (h : MH) : intM [.bl b] h = .ok (.int (if b then 1 else 0)) h := rfl
theorem ev_abs (i : Int) (h : MH) : absM [.int i] h = .ok (.int (if i < 0 then -i else i)) h := rfl
def mn (i j : Int) : Int := if j < i then j else i
def mx (i j : Int) : Int := if j > i then j else i
theorem ev_min (i j : Int) (h : MH) : min2M [.int i, .int j] h = .ok (.int (mn i j)) h := rfl
theorem ev_max (i j : Int) (h : MH) : max2M [.int i, .int j] h = .ok (.int (mx i j)) h := rfl
theorem ev_tupT (xs : List M) (h : MH) : tupleM [.tup xs] h = .ok (.tup xs) h := rfl
theorem ev_tupL (xs : List M) (h : MH) : tupleM [.tmp xs] h = .ok (.tup xs) h := rfl
theorem ev_tupO (n : Nat) (h : MH) : tupleM [.loc n] h = match lsq h (.loc n) with
    | some ys => .ok (.tup ys) h
    | none => .bad := rfl
theorem ev_listT (bx : Bool) (xs : List M) (h : MH) : listM bx [.tup xs] h = mkL bx xs h := rfl
theorem ev_listL (bx : Bool) (xs : List M) (h : MH) : listM bx [.tmp xs] h = mkL bx xs h := rfl
def sMeth2 (g : M → List M → MH → R M) (x : M) (r : R (List M)) : R M := r.bind fun xs h2 => g x xs h2
def sMeth (T : String) (g : M → List M → MH → R M) (r : R M) (fa : MA) (ms : MS) : R M := r.bind fun x h1 => if typM h1 x = some T then sMeth2 g x (fa ms h1) else .bad
theorem ev_meth (T : String) (g : M → List M → MH → R M) (fo : ME) (fa : MA) (ms : MS) (h : MH) : mMeth T g fo fa ms h = sMeth T g (fo ms h) fa ms := rfl
theorem ev_meth1 (T : String) (g : M → List M → MH → R M) (x : M) (fa : MA) (ms : MS) (h : MH) : sMeth T g (.ok x h) fa ms = if typM h x = some T then sMeth2 g x (fa ms h) else .bad := rfl
theorem ev_meth2 (g : M → List M → MH → R M) (x : M) (xs : List M) (h : MH) : sMeth2 g x (.ok xs h) = g x xs h := rfl
theorem ev_typL (n : Nat) (h : MH) (xs : List M) (e : h[n]? = some (.lst xs)) : typM h (.loc n) = some "list" := by unfold typM; simp only [e]; rfl
/-! ### stores -/
theorem ev_gN (i : Nat) (m : M) (ms : MS) (h : MH) : gN i m ms h = .ok (ms.set i (some m)) h := rfl
def sGs (r : R MS) (g : MGs) (xs : List M) : R MS := match r with
  | .ok ms' h' => g xs ms' h'
  | _ => .bad
def sSet2 (o : M) (r : R M) (v : M) (ms : MS) : R MS := match r with
  | .ok i h2 => match setM o i v h2 with
    | some h3 => .ok ms h3
    | none => .bad
  | _ => .bad
def sSet1 (r : R M) (fi : ME) (v : M) (ms : MS) : R MS := match r with
  | .ok o h1 => sSet2 o (fi ms h1) v ms
  | _ => .bad
theorem ev_set (fo fi : ME) (v : M) (ms : MS) (h : MH) : gSet fo fi v ms h = sSet1 (fo ms h) fi v ms := by unfold gSet sSet1 sSet2; rfl
theorem ev_set1 (o : M) (fi : ME) (v : M) (ms : MS) (h : MH) : sSet1 (.ok o h) fi v ms = sSet2 o (fi ms h) v ms := rfl
theorem ev_set2 {o i v : M} {ms : MS} {h h3 : MH} (e : setM o i v h = some h3) : sSet2 o (.ok i h) v ms = .ok ms h3 := by
  unfold sSet2
  simp only [e]
theorem ev_gT (n : Nat) (g : MGs) (xs : List M) (ms : MS) (h : MH) : gT n g (.tup xs) ms h = if xs.length = n then g xs ms h else .bad := rfl
theorem ev_gT2 (g : MGs) (x y : M) (ms : MS) (h : MH) : gT 2 g (.tup [x, y]) ms h = g [x, y] ms h := rfl
theorem ev_gT3 (g : MGs) (x y z : M) (ms : MS) (h : MH) : gT 3 g (.tup [x, y, z]) ms h = g [x, y, z] ms h := rfl
theorem ev_gnil (ms : MS) (h : MH) : gsNil [] ms h = .ok ms h := rfl
theorem ev_gcons (f : MG) (g : MGs) (x : M) (xs : List M) (ms : MS) (h : MH) : gsCons f g (x :: xs) ms h = sGs (f x ms h) g xs := by unfold gsCons sGs; rfl
theorem ev_gcons1 (g : MGs) (xs : List M) (ms : MS) (h : MH) : sGs (.ok ms h) g xs = g xs ms h := rfl
/-! ### what is walked -/
def sISeq (r : R M) : R IV := r.bind fun m h => iSeqM m h
theorem ev_iseq (f : ME) (ms : MS) (h : MH) : iSeq f ms h = sISeq (f ms h) := rfl
theorem ev_iseqT (xs : List M) (h : MH) : sISeq (.ok (.tup xs) h) = .ok (.vals xs) h := rfl
theorem ev_iseqL (xs : List M) (h : MH) : sISeq (.ok (.tmp xs) h) = .ok (.vals xs) h := rfl
theorem ev_iseqO (xs : List M) (h : MH) : sISeq (.ok (.ro xs) h) = .ok (.vals xs) h := rfl
def sR1 (r : R (List M)) : R IV := r.bind fun xs h => match xs with
  | [.int j] => if cR j = true then .ok (.vals (rngV 0 j.toNat)) h else .bad
  | _ => .bad
theorem ev_r1 (fa : MA) (ms : MS) (h : MH) : iRange1 fa ms h = sR1 (fa ms h) := rfl
theorem ev_r1' (j : Int) (h : MH) : sR1 (.ok [.int j] h) = if cR j = true then .ok (.vals ((irg 0 j).map M.int)) h else .bad := by rw [← rngV_irg0]; rfl
def sR2 (r : R (List M)) : R IV := r.bind fun xs h => match xs with
  | [.int i, .int j] => if (cR i && cR j) = true then .ok (.vals (rngV i (j - i).toNat)) h else .bad
  | _ => .bad
theorem ev_r2 (fa : MA) (ms : MS) (h : MH) : iRange2 fa ms h = sR2 (fa ms h) := rfl
theorem ev_r2' (i j : Int) (h : MH) : sR2 (.ok [.int i, .int j] h) = if (cR i && cR j) = true then .ok (.vals ((irg i j).map M.int)) h else .bad := by rw [← rngV_irg]; rfl
theorem cR_ok {i : Int} (h1 : -(2 ^ 62) ≤ i) (h2 : i < 2 ^ 62) : cR i = true := by simp [cR]; omega
/-! ### list(range(..)) -/
def sLrg1 (bx : Bool) (r : R M) : R M := r.bind fun x h => match x with
  | .int n => lrgM bx 0 n h
  | _ => .bad
theorem ev_lrg1 (bx : Bool) (fa : ME) (ms : MS) (h : MH) : mLrg1 bx fa ms h = sLrg1 bx (fa ms h) := rfl
theorem ev_lrg1' (bx : Bool) (n : Int) (h : MH) : sLrg1 bx (.ok (.int n) h) = if cRg 0 n = true then mkL bx ((irg 0 n).map M.int) h else .bad := by
  show (if cRg 0 n = true then mkL bx (rngV 0 (n - 0).toNat) h else .bad) = _
  rw [rngV_irg]
theorem cRg_yes {a b : Int} (h1 : -(2 ^ 62) ≤ a) (h2 : a < 2 ^ 62) (h3 : -(2 ^ 62) ≤ b) (h4 : b < 2 ^ 62) (h5 : b - a ≤ 16777216) : cRg a b = true := by simp [cRg]; omega
/-! ### slices -/
def sSl4 (bx : Bool) (x : M) (l : Option Int) (r : R (Option Int)) : R M := r.bind fun u h3 => sliceM bx x l u h3
def sSl3 (bx : Bool) (x : M) (r : R (Option Int)) (hi : MO) (ms : MS) : R M := r.bind fun l h2 => sSl4 bx x l (hi ms h2)
def sSl (bx : Bool) (r : R M) (lo hi : MO) (ms : MS) : R M := r.bind fun x h1 => sSl3 bx x (lo ms h1) hi ms
theorem ev_sl (bx : Bool) (f : ME) (lo hi : MO) (ms : MS) (h : MH) : mSlice bx f lo hi ms h = sSl bx (f ms h) lo hi ms := rfl
theorem ev_sl1 (bx : Bool) (x : M) (lo hi : MO) (ms : MS) (h : MH) : sSl bx (.ok x h) lo hi ms = sSl3 bx x (lo ms h) hi ms := rfl
theorem ev_sl3 (bx : Bool) (x : M) (l : Option Int) (hi : MO) (ms : MS) (h : MH) : sSl3 bx x (.ok l h) hi ms = sSl4 bx x l (hi ms h) := rfl
theorem ev_sl4 (bx : Bool) (x : M) (l u : Option Int) (h : MH) : sSl4 bx x l (.ok u h) = sliceM bx x l u h := rfl
def sO (r : R M) : R (Option Int) := r.bind fun m h => match m with
  | .int i => .ok (some i) h
  | _ => .bad
theorem ev_on (ms : MS) (h : MH) : oNone ms h = .ok none h := rfl
theorem ev_os (f : ME) (ms : MS) (h : MH) : oSome f ms h = sO (f ms h) := rfl
theorem ev_os1 (i : Int) (h : MH) : sO (.ok (.int i) h) = .ok (some i) h := rfl
theorem ev_slT (bx : Bool) (xs : List M) (l u : Option Int) (h : MH) : sliceM bx (.tup xs) l u h = .ok (.tup (cutM xs l u)) h := rfl
theorem ev_slL (bx : Bool) (xs : List M) (l u : Option Int) (h : MH) : sliceM bx (.tmp xs) l u h = mkL bx (cutM xs l u) h := rfl
theorem ev_slO (bx : Bool) (xs : List M) (l u : Option Int) (h : MH) : sliceM bx (.ro xs) l u h = mkL bx (cutM xs l u) h := rfl
theorem cut_lo (xs : List M) (k : Nat) : cutM xs (some (k : Int)) none = xs.drop k := by
  unfold cutM
  rw [HT.sIx_nat, HT.sIx_none]
  by_cases h : k ≤ xs.length
  · rw [Nat.min_eq_left h, List.take_of_length_le (by rw [List.length_drop]; omega)]
  · rw [Nat.min_eq_right (by omega), Nat.sub_self, List.take_zero, List.drop_eq_nil_of_le (by omega)]
theorem cut_hi (xs : List M) (k : Nat) : cutM xs none (some (k : Int)) = xs.take k := by
  unfold cutM
  rw [HT.sIx_nat, HT.sIx_none, List.drop_zero, Nat.sub_zero]
  by_cases h : k ≤ xs.length
  · rw [Nat.min_eq_left h]
  · rw [Nat.min_eq_right (by omega), List.take_length, List.take_of_length_le (by omega)]
/-! ### append -/
theorem ev_app {n : Nat} {x : M} {h : MH} {xs : List M} (e : h[n]? = some (.lst xs)) (hl : xs.length < LIM) : appM (.loc n) [x] h = .ok .non (h.set n (.lst (xs ++ [x]))) := by
  unfold appM
  simp only [e, hl, if_true]
/-! ### loops that only add to one list -/
theorem for_acc {α β : Type} {g : MG} {body : MX} (enc : α → M) (f : α → List β) (P : MS → Prop) (hp : List β → MH) (B : Nat) : ∀ (as : List α)
    (hs : ∀ a ∈ as, ∀ ms xs, P ms → xs.length + (f a).length ≤ B → ∃ ms', TurnTo g body (enc a) ms (hp xs) ms' (hp (xs ++ f a)) ∧ P ms') (ms : MS) (xs : List β), P ms → xs.length + (as.flatMap f).length ≤ B →
    ∃ ms', forV g body (as.map enc) ms (hp xs) = .nx ms' (hp (xs ++ as.flatMap f)) ∧ P ms'
  | [], _, ms, xs, h0, _ => ⟨ms, by simp [forV], h0⟩
  | a :: as, hs, ms, xs, h0, hl => by
    rw [List.flatMap_cons, List.length_append] at hl
    obtain ⟨ms1, t, h1⟩ := hs a List.mem_cons_self ms xs h0 (by omega)
    obtain ⟨ms2, e, h2⟩ := for_acc enc f P hp B as (fun b hb => hs b (List.mem_cons_of_mem _ hb)) ms1 (xs ++ f a) h1 (by rw [List.length_append]; omega)
    exact ⟨ms2, by rw [List.map_cons, forV, turn_to t, e, List.flatMap_cons, List.append_assoc], h2⟩
theorem turn_nx {g : MG} {body : MX} {x : M} {ms ms1 ms' : MS} {h h1 h' : MH} (e1 : g x ms h = .ok ms1 h1) (e2 : body ms1 h1 = .nx ms' h') : TurnTo g body x ms h ms' h' := ⟨ms1, h1, e1, .inl e2⟩
theorem irg_drop (lo hi : Int) (k : Nat) : (irg lo hi).drop k = irg (lo + k) hi := by
  unfold irg
  rw [← List.map_drop, List.range_eq_range', List.drop_range', List.range_eq_range']
  have e : (hi - (lo + k)).toNat = (hi - lo).toNat - k := by omega
  rw [e]
  apply List.ext_getElem
  · simp
  · intro i h1 h2
    simp
    omega
/-! ### comprehensions that touch nothing -/
theorem mLc_pure {α : Type} {bx : Bool} {fi : MI} {g : MG} {tt : MT} {te : ME} {vs : List Nat} {ms : MS} {h : MH} {as : List α} (enc : α → M) (p : α → Bool) (y : α → M) (e1 : fi ms h = .ok (.vals (as.map enc)) h)
    (hs : ∀ a ∈ as, ∃ ms1, g (enc a) (wipeM ms vs) h = .ok ms1 h ∧ tt ms1 h = .ok (p a) h ∧ (p a = true → te ms1 h = .ok (y a) h)) (hl : as.length ≤ LIM) : mLc bx fi g tt te vs ms h = mkL bx ((as.filter p).map y) h :=
  mLc_eq e1 (lcV_map enc p y h as hs) (by rw [List.length_map]; exact Nat.le_trans (List.length_filter_le _ _) hl)
theorem mLc_all {α : Type} {bx : Bool} {fi : MI} {g : MG} {te : ME} {vs : List Nat} {ms : MS} {h : MH} {as : List α} (enc : α → M) (y : α → M) (e1 : fi ms h = .ok (.vals (as.map enc)) h)
    (hs : ∀ a ∈ as, ∃ ms1, g (enc a) (wipeM ms vs) h = .ok ms1 h ∧ te ms1 h = .ok (y a) h) (hl : as.length ≤ LIM) : mLc bx fi g ttYes te vs ms h = mkL bx (as.map y) h := by
  have := mLc_pure (bx := bx) (tt := ttYes) (te := te) (vs := vs) enc (fun _ => true) y e1 (fun a ha => let ⟨ms1, q1, q2⟩ := hs a ha; ⟨ms1, q1, rfl, fun _ => q2⟩) hl
  rwa [show as.filter (fun _ => true) = as from List.filter_eq_self.mpr fun _ _ => rfl] at this
/-! ### dicts -/
section
variable {κ : Type} [DecidableEq κ]
theorem valM_nil (k : κ) : valM ([] : List (κ × M)) k = none := rfl
theorem valM_cons (a : κ) (b : M) (r : List (κ × M)) (k : κ) : valM ((a, b) :: r) k = if a = k then some b else valM r k := by
  unfold valM
  rw [List.find?_cons]
  by_cases h : a = k
  · simp [h]
  · simp [h]
theorem valM_repl (k : κ) (v : M) (q : κ) : ∀ kvs : List (κ × M), (kvs.any fun kv => decide (kv.1 = k)) = true → valM (kvs.map fun kv => if kv.1 = k then (kv.1, v) else kv) q = if q = k then some v else valM kvs q
  | [], h => by simp at h
  | (a, b) :: r, h => by
    rw [List.map_cons]
    by_cases ha : a = k
    · subst ha
      rw [if_pos rfl, valM_cons, valM_cons]
      by_cases hq : a = q
      · subst hq; simp
      · rw [if_neg hq, if_neg hq, if_neg (Ne.symm hq)]
        by_cases hr : (r.any fun kv => decide (kv.1 = a)) = true
        · rw [valM_repl a v q r hr, if_neg (Ne.symm hq)]
        · have : (r.map fun kv => if kv.1 = a then (kv.1, v) else kv) = r := by
            conv => rhs; rw [← List.map_id r]
            refine List.map_congr_left fun kv hkv => ?_
            rw [if_neg]
            · rfl
            · intro e
              exact hr (List.any_eq_true.mpr ⟨kv, hkv, by simpa using e⟩)
          rw [this]
    · rw [if_neg ha, valM_cons, valM_cons, valM_repl k v q r (by simpa [ha] using h)]
      by_cases hq : a = q
      · subst hq; rw [if_pos rfl, if_neg ha, if_pos rfl]
      · rw [if_neg hq, if_neg hq]
theorem valM_snoc (k : κ) (v : M) (q : κ) : ∀ kvs : List (κ × M), (kvs.any fun kv => decide (kv.1 = k)) = false → valM (kvs ++ [(k, v)]) q = if q = k then some v else valM kvs q
  | [], _ => by
    rw [List.nil_append, valM_cons, valM_nil]
    by_cases h : k = q
    · subst h; simp
    · rw [if_neg h, if_neg (Ne.symm h)]
  | (a, b) :: r, h => by
    rw [List.any_cons, Bool.or_eq_false_iff] at h
    rw [List.cons_append, valM_cons, valM_cons, valM_snoc k v q r h.2]
    have ha : ¬ a = k := by simpa using h.1
    by_cases hq : a = q
    · subst hq; rw [if_pos rfl, if_neg ha, if_pos rfl]
    · rw [if_neg hq, if_neg hq]
theorem valM_put (kvs : List (κ × M)) (k : κ) (v : M) (q : κ) : valM (putM kvs k v) q = if q = k then some v else valM kvs q := by
  unfold putM
  split
  · rename_i h; exact valM_repl k v q kvs h
  · rename_i h; exact valM_snoc k v q kvs (Bool.eq_false_iff.mpr h)
theorem putM_len (kvs : List (κ × M)) (k : κ) (v : M) : (putM kvs k v).length ≤ kvs.length + 1 := by
  unfold putM
  split
  · rw [List.length_map]; omega
  · rw [List.length_append]; exact Nat.le_refl _
end
/-! ### a loop over a list that stays as it is -/
theorem forN_pre {α : Type} {g : MG} {body : MX} (enc : α → M) (as : List α) {n : Nat} {h : MH} (hn : h[n]? = some (.lst (as.map enc))) (Inv : List α → MS → Prop)
    (hs : ∀ pre a post ms, as = pre ++ a :: post → Inv pre ms → ∃ ms', TurnTo g body (enc a) ms h ms' h ∧ Inv (pre ++ [a]) ms') {ms : MS} (h0 : Inv [] ms) {fuel : Nat} (hf : as.length < fuel) :
    ∃ ms', forN g body n fuel 0 ms h = .nx ms' h ∧ Inv as ms' := by
  have go : ∀ suf pre ms fuel, as = pre ++ suf → suf.length < fuel → Inv pre ms → ∃ ms', forN g body n fuel pre.length ms h = .nx ms' h ∧ Inv as ms' := by
    intro suf
    induction suf with
    | nil =>
      intro pre ms fuel e hf i
      cases fuel with
      | zero => omega
      | succ k =>
        refine ⟨ms, ?_, by rw [e, List.append_nil]; exact i⟩
        unfold forN
        rw [hn]
        have : (as.map enc)[pre.length]? = none := by rw [e]; simp
        simp only [this]
    | cons a suf ih =>
      intro pre ms fuel e hf i
      cases fuel with
      | zero => omega
      | succ k =>
        obtain ⟨ms1, t, i1⟩ := hs pre a suf ms e i
        obtain ⟨ms2, e2, i2⟩ := ih (pre ++ [a]) ms1 k (by rw [e]; simp) (by rw [List.length_cons] at hf; omega) i1
        refine ⟨ms2, ?_, i2⟩
        unfold forN
        rw [hn]
        have : (as.map enc)[pre.length]? = some (enc a) := by rw [e]; simp
        simp only [this]
        rw [turn_to t]
        rw [List.length_append, List.length_singleton] at e2
        exact e2
  exact go as [] ms fuel rfl hf h0
theorem xFor_at {fi : MI} {g : MG} {body : MX} {ms : MS} {h h1 : MH} {n : Nat} (e1 : fi ms h = .ok (.at_ n) h1) : xFor fi g body ms h = forN g body n 16777217 0 ms h1 := by
  unfold xFor
  rw [e1]
  rfl
theorem iseq_loc {n : Nat} {h : MH} {xs : List M} (e : h[n]? = some (.lst xs)) : sISeq (.ok (.loc n) h) = .ok (.at_ n) h := by
  show iSeqM (.loc n) h = _
  simp only [iSeqM, e]
/-! ### range with a step -/
def sR3 (r : R (List M)) : R IV := r.bind fun xs h => match xs with
  | [.int i, .int j, .int c] => if cStep i j c = true then .ok (.vals (stpV i c (Builtin.Range.rangeSize i j c).toNat)) h else .bad
  | _ => .bad
theorem ev_r3 (fa : MA) (ms : MS) (h : MH) : iRange3 fa ms h = sR3 (fa ms h) := rfl
theorem r3_ok {i j c : Int} {h : MH} (hs : cStep i j c = true) : sR3 (.ok [.int i, .int j, .int c] h) = .ok (.vals (stpV i c (Builtin.Range.rangeSize i j c).toNat)) h := by
  show (if cStep i j c = true then R.ok (IV.vals _) h else .bad) = _
  rw [if_pos hs]
end Tb

set_option Elab.async false
set_option linter.all false
set_option maxRecDepth 100000
/-! webs in plain Lean: ties in their order -/
namespace Tb
open PySem L2
open En (en da)

abbrev Tie := Int × Int
def leP (p q : Tie) : Bool := decide (p.1 < q.1 ∨ (p.1 = q.1 ∧ p.2 ≤ q.2))
def ltP (p q : Tie) : Prop := p.1 < q.1 ∨ (p.1 = q.1 ∧ p.2 < q.2)
def leI (a b : Int) : Bool := decide (a ≤ b)
theorem leP_trans (a b c : Tie) : leP a b = true → leP b c = true → leP a c = true := by
  simp only [leP, decide_eq_true_eq]; omega
theorem leP_total (a b : Tie) : (leP a b || leP b a) = true := by
  simp only [leP, Bool.or_eq_true, decide_eq_true_eq]; omega
theorem leP_anti (a b : Tie) (h1 : leP a b = true) (h2 : leP b a = true) : a = b := by
  simp only [leP, decide_eq_true_eq] at h1 h2
  obtain ⟨a1, a2⟩ := a
  obtain ⟨b1, b2⟩ := b
  simp only [Prod.mk.injEq]
  simp only at h1 h2
  omega
theorem ltP_le {a b : Tie} (h : ltP a b) : leP a b = true := by
  simp only [leP, decide_eq_true_eq]
  unfold ltP at h
  omega
theorem ltP_ne {a b : Tie} (h : ltP a b) : a ≠ b := by
  rintro rfl
  unfold ltP at h
  omega
/-! ### sorted in the mirror -/
theorem datD_en {α : Type} [DecidableEq α] [En α] (h : MH) (a : α) (hd : En.dp α < DP) : datD h (en a) = da a := by unfold datD; rw [En.dat_en h DP a hd]; rfl
theorem all_en {α : Type} [DecidableEq α] [En α] (h : MH) (hd : En.dp α < DP) (l : List α) : ((l.map en).all fun m => (dat h DP m).isSome) = true := by
  rw [List.all_eq_true]
  intro m hm
  obtain ⟨a, _, rfl⟩ := List.mem_map.mp hm
  rw [En.dat_en h DP a hd]
  rfl
theorem sort_en {α : Type} [DecidableEq α] [En α] {bx : Bool} {h : MH} {x : M} {l : List α} {le : α → α → Bool} (hd : En.dp α < DP) (hs : lsq h x = some (l.map en)) (hc : ∀ a b : α, PySem.W.alike (da a) (da b) = true) (ht : (∀ a : α, tupNE (da a) = true) ∨ ∀ a : α, tupNo (da a) = true)
    (hl : ∀ a b : α, (!PySem.W.dataLt (da b) (da a)) = le a b) : sortM bx [x] h = mkL bx ((l.mergeSort le).map en) h := by
  unfold sortM
  simp only [hs]
  have e : (l.map en).map (datD h) = l.map da := by
    rw [List.map_map]
    apply List.map_congr_left
    intro a _
    exact datD_en h a hd
  have c : cSort ((l.map en).map (datD h)) = true := by
    rw [e]
    unfold cSort cAlike
    simp only [Bool.and_eq_true, Bool.or_eq_true, List.all_eq_true]
    refine ⟨fun d hd' e' he' => ?_, ?_⟩
    · obtain ⟨a, _, rfl⟩ := List.mem_map.mp hd'
      obtain ⟨b, _, rfl⟩ := List.mem_map.mp he'
      exact hc a b
    · rcases ht with ht | ht
      · exact .inl fun d hd' => by
          obtain ⟨a, _, rfl⟩ := List.mem_map.mp hd'
          exact ht a
      · exact .inr fun d hd' => by
          obtain ⟨a, _, rfl⟩ := List.mem_map.mp hd'
          exact ht a
  rw [if_pos ⟨all_en h hd l, c⟩]
  congr 1
  rw [List.map_mergeSort (s := PySem.W.dataLe false (datD h))]
  intro a _ b _
  rw [PySem.W.dataLe_eq]
  simp only [cond_false]
  rw [datD_en h a hd, datD_en h b hd]
  exact (hl a b).symm
theorem sort_ties {bx : Bool} {h : MH} {x : M} {l : List Tie} (hs : lsq h x = some (l.map en)) : sortM bx [x] h = mkL bx ((l.mergeSort leP).map en) h := by
  refine sort_en (by decide) hs (fun a b => ?_) (.inl fun a => rfl) fun a b => ?_
  · show PySem.W.alike (.tuple [.int a.1, .int a.2]) (.tuple [.int b.1, .int b.2]) = true
    simp [PySem.W.alike, PySem.W.alikeAll]
  · have := congrFun (congrFun (PySem.W.dataLe_ii (fun p : Tie => p.1) (fun p : Tie => p.2)) a) b
    rw [PySem.W.dataLe_eq] at this
    exact this
theorem sort_ints {bx : Bool} {h : MH} {x : M} {l : List Int} (hs : lsq h x = some (l.map en)) : sortM bx [x] h = mkL bx ((l.mergeSort leI).map en) h := by
  refine sort_en (by decide) hs (fun a b => ?_) (.inr fun a => rfl) fun a b => ?_
  · show PySem.W.alike (.int a) (.int b) = true
    simp [PySem.W.alike]
  · have := congrFun (congrFun (PySem.W.dataLe_int (fun p : Int => p)) a) b
    rw [PySem.W.dataLe_eq] at this
    exact this
/-! ### all pairs -/
def pairsL (n : Int) : List Tie := (irg 0 n).flatMap fun a => (irg (a + 1) n).map fun b => (a, b)
theorem mem_pairsL {n : Int} {t : Tie} : t ∈ pairsL n ↔ 0 ≤ t.1 ∧ t.1 < t.2 ∧ t.2 < n := by
  unfold pairsL
  rw [List.mem_flatMap]
  constructor
  · rintro ⟨a, ha, ht⟩
    obtain ⟨b, hb, rfl⟩ := List.mem_map.mp ht
    rw [mem_irg] at ha hb
    exact ⟨ha.1, by show a < b; omega, hb.2⟩
  · rintro ⟨h1, h2, h3⟩
    exact ⟨t.1, mem_irg.mpr (by omega), List.mem_map.mpr ⟨t.2, mem_irg.mpr (by omega), rfl⟩⟩
theorem pairsL_sorted (n : Int) : (pairsL n).Pairwise ltP := by
  unfold pairsL
  rw [List.pairwise_flatMap]
  refine ⟨fun a _ => ?_, (irg_sorted 0 n).imp fun {a b} hab x hx y hy => ?_⟩
  · rw [List.pairwise_map]
    exact (irg_sorted _ _).imp fun h => .inr ⟨rfl, h⟩
  · obtain ⟨u, _, rfl⟩ := List.mem_map.mp hx
    obtain ⟨v, _, rfl⟩ := List.mem_map.mp hy
    exact .inl hab
theorem nodup_ltP {l : List Tie} (h : l.Pairwise ltP) : l.Nodup := h.imp ltP_ne
def canon (n : Int) (A : Int → Int → Bool) : List Tie := (pairsL n).filter fun t => A t.1 t.2
theorem mem_canon {n : Int} {A : Int → Int → Bool} {t : Tie} : t ∈ canon n A ↔ 0 ≤ t.1 ∧ t.1 < t.2 ∧ t.2 < n ∧ A t.1 t.2 = true := by
  unfold canon
  rw [List.mem_filter, mem_pairsL]
  exact ⟨fun ⟨⟨a, b, c⟩, d⟩ => ⟨a, b, c, d⟩, fun ⟨a, b, c, d⟩ => ⟨⟨a, b, c⟩, d⟩⟩
theorem canon_sorted (n : Int) (A : Int → Int → Bool) : (canon n A).Pairwise ltP := (pairsL_sorted n).filter _
theorem canon_nodup (n : Int) (A : Int → Int → Bool) : (canon n A).Nodup := nodup_ltP (canon_sorted n A)
theorem canon_len (n : Int) (A : Int → Int → Bool) : (canon n A).length ≤ (pairsL n).length := List.length_filter_le _ _
theorem sorted_eq {l l' : List Tie} (h1 : l.Pairwise ltP) (h2 : l'.Pairwise ltP) (h : ∀ t, t ∈ l ↔ t ∈ l') : l = l' :=
  List.Perm.eq_of_pairwise (le := fun a b => leP a b = true) (fun a b _ _ => leP_anti a b) (h1.imp ltP_le) (h2.imp ltP_le) ((List.perm_ext_iff_of_nodup (nodup_ltP h1) (nodup_ltP h2)).mpr h)
theorem sort_eq {l l' : List Tie} (h1 : l.Nodup) (h2 : l'.Pairwise ltP) (h : ∀ t, t ∈ l ↔ t ∈ l') : l.mergeSort leP = l' :=
  List.Perm.eq_of_pairwise (le := fun a b => leP a b = true) (fun a b _ _ => leP_anti a b) (List.pairwise_mergeSort leP_trans leP_total l) (h2.imp ltP_le) ((List.mergeSort_perm l leP).trans ((List.perm_ext_iff_of_nodup h1 (nodup_ltP h2)).mpr h))
theorem canon_of {n : Int} {l : List Tie} (h : l.Pairwise ltP) (hr : ∀ t ∈ l, 0 ≤ t.1 ∧ t.1 < t.2 ∧ t.2 < n) : l = canon n fun a b => decide ((a, b) ∈ l) := by
  refine sorted_eq h (canon_sorted _ _) fun t => ?_
  rw [mem_canon]
  exact ⟨fun ht => ⟨(hr t ht).1, (hr t ht).2.1, (hr t ht).2.2, by simpa using ht⟩, fun ⟨_, _, _, ht⟩ => by simpa using ht⟩
theorem canon_congr {n : Int} {A B : Int → Int → Bool} : canon n A = canon n B ↔ ∀ a b, 0 ≤ a → a < b → b < n → A a b = B a b := by
  constructor
  · intro h a b h1 h2 h3
    have q : (a, b) ∈ canon n A ↔ (a, b) ∈ canon n B := by rw [h]
    rw [mem_canon, mem_canon] at q
    rw [Bool.eq_iff_iff]
    exact ⟨fun z => (q.mp ⟨h1, h2, h3, z⟩).2.2.2, fun z => (q.mpr ⟨h1, h2, h3, z⟩).2.2.2⟩
  · intro h
    unfold canon
    refine List.filter_congr fun t ht => ?_
    rw [mem_pairsL] at ht
    exact h _ _ ht.1 ht.2.1 ht.2.2
theorem len_flatMap_le {α β : Type} {f : α → List β} {k : Nat} : ∀ {l : List α}, (∀ a ∈ l, (f a).length ≤ k) → (l.flatMap f).length ≤ l.length * k
  | [], _ => by simp
  | a :: l, h => by
    rw [List.flatMap_cons, List.length_append, List.length_cons, Nat.add_mul, Nat.one_mul]
    have := h a List.mem_cons_self
    have := len_flatMap_le (l := l) fun b hb => h b (List.mem_cons_of_mem _ hb)
    omega
theorem pairsL_len {n : Int} (hn : n ≤ 100) : (pairsL n).length ≤ 10000 := by
  refine Nat.le_trans (len_flatMap_le (k := 100) fun a ha => ?_) ?_
  · rw [List.length_map, irg_length]
    rw [mem_irg] at ha
    omega
  · rw [irg_length]; omega
/-! ### turning at a point -/
def flipA (A : Int → Int → Bool) (p : Int) : Int → Int → Bool := fun a b => if a = p ∨ b = p then !A a b else A a b
def turnF (E : List Tie) (p : Int) (o : Int) : Bool := !decide (o = p) && !decide ((mn p o, mx p o) ∈ E)
def turnL (p : Int) (E : List Tie) (os : List Int) : List Tie := (os.filter (turnF E p)).map fun o => (mn p o, mx p o)
def turnRaw (n : Int) (E : List Tie) (p : Int) : List Tie := E.filter (fun t => !decide (p ∈ [t.1, t.2])) ++ turnL p E (irg 0 n)
theorem mem_turnL {p n : Int} {E : List Tie} {t : Tie} : t ∈ turnL p E (irg 0 n) ↔ ∃ o, 0 ≤ o ∧ o < n ∧ o ≠ p ∧ t = (mn p o, mx p o) ∧ t ∉ E := by
  unfold turnL turnF
  simp only [List.mem_map, List.mem_filter, mem_irg, Bool.and_eq_true, Bool.not_eq_true', decide_eq_false_iff_not]
  constructor
  · rintro ⟨o, ⟨⟨h1, h2⟩, h3, h4⟩, rfl⟩; exact ⟨o, h1, h2, h3, rfl, h4⟩
  · rintro ⟨o, h1, h2, h3, rfl, h4⟩; exact ⟨o, ⟨⟨h1, h2⟩, h3, h4⟩, rfl⟩
theorem turn_canon {n p : Int} {A : Int → Int → Bool} (h0 : 0 ≤ p) (h1 : p < n) : (turnRaw n (canon n A) p).mergeSort leP = canon n (flipA A p) := by
  refine sort_eq ?_ (canon_sorted _ _) fun t => ?_
  · unfold turnRaw
    rw [List.nodup_append]
    refine ⟨(canon_nodup n A).filter _, ?_, fun a ha b hb e => ?_⟩
    · unfold turnL
      refine List.Pairwise.map _ ?_ ((irg_nodup 0 n).filter _)
      intro a b hab e
      apply hab
      simp only [Prod.mk.injEq, mn, mx] at e
      split at e <;> split at e <;> split at e <;> split at e <;> omega
    · subst e
      rw [List.mem_filter] at ha
      obtain ⟨o, _, _, _, rfl, h⟩ := mem_turnL.mp hb
      exact h ha.1
  · unfold turnRaw
    rw [List.mem_append, mem_turnL, List.mem_filter, mem_canon, mem_canon]
    obtain ⟨a, b⟩ := t
    simp only [flipA, mem_canon, List.mem_cons, List.not_mem_nil, or_false, Bool.not_eq_true', decide_eq_false_iff_not, Prod.mk.injEq]
    constructor
    · rintro (⟨⟨c1, c2, c3, c4⟩, c5⟩ | ⟨o, d1, d2, d3, ⟨rfl, rfl⟩, d4⟩)
      · refine ⟨c1, c2, c3, ?_⟩
        rw [if_neg (by omega)]
        exact c4
      · have e : (mn p o = p ∧ mx p o = o ∧ p < o) ∨ (mn p o = o ∧ mx p o = p ∧ o < p) := by unfold mn mx; split <;> split <;> omega
        rcases e with ⟨e1, e2, e3⟩ | ⟨e1, e2, e3⟩ <;> rw [e1, e2] at d4 ⊢ <;> refine ⟨by omega, by omega, by omega, ?_⟩ <;> simp only [true_or, or_true, if_true, Bool.not_eq_true'] <;> rw [Bool.eq_false_iff] <;> exact fun z => d4 ⟨by omega, by omega, by omega, z⟩
    · rintro ⟨c1, c2, c3, c4⟩
      by_cases hp : a = p ∨ b = p
      · rw [if_pos hp, Bool.not_eq_true'] at c4
        refine .inr ?_
        rcases hp with rfl | rfl
        · refine ⟨b, by omega, by omega, by omega, ⟨?_, ?_⟩, fun z => by rw [c4] at z; exact absurd z.2.2.2 (by decide)⟩
          · unfold mn; split <;> omega
          · unfold mx; split <;> omega
        · refine ⟨a, by omega, by omega, by omega, ⟨?_, ?_⟩, fun z => by rw [c4] at z; exact absurd z.2.2.2 (by decide)⟩
          · unfold mn; split <;> omega
          · unfold mx; split <;> omega
      · rw [if_neg hp] at c4
        exact .inl ⟨⟨c1, c2, c3, c4⟩, by omega⟩
theorem inM_pt (neg : Bool) (p a b : Int) (h : MH) : inM neg (.int p) (.tup [.int a, .int b]) h = .ok (.bl (if neg then !decide (p ∈ [a, b]) else decide (p ∈ [a, b]))) h := inM_tup (α := Int) neg p [a, b] h
theorem inM_te (neg : Bool) (a b : Int) (E : List Tie) (h : MH) : inM neg (.tup [.int a, .int b]) (en E) h = .ok (.bl (if neg then !decide ((a, b) ∈ E) else decide ((a, b) ∈ E))) h := (inM_tup (α := Tie) neg (a, b) E h).trans (by cases neg <;> simp)
end Tb

set_option Elab.async false
set_option linter.all false
set_option maxRecDepth 100000
namespace Tb.K19
open PySem PySem.Spec PyProof.Rows L2
/-! ### the text -/
def topS (i : Nat) : Stmt := PySem.Challenge.pw_toldback_k19_whole_odd_triples.main.body.getD i (.Pass ⟨0, 0, 0, 0⟩)
abbrev s_odd_triples : Stmt := topS 2
abbrev N_odd_triples : List Str := ["web", "found", "a", "b", "c", "pair"]
abbrev P_odd_triples : List Str := ["web"]
abbrev Q_odd_triples : List (List Str × List Nat) := [(["web"], [0])]
theorem sc_odd_triples : FnScope N_odd_triples P_odd_triples (defScope s_odd_triples) := ⟨rfl, rfl, rfl, by decide +kernel, rfl, by decide +kernel, by decide +kernel⟩
abbrev s__law_own_bag : Stmt := topS 5
abbrev N__law_own_bag : List Str := ["script", "cells", "mixed", "cell"]
abbrev P__law_own_bag : List Str := ["script"]
abbrev Q__law_own_bag : List (List Str × List Nat) := []
theorem sc__law_own_bag : FnScope N__law_own_bag P__law_own_bag (defScope s__law_own_bag) := ⟨rfl, rfl, rfl, by decide +kernel, rfl, by decide +kernel, by decide +kernel⟩
abbrev s__law_draw : Stmt := topS 6
abbrev N__law_draw : List Str := ["bag", "below", "cell", "found"]
abbrev P__law_draw : List Str := ["bag", "below"]
abbrev Q__law_draw : List (List Str × List Nat) := []
theorem sc__law_draw : FnScope N__law_draw P__law_draw (defScope s__law_draw) := ⟨rfl, rfl, rfl, by decide +kernel, rfl, by decide +kernel, by decide +kernel⟩
abbrev s__law_pick : Stmt := topS 7
abbrev N__law_pick : List Str := ["bag", "some"]
abbrev P__law_pick : List Str := ["bag", "some"]
abbrev Q__law_pick : List (List Str × List Nat) := []
theorem sc__law_pick : FnScope N__law_pick P__law_pick (defScope s__law_pick) := ⟨rfl, rfl, rfl, by decide +kernel, rfl, by decide +kernel, by decide +kernel⟩
abbrev s__law_order : Stmt := topS 8
abbrev N__law_order : List Str := ["bag", "many", "rest", "found", "turn"]
abbrev P__law_order : List Str := ["bag", "many"]
abbrev Q__law_order : List (List Str × List Nat) := []
theorem sc__law_order : FnScope N__law_order P__law_order (defScope s__law_order) := ⟨rfl, rfl, rfl, by decide +kernel, rfl, by decide +kernel, by decide +kernel⟩
abbrev s__law_is_int : Stmt := topS 9
abbrev N__law_is_int : List Str := ["x"]
abbrev P__law_is_int : List Str := ["x"]
abbrev Q__law_is_int : List (List Str × List Nat) := []
theorem sc__law_is_int : FnScope N__law_is_int P__law_is_int (defScope s__law_is_int) := ⟨rfl, rfl, rfl, by decide +kernel, rfl, by decide +kernel, by decide +kernel⟩
abbrev s__law_same : Stmt := topS 10
abbrev N__law_same : List Str := ["told", "due", "one", "other"]
abbrev P__law_same : List Str := ["told", "due"]
abbrev Q__law_same : List (List Str × List Nat) := []
theorem sc__law_same : FnScope N__law_same P__law_same (defScope s__law_same) := ⟨rfl, rfl, rfl, by decide +kernel, rfl, by decide +kernel, by decide +kernel⟩
abbrev s__law_pairs : Stmt := topS 11
abbrev N__law_pairs : List Str := ["points", "found", "k", "a", "b"]
abbrev P__law_pairs : List Str := ["points"]
abbrev Q__law_pairs : List (List Str × List Nat) := []
theorem sc__law_pairs : FnScope N__law_pairs P__law_pairs (defScope s__law_pairs) := ⟨rfl, rfl, rfl, by decide +kernel, rfl, by decide +kernel, by decide +kernel⟩
abbrev s__law_led : Stmt := topS 13
abbrev N__law_led : List Str := ["web", "order", "ties", "i", "j"]
abbrev P__law_led : List Str := ["web", "order"]
abbrev Q__law_led : List (List Str × List Nat) := []
theorem sc__law_led : FnScope N__law_led P__law_led (defScope s__law_led) := ⟨rfl, rfl, rfl, by decide +kernel, rfl, by decide +kernel, by decide +kernel⟩
abbrev s__law_two_sides : Stmt := topS 15
abbrev N__law_two_sides : List Str := ["n", "m", "ties", "pair"]
abbrev P__law_two_sides : List Str := ["n", "m"]
abbrev Q__law_two_sides : List (List Str × List Nat) := []
theorem sc__law_two_sides : FnScope N__law_two_sides P__law_two_sides (defScope s__law_two_sides) := ⟨rfl, rfl, rfl, by decide +kernel, rfl, by decide +kernel, by decide +kernel⟩
abbrev s__law_told_web : Stmt := topS 16
abbrev N__law_told_web : List Str := ["bag", "n", "kind", "points", "way", "half", "i"]
abbrev P__law_told_web : List Str := ["bag", "n"]
abbrev Q__law_told_web : List (List Str × List Nat) := []
theorem sc__law_told_web : FnScope N__law_told_web P__law_told_web (defScope s__law_told_web) := ⟨rfl, rfl, rfl, by decide +kernel, rfl, by decide +kernel, by decide +kernel⟩
abbrev s__law_own_web : Stmt := topS 17
abbrev N__law_own_web : List Str := ["bag", "n", "way", "web", "pair"]
abbrev P__law_own_web : List Str := ["bag", "n"]
abbrev Q__law_own_web : List (List Str × List Nat) := []
theorem sc__law_own_web : FnScope N__law_own_web P__law_own_web (defScope s__law_own_web) := ⟨rfl, rfl, rfl, by decide +kernel, rfl, by decide +kernel, by decide +kernel⟩
abbrev s__law_at : Stmt := topS 18
abbrev N__law_at : List Str := ["web", "point", "ties", "other", "pair", "tie"]
abbrev P__law_at : List Str := ["web", "point"]
abbrev Q__law_at : List (List Str × List Nat) := []
theorem sc__law_at : FnScope N__law_at P__law_at (defScope s__law_at) := ⟨rfl, rfl, rfl, by decide +kernel, rfl, by decide +kernel, by decide +kernel⟩
abbrev s__law_triples : Stmt := topS 20
abbrev N__law_triples : List Str := ["web", "known", "found", "tie", "a", "b", "c", "many"]
abbrev P__law_triples : List Str := ["web"]
abbrev Q__law_triples : List (List Str × List Nat) := []
theorem sc__law_triples : FnScope N__law_triples P__law_triples (defScope s__law_triples) := ⟨rfl, rfl, rfl, by decide +kernel, rfl, by decide +kernel, by decide +kernel⟩
abbrev s_turned_at : Stmt := topS 1
abbrev N_turned_at : List Str := ["web", "point", "found", "other", "pair", "tie"]
abbrev P_turned_at : List Str := ["web", "point"]
abbrev Q_turned_at : List (List Str × List Nat) := [(["point", "web"], [1, 0])]
theorem sc_turned_at : FnScope N_turned_at P_turned_at (defScope s_turned_at) := ⟨rfl, rfl, rfl, by decide +kernel, rfl, by decide +kernel, by decide +kernel⟩
abbrev s_turning_lot : Stmt := topS 3
abbrev N_turning_lot : List Str := ["one", "other", "lot", "web", "point"]
abbrev P_turning_lot : List Str := ["one", "other"]
abbrev Q_turning_lot : List (List Str × List Nat) := [(["other", "one"], [1, 0])]
theorem sc_turning_lot : FnScope N_turning_lot P_turning_lot (defScope s_turning_lot) := ⟨rfl, rfl, rfl, by decide +kernel, rfl, by decide +kernel, by decide +kernel⟩
abbrev s__law_along : Stmt := topS 19
abbrev N__law_along : List Str := ["web", "lot", "point"]
abbrev P__law_along : List Str := ["web", "lot"]
abbrev Q__law_along : List (List Str × List Nat) := []
theorem sc__law_along : FnScope N__law_along P__law_along (defScope s__law_along) := ⟨rfl, rfl, rfl, by decide +kernel, rfl, by decide +kernel, by decide +kernel⟩
abbrev s__law_lot_due : Stmt := topS 21
abbrev N__law_lot_due : List Str := ["one", "other", "lot", "p"]
abbrev P__law_lot_due : List Str := ["one", "other"]
abbrev Q__law_lot_due : List (List Str × List Nat) := []
theorem sc__law_lot_due : FnScope N__law_lot_due P__law_lot_due (defScope s__law_lot_due) := ⟨rfl, rfl, rfl, by decide +kernel, rfl, by decide +kernel, by decide +kernel⟩
abbrev s__law_are_lots : Stmt := topS 22
abbrev N__law_are_lots : List Str := ["bag", "web", "triples", "n", "lot", "other", "way", "a", "pair", "ties", "due", "kept", "p", "tie"]
abbrev P__law_are_lots : List Str := ["bag", "web", "triples"]
abbrev Q__law_are_lots : List (List Str × List Nat) := []
theorem sc__law_are_lots : FnScope N__law_are_lots P__law_are_lots (defScope s__law_are_lots) := ⟨rfl, rfl, rfl, by decide +kernel, rfl, by decide +kernel, by decide +kernel⟩
abbrev s__law_are_rows : Stmt := topS 23
abbrev N__law_are_rows : List Str := ["bag", "web", "n", "lot", "told", "back", "point", "rest", "due", "p"]
abbrev P__law_are_rows : List Str := ["bag", "web"]
abbrev Q__law_are_rows : List (List Str × List Nat) := []
theorem sc__law_are_rows : FnScope N__law_are_rows P__law_are_rows (defScope s__law_are_rows) := ⟨rfl, rfl, rfl, by decide +kernel, rfl, by decide +kernel, by decide +kernel⟩
abbrev s_law : Stmt := topS 24
abbrev N_law : List Str := ["script", "bag", "web", "triples", "kept", "some", "told", "x", "p"]
abbrev P_law : List Str := ["script"]
abbrev Q_law : List (List Str × List Nat) := []
theorem sc_law : FnScope N_law P_law (defScope s_law) := ⟨rfl, rfl, rfl, by decide +kernel, rfl, by decide +kernel, by decide +kernel⟩
/-- what the top has written -/
structure Fx (K : PySem.W.Frag) (mg : Str → Option Value) : Prop where
  d_odd_triples : DefAt K mg "odd_triples" s_odd_triples P_odd_triples Q_odd_triples
  d__law_own_bag : DefAt K mg "_law_own_bag" s__law_own_bag P__law_own_bag Q__law_own_bag
  d__law_draw : DefAt K mg "_law_draw" s__law_draw P__law_draw Q__law_draw
  d__law_pick : DefAt K mg "_law_pick" s__law_pick P__law_pick Q__law_pick
  d__law_order : DefAt K mg "_law_order" s__law_order P__law_order Q__law_order
  d__law_is_int : DefAt K mg "_law_is_int" s__law_is_int P__law_is_int Q__law_is_int
  d__law_same : DefAt K mg "_law_same" s__law_same P__law_same Q__law_same
  d__law_pairs : DefAt K mg "_law_pairs" s__law_pairs P__law_pairs Q__law_pairs
  d__law_led : DefAt K mg "_law_led" s__law_led P__law_led Q__law_led
  d__law_two_sides : DefAt K mg "_law_two_sides" s__law_two_sides P__law_two_sides Q__law_two_sides
  d__law_told_web : DefAt K mg "_law_told_web" s__law_told_web P__law_told_web Q__law_told_web
  d__law_own_web : DefAt K mg "_law_own_web" s__law_own_web P__law_own_web Q__law_own_web
  d__law_at : DefAt K mg "_law_at" s__law_at P__law_at Q__law_at
  d__law_triples : DefAt K mg "_law_triples" s__law_triples P__law_triples Q__law_triples
  d_turned_at : DefAt K mg "turned_at" s_turned_at P_turned_at Q_turned_at
  d_turning_lot : DefAt K mg "turning_lot" s_turning_lot P_turning_lot Q_turning_lot
  d__law_along : DefAt K mg "_law_along" s__law_along P__law_along Q__law_along
  d__law_lot_due : DefAt K mg "_law_lot_due" s__law_lot_due P__law_lot_due Q__law_lot_due
  d__law_are_lots : DefAt K mg "_law_are_lots" s__law_are_lots P__law_are_lots Q__law_are_lots
  d__law_are_rows : DefAt K mg "_law_are_rows" s__law_are_rows P__law_are_rows Q__law_are_rows
  d_law : DefAt K mg "law" s_law P_law Q_law
  b_abs : mg "abs" = none
  b_all : mg "all" = none
  b_bool : mg "bool" = none
  b_enumerate : mg "enumerate" = none
  b_int : mg "int" = none
  b_isinstance : mg "isinstance" = none
  b_len : mg "len" = none
  b_list : mg "list" = none
  b_max : mg "max" = none
  b_min : mg "min" = none
  b_range : mg "range" = none
  b_repr : mg "repr" = none
  b_sorted : mg "sorted" = none
  b_str : mg "str" = none
  b_tuple : mg "tuple" = none
  b_zip : mg "zip" = none
/-! ### the mirror -/
def C1_odd_triples : MT := (tB' (mBin (inM false) (mVar 5) (mBin ixM (mVar 0) (mK (.int 1)))))
def B2_odd_triples : MX := (xSeq (xIf (tB' (mBin eqM (mBin modM (mCall lenM (aCons (mLc false (iSeq (mTup (aCons (mTup (aCons (mVar 2) (aCons (mVar 3) aNil))) (aCons (mTup (aCons (mVar 2) (aCons (mVar 4) aNil))) (aCons (mTup (aCons (mVar 3) (aCons (mVar 4) aNil))) aNil))))) (gN 5) C1_odd_triples (mVar 5) [5]) aNil)) (mK (.int 2))) (mK (.int 1)))) (xSeq (xExpr (mMeth "list" appM (mVar 1) (aCons (mTup (aCons (mVar 2) (aCons (mVar 3) (aCons (mVar 4) aNil)))) aNil)))
  xNil) xNil)
  xNil)
def B3_odd_triples : MX := (xSeq (xFor (iRange2 (aCons (mBin (addM false) (mVar 3) (mK (.int 1))) (aCons (mBin ixM (mVar 0) (mK (.int 0))) aNil))) (gN 4) B2_odd_triples)
  xNil)
def B4_odd_triples : MX := (xSeq (xFor (iRange2 (aCons (mBin (addM false) (mVar 2) (mK (.int 1))) (aCons (mBin ixM (mVar 0) (mK (.int 0))) aNil))) (gN 3) B3_odd_triples)
  xNil)
def F_odd_triples : MF := mDef 6 (xSeq (xAsg (mLst true aNil) (gN 1))
  (xSeq (xFor (iRange1 (aCons (mBin ixM (mVar 0) (mK (.int 0))) aNil)) (gN 2) B4_odd_triples)
  (xSeq (xRet (mCall tupleM (aCons (mVar 1) aNil)))
  xNil)))
def f_odd_triples : MF := cloF F_odd_triples
def B1__law_own_bag : MX := (xSeq (xAsg (mBin modM (mCall intM (aCons (mBin (addM false) (mBin (addM false) (mBin (mulM false) (mVar 2) (mK (.int 48271))) (mBin modM (mCall intM (aCons (mVar 3) aNil)) (mK (.int 2147483629)))) (mK (.int 5))) aNil)) (mK (.int 2147483647))) (gN 2))
  xNil)
def E2__law_own_bag : ME := (mCall absM (aCons (mVar 3) aNil))
def F__law_own_bag : MF := mDef 4 (xSeq (xAsg (mLc false (iSeq (mSlice false (mVar 0) oNone (oSome (mK (.int 63))))) (gN 3) ttYes E2__law_own_bag [3]) (gN 1))
  (xSeq (xAsg (mBin (addM false) (mK (.int 2033)) (mCall lenM (aCons (mVar 1) aNil))) (gN 2))
  (xSeq (xFor (iSeq (mVar 1)) (gN 3) B1__law_own_bag)
  (xSeq (xRet (mLst true (aCons (mUn (revM true) (mVar 1)) (aCons (mK (.int 0)) (aCons (mVar 2) aNil)))))
  xNil))))
def f__law_own_bag : MF := F__law_own_bag
def T1__law_draw : MT := (tAnd' (tB' (mBin eqM (mBin ixM (mVar 0) (mK (.int 1))) (mK (.int 0)))) (tB' (mBin neM (mBin ixM (mVar 0) (mK (.int 0))) (mLst false aNil))))
def B2__law_draw : MX := (xSeq (xAsg (mMeth "list" popM (mBin ixM (mVar 0) (mK (.int 0))) aNil) (gN 2))
  (xSeq (xAsg (mIf (tB' (mBin gtM (mVar 2) (mBin powM (mK (.int 10)) (mK (.int 9))))) (mVar 2) (mK (.int 0))) (gSet (mVar 0) (mK (.int 1))))
  xNil))
def F__law_draw : MF := mDef 4 (xSeq (xWhile 100 T1__law_draw B2__law_draw)
  (xSeq (xIf (tB' (mBin gtM (mBin ixM (mVar 0) (mK (.int 1))) (mK (.int 0)))) (xSeq (xAsg (mBin modM (mCall intM (aCons (mBin ixM (mVar 0) (mK (.int 1))) aNil)) (mVar 1)) (gN 3))
  (xSeq (xAsg (mBin fdivM (mCall intM (aCons (mBin ixM (mVar 0) (mK (.int 1))) aNil)) (mVar 1)) (gSet (mVar 0) (mK (.int 1))))
  (xSeq (xRet (mVar 3))
  xNil))) xNil)
  (xSeq (xAsg (mBin modM (mCall intM (aCons (mBin (addM false) (mBin (mulM false) (mBin ixM (mVar 0) (mK (.int 2))) (mK (.int 48271))) (mK (.int 11))) aNil)) (mK (.int 2147483647))) (gSet (mVar 0) (mK (.int 2))))
  (xSeq (xRet (mBin modM (mCall intM (aCons (mBin fdivM (mBin modM (mCall intM (aCons (mBin (mulM false) (mBin ixM (mVar 0) (mK (.int 2))) (mBin ixM (mVar 0) (mK (.int 2)))) aNil)) (mK (.int 2147483629))) (mK (.int 7))) aNil)) (mVar 1)))
  xNil))))
def f__law_draw : MF := gcF F__law_draw
def F__law_pick : MF := mDef 2 (xSeq (xRet (mBin ixM (mVar 1) (mOwn 2 f__law_draw (aCons (mVar 0) (aCons (mCall lenM (aCons (mVar 1) aNil)) aNil)))))
  xNil)
def f__law_pick : MF := gcF F__law_pick
def B1__law_order : MX := (xSeq (xExpr (mMeth "list" appM (mVar 3) (aCons (mMeth "list" popM (mVar 2) (aCons (mOwn 2 f__law_draw (aCons (mVar 0) (aCons (mCall lenM (aCons (mVar 2) aNil)) aNil))) aNil)) aNil)))
  xNil)
def F__law_order : MF := mDef 5 (xSeq (xPar 2 3 (aCons (mLrg1 true (mVar 1)) (aCons (mLst true aNil) aNil)))
  (xSeq (xFor (iRange1 (aCons (mVar 1) aNil)) (gN 4) B1__law_order)
  (xSeq (xRet (mVar 3))
  xNil)))
def f__law_order : MF := gcF F__law_order
def F__law_is_int : MF := mDef 1 (xSeq (xRet (vAnd (mCall isiM (aCons (mVar 0) (aCons (mK (.ty "int")) aNil))) (vNot (mCall isiM (aCons (mVar 0) (aCons (mK (.ty "bool")) aNil))))))
  xNil)
def f__law_is_int : MF := cloF F__law_is_int
def E1__law_same (f : MF) : ME := (mOwn 2 f (aCons (mVar 2) (aCons (mVar 3) aNil)))
def F__law_same : Nat → MF
  | 0 => fun _ _ => .bad
  | n + 1 => mDef 4 (xSeq (xIf (tB' (mCall isiM (aCons (mVar 1) (aCons (mK (.ty "tuple")) aNil)))) (xSeq (xIf (tOr' (tNot' (tB' (mCall isiM (aCons (mVar 0) (aCons (mK (.ty "tuple")) aNil))))) (tB' (mBin neM (mCall lenM (aCons (mVar 0) aNil)) (mCall lenM (aCons (mVar 1) aNil))))) (xSeq (xRet (mK (.bl false)))
  xNil) xNil)
  (xSeq (xRet (mCall allM (aCons (mLc false (iSeq (mCall zipM (aCons (mVar 0) (aCons (mVar 1) aNil)))) (gT 2 (gsCons (gN 2) (gsCons (gN 3) gsNil))) ttYes (E1__law_same (cloF (F__law_same n))) [2, 3]) aNil)))
  xNil)) xNil)
  (xSeq (xIf (tOr' (tB' (mBin (isM false) (mVar 1) (mK .non))) (tOr' (tB' (mBin (isM false) (mVar 1) (mK (.bl true)))) (tB' (mBin (isM false) (mVar 1) (mK (.bl false)))))) (xSeq (xRet (mBin eqM (mCall reprM (aCons (mVar 0) aNil)) (mCall reprM (aCons (mVar 1) aNil))))
  xNil) xNil)
  (xSeq (xIf (tB' (mCall isiM (aCons (mVar 1) (aCons (mK (.ty "str")) aNil)))) (xSeq (xRet (vAnd (mCall isiM (aCons (mVar 0) (aCons (mK (.ty "str")) aNil))) (mBin eqM (mVar 0) (mVar 1))))
  xNil) xNil)
  (xSeq (xRet (vAnd (mOwn 1 f__law_is_int (aCons (mVar 0) aNil)) (mBin eqM (mVar 0) (mVar 1))))
  xNil))))
def f__law_same : MF := cloF (F__law_same 8)
def E1__law_pairs : ME := (mTup (aCons (mVar 3) (aCons (mVar 4) aNil)))
def B2__law_pairs : MX := (xSeq (xExpr (mMeth "list" extM (mVar 1) (aCons (mLc false (iSeq (mSlice false (mVar 0) (oSome (mBin (addM false) (mVar 2) (mK (.int 1)))) oNone)) (gN 4) ttYes E1__law_pairs [4]) aNil)))
  xNil)
def F__law_pairs : MF := mDef 5 (xSeq (xAsg (mLst true aNil) (gN 1))
  (xSeq (xFor (iEnum' (aCons (mVar 0) aNil)) (gT 2 (gsCons (gN 2) (gsCons (gN 3) gsNil))) B2__law_pairs)
  (xSeq (xRet (mVar 1))
  xNil)))
def f__law_pairs : MF := cloF F__law_pairs
def E1__law_led : ME := (mTup (aCons (mCall min2M (aCons (mBin ixM (mVar 1) (mVar 3)) (aCons (mBin ixM (mVar 1) (mVar 4)) aNil))) (aCons (mCall max2M (aCons (mBin ixM (mVar 1) (mVar 3)) (aCons (mBin ixM (mVar 1) (mVar 4)) aNil))) aNil)))
def F__law_led : MF := mDef 5 (xSeq (xAsg (mLc false (iSeq (mBin ixM (mVar 0) (mK (.int 1)))) (gT 2 (gsCons (gN 3) (gsCons (gN 4) gsNil))) ttYes E1__law_led [3, 4]) (gN 2))
  (xSeq (xRet (mTup (aCons (mBin ixM (mVar 0) (mK (.int 0))) (aCons (mCall tupleM (aCons (mCall (sortM false) (aCons (mVar 2) aNil)) aNil)) aNil))))
  xNil))
def f__law_led : MF := cloF F__law_led
def C1__law_two_sides : MT := (tB' (mChain ltM leM (mBin ixM (mVar 3) (mK (.int 0))) (mVar 1) (mBin ixM (mVar 3) (mK (.int 1)))))
def F__law_two_sides : MF := mDef 4 (xSeq (xAsg (mLc false (iSeq (mOwn 1 f__law_pairs (aCons (mLrg1 false (mVar 0)) aNil))) (gN 3) C1__law_two_sides (mVar 3) [3]) (gN 2))
  (xSeq (xRet (mTup (aCons (mVar 0) (aCons (mCall tupleM (aCons (mVar 2) aNil)) aNil))))
  xNil))
def f__law_two_sides : MF := cloF F__law_two_sides
def E1__law_told_web : ME := (mTup (aCons (mVar 6) (aCons (mBin (addM false) (mVar 6) (mK (.int 1))) aNil)))
def E2__law_told_web : ME := (mTup (aCons (mK (.int 0)) (aCons (mVar 6) aNil)))
def E3__law_told_web : ME := (mTup (aCons (mVar 6) (aCons (mBin (addM false) (mVar 6) (mK (.int 1))) aNil)))
def F__law_told_web : MF := mDef 7 (xSeq (xPar 2 3 (aCons (mOwn 2 f__law_draw (aCons (mVar 0) (aCons (mK (.int 8)) aNil))) (aCons (mLrg1 false (mVar 1)) aNil)))
  (xSeq (xAsg (mLc false (iRange1 (aCons (mBin subM (mVar 1) (mK (.int 1))) aNil)) (gN 6) ttYes E3__law_told_web [6]) (gN 4))
  (xSeq (xIf (tB' (mBin eqM (mVar 2) (mK (.int 0)))) (xSeq (xRet (mTup (aCons (mVar 1) (aCons (mCall tupleM (aCons (mVar 4) aNil)) aNil))))
  xNil) xNil)
  (xSeq (xIf (tAnd' (tB' (mBin eqM (mVar 2) (mK (.int 1)))) (tB' (mBin gtM (mVar 1) (mK (.int 2))))) (xSeq (xRet (mTup (aCons (mVar 1) (aCons (mCall tupleM (aCons (mCall (sortM false) (aCons (mBin (addM false) (mVar 4) (mLst false (aCons (mTup (aCons (mK (.int 0)) (aCons (mBin subM (mVar 1) (mK (.int 1))) aNil))) aNil))) aNil)) aNil)) aNil))))
  xNil) xNil)
  (xSeq (xIf (tB' (mBin eqM (mVar 2) (mK (.int 2)))) (xSeq (xRet (mTup (aCons (mVar 1) (aCons (mCall tupleM (aCons (mLc false (iRange2 (aCons (mK (.int 1)) (aCons (mVar 1) aNil))) (gN 6) ttYes E2__law_told_web [6]) aNil)) aNil))))
  xNil) xNil)
  (xSeq (xIf (tB' (mBin eqM (mVar 2) (mK (.int 3)))) (xSeq (xRet (mTup (aCons (mVar 1) (aCons (mTup aNil) aNil))))
  xNil) xNil)
  (xSeq (xIf (tB' (mBin eqM (mVar 2) (mK (.int 4)))) (xSeq (xRet (mTup (aCons (mVar 1) (aCons (mCall tupleM (aCons (mOwn 1 f__law_pairs (aCons (mVar 3) aNil)) aNil)) aNil))))
  xNil) xNil)
  (xSeq (xIf (tB' (mBin eqM (mVar 2) (mK (.int 5)))) (xSeq (xAsg (mBin fdivM (mVar 1) (mK (.int 2))) (gN 5))
  (xSeq (xRet (mTup (aCons (mVar 1) (aCons (mCall tupleM (aCons (mBin (addM false) (mOwn 1 f__law_pairs (aCons (mSlice false (mVar 3) oNone (oSome (mVar 5))) aNil)) (mOwn 1 f__law_pairs (aCons (mSlice false (mVar 3) (oSome (mVar 5)) oNone) aNil))) aNil)) aNil))))
  xNil)) xNil)
  (xSeq (xRet (mIf (tB' (mBin eqM (mVar 2) (mK (.int 6)))) (mOwn 2 f__law_two_sides (aCons (mVar 1) (aCons (mBin fdivM (mVar 1) (mK (.int 2))) aNil))) (mTup (aCons (mVar 1) (aCons (mCall tupleM (aCons (mLc false (iRange3 (aCons (mK (.int 0)) (aCons (mBin subM (mVar 1) (mK (.int 1))) (aCons (mK (.int 2)) aNil)))) (gN 6) ttYes E1__law_told_web [6]) aNil)) aNil)))))
  xNil)))))))))
def f__law_told_web : MF := gcF F__law_told_web
def C1__law_own_web : MT := (tB' (mBin ltM (mOwn 2 f__law_draw (aCons (mVar 0) (aCons (mK (.int 4)) aNil))) (mBin subM (mVar 2) (mK (.int 1)))))
def F__law_own_web : MF := mDef 5 (xSeq (xAsg (mOwn 2 f__law_draw (aCons (mVar 0) (aCons (mK (.int 5)) aNil))) (gN 2))
  (xSeq (xAsg (mOwn 2 f__law_told_web (aCons (mVar 0) (aCons (mVar 1) aNil))) (gN 3))
  (xSeq (xIf (tB' (mBin gtM (mVar 2) (mK (.int 1)))) (xSeq (xAsg (mTup (aCons (mVar 1) (aCons (mCall tupleM (aCons (mLc false (iSeq (mOwn 1 f__law_pairs (aCons (mLrg1 false (mVar 1)) aNil))) (gN 4) C1__law_own_web (mVar 4) [4]) aNil)) aNil))) (gN 3))
  xNil) xNil)
  (xSeq (xRet (mIf (tB' (mBin eqM (mOwn 2 f__law_draw (aCons (mVar 0) (aCons (mK (.int 2)) aNil))) (mK (.int 0)))) (mOwn 2 f__law_led (aCons (mVar 3) (aCons (mOwn 2 f__law_order (aCons (mVar 0) (aCons (mVar 1) aNil))) aNil))) (mVar 3)))
  xNil))))
def f__law_own_web : MF := gcF F__law_own_web
def B1__law_at : MX := (xSeq (xAsg (mTup (aCons (mCall min2M (aCons (mVar 3) (aCons (mVar 1) aNil))) (aCons (mCall max2M (aCons (mVar 3) (aCons (mVar 1) aNil))) aNil))) (gN 4))
  (xSeq (xIf (tAnd' (tB' (mBin neM (mVar 3) (mVar 1))) (tB' (mBin (inM true) (mVar 4) (mBin ixM (mVar 0) (mK (.int 1)))))) (xSeq (xExpr (mMeth "list" appM (mVar 2) (aCons (mVar 4) aNil)))
  xNil) xNil)
  xNil))
def C2__law_at : MT := (tB' (mBin (inM true) (mVar 1) (mVar 5)))
def F__law_at : MF := mDef 6 (xSeq (xAsg (mLc true (iSeq (mBin ixM (mVar 0) (mK (.int 1)))) (gN 5) C2__law_at (mVar 5) [5]) (gN 2))
  (xSeq (xFor (iRange1 (aCons (mBin ixM (mVar 0) (mK (.int 0))) aNil)) (gN 3) B1__law_at)
  (xSeq (xRet (mTup (aCons (mBin ixM (mVar 0) (mK (.int 0))) (aCons (mCall tupleM (aCons (mCall (sortM false) (aCons (mVar 2) aNil)) aNil)) aNil))))
  xNil)))
def f__law_at : MF := cloF F__law_at
def B1__law_triples : MX := (xSeq (xAsg (mBin (addM false) (mBin (addM false) (mCall intM (aCons (mBin (inM false) (mTup (aCons (mVar 4) (aCons (mVar 5) aNil))) (mVar 1)) aNil)) (mCall intM (aCons (mBin (inM false) (mTup (aCons (mVar 4) (aCons (mVar 6) aNil))) (mVar 1)) aNil))) (mCall intM (aCons (mBin (inM false) (mTup (aCons (mVar 5) (aCons (mVar 6) aNil))) (mVar 1)) aNil))) (gN 7))
  (xSeq (xIf (tB' (mBin eqM (mBin modM (mVar 7) (mK (.int 2))) (mK (.int 1)))) (xSeq (xExpr (mMeth "list" appM (mVar 2) (aCons (mTup (aCons (mVar 4) (aCons (mVar 5) (aCons (mVar 6) aNil)))) aNil)))
  xNil) xNil)
  xNil))
def B2__law_triples : MX := (xSeq (xFor (iRange2 (aCons (mBin (addM false) (mVar 5) (mK (.int 1))) (aCons (mBin ixM (mVar 0) (mK (.int 0))) aNil))) (gN 6) B1__law_triples)
  xNil)
def B3__law_triples : MX := (xSeq (xAsg (mK (.bl true)) (gSet (mVar 1) (mVar 3)))
  xNil)
def F__law_triples : MF := mDef 8 (xSeq (xPar 1 2 (aCons mDt (aCons (mLst true aNil) aNil)))
  (xSeq (xFor (iSeq (mBin ixM (mVar 0) (mK (.int 1)))) (gN 3) B3__law_triples)
  (xSeq (xFor (iSeq (mOwn 1 f__law_pairs (aCons (mLrg1 false (mBin ixM (mVar 0) (mK (.int 0)))) aNil))) (gT 2 (gsCons (gN 4) (gsCons (gN 5) gsNil))) B2__law_triples)
  (xSeq (xRet (mCall tupleM (aCons (mVar 2) aNil)))
  xNil))))
def f__law_triples : MF := cloF F__law_triples
def B1_turned_at : MX := (xSeq (xAsg (mTup (aCons (mCall min2M (aCons (mVar 1) (aCons (mVar 3) aNil))) (aCons (mCall max2M (aCons (mVar 1) (aCons (mVar 3) aNil))) aNil))) (gN 4))
  (xSeq (xIf (tAnd' (tB' (mBin neM (mVar 3) (mVar 1))) (tB' (mBin (inM true) (mVar 4) (mBin ixM (mVar 0) (mK (.int 1)))))) (xSeq (xExpr (mMeth "list" appM (mVar 2) (aCons (mVar 4) aNil)))
  xNil) xNil)
  xNil))
def C2_turned_at : MT := (tB' (mBin (inM true) (mVar 1) (mVar 5)))
def F_turned_at : MF := mDef 6 (xSeq (xAsg (mLc true (iSeq (mBin ixM (mVar 0) (mK (.int 1)))) (gN 5) C2_turned_at (mVar 5) [5]) (gN 2))
  (xSeq (xFor (iRange1 (aCons (mBin ixM (mVar 0) (mK (.int 0))) aNil)) (gN 3) B1_turned_at)
  (xSeq (xRet (mTup (aCons (mBin ixM (mVar 0) (mK (.int 0))) (aCons (mCall tupleM (aCons (mCall (sortM false) (aCons (mVar 2) aNil)) aNil)) aNil))))
  xNil)))
def f_turned_at : MF := cloF F_turned_at
def B1_turning_lot : MX := (xSeq (xAsg (mOwn 2 f_turned_at (aCons (mVar 3) (aCons (mVar 4) aNil))) (gN 3))
  xNil)
def C2_turning_lot : MT := (tB' (mBin neM (mBin (inM false) (mTup (aCons (mK (.int 0)) (aCons (mVar 4) aNil))) (mBin ixM (mVar 0) (mK (.int 1)))) (mBin (inM false) (mTup (aCons (mK (.int 0)) (aCons (mVar 4) aNil))) (mBin ixM (mVar 1) (mK (.int 1))))))
def F_turning_lot : MF := mDef 5 (xSeq (xAsg (mCall tupleM (aCons (mLc false (iRange2 (aCons (mK (.int 1)) (aCons (mBin ixM (mVar 0) (mK (.int 0))) aNil))) (gN 4) C2_turning_lot (mVar 4) [4]) aNil)) (gN 2))
  (xSeq (xAsg (mVar 0) (gN 3))
  (xSeq (xFor (iSeq (mVar 2)) (gN 4) B1_turning_lot)
  (xSeq (xRet (mIf (tB' (mBin eqM (mVar 3) (mVar 1))) (mVar 2) (mK .non)))
  xNil))))
def f_turning_lot : MF := cloF F_turning_lot
def B1__law_along : MX := (xSeq (xAsg (mOwn 2 f__law_at (aCons (mVar 0) (aCons (mVar 2) aNil))) (gN 0))
  xNil)
def F__law_along : MF := mDef 3 (xSeq (xFor (iSeq (mVar 1)) (gN 2) B1__law_along)
  (xSeq (xRet (mVar 0))
  xNil))
def f__law_along : MF := cloF F__law_along
def B1__law_lot_due : MX := (xSeq (xIf (tB' (mBin neM (mBin (inM false) (mTup (aCons (mK (.int 0)) (aCons (mVar 3) aNil))) (mBin ixM (mVar 0) (mK (.int 1)))) (mBin (inM false) (mTup (aCons (mK (.int 0)) (aCons (mVar 3) aNil))) (mBin ixM (mVar 1) (mK (.int 1)))))) (xSeq (xExpr (mMeth "list" appM (mVar 2) (aCons (mVar 3) aNil)))
  xNil) xNil)
  xNil)
def F__law_lot_due : MF := mDef 4 (xSeq (xAsg (mLst true aNil) (gN 2))
  (xSeq (xFor (iRange2 (aCons (mK (.int 1)) (aCons (mBin ixM (mVar 0) (mK (.int 0))) aNil))) (gN 3) B1__law_lot_due)
  (xSeq (xRet (mIf (tB' (mBin eqM (mOwn 2 f__law_along (aCons (mVar 0) (aCons (mVar 2) aNil))) (mVar 1))) (mCall tupleM (aCons (mVar 2) aNil)) (mK .non)))
  xNil)))
def f__law_lot_due : MF := cloF F__law_lot_due
def C1__law_are_lots : MT := (tB' (mBin neM (mVar 13) (mVar 8)))
def C2__law_are_lots : MT := (tB' (mBin eqM (mOwn 2 f__law_draw (aCons (mVar 0) (aCons (mK (.int 2)) aNil))) (mK (.int 0))))
def F__law_are_lots : MF := mDef 14 (xSeq (xAsg (mBin ixM (mVar 1) (mK (.int 0))) (gN 3))
  (xSeq (xAsg (mLc false (iRange1 (aCons (mVar 3) aNil)) (gN 12) C2__law_are_lots (mVar 12) [12]) (gN 4))
  (xSeq (xAsg (mOwn 2 f__law_along (aCons (mVar 1) (aCons (mVar 4) aNil))) (gN 5))
  (xSeq (xAsg (mOwn 2 f__law_draw (aCons (mVar 0) (aCons (mK (.int 4)) aNil))) (gN 6))
  (xSeq (xIf (tAnd' (tB' (mBin eqM (mVar 6) (mK (.int 0)))) (tB' (mBin gtM (mVar 3) (mK (.int 1))))) (xSeq (xAsg (mOwn 2 f__law_draw (aCons (mVar 0) (aCons (mBin subM (mVar 3) (mK (.int 1))) aNil))) (gN 7))
  (xSeq (xAsg (mTup (aCons (mVar 7) (aCons (mBin (addM false) (mBin (addM false) (mVar 7) (mK (.int 1))) (mOwn 2 f__law_draw (aCons (mVar 0) (aCons (mBin subM (mBin subM (mVar 3) (mK (.int 1))) (mVar 7)) aNil)))) aNil))) (gN 8))
  (xSeq (xAsg (mLc false (iSeq (mBin ixM (mVar 5) (mK (.int 1)))) (gN 13) C1__law_are_lots (mVar 13) [13]) (gN 9))
  (xSeq (xAsg (mTup (aCons (mVar 3) (aCons (mCall tupleM (aCons (mCall (sortM false) (aCons (mBin (addM false) (mVar 9) (mIf (tB' (mBin (inM false) (mVar 8) (mBin ixM (mVar 5) (mK (.int 1))))) (mLst false aNil) (mLst false (aCons (mVar 8) aNil)))) aNil)) aNil)) aNil))) (gN 5))
  xNil)))) xNil)
  (xSeq (xIf (tB' (mBin eqM (mVar 6) (mK (.int 1)))) (xSeq (xAsg (mOwn 2 f__law_own_web (aCons (mVar 0) (aCons (mVar 3) aNil))) (gN 5))
  xNil) xNil)
  (xSeq (xPar 10 11 (aCons (mOwn 2 f__law_lot_due (aCons (mVar 1) (aCons (mVar 5) aNil))) (aCons (mCall reprM (aCons (mLst false (aCons (mVar 1) (aCons (mVar 5) aNil))) aNil)) aNil)))
  (xSeq (xIf (tB' (mBin neM (mBin notNM (mVar 10) (mK .non)) (mBin eqM (mOwn 1 f__law_triples (aCons (mVar 5) aNil)) (mVar 2)))) (xSeq (xRet (mK (.bl false)))
  xNil) xNil)
  (xSeq (xIf (tOr' (tNot' (tB' (mOwn 2 f__law_same (aCons (mOwn 2 f_turning_lot (aCons (mVar 1) (aCons (mVar 5) aNil))) (aCons (mVar 10) aNil))))) (tNot' (tB' (mOwn 2 f__law_same (aCons (mOwnK [1, 0] 2 f_turning_lot (aCons (mVar 1) (aCons (mVar 5) aNil))) (aCons (mVar 10) aNil)))))) (xSeq (xRet (mK (.bl false)))
  xNil) xNil)
  (xSeq (xIf (tOr' (tNot' (tB' (mOwn 2 f__law_same (aCons (mOwn 1 f_odd_triples (aCons (mVar 5) aNil)) (aCons (mOwn 1 f__law_triples (aCons (mVar 5) aNil)) aNil))))) (tNot' (tB' (mOwn 2 f__law_same (aCons (mOwn 2 f_turning_lot (aCons (mVar 1) (aCons (mVar 1) aNil))) (aCons (mTup aNil) aNil)))))) (xSeq (xRet (mK (.bl false)))
  xNil) xNil)
  (xSeq (xRet (mBin eqM (mCall reprM (aCons (mLst false (aCons (mVar 1) (aCons (mVar 5) aNil))) aNil)) (mVar 11)))
  xNil)))))))))))
def f__law_are_lots : MF := gcF F__law_are_lots
def C1__law_are_rows : MT := (tB' (mBin (inM true) (mVar 9) (mVar 3)))
def B2__law_are_rows : MX := (xSeq (xAsg (mOwn 2 f_turned_at (aCons (mVar 7) (aCons (mVar 6) aNil))) (gN 7))
  xNil)
def B3__law_are_rows : MX := (xSeq (xAsg (mOwnK [1, 0] 2 f_turned_at (aCons (mVar 6) (aCons (mVar 5) aNil))) (gN 5))
  xNil)
def B4__law_are_rows : MX := (xSeq (xAsg (mOwn 2 f_turned_at (aCons (mVar 4) (aCons (mVar 6) aNil))) (gN 4))
  xNil)
def C5__law_are_rows : MT := (tB' (mBin eqM (mOwn 2 f__law_draw (aCons (mVar 0) (aCons (mK (.int 3)) aNil))) (mK (.int 0))))
def F__law_are_rows : MF := mDef 10 (xSeq (xAsg (mBin ixM (mVar 1) (mK (.int 0))) (gN 2))
  (xSeq (xAsg (mSlice false (mLc false (iRange1 (aCons (mVar 2) aNil)) (gN 9) C5__law_are_rows (mVar 9) [9]) oNone (oSome (mK (.int 4)))) (gN 3))
  (xSeq (xPar 4 5 (aCons (mVar 1) (aCons (mVar 1) aNil)))
  (xSeq (xFor (iSeq (mVar 3)) (gN 6) B4__law_are_rows)
  (xSeq (xFor (iSeq (mUn (revM false) (mVar 3))) (gN 6) B3__law_are_rows)
  (xSeq (xAsg (mVar 1) (gN 7))
  (xSeq (xFor (iSeq (mLc false (iRange1 (aCons (mVar 2) aNil)) (gN 9) C1__law_are_rows (mVar 9) [9])) (gN 6) B2__law_are_rows)
  (xSeq (xAsg (mOwn 2 f__law_along (aCons (mVar 1) (aCons (mVar 3) aNil))) (gN 8))
  (xSeq (xRet (mOwn 2 f__law_same (aCons (mTup (aCons (mVar 4) (aCons (mVar 5) (aCons (mVar 7) aNil)))) (aCons (mTup (aCons (mVar 8) (aCons (mVar 8) (aCons (mVar 8) aNil)))) aNil))))
  xNil)))))))))
def f__law_are_rows : MF := gcF F__law_are_rows
def E1_law : ME := (mBin (inM false) (mVar 8) (mVar 5))
def C2_law : MT := (tB' (mCall allM (aCons (mLc false (iSeq (mVar 7)) (gN 8) ttYes E1_law [8]) aNil)))
def F_law : MF := mDef 9 (xSeq (xAsg (mOwn 1 f__law_own_bag (aCons (mVar 0) aNil)) (gN 1))
  (xSeq (xAsg (mOwn 2 f__law_own_web (aCons (mVar 1) (aCons (mOwn 2 f__law_pick (aCons (mVar 1) (aCons (mLst false (aCons (mK (.int 12)) (aCons (mK (.int 9)) (aCons (mK (.int 7)) (aCons (mK (.int 6)) (aCons (mK (.int 5)) (aCons (mK (.int 4)) (aCons (mK (.int 4)) (aCons (mK (.int 3)) (aCons (mK (.int 2)) (aCons (mK (.int 1)) aNil))))))))))) aNil))) aNil))) (gN 2))
  (xSeq (xPar 3 4 (aCons (mOwn 1 f__law_triples (aCons (mVar 2) aNil)) (aCons (mCall reprM (aCons (mVar 2) aNil)) aNil)))
  (xSeq (xIf (tOr' (tNot' (tB' (mOwn 2 f__law_same (aCons (mOwn 1 f_odd_triples (aCons (mVar 2) aNil)) (aCons (mVar 3) aNil))))) (tNot' (tB' (mOwn 2 f__law_same (aCons (mOwnK [0] 1 f_odd_triples (aCons (mVar 2) aNil)) (aCons (mVar 3) aNil)))))) (xSeq (xRet (mK (.bl false)))
  xNil) xNil)
  (xSeq (xIf (tOr' (tNot' (tB' (mOwn 3 f__law_are_lots (aCons (mVar 1) (aCons (mVar 2) (aCons (mVar 3) aNil)))))) (tNot' (tB' (mOwn 2 f__law_are_rows (aCons (mVar 1) (aCons (mVar 2) aNil)))))) (xSeq (xRet (mK (.bl false)))
  xNil) xNil)
  (xSeq (xIf (tB' (mBin gtM (mBin ixM (mVar 2) (mK (.int 0))) (mK (.int 3)))) (xSeq (xAsg (mCall (sortM false) (aCons (mSlice false (mOwn 2 f__law_order (aCons (mVar 1) (aCons (mBin ixM (mVar 2) (mK (.int 0))) aNil))) oNone (oSome (mK (.int 4)))) aNil)) (gN 5))
  (xSeq (xAsg (mOwn 1 f_odd_triples (aCons (mOwn 2 f__law_at (aCons (mVar 2) (aCons (mBin ixM (mVar 5) (mK (.int 0))) aNil))) aNil)) (gN 6))
  (xSeq (xIf (tOr' (tNot' (tB' (mOwn 2 f__law_same (aCons (mVar 6) (aCons (mVar 3) aNil))))) (tB' (mBin eqM (mBin modM (mCall lenM (aCons (mLc false (iSeq (mVar 6)) (gN 7) C2_law (mVar 7) [7]) aNil)) (mK (.int 2))) (mK (.int 1))))) (xSeq (xRet (mK (.bl false)))
  xNil) xNil)
  xNil))) xNil)
  (xSeq (xRet (vAnd (mBin eqM (mCall reprM (aCons (mVar 2) aNil)) (mVar 4)) (mOwn 2 f__law_same (aCons (mOwn 1 f_odd_triples (aCons (mVar 2) aNil)) (aCons (mVar 3) aNil)))))
  xNil)))))))
def f_law : MF := cloF F_law
/-! ### the model does what the mirror does -/
section
variable {P : Program} {w : World} {K : PySem.W.Frag} {mg : Str → Option Value} {base : Heap}
theorem at_odd_triples (c : Fx K mg) : FnAt P w K mg base 1 "odd_triples" P_odd_triples Q_odd_triples f_odd_triples := FnAt.clo (at_mk (N := N_odd_triples) (k := 0) c.d_odd_triples sc_odd_triples fun f cdv A outer s H E hr gd =>
  (ss_cons (ss_set (i := 1) gd.nd rfl (.inl rfl) (se_lst true sa_nil))
  (ss_cons (ss_for (vs := [2]) gd (si_range1 (by rfl) c.b_range (sa_cons (se_ix (hu_of hr) (se_var 0) se_int (fun _ _ => rfl)) sa_nil)) (sg_name gd.nd (i := 2) rfl (.inl rfl) (by decide)) (ss_cons (ss_for (vs := [3]) gd (si_range2 (by rfl) c.b_range (sa_cons (se_add false (se_var 2) se_int) (sa_cons (se_ix (hu_of hr) (se_var 0) se_int (fun _ _ => rfl)) sa_nil))) (sg_name gd.nd (i := 3) rfl (.inl rfl) (by decide)) (ss_cons (ss_for (vs := [4]) gd (si_range2 (by rfl) c.b_range (sa_cons (se_add false (se_var 3) se_int) (sa_cons (se_ix (hu_of hr) (se_var 0) se_int (fun _ _ => rfl)) sa_nil))) (sg_name gd.nd (i := 4) rfl (.inl rfl) (by decide)) (ss_cons (ss_if (st_eq (ru hr) (se_mod (se_len c.b_len (sa_cons (se_lc false (own := [("pair", 5)]) gd (si_seq (se_tup (sa_cons (se_tup (sa_cons (se_var 2) (sa_cons (se_var 3) sa_nil))) (sa_cons (se_tup (sa_cons (se_var 2) (sa_cons (se_var 4) sa_nil))) (sa_cons (se_tup (sa_cons (se_var 3) (sa_cons (se_var 4) sa_nil))) sa_nil))))) (blkOk_by (N := N_odd_triples) (sc := defScope s_odd_triples) (by decide +kernel)) (fun _ _ _ _ _ => (sg_name (gd_blk gd).nd (i := 5) rfl (.inl rfl) (by decide))) (fun _ _ _ _ _ => (sts_one (st_in (ru hr) (se_var 5) (se_ix (hu_of hr) (se_var 0) se_int (fun _ _ => rfl))))) (fun _ _ _ _ _ => (se_var 5))) sa_nil)) se_int) se_int) (ss_cons (ss_expr (se_append (se_var 1) (sa_cons (se_tup (sa_cons (se_var 2) (sa_cons (se_var 3) (sa_cons (se_var 4) sa_nil)))) sa_nil)))
  ss_nil) ss_nil)
  ss_nil))
  ss_nil))
  ss_nil))
  (ss_cons (ss_ret (se_toTup c.b_tuple (sa_cons (se_var 1) sa_nil)))
  ss_nil))))
theorem at__law_own_bag (c : Fx K mg) : FnAt P w K mg base 1 "_law_own_bag" P__law_own_bag Q__law_own_bag f__law_own_bag := at_mk (N := N__law_own_bag) (k := 0) c.d__law_own_bag sc__law_own_bag fun f cdv A outer s H E hr gd =>
  (ss_cons (ss_setLc false (i := 1) (own := [("cell", 3)]) gd rfl rfl (sw_true rfl rfl rfl rfl) (si_seq (se_slice false (se_var 0) so_none (so_some se_int))) (blkOk_by (N := N__law_own_bag) (sc := defScope s__law_own_bag) (by decide +kernel)) (fun _ _ _ _ _ => (sg_name (gd_blk gd).nd (i := 3) rfl (.inl rfl) (by decide))) (fun _ _ _ _ _ => sts_nil) (fun _ _ _ _ _ => (se_abs c.b_abs (sa_cons (se_var 3) sa_nil))))
  (ss_cons (ss_set (i := 2) gd.nd rfl (.inl rfl) (se_add false se_int (se_len c.b_len (sa_cons (se_var 1) sa_nil))))
  (ss_cons (ss_for (vs := [3]) gd (si_seq (se_var 1)) (sg_name gd.nd (i := 3) rfl (.inl rfl) (by decide)) (ss_cons (ss_set (i := 2) gd.nd rfl (.inl rfl) (se_mod (se_toInt c.b_int (sa_cons (se_add false (se_add false (se_mul false (se_var 2) se_int) (se_mod (se_toInt c.b_int (sa_cons (se_var 3) sa_nil)) se_int)) se_int) sa_nil)) se_int))
  ss_nil))
  (ss_cons (ss_ret (se_lst true (sa_cons (se_rev true (se_var 1)) (sa_cons se_int (sa_cons (se_var 2) sa_nil)))))
  ss_nil))))
theorem at__law_draw (c : Fx K mg) : FnAt P w K mg base 1 "_law_draw" P__law_draw Q__law_draw f__law_draw := FnAt.gc (at_mk (N := N__law_draw) (k := 0) c.d__law_draw sc__law_draw fun f cdv A outer s H E hr gd =>
  (ss_cons (ss_while 100 gd (st_sw (sw_and (st_eq (ru hr) (se_ix (hu_of hr) (se_var 0) se_int (fun _ _ => rfl)) se_int) (sw_and1 (st_ne (ru hr) (se_ix (hu_of hr) (se_var 0) se_int (fun _ _ => rfl)) (se_lst false sa_nil))))) (ss_cons (ss_set (i := 2) gd.nd rfl (.inl rfl) (se_pop0 (se_ix (hu_of hr) (se_var 0) se_int (fun _ _ => rfl))))
  (ss_cons (ss_asg (vs := []) (se_if (st_gt (se_var 2) (se_pow se_int se_int)) (se_var 2) se_int) (sg_sub (W := wOf K mg E) (hu_of hr) (se_var 0) se_int))
  ss_nil)))
  (ss_cons (ss_if (st_gt (se_ix (hu_of hr) (se_var 0) se_int (fun _ _ => rfl)) se_int) (ss_cons (ss_set (i := 3) gd.nd rfl (.inl rfl) (se_mod (se_toInt c.b_int (sa_cons (se_ix (hu_of hr) (se_var 0) se_int (fun _ _ => rfl)) sa_nil)) (se_var 1)))
  (ss_cons (ss_asg (vs := []) (se_fdiv (se_toInt c.b_int (sa_cons (se_ix (hu_of hr) (se_var 0) se_int (fun _ _ => rfl)) sa_nil)) (se_var 1)) (sg_sub (W := wOf K mg E) (hu_of hr) (se_var 0) se_int))
  (ss_cons (ss_ret (se_var 3))
  ss_nil))) ss_nil)
  (ss_cons (ss_asg (vs := []) (se_mod (se_toInt c.b_int (sa_cons (se_add false (se_mul false (se_ix (hu_of hr) (se_var 0) se_int (fun _ _ => rfl)) se_int) se_int) sa_nil)) se_int) (sg_sub (W := wOf K mg E) (hu_of hr) (se_var 0) se_int))
  (ss_cons (ss_ret (se_mod (se_toInt c.b_int (sa_cons (se_fdiv (se_mod (se_toInt c.b_int (sa_cons (se_mul false (se_ix (hu_of hr) (se_var 0) se_int (fun _ _ => rfl)) (se_ix (hu_of hr) (se_var 0) se_int (fun _ _ => rfl))) sa_nil)) se_int) se_int) sa_nil)) (se_var 1)))
  ss_nil)))))
theorem at__law_pick (c : Fx K mg) : FnAt P w K mg base 2 "_law_pick" P__law_pick Q__law_pick f__law_pick := FnAt.gc (at_mk (N := N__law_pick) (k := 1) c.d__law_pick sc__law_pick fun f cdv A outer s H E hr gd =>
  (ss_cons (ss_ret (se_ix (hu_of hr) (se_var 1) (se_own (at__law_draw c) gd hr (by decide) (by rfl) (sa_cons (se_var 0) (sa_cons (se_len c.b_len (sa_cons (se_var 1) sa_nil)) sa_nil)) rfl) (fun _ _ => rfl)))
  ss_nil))
theorem at__law_order (c : Fx K mg) : FnAt P w K mg base 2 "_law_order" P__law_order Q__law_order f__law_order := FnAt.gc (at_mk (N := N__law_order) (k := 1) c.d__law_order sc__law_order fun f cdv A outer s H E hr gd =>
  (ss_cons (ss_par (i := 2) (j := 3) gd.calm gd.nd rfl rfl (by decide) rfl rfl (sa_cons (se_listRg1 true gd (by rfl) c.b_list (by rfl) c.b_range (se_var 1)) (sa_cons (se_lst true sa_nil) sa_nil)) rfl)
  (ss_cons (ss_for (vs := [4]) gd (si_range1 (by rfl) c.b_range (sa_cons (se_var 1) sa_nil)) (sg_name gd.nd (i := 4) rfl (.inl rfl) (by decide)) (ss_cons (ss_expr (se_append (se_var 3) (sa_cons (se_pop1 (se_var 2) (sa_cons (se_own (at__law_draw c) gd hr (by decide) (by rfl) (sa_cons (se_var 0) (sa_cons (se_len c.b_len (sa_cons (se_var 2) sa_nil)) sa_nil)) rfl) sa_nil)) sa_nil)))
  ss_nil))
  (ss_cons (ss_ret (se_var 3))
  ss_nil))))
theorem at__law_is_int (c : Fx K mg) : FnAt P w K mg base 1 "_law_is_int" P__law_is_int Q__law_is_int f__law_is_int := FnAt.clo (at_mk (N := N__law_is_int) (k := 0) c.d__law_is_int sc__law_is_int fun f cdv A outer s H E hr gd =>
  (ss_cons (ss_ret (se_and (se_isi c.b_isinstance (sa_cons (se_var 0) (sa_cons (se_ty (by rfl) c.b_int bt_int) sa_nil))) (se_one (se_not (se_isi c.b_isinstance (sa_cons (se_var 0) (sa_cons (se_ty (by rfl) c.b_bool bt_bool) sa_nil)))))))
  ss_nil))
theorem at__law_samen (c : Fx K mg) : ∀ n, FnAt P w K mg base (1 + n + 1) "_law_same" P__law_same Q__law_same (cloF (F__law_same n))
  | 0 => (at_bad c.d__law_same).clo
  | n + 1 => FnAt.clo (at_mk (N := N__law_same) (k := 1 + n + 1) c.d__law_same sc__law_same fun f cdv A outer s H E hr gd =>
  (ss_cons (ss_if (st_val (se_isi c.b_isinstance (sa_cons (se_var 1) (sa_cons (se_ty (by rfl) c.b_tuple bt_tuple) sa_nil)))) (ss_cons (ss_if (st_sw (sw_or (st_not (st_val (se_isi c.b_isinstance (sa_cons (se_var 0) (sa_cons (se_ty (by rfl) c.b_tuple bt_tuple) sa_nil))))) (sw_or1 (st_ne (ru hr) (se_len c.b_len (sa_cons (se_var 0) sa_nil)) (se_len c.b_len (sa_cons (se_var 1) sa_nil)))))) (ss_cons (ss_ret se_bl)
  ss_nil) ss_nil)
  (ss_cons (ss_ret (se_all gd c.b_all (sa_cons (se_lc false (own := [("one", 2), ("other", 3)]) gd (si_seq (se_listZip gd (by rfl) c.b_list (by rfl) c.b_zip (sa_cons (se_var 0) (sa_cons (se_var 1) sa_nil)))) (blkOk_by (N := N__law_same) (sc := defScope s__law_same) (by decide +kernel)) (fun _ _ _ _ _ => (sg_tup (gd_blk gd).calm (sgs_cons (sg_name (gd_blk gd).nd (i := 2) rfl (.inl rfl) (by decide)) (sgs_cons (sg_name (gd_blk gd).nd (i := 3) rfl (.inl rfl) (by decide)) sgs_nil)))) (fun _ _ _ _ _ => sts_nil) (fun _ _ _ _ _ => (se_own (at__law_samen c n) (gd_blk gd) hr (Nat.le_refl _) (by rfl) (sa_cons (se_var 2) (sa_cons (se_var 3) sa_nil)) rfl))) sa_nil)))
  ss_nil)) ss_nil)
  (ss_cons (ss_if (st_sw (sw_or (st_is (se_var 1) se_non) (sw_or (st_is (se_var 1) se_bl) (sw_or1 (st_is (se_var 1) se_bl))))) (ss_cons (ss_ret (se_eq (ru hr) (se_repr gd (ru hr) c.b_repr (sa_cons (se_var 0) sa_nil)) (se_repr gd (ru hr) c.b_repr (sa_cons (se_var 1) sa_nil))))
  ss_nil) ss_nil)
  (ss_cons (ss_if (st_val (se_isi c.b_isinstance (sa_cons (se_var 1) (sa_cons (se_ty (by rfl) c.b_str bt_str) sa_nil)))) (ss_cons (ss_ret (se_and (se_isi c.b_isinstance (sa_cons (se_var 0) (sa_cons (se_ty (by rfl) c.b_str bt_str) sa_nil))) (se_one (se_eq (ru hr) (se_var 0) (se_var 1)))))
  ss_nil) ss_nil)
  (ss_cons (ss_ret (se_and (se_own (at__law_is_int c) gd hr (Nat.le_trans (by decide : 1 ≤ 1) (Nat.le_add_right 1 (n + 1))) (by rfl) (sa_cons (se_var 0) sa_nil) rfl) (se_one (se_eq (ru hr) (se_var 0) (se_var 1)))))
  ss_nil)))))
theorem at__law_same (c : Fx K mg) : FnAt P w K mg base 10 "_law_same" P__law_same Q__law_same f__law_same := at__law_samen c 8
theorem at__law_pairs (c : Fx K mg) : FnAt P w K mg base 1 "_law_pairs" P__law_pairs Q__law_pairs f__law_pairs := FnAt.clo (at_mk (N := N__law_pairs) (k := 0) c.d__law_pairs sc__law_pairs fun f cdv A outer s H E hr gd =>
  (ss_cons (ss_set (i := 1) gd.nd rfl (.inl rfl) (se_lst true sa_nil))
  (ss_cons (ss_for (vs := [2, 3]) gd (si_enum (by rfl) c.b_enumerate (sa_cons (se_var 0) sa_nil)) (sg_tup gd.calm (sgs_cons (sg_name gd.nd (i := 2) rfl (.inl rfl) (by decide)) (sgs_cons (sg_name gd.nd (i := 3) rfl (.inr rfl) (by decide)) sgs_nil))) (ss_cons (ss_expr (se_extend (se_var 1) (sa_cons (se_lc false (own := [("b", 4)]) gd (si_seq (se_slice false (se_var 0) (so_some (se_add false (se_var 2) se_int)) so_none)) (blkOk_by (N := N__law_pairs) (sc := defScope s__law_pairs) (by decide +kernel)) (fun _ _ _ _ _ => (sg_name (gd_blk gd).nd (i := 4) rfl (.inl rfl) (by decide))) (fun _ _ _ _ _ => sts_nil) (fun _ _ _ _ _ => (se_tup (sa_cons (se_var 3) (sa_cons (se_var 4) sa_nil))))) sa_nil)))
  ss_nil))
  (ss_cons (ss_ret (se_var 1))
  ss_nil))))
theorem at__law_led (c : Fx K mg) : FnAt P w K mg base 1 "_law_led" P__law_led Q__law_led f__law_led := FnAt.clo (at_mk (N := N__law_led) (k := 0) c.d__law_led sc__law_led fun f cdv A outer s H E hr gd =>
  (ss_cons (ss_setLc false (i := 2) (own := [("i", 3), ("j", 4)]) gd rfl rfl (sw_true rfl rfl rfl rfl) (si_seq (se_ix (hu_of hr) (se_var 0) se_int (fun _ _ => rfl))) (blkOk_by (N := N__law_led) (sc := defScope s__law_led) (by decide +kernel)) (fun _ _ _ _ _ => (sg_tup (gd_blk gd).calm (sgs_cons (sg_name (gd_blk gd).nd (i := 3) rfl (.inl rfl) (by decide)) (sgs_cons (sg_name (gd_blk gd).nd (i := 4) rfl (.inl rfl) (by decide)) sgs_nil)))) (fun _ _ _ _ _ => sts_nil) (fun _ _ _ _ _ => (se_tup (sa_cons (se_min2 (gd_blk gd) c.b_min (sa_cons (se_ix (hu_of hr) (se_var 1) (se_var 3) (fun _ _ => rfl)) (sa_cons (se_ix (hu_of hr) (se_var 1) (se_var 4) (fun _ _ => rfl)) sa_nil))) (sa_cons (se_max2 (gd_blk gd) c.b_max (sa_cons (se_ix (hu_of hr) (se_var 1) (se_var 3) (fun _ _ => rfl)) (sa_cons (se_ix (hu_of hr) (se_var 1) (se_var 4) (fun _ _ => rfl)) sa_nil))) sa_nil)))))
  (ss_cons (ss_ret (se_tup (sa_cons (se_ix (hu_of hr) (se_var 0) se_int (fun _ _ => rfl)) (sa_cons (se_toTup c.b_tuple (sa_cons (se_sorted false (ru hr) c.b_sorted (sa_cons (se_var 2) sa_nil)) sa_nil)) sa_nil))))
  ss_nil)))
theorem at__law_two_sides (c : Fx K mg) : FnAt P w K mg base 2 "_law_two_sides" P__law_two_sides Q__law_two_sides f__law_two_sides := FnAt.clo (at_mk (N := N__law_two_sides) (k := 1) c.d__law_two_sides sc__law_two_sides fun f cdv A outer s H E hr gd =>
  (ss_cons (ss_setLc false (i := 2) (own := [("pair", 3)]) gd rfl rfl (sw_true rfl rfl rfl rfl) (si_seq (se_own (at__law_pairs c) gd hr (by decide) (by rfl) (sa_cons (se_listRg1 false gd (by rfl) c.b_list (by rfl) c.b_range (se_var 0)) sa_nil) rfl)) (blkOk_by (N := N__law_two_sides) (sc := defScope s__law_two_sides) (by decide +kernel)) (fun _ _ _ _ _ => (sg_name (gd_blk gd).nd (i := 3) rfl (.inl rfl) (by decide))) (fun _ _ _ _ _ => (sts_one (st_chain op_lt op_le om_lt om_le (se_ix (hu_of hr) (se_var 3) se_int (fun _ _ => rfl)) (se_var 1) (se_ix (hu_of hr) (se_var 3) se_int (fun _ _ => rfl))))) (fun _ _ _ _ _ => (se_var 3)))
  (ss_cons (ss_ret (se_tup (sa_cons (se_var 0) (sa_cons (se_toTup c.b_tuple (sa_cons (se_var 2) sa_nil)) sa_nil))))
  ss_nil)))
theorem at__law_told_web (c : Fx K mg) : FnAt P w K mg base 3 "_law_told_web" P__law_told_web Q__law_told_web f__law_told_web := FnAt.gc (at_mk (N := N__law_told_web) (k := 2) c.d__law_told_web sc__law_told_web fun f cdv A outer s H E hr gd =>
  (ss_cons (ss_par (i := 2) (j := 3) gd.calm gd.nd rfl rfl (by decide) rfl rfl (sa_cons (se_own (at__law_draw c) gd hr (by decide) (by rfl) (sa_cons (se_var 0) (sa_cons se_int sa_nil)) rfl) (sa_cons (se_listRg1 false gd (by rfl) c.b_list (by rfl) c.b_range (se_var 1)) sa_nil)) rfl)
  (ss_cons (ss_setLc false (i := 4) (own := [("i", 6)]) gd rfl rfl (sw_true rfl rfl rfl rfl) (si_range1 (by rfl) c.b_range (sa_cons (se_sub (se_var 1) se_int) sa_nil)) (blkOk_by (N := N__law_told_web) (sc := defScope s__law_told_web) (by decide +kernel)) (fun _ _ _ _ _ => (sg_name (gd_blk gd).nd (i := 6) rfl (.inl rfl) (by decide))) (fun _ _ _ _ _ => sts_nil) (fun _ _ _ _ _ => (se_tup (sa_cons (se_var 6) (sa_cons (se_add false (se_var 6) se_int) sa_nil)))))
  (ss_cons (ss_if (st_eq (ru hr) (se_var 2) se_int) (ss_cons (ss_ret (se_tup (sa_cons (se_var 1) (sa_cons (se_toTup c.b_tuple (sa_cons (se_var 4) sa_nil)) sa_nil))))
  ss_nil) ss_nil)
  (ss_cons (ss_if (st_sw (sw_and (st_eq (ru hr) (se_var 2) se_int) (sw_and1 (st_gt (se_var 1) se_int)))) (ss_cons (ss_ret (se_tup (sa_cons (se_var 1) (sa_cons (se_toTup c.b_tuple (sa_cons (se_sorted false (ru hr) c.b_sorted (sa_cons (se_add false (se_var 4) (se_lst false (sa_cons (se_tup (sa_cons se_int (sa_cons (se_sub (se_var 1) se_int) sa_nil))) sa_nil))) sa_nil)) sa_nil)) sa_nil))))
  ss_nil) ss_nil)
  (ss_cons (ss_if (st_eq (ru hr) (se_var 2) se_int) (ss_cons (ss_ret (se_tup (sa_cons (se_var 1) (sa_cons (se_toTup c.b_tuple (sa_cons (se_lc false (own := [("i", 6)]) gd (si_range2 (by rfl) c.b_range (sa_cons se_int (sa_cons (se_var 1) sa_nil))) (blkOk_by (N := N__law_told_web) (sc := defScope s__law_told_web) (by decide +kernel)) (fun _ _ _ _ _ => (sg_name (gd_blk gd).nd (i := 6) rfl (.inl rfl) (by decide))) (fun _ _ _ _ _ => sts_nil) (fun _ _ _ _ _ => (se_tup (sa_cons se_int (sa_cons (se_var 6) sa_nil))))) sa_nil)) sa_nil))))
  ss_nil) ss_nil)
  (ss_cons (ss_if (st_eq (ru hr) (se_var 2) se_int) (ss_cons (ss_ret (se_tup (sa_cons (se_var 1) (sa_cons (se_tup sa_nil) sa_nil))))
  ss_nil) ss_nil)
  (ss_cons (ss_if (st_eq (ru hr) (se_var 2) se_int) (ss_cons (ss_ret (se_tup (sa_cons (se_var 1) (sa_cons (se_toTup c.b_tuple (sa_cons (se_own (at__law_pairs c) gd hr (by decide) (by rfl) (sa_cons (se_var 3) sa_nil) rfl) sa_nil)) sa_nil))))
  ss_nil) ss_nil)
  (ss_cons (ss_if (st_eq (ru hr) (se_var 2) se_int) (ss_cons (ss_set (i := 5) gd.nd rfl (.inl rfl) (se_fdiv (se_var 1) se_int))
  (ss_cons (ss_ret (se_tup (sa_cons (se_var 1) (sa_cons (se_toTup c.b_tuple (sa_cons (se_add false (se_own (at__law_pairs c) gd hr (by decide) (by rfl) (sa_cons (se_slice false (se_var 3) so_none (so_some (se_var 5))) sa_nil) rfl) (se_own (at__law_pairs c) gd hr (by decide) (by rfl) (sa_cons (se_slice false (se_var 3) (so_some (se_var 5)) so_none) sa_nil) rfl)) sa_nil)) sa_nil))))
  ss_nil)) ss_nil)
  (ss_cons (ss_ret (se_if (st_eq (ru hr) (se_var 2) se_int) (se_own (at__law_two_sides c) gd hr (by decide) (by rfl) (sa_cons (se_var 1) (sa_cons (se_fdiv (se_var 1) se_int) sa_nil)) rfl) (se_tup (sa_cons (se_var 1) (sa_cons (se_toTup c.b_tuple (sa_cons (se_lc false (own := [("i", 6)]) gd (si_range3 (by rfl) c.b_range (sa_cons se_int (sa_cons (se_sub (se_var 1) se_int) (sa_cons se_int sa_nil)))) (blkOk_by (N := N__law_told_web) (sc := defScope s__law_told_web) (by decide +kernel)) (fun _ _ _ _ _ => (sg_name (gd_blk gd).nd (i := 6) rfl (.inl rfl) (by decide))) (fun _ _ _ _ _ => sts_nil) (fun _ _ _ _ _ => (se_tup (sa_cons (se_var 6) (sa_cons (se_add false (se_var 6) se_int) sa_nil))))) sa_nil)) sa_nil)))))
  ss_nil))))))))))
theorem at__law_own_web (c : Fx K mg) : FnAt P w K mg base 4 "_law_own_web" P__law_own_web Q__law_own_web f__law_own_web := FnAt.gc (at_mk (N := N__law_own_web) (k := 3) c.d__law_own_web sc__law_own_web fun f cdv A outer s H E hr gd =>
  (ss_cons (ss_set (i := 2) gd.nd rfl (.inr rfl) (se_own (at__law_draw c) gd hr (by decide) (by rfl) (sa_cons (se_var 0) (sa_cons se_int sa_nil)) rfl))
  (ss_cons (ss_set (i := 3) gd.nd rfl (.inl rfl) (se_own (at__law_told_web c) gd hr (by decide) (by rfl) (sa_cons (se_var 0) (sa_cons (se_var 1) sa_nil)) rfl))
  (ss_cons (ss_if (st_gt (se_var 2) se_int) (ss_cons (ss_set (i := 3) gd.nd rfl (.inl rfl) (se_tup (sa_cons (se_var 1) (sa_cons (se_toTup c.b_tuple (sa_cons (se_lc false (own := [("pair", 4)]) gd (si_seq (se_own (at__law_pairs c) gd hr (by decide) (by rfl) (sa_cons (se_listRg1 false gd (by rfl) c.b_list (by rfl) c.b_range (se_var 1)) sa_nil) rfl)) (blkOk_by (N := N__law_own_web) (sc := defScope s__law_own_web) (by decide +kernel)) (fun _ _ _ _ _ => (sg_name (gd_blk gd).nd (i := 4) rfl (.inl rfl) (by decide))) (fun _ _ _ _ _ => (sts_one (st_lt (se_own (at__law_draw c) (gd_blk gd) hr (by decide) (by rfl) (sa_cons (se_var 0) (sa_cons se_int sa_nil)) rfl) (se_sub (se_var 2) se_int)))) (fun _ _ _ _ _ => (se_var 4))) sa_nil)) sa_nil))))
  ss_nil) ss_nil)
  (ss_cons (ss_ret (se_if (st_eq (ru hr) (se_own (at__law_draw c) gd hr (by decide) (by rfl) (sa_cons (se_var 0) (sa_cons se_int sa_nil)) rfl) se_int) (se_own (at__law_led c) gd hr (by decide) (by rfl) (sa_cons (se_var 3) (sa_cons (se_own (at__law_order c) gd hr (by decide) (by rfl) (sa_cons (se_var 0) (sa_cons (se_var 1) sa_nil)) rfl) sa_nil)) rfl) (se_var 3)))
  ss_nil)))))
theorem at__law_at (c : Fx K mg) : FnAt P w K mg base 1 "_law_at" P__law_at Q__law_at f__law_at := FnAt.clo (at_mk (N := N__law_at) (k := 0) c.d__law_at sc__law_at fun f cdv A outer s H E hr gd =>
  (ss_cons (ss_setLc true (i := 2) (own := [("tie", 5)]) gd rfl rfl (sw_true rfl rfl rfl rfl) (si_seq (se_ix (hu_of hr) (se_var 0) se_int (fun _ _ => rfl))) (blkOk_by (N := N__law_at) (sc := defScope s__law_at) (by decide +kernel)) (fun _ _ _ _ _ => (sg_name (gd_blk gd).nd (i := 5) rfl (.inl rfl) (by decide))) (fun _ _ _ _ _ => (sts_one (st_notIn (ru hr) (se_var 1) (se_var 5)))) (fun _ _ _ _ _ => (se_var 5)))
  (ss_cons (ss_for (vs := [3]) gd (si_range1 (by rfl) c.b_range (sa_cons (se_ix (hu_of hr) (se_var 0) se_int (fun _ _ => rfl)) sa_nil)) (sg_name gd.nd (i := 3) rfl (.inl rfl) (by decide)) (ss_cons (ss_set (i := 4) gd.nd rfl (.inl rfl) (se_tup (sa_cons (se_min2 gd c.b_min (sa_cons (se_var 3) (sa_cons (se_var 1) sa_nil))) (sa_cons (se_max2 gd c.b_max (sa_cons (se_var 3) (sa_cons (se_var 1) sa_nil))) sa_nil))))
  (ss_cons (ss_if (st_sw (sw_and (st_ne (ru hr) (se_var 3) (se_var 1)) (sw_and1 (st_notIn (ru hr) (se_var 4) (se_ix (hu_of hr) (se_var 0) se_int (fun _ _ => rfl)))))) (ss_cons (ss_expr (se_append (se_var 2) (sa_cons (se_var 4) sa_nil)))
  ss_nil) ss_nil)
  ss_nil)))
  (ss_cons (ss_ret (se_tup (sa_cons (se_ix (hu_of hr) (se_var 0) se_int (fun _ _ => rfl)) (sa_cons (se_toTup c.b_tuple (sa_cons (se_sorted false (ru hr) c.b_sorted (sa_cons (se_var 2) sa_nil)) sa_nil)) sa_nil))))
  ss_nil))))
theorem at__law_triples (c : Fx K mg) : FnAt P w K mg base 2 "_law_triples" P__law_triples Q__law_triples f__law_triples := FnAt.clo (at_mk (N := N__law_triples) (k := 1) c.d__law_triples sc__law_triples fun f cdv A outer s H E hr gd =>
  (ss_cons (ss_par (i := 1) (j := 2) gd.calm gd.nd rfl rfl (by decide) rfl rfl (sa_cons se_dt (sa_cons (se_lst true sa_nil) sa_nil)) rfl)
  (ss_cons (ss_for (vs := [3]) gd (si_seq (se_ix (hu_of hr) (se_var 0) se_int (fun _ _ => rfl))) (sg_name gd.nd (i := 3) rfl (.inl rfl) (by decide)) (ss_cons (ss_asg (vs := []) se_bl (sg_sub (W := wOf K mg E) (hu_of hr) (se_var 1) (se_var 3)))
  ss_nil))
  (ss_cons (ss_for (vs := [4, 5]) gd (si_seq (se_own (at__law_pairs c) gd hr (by decide) (by rfl) (sa_cons (se_listRg1 false gd (by rfl) c.b_list (by rfl) c.b_range (se_ix (hu_of hr) (se_var 0) se_int (fun _ _ => rfl))) sa_nil) rfl)) (sg_tup gd.calm (sgs_cons (sg_name gd.nd (i := 4) rfl (.inl rfl) (by decide)) (sgs_cons (sg_name gd.nd (i := 5) rfl (.inl rfl) (by decide)) sgs_nil))) (ss_cons (ss_for (vs := [6]) gd (si_range2 (by rfl) c.b_range (sa_cons (se_add false (se_var 5) se_int) (sa_cons (se_ix (hu_of hr) (se_var 0) se_int (fun _ _ => rfl)) sa_nil))) (sg_name gd.nd (i := 6) rfl (.inl rfl) (by decide)) (ss_cons (ss_set (i := 7) gd.nd rfl (.inl rfl) (se_add false (se_add false (se_toInt c.b_int (sa_cons (se_in (ru hr) (se_tup (sa_cons (se_var 4) (sa_cons (se_var 5) sa_nil))) (se_var 1)) sa_nil)) (se_toInt c.b_int (sa_cons (se_in (ru hr) (se_tup (sa_cons (se_var 4) (sa_cons (se_var 6) sa_nil))) (se_var 1)) sa_nil))) (se_toInt c.b_int (sa_cons (se_in (ru hr) (se_tup (sa_cons (se_var 5) (sa_cons (se_var 6) sa_nil))) (se_var 1)) sa_nil))))
  (ss_cons (ss_if (st_eq (ru hr) (se_mod (se_var 7) se_int) se_int) (ss_cons (ss_expr (se_append (se_var 2) (sa_cons (se_tup (sa_cons (se_var 4) (sa_cons (se_var 5) (sa_cons (se_var 6) sa_nil)))) sa_nil)))
  ss_nil) ss_nil)
  ss_nil)))
  ss_nil))
  (ss_cons (ss_ret (se_toTup c.b_tuple (sa_cons (se_var 2) sa_nil)))
  ss_nil)))))
theorem at_turned_at (c : Fx K mg) : FnAt P w K mg base 1 "turned_at" P_turned_at Q_turned_at f_turned_at := FnAt.clo (at_mk (N := N_turned_at) (k := 0) c.d_turned_at sc_turned_at fun f cdv A outer s H E hr gd =>
  (ss_cons (ss_setLc true (i := 2) (own := [("tie", 5)]) gd rfl rfl (sw_true rfl rfl rfl rfl) (si_seq (se_ix (hu_of hr) (se_var 0) se_int (fun _ _ => rfl))) (blkOk_by (N := N_turned_at) (sc := defScope s_turned_at) (by decide +kernel)) (fun _ _ _ _ _ => (sg_name (gd_blk gd).nd (i := 5) rfl (.inl rfl) (by decide))) (fun _ _ _ _ _ => (sts_one (st_notIn (ru hr) (se_var 1) (se_var 5)))) (fun _ _ _ _ _ => (se_var 5)))
  (ss_cons (ss_for (vs := [3]) gd (si_range1 (by rfl) c.b_range (sa_cons (se_ix (hu_of hr) (se_var 0) se_int (fun _ _ => rfl)) sa_nil)) (sg_name gd.nd (i := 3) rfl (.inl rfl) (by decide)) (ss_cons (ss_set (i := 4) gd.nd rfl (.inl rfl) (se_tup (sa_cons (se_min2 gd c.b_min (sa_cons (se_var 1) (sa_cons (se_var 3) sa_nil))) (sa_cons (se_max2 gd c.b_max (sa_cons (se_var 1) (sa_cons (se_var 3) sa_nil))) sa_nil))))
  (ss_cons (ss_if (st_sw (sw_and (st_ne (ru hr) (se_var 3) (se_var 1)) (sw_and1 (st_notIn (ru hr) (se_var 4) (se_ix (hu_of hr) (se_var 0) se_int (fun _ _ => rfl)))))) (ss_cons (ss_expr (se_append (se_var 2) (sa_cons (se_var 4) sa_nil)))
  ss_nil) ss_nil)
  ss_nil)))
  (ss_cons (ss_ret (se_tup (sa_cons (se_ix (hu_of hr) (se_var 0) se_int (fun _ _ => rfl)) (sa_cons (se_toTup c.b_tuple (sa_cons (se_sorted false (ru hr) c.b_sorted (sa_cons (se_var 2) sa_nil)) sa_nil)) sa_nil))))
  ss_nil))))
theorem at_turning_lot (c : Fx K mg) : FnAt P w K mg base 2 "turning_lot" P_turning_lot Q_turning_lot f_turning_lot := FnAt.clo (at_mk (N := N_turning_lot) (k := 1) c.d_turning_lot sc_turning_lot fun f cdv A outer s H E hr gd =>
  (ss_cons (ss_set (i := 2) gd.nd rfl (.inl rfl) (se_toTup c.b_tuple (sa_cons (se_lc false (own := [("point", 4)]) gd (si_range2 (by rfl) c.b_range (sa_cons se_int (sa_cons (se_ix (hu_of hr) (se_var 0) se_int (fun _ _ => rfl)) sa_nil))) (blkOk_by (N := N_turning_lot) (sc := defScope s_turning_lot) (by decide +kernel)) (fun _ _ _ _ _ => (sg_name (gd_blk gd).nd (i := 4) rfl (.inl rfl) (by decide))) (fun _ _ _ _ _ => (sts_one (st_ne (ru hr) (se_in (ru hr) (se_tup (sa_cons se_int (sa_cons (se_var 4) sa_nil))) (se_ix (hu_of hr) (se_var 0) se_int (fun _ _ => rfl))) (se_in (ru hr) (se_tup (sa_cons se_int (sa_cons (se_var 4) sa_nil))) (se_ix (hu_of hr) (se_var 1) se_int (fun _ _ => rfl)))))) (fun _ _ _ _ _ => (se_var 4))) sa_nil)))
  (ss_cons (ss_set (i := 3) gd.nd rfl (.inl rfl) (se_var 0))
  (ss_cons (ss_for (vs := [4]) gd (si_seq (se_var 2)) (sg_name gd.nd (i := 4) rfl (.inl rfl) (by decide)) (ss_cons (ss_set (i := 3) gd.nd rfl (.inl rfl) (se_own (at_turned_at c) gd hr (by decide) (by rfl) (sa_cons (se_var 3) (sa_cons (se_var 4) sa_nil)) rfl))
  ss_nil))
  (ss_cons (ss_ret (se_if (st_eq (ru hr) (se_var 3) (se_var 1)) (se_var 2) se_non))
  ss_nil)))))
theorem at__law_along (c : Fx K mg) : FnAt P w K mg base 2 "_law_along" P__law_along Q__law_along f__law_along := FnAt.clo (at_mk (N := N__law_along) (k := 1) c.d__law_along sc__law_along fun f cdv A outer s H E hr gd =>
  (ss_cons (ss_for (vs := [2]) gd (si_seq (se_var 1)) (sg_name gd.nd (i := 2) rfl (.inl rfl) (by decide)) (ss_cons (ss_set (i := 0) gd.nd rfl (.inl rfl) (se_own (at__law_at c) gd hr (by decide) (by rfl) (sa_cons (se_var 0) (sa_cons (se_var 2) sa_nil)) rfl))
  ss_nil))
  (ss_cons (ss_ret (se_var 0))
  ss_nil)))
theorem at__law_lot_due (c : Fx K mg) : FnAt P w K mg base 3 "_law_lot_due" P__law_lot_due Q__law_lot_due f__law_lot_due := FnAt.clo (at_mk (N := N__law_lot_due) (k := 2) c.d__law_lot_due sc__law_lot_due fun f cdv A outer s H E hr gd =>
  (ss_cons (ss_set (i := 2) gd.nd rfl (.inl rfl) (se_lst true sa_nil))
  (ss_cons (ss_for (vs := [3]) gd (si_range2 (by rfl) c.b_range (sa_cons se_int (sa_cons (se_ix (hu_of hr) (se_var 0) se_int (fun _ _ => rfl)) sa_nil))) (sg_name gd.nd (i := 3) rfl (.inl rfl) (by decide)) (ss_cons (ss_if (st_ne (ru hr) (se_in (ru hr) (se_tup (sa_cons se_int (sa_cons (se_var 3) sa_nil))) (se_ix (hu_of hr) (se_var 0) se_int (fun _ _ => rfl))) (se_in (ru hr) (se_tup (sa_cons se_int (sa_cons (se_var 3) sa_nil))) (se_ix (hu_of hr) (se_var 1) se_int (fun _ _ => rfl)))) (ss_cons (ss_expr (se_append (se_var 2) (sa_cons (se_var 3) sa_nil)))
  ss_nil) ss_nil)
  ss_nil))
  (ss_cons (ss_ret (se_if (st_eq (ru hr) (se_own (at__law_along c) gd hr (by decide) (by rfl) (sa_cons (se_var 0) (sa_cons (se_var 2) sa_nil)) rfl) (se_var 1)) (se_toTup c.b_tuple (sa_cons (se_var 2) sa_nil)) se_non))
  ss_nil))))
theorem at__law_are_lots (c : Fx K mg) : FnAt P w K mg base 11 "_law_are_lots" P__law_are_lots Q__law_are_lots f__law_are_lots := FnAt.gc (at_mk (N := N__law_are_lots) (k := 10) c.d__law_are_lots sc__law_are_lots fun f cdv A outer s H E hr gd =>
  (ss_cons (ss_set (i := 3) gd.nd rfl (.inl rfl) (se_ix (hu_of hr) (se_var 1) se_int (fun _ _ => rfl)))
  (ss_cons (ss_setLc false (i := 4) (own := [("p", 12)]) gd rfl rfl (sw_true rfl rfl rfl rfl) (si_range1 (by rfl) c.b_range (sa_cons (se_var 3) sa_nil)) (blkOk_by (N := N__law_are_lots) (sc := defScope s__law_are_lots) (by decide +kernel)) (fun _ _ _ _ _ => (sg_name (gd_blk gd).nd (i := 12) rfl (.inl rfl) (by decide))) (fun _ _ _ _ _ => (sts_one (st_eq (ru hr) (se_own (at__law_draw c) (gd_blk gd) hr (by decide) (by rfl) (sa_cons (se_var 0) (sa_cons se_int sa_nil)) rfl) se_int))) (fun _ _ _ _ _ => (se_var 12)))
  (ss_cons (ss_set (i := 5) gd.nd rfl (.inl rfl) (se_own (at__law_along c) gd hr (by decide) (by rfl) (sa_cons (se_var 1) (sa_cons (se_var 4) sa_nil)) rfl))
  (ss_cons (ss_set (i := 6) gd.nd rfl (.inl rfl) (se_own (at__law_draw c) gd hr (by decide) (by rfl) (sa_cons (se_var 0) (sa_cons se_int sa_nil)) rfl))
  (ss_cons (ss_if (st_sw (sw_and (st_eq (ru hr) (se_var 6) se_int) (sw_and1 (st_gt (se_var 3) se_int)))) (ss_cons (ss_set (i := 7) gd.nd rfl (.inl rfl) (se_own (at__law_draw c) gd hr (by decide) (by rfl) (sa_cons (se_var 0) (sa_cons (se_sub (se_var 3) se_int) sa_nil)) rfl))
  (ss_cons (ss_set (i := 8) gd.nd rfl (.inr rfl) (se_tup (sa_cons (se_var 7) (sa_cons (se_add false (se_add false (se_var 7) se_int) (se_own (at__law_draw c) gd hr (by decide) (by rfl) (sa_cons (se_var 0) (sa_cons (se_sub (se_sub (se_var 3) se_int) (se_var 7)) sa_nil)) rfl)) sa_nil))))
  (ss_cons (ss_setLc false (i := 9) (own := [("tie", 13)]) gd rfl rfl (sw_true rfl rfl rfl rfl) (si_seq (se_ix (hu_of hr) (se_var 5) se_int (fun _ _ => rfl))) (blkOk_by (N := N__law_are_lots) (sc := defScope s__law_are_lots) (by decide +kernel)) (fun _ _ _ _ _ => (sg_name (gd_blk gd).nd (i := 13) rfl (.inl rfl) (by decide))) (fun _ _ _ _ _ => (sts_one (st_ne (ru hr) (se_var 13) (se_var 8)))) (fun _ _ _ _ _ => (se_var 13)))
  (ss_cons (ss_set (i := 5) gd.nd rfl (.inl rfl) (se_tup (sa_cons (se_var 3) (sa_cons (se_toTup c.b_tuple (sa_cons (se_sorted false (ru hr) c.b_sorted (sa_cons (se_add false (se_var 9) (se_if (st_in (ru hr) (se_var 8) (se_ix (hu_of hr) (se_var 5) se_int (fun _ _ => rfl))) (se_lst false sa_nil) (se_lst false (sa_cons (se_var 8) sa_nil)))) sa_nil)) sa_nil)) sa_nil))))
  ss_nil)))) ss_nil)
  (ss_cons (ss_if (st_eq (ru hr) (se_var 6) se_int) (ss_cons (ss_set (i := 5) gd.nd rfl (.inl rfl) (se_own (at__law_own_web c) gd hr (by decide) (by rfl) (sa_cons (se_var 0) (sa_cons (se_var 3) sa_nil)) rfl))
  ss_nil) ss_nil)
  (ss_cons (ss_par (i := 10) (j := 11) gd.calm gd.nd rfl rfl (by decide) rfl rfl (sa_cons (se_own (at__law_lot_due c) gd hr (by decide) (by rfl) (sa_cons (se_var 1) (sa_cons (se_var 5) sa_nil)) rfl) (sa_cons (se_repr gd (ru hr) c.b_repr (sa_cons (se_lst false (sa_cons (se_var 1) (sa_cons (se_var 5) sa_nil))) sa_nil)) sa_nil)) rfl)
  (ss_cons (ss_if (st_ne (ru hr) (se_isNot (se_var 10) se_non) (se_eq (ru hr) (se_own (at__law_triples c) gd hr (by decide) (by rfl) (sa_cons (se_var 5) sa_nil) rfl) (se_var 2))) (ss_cons (ss_ret se_bl)
  ss_nil) ss_nil)
  (ss_cons (ss_if (st_sw (sw_or (st_not (st_val (se_own (at__law_same c) gd hr (by decide) (by rfl) (sa_cons (se_own (at_turning_lot c) gd hr (by decide) (by rfl) (sa_cons (se_var 1) (sa_cons (se_var 5) sa_nil)) rfl) (sa_cons (se_var 10) sa_nil)) rfl))) (sw_or1 (st_not (st_val (se_own (at__law_same c) gd hr (by decide) (by rfl) (sa_cons (se_ownK (ks := ["other", "one"]) (at_turning_lot c) gd hr (by decide) (by rfl) (by decide) rfl (skw_cons (se_var 1) (skw_cons (se_var 5) skw_nil))) (sa_cons (se_var 10) sa_nil)) rfl)))))) (ss_cons (ss_ret se_bl)
  ss_nil) ss_nil)
  (ss_cons (ss_if (st_sw (sw_or (st_not (st_val (se_own (at__law_same c) gd hr (by decide) (by rfl) (sa_cons (se_own (at_odd_triples c) gd hr (by decide) (by rfl) (sa_cons (se_var 5) sa_nil) rfl) (sa_cons (se_own (at__law_triples c) gd hr (by decide) (by rfl) (sa_cons (se_var 5) sa_nil) rfl) sa_nil)) rfl))) (sw_or1 (st_not (st_val (se_own (at__law_same c) gd hr (by decide) (by rfl) (sa_cons (se_own (at_turning_lot c) gd hr (by decide) (by rfl) (sa_cons (se_var 1) (sa_cons (se_var 1) sa_nil)) rfl) (sa_cons (se_tup sa_nil) sa_nil)) rfl)))))) (ss_cons (ss_ret se_bl)
  ss_nil) ss_nil)
  (ss_cons (ss_ret (se_eq (ru hr) (se_repr gd (ru hr) c.b_repr (sa_cons (se_lst false (sa_cons (se_var 1) (sa_cons (se_var 5) sa_nil))) sa_nil)) (se_var 11)))
  ss_nil))))))))))))
theorem at__law_are_rows (c : Fx K mg) : FnAt P w K mg base 11 "_law_are_rows" P__law_are_rows Q__law_are_rows f__law_are_rows := FnAt.gc (at_mk (N := N__law_are_rows) (k := 10) c.d__law_are_rows sc__law_are_rows fun f cdv A outer s H E hr gd =>
  (ss_cons (ss_set (i := 2) gd.nd rfl (.inl rfl) (se_ix (hu_of hr) (se_var 1) se_int (fun _ _ => rfl)))
  (ss_cons (ss_set (i := 3) gd.nd rfl (.inr rfl) (se_slice false (se_lc false (own := [("p", 9)]) gd (si_range1 (by rfl) c.b_range (sa_cons (se_var 2) sa_nil)) (blkOk_by (N := N__law_are_rows) (sc := defScope s__law_are_rows) (by decide +kernel)) (fun _ _ _ _ _ => (sg_name (gd_blk gd).nd (i := 9) rfl (.inl rfl) (by decide))) (fun _ _ _ _ _ => (sts_one (st_eq (ru hr) (se_own (at__law_draw c) (gd_blk gd) hr (by decide) (by rfl) (sa_cons (se_var 0) (sa_cons se_int sa_nil)) rfl) se_int))) (fun _ _ _ _ _ => (se_var 9))) so_none (so_some se_int)))
  (ss_cons (ss_par (i := 4) (j := 5) gd.calm gd.nd rfl rfl (by decide) rfl rfl (sa_cons (se_var 1) (sa_cons (se_var 1) sa_nil)) rfl)
  (ss_cons (ss_for (vs := [6]) gd (si_seq (se_var 3)) (sg_name gd.nd (i := 6) rfl (.inl rfl) (by decide)) (ss_cons (ss_set (i := 4) gd.nd rfl (.inl rfl) (se_own (at_turned_at c) gd hr (by decide) (by rfl) (sa_cons (se_var 4) (sa_cons (se_var 6) sa_nil)) rfl))
  ss_nil))
  (ss_cons (ss_for (vs := [6]) gd (si_seq (se_rev false (se_var 3))) (sg_name gd.nd (i := 6) rfl (.inl rfl) (by decide)) (ss_cons (ss_set (i := 5) gd.nd rfl (.inl rfl) (se_ownK (ks := ["point", "web"]) (at_turned_at c) gd hr (by decide) (by rfl) (by decide) rfl (skw_cons (se_var 6) (skw_cons (se_var 5) skw_nil))))
  ss_nil))
  (ss_cons (ss_set (i := 7) gd.nd rfl (.inl rfl) (se_var 1))
  (ss_cons (ss_for (vs := [6]) gd (si_seq (se_lc false (own := [("p", 9)]) gd (si_range1 (by rfl) c.b_range (sa_cons (se_var 2) sa_nil)) (blkOk_by (N := N__law_are_rows) (sc := defScope s__law_are_rows) (by decide +kernel)) (fun _ _ _ _ _ => (sg_name (gd_blk gd).nd (i := 9) rfl (.inl rfl) (by decide))) (fun _ _ _ _ _ => (sts_one (st_notIn (ru hr) (se_var 9) (se_var 3)))) (fun _ _ _ _ _ => (se_var 9)))) (sg_name gd.nd (i := 6) rfl (.inl rfl) (by decide)) (ss_cons (ss_set (i := 7) gd.nd rfl (.inl rfl) (se_own (at_turned_at c) gd hr (by decide) (by rfl) (sa_cons (se_var 7) (sa_cons (se_var 6) sa_nil)) rfl))
  ss_nil))
  (ss_cons (ss_set (i := 8) gd.nd rfl (.inl rfl) (se_own (at__law_along c) gd hr (by decide) (by rfl) (sa_cons (se_var 1) (sa_cons (se_var 3) sa_nil)) rfl))
  (ss_cons (ss_ret (se_own (at__law_same c) gd hr (by decide) (by rfl) (sa_cons (se_tup (sa_cons (se_var 4) (sa_cons (se_var 5) (sa_cons (se_var 7) sa_nil)))) (sa_cons (se_tup (sa_cons (se_var 8) (sa_cons (se_var 8) (sa_cons (se_var 8) sa_nil)))) sa_nil)) rfl))
  ss_nil))))))))))
theorem at_law (c : Fx K mg) : FnAt P w K mg base 12 "law" P_law Q_law f_law := FnAt.clo (at_mk (N := N_law) (k := 11) c.d_law sc_law fun f cdv A outer s H E hr gd =>
  (ss_cons (ss_set (i := 1) gd.nd rfl (.inl rfl) (se_own (at__law_own_bag c) gd hr (by decide) (by rfl) (sa_cons (se_var 0) sa_nil) rfl))
  (ss_cons (ss_set (i := 2) gd.nd rfl (.inl rfl) (se_own (at__law_own_web c) gd hr (by decide) (by rfl) (sa_cons (se_var 1) (sa_cons (se_own (at__law_pick c) gd hr (by decide) (by rfl) (sa_cons (se_var 1) (sa_cons (se_lst false (sa_cons se_int (sa_cons se_int (sa_cons se_int (sa_cons se_int (sa_cons se_int (sa_cons se_int (sa_cons se_int (sa_cons se_int (sa_cons se_int (sa_cons se_int sa_nil))))))))))) sa_nil)) rfl) sa_nil)) rfl))
  (ss_cons (ss_par (i := 3) (j := 4) gd.calm gd.nd rfl rfl (by decide) rfl rfl (sa_cons (se_own (at__law_triples c) gd hr (by decide) (by rfl) (sa_cons (se_var 2) sa_nil) rfl) (sa_cons (se_repr gd (ru hr) c.b_repr (sa_cons (se_var 2) sa_nil)) sa_nil)) rfl)
  (ss_cons (ss_if (st_sw (sw_or (st_not (st_val (se_own (at__law_same c) gd hr (by decide) (by rfl) (sa_cons (se_own (at_odd_triples c) gd hr (by decide) (by rfl) (sa_cons (se_var 2) sa_nil) rfl) (sa_cons (se_var 3) sa_nil)) rfl))) (sw_or1 (st_not (st_val (se_own (at__law_same c) gd hr (by decide) (by rfl) (sa_cons (se_ownK (ks := ["web"]) (at_odd_triples c) gd hr (by decide) (by rfl) (by decide) rfl (skw_cons (se_var 2) skw_nil)) (sa_cons (se_var 3) sa_nil)) rfl)))))) (ss_cons (ss_ret se_bl)
  ss_nil) ss_nil)
  (ss_cons (ss_if (st_sw (sw_or (st_not (st_val (se_own (at__law_are_lots c) gd hr (by decide) (by rfl) (sa_cons (se_var 1) (sa_cons (se_var 2) (sa_cons (se_var 3) sa_nil))) rfl))) (sw_or1 (st_not (st_val (se_own (at__law_are_rows c) gd hr (by decide) (by rfl) (sa_cons (se_var 1) (sa_cons (se_var 2) sa_nil)) rfl)))))) (ss_cons (ss_ret se_bl)
  ss_nil) ss_nil)
  (ss_cons (ss_if (st_gt (se_ix (hu_of hr) (se_var 2) se_int (fun _ _ => rfl)) se_int) (ss_cons (ss_set (i := 5) gd.nd rfl (.inr rfl) (se_sorted false (ru hr) c.b_sorted (sa_cons (se_slice false (se_own (at__law_order c) gd hr (by decide) (by rfl) (sa_cons (se_var 1) (sa_cons (se_ix (hu_of hr) (se_var 2) se_int (fun _ _ => rfl)) sa_nil)) rfl) so_none (so_some se_int)) sa_nil)))
  (ss_cons (ss_set (i := 6) gd.nd rfl (.inl rfl) (se_own (at_odd_triples c) gd hr (by decide) (by rfl) (sa_cons (se_own (at__law_at c) gd hr (by decide) (by rfl) (sa_cons (se_var 2) (sa_cons (se_ix (hu_of hr) (se_var 5) se_int (fun _ _ => rfl)) sa_nil)) rfl) sa_nil) rfl))
  (ss_cons (ss_if (st_sw (sw_or (st_not (st_val (se_own (at__law_same c) gd hr (by decide) (by rfl) (sa_cons (se_var 6) (sa_cons (se_var 3) sa_nil)) rfl))) (sw_or1 (st_eq (ru hr) (se_mod (se_len c.b_len (sa_cons (se_lc false (own := [("x", 7)]) gd (si_seq (se_var 6)) (blkOk_by (N := N_law) (sc := defScope s_law) (by decide +kernel)) (fun _ _ _ _ _ => (sg_name (gd_blk gd).nd (i := 7) rfl (.inl rfl) (by decide))) (fun _ _ _ _ _ => (sts_one (st_val (se_all (gd_blk gd) c.b_all (sa_cons (se_lc false (own := [("p", 8)]) (gd_blk gd) (si_seq (se_var 7)) (blkOk_by (by rfl)) (fun _ _ _ _ _ => (sg_name (gd_blk (gd_blk gd)).nd (i := 8) rfl (.inl rfl) (by decide))) (fun _ _ _ _ _ => sts_nil) (fun _ _ _ _ _ => (se_in (ru hr) (se_var 8) (se_var 5)))) sa_nil))))) (fun _ _ _ _ _ => (se_var 7))) sa_nil)) se_int) se_int)))) (ss_cons (ss_ret se_bl)
  ss_nil) ss_nil)
  ss_nil))) ss_nil)
  (ss_cons (ss_ret (se_and (se_eq (ru hr) (se_repr gd (ru hr) c.b_repr (sa_cons (se_var 2) sa_nil)) (se_var 4)) (se_one (se_own (at__law_same c) gd hr (by decide) (by rfl) (sa_cons (se_own (at_odd_triples c) gd hr (by decide) (by rfl) (sa_cons (se_var 2) sa_nil) rfl) (sa_cons (se_var 3) sa_nil)) rfl))))
  ss_nil))))))))
end
end Tb.K19

set_option Elab.async false
set_option linter.all false
set_option maxRecDepth 100000
namespace Tb.K19
open PySem L2
open En (en da)

theorem mn_comm (a b : Int) : mn a b = mn b a := by unfold mn; split <;> split <;> omega
theorem mx_comm (a b : Int) : mx a b = mx b a := by unfold mx; split <;> split <;> omega
theorem turned_body (n p : Int) (E : List Tie) (hE : E.length ≤ 100000) (hn0 : 0 ≤ n) (hn : n ≤ 1000) : ∃ h', F_turned_at [en (n, E), .int p] [] = .ok (en (n, (turnRaw n E p).mergeSort leP)) h' := by
  unfold F_turned_at
  have c1 : mLc true (iSeq (mBin ixM (mVar 0) (mK (.int 1)))) (gN 5) C2_turned_at (mVar 5) [5] [some (.tup [.int n, en E]), some (.int p), none, none, none, none] [] = .ok (.loc 0) [.lst ((E.filter (fun t => !decide (p ∈ [t.1, t.2]))).map en)] := by
    refine (mLc_eq (xs := E.map en) (by simp only [ev_seq, ev_seqN, ev_seqR, ev_seqB, ev_seqC, ev_seqE, ev_nil, ev_brk, ev_cnt, ev_retN, ev_expr, ev_expr1, ev_ret, ev_ret1, ev_if, ev_ifT, ev_ifF, ev_asg, ev_asg1, ev_asg2, ev_par, ev_par1, ev_def, ev_defR, ev_defN, ev_var0, ev_varS, ev_k, ev_anil, ev_acons, ev_acons1, ev_acons2, ev_tup, ev_tup_0, ev_tup_1, ev_tup_2, ev_tup_3, ev_lst, ev_lst_0, ev_lst_1, ev_lst_2, ev_lst_3, ev_mkT, ev_mkF, ev_bin, ev_bin1, ev_bin2, ev_un, ev_un1, ev_add, ev_addT, ev_addL, ev_sub, ev_neg, ev_lt, ev_le, ev_gt, ev_ge, ev_eqI, ev_neI, ev_eqB, ev_neB, ev_eqS, ev_neS, ev_and, ev_andT, ev_andF, ev_or, ev_orT, ev_orF, ev_not, ev_not1, ev_tnot, ev_tnot1, ev_tand, ev_tandT, ev_tandF, ev_tor, ev_torT, ev_torF, ev_tb, ev_tb1, ev_yes, ev_ife, ev_ifeT, ev_ifeF, ev_ch, ev_ch1, ev_ch2, ev_ch3T, ev_ch3F, ev_ch4, ev_is, ev_isB, ev_notN, ev_call, ev_call1, ev_own, ev_own_1, ev_own_2, ev_own_3, ev_own_4, ev_own_5, ev_ownK, ev_ownK_1, ev_ownK_01, ev_ownK_10, ev_lenT, ev_lenL, ev_lenO, ev_int, ev_intB, ev_abs, ev_min, ev_max, ev_tupT, ev_tupL, ev_listT, ev_listL, ev_meth, ev_meth2, ev_gN, ev_set, ev_set1, ev_gT, ev_gT2, ev_gT3, ev_gnil, ev_gcons, ev_gcons1, ev_iseq, ev_iseqT, ev_iseqL, ev_iseqO, ev_r1, ev_r2, ev_lrg1, ev_sl, ev_sl1, ev_sl3, ev_sl4, ev_on, ev_os, ev_os1, ev_slT, ev_slL, ev_slO, ev_r3, ix_t0, ix_t1, ix_t2, en_pair, en_int, wipeM, List.map_cons, List.map_nil, List.length_cons, List.length_nil, List.replicate_succ, List.replicate_zero, List.cons_append, List.nil_append, List.append_nil, List.set_cons_zero, List.set_cons_succ, Nat.reduceAdd, Nat.reduceSub, Nat.zero_add, if_true, if_false, reduceIte, Int.reduceEq, Int.reduceLT, Int.reduceLE, Bool.false_eq_true, decide_true, decide_false, Bool.not_true, Bool.not_false, List.getElem?_cons_zero, List.getElem?_cons_succ, En.en]) (lcV_map en (fun t => !decide (p ∈ [t.1, t.2])) en [] E ?_) ?_).trans ?_
    · intro t ht
      refine ⟨_, by simp only [ev_seq, ev_seqN, ev_seqR, ev_seqB, ev_seqC, ev_seqE, ev_nil, ev_brk, ev_cnt, ev_retN, ev_expr, ev_expr1, ev_ret, ev_ret1, ev_if, ev_ifT, ev_ifF, ev_asg, ev_asg1, ev_asg2, ev_par, ev_par1, ev_def, ev_defR, ev_defN, ev_var0, ev_varS, ev_k, ev_anil, ev_acons, ev_acons1, ev_acons2, ev_tup, ev_tup_0, ev_tup_1, ev_tup_2, ev_tup_3, ev_lst, ev_lst_0, ev_lst_1, ev_lst_2, ev_lst_3, ev_mkT, ev_mkF, ev_bin, ev_bin1, ev_bin2, ev_un, ev_un1, ev_add, ev_addT, ev_addL, ev_sub, ev_neg, ev_lt, ev_le, ev_gt, ev_ge, ev_eqI, ev_neI, ev_eqB, ev_neB, ev_eqS, ev_neS, ev_and, ev_andT, ev_andF, ev_or, ev_orT, ev_orF, ev_not, ev_not1, ev_tnot, ev_tnot1, ev_tand, ev_tandT, ev_tandF, ev_tor, ev_torT, ev_torF, ev_tb, ev_tb1, ev_yes, ev_ife, ev_ifeT, ev_ifeF, ev_ch, ev_ch1, ev_ch2, ev_ch3T, ev_ch3F, ev_ch4, ev_is, ev_isB, ev_notN, ev_call, ev_call1, ev_own, ev_own_1, ev_own_2, ev_own_3, ev_own_4, ev_own_5, ev_ownK, ev_ownK_1, ev_ownK_01, ev_ownK_10, ev_lenT, ev_lenL, ev_lenO, ev_int, ev_intB, ev_abs, ev_min, ev_max, ev_tupT, ev_tupL, ev_listT, ev_listL, ev_meth, ev_meth2, ev_gN, ev_set, ev_set1, ev_gT, ev_gT2, ev_gT3, ev_gnil, ev_gcons, ev_gcons1, ev_iseq, ev_iseqT, ev_iseqL, ev_iseqO, ev_r1, ev_r2, ev_lrg1, ev_sl, ev_sl1, ev_sl3, ev_sl4, ev_on, ev_os, ev_os1, ev_slT, ev_slL, ev_slO, ev_r3, ix_t0, ix_t1, ix_t2, en_pair, en_int, wipeM, List.map_cons, List.map_nil, List.length_cons, List.length_nil, List.replicate_succ, List.replicate_zero, List.cons_append, List.nil_append, List.append_nil, List.set_cons_zero, List.set_cons_succ, Nat.reduceAdd, Nat.reduceSub, Nat.zero_add, if_true, if_false, reduceIte, Int.reduceEq, Int.reduceLT, Int.reduceLE, Bool.false_eq_true, decide_true, decide_false, Bool.not_true, Bool.not_false, List.getElem?_cons_zero, List.getElem?_cons_succ]; rfl, ?_, fun _ => ?_⟩
      · unfold C2_turned_at
        simp only [ev_seq, ev_seqN, ev_seqR, ev_seqB, ev_seqC, ev_seqE, ev_nil, ev_brk, ev_cnt, ev_retN, ev_expr, ev_expr1, ev_ret, ev_ret1, ev_if, ev_ifT, ev_ifF, ev_asg, ev_asg1, ev_asg2, ev_par, ev_par1, ev_def, ev_defR, ev_defN, ev_var0, ev_varS, ev_k, ev_anil, ev_acons, ev_acons1, ev_acons2, ev_tup, ev_tup_0, ev_tup_1, ev_tup_2, ev_tup_3, ev_lst, ev_lst_0, ev_lst_1, ev_lst_2, ev_lst_3, ev_mkT, ev_mkF, ev_bin, ev_bin1, ev_bin2, ev_un, ev_un1, ev_add, ev_addT, ev_addL, ev_sub, ev_neg, ev_lt, ev_le, ev_gt, ev_ge, ev_eqI, ev_neI, ev_eqB, ev_neB, ev_eqS, ev_neS, ev_and, ev_andT, ev_andF, ev_or, ev_orT, ev_orF, ev_not, ev_not1, ev_tnot, ev_tnot1, ev_tand, ev_tandT, ev_tandF, ev_tor, ev_torT, ev_torF, ev_tb, ev_tb1, ev_yes, ev_ife, ev_ifeT, ev_ifeF, ev_ch, ev_ch1, ev_ch2, ev_ch3T, ev_ch3F, ev_ch4, ev_is, ev_isB, ev_notN, ev_call, ev_call1, ev_own, ev_own_1, ev_own_2, ev_own_3, ev_own_4, ev_own_5, ev_ownK, ev_ownK_1, ev_ownK_01, ev_ownK_10, ev_lenT, ev_lenL, ev_lenO, ev_int, ev_intB, ev_abs, ev_min, ev_max, ev_tupT, ev_tupL, ev_listT, ev_listL, ev_meth, ev_meth2, ev_gN, ev_set, ev_set1, ev_gT, ev_gT2, ev_gT3, ev_gnil, ev_gcons, ev_gcons1, ev_iseq, ev_iseqT, ev_iseqL, ev_iseqO, ev_r1, ev_r2, ev_lrg1, ev_sl, ev_sl1, ev_sl3, ev_sl4, ev_on, ev_os, ev_os1, ev_slT, ev_slL, ev_slO, ev_r3, ix_t0, ix_t1, ix_t2, en_pair, en_int, wipeM, List.map_cons, List.map_nil, List.length_cons, List.length_nil, List.replicate_succ, List.replicate_zero, List.cons_append, List.nil_append, List.append_nil, List.set_cons_zero, List.set_cons_succ, Nat.reduceAdd, Nat.reduceSub, Nat.zero_add, if_true, if_false, reduceIte, Int.reduceEq, Int.reduceLT, Int.reduceLE, Bool.false_eq_true, decide_true, decide_false, Bool.not_true, Bool.not_false, List.getElem?_cons_zero, List.getElem?_cons_succ, En.en, inM_pt]
      · simp only [ev_seq, ev_seqN, ev_seqR, ev_seqB, ev_seqC, ev_seqE, ev_nil, ev_brk, ev_cnt, ev_retN, ev_expr, ev_expr1, ev_ret, ev_ret1, ev_if, ev_ifT, ev_ifF, ev_asg, ev_asg1, ev_asg2, ev_par, ev_par1, ev_def, ev_defR, ev_defN, ev_var0, ev_varS, ev_k, ev_anil, ev_acons, ev_acons1, ev_acons2, ev_tup, ev_tup_0, ev_tup_1, ev_tup_2, ev_tup_3, ev_lst, ev_lst_0, ev_lst_1, ev_lst_2, ev_lst_3, ev_mkT, ev_mkF, ev_bin, ev_bin1, ev_bin2, ev_un, ev_un1, ev_add, ev_addT, ev_addL, ev_sub, ev_neg, ev_lt, ev_le, ev_gt, ev_ge, ev_eqI, ev_neI, ev_eqB, ev_neB, ev_eqS, ev_neS, ev_and, ev_andT, ev_andF, ev_or, ev_orT, ev_orF, ev_not, ev_not1, ev_tnot, ev_tnot1, ev_tand, ev_tandT, ev_tandF, ev_tor, ev_torT, ev_torF, ev_tb, ev_tb1, ev_yes, ev_ife, ev_ifeT, ev_ifeF, ev_ch, ev_ch1, ev_ch2, ev_ch3T, ev_ch3F, ev_ch4, ev_is, ev_isB, ev_notN, ev_call, ev_call1, ev_own, ev_own_1, ev_own_2, ev_own_3, ev_own_4, ev_own_5, ev_ownK, ev_ownK_1, ev_ownK_01, ev_ownK_10, ev_lenT, ev_lenL, ev_lenO, ev_int, ev_intB, ev_abs, ev_min, ev_max, ev_tupT, ev_tupL, ev_listT, ev_listL, ev_meth, ev_meth2, ev_gN, ev_set, ev_set1, ev_gT, ev_gT2, ev_gT3, ev_gnil, ev_gcons, ev_gcons1, ev_iseq, ev_iseqT, ev_iseqL, ev_iseqO, ev_r1, ev_r2, ev_lrg1, ev_sl, ev_sl1, ev_sl3, ev_sl4, ev_on, ev_os, ev_os1, ev_slT, ev_slL, ev_slO, ev_r3, ix_t0, ix_t1, ix_t2, en_pair, en_int, wipeM, List.map_cons, List.map_nil, List.length_cons, List.length_nil, List.replicate_succ, List.replicate_zero, List.cons_append, List.nil_append, List.append_nil, List.set_cons_zero, List.set_cons_succ, Nat.reduceAdd, Nat.reduceSub, Nat.zero_add, if_true, if_false, reduceIte, Int.reduceEq, Int.reduceLT, Int.reduceLE, Bool.false_eq_true, decide_true, decide_false, Bool.not_true, Bool.not_false, List.getElem?_cons_zero, List.getElem?_cons_succ]
    · rw [List.length_map]
      exact Nat.le_trans (List.length_filter_le _ _) (Nat.le_trans hE (by decide))
    · rfl
  have hc : cR n = true := cR_ok (by omega) (by omega)
  have len : ∀ pre : List Int, pre.length ≤ 1000 → (E.filter (fun t => !decide (p ∈ [t.1, t.2])) ++ turnL p E pre).length < LIM := fun pre hp => by
    have h1 := List.length_filter_le (fun t : Tie => !decide (p ∈ [t.1, t.2])) E
    have h2 := List.length_filter_le (turnF E p) pre
    simp only [List.length_append, turnL, List.length_map]
    show _ < 16777216
    omega
  have loop : ∃ ms' h', xFor (iRange1 (aCons (mBin ixM (mVar 0) (mK (.int 0))) aNil)) (gN 3) B1_turned_at [some (.tup [.int n, en E]), some (.int p), some (.loc 0), none, none, none] [.lst ((E.filter (fun t => !decide (p ∈ [t.1, t.2]))).map en)] = .nx ms' h' ∧
      ∃ x y, ms' = [some (.tup [.int n, en E]), some (.int p), some (.loc 0), x, y, none] ∧ h' = [.lst ((turnRaw n E p).map en)] := by
    rw [xFor_eq (xs := (irg 0 n).map M.int) (by simp only [ev_seq, ev_seqN, ev_seqR, ev_seqB, ev_seqC, ev_seqE, ev_nil, ev_brk, ev_cnt, ev_retN, ev_expr, ev_expr1, ev_ret, ev_ret1, ev_if, ev_ifT, ev_ifF, ev_asg, ev_asg1, ev_asg2, ev_par, ev_par1, ev_def, ev_defR, ev_defN, ev_var0, ev_varS, ev_k, ev_anil, ev_acons, ev_acons1, ev_acons2, ev_tup, ev_tup_0, ev_tup_1, ev_tup_2, ev_tup_3, ev_lst, ev_lst_0, ev_lst_1, ev_lst_2, ev_lst_3, ev_mkT, ev_mkF, ev_bin, ev_bin1, ev_bin2, ev_un, ev_un1, ev_add, ev_addT, ev_addL, ev_sub, ev_neg, ev_lt, ev_le, ev_gt, ev_ge, ev_eqI, ev_neI, ev_eqB, ev_neB, ev_eqS, ev_neS, ev_and, ev_andT, ev_andF, ev_or, ev_orT, ev_orF, ev_not, ev_not1, ev_tnot, ev_tnot1, ev_tand, ev_tandT, ev_tandF, ev_tor, ev_torT, ev_torF, ev_tb, ev_tb1, ev_yes, ev_ife, ev_ifeT, ev_ifeF, ev_ch, ev_ch1, ev_ch2, ev_ch3T, ev_ch3F, ev_ch4, ev_is, ev_isB, ev_notN, ev_call, ev_call1, ev_own, ev_own_1, ev_own_2, ev_own_3, ev_own_4, ev_own_5, ev_ownK, ev_ownK_1, ev_ownK_01, ev_ownK_10, ev_lenT, ev_lenL, ev_lenO, ev_int, ev_intB, ev_abs, ev_min, ev_max, ev_tupT, ev_tupL, ev_listT, ev_listL, ev_meth, ev_meth2, ev_gN, ev_set, ev_set1, ev_gT, ev_gT2, ev_gT3, ev_gnil, ev_gcons, ev_gcons1, ev_iseq, ev_iseqT, ev_iseqL, ev_iseqO, ev_r1, ev_r2, ev_lrg1, ev_sl, ev_sl1, ev_sl3, ev_sl4, ev_on, ev_os, ev_os1, ev_slT, ev_slL, ev_slO, ev_r3, ix_t0, ix_t1, ix_t2, en_pair, en_int, wipeM, List.map_cons, List.map_nil, List.length_cons, List.length_nil, List.replicate_succ, List.replicate_zero, List.cons_append, List.nil_append, List.append_nil, List.set_cons_zero, List.set_cons_succ, Nat.reduceAdd, Nat.reduceSub, Nat.zero_add, if_true, if_false, reduceIte, Int.reduceEq, Int.reduceLT, Int.reduceLE, Bool.false_eq_true, decide_true, decide_false, Bool.not_true, Bool.not_false, List.getElem?_cons_zero, List.getElem?_cons_succ, ev_r1', hc] <;> rfl)]
    refine forV_pre M.int (irg 0 n) (fun pre ms h => ∃ x y, ms = [some (.tup [.int n, en E]), some (.int p), some (.loc 0), x, y, none] ∧ h = [.lst ((E.filter (fun t => !decide (p ∈ [t.1, t.2])) ++ turnL p E pre).map en)]) ?_ ⟨none, none, rfl, by simp [turnL]⟩
    rintro pre o post ms h e ⟨x, y, rfl, rfl⟩
    have hl := len pre (by have := congrArg List.length e; rw [irg_length, List.length_append] at this; omega)
    cases q1 : decide (o = p) with
    | true => exact ⟨_, _, ⟨_, _, by simp only [ev_seq, ev_seqN, ev_seqR, ev_seqB, ev_seqC, ev_seqE, ev_nil, ev_brk, ev_cnt, ev_retN, ev_expr, ev_expr1, ev_ret, ev_ret1, ev_if, ev_ifT, ev_ifF, ev_asg, ev_asg1, ev_asg2, ev_par, ev_par1, ev_def, ev_defR, ev_defN, ev_var0, ev_varS, ev_k, ev_anil, ev_acons, ev_acons1, ev_acons2, ev_tup, ev_tup_0, ev_tup_1, ev_tup_2, ev_tup_3, ev_lst, ev_lst_0, ev_lst_1, ev_lst_2, ev_lst_3, ev_mkT, ev_mkF, ev_bin, ev_bin1, ev_bin2, ev_un, ev_un1, ev_add, ev_addT, ev_addL, ev_sub, ev_neg, ev_lt, ev_le, ev_gt, ev_ge, ev_eqI, ev_neI, ev_eqB, ev_neB, ev_eqS, ev_neS, ev_and, ev_andT, ev_andF, ev_or, ev_orT, ev_orF, ev_not, ev_not1, ev_tnot, ev_tnot1, ev_tand, ev_tandT, ev_tandF, ev_tor, ev_torT, ev_torF, ev_tb, ev_tb1, ev_yes, ev_ife, ev_ifeT, ev_ifeF, ev_ch, ev_ch1, ev_ch2, ev_ch3T, ev_ch3F, ev_ch4, ev_is, ev_isB, ev_notN, ev_call, ev_call1, ev_own, ev_own_1, ev_own_2, ev_own_3, ev_own_4, ev_own_5, ev_ownK, ev_ownK_1, ev_ownK_01, ev_ownK_10, ev_lenT, ev_lenL, ev_lenO, ev_int, ev_intB, ev_abs, ev_min, ev_max, ev_tupT, ev_tupL, ev_listT, ev_listL, ev_meth, ev_meth2, ev_gN, ev_set, ev_set1, ev_gT, ev_gT2, ev_gT3, ev_gnil, ev_gcons, ev_gcons1, ev_iseq, ev_iseqT, ev_iseqL, ev_iseqO, ev_r1, ev_r2, ev_lrg1, ev_sl, ev_sl1, ev_sl3, ev_sl4, ev_on, ev_os, ev_os1, ev_slT, ev_slL, ev_slO, ev_r3, ix_t0, ix_t1, ix_t2, en_pair, en_int, wipeM, List.map_cons, List.map_nil, List.length_cons, List.length_nil, List.replicate_succ, List.replicate_zero, List.cons_append, List.nil_append, List.append_nil, List.set_cons_zero, List.set_cons_succ, Nat.reduceAdd, Nat.reduceSub, Nat.zero_add, if_true, if_false, reduceIte, Int.reduceEq, Int.reduceLT, Int.reduceLE, Bool.false_eq_true, decide_true, decide_false, Bool.not_true, Bool.not_false, List.getElem?_cons_zero, List.getElem?_cons_succ] <;> rfl, .inl (by unfold B1_turned_at; simp only [ev_seq, ev_seqN, ev_seqR, ev_seqB, ev_seqC, ev_seqE, ev_nil, ev_brk, ev_cnt, ev_retN, ev_expr, ev_expr1, ev_ret, ev_ret1, ev_if, ev_ifT, ev_ifF, ev_asg, ev_asg1, ev_asg2, ev_par, ev_par1, ev_def, ev_defR, ev_defN, ev_var0, ev_varS, ev_k, ev_anil, ev_acons, ev_acons1, ev_acons2, ev_tup, ev_tup_0, ev_tup_1, ev_tup_2, ev_tup_3, ev_lst, ev_lst_0, ev_lst_1, ev_lst_2, ev_lst_3, ev_mkT, ev_mkF, ev_bin, ev_bin1, ev_bin2, ev_un, ev_un1, ev_add, ev_addT, ev_addL, ev_sub, ev_neg, ev_lt, ev_le, ev_gt, ev_ge, ev_eqI, ev_neI, ev_eqB, ev_neB, ev_eqS, ev_neS, ev_and, ev_andT, ev_andF, ev_or, ev_orT, ev_orF, ev_not, ev_not1, ev_tnot, ev_tnot1, ev_tand, ev_tandT, ev_tandF, ev_tor, ev_torT, ev_torF, ev_tb, ev_tb1, ev_yes, ev_ife, ev_ifeT, ev_ifeF, ev_ch, ev_ch1, ev_ch2, ev_ch3T, ev_ch3F, ev_ch4, ev_is, ev_isB, ev_notN, ev_call, ev_call1, ev_own, ev_own_1, ev_own_2, ev_own_3, ev_own_4, ev_own_5, ev_ownK, ev_ownK_1, ev_ownK_01, ev_ownK_10, ev_lenT, ev_lenL, ev_lenO, ev_int, ev_intB, ev_abs, ev_min, ev_max, ev_tupT, ev_tupL, ev_listT, ev_listL, ev_meth, ev_meth2, ev_gN, ev_set, ev_set1, ev_gT, ev_gT2, ev_gT3, ev_gnil, ev_gcons, ev_gcons1, ev_iseq, ev_iseqT, ev_iseqL, ev_iseqO, ev_r1, ev_r2, ev_lrg1, ev_sl, ev_sl1, ev_sl3, ev_sl4, ev_on, ev_os, ev_os1, ev_slT, ev_slL, ev_slO, ev_r3, ix_t0, ix_t1, ix_t2, en_pair, en_int, wipeM, List.map_cons, List.map_nil, List.length_cons, List.length_nil, List.replicate_succ, List.replicate_zero, List.cons_append, List.nil_append, List.append_nil, List.set_cons_zero, List.set_cons_succ, Nat.reduceAdd, Nat.reduceSub, Nat.zero_add, if_true, if_false, reduceIte, Int.reduceEq, Int.reduceLT, Int.reduceLE, Bool.false_eq_true, decide_true, decide_false, Bool.not_true, Bool.not_false, List.getElem?_cons_zero, List.getElem?_cons_succ, q1] <;> rfl)⟩, _, _, rfl, by simp [turnL, turnF, q1]⟩
    | false =>
      cases q2 : decide ((mn p o, mx p o) ∈ E) with
      | true => exact ⟨_, _, ⟨_, _, by simp only [ev_seq, ev_seqN, ev_seqR, ev_seqB, ev_seqC, ev_seqE, ev_nil, ev_brk, ev_cnt, ev_retN, ev_expr, ev_expr1, ev_ret, ev_ret1, ev_if, ev_ifT, ev_ifF, ev_asg, ev_asg1, ev_asg2, ev_par, ev_par1, ev_def, ev_defR, ev_defN, ev_var0, ev_varS, ev_k, ev_anil, ev_acons, ev_acons1, ev_acons2, ev_tup, ev_tup_0, ev_tup_1, ev_tup_2, ev_tup_3, ev_lst, ev_lst_0, ev_lst_1, ev_lst_2, ev_lst_3, ev_mkT, ev_mkF, ev_bin, ev_bin1, ev_bin2, ev_un, ev_un1, ev_add, ev_addT, ev_addL, ev_sub, ev_neg, ev_lt, ev_le, ev_gt, ev_ge, ev_eqI, ev_neI, ev_eqB, ev_neB, ev_eqS, ev_neS, ev_and, ev_andT, ev_andF, ev_or, ev_orT, ev_orF, ev_not, ev_not1, ev_tnot, ev_tnot1, ev_tand, ev_tandT, ev_tandF, ev_tor, ev_torT, ev_torF, ev_tb, ev_tb1, ev_yes, ev_ife, ev_ifeT, ev_ifeF, ev_ch, ev_ch1, ev_ch2, ev_ch3T, ev_ch3F, ev_ch4, ev_is, ev_isB, ev_notN, ev_call, ev_call1, ev_own, ev_own_1, ev_own_2, ev_own_3, ev_own_4, ev_own_5, ev_ownK, ev_ownK_1, ev_ownK_01, ev_ownK_10, ev_lenT, ev_lenL, ev_lenO, ev_int, ev_intB, ev_abs, ev_min, ev_max, ev_tupT, ev_tupL, ev_listT, ev_listL, ev_meth, ev_meth2, ev_gN, ev_set, ev_set1, ev_gT, ev_gT2, ev_gT3, ev_gnil, ev_gcons, ev_gcons1, ev_iseq, ev_iseqT, ev_iseqL, ev_iseqO, ev_r1, ev_r2, ev_lrg1, ev_sl, ev_sl1, ev_sl3, ev_sl4, ev_on, ev_os, ev_os1, ev_slT, ev_slL, ev_slO, ev_r3, ix_t0, ix_t1, ix_t2, en_pair, en_int, wipeM, List.map_cons, List.map_nil, List.length_cons, List.length_nil, List.replicate_succ, List.replicate_zero, List.cons_append, List.nil_append, List.append_nil, List.set_cons_zero, List.set_cons_succ, Nat.reduceAdd, Nat.reduceSub, Nat.zero_add, if_true, if_false, reduceIte, Int.reduceEq, Int.reduceLT, Int.reduceLE, Bool.false_eq_true, decide_true, decide_false, Bool.not_true, Bool.not_false, List.getElem?_cons_zero, List.getElem?_cons_succ] <;> rfl, .inl (by unfold B1_turned_at; simp only [ev_seq, ev_seqN, ev_seqR, ev_seqB, ev_seqC, ev_seqE, ev_nil, ev_brk, ev_cnt, ev_retN, ev_expr, ev_expr1, ev_ret, ev_ret1, ev_if, ev_ifT, ev_ifF, ev_asg, ev_asg1, ev_asg2, ev_par, ev_par1, ev_def, ev_defR, ev_defN, ev_var0, ev_varS, ev_k, ev_anil, ev_acons, ev_acons1, ev_acons2, ev_tup, ev_tup_0, ev_tup_1, ev_tup_2, ev_tup_3, ev_lst, ev_lst_0, ev_lst_1, ev_lst_2, ev_lst_3, ev_mkT, ev_mkF, ev_bin, ev_bin1, ev_bin2, ev_un, ev_un1, ev_add, ev_addT, ev_addL, ev_sub, ev_neg, ev_lt, ev_le, ev_gt, ev_ge, ev_eqI, ev_neI, ev_eqB, ev_neB, ev_eqS, ev_neS, ev_and, ev_andT, ev_andF, ev_or, ev_orT, ev_orF, ev_not, ev_not1, ev_tnot, ev_tnot1, ev_tand, ev_tandT, ev_tandF, ev_tor, ev_torT, ev_torF, ev_tb, ev_tb1, ev_yes, ev_ife, ev_ifeT, ev_ifeF, ev_ch, ev_ch1, ev_ch2, ev_ch3T, ev_ch3F, ev_ch4, ev_is, ev_isB, ev_notN, ev_call, ev_call1, ev_own, ev_own_1, ev_own_2, ev_own_3, ev_own_4, ev_own_5, ev_ownK, ev_ownK_1, ev_ownK_01, ev_ownK_10, ev_lenT, ev_lenL, ev_lenO, ev_int, ev_intB, ev_abs, ev_min, ev_max, ev_tupT, ev_tupL, ev_listT, ev_listL, ev_meth, ev_meth2, ev_gN, ev_set, ev_set1, ev_gT, ev_gT2, ev_gT3, ev_gnil, ev_gcons, ev_gcons1, ev_iseq, ev_iseqT, ev_iseqL, ev_iseqO, ev_r1, ev_r2, ev_lrg1, ev_sl, ev_sl1, ev_sl3, ev_sl4, ev_on, ev_os, ev_os1, ev_slT, ev_slL, ev_slO, ev_r3, ix_t0, ix_t1, ix_t2, en_pair, en_int, wipeM, List.map_cons, List.map_nil, List.length_cons, List.length_nil, List.replicate_succ, List.replicate_zero, List.cons_append, List.nil_append, List.append_nil, List.set_cons_zero, List.set_cons_succ, Nat.reduceAdd, Nat.reduceSub, Nat.zero_add, if_true, if_false, reduceIte, Int.reduceEq, Int.reduceLT, Int.reduceLE, Bool.false_eq_true, decide_true, decide_false, Bool.not_true, Bool.not_false, List.getElem?_cons_zero, List.getElem?_cons_succ, q1, inM_te, q2] <;> rfl)⟩, _, _, rfl, by simp [turnL, turnF, q1, q2]⟩
      | false =>
        refine ⟨_, _, ⟨_, _, by simp only [ev_seq, ev_seqN, ev_seqR, ev_seqB, ev_seqC, ev_seqE, ev_nil, ev_brk, ev_cnt, ev_retN, ev_expr, ev_expr1, ev_ret, ev_ret1, ev_if, ev_ifT, ev_ifF, ev_asg, ev_asg1, ev_asg2, ev_par, ev_par1, ev_def, ev_defR, ev_defN, ev_var0, ev_varS, ev_k, ev_anil, ev_acons, ev_acons1, ev_acons2, ev_tup, ev_tup_0, ev_tup_1, ev_tup_2, ev_tup_3, ev_lst, ev_lst_0, ev_lst_1, ev_lst_2, ev_lst_3, ev_mkT, ev_mkF, ev_bin, ev_bin1, ev_bin2, ev_un, ev_un1, ev_add, ev_addT, ev_addL, ev_sub, ev_neg, ev_lt, ev_le, ev_gt, ev_ge, ev_eqI, ev_neI, ev_eqB, ev_neB, ev_eqS, ev_neS, ev_and, ev_andT, ev_andF, ev_or, ev_orT, ev_orF, ev_not, ev_not1, ev_tnot, ev_tnot1, ev_tand, ev_tandT, ev_tandF, ev_tor, ev_torT, ev_torF, ev_tb, ev_tb1, ev_yes, ev_ife, ev_ifeT, ev_ifeF, ev_ch, ev_ch1, ev_ch2, ev_ch3T, ev_ch3F, ev_ch4, ev_is, ev_isB, ev_notN, ev_call, ev_call1, ev_own, ev_own_1, ev_own_2, ev_own_3, ev_own_4, ev_own_5, ev_ownK, ev_ownK_1, ev_ownK_01, ev_ownK_10, ev_lenT, ev_lenL, ev_lenO, ev_int, ev_intB, ev_abs, ev_min, ev_max, ev_tupT, ev_tupL, ev_listT, ev_listL, ev_meth, ev_meth2, ev_gN, ev_set, ev_set1, ev_gT, ev_gT2, ev_gT3, ev_gnil, ev_gcons, ev_gcons1, ev_iseq, ev_iseqT, ev_iseqL, ev_iseqO, ev_r1, ev_r2, ev_lrg1, ev_sl, ev_sl1, ev_sl3, ev_sl4, ev_on, ev_os, ev_os1, ev_slT, ev_slL, ev_slO, ev_r3, ix_t0, ix_t1, ix_t2, en_pair, en_int, wipeM, List.map_cons, List.map_nil, List.length_cons, List.length_nil, List.replicate_succ, List.replicate_zero, List.cons_append, List.nil_append, List.append_nil, List.set_cons_zero, List.set_cons_succ, Nat.reduceAdd, Nat.reduceSub, Nat.zero_add, if_true, if_false, reduceIte, Int.reduceEq, Int.reduceLT, Int.reduceLE, Bool.false_eq_true, decide_true, decide_false, Bool.not_true, Bool.not_false, List.getElem?_cons_zero, List.getElem?_cons_succ] <;> rfl, .inl (by
          unfold B1_turned_at
          simp only [ev_seq, ev_seqN, ev_seqR, ev_seqB, ev_seqC, ev_seqE, ev_nil, ev_brk, ev_cnt, ev_retN, ev_expr, ev_expr1, ev_ret, ev_ret1, ev_if, ev_ifT, ev_ifF, ev_asg, ev_asg1, ev_asg2, ev_par, ev_par1, ev_def, ev_defR, ev_defN, ev_var0, ev_varS, ev_k, ev_anil, ev_acons, ev_acons1, ev_acons2, ev_tup, ev_tup_0, ev_tup_1, ev_tup_2, ev_tup_3, ev_lst, ev_lst_0, ev_lst_1, ev_lst_2, ev_lst_3, ev_mkT, ev_mkF, ev_bin, ev_bin1, ev_bin2, ev_un, ev_un1, ev_add, ev_addT, ev_addL, ev_sub, ev_neg, ev_lt, ev_le, ev_gt, ev_ge, ev_eqI, ev_neI, ev_eqB, ev_neB, ev_eqS, ev_neS, ev_and, ev_andT, ev_andF, ev_or, ev_orT, ev_orF, ev_not, ev_not1, ev_tnot, ev_tnot1, ev_tand, ev_tandT, ev_tandF, ev_tor, ev_torT, ev_torF, ev_tb, ev_tb1, ev_yes, ev_ife, ev_ifeT, ev_ifeF, ev_ch, ev_ch1, ev_ch2, ev_ch3T, ev_ch3F, ev_ch4, ev_is, ev_isB, ev_notN, ev_call, ev_call1, ev_own, ev_own_1, ev_own_2, ev_own_3, ev_own_4, ev_own_5, ev_ownK, ev_ownK_1, ev_ownK_01, ev_ownK_10, ev_lenT, ev_lenL, ev_lenO, ev_int, ev_intB, ev_abs, ev_min, ev_max, ev_tupT, ev_tupL, ev_listT, ev_listL, ev_meth, ev_meth2, ev_gN, ev_set, ev_set1, ev_gT, ev_gT2, ev_gT3, ev_gnil, ev_gcons, ev_gcons1, ev_iseq, ev_iseqT, ev_iseqL, ev_iseqO, ev_r1, ev_r2, ev_lrg1, ev_sl, ev_sl1, ev_sl3, ev_sl4, ev_on, ev_os, ev_os1, ev_slT, ev_slL, ev_slO, ev_r3, ix_t0, ix_t1, ix_t2, en_pair, en_int, wipeM, List.map_cons, List.map_nil, List.length_cons, List.length_nil, List.replicate_succ, List.replicate_zero, List.cons_append, List.nil_append, List.append_nil, List.set_cons_zero, List.set_cons_succ, Nat.reduceAdd, Nat.reduceSub, Nat.zero_add, if_true, if_false, reduceIte, Int.reduceEq, Int.reduceLT, Int.reduceLE, Bool.false_eq_true, decide_true, decide_false, Bool.not_true, Bool.not_false, List.getElem?_cons_zero, List.getElem?_cons_succ, q1, inM_te, q2, ev_meth1]
          rw [ev_typL 0 _ _ rfl]
          simp only [ev_seq, ev_seqN, ev_seqR, ev_seqB, ev_seqC, ev_seqE, ev_nil, ev_brk, ev_cnt, ev_retN, ev_expr, ev_expr1, ev_ret, ev_ret1, ev_if, ev_ifT, ev_ifF, ev_asg, ev_asg1, ev_asg2, ev_par, ev_par1, ev_def, ev_defR, ev_defN, ev_var0, ev_varS, ev_k, ev_anil, ev_acons, ev_acons1, ev_acons2, ev_tup, ev_tup_0, ev_tup_1, ev_tup_2, ev_tup_3, ev_lst, ev_lst_0, ev_lst_1, ev_lst_2, ev_lst_3, ev_mkT, ev_mkF, ev_bin, ev_bin1, ev_bin2, ev_un, ev_un1, ev_add, ev_addT, ev_addL, ev_sub, ev_neg, ev_lt, ev_le, ev_gt, ev_ge, ev_eqI, ev_neI, ev_eqB, ev_neB, ev_eqS, ev_neS, ev_and, ev_andT, ev_andF, ev_or, ev_orT, ev_orF, ev_not, ev_not1, ev_tnot, ev_tnot1, ev_tand, ev_tandT, ev_tandF, ev_tor, ev_torT, ev_torF, ev_tb, ev_tb1, ev_yes, ev_ife, ev_ifeT, ev_ifeF, ev_ch, ev_ch1, ev_ch2, ev_ch3T, ev_ch3F, ev_ch4, ev_is, ev_isB, ev_notN, ev_call, ev_call1, ev_own, ev_own_1, ev_own_2, ev_own_3, ev_own_4, ev_own_5, ev_ownK, ev_ownK_1, ev_ownK_01, ev_ownK_10, ev_lenT, ev_lenL, ev_lenO, ev_int, ev_intB, ev_abs, ev_min, ev_max, ev_tupT, ev_tupL, ev_listT, ev_listL, ev_meth, ev_meth2, ev_gN, ev_set, ev_set1, ev_gT, ev_gT2, ev_gT3, ev_gnil, ev_gcons, ev_gcons1, ev_iseq, ev_iseqT, ev_iseqL, ev_iseqO, ev_r1, ev_r2, ev_lrg1, ev_sl, ev_sl1, ev_sl3, ev_sl4, ev_on, ev_os, ev_os1, ev_slT, ev_slL, ev_slO, ev_r3, ix_t0, ix_t1, ix_t2, en_pair, en_int, wipeM, List.map_cons, List.map_nil, List.length_cons, List.length_nil, List.replicate_succ, List.replicate_zero, List.cons_append, List.nil_append, List.append_nil, List.set_cons_zero, List.set_cons_succ, Nat.reduceAdd, Nat.reduceSub, Nat.zero_add, if_true, if_false, reduceIte, Int.reduceEq, Int.reduceLT, Int.reduceLE, Bool.false_eq_true, decide_true, decide_false, Bool.not_true, Bool.not_false, List.getElem?_cons_zero, List.getElem?_cons_succ]
          rw [ev_app rfl (by rw [List.length_map]; exact hl)]
          simp only [ev_seq, ev_seqN, ev_seqR, ev_seqB, ev_seqC, ev_seqE, ev_nil, ev_brk, ev_cnt, ev_retN, ev_expr, ev_expr1, ev_ret, ev_ret1, ev_if, ev_ifT, ev_ifF, ev_asg, ev_asg1, ev_asg2, ev_par, ev_par1, ev_def, ev_defR, ev_defN, ev_var0, ev_varS, ev_k, ev_anil, ev_acons, ev_acons1, ev_acons2, ev_tup, ev_tup_0, ev_tup_1, ev_tup_2, ev_tup_3, ev_lst, ev_lst_0, ev_lst_1, ev_lst_2, ev_lst_3, ev_mkT, ev_mkF, ev_bin, ev_bin1, ev_bin2, ev_un, ev_un1, ev_add, ev_addT, ev_addL, ev_sub, ev_neg, ev_lt, ev_le, ev_gt, ev_ge, ev_eqI, ev_neI, ev_eqB, ev_neB, ev_eqS, ev_neS, ev_and, ev_andT, ev_andF, ev_or, ev_orT, ev_orF, ev_not, ev_not1, ev_tnot, ev_tnot1, ev_tand, ev_tandT, ev_tandF, ev_tor, ev_torT, ev_torF, ev_tb, ev_tb1, ev_yes, ev_ife, ev_ifeT, ev_ifeF, ev_ch, ev_ch1, ev_ch2, ev_ch3T, ev_ch3F, ev_ch4, ev_is, ev_isB, ev_notN, ev_call, ev_call1, ev_own, ev_own_1, ev_own_2, ev_own_3, ev_own_4, ev_own_5, ev_ownK, ev_ownK_1, ev_ownK_01, ev_ownK_10, ev_lenT, ev_lenL, ev_lenO, ev_int, ev_intB, ev_abs, ev_min, ev_max, ev_tupT, ev_tupL, ev_listT, ev_listL, ev_meth, ev_meth2, ev_gN, ev_set, ev_set1, ev_gT, ev_gT2, ev_gT3, ev_gnil, ev_gcons, ev_gcons1, ev_iseq, ev_iseqT, ev_iseqL, ev_iseqO, ev_r1, ev_r2, ev_lrg1, ev_sl, ev_sl1, ev_sl3, ev_sl4, ev_on, ev_os, ev_os1, ev_slT, ev_slL, ev_slO, ev_r3, ix_t0, ix_t1, ix_t2, en_pair, en_int, wipeM, List.map_cons, List.map_nil, List.length_cons, List.length_nil, List.replicate_succ, List.replicate_zero, List.cons_append, List.nil_append, List.append_nil, List.set_cons_zero, List.set_cons_succ, Nat.reduceAdd, Nat.reduceSub, Nat.zero_add, if_true, if_false, reduceIte, Int.reduceEq, Int.reduceLT, Int.reduceLE, Bool.false_eq_true, decide_true, decide_false, Bool.not_true, Bool.not_false, List.getElem?_cons_zero, List.getElem?_cons_succ] <;> rfl)⟩, _, _, rfl, ?_⟩
        simp [turnL, turnF, q1, q2, en_pair, en_int]
  obtain ⟨ms', h', e1, x, y, rfl, rfl⟩ := loop
  simp only [ev_seq, ev_seqN, ev_seqR, ev_seqB, ev_seqC, ev_seqE, ev_nil, ev_brk, ev_cnt, ev_retN, ev_expr, ev_expr1, ev_ret, ev_ret1, ev_if, ev_ifT, ev_ifF, ev_asg, ev_asg1, ev_asg2, ev_par, ev_par1, ev_def, ev_defR, ev_defN, ev_var0, ev_varS, ev_k, ev_anil, ev_acons, ev_acons1, ev_acons2, ev_tup, ev_tup_0, ev_tup_1, ev_tup_2, ev_tup_3, ev_lst, ev_lst_0, ev_lst_1, ev_lst_2, ev_lst_3, ev_mkT, ev_mkF, ev_bin, ev_bin1, ev_bin2, ev_un, ev_un1, ev_add, ev_addT, ev_addL, ev_sub, ev_neg, ev_lt, ev_le, ev_gt, ev_ge, ev_eqI, ev_neI, ev_eqB, ev_neB, ev_eqS, ev_neS, ev_and, ev_andT, ev_andF, ev_or, ev_orT, ev_orF, ev_not, ev_not1, ev_tnot, ev_tnot1, ev_tand, ev_tandT, ev_tandF, ev_tor, ev_torT, ev_torF, ev_tb, ev_tb1, ev_yes, ev_ife, ev_ifeT, ev_ifeF, ev_ch, ev_ch1, ev_ch2, ev_ch3T, ev_ch3F, ev_ch4, ev_is, ev_isB, ev_notN, ev_call, ev_call1, ev_own, ev_own_1, ev_own_2, ev_own_3, ev_own_4, ev_own_5, ev_ownK, ev_ownK_1, ev_ownK_01, ev_ownK_10, ev_lenT, ev_lenL, ev_lenO, ev_int, ev_intB, ev_abs, ev_min, ev_max, ev_tupT, ev_tupL, ev_listT, ev_listL, ev_meth, ev_meth2, ev_gN, ev_set, ev_set1, ev_gT, ev_gT2, ev_gT3, ev_gnil, ev_gcons, ev_gcons1, ev_iseq, ev_iseqT, ev_iseqL, ev_iseqO, ev_r1, ev_r2, ev_lrg1, ev_sl, ev_sl1, ev_sl3, ev_sl4, ev_on, ev_os, ev_os1, ev_slT, ev_slL, ev_slO, ev_r3, ix_t0, ix_t1, ix_t2, en_pair, en_int, wipeM, List.map_cons, List.map_nil, List.length_cons, List.length_nil, List.replicate_succ, List.replicate_zero, List.cons_append, List.nil_append, List.append_nil, List.set_cons_zero, List.set_cons_succ, Nat.reduceAdd, Nat.reduceSub, Nat.zero_add, if_true, if_false, reduceIte, Int.reduceEq, Int.reduceLT, Int.reduceLE, Bool.false_eq_true, decide_true, decide_false, Bool.not_true, Bool.not_false, List.getElem?_cons_zero, List.getElem?_cons_succ, c1, e1]
  rw [sort_ties (l := turnRaw n E p) rfl]
  exact ⟨_, by simp only [ev_seq, ev_seqN, ev_seqR, ev_seqB, ev_seqC, ev_seqE, ev_nil, ev_brk, ev_cnt, ev_retN, ev_expr, ev_expr1, ev_ret, ev_ret1, ev_if, ev_ifT, ev_ifF, ev_asg, ev_asg1, ev_asg2, ev_par, ev_par1, ev_def, ev_defR, ev_defN, ev_var0, ev_varS, ev_k, ev_anil, ev_acons, ev_acons1, ev_acons2, ev_tup, ev_tup_0, ev_tup_1, ev_tup_2, ev_tup_3, ev_lst, ev_lst_0, ev_lst_1, ev_lst_2, ev_lst_3, ev_mkT, ev_mkF, ev_bin, ev_bin1, ev_bin2, ev_un, ev_un1, ev_add, ev_addT, ev_addL, ev_sub, ev_neg, ev_lt, ev_le, ev_gt, ev_ge, ev_eqI, ev_neI, ev_eqB, ev_neB, ev_eqS, ev_neS, ev_and, ev_andT, ev_andF, ev_or, ev_orT, ev_orF, ev_not, ev_not1, ev_tnot, ev_tnot1, ev_tand, ev_tandT, ev_tandF, ev_tor, ev_torT, ev_torF, ev_tb, ev_tb1, ev_yes, ev_ife, ev_ifeT, ev_ifeF, ev_ch, ev_ch1, ev_ch2, ev_ch3T, ev_ch3F, ev_ch4, ev_is, ev_isB, ev_notN, ev_call, ev_call1, ev_own, ev_own_1, ev_own_2, ev_own_3, ev_own_4, ev_own_5, ev_ownK, ev_ownK_1, ev_ownK_01, ev_ownK_10, ev_lenT, ev_lenL, ev_lenO, ev_int, ev_intB, ev_abs, ev_min, ev_max, ev_tupT, ev_tupL, ev_listT, ev_listL, ev_meth, ev_meth2, ev_gN, ev_set, ev_set1, ev_gT, ev_gT2, ev_gT3, ev_gnil, ev_gcons, ev_gcons1, ev_iseq, ev_iseqT, ev_iseqL, ev_iseqO, ev_r1, ev_r2, ev_lrg1, ev_sl, ev_sl1, ev_sl3, ev_sl4, ev_on, ev_os, ev_os1, ev_slT, ev_slL, ev_slO, ev_r3, ix_t0, ix_t1, ix_t2, en_pair, en_int, wipeM, List.map_cons, List.map_nil, List.length_cons, List.length_nil, List.replicate_succ, List.replicate_zero, List.cons_append, List.nil_append, List.append_nil, List.set_cons_zero, List.set_cons_succ, Nat.reduceAdd, Nat.reduceSub, Nat.zero_add, if_true, if_false, reduceIte, Int.reduceEq, Int.reduceLT, Int.reduceLE, Bool.false_eq_true, decide_true, decide_false, Bool.not_true, Bool.not_false, List.getElem?_cons_zero, List.getElem?_cons_succ, En.en] <;> rfl⟩
theorem at_body (n p : Int) (E : List Tie) (hE : E.length ≤ 100000) (hn0 : 0 ≤ n) (hn : n ≤ 1000) : ∃ h', F__law_at [en (n, E), .int p] [] = .ok (en (n, (turnRaw n E p).mergeSort leP)) h' := by
  unfold F__law_at
  have c1 : mLc true (iSeq (mBin ixM (mVar 0) (mK (.int 1)))) (gN 5) C2__law_at (mVar 5) [5] [some (.tup [.int n, en E]), some (.int p), none, none, none, none] [] = .ok (.loc 0) [.lst ((E.filter (fun t => !decide (p ∈ [t.1, t.2]))).map en)] := by
    refine (mLc_eq (xs := E.map en) (by simp only [ev_seq, ev_seqN, ev_seqR, ev_seqB, ev_seqC, ev_seqE, ev_nil, ev_brk, ev_cnt, ev_retN, ev_expr, ev_expr1, ev_ret, ev_ret1, ev_if, ev_ifT, ev_ifF, ev_asg, ev_asg1, ev_asg2, ev_par, ev_par1, ev_def, ev_defR, ev_defN, ev_var0, ev_varS, ev_k, ev_anil, ev_acons, ev_acons1, ev_acons2, ev_tup, ev_tup_0, ev_tup_1, ev_tup_2, ev_tup_3, ev_lst, ev_lst_0, ev_lst_1, ev_lst_2, ev_lst_3, ev_mkT, ev_mkF, ev_bin, ev_bin1, ev_bin2, ev_un, ev_un1, ev_add, ev_addT, ev_addL, ev_sub, ev_neg, ev_lt, ev_le, ev_gt, ev_ge, ev_eqI, ev_neI, ev_eqB, ev_neB, ev_eqS, ev_neS, ev_and, ev_andT, ev_andF, ev_or, ev_orT, ev_orF, ev_not, ev_not1, ev_tnot, ev_tnot1, ev_tand, ev_tandT, ev_tandF, ev_tor, ev_torT, ev_torF, ev_tb, ev_tb1, ev_yes, ev_ife, ev_ifeT, ev_ifeF, ev_ch, ev_ch1, ev_ch2, ev_ch3T, ev_ch3F, ev_ch4, ev_is, ev_isB, ev_notN, ev_call, ev_call1, ev_own, ev_own_1, ev_own_2, ev_own_3, ev_own_4, ev_own_5, ev_ownK, ev_ownK_1, ev_ownK_01, ev_ownK_10, ev_lenT, ev_lenL, ev_lenO, ev_int, ev_intB, ev_abs, ev_min, ev_max, ev_tupT, ev_tupL, ev_listT, ev_listL, ev_meth, ev_meth2, ev_gN, ev_set, ev_set1, ev_gT, ev_gT2, ev_gT3, ev_gnil, ev_gcons, ev_gcons1, ev_iseq, ev_iseqT, ev_iseqL, ev_iseqO, ev_r1, ev_r2, ev_lrg1, ev_sl, ev_sl1, ev_sl3, ev_sl4, ev_on, ev_os, ev_os1, ev_slT, ev_slL, ev_slO, ev_r3, ix_t0, ix_t1, ix_t2, en_pair, en_int, wipeM, List.map_cons, List.map_nil, List.length_cons, List.length_nil, List.replicate_succ, List.replicate_zero, List.cons_append, List.nil_append, List.append_nil, List.set_cons_zero, List.set_cons_succ, Nat.reduceAdd, Nat.reduceSub, Nat.zero_add, if_true, if_false, reduceIte, Int.reduceEq, Int.reduceLT, Int.reduceLE, Bool.false_eq_true, decide_true, decide_false, Bool.not_true, Bool.not_false, List.getElem?_cons_zero, List.getElem?_cons_succ, En.en]) (lcV_map en (fun t => !decide (p ∈ [t.1, t.2])) en [] E ?_) ?_).trans ?_
    · intro t ht
      refine ⟨_, by simp only [ev_seq, ev_seqN, ev_seqR, ev_seqB, ev_seqC, ev_seqE, ev_nil, ev_brk, ev_cnt, ev_retN, ev_expr, ev_expr1, ev_ret, ev_ret1, ev_if, ev_ifT, ev_ifF, ev_asg, ev_asg1, ev_asg2, ev_par, ev_par1, ev_def, ev_defR, ev_defN, ev_var0, ev_varS, ev_k, ev_anil, ev_acons, ev_acons1, ev_acons2, ev_tup, ev_tup_0, ev_tup_1, ev_tup_2, ev_tup_3, ev_lst, ev_lst_0, ev_lst_1, ev_lst_2, ev_lst_3, ev_mkT, ev_mkF, ev_bin, ev_bin1, ev_bin2, ev_un, ev_un1, ev_add, ev_addT, ev_addL, ev_sub, ev_neg, ev_lt, ev_le, ev_gt, ev_ge, ev_eqI, ev_neI, ev_eqB, ev_neB, ev_eqS, ev_neS, ev_and, ev_andT, ev_andF, ev_or, ev_orT, ev_orF, ev_not, ev_not1, ev_tnot, ev_tnot1, ev_tand, ev_tandT, ev_tandF, ev_tor, ev_torT, ev_torF, ev_tb, ev_tb1, ev_yes, ev_ife, ev_ifeT, ev_ifeF, ev_ch, ev_ch1, ev_ch2, ev_ch3T, ev_ch3F, ev_ch4, ev_is, ev_isB, ev_notN, ev_call, ev_call1, ev_own, ev_own_1, ev_own_2, ev_own_3, ev_own_4, ev_own_5, ev_ownK, ev_ownK_1, ev_ownK_01, ev_ownK_10, ev_lenT, ev_lenL, ev_lenO, ev_int, ev_intB, ev_abs, ev_min, ev_max, ev_tupT, ev_tupL, ev_listT, ev_listL, ev_meth, ev_meth2, ev_gN, ev_set, ev_set1, ev_gT, ev_gT2, ev_gT3, ev_gnil, ev_gcons, ev_gcons1, ev_iseq, ev_iseqT, ev_iseqL, ev_iseqO, ev_r1, ev_r2, ev_lrg1, ev_sl, ev_sl1, ev_sl3, ev_sl4, ev_on, ev_os, ev_os1, ev_slT, ev_slL, ev_slO, ev_r3, ix_t0, ix_t1, ix_t2, en_pair, en_int, wipeM, List.map_cons, List.map_nil, List.length_cons, List.length_nil, List.replicate_succ, List.replicate_zero, List.cons_append, List.nil_append, List.append_nil, List.set_cons_zero, List.set_cons_succ, Nat.reduceAdd, Nat.reduceSub, Nat.zero_add, if_true, if_false, reduceIte, Int.reduceEq, Int.reduceLT, Int.reduceLE, Bool.false_eq_true, decide_true, decide_false, Bool.not_true, Bool.not_false, List.getElem?_cons_zero, List.getElem?_cons_succ]; rfl, ?_, fun _ => ?_⟩
      · unfold C2__law_at
        simp only [ev_seq, ev_seqN, ev_seqR, ev_seqB, ev_seqC, ev_seqE, ev_nil, ev_brk, ev_cnt, ev_retN, ev_expr, ev_expr1, ev_ret, ev_ret1, ev_if, ev_ifT, ev_ifF, ev_asg, ev_asg1, ev_asg2, ev_par, ev_par1, ev_def, ev_defR, ev_defN, ev_var0, ev_varS, ev_k, ev_anil, ev_acons, ev_acons1, ev_acons2, ev_tup, ev_tup_0, ev_tup_1, ev_tup_2, ev_tup_3, ev_lst, ev_lst_0, ev_lst_1, ev_lst_2, ev_lst_3, ev_mkT, ev_mkF, ev_bin, ev_bin1, ev_bin2, ev_un, ev_un1, ev_add, ev_addT, ev_addL, ev_sub, ev_neg, ev_lt, ev_le, ev_gt, ev_ge, ev_eqI, ev_neI, ev_eqB, ev_neB, ev_eqS, ev_neS, ev_and, ev_andT, ev_andF, ev_or, ev_orT, ev_orF, ev_not, ev_not1, ev_tnot, ev_tnot1, ev_tand, ev_tandT, ev_tandF, ev_tor, ev_torT, ev_torF, ev_tb, ev_tb1, ev_yes, ev_ife, ev_ifeT, ev_ifeF, ev_ch, ev_ch1, ev_ch2, ev_ch3T, ev_ch3F, ev_ch4, ev_is, ev_isB, ev_notN, ev_call, ev_call1, ev_own, ev_own_1, ev_own_2, ev_own_3, ev_own_4, ev_own_5, ev_ownK, ev_ownK_1, ev_ownK_01, ev_ownK_10, ev_lenT, ev_lenL, ev_lenO, ev_int, ev_intB, ev_abs, ev_min, ev_max, ev_tupT, ev_tupL, ev_listT, ev_listL, ev_meth, ev_meth2, ev_gN, ev_set, ev_set1, ev_gT, ev_gT2, ev_gT3, ev_gnil, ev_gcons, ev_gcons1, ev_iseq, ev_iseqT, ev_iseqL, ev_iseqO, ev_r1, ev_r2, ev_lrg1, ev_sl, ev_sl1, ev_sl3, ev_sl4, ev_on, ev_os, ev_os1, ev_slT, ev_slL, ev_slO, ev_r3, ix_t0, ix_t1, ix_t2, en_pair, en_int, wipeM, List.map_cons, List.map_nil, List.length_cons, List.length_nil, List.replicate_succ, List.replicate_zero, List.cons_append, List.nil_append, List.append_nil, List.set_cons_zero, List.set_cons_succ, Nat.reduceAdd, Nat.reduceSub, Nat.zero_add, if_true, if_false, reduceIte, Int.reduceEq, Int.reduceLT, Int.reduceLE, Bool.false_eq_true, decide_true, decide_false, Bool.not_true, Bool.not_false, List.getElem?_cons_zero, List.getElem?_cons_succ, En.en, inM_pt]
      · simp only [ev_seq, ev_seqN, ev_seqR, ev_seqB, ev_seqC, ev_seqE, ev_nil, ev_brk, ev_cnt, ev_retN, ev_expr, ev_expr1, ev_ret, ev_ret1, ev_if, ev_ifT, ev_ifF, ev_asg, ev_asg1, ev_asg2, ev_par, ev_par1, ev_def, ev_defR, ev_defN, ev_var0, ev_varS, ev_k, ev_anil, ev_acons, ev_acons1, ev_acons2, ev_tup, ev_tup_0, ev_tup_1, ev_tup_2, ev_tup_3, ev_lst, ev_lst_0, ev_lst_1, ev_lst_2, ev_lst_3, ev_mkT, ev_mkF, ev_bin, ev_bin1, ev_bin2, ev_un, ev_un1, ev_add, ev_addT, ev_addL, ev_sub, ev_neg, ev_lt, ev_le, ev_gt, ev_ge, ev_eqI, ev_neI, ev_eqB, ev_neB, ev_eqS, ev_neS, ev_and, ev_andT, ev_andF, ev_or, ev_orT, ev_orF, ev_not, ev_not1, ev_tnot, ev_tnot1, ev_tand, ev_tandT, ev_tandF, ev_tor, ev_torT, ev_torF, ev_tb, ev_tb1, ev_yes, ev_ife, ev_ifeT, ev_ifeF, ev_ch, ev_ch1, ev_ch2, ev_ch3T, ev_ch3F, ev_ch4, ev_is, ev_isB, ev_notN, ev_call, ev_call1, ev_own, ev_own_1, ev_own_2, ev_own_3, ev_own_4, ev_own_5, ev_ownK, ev_ownK_1, ev_ownK_01, ev_ownK_10, ev_lenT, ev_lenL, ev_lenO, ev_int, ev_intB, ev_abs, ev_min, ev_max, ev_tupT, ev_tupL, ev_listT, ev_listL, ev_meth, ev_meth2, ev_gN, ev_set, ev_set1, ev_gT, ev_gT2, ev_gT3, ev_gnil, ev_gcons, ev_gcons1, ev_iseq, ev_iseqT, ev_iseqL, ev_iseqO, ev_r1, ev_r2, ev_lrg1, ev_sl, ev_sl1, ev_sl3, ev_sl4, ev_on, ev_os, ev_os1, ev_slT, ev_slL, ev_slO, ev_r3, ix_t0, ix_t1, ix_t2, en_pair, en_int, wipeM, List.map_cons, List.map_nil, List.length_cons, List.length_nil, List.replicate_succ, List.replicate_zero, List.cons_append, List.nil_append, List.append_nil, List.set_cons_zero, List.set_cons_succ, Nat.reduceAdd, Nat.reduceSub, Nat.zero_add, if_true, if_false, reduceIte, Int.reduceEq, Int.reduceLT, Int.reduceLE, Bool.false_eq_true, decide_true, decide_false, Bool.not_true, Bool.not_false, List.getElem?_cons_zero, List.getElem?_cons_succ]
    · rw [List.length_map]
      exact Nat.le_trans (List.length_filter_le _ _) (Nat.le_trans hE (by decide))
    · rfl
  have hc : cR n = true := cR_ok (by omega) (by omega)
  have len : ∀ pre : List Int, pre.length ≤ 1000 → (E.filter (fun t => !decide (p ∈ [t.1, t.2])) ++ turnL p E pre).length < LIM := fun pre hp => by
    have h1 := List.length_filter_le (fun t : Tie => !decide (p ∈ [t.1, t.2])) E
    have h2 := List.length_filter_le (turnF E p) pre
    simp only [List.length_append, turnL, List.length_map]
    show _ < 16777216
    omega
  have loop : ∃ ms' h', xFor (iRange1 (aCons (mBin ixM (mVar 0) (mK (.int 0))) aNil)) (gN 3) B1__law_at [some (.tup [.int n, en E]), some (.int p), some (.loc 0), none, none, none] [.lst ((E.filter (fun t => !decide (p ∈ [t.1, t.2]))).map en)] = .nx ms' h' ∧
      ∃ x y, ms' = [some (.tup [.int n, en E]), some (.int p), some (.loc 0), x, y, none] ∧ h' = [.lst ((turnRaw n E p).map en)] := by
    rw [xFor_eq (xs := (irg 0 n).map M.int) (by simp only [ev_seq, ev_seqN, ev_seqR, ev_seqB, ev_seqC, ev_seqE, ev_nil, ev_brk, ev_cnt, ev_retN, ev_expr, ev_expr1, ev_ret, ev_ret1, ev_if, ev_ifT, ev_ifF, ev_asg, ev_asg1, ev_asg2, ev_par, ev_par1, ev_def, ev_defR, ev_defN, ev_var0, ev_varS, ev_k, ev_anil, ev_acons, ev_acons1, ev_acons2, ev_tup, ev_tup_0, ev_tup_1, ev_tup_2, ev_tup_3, ev_lst, ev_lst_0, ev_lst_1, ev_lst_2, ev_lst_3, ev_mkT, ev_mkF, ev_bin, ev_bin1, ev_bin2, ev_un, ev_un1, ev_add, ev_addT, ev_addL, ev_sub, ev_neg, ev_lt, ev_le, ev_gt, ev_ge, ev_eqI, ev_neI, ev_eqB, ev_neB, ev_eqS, ev_neS, ev_and, ev_andT, ev_andF, ev_or, ev_orT, ev_orF, ev_not, ev_not1, ev_tnot, ev_tnot1, ev_tand, ev_tandT, ev_tandF, ev_tor, ev_torT, ev_torF, ev_tb, ev_tb1, ev_yes, ev_ife, ev_ifeT, ev_ifeF, ev_ch, ev_ch1, ev_ch2, ev_ch3T, ev_ch3F, ev_ch4, ev_is, ev_isB, ev_notN, ev_call, ev_call1, ev_own, ev_own_1, ev_own_2, ev_own_3, ev_own_4, ev_own_5, ev_ownK, ev_ownK_1, ev_ownK_01, ev_ownK_10, ev_lenT, ev_lenL, ev_lenO, ev_int, ev_intB, ev_abs, ev_min, ev_max, ev_tupT, ev_tupL, ev_listT, ev_listL, ev_meth, ev_meth2, ev_gN, ev_set, ev_set1, ev_gT, ev_gT2, ev_gT3, ev_gnil, ev_gcons, ev_gcons1, ev_iseq, ev_iseqT, ev_iseqL, ev_iseqO, ev_r1, ev_r2, ev_lrg1, ev_sl, ev_sl1, ev_sl3, ev_sl4, ev_on, ev_os, ev_os1, ev_slT, ev_slL, ev_slO, ev_r3, ix_t0, ix_t1, ix_t2, en_pair, en_int, wipeM, List.map_cons, List.map_nil, List.length_cons, List.length_nil, List.replicate_succ, List.replicate_zero, List.cons_append, List.nil_append, List.append_nil, List.set_cons_zero, List.set_cons_succ, Nat.reduceAdd, Nat.reduceSub, Nat.zero_add, if_true, if_false, reduceIte, Int.reduceEq, Int.reduceLT, Int.reduceLE, Bool.false_eq_true, decide_true, decide_false, Bool.not_true, Bool.not_false, List.getElem?_cons_zero, List.getElem?_cons_succ, ev_r1', hc] <;> rfl)]
    refine forV_pre M.int (irg 0 n) (fun pre ms h => ∃ x y, ms = [some (.tup [.int n, en E]), some (.int p), some (.loc 0), x, y, none] ∧ h = [.lst ((E.filter (fun t => !decide (p ∈ [t.1, t.2])) ++ turnL p E pre).map en)]) ?_ ⟨none, none, rfl, by simp [turnL]⟩
    rintro pre o post ms h e ⟨x, y, rfl, rfl⟩
    have hl := len pre (by have := congrArg List.length e; rw [irg_length, List.length_append] at this; omega)
    cases q1 : decide (o = p) with
    | true => exact ⟨_, _, ⟨_, _, by simp only [ev_seq, ev_seqN, ev_seqR, ev_seqB, ev_seqC, ev_seqE, ev_nil, ev_brk, ev_cnt, ev_retN, ev_expr, ev_expr1, ev_ret, ev_ret1, ev_if, ev_ifT, ev_ifF, ev_asg, ev_asg1, ev_asg2, ev_par, ev_par1, ev_def, ev_defR, ev_defN, ev_var0, ev_varS, ev_k, ev_anil, ev_acons, ev_acons1, ev_acons2, ev_tup, ev_tup_0, ev_tup_1, ev_tup_2, ev_tup_3, ev_lst, ev_lst_0, ev_lst_1, ev_lst_2, ev_lst_3, ev_mkT, ev_mkF, ev_bin, ev_bin1, ev_bin2, ev_un, ev_un1, ev_add, ev_addT, ev_addL, ev_sub, ev_neg, ev_lt, ev_le, ev_gt, ev_ge, ev_eqI, ev_neI, ev_eqB, ev_neB, ev_eqS, ev_neS, ev_and, ev_andT, ev_andF, ev_or, ev_orT, ev_orF, ev_not, ev_not1, ev_tnot, ev_tnot1, ev_tand, ev_tandT, ev_tandF, ev_tor, ev_torT, ev_torF, ev_tb, ev_tb1, ev_yes, ev_ife, ev_ifeT, ev_ifeF, ev_ch, ev_ch1, ev_ch2, ev_ch3T, ev_ch3F, ev_ch4, ev_is, ev_isB, ev_notN, ev_call, ev_call1, ev_own, ev_own_1, ev_own_2, ev_own_3, ev_own_4, ev_own_5, ev_ownK, ev_ownK_1, ev_ownK_01, ev_ownK_10, ev_lenT, ev_lenL, ev_lenO, ev_int, ev_intB, ev_abs, ev_min, ev_max, ev_tupT, ev_tupL, ev_listT, ev_listL, ev_meth, ev_meth2, ev_gN, ev_set, ev_set1, ev_gT, ev_gT2, ev_gT3, ev_gnil, ev_gcons, ev_gcons1, ev_iseq, ev_iseqT, ev_iseqL, ev_iseqO, ev_r1, ev_r2, ev_lrg1, ev_sl, ev_sl1, ev_sl3, ev_sl4, ev_on, ev_os, ev_os1, ev_slT, ev_slL, ev_slO, ev_r3, ix_t0, ix_t1, ix_t2, en_pair, en_int, wipeM, List.map_cons, List.map_nil, List.length_cons, List.length_nil, List.replicate_succ, List.replicate_zero, List.cons_append, List.nil_append, List.append_nil, List.set_cons_zero, List.set_cons_succ, Nat.reduceAdd, Nat.reduceSub, Nat.zero_add, if_true, if_false, reduceIte, Int.reduceEq, Int.reduceLT, Int.reduceLE, Bool.false_eq_true, decide_true, decide_false, Bool.not_true, Bool.not_false, List.getElem?_cons_zero, List.getElem?_cons_succ] <;> rfl, .inl (by unfold B1__law_at; simp only [ev_seq, ev_seqN, ev_seqR, ev_seqB, ev_seqC, ev_seqE, ev_nil, ev_brk, ev_cnt, ev_retN, ev_expr, ev_expr1, ev_ret, ev_ret1, ev_if, ev_ifT, ev_ifF, ev_asg, ev_asg1, ev_asg2, ev_par, ev_par1, ev_def, ev_defR, ev_defN, ev_var0, ev_varS, ev_k, ev_anil, ev_acons, ev_acons1, ev_acons2, ev_tup, ev_tup_0, ev_tup_1, ev_tup_2, ev_tup_3, ev_lst, ev_lst_0, ev_lst_1, ev_lst_2, ev_lst_3, ev_mkT, ev_mkF, ev_bin, ev_bin1, ev_bin2, ev_un, ev_un1, ev_add, ev_addT, ev_addL, ev_sub, ev_neg, ev_lt, ev_le, ev_gt, ev_ge, ev_eqI, ev_neI, ev_eqB, ev_neB, ev_eqS, ev_neS, ev_and, ev_andT, ev_andF, ev_or, ev_orT, ev_orF, ev_not, ev_not1, ev_tnot, ev_tnot1, ev_tand, ev_tandT, ev_tandF, ev_tor, ev_torT, ev_torF, ev_tb, ev_tb1, ev_yes, ev_ife, ev_ifeT, ev_ifeF, ev_ch, ev_ch1, ev_ch2, ev_ch3T, ev_ch3F, ev_ch4, ev_is, ev_isB, ev_notN, ev_call, ev_call1, ev_own, ev_own_1, ev_own_2, ev_own_3, ev_own_4, ev_own_5, ev_ownK, ev_ownK_1, ev_ownK_01, ev_ownK_10, ev_lenT, ev_lenL, ev_lenO, ev_int, ev_intB, ev_abs, ev_min, ev_max, ev_tupT, ev_tupL, ev_listT, ev_listL, ev_meth, ev_meth2, ev_gN, ev_set, ev_set1, ev_gT, ev_gT2, ev_gT3, ev_gnil, ev_gcons, ev_gcons1, ev_iseq, ev_iseqT, ev_iseqL, ev_iseqO, ev_r1, ev_r2, ev_lrg1, ev_sl, ev_sl1, ev_sl3, ev_sl4, ev_on, ev_os, ev_os1, ev_slT, ev_slL, ev_slO, ev_r3, ix_t0, ix_t1, ix_t2, en_pair, en_int, wipeM, List.map_cons, List.map_nil, List.length_cons, List.length_nil, List.replicate_succ, List.replicate_zero, List.cons_append, List.nil_append, List.append_nil, List.set_cons_zero, List.set_cons_succ, Nat.reduceAdd, Nat.reduceSub, Nat.zero_add, if_true, if_false, reduceIte, Int.reduceEq, Int.reduceLT, Int.reduceLE, Bool.false_eq_true, decide_true, decide_false, Bool.not_true, Bool.not_false, List.getElem?_cons_zero, List.getElem?_cons_succ, q1] <;> rfl)⟩, _, _, rfl, by simp [turnL, turnF, q1]⟩
    | false =>
      cases q2 : decide ((mn p o, mx p o) ∈ E) with
      | true => exact ⟨_, _, ⟨_, _, by simp only [ev_seq, ev_seqN, ev_seqR, ev_seqB, ev_seqC, ev_seqE, ev_nil, ev_brk, ev_cnt, ev_retN, ev_expr, ev_expr1, ev_ret, ev_ret1, ev_if, ev_ifT, ev_ifF, ev_asg, ev_asg1, ev_asg2, ev_par, ev_par1, ev_def, ev_defR, ev_defN, ev_var0, ev_varS, ev_k, ev_anil, ev_acons, ev_acons1, ev_acons2, ev_tup, ev_tup_0, ev_tup_1, ev_tup_2, ev_tup_3, ev_lst, ev_lst_0, ev_lst_1, ev_lst_2, ev_lst_3, ev_mkT, ev_mkF, ev_bin, ev_bin1, ev_bin2, ev_un, ev_un1, ev_add, ev_addT, ev_addL, ev_sub, ev_neg, ev_lt, ev_le, ev_gt, ev_ge, ev_eqI, ev_neI, ev_eqB, ev_neB, ev_eqS, ev_neS, ev_and, ev_andT, ev_andF, ev_or, ev_orT, ev_orF, ev_not, ev_not1, ev_tnot, ev_tnot1, ev_tand, ev_tandT, ev_tandF, ev_tor, ev_torT, ev_torF, ev_tb, ev_tb1, ev_yes, ev_ife, ev_ifeT, ev_ifeF, ev_ch, ev_ch1, ev_ch2, ev_ch3T, ev_ch3F, ev_ch4, ev_is, ev_isB, ev_notN, ev_call, ev_call1, ev_own, ev_own_1, ev_own_2, ev_own_3, ev_own_4, ev_own_5, ev_ownK, ev_ownK_1, ev_ownK_01, ev_ownK_10, ev_lenT, ev_lenL, ev_lenO, ev_int, ev_intB, ev_abs, ev_min, ev_max, ev_tupT, ev_tupL, ev_listT, ev_listL, ev_meth, ev_meth2, ev_gN, ev_set, ev_set1, ev_gT, ev_gT2, ev_gT3, ev_gnil, ev_gcons, ev_gcons1, ev_iseq, ev_iseqT, ev_iseqL, ev_iseqO, ev_r1, ev_r2, ev_lrg1, ev_sl, ev_sl1, ev_sl3, ev_sl4, ev_on, ev_os, ev_os1, ev_slT, ev_slL, ev_slO, ev_r3, ix_t0, ix_t1, ix_t2, en_pair, en_int, wipeM, List.map_cons, List.map_nil, List.length_cons, List.length_nil, List.replicate_succ, List.replicate_zero, List.cons_append, List.nil_append, List.append_nil, List.set_cons_zero, List.set_cons_succ, Nat.reduceAdd, Nat.reduceSub, Nat.zero_add, if_true, if_false, reduceIte, Int.reduceEq, Int.reduceLT, Int.reduceLE, Bool.false_eq_true, decide_true, decide_false, Bool.not_true, Bool.not_false, List.getElem?_cons_zero, List.getElem?_cons_succ] <;> rfl, .inl (by unfold B1__law_at; simp only [ev_seq, ev_seqN, ev_seqR, ev_seqB, ev_seqC, ev_seqE, ev_nil, ev_brk, ev_cnt, ev_retN, ev_expr, ev_expr1, ev_ret, ev_ret1, ev_if, ev_ifT, ev_ifF, ev_asg, ev_asg1, ev_asg2, ev_par, ev_par1, ev_def, ev_defR, ev_defN, ev_var0, ev_varS, ev_k, ev_anil, ev_acons, ev_acons1, ev_acons2, ev_tup, ev_tup_0, ev_tup_1, ev_tup_2, ev_tup_3, ev_lst, ev_lst_0, ev_lst_1, ev_lst_2, ev_lst_3, ev_mkT, ev_mkF, ev_bin, ev_bin1, ev_bin2, ev_un, ev_un1, ev_add, ev_addT, ev_addL, ev_sub, ev_neg, ev_lt, ev_le, ev_gt, ev_ge, ev_eqI, ev_neI, ev_eqB, ev_neB, ev_eqS, ev_neS, ev_and, ev_andT, ev_andF, ev_or, ev_orT, ev_orF, ev_not, ev_not1, ev_tnot, ev_tnot1, ev_tand, ev_tandT, ev_tandF, ev_tor, ev_torT, ev_torF, ev_tb, ev_tb1, ev_yes, ev_ife, ev_ifeT, ev_ifeF, ev_ch, ev_ch1, ev_ch2, ev_ch3T, ev_ch3F, ev_ch4, ev_is, ev_isB, ev_notN, ev_call, ev_call1, ev_own, ev_own_1, ev_own_2, ev_own_3, ev_own_4, ev_own_5, ev_ownK, ev_ownK_1, ev_ownK_01, ev_ownK_10, ev_lenT, ev_lenL, ev_lenO, ev_int, ev_intB, ev_abs, ev_min, ev_max, ev_tupT, ev_tupL, ev_listT, ev_listL, ev_meth, ev_meth2, ev_gN, ev_set, ev_set1, ev_gT, ev_gT2, ev_gT3, ev_gnil, ev_gcons, ev_gcons1, ev_iseq, ev_iseqT, ev_iseqL, ev_iseqO, ev_r1, ev_r2, ev_lrg1, ev_sl, ev_sl1, ev_sl3, ev_sl4, ev_on, ev_os, ev_os1, ev_slT, ev_slL, ev_slO, ev_r3, ix_t0, ix_t1, ix_t2, en_pair, en_int, wipeM, List.map_cons, List.map_nil, List.length_cons, List.length_nil, List.replicate_succ, List.replicate_zero, List.cons_append, List.nil_append, List.append_nil, List.set_cons_zero, List.set_cons_succ, Nat.reduceAdd, Nat.reduceSub, Nat.zero_add, if_true, if_false, reduceIte, Int.reduceEq, Int.reduceLT, Int.reduceLE, Bool.false_eq_true, decide_true, decide_false, Bool.not_true, Bool.not_false, List.getElem?_cons_zero, List.getElem?_cons_succ, q1, inM_te, mn_comm o p, mx_comm o p, q2] <;> rfl)⟩, _, _, rfl, by simp [turnL, turnF, q1, q2]⟩
      | false =>
        refine ⟨_, _, ⟨_, _, by simp only [ev_seq, ev_seqN, ev_seqR, ev_seqB, ev_seqC, ev_seqE, ev_nil, ev_brk, ev_cnt, ev_retN, ev_expr, ev_expr1, ev_ret, ev_ret1, ev_if, ev_ifT, ev_ifF, ev_asg, ev_asg1, ev_asg2, ev_par, ev_par1, ev_def, ev_defR, ev_defN, ev_var0, ev_varS, ev_k, ev_anil, ev_acons, ev_acons1, ev_acons2, ev_tup, ev_tup_0, ev_tup_1, ev_tup_2, ev_tup_3, ev_lst, ev_lst_0, ev_lst_1, ev_lst_2, ev_lst_3, ev_mkT, ev_mkF, ev_bin, ev_bin1, ev_bin2, ev_un, ev_un1, ev_add, ev_addT, ev_addL, ev_sub, ev_neg, ev_lt, ev_le, ev_gt, ev_ge, ev_eqI, ev_neI, ev_eqB, ev_neB, ev_eqS, ev_neS, ev_and, ev_andT, ev_andF, ev_or, ev_orT, ev_orF, ev_not, ev_not1, ev_tnot, ev_tnot1, ev_tand, ev_tandT, ev_tandF, ev_tor, ev_torT, ev_torF, ev_tb, ev_tb1, ev_yes, ev_ife, ev_ifeT, ev_ifeF, ev_ch, ev_ch1, ev_ch2, ev_ch3T, ev_ch3F, ev_ch4, ev_is, ev_isB, ev_notN, ev_call, ev_call1, ev_own, ev_own_1, ev_own_2, ev_own_3, ev_own_4, ev_own_5, ev_ownK, ev_ownK_1, ev_ownK_01, ev_ownK_10, ev_lenT, ev_lenL, ev_lenO, ev_int, ev_intB, ev_abs, ev_min, ev_max, ev_tupT, ev_tupL, ev_listT, ev_listL, ev_meth, ev_meth2, ev_gN, ev_set, ev_set1, ev_gT, ev_gT2, ev_gT3, ev_gnil, ev_gcons, ev_gcons1, ev_iseq, ev_iseqT, ev_iseqL, ev_iseqO, ev_r1, ev_r2, ev_lrg1, ev_sl, ev_sl1, ev_sl3, ev_sl4, ev_on, ev_os, ev_os1, ev_slT, ev_slL, ev_slO, ev_r3, ix_t0, ix_t1, ix_t2, en_pair, en_int, wipeM, List.map_cons, List.map_nil, List.length_cons, List.length_nil, List.replicate_succ, List.replicate_zero, List.cons_append, List.nil_append, List.append_nil, List.set_cons_zero, List.set_cons_succ, Nat.reduceAdd, Nat.reduceSub, Nat.zero_add, if_true, if_false, reduceIte, Int.reduceEq, Int.reduceLT, Int.reduceLE, Bool.false_eq_true, decide_true, decide_false, Bool.not_true, Bool.not_false, List.getElem?_cons_zero, List.getElem?_cons_succ] <;> rfl, .inl (by
          unfold B1__law_at
          simp only [ev_seq, ev_seqN, ev_seqR, ev_seqB, ev_seqC, ev_seqE, ev_nil, ev_brk, ev_cnt, ev_retN, ev_expr, ev_expr1, ev_ret, ev_ret1, ev_if, ev_ifT, ev_ifF, ev_asg, ev_asg1, ev_asg2, ev_par, ev_par1, ev_def, ev_defR, ev_defN, ev_var0, ev_varS, ev_k, ev_anil, ev_acons, ev_acons1, ev_acons2, ev_tup, ev_tup_0, ev_tup_1, ev_tup_2, ev_tup_3, ev_lst, ev_lst_0, ev_lst_1, ev_lst_2, ev_lst_3, ev_mkT, ev_mkF, ev_bin, ev_bin1, ev_bin2, ev_un, ev_un1, ev_add, ev_addT, ev_addL, ev_sub, ev_neg, ev_lt, ev_le, ev_gt, ev_ge, ev_eqI, ev_neI, ev_eqB, ev_neB, ev_eqS, ev_neS, ev_and, ev_andT, ev_andF, ev_or, ev_orT, ev_orF, ev_not, ev_not1, ev_tnot, ev_tnot1, ev_tand, ev_tandT, ev_tandF, ev_tor, ev_torT, ev_torF, ev_tb, ev_tb1, ev_yes, ev_ife, ev_ifeT, ev_ifeF, ev_ch, ev_ch1, ev_ch2, ev_ch3T, ev_ch3F, ev_ch4, ev_is, ev_isB, ev_notN, ev_call, ev_call1, ev_own, ev_own_1, ev_own_2, ev_own_3, ev_own_4, ev_own_5, ev_ownK, ev_ownK_1, ev_ownK_01, ev_ownK_10, ev_lenT, ev_lenL, ev_lenO, ev_int, ev_intB, ev_abs, ev_min, ev_max, ev_tupT, ev_tupL, ev_listT, ev_listL, ev_meth, ev_meth2, ev_gN, ev_set, ev_set1, ev_gT, ev_gT2, ev_gT3, ev_gnil, ev_gcons, ev_gcons1, ev_iseq, ev_iseqT, ev_iseqL, ev_iseqO, ev_r1, ev_r2, ev_lrg1, ev_sl, ev_sl1, ev_sl3, ev_sl4, ev_on, ev_os, ev_os1, ev_slT, ev_slL, ev_slO, ev_r3, ix_t0, ix_t1, ix_t2, en_pair, en_int, wipeM, List.map_cons, List.map_nil, List.length_cons, List.length_nil, List.replicate_succ, List.replicate_zero, List.cons_append, List.nil_append, List.append_nil, List.set_cons_zero, List.set_cons_succ, Nat.reduceAdd, Nat.reduceSub, Nat.zero_add, if_true, if_false, reduceIte, Int.reduceEq, Int.reduceLT, Int.reduceLE, Bool.false_eq_true, decide_true, decide_false, Bool.not_true, Bool.not_false, List.getElem?_cons_zero, List.getElem?_cons_succ, q1, inM_te, mn_comm o p, mx_comm o p, q2, ev_meth1]
          rw [ev_typL 0 _ _ rfl]
          simp only [ev_seq, ev_seqN, ev_seqR, ev_seqB, ev_seqC, ev_seqE, ev_nil, ev_brk, ev_cnt, ev_retN, ev_expr, ev_expr1, ev_ret, ev_ret1, ev_if, ev_ifT, ev_ifF, ev_asg, ev_asg1, ev_asg2, ev_par, ev_par1, ev_def, ev_defR, ev_defN, ev_var0, ev_varS, ev_k, ev_anil, ev_acons, ev_acons1, ev_acons2, ev_tup, ev_tup_0, ev_tup_1, ev_tup_2, ev_tup_3, ev_lst, ev_lst_0, ev_lst_1, ev_lst_2, ev_lst_3, ev_mkT, ev_mkF, ev_bin, ev_bin1, ev_bin2, ev_un, ev_un1, ev_add, ev_addT, ev_addL, ev_sub, ev_neg, ev_lt, ev_le, ev_gt, ev_ge, ev_eqI, ev_neI, ev_eqB, ev_neB, ev_eqS, ev_neS, ev_and, ev_andT, ev_andF, ev_or, ev_orT, ev_orF, ev_not, ev_not1, ev_tnot, ev_tnot1, ev_tand, ev_tandT, ev_tandF, ev_tor, ev_torT, ev_torF, ev_tb, ev_tb1, ev_yes, ev_ife, ev_ifeT, ev_ifeF, ev_ch, ev_ch1, ev_ch2, ev_ch3T, ev_ch3F, ev_ch4, ev_is, ev_isB, ev_notN, ev_call, ev_call1, ev_own, ev_own_1, ev_own_2, ev_own_3, ev_own_4, ev_own_5, ev_ownK, ev_ownK_1, ev_ownK_01, ev_ownK_10, ev_lenT, ev_lenL, ev_lenO, ev_int, ev_intB, ev_abs, ev_min, ev_max, ev_tupT, ev_tupL, ev_listT, ev_listL, ev_meth, ev_meth2, ev_gN, ev_set, ev_set1, ev_gT, ev_gT2, ev_gT3, ev_gnil, ev_gcons, ev_gcons1, ev_iseq, ev_iseqT, ev_iseqL, ev_iseqO, ev_r1, ev_r2, ev_lrg1, ev_sl, ev_sl1, ev_sl3, ev_sl4, ev_on, ev_os, ev_os1, ev_slT, ev_slL, ev_slO, ev_r3, ix_t0, ix_t1, ix_t2, en_pair, en_int, wipeM, List.map_cons, List.map_nil, List.length_cons, List.length_nil, List.replicate_succ, List.replicate_zero, List.cons_append, List.nil_append, List.append_nil, List.set_cons_zero, List.set_cons_succ, Nat.reduceAdd, Nat.reduceSub, Nat.zero_add, if_true, if_false, reduceIte, Int.reduceEq, Int.reduceLT, Int.reduceLE, Bool.false_eq_true, decide_true, decide_false, Bool.not_true, Bool.not_false, List.getElem?_cons_zero, List.getElem?_cons_succ]
          rw [ev_app rfl (by rw [List.length_map]; exact hl)]
          simp only [ev_seq, ev_seqN, ev_seqR, ev_seqB, ev_seqC, ev_seqE, ev_nil, ev_brk, ev_cnt, ev_retN, ev_expr, ev_expr1, ev_ret, ev_ret1, ev_if, ev_ifT, ev_ifF, ev_asg, ev_asg1, ev_asg2, ev_par, ev_par1, ev_def, ev_defR, ev_defN, ev_var0, ev_varS, ev_k, ev_anil, ev_acons, ev_acons1, ev_acons2, ev_tup, ev_tup_0, ev_tup_1, ev_tup_2, ev_tup_3, ev_lst, ev_lst_0, ev_lst_1, ev_lst_2, ev_lst_3, ev_mkT, ev_mkF, ev_bin, ev_bin1, ev_bin2, ev_un, ev_un1, ev_add, ev_addT, ev_addL, ev_sub, ev_neg, ev_lt, ev_le, ev_gt, ev_ge, ev_eqI, ev_neI, ev_eqB, ev_neB, ev_eqS, ev_neS, ev_and, ev_andT, ev_andF, ev_or, ev_orT, ev_orF, ev_not, ev_not1, ev_tnot, ev_tnot1, ev_tand, ev_tandT, ev_tandF, ev_tor, ev_torT, ev_torF, ev_tb, ev_tb1, ev_yes, ev_ife, ev_ifeT, ev_ifeF, ev_ch, ev_ch1, ev_ch2, ev_ch3T, ev_ch3F, ev_ch4, ev_is, ev_isB, ev_notN, ev_call, ev_call1, ev_own, ev_own_1, ev_own_2, ev_own_3, ev_own_4, ev_own_5, ev_ownK, ev_ownK_1, ev_ownK_01, ev_ownK_10, ev_lenT, ev_lenL, ev_lenO, ev_int, ev_intB, ev_abs, ev_min, ev_max, ev_tupT, ev_tupL, ev_listT, ev_listL, ev_meth, ev_meth2, ev_gN, ev_set, ev_set1, ev_gT, ev_gT2, ev_gT3, ev_gnil, ev_gcons, ev_gcons1, ev_iseq, ev_iseqT, ev_iseqL, ev_iseqO, ev_r1, ev_r2, ev_lrg1, ev_sl, ev_sl1, ev_sl3, ev_sl4, ev_on, ev_os, ev_os1, ev_slT, ev_slL, ev_slO, ev_r3, ix_t0, ix_t1, ix_t2, en_pair, en_int, wipeM, List.map_cons, List.map_nil, List.length_cons, List.length_nil, List.replicate_succ, List.replicate_zero, List.cons_append, List.nil_append, List.append_nil, List.set_cons_zero, List.set_cons_succ, Nat.reduceAdd, Nat.reduceSub, Nat.zero_add, if_true, if_false, reduceIte, Int.reduceEq, Int.reduceLT, Int.reduceLE, Bool.false_eq_true, decide_true, decide_false, Bool.not_true, Bool.not_false, List.getElem?_cons_zero, List.getElem?_cons_succ] <;> rfl)⟩, _, _, rfl, ?_⟩
        simp [turnL, turnF, q1, q2, en_pair, en_int]
  obtain ⟨ms', h', e1, x, y, rfl, rfl⟩ := loop
  simp only [ev_seq, ev_seqN, ev_seqR, ev_seqB, ev_seqC, ev_seqE, ev_nil, ev_brk, ev_cnt, ev_retN, ev_expr, ev_expr1, ev_ret, ev_ret1, ev_if, ev_ifT, ev_ifF, ev_asg, ev_asg1, ev_asg2, ev_par, ev_par1, ev_def, ev_defR, ev_defN, ev_var0, ev_varS, ev_k, ev_anil, ev_acons, ev_acons1, ev_acons2, ev_tup, ev_tup_0, ev_tup_1, ev_tup_2, ev_tup_3, ev_lst, ev_lst_0, ev_lst_1, ev_lst_2, ev_lst_3, ev_mkT, ev_mkF, ev_bin, ev_bin1, ev_bin2, ev_un, ev_un1, ev_add, ev_addT, ev_addL, ev_sub, ev_neg, ev_lt, ev_le, ev_gt, ev_ge, ev_eqI, ev_neI, ev_eqB, ev_neB, ev_eqS, ev_neS, ev_and, ev_andT, ev_andF, ev_or, ev_orT, ev_orF, ev_not, ev_not1, ev_tnot, ev_tnot1, ev_tand, ev_tandT, ev_tandF, ev_tor, ev_torT, ev_torF, ev_tb, ev_tb1, ev_yes, ev_ife, ev_ifeT, ev_ifeF, ev_ch, ev_ch1, ev_ch2, ev_ch3T, ev_ch3F, ev_ch4, ev_is, ev_isB, ev_notN, ev_call, ev_call1, ev_own, ev_own_1, ev_own_2, ev_own_3, ev_own_4, ev_own_5, ev_ownK, ev_ownK_1, ev_ownK_01, ev_ownK_10, ev_lenT, ev_lenL, ev_lenO, ev_int, ev_intB, ev_abs, ev_min, ev_max, ev_tupT, ev_tupL, ev_listT, ev_listL, ev_meth, ev_meth2, ev_gN, ev_set, ev_set1, ev_gT, ev_gT2, ev_gT3, ev_gnil, ev_gcons, ev_gcons1, ev_iseq, ev_iseqT, ev_iseqL, ev_iseqO, ev_r1, ev_r2, ev_lrg1, ev_sl, ev_sl1, ev_sl3, ev_sl4, ev_on, ev_os, ev_os1, ev_slT, ev_slL, ev_slO, ev_r3, ix_t0, ix_t1, ix_t2, en_pair, en_int, wipeM, List.map_cons, List.map_nil, List.length_cons, List.length_nil, List.replicate_succ, List.replicate_zero, List.cons_append, List.nil_append, List.append_nil, List.set_cons_zero, List.set_cons_succ, Nat.reduceAdd, Nat.reduceSub, Nat.zero_add, if_true, if_false, reduceIte, Int.reduceEq, Int.reduceLT, Int.reduceLE, Bool.false_eq_true, decide_true, decide_false, Bool.not_true, Bool.not_false, List.getElem?_cons_zero, List.getElem?_cons_succ, c1, e1]
  rw [sort_ties (l := turnRaw n E p) rfl]
  exact ⟨_, by simp only [ev_seq, ev_seqN, ev_seqR, ev_seqB, ev_seqC, ev_seqE, ev_nil, ev_brk, ev_cnt, ev_retN, ev_expr, ev_expr1, ev_ret, ev_ret1, ev_if, ev_ifT, ev_ifF, ev_asg, ev_asg1, ev_asg2, ev_par, ev_par1, ev_def, ev_defR, ev_defN, ev_var0, ev_varS, ev_k, ev_anil, ev_acons, ev_acons1, ev_acons2, ev_tup, ev_tup_0, ev_tup_1, ev_tup_2, ev_tup_3, ev_lst, ev_lst_0, ev_lst_1, ev_lst_2, ev_lst_3, ev_mkT, ev_mkF, ev_bin, ev_bin1, ev_bin2, ev_un, ev_un1, ev_add, ev_addT, ev_addL, ev_sub, ev_neg, ev_lt, ev_le, ev_gt, ev_ge, ev_eqI, ev_neI, ev_eqB, ev_neB, ev_eqS, ev_neS, ev_and, ev_andT, ev_andF, ev_or, ev_orT, ev_orF, ev_not, ev_not1, ev_tnot, ev_tnot1, ev_tand, ev_tandT, ev_tandF, ev_tor, ev_torT, ev_torF, ev_tb, ev_tb1, ev_yes, ev_ife, ev_ifeT, ev_ifeF, ev_ch, ev_ch1, ev_ch2, ev_ch3T, ev_ch3F, ev_ch4, ev_is, ev_isB, ev_notN, ev_call, ev_call1, ev_own, ev_own_1, ev_own_2, ev_own_3, ev_own_4, ev_own_5, ev_ownK, ev_ownK_1, ev_ownK_01, ev_ownK_10, ev_lenT, ev_lenL, ev_lenO, ev_int, ev_intB, ev_abs, ev_min, ev_max, ev_tupT, ev_tupL, ev_listT, ev_listL, ev_meth, ev_meth2, ev_gN, ev_set, ev_set1, ev_gT, ev_gT2, ev_gT3, ev_gnil, ev_gcons, ev_gcons1, ev_iseq, ev_iseqT, ev_iseqL, ev_iseqO, ev_r1, ev_r2, ev_lrg1, ev_sl, ev_sl1, ev_sl3, ev_sl4, ev_on, ev_os, ev_os1, ev_slT, ev_slL, ev_slO, ev_r3, ix_t0, ix_t1, ix_t2, en_pair, en_int, wipeM, List.map_cons, List.map_nil, List.length_cons, List.length_nil, List.replicate_succ, List.replicate_zero, List.cons_append, List.nil_append, List.append_nil, List.set_cons_zero, List.set_cons_succ, Nat.reduceAdd, Nat.reduceSub, Nat.zero_add, if_true, if_false, reduceIte, Int.reduceEq, Int.reduceLT, Int.reduceLE, Bool.false_eq_true, decide_true, decide_false, Bool.not_true, Bool.not_false, List.getElem?_cons_zero, List.getElem?_cons_succ, En.en] <;> rfl⟩
/-- a web by what is tied -/
def web (n : Int) (A : Int → Int → Bool) : M := en (n, canon n A)
theorem web_eq (n : Int) (A : Int → Int → Bool) : web n A = .tup [.int n, en (canon n A)] := rfl
theorem web_clo (n : Int) (A : Int → Int → Bool) : clo (web n A) = true := En.clo (n, canon n A)
theorem canon_100 {n : Int} (A : Int → Int → Bool) (hn : n ≤ 100) : (canon n A).length ≤ 10000 := Nat.le_trans (canon_len n A) (pairsL_len hn)
theorem turned_spec {n p : Int} {A : Int → Int → Bool} {h : MH} (hn : n ≤ 100) (h0 : 0 ≤ p) (h1 : p < n) : f_turned_at [web n A, .int p] h = .ok (web n (flipA A p)) h := by
  obtain ⟨h', e⟩ := turned_body n p (canon n A) (Nat.le_trans (canon_100 A hn) (by decide)) (by omega) (by omega)
  rw [turn_canon h0 h1] at e
  exact cloF_val (by simp only [cloL, web_clo, clo, Bool.and_self]) e (web_clo _ _)
theorem at_spec {n p : Int} {A : Int → Int → Bool} {h : MH} (hn : n ≤ 100) (h0 : 0 ≤ p) (h1 : p < n) : f__law_at [web n A, .int p] h = .ok (web n (flipA A p)) h := by
  obtain ⟨h', e⟩ := at_body n p (canon n A) (Nat.le_trans (canon_100 A hn) (by decide)) (by omega) (by omega)
  rw [turn_canon h0 h1] at e
  exact cloF_val (by simp only [cloL, web_clo, clo, Bool.and_self]) e (web_clo _ _)
/-- turned at many points -/
def flipL (A : Int → Int → Bool) (ps : List Int) : Int → Int → Bool := ps.foldl flipA A
theorem flipL_snoc (A : Int → Int → Bool) (ps : List Int) (p : Int) : flipL A (ps ++ [p]) = flipA (flipL A ps) p := by simp [flipL]
end Tb.K19

set_option Elab.async false
set_option linter.all false
set_option maxRecDepth 100000
namespace Tb.K19
open PySem L2
open En (en da)

/-! ### pairs of points -/
def pairsOf (ps : List Int) : List Tie := ps.zipIdx.flatMap fun q => (ps.drop (q.2 + 1)).map fun b => (q.1, b)
theorem pairsOf_len {ps : List Int} (hl : ps.length ≤ 100) : (pairsOf ps).length ≤ 10000 := by
  refine Nat.le_trans (len_flatMap_le (k := 100) fun q _ => ?_) ?_
  · rw [List.length_map, List.length_drop]; omega
  · rw [List.length_zipIdx]; omega
theorem flatMap_cong {α β : Type} {f g : α → List β} : ∀ {l : List α}, (∀ a ∈ l, f a = g a) → l.flatMap f = l.flatMap g
  | [], _ => rfl
  | a :: l, h => by rw [List.flatMap_cons, List.flatMap_cons, h a List.mem_cons_self, flatMap_cong fun b hb => h b (List.mem_cons_of_mem _ hb)]
theorem pairsOf_irg (lo hi : Int) : pairsOf (irg lo hi) = (irg lo hi).flatMap fun a => (irg (a + 1) hi).map fun b => (a, b) := by
  unfold pairsOf
  have e : ∀ q ∈ (irg lo hi).zipIdx, ((irg lo hi).drop (q.2 + 1)).map (fun b => (q.1, b)) = (irg (q.1 + 1) hi).map fun b => (q.1, b) := by
    intro q hq
    obtain ⟨x, i⟩ := q
    have h := List.mk_mem_zipIdx_iff_getElem?.mp hq
    obtain ⟨h1, h2⟩ := List.getElem?_eq_some_iff.mp h
    have : x = lo + i := by rw [← h2]; simp [irg]
    rw [irg_drop]
    subst this
    congr 1
    push_cast
    congr 1
    omega
  rw [flatMap_cong e]
  have : (irg lo hi) = (irg lo hi).zipIdx.map (·.1) := by simp
  conv => rhs; rw [this]
  rw [List.flatMap_map]
theorem pairsOf_pairsL (n : Int) : pairsOf (irg 0 n) = pairsL n := pairsOf_irg 0 n
theorem pairs_spec {ps : List Int} {h : MH} (hl : ps.length ≤ 100) : f__law_pairs [.tmp (ps.map M.int)] h = .ok (.tmp ((pairsOf ps).map en)) h := by
  have body : ∃ h', F__law_pairs [.tmp (ps.map M.int)] [] = .ok (.loc 0) h' ∧ h'[0]? = some (.lst ((pairsOf ps).map en)) := by
    unfold F__law_pairs
    simp only [ev_seq, ev_seqN, ev_seqR, ev_seqB, ev_seqC, ev_seqE, ev_nil, ev_brk, ev_cnt, ev_retN, ev_expr, ev_expr1, ev_ret, ev_ret1, ev_if, ev_ifT, ev_ifF, ev_asg, ev_asg1, ev_asg2, ev_par, ev_par1, ev_def, ev_defR, ev_defN, ev_var0, ev_varS, ev_k, ev_anil, ev_acons, ev_acons1, ev_acons2, ev_tup, ev_tup_0, ev_tup_1, ev_tup_2, ev_tup_3, ev_lst, ev_lst_0, ev_lst_1, ev_lst_2, ev_lst_3, ev_mkT, ev_mkF, ev_bin, ev_bin1, ev_bin2, ev_un, ev_un1, ev_add, ev_addT, ev_addL, ev_sub, ev_neg, ev_lt, ev_le, ev_gt, ev_ge, ev_eqI, ev_neI, ev_eqB, ev_neB, ev_eqS, ev_neS, ev_and, ev_andT, ev_andF, ev_or, ev_orT, ev_orF, ev_not, ev_not1, ev_tnot, ev_tnot1, ev_tand, ev_tandT, ev_tandF, ev_tor, ev_torT, ev_torF, ev_tb, ev_tb1, ev_yes, ev_ife, ev_ifeT, ev_ifeF, ev_ch, ev_ch1, ev_ch2, ev_ch3T, ev_ch3F, ev_ch4, ev_is, ev_isB, ev_notN, ev_call, ev_call1, ev_own, ev_own_1, ev_own_2, ev_own_3, ev_own_4, ev_own_5, ev_ownK, ev_ownK_1, ev_ownK_01, ev_ownK_10, ev_lenT, ev_lenL, ev_lenO, ev_int, ev_intB, ev_abs, ev_min, ev_max, ev_tupT, ev_tupL, ev_listT, ev_listL, ev_meth, ev_meth2, ev_gN, ev_set, ev_set1, ev_gT, ev_gT2, ev_gT3, ev_gnil, ev_gcons, ev_gcons1, ev_iseq, ev_iseqT, ev_iseqL, ev_iseqO, ev_r1, ev_r2, ev_lrg1, ev_sl, ev_sl1, ev_sl3, ev_sl4, ev_on, ev_os, ev_os1, ev_slT, ev_slL, ev_slO, ev_r3, ix_t0, ix_t1, ix_t2, en_pair, en_int, wipeM, List.map_cons, List.map_nil, List.length_cons, List.length_nil, List.replicate_succ, List.replicate_zero, List.cons_append, List.nil_append, List.append_nil, List.set_cons_zero, List.set_cons_succ, Nat.reduceAdd, Nat.reduceSub, Nat.zero_add, if_true, if_false, reduceIte, Int.reduceEq, Int.reduceLT, Int.reduceLE, Bool.false_eq_true, decide_true, decide_false, Bool.not_true, Bool.not_false, List.getElem?_cons_zero, List.getElem?_cons_succ]
    rw [xFor_eq (xs := ps.zipIdx.map fun q => .tup [.int q.2, .int q.1]) (by
      show (R.ok (IV.vals (enumV (ps.map M.int))) _ : R IV) = _
      unfold enumV
      rw [List.zipIdx_map, List.map_map]
      rfl)]
    obtain ⟨ms', e, x, y, z, rfl⟩ := for_acc (g := gT 2 (gsCons (gN 2) (gsCons (gN 3) gsNil))) (body := B2__law_pairs) (fun q : Int × Nat => .tup [.int q.2, .int q.1]) (fun q => (ps.drop (q.2 + 1)).map fun b => (q.1, b))
      (fun ms => ∃ x y z, ms = [some (.tmp (ps.map M.int)), some (.loc 0), x, y, z]) (fun xs : List Tie => [.lst (xs.map en)]) 10000 ps.zipIdx (by
        rintro ⟨a, k⟩ hq ms xs ⟨x, y, z, rfl⟩ hlen
        refine ⟨_, turn_nx (by simp only [ev_seq, ev_seqN, ev_seqR, ev_seqB, ev_seqC, ev_seqE, ev_nil, ev_brk, ev_cnt, ev_retN, ev_expr, ev_expr1, ev_ret, ev_ret1, ev_if, ev_ifT, ev_ifF, ev_asg, ev_asg1, ev_asg2, ev_par, ev_par1, ev_def, ev_defR, ev_defN, ev_var0, ev_varS, ev_k, ev_anil, ev_acons, ev_acons1, ev_acons2, ev_tup, ev_tup_0, ev_tup_1, ev_tup_2, ev_tup_3, ev_lst, ev_lst_0, ev_lst_1, ev_lst_2, ev_lst_3, ev_mkT, ev_mkF, ev_bin, ev_bin1, ev_bin2, ev_un, ev_un1, ev_add, ev_addT, ev_addL, ev_sub, ev_neg, ev_lt, ev_le, ev_gt, ev_ge, ev_eqI, ev_neI, ev_eqB, ev_neB, ev_eqS, ev_neS, ev_and, ev_andT, ev_andF, ev_or, ev_orT, ev_orF, ev_not, ev_not1, ev_tnot, ev_tnot1, ev_tand, ev_tandT, ev_tandF, ev_tor, ev_torT, ev_torF, ev_tb, ev_tb1, ev_yes, ev_ife, ev_ifeT, ev_ifeF, ev_ch, ev_ch1, ev_ch2, ev_ch3T, ev_ch3F, ev_ch4, ev_is, ev_isB, ev_notN, ev_call, ev_call1, ev_own, ev_own_1, ev_own_2, ev_own_3, ev_own_4, ev_own_5, ev_ownK, ev_ownK_1, ev_ownK_01, ev_ownK_10, ev_lenT, ev_lenL, ev_lenO, ev_int, ev_intB, ev_abs, ev_min, ev_max, ev_tupT, ev_tupL, ev_listT, ev_listL, ev_meth, ev_meth2, ev_gN, ev_set, ev_set1, ev_gT, ev_gT2, ev_gT3, ev_gnil, ev_gcons, ev_gcons1, ev_iseq, ev_iseqT, ev_iseqL, ev_iseqO, ev_r1, ev_r2, ev_lrg1, ev_sl, ev_sl1, ev_sl3, ev_sl4, ev_on, ev_os, ev_os1, ev_slT, ev_slL, ev_slO, ev_r3, ix_t0, ix_t1, ix_t2, en_pair, en_int, wipeM, List.map_cons, List.map_nil, List.length_cons, List.length_nil, List.replicate_succ, List.replicate_zero, List.cons_append, List.nil_append, List.append_nil, List.set_cons_zero, List.set_cons_succ, Nat.reduceAdd, Nat.reduceSub, Nat.zero_add, if_true, if_false, reduceIte, Int.reduceEq, Int.reduceLT, Int.reduceLE, Bool.false_eq_true, decide_true, decide_false, Bool.not_true, Bool.not_false, List.getElem?_cons_zero, List.getElem?_cons_succ] <;> rfl) ?_, some (.int k), some (.int a), z, rfl⟩
        unfold B2__law_pairs
        have c1 : mLc false (iSeq (mSlice false (mVar 0) (oSome (mBin (addM false) (mVar 2) (mK (.int 1)))) oNone)) (gN 4) ttYes E1__law_pairs [4] [some (.tmp (ps.map M.int)), some (.loc 0), some (.int k), some (.int a), z] [.lst (xs.map en)] = .ok (.tmp (((ps.drop (k + 1)).map fun b => (a, b)).map en)) [.lst (xs.map en)] := by
          refine (mLc_all (as := ps.drop (k + 1)) M.int (fun b => en (a, b)) ?_ ?_ ?_).trans ?_
          · simp only [ev_seq, ev_seqN, ev_seqR, ev_seqB, ev_seqC, ev_seqE, ev_nil, ev_brk, ev_cnt, ev_retN, ev_expr, ev_expr1, ev_ret, ev_ret1, ev_if, ev_ifT, ev_ifF, ev_asg, ev_asg1, ev_asg2, ev_par, ev_par1, ev_def, ev_defR, ev_defN, ev_var0, ev_varS, ev_k, ev_anil, ev_acons, ev_acons1, ev_acons2, ev_tup, ev_tup_0, ev_tup_1, ev_tup_2, ev_tup_3, ev_lst, ev_lst_0, ev_lst_1, ev_lst_2, ev_lst_3, ev_mkT, ev_mkF, ev_bin, ev_bin1, ev_bin2, ev_un, ev_un1, ev_add, ev_addT, ev_addL, ev_sub, ev_neg, ev_lt, ev_le, ev_gt, ev_ge, ev_eqI, ev_neI, ev_eqB, ev_neB, ev_eqS, ev_neS, ev_and, ev_andT, ev_andF, ev_or, ev_orT, ev_orF, ev_not, ev_not1, ev_tnot, ev_tnot1, ev_tand, ev_tandT, ev_tandF, ev_tor, ev_torT, ev_torF, ev_tb, ev_tb1, ev_yes, ev_ife, ev_ifeT, ev_ifeF, ev_ch, ev_ch1, ev_ch2, ev_ch3T, ev_ch3F, ev_ch4, ev_is, ev_isB, ev_notN, ev_call, ev_call1, ev_own, ev_own_1, ev_own_2, ev_own_3, ev_own_4, ev_own_5, ev_ownK, ev_ownK_1, ev_ownK_01, ev_ownK_10, ev_lenT, ev_lenL, ev_lenO, ev_int, ev_intB, ev_abs, ev_min, ev_max, ev_tupT, ev_tupL, ev_listT, ev_listL, ev_meth, ev_meth2, ev_gN, ev_set, ev_set1, ev_gT, ev_gT2, ev_gT3, ev_gnil, ev_gcons, ev_gcons1, ev_iseq, ev_iseqT, ev_iseqL, ev_iseqO, ev_r1, ev_r2, ev_lrg1, ev_sl, ev_sl1, ev_sl3, ev_sl4, ev_on, ev_os, ev_os1, ev_slT, ev_slL, ev_slO, ev_r3, ix_t0, ix_t1, ix_t2, en_pair, en_int, wipeM, List.map_cons, List.map_nil, List.length_cons, List.length_nil, List.replicate_succ, List.replicate_zero, List.cons_append, List.nil_append, List.append_nil, List.set_cons_zero, List.set_cons_succ, Nat.reduceAdd, Nat.reduceSub, Nat.zero_add, if_true, if_false, reduceIte, Int.reduceEq, Int.reduceLT, Int.reduceLE, Bool.false_eq_true, decide_true, decide_false, Bool.not_true, Bool.not_false, List.getElem?_cons_zero, List.getElem?_cons_succ]
            rw [show ((k : Int) + 1) = ((k + 1 : Nat) : Int) by omega, cut_lo, ← List.map_drop]
          · intro b hb
            refine ⟨_, by simp only [ev_seq, ev_seqN, ev_seqR, ev_seqB, ev_seqC, ev_seqE, ev_nil, ev_brk, ev_cnt, ev_retN, ev_expr, ev_expr1, ev_ret, ev_ret1, ev_if, ev_ifT, ev_ifF, ev_asg, ev_asg1, ev_asg2, ev_par, ev_par1, ev_def, ev_defR, ev_defN, ev_var0, ev_varS, ev_k, ev_anil, ev_acons, ev_acons1, ev_acons2, ev_tup, ev_tup_0, ev_tup_1, ev_tup_2, ev_tup_3, ev_lst, ev_lst_0, ev_lst_1, ev_lst_2, ev_lst_3, ev_mkT, ev_mkF, ev_bin, ev_bin1, ev_bin2, ev_un, ev_un1, ev_add, ev_addT, ev_addL, ev_sub, ev_neg, ev_lt, ev_le, ev_gt, ev_ge, ev_eqI, ev_neI, ev_eqB, ev_neB, ev_eqS, ev_neS, ev_and, ev_andT, ev_andF, ev_or, ev_orT, ev_orF, ev_not, ev_not1, ev_tnot, ev_tnot1, ev_tand, ev_tandT, ev_tandF, ev_tor, ev_torT, ev_torF, ev_tb, ev_tb1, ev_yes, ev_ife, ev_ifeT, ev_ifeF, ev_ch, ev_ch1, ev_ch2, ev_ch3T, ev_ch3F, ev_ch4, ev_is, ev_isB, ev_notN, ev_call, ev_call1, ev_own, ev_own_1, ev_own_2, ev_own_3, ev_own_4, ev_own_5, ev_ownK, ev_ownK_1, ev_ownK_01, ev_ownK_10, ev_lenT, ev_lenL, ev_lenO, ev_int, ev_intB, ev_abs, ev_min, ev_max, ev_tupT, ev_tupL, ev_listT, ev_listL, ev_meth, ev_meth2, ev_gN, ev_set, ev_set1, ev_gT, ev_gT2, ev_gT3, ev_gnil, ev_gcons, ev_gcons1, ev_iseq, ev_iseqT, ev_iseqL, ev_iseqO, ev_r1, ev_r2, ev_lrg1, ev_sl, ev_sl1, ev_sl3, ev_sl4, ev_on, ev_os, ev_os1, ev_slT, ev_slL, ev_slO, ev_r3, ix_t0, ix_t1, ix_t2, en_pair, en_int, wipeM, List.map_cons, List.map_nil, List.length_cons, List.length_nil, List.replicate_succ, List.replicate_zero, List.cons_append, List.nil_append, List.append_nil, List.set_cons_zero, List.set_cons_succ, Nat.reduceAdd, Nat.reduceSub, Nat.zero_add, if_true, if_false, reduceIte, Int.reduceEq, Int.reduceLT, Int.reduceLE, Bool.false_eq_true, decide_true, decide_false, Bool.not_true, Bool.not_false, List.getElem?_cons_zero, List.getElem?_cons_succ] <;> rfl, ?_⟩
            unfold E1__law_pairs
            simp only [ev_seq, ev_seqN, ev_seqR, ev_seqB, ev_seqC, ev_seqE, ev_nil, ev_brk, ev_cnt, ev_retN, ev_expr, ev_expr1, ev_ret, ev_ret1, ev_if, ev_ifT, ev_ifF, ev_asg, ev_asg1, ev_asg2, ev_par, ev_par1, ev_def, ev_defR, ev_defN, ev_var0, ev_varS, ev_k, ev_anil, ev_acons, ev_acons1, ev_acons2, ev_tup, ev_tup_0, ev_tup_1, ev_tup_2, ev_tup_3, ev_lst, ev_lst_0, ev_lst_1, ev_lst_2, ev_lst_3, ev_mkT, ev_mkF, ev_bin, ev_bin1, ev_bin2, ev_un, ev_un1, ev_add, ev_addT, ev_addL, ev_sub, ev_neg, ev_lt, ev_le, ev_gt, ev_ge, ev_eqI, ev_neI, ev_eqB, ev_neB, ev_eqS, ev_neS, ev_and, ev_andT, ev_andF, ev_or, ev_orT, ev_orF, ev_not, ev_not1, ev_tnot, ev_tnot1, ev_tand, ev_tandT, ev_tandF, ev_tor, ev_torT, ev_torF, ev_tb, ev_tb1, ev_yes, ev_ife, ev_ifeT, ev_ifeF, ev_ch, ev_ch1, ev_ch2, ev_ch3T, ev_ch3F, ev_ch4, ev_is, ev_isB, ev_notN, ev_call, ev_call1, ev_own, ev_own_1, ev_own_2, ev_own_3, ev_own_4, ev_own_5, ev_ownK, ev_ownK_1, ev_ownK_01, ev_ownK_10, ev_lenT, ev_lenL, ev_lenO, ev_int, ev_intB, ev_abs, ev_min, ev_max, ev_tupT, ev_tupL, ev_listT, ev_listL, ev_meth, ev_meth2, ev_gN, ev_set, ev_set1, ev_gT, ev_gT2, ev_gT3, ev_gnil, ev_gcons, ev_gcons1, ev_iseq, ev_iseqT, ev_iseqL, ev_iseqO, ev_r1, ev_r2, ev_lrg1, ev_sl, ev_sl1, ev_sl3, ev_sl4, ev_on, ev_os, ev_os1, ev_slT, ev_slL, ev_slO, ev_r3, ix_t0, ix_t1, ix_t2, en_pair, en_int, wipeM, List.map_cons, List.map_nil, List.length_cons, List.length_nil, List.replicate_succ, List.replicate_zero, List.cons_append, List.nil_append, List.append_nil, List.set_cons_zero, List.set_cons_succ, Nat.reduceAdd, Nat.reduceSub, Nat.zero_add, if_true, if_false, reduceIte, Int.reduceEq, Int.reduceLT, Int.reduceLE, Bool.false_eq_true, decide_true, decide_false, Bool.not_true, Bool.not_false, List.getElem?_cons_zero, List.getElem?_cons_succ]
          · rw [List.length_drop]
            exact Nat.le_trans (by omega : _ ≤ 100) (by decide)
          · rw [ev_mkF, List.map_map]
            rfl
        simp only [ev_seq, ev_seqN, ev_seqR, ev_seqB, ev_seqC, ev_seqE, ev_nil, ev_brk, ev_cnt, ev_retN, ev_expr, ev_expr1, ev_ret, ev_ret1, ev_if, ev_ifT, ev_ifF, ev_asg, ev_asg1, ev_asg2, ev_par, ev_par1, ev_def, ev_defR, ev_defN, ev_var0, ev_varS, ev_k, ev_anil, ev_acons, ev_acons1, ev_acons2, ev_tup, ev_tup_0, ev_tup_1, ev_tup_2, ev_tup_3, ev_lst, ev_lst_0, ev_lst_1, ev_lst_2, ev_lst_3, ev_mkT, ev_mkF, ev_bin, ev_bin1, ev_bin2, ev_un, ev_un1, ev_add, ev_addT, ev_addL, ev_sub, ev_neg, ev_lt, ev_le, ev_gt, ev_ge, ev_eqI, ev_neI, ev_eqB, ev_neB, ev_eqS, ev_neS, ev_and, ev_andT, ev_andF, ev_or, ev_orT, ev_orF, ev_not, ev_not1, ev_tnot, ev_tnot1, ev_tand, ev_tandT, ev_tandF, ev_tor, ev_torT, ev_torF, ev_tb, ev_tb1, ev_yes, ev_ife, ev_ifeT, ev_ifeF, ev_ch, ev_ch1, ev_ch2, ev_ch3T, ev_ch3F, ev_ch4, ev_is, ev_isB, ev_notN, ev_call, ev_call1, ev_own, ev_own_1, ev_own_2, ev_own_3, ev_own_4, ev_own_5, ev_ownK, ev_ownK_1, ev_ownK_01, ev_ownK_10, ev_lenT, ev_lenL, ev_lenO, ev_int, ev_intB, ev_abs, ev_min, ev_max, ev_tupT, ev_tupL, ev_listT, ev_listL, ev_meth, ev_meth2, ev_gN, ev_set, ev_set1, ev_gT, ev_gT2, ev_gT3, ev_gnil, ev_gcons, ev_gcons1, ev_iseq, ev_iseqT, ev_iseqL, ev_iseqO, ev_r1, ev_r2, ev_lrg1, ev_sl, ev_sl1, ev_sl3, ev_sl4, ev_on, ev_os, ev_os1, ev_slT, ev_slL, ev_slO, ev_r3, ix_t0, ix_t1, ix_t2, en_pair, en_int, wipeM, List.map_cons, List.map_nil, List.length_cons, List.length_nil, List.replicate_succ, List.replicate_zero, List.cons_append, List.nil_append, List.append_nil, List.set_cons_zero, List.set_cons_succ, Nat.reduceAdd, Nat.reduceSub, Nat.zero_add, if_true, if_false, reduceIte, Int.reduceEq, Int.reduceLT, Int.reduceLE, Bool.false_eq_true, decide_true, decide_false, Bool.not_true, Bool.not_false, List.getElem?_cons_zero, List.getElem?_cons_succ, c1, ev_meth1]
        rw [ev_typL 0 _ _ rfl]
        simp only [ev_seq, ev_seqN, ev_seqR, ev_seqB, ev_seqC, ev_seqE, ev_nil, ev_brk, ev_cnt, ev_retN, ev_expr, ev_expr1, ev_ret, ev_ret1, ev_if, ev_ifT, ev_ifF, ev_asg, ev_asg1, ev_asg2, ev_par, ev_par1, ev_def, ev_defR, ev_defN, ev_var0, ev_varS, ev_k, ev_anil, ev_acons, ev_acons1, ev_acons2, ev_tup, ev_tup_0, ev_tup_1, ev_tup_2, ev_tup_3, ev_lst, ev_lst_0, ev_lst_1, ev_lst_2, ev_lst_3, ev_mkT, ev_mkF, ev_bin, ev_bin1, ev_bin2, ev_un, ev_un1, ev_add, ev_addT, ev_addL, ev_sub, ev_neg, ev_lt, ev_le, ev_gt, ev_ge, ev_eqI, ev_neI, ev_eqB, ev_neB, ev_eqS, ev_neS, ev_and, ev_andT, ev_andF, ev_or, ev_orT, ev_orF, ev_not, ev_not1, ev_tnot, ev_tnot1, ev_tand, ev_tandT, ev_tandF, ev_tor, ev_torT, ev_torF, ev_tb, ev_tb1, ev_yes, ev_ife, ev_ifeT, ev_ifeF, ev_ch, ev_ch1, ev_ch2, ev_ch3T, ev_ch3F, ev_ch4, ev_is, ev_isB, ev_notN, ev_call, ev_call1, ev_own, ev_own_1, ev_own_2, ev_own_3, ev_own_4, ev_own_5, ev_ownK, ev_ownK_1, ev_ownK_01, ev_ownK_10, ev_lenT, ev_lenL, ev_lenO, ev_int, ev_intB, ev_abs, ev_min, ev_max, ev_tupT, ev_tupL, ev_listT, ev_listL, ev_meth, ev_meth2, ev_gN, ev_set, ev_set1, ev_gT, ev_gT2, ev_gT3, ev_gnil, ev_gcons, ev_gcons1, ev_iseq, ev_iseqT, ev_iseqL, ev_iseqO, ev_r1, ev_r2, ev_lrg1, ev_sl, ev_sl1, ev_sl3, ev_sl4, ev_on, ev_os, ev_os1, ev_slT, ev_slL, ev_slO, ev_r3, ix_t0, ix_t1, ix_t2, en_pair, en_int, wipeM, List.map_cons, List.map_nil, List.length_cons, List.length_nil, List.replicate_succ, List.replicate_zero, List.cons_append, List.nil_append, List.append_nil, List.set_cons_zero, List.set_cons_succ, Nat.reduceAdd, Nat.reduceSub, Nat.zero_add, if_true, if_false, reduceIte, Int.reduceEq, Int.reduceLT, Int.reduceLE, Bool.false_eq_true, decide_true, decide_false, Bool.not_true, Bool.not_false, List.getElem?_cons_zero, List.getElem?_cons_succ]
        have c2 : extM (.loc 0) [.tmp (((ps.drop (k + 1)).map fun b => (a, b)).map en)] [.lst (xs.map en)] = .ok .non [.lst ((xs ++ (ps.drop (k + 1)).map fun b => (a, b)).map en)] := by
          show (if (xs.map en).length + (((ps.drop (k + 1)).map fun b => (a, b)).map en).length ≤ LIM then R.ok M.non (List.set [O.lst (xs.map en)] 0 (.lst (xs.map en ++ ((ps.drop (k + 1)).map fun b => (a, b)).map en))) else .bad) = _
          rw [if_pos (by rw [List.length_map, List.length_map]; exact Nat.le_trans hlen (by decide)), List.map_append]
          rfl
        simp only [ev_seq, ev_seqN, ev_seqR, ev_seqB, ev_seqC, ev_seqE, ev_nil, ev_brk, ev_cnt, ev_retN, ev_expr, ev_expr1, ev_ret, ev_ret1, ev_if, ev_ifT, ev_ifF, ev_asg, ev_asg1, ev_asg2, ev_par, ev_par1, ev_def, ev_defR, ev_defN, ev_var0, ev_varS, ev_k, ev_anil, ev_acons, ev_acons1, ev_acons2, ev_tup, ev_tup_0, ev_tup_1, ev_tup_2, ev_tup_3, ev_lst, ev_lst_0, ev_lst_1, ev_lst_2, ev_lst_3, ev_mkT, ev_mkF, ev_bin, ev_bin1, ev_bin2, ev_un, ev_un1, ev_add, ev_addT, ev_addL, ev_sub, ev_neg, ev_lt, ev_le, ev_gt, ev_ge, ev_eqI, ev_neI, ev_eqB, ev_neB, ev_eqS, ev_neS, ev_and, ev_andT, ev_andF, ev_or, ev_orT, ev_orF, ev_not, ev_not1, ev_tnot, ev_tnot1, ev_tand, ev_tandT, ev_tandF, ev_tor, ev_torT, ev_torF, ev_tb, ev_tb1, ev_yes, ev_ife, ev_ifeT, ev_ifeF, ev_ch, ev_ch1, ev_ch2, ev_ch3T, ev_ch3F, ev_ch4, ev_is, ev_isB, ev_notN, ev_call, ev_call1, ev_own, ev_own_1, ev_own_2, ev_own_3, ev_own_4, ev_own_5, ev_ownK, ev_ownK_1, ev_ownK_01, ev_ownK_10, ev_lenT, ev_lenL, ev_lenO, ev_int, ev_intB, ev_abs, ev_min, ev_max, ev_tupT, ev_tupL, ev_listT, ev_listL, ev_meth, ev_meth2, ev_gN, ev_set, ev_set1, ev_gT, ev_gT2, ev_gT3, ev_gnil, ev_gcons, ev_gcons1, ev_iseq, ev_iseqT, ev_iseqL, ev_iseqO, ev_r1, ev_r2, ev_lrg1, ev_sl, ev_sl1, ev_sl3, ev_sl4, ev_on, ev_os, ev_os1, ev_slT, ev_slL, ev_slO, ev_r3, ix_t0, ix_t1, ix_t2, en_pair, en_int, wipeM, List.map_cons, List.map_nil, List.length_cons, List.length_nil, List.replicate_succ, List.replicate_zero, List.cons_append, List.nil_append, List.append_nil, List.set_cons_zero, List.set_cons_succ, Nat.reduceAdd, Nat.reduceSub, Nat.zero_add, if_true, if_false, reduceIte, Int.reduceEq, Int.reduceLT, Int.reduceLE, Bool.false_eq_true, decide_true, decide_false, Bool.not_true, Bool.not_false, List.getElem?_cons_zero, List.getElem?_cons_succ, c2]) [some (.tmp (ps.map M.int)), some (.loc 0), none, none, none] [] ⟨none, none, none, rfl⟩ (by rw [List.length_nil, Nat.zero_add]; exact pairsOf_len hl)
    refine ⟨[.lst ((pairsOf ps).map en)], ?_, rfl⟩
    rw [show ([O.lst []] : MH) = [.lst (([] : List Tie).map en)] from rfl, e]
    simp only [ev_seq, ev_seqN, ev_seqR, ev_seqB, ev_seqC, ev_seqE, ev_nil, ev_brk, ev_cnt, ev_retN, ev_expr, ev_expr1, ev_ret, ev_ret1, ev_if, ev_ifT, ev_ifF, ev_asg, ev_asg1, ev_asg2, ev_par, ev_par1, ev_def, ev_defR, ev_defN, ev_var0, ev_varS, ev_k, ev_anil, ev_acons, ev_acons1, ev_acons2, ev_tup, ev_tup_0, ev_tup_1, ev_tup_2, ev_tup_3, ev_lst, ev_lst_0, ev_lst_1, ev_lst_2, ev_lst_3, ev_mkT, ev_mkF, ev_bin, ev_bin1, ev_bin2, ev_un, ev_un1, ev_add, ev_addT, ev_addL, ev_sub, ev_neg, ev_lt, ev_le, ev_gt, ev_ge, ev_eqI, ev_neI, ev_eqB, ev_neB, ev_eqS, ev_neS, ev_and, ev_andT, ev_andF, ev_or, ev_orT, ev_orF, ev_not, ev_not1, ev_tnot, ev_tnot1, ev_tand, ev_tandT, ev_tandF, ev_tor, ev_torT, ev_torF, ev_tb, ev_tb1, ev_yes, ev_ife, ev_ifeT, ev_ifeF, ev_ch, ev_ch1, ev_ch2, ev_ch3T, ev_ch3F, ev_ch4, ev_is, ev_isB, ev_notN, ev_call, ev_call1, ev_own, ev_own_1, ev_own_2, ev_own_3, ev_own_4, ev_own_5, ev_ownK, ev_ownK_1, ev_ownK_01, ev_ownK_10, ev_lenT, ev_lenL, ev_lenO, ev_int, ev_intB, ev_abs, ev_min, ev_max, ev_tupT, ev_tupL, ev_listT, ev_listL, ev_meth, ev_meth2, ev_gN, ev_set, ev_set1, ev_gT, ev_gT2, ev_gT3, ev_gnil, ev_gcons, ev_gcons1, ev_iseq, ev_iseqT, ev_iseqL, ev_iseqO, ev_r1, ev_r2, ev_lrg1, ev_sl, ev_sl1, ev_sl3, ev_sl4, ev_on, ev_os, ev_os1, ev_slT, ev_slL, ev_slO, ev_r3, ix_t0, ix_t1, ix_t2, en_pair, en_int, wipeM, List.map_cons, List.map_nil, List.length_cons, List.length_nil, List.replicate_succ, List.replicate_zero, List.cons_append, List.nil_append, List.append_nil, List.set_cons_zero, List.set_cons_succ, Nat.reduceAdd, Nat.reduceSub, Nat.zero_add, if_true, if_false, reduceIte, Int.reduceEq, Int.reduceLT, Int.reduceLE, Bool.false_eq_true, decide_true, decide_false, Bool.not_true, Bool.not_false, List.getElem?_cons_zero, List.getElem?_cons_succ]
    rfl
  obtain ⟨h', e1, e2⟩ := body
  exact cloF_loc (by
    have : cloL (ps.map M.int) = true := cloL_en (α := Int) ps
    simp only [cloL, clo, this, Bool.and_self]) e1 e2 (cloL_en _)
end Tb.K19

set_option Elab.async false
set_option linter.all false
set_option maxRecDepth 100000
namespace Tb.K19
open PySem L2
open En (en da)

/-! ### odd triples -/
structure Tr where
  a : Int
  b : Int
  c : Int
deriving DecidableEq
instance : En Tr where
  en t := .tup [.int t.a, .int t.b, .int t.c]
  da t := .tuple [.int t.a, .int t.b, .int t.c]
  dp := 1
  dat_en h k t hk := by
    match k, hk with
    | k + 2, _ => rfl
  eqv s t := by
    simp only [PyData.eqv, PyData.eqvAll]
    rw [Bool.eq_iff_iff]
    obtain ⟨a, b, c⟩ := s
    obtain ⟨d, e, f⟩ := t
    simp
  nostr s t := by cases t <;> rfl
  clo t := by simp [Tb.clo, cloL]
theorem en_tr (a b c : Int) : en (Tr.mk a b c) = .tup [.int a, .int b, .int c] := rfl
def odd3 (A : Int → Int → Bool) (a b c : Int) : Bool := (A a b).xor ((A a c).xor (A b c))
def triF (n : Int) (A : Int → Int → Bool) (a b : Int) : List Tr := ((irg (b + 1) n).filter fun c => odd3 A a b c).map fun c => ⟨a, b, c⟩
def tri (n : Int) (A : Int → Int → Bool) : List Tr := (pairsL n).flatMap fun t => triF n A t.1 t.2
theorem triF_len {n : Int} {A : Int → Int → Bool} {a b : Int} (hb : 0 ≤ b) (hn : n ≤ 100) : (triF n A a b).length ≤ 100 := by
  unfold triF
  rw [List.length_map]
  refine Nat.le_trans (List.length_filter_le _ _) ?_
  rw [irg_length]; omega
theorem tri_len {n : Int} {A : Int → Int → Bool} (hn : n ≤ 100) : (tri n A).length ≤ 1000000 := by
  refine Nat.le_trans (len_flatMap_le (k := 100) fun t ht => triF_len ?_ hn) ?_
  · rw [mem_pairsL] at ht; omega
  · have := pairsL_len hn; omega
theorem tri_eq (n : Int) (A : Int → Int → Bool) : tri n A = (irg 0 n).flatMap fun a => (irg (a + 1) n).flatMap fun b => triF n A a b := by
  unfold tri pairsL
  rw [List.flatMap_assoc]
  refine flatMap_cong fun a _ => ?_
  rw [List.flatMap_map]
theorem mem_canon' {n a b : Int} {A : Int → Int → Bool} (h0 : 0 ≤ a) (h1 : a < b) (h2 : b < n) : decide ((a, b) ∈ canon n A) = A a b := by
  rw [Bool.eq_iff_iff, decide_eq_true_eq, mem_canon]
  exact ⟨fun h => h.2.2.2, fun h => ⟨h0, h1, h2, h⟩⟩
theorem odd_body {n : Int} {A : Int → Int → Bool} (hn : n ≤ 100) (h0 : 0 ≤ n) : F_odd_triples [web n A] [] = .ok (en (tri n A)) [.lst ((tri n A).map en)] := by
  unfold F_odd_triples
  simp only [ev_seq, ev_seqN, ev_seqR, ev_seqB, ev_seqC, ev_seqE, ev_nil, ev_brk, ev_cnt, ev_retN, ev_expr, ev_expr1, ev_ret, ev_ret1, ev_if, ev_ifT, ev_ifF, ev_asg, ev_asg1, ev_asg2, ev_par, ev_par1, ev_def, ev_defR, ev_defN, ev_var0, ev_varS, ev_k, ev_anil, ev_acons, ev_acons1, ev_acons2, ev_tup, ev_tup_0, ev_tup_1, ev_tup_2, ev_tup_3, ev_lst, ev_lst_0, ev_lst_1, ev_lst_2, ev_lst_3, ev_mkT, ev_mkF, ev_bin, ev_bin1, ev_bin2, ev_un, ev_un1, ev_add, ev_addT, ev_addL, ev_sub, ev_neg, ev_lt, ev_le, ev_gt, ev_ge, ev_eqI, ev_neI, ev_eqB, ev_neB, ev_eqS, ev_neS, ev_and, ev_andT, ev_andF, ev_or, ev_orT, ev_orF, ev_not, ev_not1, ev_tnot, ev_tnot1, ev_tand, ev_tandT, ev_tandF, ev_tor, ev_torT, ev_torF, ev_tb, ev_tb1, ev_yes, ev_ife, ev_ifeT, ev_ifeF, ev_ch, ev_ch1, ev_ch2, ev_ch3T, ev_ch3F, ev_ch4, ev_is, ev_isB, ev_notN, ev_call, ev_call1, ev_own, ev_own_1, ev_own_2, ev_own_3, ev_own_4, ev_own_5, ev_ownK, ev_ownK_1, ev_ownK_01, ev_ownK_10, ev_lenT, ev_lenL, ev_lenO, ev_int, ev_intB, ev_abs, ev_min, ev_max, ev_tupT, ev_tupL, ev_listT, ev_listL, ev_meth, ev_meth2, ev_gN, ev_set, ev_set1, ev_gT, ev_gT2, ev_gT3, ev_gnil, ev_gcons, ev_gcons1, ev_iseq, ev_iseqT, ev_iseqL, ev_iseqO, ev_r1, ev_r2, ev_lrg1, ev_sl, ev_sl1, ev_sl3, ev_sl4, ev_on, ev_os, ev_os1, ev_slT, ev_slL, ev_slO, ev_r3, ix_t0, ix_t1, ix_t2, en_pair, en_int, wipeM, List.map_cons, List.map_nil, List.length_cons, List.length_nil, List.replicate_succ, List.replicate_zero, List.cons_append, List.nil_append, List.append_nil, List.set_cons_zero, List.set_cons_succ, Nat.reduceAdd, Nat.reduceSub, Nat.zero_add, if_true, if_false, reduceIte, Int.reduceEq, Int.reduceLT, Int.reduceLE, Bool.false_eq_true, decide_true, decide_false, Bool.not_true, Bool.not_false, List.getElem?_cons_zero, List.getElem?_cons_succ]
  have hc : ∀ i : Int, 0 ≤ i → i ≤ 200 → cR i = true := fun i a b => cR_ok (by omega) (by omega)
  rw [xFor_eq (xs := (irg 0 n).map M.int) (by simp only [ev_seq, ev_seqN, ev_seqR, ev_seqB, ev_seqC, ev_seqE, ev_nil, ev_brk, ev_cnt, ev_retN, ev_expr, ev_expr1, ev_ret, ev_ret1, ev_if, ev_ifT, ev_ifF, ev_asg, ev_asg1, ev_asg2, ev_par, ev_par1, ev_def, ev_defR, ev_defN, ev_var0, ev_varS, ev_k, ev_anil, ev_acons, ev_acons1, ev_acons2, ev_tup, ev_tup_0, ev_tup_1, ev_tup_2, ev_tup_3, ev_lst, ev_lst_0, ev_lst_1, ev_lst_2, ev_lst_3, ev_mkT, ev_mkF, ev_bin, ev_bin1, ev_bin2, ev_un, ev_un1, ev_add, ev_addT, ev_addL, ev_sub, ev_neg, ev_lt, ev_le, ev_gt, ev_ge, ev_eqI, ev_neI, ev_eqB, ev_neB, ev_eqS, ev_neS, ev_and, ev_andT, ev_andF, ev_or, ev_orT, ev_orF, ev_not, ev_not1, ev_tnot, ev_tnot1, ev_tand, ev_tandT, ev_tandF, ev_tor, ev_torT, ev_torF, ev_tb, ev_tb1, ev_yes, ev_ife, ev_ifeT, ev_ifeF, ev_ch, ev_ch1, ev_ch2, ev_ch3T, ev_ch3F, ev_ch4, ev_is, ev_isB, ev_notN, ev_call, ev_call1, ev_own, ev_own_1, ev_own_2, ev_own_3, ev_own_4, ev_own_5, ev_ownK, ev_ownK_1, ev_ownK_01, ev_ownK_10, ev_lenT, ev_lenL, ev_lenO, ev_int, ev_intB, ev_abs, ev_min, ev_max, ev_tupT, ev_tupL, ev_listT, ev_listL, ev_meth, ev_meth2, ev_gN, ev_set, ev_set1, ev_gT, ev_gT2, ev_gT3, ev_gnil, ev_gcons, ev_gcons1, ev_iseq, ev_iseqT, ev_iseqL, ev_iseqO, ev_r1, ev_r2, ev_lrg1, ev_sl, ev_sl1, ev_sl3, ev_sl4, ev_on, ev_os, ev_os1, ev_slT, ev_slL, ev_slO, ev_r3, ix_t0, ix_t1, ix_t2, en_pair, en_int, wipeM, List.map_cons, List.map_nil, List.length_cons, List.length_nil, List.replicate_succ, List.replicate_zero, List.cons_append, List.nil_append, List.append_nil, List.set_cons_zero, List.set_cons_succ, Nat.reduceAdd, Nat.reduceSub, Nat.zero_add, if_true, if_false, reduceIte, Int.reduceEq, Int.reduceLT, Int.reduceLE, Bool.false_eq_true, decide_true, decide_false, Bool.not_true, Bool.not_false, List.getElem?_cons_zero, List.getElem?_cons_succ, web_eq, ev_r1', hc n h0 (by omega)] <;> rfl)]
  obtain ⟨ms', e, x, y, z, rfl⟩ := for_acc (g := gN 2) (body := B4_odd_triples) M.int (fun a => (irg (a + 1) n).flatMap fun b => triF n A a b) (fun ms => ∃ x y z, ms = [some (web n A), some (.loc 0), x, y, z, none]) (fun xs : List Tr => [.lst (xs.map en)]) 1000000 (irg 0 n) (by
    rintro a ha ms xs ⟨x, y, z, rfl⟩ hl
    rw [mem_irg] at ha
    have in2 : ∃ ms', xFor (iRange2 (aCons (mBin (addM false) (mVar 2) (mK (.int 1))) (aCons (mBin ixM (mVar 0) (mK (.int 0))) aNil))) (gN 3) B3_odd_triples [some (web n A), some (.loc 0), some (.int a), y, z, none] [.lst (xs.map en)] = .nx ms' [.lst ((xs ++ (irg (a + 1) n).flatMap fun b => triF n A a b).map en)] ∧ ∃ y z, ms' = [some (web n A), some (.loc 0), some (.int a), y, z, none] := by
      rw [xFor_eq (xs := (irg (a + 1) n).map M.int) (by simp only [ev_seq, ev_seqN, ev_seqR, ev_seqB, ev_seqC, ev_seqE, ev_nil, ev_brk, ev_cnt, ev_retN, ev_expr, ev_expr1, ev_ret, ev_ret1, ev_if, ev_ifT, ev_ifF, ev_asg, ev_asg1, ev_asg2, ev_par, ev_par1, ev_def, ev_defR, ev_defN, ev_var0, ev_varS, ev_k, ev_anil, ev_acons, ev_acons1, ev_acons2, ev_tup, ev_tup_0, ev_tup_1, ev_tup_2, ev_tup_3, ev_lst, ev_lst_0, ev_lst_1, ev_lst_2, ev_lst_3, ev_mkT, ev_mkF, ev_bin, ev_bin1, ev_bin2, ev_un, ev_un1, ev_add, ev_addT, ev_addL, ev_sub, ev_neg, ev_lt, ev_le, ev_gt, ev_ge, ev_eqI, ev_neI, ev_eqB, ev_neB, ev_eqS, ev_neS, ev_and, ev_andT, ev_andF, ev_or, ev_orT, ev_orF, ev_not, ev_not1, ev_tnot, ev_tnot1, ev_tand, ev_tandT, ev_tandF, ev_tor, ev_torT, ev_torF, ev_tb, ev_tb1, ev_yes, ev_ife, ev_ifeT, ev_ifeF, ev_ch, ev_ch1, ev_ch2, ev_ch3T, ev_ch3F, ev_ch4, ev_is, ev_isB, ev_notN, ev_call, ev_call1, ev_own, ev_own_1, ev_own_2, ev_own_3, ev_own_4, ev_own_5, ev_ownK, ev_ownK_1, ev_ownK_01, ev_ownK_10, ev_lenT, ev_lenL, ev_lenO, ev_int, ev_intB, ev_abs, ev_min, ev_max, ev_tupT, ev_tupL, ev_listT, ev_listL, ev_meth, ev_meth2, ev_gN, ev_set, ev_set1, ev_gT, ev_gT2, ev_gT3, ev_gnil, ev_gcons, ev_gcons1, ev_iseq, ev_iseqT, ev_iseqL, ev_iseqO, ev_r1, ev_r2, ev_lrg1, ev_sl, ev_sl1, ev_sl3, ev_sl4, ev_on, ev_os, ev_os1, ev_slT, ev_slL, ev_slO, ev_r3, ix_t0, ix_t1, ix_t2, en_pair, en_int, wipeM, List.map_cons, List.map_nil, List.length_cons, List.length_nil, List.replicate_succ, List.replicate_zero, List.cons_append, List.nil_append, List.append_nil, List.set_cons_zero, List.set_cons_succ, Nat.reduceAdd, Nat.reduceSub, Nat.zero_add, if_true, if_false, reduceIte, Int.reduceEq, Int.reduceLT, Int.reduceLE, Bool.false_eq_true, decide_true, decide_false, Bool.not_true, Bool.not_false, List.getElem?_cons_zero, List.getElem?_cons_succ, web_eq, ev_r2', hc n h0 (by omega), hc (a + 1) (by omega) (by omega), Bool.and_self] <;> rfl)]
      refine for_acc (g := gN 3) (body := B3_odd_triples) M.int (fun b => triF n A a b) (fun ms => ∃ y z, ms = [some (web n A), some (.loc 0), some (.int a), y, z, none]) (fun xs : List Tr => [.lst (xs.map en)]) 1000000 (irg (a + 1) n) ?_ _ xs ⟨y, z, rfl⟩ hl
      rintro b hb ms xs ⟨y, z, rfl⟩ hl
      rw [mem_irg] at hb
      have in3 : ∃ ms', xFor (iRange2 (aCons (mBin (addM false) (mVar 3) (mK (.int 1))) (aCons (mBin ixM (mVar 0) (mK (.int 0))) aNil))) (gN 4) B2_odd_triples [some (web n A), some (.loc 0), some (.int a), some (.int b), z, none] [.lst (xs.map en)] = .nx ms' [.lst ((xs ++ triF n A a b).map en)] ∧ ∃ z, ms' = [some (web n A), some (.loc 0), some (.int a), some (.int b), z, none] := by
        rw [xFor_eq (xs := (irg (b + 1) n).map M.int) (by simp only [ev_seq, ev_seqN, ev_seqR, ev_seqB, ev_seqC, ev_seqE, ev_nil, ev_brk, ev_cnt, ev_retN, ev_expr, ev_expr1, ev_ret, ev_ret1, ev_if, ev_ifT, ev_ifF, ev_asg, ev_asg1, ev_asg2, ev_par, ev_par1, ev_def, ev_defR, ev_defN, ev_var0, ev_varS, ev_k, ev_anil, ev_acons, ev_acons1, ev_acons2, ev_tup, ev_tup_0, ev_tup_1, ev_tup_2, ev_tup_3, ev_lst, ev_lst_0, ev_lst_1, ev_lst_2, ev_lst_3, ev_mkT, ev_mkF, ev_bin, ev_bin1, ev_bin2, ev_un, ev_un1, ev_add, ev_addT, ev_addL, ev_sub, ev_neg, ev_lt, ev_le, ev_gt, ev_ge, ev_eqI, ev_neI, ev_eqB, ev_neB, ev_eqS, ev_neS, ev_and, ev_andT, ev_andF, ev_or, ev_orT, ev_orF, ev_not, ev_not1, ev_tnot, ev_tnot1, ev_tand, ev_tandT, ev_tandF, ev_tor, ev_torT, ev_torF, ev_tb, ev_tb1, ev_yes, ev_ife, ev_ifeT, ev_ifeF, ev_ch, ev_ch1, ev_ch2, ev_ch3T, ev_ch3F, ev_ch4, ev_is, ev_isB, ev_notN, ev_call, ev_call1, ev_own, ev_own_1, ev_own_2, ev_own_3, ev_own_4, ev_own_5, ev_ownK, ev_ownK_1, ev_ownK_01, ev_ownK_10, ev_lenT, ev_lenL, ev_lenO, ev_int, ev_intB, ev_abs, ev_min, ev_max, ev_tupT, ev_tupL, ev_listT, ev_listL, ev_meth, ev_meth2, ev_gN, ev_set, ev_set1, ev_gT, ev_gT2, ev_gT3, ev_gnil, ev_gcons, ev_gcons1, ev_iseq, ev_iseqT, ev_iseqL, ev_iseqO, ev_r1, ev_r2, ev_lrg1, ev_sl, ev_sl1, ev_sl3, ev_sl4, ev_on, ev_os, ev_os1, ev_slT, ev_slL, ev_slO, ev_r3, ix_t0, ix_t1, ix_t2, en_pair, en_int, wipeM, List.map_cons, List.map_nil, List.length_cons, List.length_nil, List.replicate_succ, List.replicate_zero, List.cons_append, List.nil_append, List.append_nil, List.set_cons_zero, List.set_cons_succ, Nat.reduceAdd, Nat.reduceSub, Nat.zero_add, if_true, if_false, reduceIte, Int.reduceEq, Int.reduceLT, Int.reduceLE, Bool.false_eq_true, decide_true, decide_false, Bool.not_true, Bool.not_false, List.getElem?_cons_zero, List.getElem?_cons_succ, web_eq, ev_r2', hc n h0 (by omega), hc (b + 1) (by omega) (by omega), Bool.and_self] <;> rfl)]
        have key : ∀ as : List Int, (as.flatMap fun c => if odd3 A a b c = true then [Tr.mk a b c] else []) = (as.filter fun c => odd3 A a b c).map fun c => ⟨a, b, c⟩ := fun as => by
          induction as with
          | nil => rfl
          | cons c as ih => rw [List.flatMap_cons, ih, List.filter_cons]; split <;> simp
        have := for_acc (g := gN 4) (body := B2_odd_triples) M.int (fun c => if odd3 A a b c = true then [Tr.mk a b c] else []) (fun ms => ∃ z, ms = [some (web n A), some (.loc 0), some (.int a), some (.int b), z, none]) (fun xs : List Tr => [.lst (xs.map en)]) 1000000 (irg (b + 1) n) ?_ [some (web n A), some (.loc 0), some (.int a), some (.int b), z, none] xs ⟨z, rfl⟩ (by rw [key]; exact hl)
        · rw [key] at this; exact this
        rintro c hcc ms xs ⟨z, rfl⟩ hl
        rw [mem_irg] at hcc
        refine ⟨_, turn_nx (by simp only [ev_seq, ev_seqN, ev_seqR, ev_seqB, ev_seqC, ev_seqE, ev_nil, ev_brk, ev_cnt, ev_retN, ev_expr, ev_expr1, ev_ret, ev_ret1, ev_if, ev_ifT, ev_ifF, ev_asg, ev_asg1, ev_asg2, ev_par, ev_par1, ev_def, ev_defR, ev_defN, ev_var0, ev_varS, ev_k, ev_anil, ev_acons, ev_acons1, ev_acons2, ev_tup, ev_tup_0, ev_tup_1, ev_tup_2, ev_tup_3, ev_lst, ev_lst_0, ev_lst_1, ev_lst_2, ev_lst_3, ev_mkT, ev_mkF, ev_bin, ev_bin1, ev_bin2, ev_un, ev_un1, ev_add, ev_addT, ev_addL, ev_sub, ev_neg, ev_lt, ev_le, ev_gt, ev_ge, ev_eqI, ev_neI, ev_eqB, ev_neB, ev_eqS, ev_neS, ev_and, ev_andT, ev_andF, ev_or, ev_orT, ev_orF, ev_not, ev_not1, ev_tnot, ev_tnot1, ev_tand, ev_tandT, ev_tandF, ev_tor, ev_torT, ev_torF, ev_tb, ev_tb1, ev_yes, ev_ife, ev_ifeT, ev_ifeF, ev_ch, ev_ch1, ev_ch2, ev_ch3T, ev_ch3F, ev_ch4, ev_is, ev_isB, ev_notN, ev_call, ev_call1, ev_own, ev_own_1, ev_own_2, ev_own_3, ev_own_4, ev_own_5, ev_ownK, ev_ownK_1, ev_ownK_01, ev_ownK_10, ev_lenT, ev_lenL, ev_lenO, ev_int, ev_intB, ev_abs, ev_min, ev_max, ev_tupT, ev_tupL, ev_listT, ev_listL, ev_meth, ev_meth2, ev_gN, ev_set, ev_set1, ev_gT, ev_gT2, ev_gT3, ev_gnil, ev_gcons, ev_gcons1, ev_iseq, ev_iseqT, ev_iseqL, ev_iseqO, ev_r1, ev_r2, ev_lrg1, ev_sl, ev_sl1, ev_sl3, ev_sl4, ev_on, ev_os, ev_os1, ev_slT, ev_slL, ev_slO, ev_r3, ix_t0, ix_t1, ix_t2, en_pair, en_int, wipeM, List.map_cons, List.map_nil, List.length_cons, List.length_nil, List.replicate_succ, List.replicate_zero, List.cons_append, List.nil_append, List.append_nil, List.set_cons_zero, List.set_cons_succ, Nat.reduceAdd, Nat.reduceSub, Nat.zero_add, if_true, if_false, reduceIte, Int.reduceEq, Int.reduceLT, Int.reduceLE, Bool.false_eq_true, decide_true, decide_false, Bool.not_true, Bool.not_false, List.getElem?_cons_zero, List.getElem?_cons_succ] <;> rfl) ?_, some (.int c), rfl⟩
        unfold B2_odd_triples
        have c1 : mLc false (iSeq (mTup (aCons (mTup (aCons (mVar 2) (aCons (mVar 3) aNil))) (aCons (mTup (aCons (mVar 2) (aCons (mVar 4) aNil))) (aCons (mTup (aCons (mVar 3) (aCons (mVar 4) aNil))) aNil))))) (gN 5) C1_odd_triples (mVar 5) [5] [some (web n A), some (.loc 0), some (.int a), some (.int b), some (.int c), none] [.lst (xs.map en)] =
            .ok (.tmp ((([(a, b), (a, c), (b, c)] : List Tie).filter fun t => decide (t ∈ canon n A)).map en)) [.lst (xs.map en)] := by
          refine (mLc_pure (as := ([(a, b), (a, c), (b, c)] : List Tie)) en (fun t => decide (t ∈ canon n A)) en (by simp only [ev_seq, ev_seqN, ev_seqR, ev_seqB, ev_seqC, ev_seqE, ev_nil, ev_brk, ev_cnt, ev_retN, ev_expr, ev_expr1, ev_ret, ev_ret1, ev_if, ev_ifT, ev_ifF, ev_asg, ev_asg1, ev_asg2, ev_par, ev_par1, ev_def, ev_defR, ev_defN, ev_var0, ev_varS, ev_k, ev_anil, ev_acons, ev_acons1, ev_acons2, ev_tup, ev_tup_0, ev_tup_1, ev_tup_2, ev_tup_3, ev_lst, ev_lst_0, ev_lst_1, ev_lst_2, ev_lst_3, ev_mkT, ev_mkF, ev_bin, ev_bin1, ev_bin2, ev_un, ev_un1, ev_add, ev_addT, ev_addL, ev_sub, ev_neg, ev_lt, ev_le, ev_gt, ev_ge, ev_eqI, ev_neI, ev_eqB, ev_neB, ev_eqS, ev_neS, ev_and, ev_andT, ev_andF, ev_or, ev_orT, ev_orF, ev_not, ev_not1, ev_tnot, ev_tnot1, ev_tand, ev_tandT, ev_tandF, ev_tor, ev_torT, ev_torF, ev_tb, ev_tb1, ev_yes, ev_ife, ev_ifeT, ev_ifeF, ev_ch, ev_ch1, ev_ch2, ev_ch3T, ev_ch3F, ev_ch4, ev_is, ev_isB, ev_notN, ev_call, ev_call1, ev_own, ev_own_1, ev_own_2, ev_own_3, ev_own_4, ev_own_5, ev_ownK, ev_ownK_1, ev_ownK_01, ev_ownK_10, ev_lenT, ev_lenL, ev_lenO, ev_int, ev_intB, ev_abs, ev_min, ev_max, ev_tupT, ev_tupL, ev_listT, ev_listL, ev_meth, ev_meth2, ev_gN, ev_set, ev_set1, ev_gT, ev_gT2, ev_gT3, ev_gnil, ev_gcons, ev_gcons1, ev_iseq, ev_iseqT, ev_iseqL, ev_iseqO, ev_r1, ev_r2, ev_lrg1, ev_sl, ev_sl1, ev_sl3, ev_sl4, ev_on, ev_os, ev_os1, ev_slT, ev_slL, ev_slO, ev_r3, ix_t0, ix_t1, ix_t2, en_pair, en_int, wipeM, List.map_cons, List.map_nil, List.length_cons, List.length_nil, List.replicate_succ, List.replicate_zero, List.cons_append, List.nil_append, List.append_nil, List.set_cons_zero, List.set_cons_succ, Nat.reduceAdd, Nat.reduceSub, Nat.zero_add, if_true, if_false, reduceIte, Int.reduceEq, Int.reduceLT, Int.reduceLE, Bool.false_eq_true, decide_true, decide_false, Bool.not_true, Bool.not_false, List.getElem?_cons_zero, List.getElem?_cons_succ] <;> rfl) ?_ (show (3 : Nat) ≤ LIM by decide)).trans rfl
          intro t _
          refine ⟨_, by simp only [ev_seq, ev_seqN, ev_seqR, ev_seqB, ev_seqC, ev_seqE, ev_nil, ev_brk, ev_cnt, ev_retN, ev_expr, ev_expr1, ev_ret, ev_ret1, ev_if, ev_ifT, ev_ifF, ev_asg, ev_asg1, ev_asg2, ev_par, ev_par1, ev_def, ev_defR, ev_defN, ev_var0, ev_varS, ev_k, ev_anil, ev_acons, ev_acons1, ev_acons2, ev_tup, ev_tup_0, ev_tup_1, ev_tup_2, ev_tup_3, ev_lst, ev_lst_0, ev_lst_1, ev_lst_2, ev_lst_3, ev_mkT, ev_mkF, ev_bin, ev_bin1, ev_bin2, ev_un, ev_un1, ev_add, ev_addT, ev_addL, ev_sub, ev_neg, ev_lt, ev_le, ev_gt, ev_ge, ev_eqI, ev_neI, ev_eqB, ev_neB, ev_eqS, ev_neS, ev_and, ev_andT, ev_andF, ev_or, ev_orT, ev_orF, ev_not, ev_not1, ev_tnot, ev_tnot1, ev_tand, ev_tandT, ev_tandF, ev_tor, ev_torT, ev_torF, ev_tb, ev_tb1, ev_yes, ev_ife, ev_ifeT, ev_ifeF, ev_ch, ev_ch1, ev_ch2, ev_ch3T, ev_ch3F, ev_ch4, ev_is, ev_isB, ev_notN, ev_call, ev_call1, ev_own, ev_own_1, ev_own_2, ev_own_3, ev_own_4, ev_own_5, ev_ownK, ev_ownK_1, ev_ownK_01, ev_ownK_10, ev_lenT, ev_lenL, ev_lenO, ev_int, ev_intB, ev_abs, ev_min, ev_max, ev_tupT, ev_tupL, ev_listT, ev_listL, ev_meth, ev_meth2, ev_gN, ev_set, ev_set1, ev_gT, ev_gT2, ev_gT3, ev_gnil, ev_gcons, ev_gcons1, ev_iseq, ev_iseqT, ev_iseqL, ev_iseqO, ev_r1, ev_r2, ev_lrg1, ev_sl, ev_sl1, ev_sl3, ev_sl4, ev_on, ev_os, ev_os1, ev_slT, ev_slL, ev_slO, ev_r3, ix_t0, ix_t1, ix_t2, en_pair, en_int, wipeM, List.map_cons, List.map_nil, List.length_cons, List.length_nil, List.replicate_succ, List.replicate_zero, List.cons_append, List.nil_append, List.append_nil, List.set_cons_zero, List.set_cons_succ, Nat.reduceAdd, Nat.reduceSub, Nat.zero_add, if_true, if_false, reduceIte, Int.reduceEq, Int.reduceLT, Int.reduceLE, Bool.false_eq_true, decide_true, decide_false, Bool.not_true, Bool.not_false, List.getElem?_cons_zero, List.getElem?_cons_succ] <;> rfl, ?_, fun _ => by simp only [ev_seq, ev_seqN, ev_seqR, ev_seqB, ev_seqC, ev_seqE, ev_nil, ev_brk, ev_cnt, ev_retN, ev_expr, ev_expr1, ev_ret, ev_ret1, ev_if, ev_ifT, ev_ifF, ev_asg, ev_asg1, ev_asg2, ev_par, ev_par1, ev_def, ev_defR, ev_defN, ev_var0, ev_varS, ev_k, ev_anil, ev_acons, ev_acons1, ev_acons2, ev_tup, ev_tup_0, ev_tup_1, ev_tup_2, ev_tup_3, ev_lst, ev_lst_0, ev_lst_1, ev_lst_2, ev_lst_3, ev_mkT, ev_mkF, ev_bin, ev_bin1, ev_bin2, ev_un, ev_un1, ev_add, ev_addT, ev_addL, ev_sub, ev_neg, ev_lt, ev_le, ev_gt, ev_ge, ev_eqI, ev_neI, ev_eqB, ev_neB, ev_eqS, ev_neS, ev_and, ev_andT, ev_andF, ev_or, ev_orT, ev_orF, ev_not, ev_not1, ev_tnot, ev_tnot1, ev_tand, ev_tandT, ev_tandF, ev_tor, ev_torT, ev_torF, ev_tb, ev_tb1, ev_yes, ev_ife, ev_ifeT, ev_ifeF, ev_ch, ev_ch1, ev_ch2, ev_ch3T, ev_ch3F, ev_ch4, ev_is, ev_isB, ev_notN, ev_call, ev_call1, ev_own, ev_own_1, ev_own_2, ev_own_3, ev_own_4, ev_own_5, ev_ownK, ev_ownK_1, ev_ownK_01, ev_ownK_10, ev_lenT, ev_lenL, ev_lenO, ev_int, ev_intB, ev_abs, ev_min, ev_max, ev_tupT, ev_tupL, ev_listT, ev_listL, ev_meth, ev_meth2, ev_gN, ev_set, ev_set1, ev_gT, ev_gT2, ev_gT3, ev_gnil, ev_gcons, ev_gcons1, ev_iseq, ev_iseqT, ev_iseqL, ev_iseqO, ev_r1, ev_r2, ev_lrg1, ev_sl, ev_sl1, ev_sl3, ev_sl4, ev_on, ev_os, ev_os1, ev_slT, ev_slL, ev_slO, ev_r3, ix_t0, ix_t1, ix_t2, en_pair, en_int, wipeM, List.map_cons, List.map_nil, List.length_cons, List.length_nil, List.replicate_succ, List.replicate_zero, List.cons_append, List.nil_append, List.append_nil, List.set_cons_zero, List.set_cons_succ, Nat.reduceAdd, Nat.reduceSub, Nat.zero_add, if_true, if_false, reduceIte, Int.reduceEq, Int.reduceLT, Int.reduceLE, Bool.false_eq_true, decide_true, decide_false, Bool.not_true, Bool.not_false, List.getElem?_cons_zero, List.getElem?_cons_succ]⟩
          unfold C1_odd_triples
          obtain ⟨u, v⟩ := t
          simp only [ev_seq, ev_seqN, ev_seqR, ev_seqB, ev_seqC, ev_seqE, ev_nil, ev_brk, ev_cnt, ev_retN, ev_expr, ev_expr1, ev_ret, ev_ret1, ev_if, ev_ifT, ev_ifF, ev_asg, ev_asg1, ev_asg2, ev_par, ev_par1, ev_def, ev_defR, ev_defN, ev_var0, ev_varS, ev_k, ev_anil, ev_acons, ev_acons1, ev_acons2, ev_tup, ev_tup_0, ev_tup_1, ev_tup_2, ev_tup_3, ev_lst, ev_lst_0, ev_lst_1, ev_lst_2, ev_lst_3, ev_mkT, ev_mkF, ev_bin, ev_bin1, ev_bin2, ev_un, ev_un1, ev_add, ev_addT, ev_addL, ev_sub, ev_neg, ev_lt, ev_le, ev_gt, ev_ge, ev_eqI, ev_neI, ev_eqB, ev_neB, ev_eqS, ev_neS, ev_and, ev_andT, ev_andF, ev_or, ev_orT, ev_orF, ev_not, ev_not1, ev_tnot, ev_tnot1, ev_tand, ev_tandT, ev_tandF, ev_tor, ev_torT, ev_torF, ev_tb, ev_tb1, ev_yes, ev_ife, ev_ifeT, ev_ifeF, ev_ch, ev_ch1, ev_ch2, ev_ch3T, ev_ch3F, ev_ch4, ev_is, ev_isB, ev_notN, ev_call, ev_call1, ev_own, ev_own_1, ev_own_2, ev_own_3, ev_own_4, ev_own_5, ev_ownK, ev_ownK_1, ev_ownK_01, ev_ownK_10, ev_lenT, ev_lenL, ev_lenO, ev_int, ev_intB, ev_abs, ev_min, ev_max, ev_tupT, ev_tupL, ev_listT, ev_listL, ev_meth, ev_meth2, ev_gN, ev_set, ev_set1, ev_gT, ev_gT2, ev_gT3, ev_gnil, ev_gcons, ev_gcons1, ev_iseq, ev_iseqT, ev_iseqL, ev_iseqO, ev_r1, ev_r2, ev_lrg1, ev_sl, ev_sl1, ev_sl3, ev_sl4, ev_on, ev_os, ev_os1, ev_slT, ev_slL, ev_slO, ev_r3, ix_t0, ix_t1, ix_t2, en_pair, en_int, wipeM, List.map_cons, List.map_nil, List.length_cons, List.length_nil, List.replicate_succ, List.replicate_zero, List.cons_append, List.nil_append, List.append_nil, List.set_cons_zero, List.set_cons_succ, Nat.reduceAdd, Nat.reduceSub, Nat.zero_add, if_true, if_false, reduceIte, Int.reduceEq, Int.reduceLT, Int.reduceLE, Bool.false_eq_true, decide_true, decide_false, Bool.not_true, Bool.not_false, List.getElem?_cons_zero, List.getElem?_cons_succ, web_eq, inM_te]
        have ev : ∀ o : Bool, (decide ((((([(a, b), (a, c), (b, c)] : List Tie).filter fun t => decide (t ∈ canon n A)).map (en (α := Tie))).length : Int) % 2 = 1)) = odd3 A a b c := fun _ => by
          rw [List.length_map]
          simp only [List.filter_cons, List.filter_nil, mem_canon' (A := A) ha.1 (by omega : a < b) hb.2, mem_canon' (A := A) ha.1 (by omega : a < c) hcc.2, mem_canon' (A := A) (by omega : (0 : Int) ≤ b) (by omega : b < c) hcc.2]
          unfold odd3
          cases A a b <;> cases A a c <;> cases A b c <;> simp
        have hm : cMod ((((([(a, b), (a, c), (b, c)] : List Tie).filter fun t => decide (t ∈ canon n A)).map (en (α := Tie))).length : Nat) : Int) 2 = true := rfl
        simp only [ev_seq, ev_seqN, ev_seqR, ev_seqB, ev_seqC, ev_seqE, ev_nil, ev_brk, ev_cnt, ev_retN, ev_expr, ev_expr1, ev_ret, ev_ret1, ev_if, ev_ifT, ev_ifF, ev_asg, ev_asg1, ev_asg2, ev_par, ev_par1, ev_def, ev_defR, ev_defN, ev_var0, ev_varS, ev_k, ev_anil, ev_acons, ev_acons1, ev_acons2, ev_tup, ev_tup_0, ev_tup_1, ev_tup_2, ev_tup_3, ev_lst, ev_lst_0, ev_lst_1, ev_lst_2, ev_lst_3, ev_mkT, ev_mkF, ev_bin, ev_bin1, ev_bin2, ev_un, ev_un1, ev_add, ev_addT, ev_addL, ev_sub, ev_neg, ev_lt, ev_le, ev_gt, ev_ge, ev_eqI, ev_neI, ev_eqB, ev_neB, ev_eqS, ev_neS, ev_and, ev_andT, ev_andF, ev_or, ev_orT, ev_orF, ev_not, ev_not1, ev_tnot, ev_tnot1, ev_tand, ev_tandT, ev_tandF, ev_tor, ev_torT, ev_torF, ev_tb, ev_tb1, ev_yes, ev_ife, ev_ifeT, ev_ifeF, ev_ch, ev_ch1, ev_ch2, ev_ch3T, ev_ch3F, ev_ch4, ev_is, ev_isB, ev_notN, ev_call, ev_call1, ev_own, ev_own_1, ev_own_2, ev_own_3, ev_own_4, ev_own_5, ev_ownK, ev_ownK_1, ev_ownK_01, ev_ownK_10, ev_lenT, ev_lenL, ev_lenO, ev_int, ev_intB, ev_abs, ev_min, ev_max, ev_tupT, ev_tupL, ev_listT, ev_listL, ev_meth, ev_meth2, ev_gN, ev_set, ev_set1, ev_gT, ev_gT2, ev_gT3, ev_gnil, ev_gcons, ev_gcons1, ev_iseq, ev_iseqT, ev_iseqL, ev_iseqO, ev_r1, ev_r2, ev_lrg1, ev_sl, ev_sl1, ev_sl3, ev_sl4, ev_on, ev_os, ev_os1, ev_slT, ev_slL, ev_slO, ev_r3, ix_t0, ix_t1, ix_t2, en_pair, en_int, wipeM, List.map_cons, List.map_nil, List.length_cons, List.length_nil, List.replicate_succ, List.replicate_zero, List.cons_append, List.nil_append, List.append_nil, List.set_cons_zero, List.set_cons_succ, Nat.reduceAdd, Nat.reduceSub, Nat.zero_add, if_true, if_false, reduceIte, Int.reduceEq, Int.reduceLT, Int.reduceLE, Bool.false_eq_true, decide_true, decide_false, Bool.not_true, Bool.not_false, List.getElem?_cons_zero, List.getElem?_cons_succ, c1, ev_mod, hm, ev true]
        cases q : odd3 A a b c with
        | false => simp only [ev_seq, ev_seqN, ev_seqR, ev_seqB, ev_seqC, ev_seqE, ev_nil, ev_brk, ev_cnt, ev_retN, ev_expr, ev_expr1, ev_ret, ev_ret1, ev_if, ev_ifT, ev_ifF, ev_asg, ev_asg1, ev_asg2, ev_par, ev_par1, ev_def, ev_defR, ev_defN, ev_var0, ev_varS, ev_k, ev_anil, ev_acons, ev_acons1, ev_acons2, ev_tup, ev_tup_0, ev_tup_1, ev_tup_2, ev_tup_3, ev_lst, ev_lst_0, ev_lst_1, ev_lst_2, ev_lst_3, ev_mkT, ev_mkF, ev_bin, ev_bin1, ev_bin2, ev_un, ev_un1, ev_add, ev_addT, ev_addL, ev_sub, ev_neg, ev_lt, ev_le, ev_gt, ev_ge, ev_eqI, ev_neI, ev_eqB, ev_neB, ev_eqS, ev_neS, ev_and, ev_andT, ev_andF, ev_or, ev_orT, ev_orF, ev_not, ev_not1, ev_tnot, ev_tnot1, ev_tand, ev_tandT, ev_tandF, ev_tor, ev_torT, ev_torF, ev_tb, ev_tb1, ev_yes, ev_ife, ev_ifeT, ev_ifeF, ev_ch, ev_ch1, ev_ch2, ev_ch3T, ev_ch3F, ev_ch4, ev_is, ev_isB, ev_notN, ev_call, ev_call1, ev_own, ev_own_1, ev_own_2, ev_own_3, ev_own_4, ev_own_5, ev_ownK, ev_ownK_1, ev_ownK_01, ev_ownK_10, ev_lenT, ev_lenL, ev_lenO, ev_int, ev_intB, ev_abs, ev_min, ev_max, ev_tupT, ev_tupL, ev_listT, ev_listL, ev_meth, ev_meth2, ev_gN, ev_set, ev_set1, ev_gT, ev_gT2, ev_gT3, ev_gnil, ev_gcons, ev_gcons1, ev_iseq, ev_iseqT, ev_iseqL, ev_iseqO, ev_r1, ev_r2, ev_lrg1, ev_sl, ev_sl1, ev_sl3, ev_sl4, ev_on, ev_os, ev_os1, ev_slT, ev_slL, ev_slO, ev_r3, ix_t0, ix_t1, ix_t2, en_pair, en_int, wipeM, List.map_cons, List.map_nil, List.length_cons, List.length_nil, List.replicate_succ, List.replicate_zero, List.cons_append, List.nil_append, List.append_nil, List.set_cons_zero, List.set_cons_succ, Nat.reduceAdd, Nat.reduceSub, Nat.zero_add, if_true, if_false, reduceIte, Int.reduceEq, Int.reduceLT, Int.reduceLE, Bool.false_eq_true, decide_true, decide_false, Bool.not_true, Bool.not_false, List.getElem?_cons_zero, List.getElem?_cons_succ]
        | true =>
          have hx : xs.length ≤ 999999 := by rw [q] at hl; simpa using hl
          simp only [ev_seq, ev_seqN, ev_seqR, ev_seqB, ev_seqC, ev_seqE, ev_nil, ev_brk, ev_cnt, ev_retN, ev_expr, ev_expr1, ev_ret, ev_ret1, ev_if, ev_ifT, ev_ifF, ev_asg, ev_asg1, ev_asg2, ev_par, ev_par1, ev_def, ev_defR, ev_defN, ev_var0, ev_varS, ev_k, ev_anil, ev_acons, ev_acons1, ev_acons2, ev_tup, ev_tup_0, ev_tup_1, ev_tup_2, ev_tup_3, ev_lst, ev_lst_0, ev_lst_1, ev_lst_2, ev_lst_3, ev_mkT, ev_mkF, ev_bin, ev_bin1, ev_bin2, ev_un, ev_un1, ev_add, ev_addT, ev_addL, ev_sub, ev_neg, ev_lt, ev_le, ev_gt, ev_ge, ev_eqI, ev_neI, ev_eqB, ev_neB, ev_eqS, ev_neS, ev_and, ev_andT, ev_andF, ev_or, ev_orT, ev_orF, ev_not, ev_not1, ev_tnot, ev_tnot1, ev_tand, ev_tandT, ev_tandF, ev_tor, ev_torT, ev_torF, ev_tb, ev_tb1, ev_yes, ev_ife, ev_ifeT, ev_ifeF, ev_ch, ev_ch1, ev_ch2, ev_ch3T, ev_ch3F, ev_ch4, ev_is, ev_isB, ev_notN, ev_call, ev_call1, ev_own, ev_own_1, ev_own_2, ev_own_3, ev_own_4, ev_own_5, ev_ownK, ev_ownK_1, ev_ownK_01, ev_ownK_10, ev_lenT, ev_lenL, ev_lenO, ev_int, ev_intB, ev_abs, ev_min, ev_max, ev_tupT, ev_tupL, ev_listT, ev_listL, ev_meth, ev_meth2, ev_gN, ev_set, ev_set1, ev_gT, ev_gT2, ev_gT3, ev_gnil, ev_gcons, ev_gcons1, ev_iseq, ev_iseqT, ev_iseqL, ev_iseqO, ev_r1, ev_r2, ev_lrg1, ev_sl, ev_sl1, ev_sl3, ev_sl4, ev_on, ev_os, ev_os1, ev_slT, ev_slL, ev_slO, ev_r3, ix_t0, ix_t1, ix_t2, en_pair, en_int, wipeM, List.map_cons, List.map_nil, List.length_cons, List.length_nil, List.replicate_succ, List.replicate_zero, List.cons_append, List.nil_append, List.append_nil, List.set_cons_zero, List.set_cons_succ, Nat.reduceAdd, Nat.reduceSub, Nat.zero_add, if_true, if_false, reduceIte, Int.reduceEq, Int.reduceLT, Int.reduceLE, Bool.false_eq_true, decide_true, decide_false, Bool.not_true, Bool.not_false, List.getElem?_cons_zero, List.getElem?_cons_succ, ev_meth1]
          rw [ev_typL 0 _ _ rfl]
          simp only [ev_seq, ev_seqN, ev_seqR, ev_seqB, ev_seqC, ev_seqE, ev_nil, ev_brk, ev_cnt, ev_retN, ev_expr, ev_expr1, ev_ret, ev_ret1, ev_if, ev_ifT, ev_ifF, ev_asg, ev_asg1, ev_asg2, ev_par, ev_par1, ev_def, ev_defR, ev_defN, ev_var0, ev_varS, ev_k, ev_anil, ev_acons, ev_acons1, ev_acons2, ev_tup, ev_tup_0, ev_tup_1, ev_tup_2, ev_tup_3, ev_lst, ev_lst_0, ev_lst_1, ev_lst_2, ev_lst_3, ev_mkT, ev_mkF, ev_bin, ev_bin1, ev_bin2, ev_un, ev_un1, ev_add, ev_addT, ev_addL, ev_sub, ev_neg, ev_lt, ev_le, ev_gt, ev_ge, ev_eqI, ev_neI, ev_eqB, ev_neB, ev_eqS, ev_neS, ev_and, ev_andT, ev_andF, ev_or, ev_orT, ev_orF, ev_not, ev_not1, ev_tnot, ev_tnot1, ev_tand, ev_tandT, ev_tandF, ev_tor, ev_torT, ev_torF, ev_tb, ev_tb1, ev_yes, ev_ife, ev_ifeT, ev_ifeF, ev_ch, ev_ch1, ev_ch2, ev_ch3T, ev_ch3F, ev_ch4, ev_is, ev_isB, ev_notN, ev_call, ev_call1, ev_own, ev_own_1, ev_own_2, ev_own_3, ev_own_4, ev_own_5, ev_ownK, ev_ownK_1, ev_ownK_01, ev_ownK_10, ev_lenT, ev_lenL, ev_lenO, ev_int, ev_intB, ev_abs, ev_min, ev_max, ev_tupT, ev_tupL, ev_listT, ev_listL, ev_meth, ev_meth2, ev_gN, ev_set, ev_set1, ev_gT, ev_gT2, ev_gT3, ev_gnil, ev_gcons, ev_gcons1, ev_iseq, ev_iseqT, ev_iseqL, ev_iseqO, ev_r1, ev_r2, ev_lrg1, ev_sl, ev_sl1, ev_sl3, ev_sl4, ev_on, ev_os, ev_os1, ev_slT, ev_slL, ev_slO, ev_r3, ix_t0, ix_t1, ix_t2, en_pair, en_int, wipeM, List.map_cons, List.map_nil, List.length_cons, List.length_nil, List.replicate_succ, List.replicate_zero, List.cons_append, List.nil_append, List.append_nil, List.set_cons_zero, List.set_cons_succ, Nat.reduceAdd, Nat.reduceSub, Nat.zero_add, if_true, if_false, reduceIte, Int.reduceEq, Int.reduceLT, Int.reduceLE, Bool.false_eq_true, decide_true, decide_false, Bool.not_true, Bool.not_false, List.getElem?_cons_zero, List.getElem?_cons_succ]
          rw [ev_app rfl (by rw [List.length_map]; exact Nat.lt_of_le_of_lt hx (by decide))]
          simp only [ev_seq, ev_seqN, ev_seqR, ev_seqB, ev_seqC, ev_seqE, ev_nil, ev_brk, ev_cnt, ev_retN, ev_expr, ev_expr1, ev_ret, ev_ret1, ev_if, ev_ifT, ev_ifF, ev_asg, ev_asg1, ev_asg2, ev_par, ev_par1, ev_def, ev_defR, ev_defN, ev_var0, ev_varS, ev_k, ev_anil, ev_acons, ev_acons1, ev_acons2, ev_tup, ev_tup_0, ev_tup_1, ev_tup_2, ev_tup_3, ev_lst, ev_lst_0, ev_lst_1, ev_lst_2, ev_lst_3, ev_mkT, ev_mkF, ev_bin, ev_bin1, ev_bin2, ev_un, ev_un1, ev_add, ev_addT, ev_addL, ev_sub, ev_neg, ev_lt, ev_le, ev_gt, ev_ge, ev_eqI, ev_neI, ev_eqB, ev_neB, ev_eqS, ev_neS, ev_and, ev_andT, ev_andF, ev_or, ev_orT, ev_orF, ev_not, ev_not1, ev_tnot, ev_tnot1, ev_tand, ev_tandT, ev_tandF, ev_tor, ev_torT, ev_torF, ev_tb, ev_tb1, ev_yes, ev_ife, ev_ifeT, ev_ifeF, ev_ch, ev_ch1, ev_ch2, ev_ch3T, ev_ch3F, ev_ch4, ev_is, ev_isB, ev_notN, ev_call, ev_call1, ev_own, ev_own_1, ev_own_2, ev_own_3, ev_own_4, ev_own_5, ev_ownK, ev_ownK_1, ev_ownK_01, ev_ownK_10, ev_lenT, ev_lenL, ev_lenO, ev_int, ev_intB, ev_abs, ev_min, ev_max, ev_tupT, ev_tupL, ev_listT, ev_listL, ev_meth, ev_meth2, ev_gN, ev_set, ev_set1, ev_gT, ev_gT2, ev_gT3, ev_gnil, ev_gcons, ev_gcons1, ev_iseq, ev_iseqT, ev_iseqL, ev_iseqO, ev_r1, ev_r2, ev_lrg1, ev_sl, ev_sl1, ev_sl3, ev_sl4, ev_on, ev_os, ev_os1, ev_slT, ev_slL, ev_slO, ev_r3, ix_t0, ix_t1, ix_t2, en_pair, en_int, wipeM, List.map_cons, List.map_nil, List.length_cons, List.length_nil, List.replicate_succ, List.replicate_zero, List.cons_append, List.nil_append, List.append_nil, List.set_cons_zero, List.set_cons_succ, Nat.reduceAdd, Nat.reduceSub, Nat.zero_add, if_true, if_false, reduceIte, Int.reduceEq, Int.reduceLT, Int.reduceLE, Bool.false_eq_true, decide_true, decide_false, Bool.not_true, Bool.not_false, List.getElem?_cons_zero, List.getElem?_cons_succ, List.map_append, en_tr]
      obtain ⟨ms', e, z', rfl⟩ := in3
      refine ⟨_, turn_nx (by simp only [ev_seq, ev_seqN, ev_seqR, ev_seqB, ev_seqC, ev_seqE, ev_nil, ev_brk, ev_cnt, ev_retN, ev_expr, ev_expr1, ev_ret, ev_ret1, ev_if, ev_ifT, ev_ifF, ev_asg, ev_asg1, ev_asg2, ev_par, ev_par1, ev_def, ev_defR, ev_defN, ev_var0, ev_varS, ev_k, ev_anil, ev_acons, ev_acons1, ev_acons2, ev_tup, ev_tup_0, ev_tup_1, ev_tup_2, ev_tup_3, ev_lst, ev_lst_0, ev_lst_1, ev_lst_2, ev_lst_3, ev_mkT, ev_mkF, ev_bin, ev_bin1, ev_bin2, ev_un, ev_un1, ev_add, ev_addT, ev_addL, ev_sub, ev_neg, ev_lt, ev_le, ev_gt, ev_ge, ev_eqI, ev_neI, ev_eqB, ev_neB, ev_eqS, ev_neS, ev_and, ev_andT, ev_andF, ev_or, ev_orT, ev_orF, ev_not, ev_not1, ev_tnot, ev_tnot1, ev_tand, ev_tandT, ev_tandF, ev_tor, ev_torT, ev_torF, ev_tb, ev_tb1, ev_yes, ev_ife, ev_ifeT, ev_ifeF, ev_ch, ev_ch1, ev_ch2, ev_ch3T, ev_ch3F, ev_ch4, ev_is, ev_isB, ev_notN, ev_call, ev_call1, ev_own, ev_own_1, ev_own_2, ev_own_3, ev_own_4, ev_own_5, ev_ownK, ev_ownK_1, ev_ownK_01, ev_ownK_10, ev_lenT, ev_lenL, ev_lenO, ev_int, ev_intB, ev_abs, ev_min, ev_max, ev_tupT, ev_tupL, ev_listT, ev_listL, ev_meth, ev_meth2, ev_gN, ev_set, ev_set1, ev_gT, ev_gT2, ev_gT3, ev_gnil, ev_gcons, ev_gcons1, ev_iseq, ev_iseqT, ev_iseqL, ev_iseqO, ev_r1, ev_r2, ev_lrg1, ev_sl, ev_sl1, ev_sl3, ev_sl4, ev_on, ev_os, ev_os1, ev_slT, ev_slL, ev_slO, ev_r3, ix_t0, ix_t1, ix_t2, en_pair, en_int, wipeM, List.map_cons, List.map_nil, List.length_cons, List.length_nil, List.replicate_succ, List.replicate_zero, List.cons_append, List.nil_append, List.append_nil, List.set_cons_zero, List.set_cons_succ, Nat.reduceAdd, Nat.reduceSub, Nat.zero_add, if_true, if_false, reduceIte, Int.reduceEq, Int.reduceLT, Int.reduceLE, Bool.false_eq_true, decide_true, decide_false, Bool.not_true, Bool.not_false, List.getElem?_cons_zero, List.getElem?_cons_succ] <;> rfl) ?_, some (.int b), z', rfl⟩
      unfold B3_odd_triples
      simp only [ev_seq, ev_seqN, ev_seqR, ev_seqB, ev_seqC, ev_seqE, ev_nil, ev_brk, ev_cnt, ev_retN, ev_expr, ev_expr1, ev_ret, ev_ret1, ev_if, ev_ifT, ev_ifF, ev_asg, ev_asg1, ev_asg2, ev_par, ev_par1, ev_def, ev_defR, ev_defN, ev_var0, ev_varS, ev_k, ev_anil, ev_acons, ev_acons1, ev_acons2, ev_tup, ev_tup_0, ev_tup_1, ev_tup_2, ev_tup_3, ev_lst, ev_lst_0, ev_lst_1, ev_lst_2, ev_lst_3, ev_mkT, ev_mkF, ev_bin, ev_bin1, ev_bin2, ev_un, ev_un1, ev_add, ev_addT, ev_addL, ev_sub, ev_neg, ev_lt, ev_le, ev_gt, ev_ge, ev_eqI, ev_neI, ev_eqB, ev_neB, ev_eqS, ev_neS, ev_and, ev_andT, ev_andF, ev_or, ev_orT, ev_orF, ev_not, ev_not1, ev_tnot, ev_tnot1, ev_tand, ev_tandT, ev_tandF, ev_tor, ev_torT, ev_torF, ev_tb, ev_tb1, ev_yes, ev_ife, ev_ifeT, ev_ifeF, ev_ch, ev_ch1, ev_ch2, ev_ch3T, ev_ch3F, ev_ch4, ev_is, ev_isB, ev_notN, ev_call, ev_call1, ev_own, ev_own_1, ev_own_2, ev_own_3, ev_own_4, ev_own_5, ev_ownK, ev_ownK_1, ev_ownK_01, ev_ownK_10, ev_lenT, ev_lenL, ev_lenO, ev_int, ev_intB, ev_abs, ev_min, ev_max, ev_tupT, ev_tupL, ev_listT, ev_listL, ev_meth, ev_meth2, ev_gN, ev_set, ev_set1, ev_gT, ev_gT2, ev_gT3, ev_gnil, ev_gcons, ev_gcons1, ev_iseq, ev_iseqT, ev_iseqL, ev_iseqO, ev_r1, ev_r2, ev_lrg1, ev_sl, ev_sl1, ev_sl3, ev_sl4, ev_on, ev_os, ev_os1, ev_slT, ev_slL, ev_slO, ev_r3, ix_t0, ix_t1, ix_t2, en_pair, en_int, wipeM, List.map_cons, List.map_nil, List.length_cons, List.length_nil, List.replicate_succ, List.replicate_zero, List.cons_append, List.nil_append, List.append_nil, List.set_cons_zero, List.set_cons_succ, Nat.reduceAdd, Nat.reduceSub, Nat.zero_add, if_true, if_false, reduceIte, Int.reduceEq, Int.reduceLT, Int.reduceLE, Bool.false_eq_true, decide_true, decide_false, Bool.not_true, Bool.not_false, List.getElem?_cons_zero, List.getElem?_cons_succ, e]
    obtain ⟨ms', e, y', z', rfl⟩ := in2
    refine ⟨_, turn_nx (by simp only [ev_seq, ev_seqN, ev_seqR, ev_seqB, ev_seqC, ev_seqE, ev_nil, ev_brk, ev_cnt, ev_retN, ev_expr, ev_expr1, ev_ret, ev_ret1, ev_if, ev_ifT, ev_ifF, ev_asg, ev_asg1, ev_asg2, ev_par, ev_par1, ev_def, ev_defR, ev_defN, ev_var0, ev_varS, ev_k, ev_anil, ev_acons, ev_acons1, ev_acons2, ev_tup, ev_tup_0, ev_tup_1, ev_tup_2, ev_tup_3, ev_lst, ev_lst_0, ev_lst_1, ev_lst_2, ev_lst_3, ev_mkT, ev_mkF, ev_bin, ev_bin1, ev_bin2, ev_un, ev_un1, ev_add, ev_addT, ev_addL, ev_sub, ev_neg, ev_lt, ev_le, ev_gt, ev_ge, ev_eqI, ev_neI, ev_eqB, ev_neB, ev_eqS, ev_neS, ev_and, ev_andT, ev_andF, ev_or, ev_orT, ev_orF, ev_not, ev_not1, ev_tnot, ev_tnot1, ev_tand, ev_tandT, ev_tandF, ev_tor, ev_torT, ev_torF, ev_tb, ev_tb1, ev_yes, ev_ife, ev_ifeT, ev_ifeF, ev_ch, ev_ch1, ev_ch2, ev_ch3T, ev_ch3F, ev_ch4, ev_is, ev_isB, ev_notN, ev_call, ev_call1, ev_own, ev_own_1, ev_own_2, ev_own_3, ev_own_4, ev_own_5, ev_ownK, ev_ownK_1, ev_ownK_01, ev_ownK_10, ev_lenT, ev_lenL, ev_lenO, ev_int, ev_intB, ev_abs, ev_min, ev_max, ev_tupT, ev_tupL, ev_listT, ev_listL, ev_meth, ev_meth2, ev_gN, ev_set, ev_set1, ev_gT, ev_gT2, ev_gT3, ev_gnil, ev_gcons, ev_gcons1, ev_iseq, ev_iseqT, ev_iseqL, ev_iseqO, ev_r1, ev_r2, ev_lrg1, ev_sl, ev_sl1, ev_sl3, ev_sl4, ev_on, ev_os, ev_os1, ev_slT, ev_slL, ev_slO, ev_r3, ix_t0, ix_t1, ix_t2, en_pair, en_int, wipeM, List.map_cons, List.map_nil, List.length_cons, List.length_nil, List.replicate_succ, List.replicate_zero, List.cons_append, List.nil_append, List.append_nil, List.set_cons_zero, List.set_cons_succ, Nat.reduceAdd, Nat.reduceSub, Nat.zero_add, if_true, if_false, reduceIte, Int.reduceEq, Int.reduceLT, Int.reduceLE, Bool.false_eq_true, decide_true, decide_false, Bool.not_true, Bool.not_false, List.getElem?_cons_zero, List.getElem?_cons_succ] <;> rfl) ?_, some (.int a), y', z', rfl⟩
    unfold B4_odd_triples
    simp only [ev_seq, ev_seqN, ev_seqR, ev_seqB, ev_seqC, ev_seqE, ev_nil, ev_brk, ev_cnt, ev_retN, ev_expr, ev_expr1, ev_ret, ev_ret1, ev_if, ev_ifT, ev_ifF, ev_asg, ev_asg1, ev_asg2, ev_par, ev_par1, ev_def, ev_defR, ev_defN, ev_var0, ev_varS, ev_k, ev_anil, ev_acons, ev_acons1, ev_acons2, ev_tup, ev_tup_0, ev_tup_1, ev_tup_2, ev_tup_3, ev_lst, ev_lst_0, ev_lst_1, ev_lst_2, ev_lst_3, ev_mkT, ev_mkF, ev_bin, ev_bin1, ev_bin2, ev_un, ev_un1, ev_add, ev_addT, ev_addL, ev_sub, ev_neg, ev_lt, ev_le, ev_gt, ev_ge, ev_eqI, ev_neI, ev_eqB, ev_neB, ev_eqS, ev_neS, ev_and, ev_andT, ev_andF, ev_or, ev_orT, ev_orF, ev_not, ev_not1, ev_tnot, ev_tnot1, ev_tand, ev_tandT, ev_tandF, ev_tor, ev_torT, ev_torF, ev_tb, ev_tb1, ev_yes, ev_ife, ev_ifeT, ev_ifeF, ev_ch, ev_ch1, ev_ch2, ev_ch3T, ev_ch3F, ev_ch4, ev_is, ev_isB, ev_notN, ev_call, ev_call1, ev_own, ev_own_1, ev_own_2, ev_own_3, ev_own_4, ev_own_5, ev_ownK, ev_ownK_1, ev_ownK_01, ev_ownK_10, ev_lenT, ev_lenL, ev_lenO, ev_int, ev_intB, ev_abs, ev_min, ev_max, ev_tupT, ev_tupL, ev_listT, ev_listL, ev_meth, ev_meth2, ev_gN, ev_set, ev_set1, ev_gT, ev_gT2, ev_gT3, ev_gnil, ev_gcons, ev_gcons1, ev_iseq, ev_iseqT, ev_iseqL, ev_iseqO, ev_r1, ev_r2, ev_lrg1, ev_sl, ev_sl1, ev_sl3, ev_sl4, ev_on, ev_os, ev_os1, ev_slT, ev_slL, ev_slO, ev_r3, ix_t0, ix_t1, ix_t2, en_pair, en_int, wipeM, List.map_cons, List.map_nil, List.length_cons, List.length_nil, List.replicate_succ, List.replicate_zero, List.cons_append, List.nil_append, List.append_nil, List.set_cons_zero, List.set_cons_succ, Nat.reduceAdd, Nat.reduceSub, Nat.zero_add, if_true, if_false, reduceIte, Int.reduceEq, Int.reduceLT, Int.reduceLE, Bool.false_eq_true, decide_true, decide_false, Bool.not_true, Bool.not_false, List.getElem?_cons_zero, List.getElem?_cons_succ, e]) [some (web n A), some (.loc 0), none, none, none, none] [] ⟨none, none, none, rfl⟩ (by rw [← tri_eq, List.length_nil, Nat.zero_add]; exact tri_len hn)
  rw [show ([O.lst []] : MH) = [.lst (([] : List Tr).map en)] from rfl, e, ← tri_eq]
  simp only [ev_seq, ev_seqN, ev_seqR, ev_seqB, ev_seqC, ev_seqE, ev_nil, ev_brk, ev_cnt, ev_retN, ev_expr, ev_expr1, ev_ret, ev_ret1, ev_if, ev_ifT, ev_ifF, ev_asg, ev_asg1, ev_asg2, ev_par, ev_par1, ev_def, ev_defR, ev_defN, ev_var0, ev_varS, ev_k, ev_anil, ev_acons, ev_acons1, ev_acons2, ev_tup, ev_tup_0, ev_tup_1, ev_tup_2, ev_tup_3, ev_lst, ev_lst_0, ev_lst_1, ev_lst_2, ev_lst_3, ev_mkT, ev_mkF, ev_bin, ev_bin1, ev_bin2, ev_un, ev_un1, ev_add, ev_addT, ev_addL, ev_sub, ev_neg, ev_lt, ev_le, ev_gt, ev_ge, ev_eqI, ev_neI, ev_eqB, ev_neB, ev_eqS, ev_neS, ev_and, ev_andT, ev_andF, ev_or, ev_orT, ev_orF, ev_not, ev_not1, ev_tnot, ev_tnot1, ev_tand, ev_tandT, ev_tandF, ev_tor, ev_torT, ev_torF, ev_tb, ev_tb1, ev_yes, ev_ife, ev_ifeT, ev_ifeF, ev_ch, ev_ch1, ev_ch2, ev_ch3T, ev_ch3F, ev_ch4, ev_is, ev_isB, ev_notN, ev_call, ev_call1, ev_own, ev_own_1, ev_own_2, ev_own_3, ev_own_4, ev_own_5, ev_ownK, ev_ownK_1, ev_ownK_01, ev_ownK_10, ev_lenT, ev_lenL, ev_lenO, ev_int, ev_intB, ev_abs, ev_min, ev_max, ev_tupT, ev_tupL, ev_listT, ev_listL, ev_meth, ev_meth2, ev_gN, ev_set, ev_set1, ev_gT, ev_gT2, ev_gT3, ev_gnil, ev_gcons, ev_gcons1, ev_iseq, ev_iseqT, ev_iseqL, ev_iseqO, ev_r1, ev_r2, ev_lrg1, ev_sl, ev_sl1, ev_sl3, ev_sl4, ev_on, ev_os, ev_os1, ev_slT, ev_slL, ev_slO, ev_r3, ix_t0, ix_t1, ix_t2, en_pair, en_int, wipeM, List.map_cons, List.map_nil, List.length_cons, List.length_nil, List.replicate_succ, List.replicate_zero, List.cons_append, List.nil_append, List.append_nil, List.set_cons_zero, List.set_cons_succ, Nat.reduceAdd, Nat.reduceSub, Nat.zero_add, if_true, if_false, reduceIte, Int.reduceEq, Int.reduceLT, Int.reduceLE, Bool.false_eq_true, decide_true, decide_false, Bool.not_true, Bool.not_false, List.getElem?_cons_zero, List.getElem?_cons_succ]
  rfl
theorem odd_spec {n : Int} {A : Int → Int → Bool} {h : MH} (hn : n ≤ 100) (h0 : 0 ≤ n) : f_odd_triples [web n A] h = .ok (en (tri n A)) h := cloF_val (by simp only [cloL, web_clo, Bool.and_self]) (odd_body hn h0) (En.clo _)
/-! the law's own: by a dict -/
def keyT (t : Tie) : List Key := [.inl t.1, .inl t.2]
def Known (E : List Tie) (kvs : List (List Key × M)) : Prop := kvs.length ≤ E.length ∧ ∀ t : Tie, (valM kvs (keyT t)).isSome = decide (t ∈ E)
theorem keyT_inj {s t : Tie} (h : keyT s = keyT t) : s = t := by
  obtain ⟨a, b⟩ := s
  obtain ⟨c, d⟩ := t
  simp only [keyT, List.cons.injEq, Sum.inl.injEq, and_true] at h
  rw [h.1, h.2]
theorem Known.snoc {E : List Tie} {kvs : List (List Key × M)} (k : Known E kvs) (t : Tie) (v : M) : Known (E ++ [t]) (putM kvs (keyT t) v) := by
  refine ⟨Nat.le_trans (putM_len _ _ _) (by rw [List.length_append]; exact Nat.add_le_add_right k.1 1), fun s => ?_⟩
  rw [valM_put]
  by_cases h : keyT s = keyT t
  · rw [if_pos h, keyT_inj h]; simp
  · have : s ≠ t := fun e => h (by rw [e])
    rw [if_neg h, k.2]; simp [this]
theorem inM_known {E : List Tie} {kvs : List (List Key × M)} (k : Known E kvs) (a b : Int) (r : MH) : inM false (.tup [.int a, .int b]) (.loc 0) (.dt kvs :: r) = .ok (.bl (decide ((a, b) ∈ E))) (.dt kvs :: r) := by
  have e : dgetM (.dt kvs :: r) (.loc 0) (.tup [.int a, .int b]) = some (valM kvs (keyT (a, b))) := rfl
  unfold inM
  simp only [e, Bool.false_eq_true, if_false, k.2]
theorem tri_body {n : Int} {A : Int → Int → Bool} (hn : n ≤ 100) (h0 : 0 ≤ n) : ∃ h', F__law_triples [web n A] [] = .ok (en (tri n A)) h' := by
  have hc : ∀ i : Int, 0 ≤ i → i ≤ 200 → cR i = true := fun i a b => cR_ok (by omega) (by omega)
  unfold F__law_triples
  have p0 : sPar 1 2 (sCons (mDt [some (web n A), none, none, none, none, none, none, none] []) (aCons (mLst true aNil) aNil) [some (web n A), none, none, none, none, none, none, none]) [some (web n A), none, none, none, none, none, none, none] =
      .nx [some (web n A), some (.loc 0), some (.loc 1), none, none, none, none, none] [.dt [], .lst []] := rfl
  simp only [ev_seq, ev_seqN, ev_seqR, ev_seqB, ev_seqC, ev_seqE, ev_nil, ev_brk, ev_cnt, ev_retN, ev_expr, ev_expr1, ev_ret, ev_ret1, ev_if, ev_ifT, ev_ifF, ev_asg, ev_asg1, ev_asg2, ev_par, ev_par1, ev_def, ev_defR, ev_defN, ev_var0, ev_varS, ev_k, ev_anil, ev_acons, ev_acons1, ev_acons2, ev_tup, ev_tup_0, ev_tup_1, ev_tup_2, ev_tup_3, ev_lst, ev_lst_0, ev_lst_1, ev_lst_2, ev_lst_3, ev_mkT, ev_mkF, ev_bin, ev_bin1, ev_bin2, ev_un, ev_un1, ev_add, ev_addT, ev_addL, ev_sub, ev_neg, ev_lt, ev_le, ev_gt, ev_ge, ev_eqI, ev_neI, ev_eqB, ev_neB, ev_eqS, ev_neS, ev_and, ev_andT, ev_andF, ev_or, ev_orT, ev_orF, ev_not, ev_not1, ev_tnot, ev_tnot1, ev_tand, ev_tandT, ev_tandF, ev_tor, ev_torT, ev_torF, ev_tb, ev_tb1, ev_yes, ev_ife, ev_ifeT, ev_ifeF, ev_ch, ev_ch1, ev_ch2, ev_ch3T, ev_ch3F, ev_ch4, ev_is, ev_isB, ev_notN, ev_call, ev_call1, ev_own, ev_own_1, ev_own_2, ev_own_3, ev_own_4, ev_own_5, ev_ownK, ev_ownK_1, ev_ownK_01, ev_ownK_10, ev_lenT, ev_lenL, ev_lenO, ev_int, ev_intB, ev_abs, ev_min, ev_max, ev_tupT, ev_tupL, ev_listT, ev_listL, ev_meth, ev_meth2, ev_gN, ev_set, ev_set1, ev_gT, ev_gT2, ev_gT3, ev_gnil, ev_gcons, ev_gcons1, ev_iseq, ev_iseqT, ev_iseqL, ev_iseqO, ev_r1, ev_r2, ev_lrg1, ev_sl, ev_sl1, ev_sl3, ev_sl4, ev_on, ev_os, ev_os1, ev_slT, ev_slL, ev_slO, ev_r3, ix_t0, ix_t1, ix_t2, en_pair, en_int, wipeM, List.map_cons, List.map_nil, List.length_cons, List.length_nil, List.replicate_succ, List.replicate_zero, List.cons_append, List.nil_append, List.append_nil, List.set_cons_zero, List.set_cons_succ, Nat.reduceAdd, Nat.reduceSub, Nat.zero_add, if_true, if_false, reduceIte, Int.reduceEq, Int.reduceLT, Int.reduceLE, Bool.false_eq_true, decide_true, decide_false, Bool.not_true, Bool.not_false, List.getElem?_cons_zero, List.getElem?_cons_succ, p0]
  -- known[tie] = True
  rw [xFor_eq (xs := (canon n A).map en) (by simp only [ev_seq, ev_seqN, ev_seqR, ev_seqB, ev_seqC, ev_seqE, ev_nil, ev_brk, ev_cnt, ev_retN, ev_expr, ev_expr1, ev_ret, ev_ret1, ev_if, ev_ifT, ev_ifF, ev_asg, ev_asg1, ev_asg2, ev_par, ev_par1, ev_def, ev_defR, ev_defN, ev_var0, ev_varS, ev_k, ev_anil, ev_acons, ev_acons1, ev_acons2, ev_tup, ev_tup_0, ev_tup_1, ev_tup_2, ev_tup_3, ev_lst, ev_lst_0, ev_lst_1, ev_lst_2, ev_lst_3, ev_mkT, ev_mkF, ev_bin, ev_bin1, ev_bin2, ev_un, ev_un1, ev_add, ev_addT, ev_addL, ev_sub, ev_neg, ev_lt, ev_le, ev_gt, ev_ge, ev_eqI, ev_neI, ev_eqB, ev_neB, ev_eqS, ev_neS, ev_and, ev_andT, ev_andF, ev_or, ev_orT, ev_orF, ev_not, ev_not1, ev_tnot, ev_tnot1, ev_tand, ev_tandT, ev_tandF, ev_tor, ev_torT, ev_torF, ev_tb, ev_tb1, ev_yes, ev_ife, ev_ifeT, ev_ifeF, ev_ch, ev_ch1, ev_ch2, ev_ch3T, ev_ch3F, ev_ch4, ev_is, ev_isB, ev_notN, ev_call, ev_call1, ev_own, ev_own_1, ev_own_2, ev_own_3, ev_own_4, ev_own_5, ev_ownK, ev_ownK_1, ev_ownK_01, ev_ownK_10, ev_lenT, ev_lenL, ev_lenO, ev_int, ev_intB, ev_abs, ev_min, ev_max, ev_tupT, ev_tupL, ev_listT, ev_listL, ev_meth, ev_meth2, ev_gN, ev_set, ev_set1, ev_gT, ev_gT2, ev_gT3, ev_gnil, ev_gcons, ev_gcons1, ev_iseq, ev_iseqT, ev_iseqL, ev_iseqO, ev_r1, ev_r2, ev_lrg1, ev_sl, ev_sl1, ev_sl3, ev_sl4, ev_on, ev_os, ev_os1, ev_slT, ev_slL, ev_slO, ev_r3, ix_t0, ix_t1, ix_t2, en_pair, en_int, wipeM, List.map_cons, List.map_nil, List.length_cons, List.length_nil, List.replicate_succ, List.replicate_zero, List.cons_append, List.nil_append, List.append_nil, List.set_cons_zero, List.set_cons_succ, Nat.reduceAdd, Nat.reduceSub, Nat.zero_add, if_true, if_false, reduceIte, Int.reduceEq, Int.reduceLT, Int.reduceLE, Bool.false_eq_true, decide_true, decide_false, Bool.not_true, Bool.not_false, List.getElem?_cons_zero, List.getElem?_cons_succ, web_eq, En.en] <;> rfl)]
  obtain ⟨ms1, h1, e1, x, kvs, rfl, rfl, kn⟩ := forV_pre (g := gN 3) (body := B3__law_triples) en (canon n A) (fun pre ms h => ∃ x kvs, ms = [some (web n A), some (.loc 0), some (.loc 1), x, none, none, none, none] ∧ h = [.dt kvs, .lst []] ∧ Known pre kvs) (by
    rintro pre t post ms h e ⟨x, kvs, rfl, rfl, kn⟩
    have hl : kvs.length < LIM := by
      have := congrArg List.length e
      have h2 := canon_100 A hn
      rw [List.length_append, List.length_cons] at this
      exact Nat.lt_of_le_of_lt (Nat.le_trans kn.1 (by omega : pre.length ≤ 10000)) (by decide)
    refine ⟨_, _, turn_nx (by simp only [ev_seq, ev_seqN, ev_seqR, ev_seqB, ev_seqC, ev_seqE, ev_nil, ev_brk, ev_cnt, ev_retN, ev_expr, ev_expr1, ev_ret, ev_ret1, ev_if, ev_ifT, ev_ifF, ev_asg, ev_asg1, ev_asg2, ev_par, ev_par1, ev_def, ev_defR, ev_defN, ev_var0, ev_varS, ev_k, ev_anil, ev_acons, ev_acons1, ev_acons2, ev_tup, ev_tup_0, ev_tup_1, ev_tup_2, ev_tup_3, ev_lst, ev_lst_0, ev_lst_1, ev_lst_2, ev_lst_3, ev_mkT, ev_mkF, ev_bin, ev_bin1, ev_bin2, ev_un, ev_un1, ev_add, ev_addT, ev_addL, ev_sub, ev_neg, ev_lt, ev_le, ev_gt, ev_ge, ev_eqI, ev_neI, ev_eqB, ev_neB, ev_eqS, ev_neS, ev_and, ev_andT, ev_andF, ev_or, ev_orT, ev_orF, ev_not, ev_not1, ev_tnot, ev_tnot1, ev_tand, ev_tandT, ev_tandF, ev_tor, ev_torT, ev_torF, ev_tb, ev_tb1, ev_yes, ev_ife, ev_ifeT, ev_ifeF, ev_ch, ev_ch1, ev_ch2, ev_ch3T, ev_ch3F, ev_ch4, ev_is, ev_isB, ev_notN, ev_call, ev_call1, ev_own, ev_own_1, ev_own_2, ev_own_3, ev_own_4, ev_own_5, ev_ownK, ev_ownK_1, ev_ownK_01, ev_ownK_10, ev_lenT, ev_lenL, ev_lenO, ev_int, ev_intB, ev_abs, ev_min, ev_max, ev_tupT, ev_tupL, ev_listT, ev_listL, ev_meth, ev_meth2, ev_gN, ev_set, ev_set1, ev_gT, ev_gT2, ev_gT3, ev_gnil, ev_gcons, ev_gcons1, ev_iseq, ev_iseqT, ev_iseqL, ev_iseqO, ev_r1, ev_r2, ev_lrg1, ev_sl, ev_sl1, ev_sl3, ev_sl4, ev_on, ev_os, ev_os1, ev_slT, ev_slL, ev_slO, ev_r3, ix_t0, ix_t1, ix_t2, en_pair, en_int, wipeM, List.map_cons, List.map_nil, List.length_cons, List.length_nil, List.replicate_succ, List.replicate_zero, List.cons_append, List.nil_append, List.append_nil, List.set_cons_zero, List.set_cons_succ, Nat.reduceAdd, Nat.reduceSub, Nat.zero_add, if_true, if_false, reduceIte, Int.reduceEq, Int.reduceLT, Int.reduceLE, Bool.false_eq_true, decide_true, decide_false, Bool.not_true, Bool.not_false, List.getElem?_cons_zero, List.getElem?_cons_succ] <;> rfl) ?_, some (en t), _, rfl, rfl, kn.snoc t (.bl true)⟩
    unfold B3__law_triples
    simp only [ev_seq, ev_seqN, ev_seqR, ev_seqB, ev_seqC, ev_seqE, ev_nil, ev_brk, ev_cnt, ev_retN, ev_expr, ev_expr1, ev_ret, ev_ret1, ev_if, ev_ifT, ev_ifF, ev_asg, ev_asg1, ev_asg2, ev_par, ev_par1, ev_def, ev_defR, ev_defN, ev_var0, ev_varS, ev_k, ev_anil, ev_acons, ev_acons1, ev_acons2, ev_tup, ev_tup_0, ev_tup_1, ev_tup_2, ev_tup_3, ev_lst, ev_lst_0, ev_lst_1, ev_lst_2, ev_lst_3, ev_mkT, ev_mkF, ev_bin, ev_bin1, ev_bin2, ev_un, ev_un1, ev_add, ev_addT, ev_addL, ev_sub, ev_neg, ev_lt, ev_le, ev_gt, ev_ge, ev_eqI, ev_neI, ev_eqB, ev_neB, ev_eqS, ev_neS, ev_and, ev_andT, ev_andF, ev_or, ev_orT, ev_orF, ev_not, ev_not1, ev_tnot, ev_tnot1, ev_tand, ev_tandT, ev_tandF, ev_tor, ev_torT, ev_torF, ev_tb, ev_tb1, ev_yes, ev_ife, ev_ifeT, ev_ifeF, ev_ch, ev_ch1, ev_ch2, ev_ch3T, ev_ch3F, ev_ch4, ev_is, ev_isB, ev_notN, ev_call, ev_call1, ev_own, ev_own_1, ev_own_2, ev_own_3, ev_own_4, ev_own_5, ev_ownK, ev_ownK_1, ev_ownK_01, ev_ownK_10, ev_lenT, ev_lenL, ev_lenO, ev_int, ev_intB, ev_abs, ev_min, ev_max, ev_tupT, ev_tupL, ev_listT, ev_listL, ev_meth, ev_meth2, ev_gN, ev_set, ev_set1, ev_gT, ev_gT2, ev_gT3, ev_gnil, ev_gcons, ev_gcons1, ev_iseq, ev_iseqT, ev_iseqL, ev_iseqO, ev_r1, ev_r2, ev_lrg1, ev_sl, ev_sl1, ev_sl3, ev_sl4, ev_on, ev_os, ev_os1, ev_slT, ev_slL, ev_slO, ev_r3, ix_t0, ix_t1, ix_t2, en_pair, en_int, wipeM, List.map_cons, List.map_nil, List.length_cons, List.length_nil, List.replicate_succ, List.replicate_zero, List.cons_append, List.nil_append, List.append_nil, List.set_cons_zero, List.set_cons_succ, Nat.reduceAdd, Nat.reduceSub, Nat.zero_add, if_true, if_false, reduceIte, Int.reduceEq, Int.reduceLT, Int.reduceLE, Bool.false_eq_true, decide_true, decide_false, Bool.not_true, Bool.not_false, List.getElem?_cons_zero, List.getElem?_cons_succ]
    have es : setM (.loc 0) (en t) (.bl true) [.dt kvs, .lst []] = some [.dt (putM kvs (keyT t) (.bl true)), .lst []] := by
      show (if kvs.length < LIM then some _ else none) = _
      rw [if_pos hl]
      rfl
    rw [ev_set2 es]
    simp only [ev_seq, ev_seqN, ev_seqR, ev_seqB, ev_seqC, ev_seqE, ev_nil, ev_brk, ev_cnt, ev_retN, ev_expr, ev_expr1, ev_ret, ev_ret1, ev_if, ev_ifT, ev_ifF, ev_asg, ev_asg1, ev_asg2, ev_par, ev_par1, ev_def, ev_defR, ev_defN, ev_var0, ev_varS, ev_k, ev_anil, ev_acons, ev_acons1, ev_acons2, ev_tup, ev_tup_0, ev_tup_1, ev_tup_2, ev_tup_3, ev_lst, ev_lst_0, ev_lst_1, ev_lst_2, ev_lst_3, ev_mkT, ev_mkF, ev_bin, ev_bin1, ev_bin2, ev_un, ev_un1, ev_add, ev_addT, ev_addL, ev_sub, ev_neg, ev_lt, ev_le, ev_gt, ev_ge, ev_eqI, ev_neI, ev_eqB, ev_neB, ev_eqS, ev_neS, ev_and, ev_andT, ev_andF, ev_or, ev_orT, ev_orF, ev_not, ev_not1, ev_tnot, ev_tnot1, ev_tand, ev_tandT, ev_tandF, ev_tor, ev_torT, ev_torF, ev_tb, ev_tb1, ev_yes, ev_ife, ev_ifeT, ev_ifeF, ev_ch, ev_ch1, ev_ch2, ev_ch3T, ev_ch3F, ev_ch4, ev_is, ev_isB, ev_notN, ev_call, ev_call1, ev_own, ev_own_1, ev_own_2, ev_own_3, ev_own_4, ev_own_5, ev_ownK, ev_ownK_1, ev_ownK_01, ev_ownK_10, ev_lenT, ev_lenL, ev_lenO, ev_int, ev_intB, ev_abs, ev_min, ev_max, ev_tupT, ev_tupL, ev_listT, ev_listL, ev_meth, ev_meth2, ev_gN, ev_set, ev_set1, ev_gT, ev_gT2, ev_gT3, ev_gnil, ev_gcons, ev_gcons1, ev_iseq, ev_iseqT, ev_iseqL, ev_iseqO, ev_r1, ev_r2, ev_lrg1, ev_sl, ev_sl1, ev_sl3, ev_sl4, ev_on, ev_os, ev_os1, ev_slT, ev_slL, ev_slO, ev_r3, ix_t0, ix_t1, ix_t2, en_pair, en_int, wipeM, List.map_cons, List.map_nil, List.length_cons, List.length_nil, List.replicate_succ, List.replicate_zero, List.cons_append, List.nil_append, List.append_nil, List.set_cons_zero, List.set_cons_succ, Nat.reduceAdd, Nat.reduceSub, Nat.zero_add, if_true, if_false, reduceIte, Int.reduceEq, Int.reduceLT, Int.reduceLE, Bool.false_eq_true, decide_true, decide_false, Bool.not_true, Bool.not_false, List.getElem?_cons_zero, List.getElem?_cons_succ]) (ms := [some (web n A), some (.loc 0), some (.loc 1), none, none, none, none, none]) (h := [.dt [], .lst []]) ⟨none, [], rfl, rfl, Nat.le_refl _, fun t => by simp [valM_nil]⟩
  simp only [ev_seq, ev_seqN, ev_seqR, ev_seqB, ev_seqC, ev_seqE, ev_nil, ev_brk, ev_cnt, ev_retN, ev_expr, ev_expr1, ev_ret, ev_ret1, ev_if, ev_ifT, ev_ifF, ev_asg, ev_asg1, ev_asg2, ev_par, ev_par1, ev_def, ev_defR, ev_defN, ev_var0, ev_varS, ev_k, ev_anil, ev_acons, ev_acons1, ev_acons2, ev_tup, ev_tup_0, ev_tup_1, ev_tup_2, ev_tup_3, ev_lst, ev_lst_0, ev_lst_1, ev_lst_2, ev_lst_3, ev_mkT, ev_mkF, ev_bin, ev_bin1, ev_bin2, ev_un, ev_un1, ev_add, ev_addT, ev_addL, ev_sub, ev_neg, ev_lt, ev_le, ev_gt, ev_ge, ev_eqI, ev_neI, ev_eqB, ev_neB, ev_eqS, ev_neS, ev_and, ev_andT, ev_andF, ev_or, ev_orT, ev_orF, ev_not, ev_not1, ev_tnot, ev_tnot1, ev_tand, ev_tandT, ev_tandF, ev_tor, ev_torT, ev_torF, ev_tb, ev_tb1, ev_yes, ev_ife, ev_ifeT, ev_ifeF, ev_ch, ev_ch1, ev_ch2, ev_ch3T, ev_ch3F, ev_ch4, ev_is, ev_isB, ev_notN, ev_call, ev_call1, ev_own, ev_own_1, ev_own_2, ev_own_3, ev_own_4, ev_own_5, ev_ownK, ev_ownK_1, ev_ownK_01, ev_ownK_10, ev_lenT, ev_lenL, ev_lenO, ev_int, ev_intB, ev_abs, ev_min, ev_max, ev_tupT, ev_tupL, ev_listT, ev_listL, ev_meth, ev_meth2, ev_gN, ev_set, ev_set1, ev_gT, ev_gT2, ev_gT3, ev_gnil, ev_gcons, ev_gcons1, ev_iseq, ev_iseqT, ev_iseqL, ev_iseqO, ev_r1, ev_r2, ev_lrg1, ev_sl, ev_sl1, ev_sl3, ev_sl4, ev_on, ev_os, ev_os1, ev_slT, ev_slL, ev_slO, ev_r3, ix_t0, ix_t1, ix_t2, en_pair, en_int, wipeM, List.map_cons, List.map_nil, List.length_cons, List.length_nil, List.replicate_succ, List.replicate_zero, List.cons_append, List.nil_append, List.append_nil, List.set_cons_zero, List.set_cons_succ, Nat.reduceAdd, Nat.reduceSub, Nat.zero_add, if_true, if_false, reduceIte, Int.reduceEq, Int.reduceLT, Int.reduceLE, Bool.false_eq_true, decide_true, decide_false, Bool.not_true, Bool.not_false, List.getElem?_cons_zero, List.getElem?_cons_succ, e1]
  -- the triples
  have hcg : cRg 0 n = true := cRg_yes (by omega) (by omega) (by omega) (by omega) (by omega)
  rw [xFor_eq (xs := (pairsL n).map en) (by
    simp only [ev_seq, ev_seqN, ev_seqR, ev_seqB, ev_seqC, ev_seqE, ev_nil, ev_brk, ev_cnt, ev_retN, ev_expr, ev_expr1, ev_ret, ev_ret1, ev_if, ev_ifT, ev_ifF, ev_asg, ev_asg1, ev_asg2, ev_par, ev_par1, ev_def, ev_defR, ev_defN, ev_var0, ev_varS, ev_k, ev_anil, ev_acons, ev_acons1, ev_acons2, ev_tup, ev_tup_0, ev_tup_1, ev_tup_2, ev_tup_3, ev_lst, ev_lst_0, ev_lst_1, ev_lst_2, ev_lst_3, ev_mkT, ev_mkF, ev_bin, ev_bin1, ev_bin2, ev_un, ev_un1, ev_add, ev_addT, ev_addL, ev_sub, ev_neg, ev_lt, ev_le, ev_gt, ev_ge, ev_eqI, ev_neI, ev_eqB, ev_neB, ev_eqS, ev_neS, ev_and, ev_andT, ev_andF, ev_or, ev_orT, ev_orF, ev_not, ev_not1, ev_tnot, ev_tnot1, ev_tand, ev_tandT, ev_tandF, ev_tor, ev_torT, ev_torF, ev_tb, ev_tb1, ev_yes, ev_ife, ev_ifeT, ev_ifeF, ev_ch, ev_ch1, ev_ch2, ev_ch3T, ev_ch3F, ev_ch4, ev_is, ev_isB, ev_notN, ev_call, ev_call1, ev_own, ev_own_1, ev_own_2, ev_own_3, ev_own_4, ev_own_5, ev_ownK, ev_ownK_1, ev_ownK_01, ev_ownK_10, ev_lenT, ev_lenL, ev_lenO, ev_int, ev_intB, ev_abs, ev_min, ev_max, ev_tupT, ev_tupL, ev_listT, ev_listL, ev_meth, ev_meth2, ev_gN, ev_set, ev_set1, ev_gT, ev_gT2, ev_gT3, ev_gnil, ev_gcons, ev_gcons1, ev_iseq, ev_iseqT, ev_iseqL, ev_iseqO, ev_r1, ev_r2, ev_lrg1, ev_sl, ev_sl1, ev_sl3, ev_sl4, ev_on, ev_os, ev_os1, ev_slT, ev_slL, ev_slO, ev_r3, ix_t0, ix_t1, ix_t2, en_pair, en_int, wipeM, List.map_cons, List.map_nil, List.length_cons, List.length_nil, List.replicate_succ, List.replicate_zero, List.cons_append, List.nil_append, List.append_nil, List.set_cons_zero, List.set_cons_succ, Nat.reduceAdd, Nat.reduceSub, Nat.zero_add, if_true, if_false, reduceIte, Int.reduceEq, Int.reduceLT, Int.reduceLE, Bool.false_eq_true, decide_true, decide_false, Bool.not_true, Bool.not_false, List.getElem?_cons_zero, List.getElem?_cons_succ, web_eq, ev_lrg1', hcg]
    rw [pairs_spec (by rw [irg_length]; omega), pairsOf_pairsL]
    simp only [ev_seq, ev_seqN, ev_seqR, ev_seqB, ev_seqC, ev_seqE, ev_nil, ev_brk, ev_cnt, ev_retN, ev_expr, ev_expr1, ev_ret, ev_ret1, ev_if, ev_ifT, ev_ifF, ev_asg, ev_asg1, ev_asg2, ev_par, ev_par1, ev_def, ev_defR, ev_defN, ev_var0, ev_varS, ev_k, ev_anil, ev_acons, ev_acons1, ev_acons2, ev_tup, ev_tup_0, ev_tup_1, ev_tup_2, ev_tup_3, ev_lst, ev_lst_0, ev_lst_1, ev_lst_2, ev_lst_3, ev_mkT, ev_mkF, ev_bin, ev_bin1, ev_bin2, ev_un, ev_un1, ev_add, ev_addT, ev_addL, ev_sub, ev_neg, ev_lt, ev_le, ev_gt, ev_ge, ev_eqI, ev_neI, ev_eqB, ev_neB, ev_eqS, ev_neS, ev_and, ev_andT, ev_andF, ev_or, ev_orT, ev_orF, ev_not, ev_not1, ev_tnot, ev_tnot1, ev_tand, ev_tandT, ev_tandF, ev_tor, ev_torT, ev_torF, ev_tb, ev_tb1, ev_yes, ev_ife, ev_ifeT, ev_ifeF, ev_ch, ev_ch1, ev_ch2, ev_ch3T, ev_ch3F, ev_ch4, ev_is, ev_isB, ev_notN, ev_call, ev_call1, ev_own, ev_own_1, ev_own_2, ev_own_3, ev_own_4, ev_own_5, ev_ownK, ev_ownK_1, ev_ownK_01, ev_ownK_10, ev_lenT, ev_lenL, ev_lenO, ev_int, ev_intB, ev_abs, ev_min, ev_max, ev_tupT, ev_tupL, ev_listT, ev_listL, ev_meth, ev_meth2, ev_gN, ev_set, ev_set1, ev_gT, ev_gT2, ev_gT3, ev_gnil, ev_gcons, ev_gcons1, ev_iseq, ev_iseqT, ev_iseqL, ev_iseqO, ev_r1, ev_r2, ev_lrg1, ev_sl, ev_sl1, ev_sl3, ev_sl4, ev_on, ev_os, ev_os1, ev_slT, ev_slL, ev_slO, ev_r3, ix_t0, ix_t1, ix_t2, en_pair, en_int, wipeM, List.map_cons, List.map_nil, List.length_cons, List.length_nil, List.replicate_succ, List.replicate_zero, List.cons_append, List.nil_append, List.append_nil, List.set_cons_zero, List.set_cons_succ, Nat.reduceAdd, Nat.reduceSub, Nat.zero_add, if_true, if_false, reduceIte, Int.reduceEq, Int.reduceLT, Int.reduceLE, Bool.false_eq_true, decide_true, decide_false, Bool.not_true, Bool.not_false, List.getElem?_cons_zero, List.getElem?_cons_succ] <;> rfl)]
  obtain ⟨ms2, e2, x2, x4, x5, x6, x7, rfl⟩ := for_acc (g := gT 2 (gsCons (gN 4) (gsCons (gN 5) gsNil))) (body := B2__law_triples) en (fun t : Tie => triF n A t.1 t.2) (fun ms => ∃ x3 x4 x5 x6 x7, ms = [some (web n A), some (.loc 0), some (.loc 1), x3, x4, x5, x6, x7]) (fun xs : List Tr => [.dt kvs, .lst (xs.map en)]) 1000000 (pairsL n) (by
    rintro ⟨a, b⟩ ht ms xs ⟨x3, x4, x5, x6, x7, rfl⟩ hl
    rw [mem_pairsL] at ht
    have in3 : ∃ ms', xFor (iRange2 (aCons (mBin (addM false) (mVar 5) (mK (.int 1))) (aCons (mBin ixM (mVar 0) (mK (.int 0))) aNil))) (gN 6) B1__law_triples [some (web n A), some (.loc 0), some (.loc 1), x3, some (.int a), some (.int b), x6, x7] [.dt kvs, .lst (xs.map en)] = .nx ms' [.dt kvs, .lst ((xs ++ triF n A a b).map en)] ∧
        ∃ x6 x7, ms' = [some (web n A), some (.loc 0), some (.loc 1), x3, some (.int a), some (.int b), x6, x7] := by
      rw [xFor_eq (xs := (irg (b + 1) n).map M.int) (by simp only [ev_seq, ev_seqN, ev_seqR, ev_seqB, ev_seqC, ev_seqE, ev_nil, ev_brk, ev_cnt, ev_retN, ev_expr, ev_expr1, ev_ret, ev_ret1, ev_if, ev_ifT, ev_ifF, ev_asg, ev_asg1, ev_asg2, ev_par, ev_par1, ev_def, ev_defR, ev_defN, ev_var0, ev_varS, ev_k, ev_anil, ev_acons, ev_acons1, ev_acons2, ev_tup, ev_tup_0, ev_tup_1, ev_tup_2, ev_tup_3, ev_lst, ev_lst_0, ev_lst_1, ev_lst_2, ev_lst_3, ev_mkT, ev_mkF, ev_bin, ev_bin1, ev_bin2, ev_un, ev_un1, ev_add, ev_addT, ev_addL, ev_sub, ev_neg, ev_lt, ev_le, ev_gt, ev_ge, ev_eqI, ev_neI, ev_eqB, ev_neB, ev_eqS, ev_neS, ev_and, ev_andT, ev_andF, ev_or, ev_orT, ev_orF, ev_not, ev_not1, ev_tnot, ev_tnot1, ev_tand, ev_tandT, ev_tandF, ev_tor, ev_torT, ev_torF, ev_tb, ev_tb1, ev_yes, ev_ife, ev_ifeT, ev_ifeF, ev_ch, ev_ch1, ev_ch2, ev_ch3T, ev_ch3F, ev_ch4, ev_is, ev_isB, ev_notN, ev_call, ev_call1, ev_own, ev_own_1, ev_own_2, ev_own_3, ev_own_4, ev_own_5, ev_ownK, ev_ownK_1, ev_ownK_01, ev_ownK_10, ev_lenT, ev_lenL, ev_lenO, ev_int, ev_intB, ev_abs, ev_min, ev_max, ev_tupT, ev_tupL, ev_listT, ev_listL, ev_meth, ev_meth2, ev_gN, ev_set, ev_set1, ev_gT, ev_gT2, ev_gT3, ev_gnil, ev_gcons, ev_gcons1, ev_iseq, ev_iseqT, ev_iseqL, ev_iseqO, ev_r1, ev_r2, ev_lrg1, ev_sl, ev_sl1, ev_sl3, ev_sl4, ev_on, ev_os, ev_os1, ev_slT, ev_slL, ev_slO, ev_r3, ix_t0, ix_t1, ix_t2, en_pair, en_int, wipeM, List.map_cons, List.map_nil, List.length_cons, List.length_nil, List.replicate_succ, List.replicate_zero, List.cons_append, List.nil_append, List.append_nil, List.set_cons_zero, List.set_cons_succ, Nat.reduceAdd, Nat.reduceSub, Nat.zero_add, if_true, if_false, reduceIte, Int.reduceEq, Int.reduceLT, Int.reduceLE, Bool.false_eq_true, decide_true, decide_false, Bool.not_true, Bool.not_false, List.getElem?_cons_zero, List.getElem?_cons_succ, web_eq, ev_r2', hc n h0 (by omega), hc (b + 1) (by omega) (by omega), Bool.and_self] <;> rfl)]
      have key : ∀ as : List Int, (as.flatMap fun c => if odd3 A a b c = true then [Tr.mk a b c] else []) = (as.filter fun c => odd3 A a b c).map fun c => ⟨a, b, c⟩ := fun as => by
        induction as with
        | nil => rfl
        | cons c as ih => rw [List.flatMap_cons, ih, List.filter_cons]; split <;> simp
      have := for_acc (g := gN 6) (body := B1__law_triples) M.int (fun c => if odd3 A a b c = true then [Tr.mk a b c] else []) (fun ms => ∃ x6 x7, ms = [some (web n A), some (.loc 0), some (.loc 1), x3, some (.int a), some (.int b), x6, x7]) (fun xs : List Tr => [.dt kvs, .lst (xs.map en)]) 1000000 (irg (b + 1) n) ?_ [some (web n A), some (.loc 0), some (.loc 1), x3, some (.int a), some (.int b), x6, x7] xs ⟨x6, x7, rfl⟩ (by rw [key]; exact hl)
      · rw [key] at this; exact this
      rintro c hcc ms xs ⟨x6, x7, rfl⟩ hl
      rw [mem_irg] at hcc
      have d1 := mem_canon' (A := A) ht.1 (by show a < b; omega) (by omega : b < n)
      have d2 := mem_canon' (A := A) ht.1 (by show a < c; omega) hcc.2
      have d3 := mem_canon' (A := A) (by have := ht.1; have := ht.2.1; omega : (0 : Int) ≤ b) (by omega : b < c) hcc.2
      have ev : decide ((((if A a b = true then 1 else 0) + if A a c = true then 1 else 0) + (if A b c = true then 1 else 0) : Int) % 2 = 1) = odd3 A a b c := by
        unfold odd3
        cases A a b <;> cases A a c <;> cases A b c <;> simp
      have hm : ∀ i : Int, cMod i 2 = true := fun i => rfl
      refine ⟨_, turn_nx (by simp only [ev_seq, ev_seqN, ev_seqR, ev_seqB, ev_seqC, ev_seqE, ev_nil, ev_brk, ev_cnt, ev_retN, ev_expr, ev_expr1, ev_ret, ev_ret1, ev_if, ev_ifT, ev_ifF, ev_asg, ev_asg1, ev_asg2, ev_par, ev_par1, ev_def, ev_defR, ev_defN, ev_var0, ev_varS, ev_k, ev_anil, ev_acons, ev_acons1, ev_acons2, ev_tup, ev_tup_0, ev_tup_1, ev_tup_2, ev_tup_3, ev_lst, ev_lst_0, ev_lst_1, ev_lst_2, ev_lst_3, ev_mkT, ev_mkF, ev_bin, ev_bin1, ev_bin2, ev_un, ev_un1, ev_add, ev_addT, ev_addL, ev_sub, ev_neg, ev_lt, ev_le, ev_gt, ev_ge, ev_eqI, ev_neI, ev_eqB, ev_neB, ev_eqS, ev_neS, ev_and, ev_andT, ev_andF, ev_or, ev_orT, ev_orF, ev_not, ev_not1, ev_tnot, ev_tnot1, ev_tand, ev_tandT, ev_tandF, ev_tor, ev_torT, ev_torF, ev_tb, ev_tb1, ev_yes, ev_ife, ev_ifeT, ev_ifeF, ev_ch, ev_ch1, ev_ch2, ev_ch3T, ev_ch3F, ev_ch4, ev_is, ev_isB, ev_notN, ev_call, ev_call1, ev_own, ev_own_1, ev_own_2, ev_own_3, ev_own_4, ev_own_5, ev_ownK, ev_ownK_1, ev_ownK_01, ev_ownK_10, ev_lenT, ev_lenL, ev_lenO, ev_int, ev_intB, ev_abs, ev_min, ev_max, ev_tupT, ev_tupL, ev_listT, ev_listL, ev_meth, ev_meth2, ev_gN, ev_set, ev_set1, ev_gT, ev_gT2, ev_gT3, ev_gnil, ev_gcons, ev_gcons1, ev_iseq, ev_iseqT, ev_iseqL, ev_iseqO, ev_r1, ev_r2, ev_lrg1, ev_sl, ev_sl1, ev_sl3, ev_sl4, ev_on, ev_os, ev_os1, ev_slT, ev_slL, ev_slO, ev_r3, ix_t0, ix_t1, ix_t2, en_pair, en_int, wipeM, List.map_cons, List.map_nil, List.length_cons, List.length_nil, List.replicate_succ, List.replicate_zero, List.cons_append, List.nil_append, List.append_nil, List.set_cons_zero, List.set_cons_succ, Nat.reduceAdd, Nat.reduceSub, Nat.zero_add, if_true, if_false, reduceIte, Int.reduceEq, Int.reduceLT, Int.reduceLE, Bool.false_eq_true, decide_true, decide_false, Bool.not_true, Bool.not_false, List.getElem?_cons_zero, List.getElem?_cons_succ] <;> rfl) ?_, some (.int c), some (.int (((if A a b = true then 1 else 0) + if A a c = true then 1 else 0) + if A b c = true then 1 else 0)), rfl⟩
      unfold B1__law_triples
      simp only [ev_seq, ev_seqN, ev_seqR, ev_seqB, ev_seqC, ev_seqE, ev_nil, ev_brk, ev_cnt, ev_retN, ev_expr, ev_expr1, ev_ret, ev_ret1, ev_if, ev_ifT, ev_ifF, ev_asg, ev_asg1, ev_asg2, ev_par, ev_par1, ev_def, ev_defR, ev_defN, ev_var0, ev_varS, ev_k, ev_anil, ev_acons, ev_acons1, ev_acons2, ev_tup, ev_tup_0, ev_tup_1, ev_tup_2, ev_tup_3, ev_lst, ev_lst_0, ev_lst_1, ev_lst_2, ev_lst_3, ev_mkT, ev_mkF, ev_bin, ev_bin1, ev_bin2, ev_un, ev_un1, ev_add, ev_addT, ev_addL, ev_sub, ev_neg, ev_lt, ev_le, ev_gt, ev_ge, ev_eqI, ev_neI, ev_eqB, ev_neB, ev_eqS, ev_neS, ev_and, ev_andT, ev_andF, ev_or, ev_orT, ev_orF, ev_not, ev_not1, ev_tnot, ev_tnot1, ev_tand, ev_tandT, ev_tandF, ev_tor, ev_torT, ev_torF, ev_tb, ev_tb1, ev_yes, ev_ife, ev_ifeT, ev_ifeF, ev_ch, ev_ch1, ev_ch2, ev_ch3T, ev_ch3F, ev_ch4, ev_is, ev_isB, ev_notN, ev_call, ev_call1, ev_own, ev_own_1, ev_own_2, ev_own_3, ev_own_4, ev_own_5, ev_ownK, ev_ownK_1, ev_ownK_01, ev_ownK_10, ev_lenT, ev_lenL, ev_lenO, ev_int, ev_intB, ev_abs, ev_min, ev_max, ev_tupT, ev_tupL, ev_listT, ev_listL, ev_meth, ev_meth2, ev_gN, ev_set, ev_set1, ev_gT, ev_gT2, ev_gT3, ev_gnil, ev_gcons, ev_gcons1, ev_iseq, ev_iseqT, ev_iseqL, ev_iseqO, ev_r1, ev_r2, ev_lrg1, ev_sl, ev_sl1, ev_sl3, ev_sl4, ev_on, ev_os, ev_os1, ev_slT, ev_slL, ev_slO, ev_r3, ix_t0, ix_t1, ix_t2, en_pair, en_int, wipeM, List.map_cons, List.map_nil, List.length_cons, List.length_nil, List.replicate_succ, List.replicate_zero, List.cons_append, List.nil_append, List.append_nil, List.set_cons_zero, List.set_cons_succ, Nat.reduceAdd, Nat.reduceSub, Nat.zero_add, if_true, if_false, reduceIte, Int.reduceEq, Int.reduceLT, Int.reduceLE, Bool.false_eq_true, decide_true, decide_false, Bool.not_true, Bool.not_false, List.getElem?_cons_zero, List.getElem?_cons_succ, inM_known kn, d1, d2, d3, ev_mod, hm, ev]
      cases q : odd3 A a b c with
      | false => simp only [ev_seq, ev_seqN, ev_seqR, ev_seqB, ev_seqC, ev_seqE, ev_nil, ev_brk, ev_cnt, ev_retN, ev_expr, ev_expr1, ev_ret, ev_ret1, ev_if, ev_ifT, ev_ifF, ev_asg, ev_asg1, ev_asg2, ev_par, ev_par1, ev_def, ev_defR, ev_defN, ev_var0, ev_varS, ev_k, ev_anil, ev_acons, ev_acons1, ev_acons2, ev_tup, ev_tup_0, ev_tup_1, ev_tup_2, ev_tup_3, ev_lst, ev_lst_0, ev_lst_1, ev_lst_2, ev_lst_3, ev_mkT, ev_mkF, ev_bin, ev_bin1, ev_bin2, ev_un, ev_un1, ev_add, ev_addT, ev_addL, ev_sub, ev_neg, ev_lt, ev_le, ev_gt, ev_ge, ev_eqI, ev_neI, ev_eqB, ev_neB, ev_eqS, ev_neS, ev_and, ev_andT, ev_andF, ev_or, ev_orT, ev_orF, ev_not, ev_not1, ev_tnot, ev_tnot1, ev_tand, ev_tandT, ev_tandF, ev_tor, ev_torT, ev_torF, ev_tb, ev_tb1, ev_yes, ev_ife, ev_ifeT, ev_ifeF, ev_ch, ev_ch1, ev_ch2, ev_ch3T, ev_ch3F, ev_ch4, ev_is, ev_isB, ev_notN, ev_call, ev_call1, ev_own, ev_own_1, ev_own_2, ev_own_3, ev_own_4, ev_own_5, ev_ownK, ev_ownK_1, ev_ownK_01, ev_ownK_10, ev_lenT, ev_lenL, ev_lenO, ev_int, ev_intB, ev_abs, ev_min, ev_max, ev_tupT, ev_tupL, ev_listT, ev_listL, ev_meth, ev_meth2, ev_gN, ev_set, ev_set1, ev_gT, ev_gT2, ev_gT3, ev_gnil, ev_gcons, ev_gcons1, ev_iseq, ev_iseqT, ev_iseqL, ev_iseqO, ev_r1, ev_r2, ev_lrg1, ev_sl, ev_sl1, ev_sl3, ev_sl4, ev_on, ev_os, ev_os1, ev_slT, ev_slL, ev_slO, ev_r3, ix_t0, ix_t1, ix_t2, en_pair, en_int, wipeM, List.map_cons, List.map_nil, List.length_cons, List.length_nil, List.replicate_succ, List.replicate_zero, List.cons_append, List.nil_append, List.append_nil, List.set_cons_zero, List.set_cons_succ, Nat.reduceAdd, Nat.reduceSub, Nat.zero_add, if_true, if_false, reduceIte, Int.reduceEq, Int.reduceLT, Int.reduceLE, Bool.false_eq_true, decide_true, decide_false, Bool.not_true, Bool.not_false, List.getElem?_cons_zero, List.getElem?_cons_succ]
      | true =>
        have hx : xs.length ≤ 999999 := by rw [q] at hl; simpa using hl
        simp only [ev_seq, ev_seqN, ev_seqR, ev_seqB, ev_seqC, ev_seqE, ev_nil, ev_brk, ev_cnt, ev_retN, ev_expr, ev_expr1, ev_ret, ev_ret1, ev_if, ev_ifT, ev_ifF, ev_asg, ev_asg1, ev_asg2, ev_par, ev_par1, ev_def, ev_defR, ev_defN, ev_var0, ev_varS, ev_k, ev_anil, ev_acons, ev_acons1, ev_acons2, ev_tup, ev_tup_0, ev_tup_1, ev_tup_2, ev_tup_3, ev_lst, ev_lst_0, ev_lst_1, ev_lst_2, ev_lst_3, ev_mkT, ev_mkF, ev_bin, ev_bin1, ev_bin2, ev_un, ev_un1, ev_add, ev_addT, ev_addL, ev_sub, ev_neg, ev_lt, ev_le, ev_gt, ev_ge, ev_eqI, ev_neI, ev_eqB, ev_neB, ev_eqS, ev_neS, ev_and, ev_andT, ev_andF, ev_or, ev_orT, ev_orF, ev_not, ev_not1, ev_tnot, ev_tnot1, ev_tand, ev_tandT, ev_tandF, ev_tor, ev_torT, ev_torF, ev_tb, ev_tb1, ev_yes, ev_ife, ev_ifeT, ev_ifeF, ev_ch, ev_ch1, ev_ch2, ev_ch3T, ev_ch3F, ev_ch4, ev_is, ev_isB, ev_notN, ev_call, ev_call1, ev_own, ev_own_1, ev_own_2, ev_own_3, ev_own_4, ev_own_5, ev_ownK, ev_ownK_1, ev_ownK_01, ev_ownK_10, ev_lenT, ev_lenL, ev_lenO, ev_int, ev_intB, ev_abs, ev_min, ev_max, ev_tupT, ev_tupL, ev_listT, ev_listL, ev_meth, ev_meth2, ev_gN, ev_set, ev_set1, ev_gT, ev_gT2, ev_gT3, ev_gnil, ev_gcons, ev_gcons1, ev_iseq, ev_iseqT, ev_iseqL, ev_iseqO, ev_r1, ev_r2, ev_lrg1, ev_sl, ev_sl1, ev_sl3, ev_sl4, ev_on, ev_os, ev_os1, ev_slT, ev_slL, ev_slO, ev_r3, ix_t0, ix_t1, ix_t2, en_pair, en_int, wipeM, List.map_cons, List.map_nil, List.length_cons, List.length_nil, List.replicate_succ, List.replicate_zero, List.cons_append, List.nil_append, List.append_nil, List.set_cons_zero, List.set_cons_succ, Nat.reduceAdd, Nat.reduceSub, Nat.zero_add, if_true, if_false, reduceIte, Int.reduceEq, Int.reduceLT, Int.reduceLE, Bool.false_eq_true, decide_true, decide_false, Bool.not_true, Bool.not_false, List.getElem?_cons_zero, List.getElem?_cons_succ, ev_meth1]
        rw [ev_typL 1 _ _ rfl]
        simp only [ev_seq, ev_seqN, ev_seqR, ev_seqB, ev_seqC, ev_seqE, ev_nil, ev_brk, ev_cnt, ev_retN, ev_expr, ev_expr1, ev_ret, ev_ret1, ev_if, ev_ifT, ev_ifF, ev_asg, ev_asg1, ev_asg2, ev_par, ev_par1, ev_def, ev_defR, ev_defN, ev_var0, ev_varS, ev_k, ev_anil, ev_acons, ev_acons1, ev_acons2, ev_tup, ev_tup_0, ev_tup_1, ev_tup_2, ev_tup_3, ev_lst, ev_lst_0, ev_lst_1, ev_lst_2, ev_lst_3, ev_mkT, ev_mkF, ev_bin, ev_bin1, ev_bin2, ev_un, ev_un1, ev_add, ev_addT, ev_addL, ev_sub, ev_neg, ev_lt, ev_le, ev_gt, ev_ge, ev_eqI, ev_neI, ev_eqB, ev_neB, ev_eqS, ev_neS, ev_and, ev_andT, ev_andF, ev_or, ev_orT, ev_orF, ev_not, ev_not1, ev_tnot, ev_tnot1, ev_tand, ev_tandT, ev_tandF, ev_tor, ev_torT, ev_torF, ev_tb, ev_tb1, ev_yes, ev_ife, ev_ifeT, ev_ifeF, ev_ch, ev_ch1, ev_ch2, ev_ch3T, ev_ch3F, ev_ch4, ev_is, ev_isB, ev_notN, ev_call, ev_call1, ev_own, ev_own_1, ev_own_2, ev_own_3, ev_own_4, ev_own_5, ev_ownK, ev_ownK_1, ev_ownK_01, ev_ownK_10, ev_lenT, ev_lenL, ev_lenO, ev_int, ev_intB, ev_abs, ev_min, ev_max, ev_tupT, ev_tupL, ev_listT, ev_listL, ev_meth, ev_meth2, ev_gN, ev_set, ev_set1, ev_gT, ev_gT2, ev_gT3, ev_gnil, ev_gcons, ev_gcons1, ev_iseq, ev_iseqT, ev_iseqL, ev_iseqO, ev_r1, ev_r2, ev_lrg1, ev_sl, ev_sl1, ev_sl3, ev_sl4, ev_on, ev_os, ev_os1, ev_slT, ev_slL, ev_slO, ev_r3, ix_t0, ix_t1, ix_t2, en_pair, en_int, wipeM, List.map_cons, List.map_nil, List.length_cons, List.length_nil, List.replicate_succ, List.replicate_zero, List.cons_append, List.nil_append, List.append_nil, List.set_cons_zero, List.set_cons_succ, Nat.reduceAdd, Nat.reduceSub, Nat.zero_add, if_true, if_false, reduceIte, Int.reduceEq, Int.reduceLT, Int.reduceLE, Bool.false_eq_true, decide_true, decide_false, Bool.not_true, Bool.not_false, List.getElem?_cons_zero, List.getElem?_cons_succ]
        rw [ev_app rfl (by rw [List.length_map]; exact Nat.lt_of_le_of_lt hx (by decide))]
        simp only [ev_seq, ev_seqN, ev_seqR, ev_seqB, ev_seqC, ev_seqE, ev_nil, ev_brk, ev_cnt, ev_retN, ev_expr, ev_expr1, ev_ret, ev_ret1, ev_if, ev_ifT, ev_ifF, ev_asg, ev_asg1, ev_asg2, ev_par, ev_par1, ev_def, ev_defR, ev_defN, ev_var0, ev_varS, ev_k, ev_anil, ev_acons, ev_acons1, ev_acons2, ev_tup, ev_tup_0, ev_tup_1, ev_tup_2, ev_tup_3, ev_lst, ev_lst_0, ev_lst_1, ev_lst_2, ev_lst_3, ev_mkT, ev_mkF, ev_bin, ev_bin1, ev_bin2, ev_un, ev_un1, ev_add, ev_addT, ev_addL, ev_sub, ev_neg, ev_lt, ev_le, ev_gt, ev_ge, ev_eqI, ev_neI, ev_eqB, ev_neB, ev_eqS, ev_neS, ev_and, ev_andT, ev_andF, ev_or, ev_orT, ev_orF, ev_not, ev_not1, ev_tnot, ev_tnot1, ev_tand, ev_tandT, ev_tandF, ev_tor, ev_torT, ev_torF, ev_tb, ev_tb1, ev_yes, ev_ife, ev_ifeT, ev_ifeF, ev_ch, ev_ch1, ev_ch2, ev_ch3T, ev_ch3F, ev_ch4, ev_is, ev_isB, ev_notN, ev_call, ev_call1, ev_own, ev_own_1, ev_own_2, ev_own_3, ev_own_4, ev_own_5, ev_ownK, ev_ownK_1, ev_ownK_01, ev_ownK_10, ev_lenT, ev_lenL, ev_lenO, ev_int, ev_intB, ev_abs, ev_min, ev_max, ev_tupT, ev_tupL, ev_listT, ev_listL, ev_meth, ev_meth2, ev_gN, ev_set, ev_set1, ev_gT, ev_gT2, ev_gT3, ev_gnil, ev_gcons, ev_gcons1, ev_iseq, ev_iseqT, ev_iseqL, ev_iseqO, ev_r1, ev_r2, ev_lrg1, ev_sl, ev_sl1, ev_sl3, ev_sl4, ev_on, ev_os, ev_os1, ev_slT, ev_slL, ev_slO, ev_r3, ix_t0, ix_t1, ix_t2, en_pair, en_int, wipeM, List.map_cons, List.map_nil, List.length_cons, List.length_nil, List.replicate_succ, List.replicate_zero, List.cons_append, List.nil_append, List.append_nil, List.set_cons_zero, List.set_cons_succ, Nat.reduceAdd, Nat.reduceSub, Nat.zero_add, if_true, if_false, reduceIte, Int.reduceEq, Int.reduceLT, Int.reduceLE, Bool.false_eq_true, decide_true, decide_false, Bool.not_true, Bool.not_false, List.getElem?_cons_zero, List.getElem?_cons_succ, List.map_append, en_tr]
    obtain ⟨ms', e, y6, y7, rfl⟩ := in3
    refine ⟨_, turn_nx (by simp only [ev_seq, ev_seqN, ev_seqR, ev_seqB, ev_seqC, ev_seqE, ev_nil, ev_brk, ev_cnt, ev_retN, ev_expr, ev_expr1, ev_ret, ev_ret1, ev_if, ev_ifT, ev_ifF, ev_asg, ev_asg1, ev_asg2, ev_par, ev_par1, ev_def, ev_defR, ev_defN, ev_var0, ev_varS, ev_k, ev_anil, ev_acons, ev_acons1, ev_acons2, ev_tup, ev_tup_0, ev_tup_1, ev_tup_2, ev_tup_3, ev_lst, ev_lst_0, ev_lst_1, ev_lst_2, ev_lst_3, ev_mkT, ev_mkF, ev_bin, ev_bin1, ev_bin2, ev_un, ev_un1, ev_add, ev_addT, ev_addL, ev_sub, ev_neg, ev_lt, ev_le, ev_gt, ev_ge, ev_eqI, ev_neI, ev_eqB, ev_neB, ev_eqS, ev_neS, ev_and, ev_andT, ev_andF, ev_or, ev_orT, ev_orF, ev_not, ev_not1, ev_tnot, ev_tnot1, ev_tand, ev_tandT, ev_tandF, ev_tor, ev_torT, ev_torF, ev_tb, ev_tb1, ev_yes, ev_ife, ev_ifeT, ev_ifeF, ev_ch, ev_ch1, ev_ch2, ev_ch3T, ev_ch3F, ev_ch4, ev_is, ev_isB, ev_notN, ev_call, ev_call1, ev_own, ev_own_1, ev_own_2, ev_own_3, ev_own_4, ev_own_5, ev_ownK, ev_ownK_1, ev_ownK_01, ev_ownK_10, ev_lenT, ev_lenL, ev_lenO, ev_int, ev_intB, ev_abs, ev_min, ev_max, ev_tupT, ev_tupL, ev_listT, ev_listL, ev_meth, ev_meth2, ev_gN, ev_set, ev_set1, ev_gT, ev_gT2, ev_gT3, ev_gnil, ev_gcons, ev_gcons1, ev_iseq, ev_iseqT, ev_iseqL, ev_iseqO, ev_r1, ev_r2, ev_lrg1, ev_sl, ev_sl1, ev_sl3, ev_sl4, ev_on, ev_os, ev_os1, ev_slT, ev_slL, ev_slO, ev_r3, ix_t0, ix_t1, ix_t2, en_pair, en_int, wipeM, List.map_cons, List.map_nil, List.length_cons, List.length_nil, List.replicate_succ, List.replicate_zero, List.cons_append, List.nil_append, List.append_nil, List.set_cons_zero, List.set_cons_succ, Nat.reduceAdd, Nat.reduceSub, Nat.zero_add, if_true, if_false, reduceIte, Int.reduceEq, Int.reduceLT, Int.reduceLE, Bool.false_eq_true, decide_true, decide_false, Bool.not_true, Bool.not_false, List.getElem?_cons_zero, List.getElem?_cons_succ] <;> rfl) ?_, x3, some (.int a), some (.int b), y6, y7, rfl⟩
    unfold B2__law_triples
    simp only [ev_seq, ev_seqN, ev_seqR, ev_seqB, ev_seqC, ev_seqE, ev_nil, ev_brk, ev_cnt, ev_retN, ev_expr, ev_expr1, ev_ret, ev_ret1, ev_if, ev_ifT, ev_ifF, ev_asg, ev_asg1, ev_asg2, ev_par, ev_par1, ev_def, ev_defR, ev_defN, ev_var0, ev_varS, ev_k, ev_anil, ev_acons, ev_acons1, ev_acons2, ev_tup, ev_tup_0, ev_tup_1, ev_tup_2, ev_tup_3, ev_lst, ev_lst_0, ev_lst_1, ev_lst_2, ev_lst_3, ev_mkT, ev_mkF, ev_bin, ev_bin1, ev_bin2, ev_un, ev_un1, ev_add, ev_addT, ev_addL, ev_sub, ev_neg, ev_lt, ev_le, ev_gt, ev_ge, ev_eqI, ev_neI, ev_eqB, ev_neB, ev_eqS, ev_neS, ev_and, ev_andT, ev_andF, ev_or, ev_orT, ev_orF, ev_not, ev_not1, ev_tnot, ev_tnot1, ev_tand, ev_tandT, ev_tandF, ev_tor, ev_torT, ev_torF, ev_tb, ev_tb1, ev_yes, ev_ife, ev_ifeT, ev_ifeF, ev_ch, ev_ch1, ev_ch2, ev_ch3T, ev_ch3F, ev_ch4, ev_is, ev_isB, ev_notN, ev_call, ev_call1, ev_own, ev_own_1, ev_own_2, ev_own_3, ev_own_4, ev_own_5, ev_ownK, ev_ownK_1, ev_ownK_01, ev_ownK_10, ev_lenT, ev_lenL, ev_lenO, ev_int, ev_intB, ev_abs, ev_min, ev_max, ev_tupT, ev_tupL, ev_listT, ev_listL, ev_meth, ev_meth2, ev_gN, ev_set, ev_set1, ev_gT, ev_gT2, ev_gT3, ev_gnil, ev_gcons, ev_gcons1, ev_iseq, ev_iseqT, ev_iseqL, ev_iseqO, ev_r1, ev_r2, ev_lrg1, ev_sl, ev_sl1, ev_sl3, ev_sl4, ev_on, ev_os, ev_os1, ev_slT, ev_slL, ev_slO, ev_r3, ix_t0, ix_t1, ix_t2, en_pair, en_int, wipeM, List.map_cons, List.map_nil, List.length_cons, List.length_nil, List.replicate_succ, List.replicate_zero, List.cons_append, List.nil_append, List.append_nil, List.set_cons_zero, List.set_cons_succ, Nat.reduceAdd, Nat.reduceSub, Nat.zero_add, if_true, if_false, reduceIte, Int.reduceEq, Int.reduceLT, Int.reduceLE, Bool.false_eq_true, decide_true, decide_false, Bool.not_true, Bool.not_false, List.getElem?_cons_zero, List.getElem?_cons_succ, e]) [some (web n A), some (.loc 0), some (.loc 1), x, none, none, none, none] [] ⟨x, none, none, none, none, rfl⟩ (by rw [List.length_nil, Nat.zero_add]; exact tri_len hn)
  refine ⟨[.dt kvs, .lst ((tri n A).map en)], ?_⟩
  rw [show ([O.dt kvs, O.lst []] : MH) = [.dt kvs, .lst (([] : List Tr).map en)] from rfl, e2]
  simp only [ev_seq, ev_seqN, ev_seqR, ev_seqB, ev_seqC, ev_seqE, ev_nil, ev_brk, ev_cnt, ev_retN, ev_expr, ev_expr1, ev_ret, ev_ret1, ev_if, ev_ifT, ev_ifF, ev_asg, ev_asg1, ev_asg2, ev_par, ev_par1, ev_def, ev_defR, ev_defN, ev_var0, ev_varS, ev_k, ev_anil, ev_acons, ev_acons1, ev_acons2, ev_tup, ev_tup_0, ev_tup_1, ev_tup_2, ev_tup_3, ev_lst, ev_lst_0, ev_lst_1, ev_lst_2, ev_lst_3, ev_mkT, ev_mkF, ev_bin, ev_bin1, ev_bin2, ev_un, ev_un1, ev_add, ev_addT, ev_addL, ev_sub, ev_neg, ev_lt, ev_le, ev_gt, ev_ge, ev_eqI, ev_neI, ev_eqB, ev_neB, ev_eqS, ev_neS, ev_and, ev_andT, ev_andF, ev_or, ev_orT, ev_orF, ev_not, ev_not1, ev_tnot, ev_tnot1, ev_tand, ev_tandT, ev_tandF, ev_tor, ev_torT, ev_torF, ev_tb, ev_tb1, ev_yes, ev_ife, ev_ifeT, ev_ifeF, ev_ch, ev_ch1, ev_ch2, ev_ch3T, ev_ch3F, ev_ch4, ev_is, ev_isB, ev_notN, ev_call, ev_call1, ev_own, ev_own_1, ev_own_2, ev_own_3, ev_own_4, ev_own_5, ev_ownK, ev_ownK_1, ev_ownK_01, ev_ownK_10, ev_lenT, ev_lenL, ev_lenO, ev_int, ev_intB, ev_abs, ev_min, ev_max, ev_tupT, ev_tupL, ev_listT, ev_listL, ev_meth, ev_meth2, ev_gN, ev_set, ev_set1, ev_gT, ev_gT2, ev_gT3, ev_gnil, ev_gcons, ev_gcons1, ev_iseq, ev_iseqT, ev_iseqL, ev_iseqO, ev_r1, ev_r2, ev_lrg1, ev_sl, ev_sl1, ev_sl3, ev_sl4, ev_on, ev_os, ev_os1, ev_slT, ev_slL, ev_slO, ev_r3, ix_t0, ix_t1, ix_t2, en_pair, en_int, wipeM, List.map_cons, List.map_nil, List.length_cons, List.length_nil, List.replicate_succ, List.replicate_zero, List.cons_append, List.nil_append, List.append_nil, List.set_cons_zero, List.set_cons_succ, Nat.reduceAdd, Nat.reduceSub, Nat.zero_add, if_true, if_false, reduceIte, Int.reduceEq, Int.reduceLT, Int.reduceLE, Bool.false_eq_true, decide_true, decide_false, Bool.not_true, Bool.not_false, List.getElem?_cons_zero, List.getElem?_cons_succ]
  rfl
theorem tri_spec {n : Int} {A : Int → Int → Bool} {h : MH} (hn : n ≤ 100) (h0 : 0 ≤ n) : f__law_triples [web n A] h = .ok (en (tri n A)) h := by
  obtain ⟨h', e⟩ := tri_body (A := A) hn h0
  exact cloF_val (by simp only [cloL, web_clo, Bool.and_self]) e (En.clo _)
end Tb.K19

set_option Elab.async false
set_option linter.all false
set_option maxRecDepth 100000
namespace Tb.K19
open PySem L2
open En (en da)

/-! ### turned along a lot -/
theorem flipA_eq (A : Int → Int → Bool) (p : Int) {a b : Int} (h : a ≠ b) : flipA A p a b = (A a b).xor ((decide (a = p)).xor (decide (b = p))) := by
  unfold flipA
  by_cases h1 : a = p
  · have h2 : ¬ b = p := by omega
    simp [h1, h2]
  · by_cases h2 : b = p
    · simp [h1, h2]
    · simp [h1, h2]
theorem flipL_eq : ∀ (ps : List Int) (A : Int → Int → Bool), ps.Nodup → ∀ {a b : Int}, a ≠ b → flipL A ps a b = (A a b).xor ((decide (a ∈ ps)).xor (decide (b ∈ ps)))
  | [], A, _, a, b, _ => by simp [flipL]
  | p :: ps, A, hn, a, b, h => by
    rw [List.nodup_cons] at hn
    have := flipL_eq ps (flipA A p) hn.2 h
    rw [show flipL A (p :: ps) = flipL (flipA A p) ps from rfl, this, flipA_eq A p h]
    by_cases h1 : a = p
    · subst h1
      have h2 : ¬ b = a := fun e => h e.symm
      simp [hn.1, h2, List.mem_cons]
    · by_cases h2 : b = p
      · subst h2
        simp [hn.1, h1, List.mem_cons]
      · simp [h1, h2, List.mem_cons]
def lotD (n : Int) (A B : Int → Int → Bool) : List Int := (irg 1 n).filter fun p => !(A 0 p == B 0 p)
theorem lotD_nodup (n : Int) (A B : Int → Int → Bool) : (lotD n A B).Nodup := (irg_nodup 1 n).filter _
theorem mem_lotD {n p : Int} {A B : Int → Int → Bool} : p ∈ lotD n A B ↔ 1 ≤ p ∧ p < n ∧ A 0 p ≠ B 0 p := by
  unfold lotD
  rw [List.mem_filter, mem_irg]
  simp
  exact ⟨fun ⟨⟨a, b⟩, c⟩ => ⟨a, b, c⟩, fun ⟨a, b, c⟩ => ⟨⟨a, b⟩, c⟩⟩
theorem web_inj {n : Int} {A B : Int → Int → Bool} : ((n, canon n A) : Int × List Tie) = (n, canon n B) ↔ canon n A = canon n B := by simp
theorem eqM_web {n : Int} {A B : Int → Int → Bool} {h : MH} : eqM (web n A) (web n B) h = .ok (.bl (decide (canon n A = canon n B))) h := by
  have := eqM_en (n, canon n A) (n, canon n B) h
  rw [show decide (((n, canon n A) : Int × List Tie) = (n, canon n B)) = decide (canon n A = canon n B) by simp] at this
  exact this
theorem along_turn {n p : Int} {A : Int → Int → Bool} {h : MH} {x : Option M} {l : M} (hn : n ≤ 100) (h0 : 0 ≤ p) (h1 : p < n) : TurnTo (gN 2) B1__law_along (.int p) [some (web n A), some l, x] h [some (web n (flipA A p)), some l, some (.int p)] h := by
  refine turn_nx (by simp only [ev_seq, ev_seqN, ev_seqR, ev_seqB, ev_seqC, ev_seqE, ev_nil, ev_brk, ev_cnt, ev_retN, ev_expr, ev_expr1, ev_ret, ev_ret1, ev_if, ev_ifT, ev_ifF, ev_asg, ev_asg1, ev_asg2, ev_par, ev_par1, ev_def, ev_defR, ev_defN, ev_var0, ev_varS, ev_k, ev_anil, ev_acons, ev_acons1, ev_acons2, ev_tup, ev_tup_0, ev_tup_1, ev_tup_2, ev_tup_3, ev_lst, ev_lst_0, ev_lst_1, ev_lst_2, ev_lst_3, ev_mkT, ev_mkF, ev_bin, ev_bin1, ev_bin2, ev_un, ev_un1, ev_add, ev_addT, ev_addL, ev_sub, ev_neg, ev_lt, ev_le, ev_gt, ev_ge, ev_eqI, ev_neI, ev_eqB, ev_neB, ev_eqS, ev_neS, ev_and, ev_andT, ev_andF, ev_or, ev_orT, ev_orF, ev_not, ev_not1, ev_tnot, ev_tnot1, ev_tand, ev_tandT, ev_tandF, ev_tor, ev_torT, ev_torF, ev_tb, ev_tb1, ev_yes, ev_ife, ev_ifeT, ev_ifeF, ev_ch, ev_ch1, ev_ch2, ev_ch3T, ev_ch3F, ev_ch4, ev_is, ev_isB, ev_notN, ev_call, ev_call1, ev_own, ev_own_1, ev_own_2, ev_own_3, ev_own_4, ev_own_5, ev_ownK, ev_ownK_1, ev_ownK_01, ev_ownK_10, ev_lenT, ev_lenL, ev_lenO, ev_int, ev_intB, ev_abs, ev_min, ev_max, ev_tupT, ev_tupL, ev_listT, ev_listL, ev_meth, ev_meth2, ev_gN, ev_set, ev_set1, ev_gT, ev_gT2, ev_gT3, ev_gnil, ev_gcons, ev_gcons1, ev_iseq, ev_iseqT, ev_iseqL, ev_iseqO, ev_r1, ev_r2, ev_lrg1, ev_sl, ev_sl1, ev_sl3, ev_sl4, ev_on, ev_os, ev_os1, ev_slT, ev_slL, ev_slO, ev_r3, ix_t0, ix_t1, ix_t2, en_pair, en_int, wipeM, List.map_cons, List.map_nil, List.length_cons, List.length_nil, List.replicate_succ, List.replicate_zero, List.cons_append, List.nil_append, List.append_nil, List.set_cons_zero, List.set_cons_succ, Nat.reduceAdd, Nat.reduceSub, Nat.zero_add, if_true, if_false, reduceIte, Int.reduceEq, Int.reduceLT, Int.reduceLE, Bool.false_eq_true, decide_true, decide_false, Bool.not_true, Bool.not_false, List.getElem?_cons_zero, List.getElem?_cons_succ] <;> rfl) ?_
  unfold B1__law_along
  simp only [ev_seq, ev_seqN, ev_seqR, ev_seqB, ev_seqC, ev_seqE, ev_nil, ev_brk, ev_cnt, ev_retN, ev_expr, ev_expr1, ev_ret, ev_ret1, ev_if, ev_ifT, ev_ifF, ev_asg, ev_asg1, ev_asg2, ev_par, ev_par1, ev_def, ev_defR, ev_defN, ev_var0, ev_varS, ev_k, ev_anil, ev_acons, ev_acons1, ev_acons2, ev_tup, ev_tup_0, ev_tup_1, ev_tup_2, ev_tup_3, ev_lst, ev_lst_0, ev_lst_1, ev_lst_2, ev_lst_3, ev_mkT, ev_mkF, ev_bin, ev_bin1, ev_bin2, ev_un, ev_un1, ev_add, ev_addT, ev_addL, ev_sub, ev_neg, ev_lt, ev_le, ev_gt, ev_ge, ev_eqI, ev_neI, ev_eqB, ev_neB, ev_eqS, ev_neS, ev_and, ev_andT, ev_andF, ev_or, ev_orT, ev_orF, ev_not, ev_not1, ev_tnot, ev_tnot1, ev_tand, ev_tandT, ev_tandF, ev_tor, ev_torT, ev_torF, ev_tb, ev_tb1, ev_yes, ev_ife, ev_ifeT, ev_ifeF, ev_ch, ev_ch1, ev_ch2, ev_ch3T, ev_ch3F, ev_ch4, ev_is, ev_isB, ev_notN, ev_call, ev_call1, ev_own, ev_own_1, ev_own_2, ev_own_3, ev_own_4, ev_own_5, ev_ownK, ev_ownK_1, ev_ownK_01, ev_ownK_10, ev_lenT, ev_lenL, ev_lenO, ev_int, ev_intB, ev_abs, ev_min, ev_max, ev_tupT, ev_tupL, ev_listT, ev_listL, ev_meth, ev_meth2, ev_gN, ev_set, ev_set1, ev_gT, ev_gT2, ev_gT3, ev_gnil, ev_gcons, ev_gcons1, ev_iseq, ev_iseqT, ev_iseqL, ev_iseqO, ev_r1, ev_r2, ev_lrg1, ev_sl, ev_sl1, ev_sl3, ev_sl4, ev_on, ev_os, ev_os1, ev_slT, ev_slL, ev_slO, ev_r3, ix_t0, ix_t1, ix_t2, en_pair, en_int, wipeM, List.map_cons, List.map_nil, List.length_cons, List.length_nil, List.replicate_succ, List.replicate_zero, List.cons_append, List.nil_append, List.append_nil, List.set_cons_zero, List.set_cons_succ, Nat.reduceAdd, Nat.reduceSub, Nat.zero_add, if_true, if_false, reduceIte, Int.reduceEq, Int.reduceLT, Int.reduceLE, Bool.false_eq_true, decide_true, decide_false, Bool.not_true, Bool.not_false, List.getElem?_cons_zero, List.getElem?_cons_succ, at_spec hn h0 h1]
theorem along_tmp {n : Int} {A : Int → Int → Bool} {ps : List Int} {h : MH} (hn : n ≤ 100) (hp : ∀ p ∈ ps, 0 ≤ p ∧ p < n) : f__law_along [web n A, .tmp (ps.map M.int)] h = .ok (web n (flipL A ps)) h := by
  refine cloF_val (h' := []) ?_ ?_ (web_clo _ _)
  · have : cloL (ps.map M.int) = true := cloL_en (α := Int) ps
    simp only [cloL, web_clo, clo, this, Bool.and_self]
  · unfold F__law_along
    simp only [ev_seq, ev_seqN, ev_seqR, ev_seqB, ev_seqC, ev_seqE, ev_nil, ev_brk, ev_cnt, ev_retN, ev_expr, ev_expr1, ev_ret, ev_ret1, ev_if, ev_ifT, ev_ifF, ev_asg, ev_asg1, ev_asg2, ev_par, ev_par1, ev_def, ev_defR, ev_defN, ev_var0, ev_varS, ev_k, ev_anil, ev_acons, ev_acons1, ev_acons2, ev_tup, ev_tup_0, ev_tup_1, ev_tup_2, ev_tup_3, ev_lst, ev_lst_0, ev_lst_1, ev_lst_2, ev_lst_3, ev_mkT, ev_mkF, ev_bin, ev_bin1, ev_bin2, ev_un, ev_un1, ev_add, ev_addT, ev_addL, ev_sub, ev_neg, ev_lt, ev_le, ev_gt, ev_ge, ev_eqI, ev_neI, ev_eqB, ev_neB, ev_eqS, ev_neS, ev_and, ev_andT, ev_andF, ev_or, ev_orT, ev_orF, ev_not, ev_not1, ev_tnot, ev_tnot1, ev_tand, ev_tandT, ev_tandF, ev_tor, ev_torT, ev_torF, ev_tb, ev_tb1, ev_yes, ev_ife, ev_ifeT, ev_ifeF, ev_ch, ev_ch1, ev_ch2, ev_ch3T, ev_ch3F, ev_ch4, ev_is, ev_isB, ev_notN, ev_call, ev_call1, ev_own, ev_own_1, ev_own_2, ev_own_3, ev_own_4, ev_own_5, ev_ownK, ev_ownK_1, ev_ownK_01, ev_ownK_10, ev_lenT, ev_lenL, ev_lenO, ev_int, ev_intB, ev_abs, ev_min, ev_max, ev_tupT, ev_tupL, ev_listT, ev_listL, ev_meth, ev_meth2, ev_gN, ev_set, ev_set1, ev_gT, ev_gT2, ev_gT3, ev_gnil, ev_gcons, ev_gcons1, ev_iseq, ev_iseqT, ev_iseqL, ev_iseqO, ev_r1, ev_r2, ev_lrg1, ev_sl, ev_sl1, ev_sl3, ev_sl4, ev_on, ev_os, ev_os1, ev_slT, ev_slL, ev_slO, ev_r3, ix_t0, ix_t1, ix_t2, en_pair, en_int, wipeM, List.map_cons, List.map_nil, List.length_cons, List.length_nil, List.replicate_succ, List.replicate_zero, List.cons_append, List.nil_append, List.append_nil, List.set_cons_zero, List.set_cons_succ, Nat.reduceAdd, Nat.reduceSub, Nat.zero_add, if_true, if_false, reduceIte, Int.reduceEq, Int.reduceLT, Int.reduceLE, Bool.false_eq_true, decide_true, decide_false, Bool.not_true, Bool.not_false, List.getElem?_cons_zero, List.getElem?_cons_succ]
    rw [xFor_eq (xs := ps.map M.int) (by simp only [ev_seq, ev_seqN, ev_seqR, ev_seqB, ev_seqC, ev_seqE, ev_nil, ev_brk, ev_cnt, ev_retN, ev_expr, ev_expr1, ev_ret, ev_ret1, ev_if, ev_ifT, ev_ifF, ev_asg, ev_asg1, ev_asg2, ev_par, ev_par1, ev_def, ev_defR, ev_defN, ev_var0, ev_varS, ev_k, ev_anil, ev_acons, ev_acons1, ev_acons2, ev_tup, ev_tup_0, ev_tup_1, ev_tup_2, ev_tup_3, ev_lst, ev_lst_0, ev_lst_1, ev_lst_2, ev_lst_3, ev_mkT, ev_mkF, ev_bin, ev_bin1, ev_bin2, ev_un, ev_un1, ev_add, ev_addT, ev_addL, ev_sub, ev_neg, ev_lt, ev_le, ev_gt, ev_ge, ev_eqI, ev_neI, ev_eqB, ev_neB, ev_eqS, ev_neS, ev_and, ev_andT, ev_andF, ev_or, ev_orT, ev_orF, ev_not, ev_not1, ev_tnot, ev_tnot1, ev_tand, ev_tandT, ev_tandF, ev_tor, ev_torT, ev_torF, ev_tb, ev_tb1, ev_yes, ev_ife, ev_ifeT, ev_ifeF, ev_ch, ev_ch1, ev_ch2, ev_ch3T, ev_ch3F, ev_ch4, ev_is, ev_isB, ev_notN, ev_call, ev_call1, ev_own, ev_own_1, ev_own_2, ev_own_3, ev_own_4, ev_own_5, ev_ownK, ev_ownK_1, ev_ownK_01, ev_ownK_10, ev_lenT, ev_lenL, ev_lenO, ev_int, ev_intB, ev_abs, ev_min, ev_max, ev_tupT, ev_tupL, ev_listT, ev_listL, ev_meth, ev_meth2, ev_gN, ev_set, ev_set1, ev_gT, ev_gT2, ev_gT3, ev_gnil, ev_gcons, ev_gcons1, ev_iseq, ev_iseqT, ev_iseqL, ev_iseqO, ev_r1, ev_r2, ev_lrg1, ev_sl, ev_sl1, ev_sl3, ev_sl4, ev_on, ev_os, ev_os1, ev_slT, ev_slL, ev_slO, ev_r3, ix_t0, ix_t1, ix_t2, en_pair, en_int, wipeM, List.map_cons, List.map_nil, List.length_cons, List.length_nil, List.replicate_succ, List.replicate_zero, List.cons_append, List.nil_append, List.append_nil, List.set_cons_zero, List.set_cons_succ, Nat.reduceAdd, Nat.reduceSub, Nat.zero_add, if_true, if_false, reduceIte, Int.reduceEq, Int.reduceLT, Int.reduceLE, Bool.false_eq_true, decide_true, decide_false, Bool.not_true, Bool.not_false, List.getElem?_cons_zero, List.getElem?_cons_succ] <;> rfl)]
    obtain ⟨ms', h', e, x, rfl, rfl⟩ := forV_pre (g := gN 2) (body := B1__law_along) M.int ps (fun pre ms h => ∃ x, ms = [some (web n (flipL A pre)), some (.tmp (ps.map M.int)), x] ∧ h = []) (by
      rintro pre p post ms h e ⟨x, rfl, rfl⟩
      obtain ⟨q1, q2⟩ := hp p (by rw [e]; simp)
      exact ⟨_, _, along_turn hn q1 q2, _, by rw [flipL_snoc], rfl⟩) (ms := [some (web n A), some (.tmp (ps.map M.int)), none]) (h := []) ⟨none, rfl, rfl⟩
    rw [e]
    simp only [ev_seq, ev_seqN, ev_seqR, ev_seqB, ev_seqC, ev_seqE, ev_nil, ev_brk, ev_cnt, ev_retN, ev_expr, ev_expr1, ev_ret, ev_ret1, ev_if, ev_ifT, ev_ifF, ev_asg, ev_asg1, ev_asg2, ev_par, ev_par1, ev_def, ev_defR, ev_defN, ev_var0, ev_varS, ev_k, ev_anil, ev_acons, ev_acons1, ev_acons2, ev_tup, ev_tup_0, ev_tup_1, ev_tup_2, ev_tup_3, ev_lst, ev_lst_0, ev_lst_1, ev_lst_2, ev_lst_3, ev_mkT, ev_mkF, ev_bin, ev_bin1, ev_bin2, ev_un, ev_un1, ev_add, ev_addT, ev_addL, ev_sub, ev_neg, ev_lt, ev_le, ev_gt, ev_ge, ev_eqI, ev_neI, ev_eqB, ev_neB, ev_eqS, ev_neS, ev_and, ev_andT, ev_andF, ev_or, ev_orT, ev_orF, ev_not, ev_not1, ev_tnot, ev_tnot1, ev_tand, ev_tandT, ev_tandF, ev_tor, ev_torT, ev_torF, ev_tb, ev_tb1, ev_yes, ev_ife, ev_ifeT, ev_ifeF, ev_ch, ev_ch1, ev_ch2, ev_ch3T, ev_ch3F, ev_ch4, ev_is, ev_isB, ev_notN, ev_call, ev_call1, ev_own, ev_own_1, ev_own_2, ev_own_3, ev_own_4, ev_own_5, ev_ownK, ev_ownK_1, ev_ownK_01, ev_ownK_10, ev_lenT, ev_lenL, ev_lenO, ev_int, ev_intB, ev_abs, ev_min, ev_max, ev_tupT, ev_tupL, ev_listT, ev_listL, ev_meth, ev_meth2, ev_gN, ev_set, ev_set1, ev_gT, ev_gT2, ev_gT3, ev_gnil, ev_gcons, ev_gcons1, ev_iseq, ev_iseqT, ev_iseqL, ev_iseqO, ev_r1, ev_r2, ev_lrg1, ev_sl, ev_sl1, ev_sl3, ev_sl4, ev_on, ev_os, ev_os1, ev_slT, ev_slL, ev_slO, ev_r3, ix_t0, ix_t1, ix_t2, en_pair, en_int, wipeM, List.map_cons, List.map_nil, List.length_cons, List.length_nil, List.replicate_succ, List.replicate_zero, List.cons_append, List.nil_append, List.append_nil, List.set_cons_zero, List.set_cons_succ, Nat.reduceAdd, Nat.reduceSub, Nat.zero_add, if_true, if_false, reduceIte, Int.reduceEq, Int.reduceLT, Int.reduceLE, Bool.false_eq_true, decide_true, decide_false, Bool.not_true, Bool.not_false, List.getElem?_cons_zero, List.getElem?_cons_succ]
theorem along_loc {n : Int} {A : Int → Int → Bool} {ps : List Int} {h : MH} {k : Nat} (hn : n ≤ 100) (hk : h[k]? = some (.lst (ps.map M.int))) (hl : ps.length ≤ 1000) (hp : ∀ p ∈ ps, 0 ≤ p ∧ p < n) : f__law_along [web n A, .loc k] h = .ok (web n (flipL A ps)) h := by
  unfold f__law_along cloF
  rw [if_neg (by simp [cloL, clo])]
  unfold F__law_along
  simp only [ev_seq, ev_seqN, ev_seqR, ev_seqB, ev_seqC, ev_seqE, ev_nil, ev_brk, ev_cnt, ev_retN, ev_expr, ev_expr1, ev_ret, ev_ret1, ev_if, ev_ifT, ev_ifF, ev_asg, ev_asg1, ev_asg2, ev_par, ev_par1, ev_def, ev_defR, ev_defN, ev_var0, ev_varS, ev_k, ev_anil, ev_acons, ev_acons1, ev_acons2, ev_tup, ev_tup_0, ev_tup_1, ev_tup_2, ev_tup_3, ev_lst, ev_lst_0, ev_lst_1, ev_lst_2, ev_lst_3, ev_mkT, ev_mkF, ev_bin, ev_bin1, ev_bin2, ev_un, ev_un1, ev_add, ev_addT, ev_addL, ev_sub, ev_neg, ev_lt, ev_le, ev_gt, ev_ge, ev_eqI, ev_neI, ev_eqB, ev_neB, ev_eqS, ev_neS, ev_and, ev_andT, ev_andF, ev_or, ev_orT, ev_orF, ev_not, ev_not1, ev_tnot, ev_tnot1, ev_tand, ev_tandT, ev_tandF, ev_tor, ev_torT, ev_torF, ev_tb, ev_tb1, ev_yes, ev_ife, ev_ifeT, ev_ifeF, ev_ch, ev_ch1, ev_ch2, ev_ch3T, ev_ch3F, ev_ch4, ev_is, ev_isB, ev_notN, ev_call, ev_call1, ev_own, ev_own_1, ev_own_2, ev_own_3, ev_own_4, ev_own_5, ev_ownK, ev_ownK_1, ev_ownK_01, ev_ownK_10, ev_lenT, ev_lenL, ev_lenO, ev_int, ev_intB, ev_abs, ev_min, ev_max, ev_tupT, ev_tupL, ev_listT, ev_listL, ev_meth, ev_meth2, ev_gN, ev_set, ev_set1, ev_gT, ev_gT2, ev_gT3, ev_gnil, ev_gcons, ev_gcons1, ev_iseq, ev_iseqT, ev_iseqL, ev_iseqO, ev_r1, ev_r2, ev_lrg1, ev_sl, ev_sl1, ev_sl3, ev_sl4, ev_on, ev_os, ev_os1, ev_slT, ev_slL, ev_slO, ev_r3, ix_t0, ix_t1, ix_t2, en_pair, en_int, wipeM, List.map_cons, List.map_nil, List.length_cons, List.length_nil, List.replicate_succ, List.replicate_zero, List.cons_append, List.nil_append, List.append_nil, List.set_cons_zero, List.set_cons_succ, Nat.reduceAdd, Nat.reduceSub, Nat.zero_add, if_true, if_false, reduceIte, Int.reduceEq, Int.reduceLT, Int.reduceLE, Bool.false_eq_true, decide_true, decide_false, Bool.not_true, Bool.not_false, List.getElem?_cons_zero, List.getElem?_cons_succ]
  rw [xFor_at (n := k) (h1 := h) (by simp only [ev_seq, ev_seqN, ev_seqR, ev_seqB, ev_seqC, ev_seqE, ev_nil, ev_brk, ev_cnt, ev_retN, ev_expr, ev_expr1, ev_ret, ev_ret1, ev_if, ev_ifT, ev_ifF, ev_asg, ev_asg1, ev_asg2, ev_par, ev_par1, ev_def, ev_defR, ev_defN, ev_var0, ev_varS, ev_k, ev_anil, ev_acons, ev_acons1, ev_acons2, ev_tup, ev_tup_0, ev_tup_1, ev_tup_2, ev_tup_3, ev_lst, ev_lst_0, ev_lst_1, ev_lst_2, ev_lst_3, ev_mkT, ev_mkF, ev_bin, ev_bin1, ev_bin2, ev_un, ev_un1, ev_add, ev_addT, ev_addL, ev_sub, ev_neg, ev_lt, ev_le, ev_gt, ev_ge, ev_eqI, ev_neI, ev_eqB, ev_neB, ev_eqS, ev_neS, ev_and, ev_andT, ev_andF, ev_or, ev_orT, ev_orF, ev_not, ev_not1, ev_tnot, ev_tnot1, ev_tand, ev_tandT, ev_tandF, ev_tor, ev_torT, ev_torF, ev_tb, ev_tb1, ev_yes, ev_ife, ev_ifeT, ev_ifeF, ev_ch, ev_ch1, ev_ch2, ev_ch3T, ev_ch3F, ev_ch4, ev_is, ev_isB, ev_notN, ev_call, ev_call1, ev_own, ev_own_1, ev_own_2, ev_own_3, ev_own_4, ev_own_5, ev_ownK, ev_ownK_1, ev_ownK_01, ev_ownK_10, ev_lenT, ev_lenL, ev_lenO, ev_int, ev_intB, ev_abs, ev_min, ev_max, ev_tupT, ev_tupL, ev_listT, ev_listL, ev_meth, ev_meth2, ev_gN, ev_set, ev_set1, ev_gT, ev_gT2, ev_gT3, ev_gnil, ev_gcons, ev_gcons1, ev_iseq, ev_iseqT, ev_iseqL, ev_iseqO, ev_r1, ev_r2, ev_lrg1, ev_sl, ev_sl1, ev_sl3, ev_sl4, ev_on, ev_os, ev_os1, ev_slT, ev_slL, ev_slO, ev_r3, ix_t0, ix_t1, ix_t2, en_pair, en_int, wipeM, List.map_cons, List.map_nil, List.length_cons, List.length_nil, List.replicate_succ, List.replicate_zero, List.cons_append, List.nil_append, List.append_nil, List.set_cons_zero, List.set_cons_succ, Nat.reduceAdd, Nat.reduceSub, Nat.zero_add, if_true, if_false, reduceIte, Int.reduceEq, Int.reduceLT, Int.reduceLE, Bool.false_eq_true, decide_true, decide_false, Bool.not_true, Bool.not_false, List.getElem?_cons_zero, List.getElem?_cons_succ]; exact iseq_loc hk)]
  obtain ⟨ms', e, x, rfl⟩ := forN_pre (g := gN 2) (body := B1__law_along) M.int ps hk (fun pre ms => ∃ x, ms = [some (web n (flipL A pre)), some (.loc k), x]) (by
    rintro pre p post ms e ⟨x, rfl⟩
    obtain ⟨q1, q2⟩ := hp p (by rw [e]; simp)
    exact ⟨_, along_turn hn q1 q2, _, by rw [flipL_snoc]⟩) (ms := [some (web n A), some (.loc k), none]) ⟨none, rfl⟩ (fuel := 16777217) (by omega)
  rw [e]
  simp only [ev_seq, ev_seqN, ev_seqR, ev_seqB, ev_seqC, ev_seqE, ev_nil, ev_brk, ev_cnt, ev_retN, ev_expr, ev_expr1, ev_ret, ev_ret1, ev_if, ev_ifT, ev_ifF, ev_asg, ev_asg1, ev_asg2, ev_par, ev_par1, ev_def, ev_defR, ev_defN, ev_var0, ev_varS, ev_k, ev_anil, ev_acons, ev_acons1, ev_acons2, ev_tup, ev_tup_0, ev_tup_1, ev_tup_2, ev_tup_3, ev_lst, ev_lst_0, ev_lst_1, ev_lst_2, ev_lst_3, ev_mkT, ev_mkF, ev_bin, ev_bin1, ev_bin2, ev_un, ev_un1, ev_add, ev_addT, ev_addL, ev_sub, ev_neg, ev_lt, ev_le, ev_gt, ev_ge, ev_eqI, ev_neI, ev_eqB, ev_neB, ev_eqS, ev_neS, ev_and, ev_andT, ev_andF, ev_or, ev_orT, ev_orF, ev_not, ev_not1, ev_tnot, ev_tnot1, ev_tand, ev_tandT, ev_tandF, ev_tor, ev_torT, ev_torF, ev_tb, ev_tb1, ev_yes, ev_ife, ev_ifeT, ev_ifeF, ev_ch, ev_ch1, ev_ch2, ev_ch3T, ev_ch3F, ev_ch4, ev_is, ev_isB, ev_notN, ev_call, ev_call1, ev_own, ev_own_1, ev_own_2, ev_own_3, ev_own_4, ev_own_5, ev_ownK, ev_ownK_1, ev_ownK_01, ev_ownK_10, ev_lenT, ev_lenL, ev_lenO, ev_int, ev_intB, ev_abs, ev_min, ev_max, ev_tupT, ev_tupL, ev_listT, ev_listL, ev_meth, ev_meth2, ev_gN, ev_set, ev_set1, ev_gT, ev_gT2, ev_gT3, ev_gnil, ev_gcons, ev_gcons1, ev_iseq, ev_iseqT, ev_iseqL, ev_iseqO, ev_r1, ev_r2, ev_lrg1, ev_sl, ev_sl1, ev_sl3, ev_sl4, ev_on, ev_os, ev_os1, ev_slT, ev_slL, ev_slO, ev_r3, ix_t0, ix_t1, ix_t2, en_pair, en_int, wipeM, List.map_cons, List.map_nil, List.length_cons, List.length_nil, List.replicate_succ, List.replicate_zero, List.cons_append, List.nil_append, List.append_nil, List.set_cons_zero, List.set_cons_succ, Nat.reduceAdd, Nat.reduceSub, Nat.zero_add, if_true, if_false, reduceIte, Int.reduceEq, Int.reduceLT, Int.reduceLE, Bool.false_eq_true, decide_true, decide_false, Bool.not_true, Bool.not_false, List.getElem?_cons_zero, List.getElem?_cons_succ]
/-- the lot that is due, or none -/
def lotM (n : Int) (A B : Int → Int → Bool) : M := if canon n (flipL A (lotD n A B)) = canon n B then en (lotD n A B) else .non
theorem lotM_clo (n : Int) (A B : Int → Int → Bool) : clo (lotM n A B) = true := by
  unfold lotM
  split
  · exact En.clo _
  · simp [clo]
theorem lotD_in {n : Int} {A B : Int → Int → Bool} : ∀ p ∈ lotD n A B, 0 ≤ p ∧ p < n := fun p hp => by
  have := mem_lotD.mp hp
  omega
theorem lotD_len {n : Int} {A B : Int → Int → Bool} (hn : n ≤ 100) : (lotD n A B).length ≤ 100 := by
  refine Nat.le_trans (List.length_filter_le _ _) ?_
  rw [irg_length]; omega
theorem lot_test {n p : Int} {A B : Int → Int → Bool} (h1 : 1 ≤ p) (h2 : p < n) : (!(decide ((0, p) ∈ canon n A) == decide ((0, p) ∈ canon n B))) = !(A 0 p == B 0 p) := by
  rw [mem_canon' (by omega) (by omega) h2, mem_canon' (by omega) (by omega) h2]
theorem lot_spec {n : Int} {A B : Int → Int → Bool} {h : MH} (hn : n ≤ 100) (hn0 : 0 ≤ n) : f_turning_lot [web n A, web n B] h = .ok (lotM n A B) h := by
  refine cloF_val (h' := []) (by simp only [cloL, web_clo, Bool.and_self]) ?_ (lotM_clo _ _ _)
  unfold F_turning_lot
  have hc : ∀ i : Int, 0 ≤ i → i ≤ 200 → cR i = true := fun i a b => cR_ok (by omega) (by omega)
  have c1 : mLc false (iRange2 (aCons (mK (.int 1)) (aCons (mBin ixM (mVar 0) (mK (.int 0))) aNil))) (gN 4) C2_turning_lot (mVar 4) [4] [some (web n A), some (web n B), none, none, none] [] = .ok (.tmp ((lotD n A B).map M.int)) [] := by
    refine (mLc_pure (as := irg 1 n) M.int (fun p => !(A 0 p == B 0 p)) M.int (by simp only [ev_seq, ev_seqN, ev_seqR, ev_seqB, ev_seqC, ev_seqE, ev_nil, ev_brk, ev_cnt, ev_retN, ev_expr, ev_expr1, ev_ret, ev_ret1, ev_if, ev_ifT, ev_ifF, ev_asg, ev_asg1, ev_asg2, ev_par, ev_par1, ev_def, ev_defR, ev_defN, ev_var0, ev_varS, ev_k, ev_anil, ev_acons, ev_acons1, ev_acons2, ev_tup, ev_tup_0, ev_tup_1, ev_tup_2, ev_tup_3, ev_lst, ev_lst_0, ev_lst_1, ev_lst_2, ev_lst_3, ev_mkT, ev_mkF, ev_bin, ev_bin1, ev_bin2, ev_un, ev_un1, ev_add, ev_addT, ev_addL, ev_sub, ev_neg, ev_lt, ev_le, ev_gt, ev_ge, ev_eqI, ev_neI, ev_eqB, ev_neB, ev_eqS, ev_neS, ev_and, ev_andT, ev_andF, ev_or, ev_orT, ev_orF, ev_not, ev_not1, ev_tnot, ev_tnot1, ev_tand, ev_tandT, ev_tandF, ev_tor, ev_torT, ev_torF, ev_tb, ev_tb1, ev_yes, ev_ife, ev_ifeT, ev_ifeF, ev_ch, ev_ch1, ev_ch2, ev_ch3T, ev_ch3F, ev_ch4, ev_is, ev_isB, ev_notN, ev_call, ev_call1, ev_own, ev_own_1, ev_own_2, ev_own_3, ev_own_4, ev_own_5, ev_ownK, ev_ownK_1, ev_ownK_01, ev_ownK_10, ev_lenT, ev_lenL, ev_lenO, ev_int, ev_intB, ev_abs, ev_min, ev_max, ev_tupT, ev_tupL, ev_listT, ev_listL, ev_meth, ev_meth2, ev_gN, ev_set, ev_set1, ev_gT, ev_gT2, ev_gT3, ev_gnil, ev_gcons, ev_gcons1, ev_iseq, ev_iseqT, ev_iseqL, ev_iseqO, ev_r1, ev_r2, ev_lrg1, ev_sl, ev_sl1, ev_sl3, ev_sl4, ev_on, ev_os, ev_os1, ev_slT, ev_slL, ev_slO, ev_r3, ix_t0, ix_t1, ix_t2, en_pair, en_int, wipeM, List.map_cons, List.map_nil, List.length_cons, List.length_nil, List.replicate_succ, List.replicate_zero, List.cons_append, List.nil_append, List.append_nil, List.set_cons_zero, List.set_cons_succ, Nat.reduceAdd, Nat.reduceSub, Nat.zero_add, if_true, if_false, reduceIte, Int.reduceEq, Int.reduceLT, Int.reduceLE, Bool.false_eq_true, decide_true, decide_false, Bool.not_true, Bool.not_false, List.getElem?_cons_zero, List.getElem?_cons_succ, web_eq, ev_r2', hc n hn0 (by omega), hc 1 (by omega) (by omega), Bool.and_self] <;> rfl) ?_ ?_).trans rfl
    · intro p hp
      rw [mem_irg] at hp
      refine ⟨_, by simp only [ev_seq, ev_seqN, ev_seqR, ev_seqB, ev_seqC, ev_seqE, ev_nil, ev_brk, ev_cnt, ev_retN, ev_expr, ev_expr1, ev_ret, ev_ret1, ev_if, ev_ifT, ev_ifF, ev_asg, ev_asg1, ev_asg2, ev_par, ev_par1, ev_def, ev_defR, ev_defN, ev_var0, ev_varS, ev_k, ev_anil, ev_acons, ev_acons1, ev_acons2, ev_tup, ev_tup_0, ev_tup_1, ev_tup_2, ev_tup_3, ev_lst, ev_lst_0, ev_lst_1, ev_lst_2, ev_lst_3, ev_mkT, ev_mkF, ev_bin, ev_bin1, ev_bin2, ev_un, ev_un1, ev_add, ev_addT, ev_addL, ev_sub, ev_neg, ev_lt, ev_le, ev_gt, ev_ge, ev_eqI, ev_neI, ev_eqB, ev_neB, ev_eqS, ev_neS, ev_and, ev_andT, ev_andF, ev_or, ev_orT, ev_orF, ev_not, ev_not1, ev_tnot, ev_tnot1, ev_tand, ev_tandT, ev_tandF, ev_tor, ev_torT, ev_torF, ev_tb, ev_tb1, ev_yes, ev_ife, ev_ifeT, ev_ifeF, ev_ch, ev_ch1, ev_ch2, ev_ch3T, ev_ch3F, ev_ch4, ev_is, ev_isB, ev_notN, ev_call, ev_call1, ev_own, ev_own_1, ev_own_2, ev_own_3, ev_own_4, ev_own_5, ev_ownK, ev_ownK_1, ev_ownK_01, ev_ownK_10, ev_lenT, ev_lenL, ev_lenO, ev_int, ev_intB, ev_abs, ev_min, ev_max, ev_tupT, ev_tupL, ev_listT, ev_listL, ev_meth, ev_meth2, ev_gN, ev_set, ev_set1, ev_gT, ev_gT2, ev_gT3, ev_gnil, ev_gcons, ev_gcons1, ev_iseq, ev_iseqT, ev_iseqL, ev_iseqO, ev_r1, ev_r2, ev_lrg1, ev_sl, ev_sl1, ev_sl3, ev_sl4, ev_on, ev_os, ev_os1, ev_slT, ev_slL, ev_slO, ev_r3, ix_t0, ix_t1, ix_t2, en_pair, en_int, wipeM, List.map_cons, List.map_nil, List.length_cons, List.length_nil, List.replicate_succ, List.replicate_zero, List.cons_append, List.nil_append, List.append_nil, List.set_cons_zero, List.set_cons_succ, Nat.reduceAdd, Nat.reduceSub, Nat.zero_add, if_true, if_false, reduceIte, Int.reduceEq, Int.reduceLT, Int.reduceLE, Bool.false_eq_true, decide_true, decide_false, Bool.not_true, Bool.not_false, List.getElem?_cons_zero, List.getElem?_cons_succ] <;> rfl, ?_, fun _ => by simp only [ev_seq, ev_seqN, ev_seqR, ev_seqB, ev_seqC, ev_seqE, ev_nil, ev_brk, ev_cnt, ev_retN, ev_expr, ev_expr1, ev_ret, ev_ret1, ev_if, ev_ifT, ev_ifF, ev_asg, ev_asg1, ev_asg2, ev_par, ev_par1, ev_def, ev_defR, ev_defN, ev_var0, ev_varS, ev_k, ev_anil, ev_acons, ev_acons1, ev_acons2, ev_tup, ev_tup_0, ev_tup_1, ev_tup_2, ev_tup_3, ev_lst, ev_lst_0, ev_lst_1, ev_lst_2, ev_lst_3, ev_mkT, ev_mkF, ev_bin, ev_bin1, ev_bin2, ev_un, ev_un1, ev_add, ev_addT, ev_addL, ev_sub, ev_neg, ev_lt, ev_le, ev_gt, ev_ge, ev_eqI, ev_neI, ev_eqB, ev_neB, ev_eqS, ev_neS, ev_and, ev_andT, ev_andF, ev_or, ev_orT, ev_orF, ev_not, ev_not1, ev_tnot, ev_tnot1, ev_tand, ev_tandT, ev_tandF, ev_tor, ev_torT, ev_torF, ev_tb, ev_tb1, ev_yes, ev_ife, ev_ifeT, ev_ifeF, ev_ch, ev_ch1, ev_ch2, ev_ch3T, ev_ch3F, ev_ch4, ev_is, ev_isB, ev_notN, ev_call, ev_call1, ev_own, ev_own_1, ev_own_2, ev_own_3, ev_own_4, ev_own_5, ev_ownK, ev_ownK_1, ev_ownK_01, ev_ownK_10, ev_lenT, ev_lenL, ev_lenO, ev_int, ev_intB, ev_abs, ev_min, ev_max, ev_tupT, ev_tupL, ev_listT, ev_listL, ev_meth, ev_meth2, ev_gN, ev_set, ev_set1, ev_gT, ev_gT2, ev_gT3, ev_gnil, ev_gcons, ev_gcons1, ev_iseq, ev_iseqT, ev_iseqL, ev_iseqO, ev_r1, ev_r2, ev_lrg1, ev_sl, ev_sl1, ev_sl3, ev_sl4, ev_on, ev_os, ev_os1, ev_slT, ev_slL, ev_slO, ev_r3, ix_t0, ix_t1, ix_t2, en_pair, en_int, wipeM, List.map_cons, List.map_nil, List.length_cons, List.length_nil, List.replicate_succ, List.replicate_zero, List.cons_append, List.nil_append, List.append_nil, List.set_cons_zero, List.set_cons_succ, Nat.reduceAdd, Nat.reduceSub, Nat.zero_add, if_true, if_false, reduceIte, Int.reduceEq, Int.reduceLT, Int.reduceLE, Bool.false_eq_true, decide_true, decide_false, Bool.not_true, Bool.not_false, List.getElem?_cons_zero, List.getElem?_cons_succ]⟩
      unfold C2_turning_lot
      simp only [ev_seq, ev_seqN, ev_seqR, ev_seqB, ev_seqC, ev_seqE, ev_nil, ev_brk, ev_cnt, ev_retN, ev_expr, ev_expr1, ev_ret, ev_ret1, ev_if, ev_ifT, ev_ifF, ev_asg, ev_asg1, ev_asg2, ev_par, ev_par1, ev_def, ev_defR, ev_defN, ev_var0, ev_varS, ev_k, ev_anil, ev_acons, ev_acons1, ev_acons2, ev_tup, ev_tup_0, ev_tup_1, ev_tup_2, ev_tup_3, ev_lst, ev_lst_0, ev_lst_1, ev_lst_2, ev_lst_3, ev_mkT, ev_mkF, ev_bin, ev_bin1, ev_bin2, ev_un, ev_un1, ev_add, ev_addT, ev_addL, ev_sub, ev_neg, ev_lt, ev_le, ev_gt, ev_ge, ev_eqI, ev_neI, ev_eqB, ev_neB, ev_eqS, ev_neS, ev_and, ev_andT, ev_andF, ev_or, ev_orT, ev_orF, ev_not, ev_not1, ev_tnot, ev_tnot1, ev_tand, ev_tandT, ev_tandF, ev_tor, ev_torT, ev_torF, ev_tb, ev_tb1, ev_yes, ev_ife, ev_ifeT, ev_ifeF, ev_ch, ev_ch1, ev_ch2, ev_ch3T, ev_ch3F, ev_ch4, ev_is, ev_isB, ev_notN, ev_call, ev_call1, ev_own, ev_own_1, ev_own_2, ev_own_3, ev_own_4, ev_own_5, ev_ownK, ev_ownK_1, ev_ownK_01, ev_ownK_10, ev_lenT, ev_lenL, ev_lenO, ev_int, ev_intB, ev_abs, ev_min, ev_max, ev_tupT, ev_tupL, ev_listT, ev_listL, ev_meth, ev_meth2, ev_gN, ev_set, ev_set1, ev_gT, ev_gT2, ev_gT3, ev_gnil, ev_gcons, ev_gcons1, ev_iseq, ev_iseqT, ev_iseqL, ev_iseqO, ev_r1, ev_r2, ev_lrg1, ev_sl, ev_sl1, ev_sl3, ev_sl4, ev_on, ev_os, ev_os1, ev_slT, ev_slL, ev_slO, ev_r3, ix_t0, ix_t1, ix_t2, en_pair, en_int, wipeM, List.map_cons, List.map_nil, List.length_cons, List.length_nil, List.replicate_succ, List.replicate_zero, List.cons_append, List.nil_append, List.append_nil, List.set_cons_zero, List.set_cons_succ, Nat.reduceAdd, Nat.reduceSub, Nat.zero_add, if_true, if_false, reduceIte, Int.reduceEq, Int.reduceLT, Int.reduceLE, Bool.false_eq_true, decide_true, decide_false, Bool.not_true, Bool.not_false, List.getElem?_cons_zero, List.getElem?_cons_succ, web_eq, inM_te, ev_neB, lot_test hp.1 hp.2]
    · rw [irg_length]; exact Nat.le_trans (by omega : _ ≤ 100) (by decide)
  simp only [ev_seq, ev_seqN, ev_seqR, ev_seqB, ev_seqC, ev_seqE, ev_nil, ev_brk, ev_cnt, ev_retN, ev_expr, ev_expr1, ev_ret, ev_ret1, ev_if, ev_ifT, ev_ifF, ev_asg, ev_asg1, ev_asg2, ev_par, ev_par1, ev_def, ev_defR, ev_defN, ev_var0, ev_varS, ev_k, ev_anil, ev_acons, ev_acons1, ev_acons2, ev_tup, ev_tup_0, ev_tup_1, ev_tup_2, ev_tup_3, ev_lst, ev_lst_0, ev_lst_1, ev_lst_2, ev_lst_3, ev_mkT, ev_mkF, ev_bin, ev_bin1, ev_bin2, ev_un, ev_un1, ev_add, ev_addT, ev_addL, ev_sub, ev_neg, ev_lt, ev_le, ev_gt, ev_ge, ev_eqI, ev_neI, ev_eqB, ev_neB, ev_eqS, ev_neS, ev_and, ev_andT, ev_andF, ev_or, ev_orT, ev_orF, ev_not, ev_not1, ev_tnot, ev_tnot1, ev_tand, ev_tandT, ev_tandF, ev_tor, ev_torT, ev_torF, ev_tb, ev_tb1, ev_yes, ev_ife, ev_ifeT, ev_ifeF, ev_ch, ev_ch1, ev_ch2, ev_ch3T, ev_ch3F, ev_ch4, ev_is, ev_isB, ev_notN, ev_call, ev_call1, ev_own, ev_own_1, ev_own_2, ev_own_3, ev_own_4, ev_own_5, ev_ownK, ev_ownK_1, ev_ownK_01, ev_ownK_10, ev_lenT, ev_lenL, ev_lenO, ev_int, ev_intB, ev_abs, ev_min, ev_max, ev_tupT, ev_tupL, ev_listT, ev_listL, ev_meth, ev_meth2, ev_gN, ev_set, ev_set1, ev_gT, ev_gT2, ev_gT3, ev_gnil, ev_gcons, ev_gcons1, ev_iseq, ev_iseqT, ev_iseqL, ev_iseqO, ev_r1, ev_r2, ev_lrg1, ev_sl, ev_sl1, ev_sl3, ev_sl4, ev_on, ev_os, ev_os1, ev_slT, ev_slL, ev_slO, ev_r3, ix_t0, ix_t1, ix_t2, en_pair, en_int, wipeM, List.map_cons, List.map_nil, List.length_cons, List.length_nil, List.replicate_succ, List.replicate_zero, List.cons_append, List.nil_append, List.append_nil, List.set_cons_zero, List.set_cons_succ, Nat.reduceAdd, Nat.reduceSub, Nat.zero_add, if_true, if_false, reduceIte, Int.reduceEq, Int.reduceLT, Int.reduceLE, Bool.false_eq_true, decide_true, decide_false, Bool.not_true, Bool.not_false, List.getElem?_cons_zero, List.getElem?_cons_succ, c1]
  rw [xFor_eq (xs := (lotD n A B).map M.int) (by simp only [ev_seq, ev_seqN, ev_seqR, ev_seqB, ev_seqC, ev_seqE, ev_nil, ev_brk, ev_cnt, ev_retN, ev_expr, ev_expr1, ev_ret, ev_ret1, ev_if, ev_ifT, ev_ifF, ev_asg, ev_asg1, ev_asg2, ev_par, ev_par1, ev_def, ev_defR, ev_defN, ev_var0, ev_varS, ev_k, ev_anil, ev_acons, ev_acons1, ev_acons2, ev_tup, ev_tup_0, ev_tup_1, ev_tup_2, ev_tup_3, ev_lst, ev_lst_0, ev_lst_1, ev_lst_2, ev_lst_3, ev_mkT, ev_mkF, ev_bin, ev_bin1, ev_bin2, ev_un, ev_un1, ev_add, ev_addT, ev_addL, ev_sub, ev_neg, ev_lt, ev_le, ev_gt, ev_ge, ev_eqI, ev_neI, ev_eqB, ev_neB, ev_eqS, ev_neS, ev_and, ev_andT, ev_andF, ev_or, ev_orT, ev_orF, ev_not, ev_not1, ev_tnot, ev_tnot1, ev_tand, ev_tandT, ev_tandF, ev_tor, ev_torT, ev_torF, ev_tb, ev_tb1, ev_yes, ev_ife, ev_ifeT, ev_ifeF, ev_ch, ev_ch1, ev_ch2, ev_ch3T, ev_ch3F, ev_ch4, ev_is, ev_isB, ev_notN, ev_call, ev_call1, ev_own, ev_own_1, ev_own_2, ev_own_3, ev_own_4, ev_own_5, ev_ownK, ev_ownK_1, ev_ownK_01, ev_ownK_10, ev_lenT, ev_lenL, ev_lenO, ev_int, ev_intB, ev_abs, ev_min, ev_max, ev_tupT, ev_tupL, ev_listT, ev_listL, ev_meth, ev_meth2, ev_gN, ev_set, ev_set1, ev_gT, ev_gT2, ev_gT3, ev_gnil, ev_gcons, ev_gcons1, ev_iseq, ev_iseqT, ev_iseqL, ev_iseqO, ev_r1, ev_r2, ev_lrg1, ev_sl, ev_sl1, ev_sl3, ev_sl4, ev_on, ev_os, ev_os1, ev_slT, ev_slL, ev_slO, ev_r3, ix_t0, ix_t1, ix_t2, en_pair, en_int, wipeM, List.map_cons, List.map_nil, List.length_cons, List.length_nil, List.replicate_succ, List.replicate_zero, List.cons_append, List.nil_append, List.append_nil, List.set_cons_zero, List.set_cons_succ, Nat.reduceAdd, Nat.reduceSub, Nat.zero_add, if_true, if_false, reduceIte, Int.reduceEq, Int.reduceLT, Int.reduceLE, Bool.false_eq_true, decide_true, decide_false, Bool.not_true, Bool.not_false, List.getElem?_cons_zero, List.getElem?_cons_succ] <;> rfl)]
  obtain ⟨ms', h', e, x, rfl, rfl⟩ := forV_pre (g := gN 4) (body := B1_turning_lot) M.int (lotD n A B) (fun pre ms h => ∃ x, ms = [some (web n A), some (web n B), some (.tup ((lotD n A B).map M.int)), some (web n (flipL A pre)), x] ∧ h = []) (by
    rintro pre p post ms h e ⟨x, rfl, rfl⟩
    obtain ⟨q1, q2⟩ := lotD_in p (by rw [e]; simp)
    refine ⟨_, _, turn_nx (by simp only [ev_seq, ev_seqN, ev_seqR, ev_seqB, ev_seqC, ev_seqE, ev_nil, ev_brk, ev_cnt, ev_retN, ev_expr, ev_expr1, ev_ret, ev_ret1, ev_if, ev_ifT, ev_ifF, ev_asg, ev_asg1, ev_asg2, ev_par, ev_par1, ev_def, ev_defR, ev_defN, ev_var0, ev_varS, ev_k, ev_anil, ev_acons, ev_acons1, ev_acons2, ev_tup, ev_tup_0, ev_tup_1, ev_tup_2, ev_tup_3, ev_lst, ev_lst_0, ev_lst_1, ev_lst_2, ev_lst_3, ev_mkT, ev_mkF, ev_bin, ev_bin1, ev_bin2, ev_un, ev_un1, ev_add, ev_addT, ev_addL, ev_sub, ev_neg, ev_lt, ev_le, ev_gt, ev_ge, ev_eqI, ev_neI, ev_eqB, ev_neB, ev_eqS, ev_neS, ev_and, ev_andT, ev_andF, ev_or, ev_orT, ev_orF, ev_not, ev_not1, ev_tnot, ev_tnot1, ev_tand, ev_tandT, ev_tandF, ev_tor, ev_torT, ev_torF, ev_tb, ev_tb1, ev_yes, ev_ife, ev_ifeT, ev_ifeF, ev_ch, ev_ch1, ev_ch2, ev_ch3T, ev_ch3F, ev_ch4, ev_is, ev_isB, ev_notN, ev_call, ev_call1, ev_own, ev_own_1, ev_own_2, ev_own_3, ev_own_4, ev_own_5, ev_ownK, ev_ownK_1, ev_ownK_01, ev_ownK_10, ev_lenT, ev_lenL, ev_lenO, ev_int, ev_intB, ev_abs, ev_min, ev_max, ev_tupT, ev_tupL, ev_listT, ev_listL, ev_meth, ev_meth2, ev_gN, ev_set, ev_set1, ev_gT, ev_gT2, ev_gT3, ev_gnil, ev_gcons, ev_gcons1, ev_iseq, ev_iseqT, ev_iseqL, ev_iseqO, ev_r1, ev_r2, ev_lrg1, ev_sl, ev_sl1, ev_sl3, ev_sl4, ev_on, ev_os, ev_os1, ev_slT, ev_slL, ev_slO, ev_r3, ix_t0, ix_t1, ix_t2, en_pair, en_int, wipeM, List.map_cons, List.map_nil, List.length_cons, List.length_nil, List.replicate_succ, List.replicate_zero, List.cons_append, List.nil_append, List.append_nil, List.set_cons_zero, List.set_cons_succ, Nat.reduceAdd, Nat.reduceSub, Nat.zero_add, if_true, if_false, reduceIte, Int.reduceEq, Int.reduceLT, Int.reduceLE, Bool.false_eq_true, decide_true, decide_false, Bool.not_true, Bool.not_false, List.getElem?_cons_zero, List.getElem?_cons_succ] <;> rfl) ?_, some (.int p), rfl, rfl⟩
    unfold B1_turning_lot
    simp only [ev_seq, ev_seqN, ev_seqR, ev_seqB, ev_seqC, ev_seqE, ev_nil, ev_brk, ev_cnt, ev_retN, ev_expr, ev_expr1, ev_ret, ev_ret1, ev_if, ev_ifT, ev_ifF, ev_asg, ev_asg1, ev_asg2, ev_par, ev_par1, ev_def, ev_defR, ev_defN, ev_var0, ev_varS, ev_k, ev_anil, ev_acons, ev_acons1, ev_acons2, ev_tup, ev_tup_0, ev_tup_1, ev_tup_2, ev_tup_3, ev_lst, ev_lst_0, ev_lst_1, ev_lst_2, ev_lst_3, ev_mkT, ev_mkF, ev_bin, ev_bin1, ev_bin2, ev_un, ev_un1, ev_add, ev_addT, ev_addL, ev_sub, ev_neg, ev_lt, ev_le, ev_gt, ev_ge, ev_eqI, ev_neI, ev_eqB, ev_neB, ev_eqS, ev_neS, ev_and, ev_andT, ev_andF, ev_or, ev_orT, ev_orF, ev_not, ev_not1, ev_tnot, ev_tnot1, ev_tand, ev_tandT, ev_tandF, ev_tor, ev_torT, ev_torF, ev_tb, ev_tb1, ev_yes, ev_ife, ev_ifeT, ev_ifeF, ev_ch, ev_ch1, ev_ch2, ev_ch3T, ev_ch3F, ev_ch4, ev_is, ev_isB, ev_notN, ev_call, ev_call1, ev_own, ev_own_1, ev_own_2, ev_own_3, ev_own_4, ev_own_5, ev_ownK, ev_ownK_1, ev_ownK_01, ev_ownK_10, ev_lenT, ev_lenL, ev_lenO, ev_int, ev_intB, ev_abs, ev_min, ev_max, ev_tupT, ev_tupL, ev_listT, ev_listL, ev_meth, ev_meth2, ev_gN, ev_set, ev_set1, ev_gT, ev_gT2, ev_gT3, ev_gnil, ev_gcons, ev_gcons1, ev_iseq, ev_iseqT, ev_iseqL, ev_iseqO, ev_r1, ev_r2, ev_lrg1, ev_sl, ev_sl1, ev_sl3, ev_sl4, ev_on, ev_os, ev_os1, ev_slT, ev_slL, ev_slO, ev_r3, ix_t0, ix_t1, ix_t2, en_pair, en_int, wipeM, List.map_cons, List.map_nil, List.length_cons, List.length_nil, List.replicate_succ, List.replicate_zero, List.cons_append, List.nil_append, List.append_nil, List.set_cons_zero, List.set_cons_succ, Nat.reduceAdd, Nat.reduceSub, Nat.zero_add, if_true, if_false, reduceIte, Int.reduceEq, Int.reduceLT, Int.reduceLE, Bool.false_eq_true, decide_true, decide_false, Bool.not_true, Bool.not_false, List.getElem?_cons_zero, List.getElem?_cons_succ, turned_spec hn q1 q2, flipL_snoc]) (ms := [some (web n A), some (web n B), some (.tup ((lotD n A B).map M.int)), some (web n A), none]) (h := []) ⟨none, rfl, rfl⟩
  rw [e]
  simp only [ev_seq, ev_seqN, ev_seqR, ev_seqB, ev_seqC, ev_seqE, ev_nil, ev_brk, ev_cnt, ev_retN, ev_expr, ev_expr1, ev_ret, ev_ret1, ev_if, ev_ifT, ev_ifF, ev_asg, ev_asg1, ev_asg2, ev_par, ev_par1, ev_def, ev_defR, ev_defN, ev_var0, ev_varS, ev_k, ev_anil, ev_acons, ev_acons1, ev_acons2, ev_tup, ev_tup_0, ev_tup_1, ev_tup_2, ev_tup_3, ev_lst, ev_lst_0, ev_lst_1, ev_lst_2, ev_lst_3, ev_mkT, ev_mkF, ev_bin, ev_bin1, ev_bin2, ev_un, ev_un1, ev_add, ev_addT, ev_addL, ev_sub, ev_neg, ev_lt, ev_le, ev_gt, ev_ge, ev_eqI, ev_neI, ev_eqB, ev_neB, ev_eqS, ev_neS, ev_and, ev_andT, ev_andF, ev_or, ev_orT, ev_orF, ev_not, ev_not1, ev_tnot, ev_tnot1, ev_tand, ev_tandT, ev_tandF, ev_tor, ev_torT, ev_torF, ev_tb, ev_tb1, ev_yes, ev_ife, ev_ifeT, ev_ifeF, ev_ch, ev_ch1, ev_ch2, ev_ch3T, ev_ch3F, ev_ch4, ev_is, ev_isB, ev_notN, ev_call, ev_call1, ev_own, ev_own_1, ev_own_2, ev_own_3, ev_own_4, ev_own_5, ev_ownK, ev_ownK_1, ev_ownK_01, ev_ownK_10, ev_lenT, ev_lenL, ev_lenO, ev_int, ev_intB, ev_abs, ev_min, ev_max, ev_tupT, ev_tupL, ev_listT, ev_listL, ev_meth, ev_meth2, ev_gN, ev_set, ev_set1, ev_gT, ev_gT2, ev_gT3, ev_gnil, ev_gcons, ev_gcons1, ev_iseq, ev_iseqT, ev_iseqL, ev_iseqO, ev_r1, ev_r2, ev_lrg1, ev_sl, ev_sl1, ev_sl3, ev_sl4, ev_on, ev_os, ev_os1, ev_slT, ev_slL, ev_slO, ev_r3, ix_t0, ix_t1, ix_t2, en_pair, en_int, wipeM, List.map_cons, List.map_nil, List.length_cons, List.length_nil, List.replicate_succ, List.replicate_zero, List.cons_append, List.nil_append, List.append_nil, List.set_cons_zero, List.set_cons_succ, Nat.reduceAdd, Nat.reduceSub, Nat.zero_add, if_true, if_false, reduceIte, Int.reduceEq, Int.reduceLT, Int.reduceLE, Bool.false_eq_true, decide_true, decide_false, Bool.not_true, Bool.not_false, List.getElem?_cons_zero, List.getElem?_cons_succ, eqM_web]
  unfold lotM
  split
  · rename_i q; simp only [ev_seq, ev_seqN, ev_seqR, ev_seqB, ev_seqC, ev_seqE, ev_nil, ev_brk, ev_cnt, ev_retN, ev_expr, ev_expr1, ev_ret, ev_ret1, ev_if, ev_ifT, ev_ifF, ev_asg, ev_asg1, ev_asg2, ev_par, ev_par1, ev_def, ev_defR, ev_defN, ev_var0, ev_varS, ev_k, ev_anil, ev_acons, ev_acons1, ev_acons2, ev_tup, ev_tup_0, ev_tup_1, ev_tup_2, ev_tup_3, ev_lst, ev_lst_0, ev_lst_1, ev_lst_2, ev_lst_3, ev_mkT, ev_mkF, ev_bin, ev_bin1, ev_bin2, ev_un, ev_un1, ev_add, ev_addT, ev_addL, ev_sub, ev_neg, ev_lt, ev_le, ev_gt, ev_ge, ev_eqI, ev_neI, ev_eqB, ev_neB, ev_eqS, ev_neS, ev_and, ev_andT, ev_andF, ev_or, ev_orT, ev_orF, ev_not, ev_not1, ev_tnot, ev_tnot1, ev_tand, ev_tandT, ev_tandF, ev_tor, ev_torT, ev_torF, ev_tb, ev_tb1, ev_yes, ev_ife, ev_ifeT, ev_ifeF, ev_ch, ev_ch1, ev_ch2, ev_ch3T, ev_ch3F, ev_ch4, ev_is, ev_isB, ev_notN, ev_call, ev_call1, ev_own, ev_own_1, ev_own_2, ev_own_3, ev_own_4, ev_own_5, ev_ownK, ev_ownK_1, ev_ownK_01, ev_ownK_10, ev_lenT, ev_lenL, ev_lenO, ev_int, ev_intB, ev_abs, ev_min, ev_max, ev_tupT, ev_tupL, ev_listT, ev_listL, ev_meth, ev_meth2, ev_gN, ev_set, ev_set1, ev_gT, ev_gT2, ev_gT3, ev_gnil, ev_gcons, ev_gcons1, ev_iseq, ev_iseqT, ev_iseqL, ev_iseqO, ev_r1, ev_r2, ev_lrg1, ev_sl, ev_sl1, ev_sl3, ev_sl4, ev_on, ev_os, ev_os1, ev_slT, ev_slL, ev_slO, ev_r3, ix_t0, ix_t1, ix_t2, en_pair, en_int, wipeM, List.map_cons, List.map_nil, List.length_cons, List.length_nil, List.replicate_succ, List.replicate_zero, List.cons_append, List.nil_append, List.append_nil, List.set_cons_zero, List.set_cons_succ, Nat.reduceAdd, Nat.reduceSub, Nat.zero_add, if_true, if_false, reduceIte, Int.reduceEq, Int.reduceLT, Int.reduceLE, Bool.false_eq_true, decide_true, decide_false, Bool.not_true, Bool.not_false, List.getElem?_cons_zero, List.getElem?_cons_succ, q]; rfl
  · rename_i q; simp only [ev_seq, ev_seqN, ev_seqR, ev_seqB, ev_seqC, ev_seqE, ev_nil, ev_brk, ev_cnt, ev_retN, ev_expr, ev_expr1, ev_ret, ev_ret1, ev_if, ev_ifT, ev_ifF, ev_asg, ev_asg1, ev_asg2, ev_par, ev_par1, ev_def, ev_defR, ev_defN, ev_var0, ev_varS, ev_k, ev_anil, ev_acons, ev_acons1, ev_acons2, ev_tup, ev_tup_0, ev_tup_1, ev_tup_2, ev_tup_3, ev_lst, ev_lst_0, ev_lst_1, ev_lst_2, ev_lst_3, ev_mkT, ev_mkF, ev_bin, ev_bin1, ev_bin2, ev_un, ev_un1, ev_add, ev_addT, ev_addL, ev_sub, ev_neg, ev_lt, ev_le, ev_gt, ev_ge, ev_eqI, ev_neI, ev_eqB, ev_neB, ev_eqS, ev_neS, ev_and, ev_andT, ev_andF, ev_or, ev_orT, ev_orF, ev_not, ev_not1, ev_tnot, ev_tnot1, ev_tand, ev_tandT, ev_tandF, ev_tor, ev_torT, ev_torF, ev_tb, ev_tb1, ev_yes, ev_ife, ev_ifeT, ev_ifeF, ev_ch, ev_ch1, ev_ch2, ev_ch3T, ev_ch3F, ev_ch4, ev_is, ev_isB, ev_notN, ev_call, ev_call1, ev_own, ev_own_1, ev_own_2, ev_own_3, ev_own_4, ev_own_5, ev_ownK, ev_ownK_1, ev_ownK_01, ev_ownK_10, ev_lenT, ev_lenL, ev_lenO, ev_int, ev_intB, ev_abs, ev_min, ev_max, ev_tupT, ev_tupL, ev_listT, ev_listL, ev_meth, ev_meth2, ev_gN, ev_set, ev_set1, ev_gT, ev_gT2, ev_gT3, ev_gnil, ev_gcons, ev_gcons1, ev_iseq, ev_iseqT, ev_iseqL, ev_iseqO, ev_r1, ev_r2, ev_lrg1, ev_sl, ev_sl1, ev_sl3, ev_sl4, ev_on, ev_os, ev_os1, ev_slT, ev_slL, ev_slO, ev_r3, ix_t0, ix_t1, ix_t2, en_pair, en_int, wipeM, List.map_cons, List.map_nil, List.length_cons, List.length_nil, List.replicate_succ, List.replicate_zero, List.cons_append, List.nil_append, List.append_nil, List.set_cons_zero, List.set_cons_succ, Nat.reduceAdd, Nat.reduceSub, Nat.zero_add, if_true, if_false, reduceIte, Int.reduceEq, Int.reduceLT, Int.reduceLE, Bool.false_eq_true, decide_true, decide_false, Bool.not_true, Bool.not_false, List.getElem?_cons_zero, List.getElem?_cons_succ, q]
theorem due_spec {n : Int} {A B : Int → Int → Bool} {h : MH} (hn : n ≤ 100) (hn0 : 0 ≤ n) : f__law_lot_due [web n A, web n B] h = .ok (lotM n A B) h := by
  refine cloF_val (h' := [.lst ((lotD n A B).map M.int)]) (by simp only [cloL, web_clo, Bool.and_self]) ?_ (lotM_clo _ _ _)
  unfold F__law_lot_due
  have hc : ∀ i : Int, 0 ≤ i → i ≤ 200 → cR i = true := fun i a b => cR_ok (by omega) (by omega)
  simp only [ev_seq, ev_seqN, ev_seqR, ev_seqB, ev_seqC, ev_seqE, ev_nil, ev_brk, ev_cnt, ev_retN, ev_expr, ev_expr1, ev_ret, ev_ret1, ev_if, ev_ifT, ev_ifF, ev_asg, ev_asg1, ev_asg2, ev_par, ev_par1, ev_def, ev_defR, ev_defN, ev_var0, ev_varS, ev_k, ev_anil, ev_acons, ev_acons1, ev_acons2, ev_tup, ev_tup_0, ev_tup_1, ev_tup_2, ev_tup_3, ev_lst, ev_lst_0, ev_lst_1, ev_lst_2, ev_lst_3, ev_mkT, ev_mkF, ev_bin, ev_bin1, ev_bin2, ev_un, ev_un1, ev_add, ev_addT, ev_addL, ev_sub, ev_neg, ev_lt, ev_le, ev_gt, ev_ge, ev_eqI, ev_neI, ev_eqB, ev_neB, ev_eqS, ev_neS, ev_and, ev_andT, ev_andF, ev_or, ev_orT, ev_orF, ev_not, ev_not1, ev_tnot, ev_tnot1, ev_tand, ev_tandT, ev_tandF, ev_tor, ev_torT, ev_torF, ev_tb, ev_tb1, ev_yes, ev_ife, ev_ifeT, ev_ifeF, ev_ch, ev_ch1, ev_ch2, ev_ch3T, ev_ch3F, ev_ch4, ev_is, ev_isB, ev_notN, ev_call, ev_call1, ev_own, ev_own_1, ev_own_2, ev_own_3, ev_own_4, ev_own_5, ev_ownK, ev_ownK_1, ev_ownK_01, ev_ownK_10, ev_lenT, ev_lenL, ev_lenO, ev_int, ev_intB, ev_abs, ev_min, ev_max, ev_tupT, ev_tupL, ev_listT, ev_listL, ev_meth, ev_meth2, ev_gN, ev_set, ev_set1, ev_gT, ev_gT2, ev_gT3, ev_gnil, ev_gcons, ev_gcons1, ev_iseq, ev_iseqT, ev_iseqL, ev_iseqO, ev_r1, ev_r2, ev_lrg1, ev_sl, ev_sl1, ev_sl3, ev_sl4, ev_on, ev_os, ev_os1, ev_slT, ev_slL, ev_slO, ev_r3, ix_t0, ix_t1, ix_t2, en_pair, en_int, wipeM, List.map_cons, List.map_nil, List.length_cons, List.length_nil, List.replicate_succ, List.replicate_zero, List.cons_append, List.nil_append, List.append_nil, List.set_cons_zero, List.set_cons_succ, Nat.reduceAdd, Nat.reduceSub, Nat.zero_add, if_true, if_false, reduceIte, Int.reduceEq, Int.reduceLT, Int.reduceLE, Bool.false_eq_true, decide_true, decide_false, Bool.not_true, Bool.not_false, List.getElem?_cons_zero, List.getElem?_cons_succ]
  rw [xFor_eq (xs := (irg 1 n).map M.int) (by simp only [ev_seq, ev_seqN, ev_seqR, ev_seqB, ev_seqC, ev_seqE, ev_nil, ev_brk, ev_cnt, ev_retN, ev_expr, ev_expr1, ev_ret, ev_ret1, ev_if, ev_ifT, ev_ifF, ev_asg, ev_asg1, ev_asg2, ev_par, ev_par1, ev_def, ev_defR, ev_defN, ev_var0, ev_varS, ev_k, ev_anil, ev_acons, ev_acons1, ev_acons2, ev_tup, ev_tup_0, ev_tup_1, ev_tup_2, ev_tup_3, ev_lst, ev_lst_0, ev_lst_1, ev_lst_2, ev_lst_3, ev_mkT, ev_mkF, ev_bin, ev_bin1, ev_bin2, ev_un, ev_un1, ev_add, ev_addT, ev_addL, ev_sub, ev_neg, ev_lt, ev_le, ev_gt, ev_ge, ev_eqI, ev_neI, ev_eqB, ev_neB, ev_eqS, ev_neS, ev_and, ev_andT, ev_andF, ev_or, ev_orT, ev_orF, ev_not, ev_not1, ev_tnot, ev_tnot1, ev_tand, ev_tandT, ev_tandF, ev_tor, ev_torT, ev_torF, ev_tb, ev_tb1, ev_yes, ev_ife, ev_ifeT, ev_ifeF, ev_ch, ev_ch1, ev_ch2, ev_ch3T, ev_ch3F, ev_ch4, ev_is, ev_isB, ev_notN, ev_call, ev_call1, ev_own, ev_own_1, ev_own_2, ev_own_3, ev_own_4, ev_own_5, ev_ownK, ev_ownK_1, ev_ownK_01, ev_ownK_10, ev_lenT, ev_lenL, ev_lenO, ev_int, ev_intB, ev_abs, ev_min, ev_max, ev_tupT, ev_tupL, ev_listT, ev_listL, ev_meth, ev_meth2, ev_gN, ev_set, ev_set1, ev_gT, ev_gT2, ev_gT3, ev_gnil, ev_gcons, ev_gcons1, ev_iseq, ev_iseqT, ev_iseqL, ev_iseqO, ev_r1, ev_r2, ev_lrg1, ev_sl, ev_sl1, ev_sl3, ev_sl4, ev_on, ev_os, ev_os1, ev_slT, ev_slL, ev_slO, ev_r3, ix_t0, ix_t1, ix_t2, en_pair, en_int, wipeM, List.map_cons, List.map_nil, List.length_cons, List.length_nil, List.replicate_succ, List.replicate_zero, List.cons_append, List.nil_append, List.append_nil, List.set_cons_zero, List.set_cons_succ, Nat.reduceAdd, Nat.reduceSub, Nat.zero_add, if_true, if_false, reduceIte, Int.reduceEq, Int.reduceLT, Int.reduceLE, Bool.false_eq_true, decide_true, decide_false, Bool.not_true, Bool.not_false, List.getElem?_cons_zero, List.getElem?_cons_succ, web_eq, ev_r2', hc n hn0 (by omega), hc 1 (by omega) (by omega), Bool.and_self] <;> rfl)]
  have key : ∀ as : List Int, (as.flatMap fun p => if (!(A 0 p == B 0 p)) = true then [p] else []) = as.filter fun p => !(A 0 p == B 0 p) := fun as => by
    induction as with
    | nil => rfl
    | cons c as ih => rw [List.flatMap_cons, ih, List.filter_cons]; split <;> simp
  obtain ⟨ms', e, x, rfl⟩ := for_acc (g := gN 3) (body := B1__law_lot_due) M.int (fun p => if (!(A 0 p == B 0 p)) = true then [p] else []) (fun ms => ∃ x, ms = [some (web n A), some (web n B), some (.loc 0), x]) (fun xs : List Int => [.lst (xs.map M.int)]) 1000 (irg 1 n) (by
    rintro p hp ms xs ⟨x, rfl⟩ hl
    rw [mem_irg] at hp
    refine ⟨_, turn_nx (by simp only [ev_seq, ev_seqN, ev_seqR, ev_seqB, ev_seqC, ev_seqE, ev_nil, ev_brk, ev_cnt, ev_retN, ev_expr, ev_expr1, ev_ret, ev_ret1, ev_if, ev_ifT, ev_ifF, ev_asg, ev_asg1, ev_asg2, ev_par, ev_par1, ev_def, ev_defR, ev_defN, ev_var0, ev_varS, ev_k, ev_anil, ev_acons, ev_acons1, ev_acons2, ev_tup, ev_tup_0, ev_tup_1, ev_tup_2, ev_tup_3, ev_lst, ev_lst_0, ev_lst_1, ev_lst_2, ev_lst_3, ev_mkT, ev_mkF, ev_bin, ev_bin1, ev_bin2, ev_un, ev_un1, ev_add, ev_addT, ev_addL, ev_sub, ev_neg, ev_lt, ev_le, ev_gt, ev_ge, ev_eqI, ev_neI, ev_eqB, ev_neB, ev_eqS, ev_neS, ev_and, ev_andT, ev_andF, ev_or, ev_orT, ev_orF, ev_not, ev_not1, ev_tnot, ev_tnot1, ev_tand, ev_tandT, ev_tandF, ev_tor, ev_torT, ev_torF, ev_tb, ev_tb1, ev_yes, ev_ife, ev_ifeT, ev_ifeF, ev_ch, ev_ch1, ev_ch2, ev_ch3T, ev_ch3F, ev_ch4, ev_is, ev_isB, ev_notN, ev_call, ev_call1, ev_own, ev_own_1, ev_own_2, ev_own_3, ev_own_4, ev_own_5, ev_ownK, ev_ownK_1, ev_ownK_01, ev_ownK_10, ev_lenT, ev_lenL, ev_lenO, ev_int, ev_intB, ev_abs, ev_min, ev_max, ev_tupT, ev_tupL, ev_listT, ev_listL, ev_meth, ev_meth2, ev_gN, ev_set, ev_set1, ev_gT, ev_gT2, ev_gT3, ev_gnil, ev_gcons, ev_gcons1, ev_iseq, ev_iseqT, ev_iseqL, ev_iseqO, ev_r1, ev_r2, ev_lrg1, ev_sl, ev_sl1, ev_sl3, ev_sl4, ev_on, ev_os, ev_os1, ev_slT, ev_slL, ev_slO, ev_r3, ix_t0, ix_t1, ix_t2, en_pair, en_int, wipeM, List.map_cons, List.map_nil, List.length_cons, List.length_nil, List.replicate_succ, List.replicate_zero, List.cons_append, List.nil_append, List.append_nil, List.set_cons_zero, List.set_cons_succ, Nat.reduceAdd, Nat.reduceSub, Nat.zero_add, if_true, if_false, reduceIte, Int.reduceEq, Int.reduceLT, Int.reduceLE, Bool.false_eq_true, decide_true, decide_false, Bool.not_true, Bool.not_false, List.getElem?_cons_zero, List.getElem?_cons_succ] <;> rfl) ?_, some (.int p), rfl⟩
    unfold B1__law_lot_due
    simp only [ev_seq, ev_seqN, ev_seqR, ev_seqB, ev_seqC, ev_seqE, ev_nil, ev_brk, ev_cnt, ev_retN, ev_expr, ev_expr1, ev_ret, ev_ret1, ev_if, ev_ifT, ev_ifF, ev_asg, ev_asg1, ev_asg2, ev_par, ev_par1, ev_def, ev_defR, ev_defN, ev_var0, ev_varS, ev_k, ev_anil, ev_acons, ev_acons1, ev_acons2, ev_tup, ev_tup_0, ev_tup_1, ev_tup_2, ev_tup_3, ev_lst, ev_lst_0, ev_lst_1, ev_lst_2, ev_lst_3, ev_mkT, ev_mkF, ev_bin, ev_bin1, ev_bin2, ev_un, ev_un1, ev_add, ev_addT, ev_addL, ev_sub, ev_neg, ev_lt, ev_le, ev_gt, ev_ge, ev_eqI, ev_neI, ev_eqB, ev_neB, ev_eqS, ev_neS, ev_and, ev_andT, ev_andF, ev_or, ev_orT, ev_orF, ev_not, ev_not1, ev_tnot, ev_tnot1, ev_tand, ev_tandT, ev_tandF, ev_tor, ev_torT, ev_torF, ev_tb, ev_tb1, ev_yes, ev_ife, ev_ifeT, ev_ifeF, ev_ch, ev_ch1, ev_ch2, ev_ch3T, ev_ch3F, ev_ch4, ev_is, ev_isB, ev_notN, ev_call, ev_call1, ev_own, ev_own_1, ev_own_2, ev_own_3, ev_own_4, ev_own_5, ev_ownK, ev_ownK_1, ev_ownK_01, ev_ownK_10, ev_lenT, ev_lenL, ev_lenO, ev_int, ev_intB, ev_abs, ev_min, ev_max, ev_tupT, ev_tupL, ev_listT, ev_listL, ev_meth, ev_meth2, ev_gN, ev_set, ev_set1, ev_gT, ev_gT2, ev_gT3, ev_gnil, ev_gcons, ev_gcons1, ev_iseq, ev_iseqT, ev_iseqL, ev_iseqO, ev_r1, ev_r2, ev_lrg1, ev_sl, ev_sl1, ev_sl3, ev_sl4, ev_on, ev_os, ev_os1, ev_slT, ev_slL, ev_slO, ev_r3, ix_t0, ix_t1, ix_t2, en_pair, en_int, wipeM, List.map_cons, List.map_nil, List.length_cons, List.length_nil, List.replicate_succ, List.replicate_zero, List.cons_append, List.nil_append, List.append_nil, List.set_cons_zero, List.set_cons_succ, Nat.reduceAdd, Nat.reduceSub, Nat.zero_add, if_true, if_false, reduceIte, Int.reduceEq, Int.reduceLT, Int.reduceLE, Bool.false_eq_true, decide_true, decide_false, Bool.not_true, Bool.not_false, List.getElem?_cons_zero, List.getElem?_cons_succ, web_eq, inM_te, ev_neB, lot_test hp.1 hp.2]
    cases q : !(A 0 p == B 0 p) with
    | false => simp only [ev_seq, ev_seqN, ev_seqR, ev_seqB, ev_seqC, ev_seqE, ev_nil, ev_brk, ev_cnt, ev_retN, ev_expr, ev_expr1, ev_ret, ev_ret1, ev_if, ev_ifT, ev_ifF, ev_asg, ev_asg1, ev_asg2, ev_par, ev_par1, ev_def, ev_defR, ev_defN, ev_var0, ev_varS, ev_k, ev_anil, ev_acons, ev_acons1, ev_acons2, ev_tup, ev_tup_0, ev_tup_1, ev_tup_2, ev_tup_3, ev_lst, ev_lst_0, ev_lst_1, ev_lst_2, ev_lst_3, ev_mkT, ev_mkF, ev_bin, ev_bin1, ev_bin2, ev_un, ev_un1, ev_add, ev_addT, ev_addL, ev_sub, ev_neg, ev_lt, ev_le, ev_gt, ev_ge, ev_eqI, ev_neI, ev_eqB, ev_neB, ev_eqS, ev_neS, ev_and, ev_andT, ev_andF, ev_or, ev_orT, ev_orF, ev_not, ev_not1, ev_tnot, ev_tnot1, ev_tand, ev_tandT, ev_tandF, ev_tor, ev_torT, ev_torF, ev_tb, ev_tb1, ev_yes, ev_ife, ev_ifeT, ev_ifeF, ev_ch, ev_ch1, ev_ch2, ev_ch3T, ev_ch3F, ev_ch4, ev_is, ev_isB, ev_notN, ev_call, ev_call1, ev_own, ev_own_1, ev_own_2, ev_own_3, ev_own_4, ev_own_5, ev_ownK, ev_ownK_1, ev_ownK_01, ev_ownK_10, ev_lenT, ev_lenL, ev_lenO, ev_int, ev_intB, ev_abs, ev_min, ev_max, ev_tupT, ev_tupL, ev_listT, ev_listL, ev_meth, ev_meth2, ev_gN, ev_set, ev_set1, ev_gT, ev_gT2, ev_gT3, ev_gnil, ev_gcons, ev_gcons1, ev_iseq, ev_iseqT, ev_iseqL, ev_iseqO, ev_r1, ev_r2, ev_lrg1, ev_sl, ev_sl1, ev_sl3, ev_sl4, ev_on, ev_os, ev_os1, ev_slT, ev_slL, ev_slO, ev_r3, ix_t0, ix_t1, ix_t2, en_pair, en_int, wipeM, List.map_cons, List.map_nil, List.length_cons, List.length_nil, List.replicate_succ, List.replicate_zero, List.cons_append, List.nil_append, List.append_nil, List.set_cons_zero, List.set_cons_succ, Nat.reduceAdd, Nat.reduceSub, Nat.zero_add, if_true, if_false, reduceIte, Int.reduceEq, Int.reduceLT, Int.reduceLE, Bool.false_eq_true, decide_true, decide_false, Bool.not_true, Bool.not_false, List.getElem?_cons_zero, List.getElem?_cons_succ]
    | true =>
      have hx : xs.length ≤ 999 := by rw [q] at hl; simpa using hl
      simp only [ev_seq, ev_seqN, ev_seqR, ev_seqB, ev_seqC, ev_seqE, ev_nil, ev_brk, ev_cnt, ev_retN, ev_expr, ev_expr1, ev_ret, ev_ret1, ev_if, ev_ifT, ev_ifF, ev_asg, ev_asg1, ev_asg2, ev_par, ev_par1, ev_def, ev_defR, ev_defN, ev_var0, ev_varS, ev_k, ev_anil, ev_acons, ev_acons1, ev_acons2, ev_tup, ev_tup_0, ev_tup_1, ev_tup_2, ev_tup_3, ev_lst, ev_lst_0, ev_lst_1, ev_lst_2, ev_lst_3, ev_mkT, ev_mkF, ev_bin, ev_bin1, ev_bin2, ev_un, ev_un1, ev_add, ev_addT, ev_addL, ev_sub, ev_neg, ev_lt, ev_le, ev_gt, ev_ge, ev_eqI, ev_neI, ev_eqB, ev_neB, ev_eqS, ev_neS, ev_and, ev_andT, ev_andF, ev_or, ev_orT, ev_orF, ev_not, ev_not1, ev_tnot, ev_tnot1, ev_tand, ev_tandT, ev_tandF, ev_tor, ev_torT, ev_torF, ev_tb, ev_tb1, ev_yes, ev_ife, ev_ifeT, ev_ifeF, ev_ch, ev_ch1, ev_ch2, ev_ch3T, ev_ch3F, ev_ch4, ev_is, ev_isB, ev_notN, ev_call, ev_call1, ev_own, ev_own_1, ev_own_2, ev_own_3, ev_own_4, ev_own_5, ev_ownK, ev_ownK_1, ev_ownK_01, ev_ownK_10, ev_lenT, ev_lenL, ev_lenO, ev_int, ev_intB, ev_abs, ev_min, ev_max, ev_tupT, ev_tupL, ev_listT, ev_listL, ev_meth, ev_meth2, ev_gN, ev_set, ev_set1, ev_gT, ev_gT2, ev_gT3, ev_gnil, ev_gcons, ev_gcons1, ev_iseq, ev_iseqT, ev_iseqL, ev_iseqO, ev_r1, ev_r2, ev_lrg1, ev_sl, ev_sl1, ev_sl3, ev_sl4, ev_on, ev_os, ev_os1, ev_slT, ev_slL, ev_slO, ev_r3, ix_t0, ix_t1, ix_t2, en_pair, en_int, wipeM, List.map_cons, List.map_nil, List.length_cons, List.length_nil, List.replicate_succ, List.replicate_zero, List.cons_append, List.nil_append, List.append_nil, List.set_cons_zero, List.set_cons_succ, Nat.reduceAdd, Nat.reduceSub, Nat.zero_add, if_true, if_false, reduceIte, Int.reduceEq, Int.reduceLT, Int.reduceLE, Bool.false_eq_true, decide_true, decide_false, Bool.not_true, Bool.not_false, List.getElem?_cons_zero, List.getElem?_cons_succ, ev_meth1]
      rw [ev_typL 0 _ _ rfl]
      simp only [ev_seq, ev_seqN, ev_seqR, ev_seqB, ev_seqC, ev_seqE, ev_nil, ev_brk, ev_cnt, ev_retN, ev_expr, ev_expr1, ev_ret, ev_ret1, ev_if, ev_ifT, ev_ifF, ev_asg, ev_asg1, ev_asg2, ev_par, ev_par1, ev_def, ev_defR, ev_defN, ev_var0, ev_varS, ev_k, ev_anil, ev_acons, ev_acons1, ev_acons2, ev_tup, ev_tup_0, ev_tup_1, ev_tup_2, ev_tup_3, ev_lst, ev_lst_0, ev_lst_1, ev_lst_2, ev_lst_3, ev_mkT, ev_mkF, ev_bin, ev_bin1, ev_bin2, ev_un, ev_un1, ev_add, ev_addT, ev_addL, ev_sub, ev_neg, ev_lt, ev_le, ev_gt, ev_ge, ev_eqI, ev_neI, ev_eqB, ev_neB, ev_eqS, ev_neS, ev_and, ev_andT, ev_andF, ev_or, ev_orT, ev_orF, ev_not, ev_not1, ev_tnot, ev_tnot1, ev_tand, ev_tandT, ev_tandF, ev_tor, ev_torT, ev_torF, ev_tb, ev_tb1, ev_yes, ev_ife, ev_ifeT, ev_ifeF, ev_ch, ev_ch1, ev_ch2, ev_ch3T, ev_ch3F, ev_ch4, ev_is, ev_isB, ev_notN, ev_call, ev_call1, ev_own, ev_own_1, ev_own_2, ev_own_3, ev_own_4, ev_own_5, ev_ownK, ev_ownK_1, ev_ownK_01, ev_ownK_10, ev_lenT, ev_lenL, ev_lenO, ev_int, ev_intB, ev_abs, ev_min, ev_max, ev_tupT, ev_tupL, ev_listT, ev_listL, ev_meth, ev_meth2, ev_gN, ev_set, ev_set1, ev_gT, ev_gT2, ev_gT3, ev_gnil, ev_gcons, ev_gcons1, ev_iseq, ev_iseqT, ev_iseqL, ev_iseqO, ev_r1, ev_r2, ev_lrg1, ev_sl, ev_sl1, ev_sl3, ev_sl4, ev_on, ev_os, ev_os1, ev_slT, ev_slL, ev_slO, ev_r3, ix_t0, ix_t1, ix_t2, en_pair, en_int, wipeM, List.map_cons, List.map_nil, List.length_cons, List.length_nil, List.replicate_succ, List.replicate_zero, List.cons_append, List.nil_append, List.append_nil, List.set_cons_zero, List.set_cons_succ, Nat.reduceAdd, Nat.reduceSub, Nat.zero_add, if_true, if_false, reduceIte, Int.reduceEq, Int.reduceLT, Int.reduceLE, Bool.false_eq_true, decide_true, decide_false, Bool.not_true, Bool.not_false, List.getElem?_cons_zero, List.getElem?_cons_succ]
      rw [ev_app rfl (by rw [List.length_map]; exact Nat.lt_of_le_of_lt hx (by decide))]
      simp only [ev_seq, ev_seqN, ev_seqR, ev_seqB, ev_seqC, ev_seqE, ev_nil, ev_brk, ev_cnt, ev_retN, ev_expr, ev_expr1, ev_ret, ev_ret1, ev_if, ev_ifT, ev_ifF, ev_asg, ev_asg1, ev_asg2, ev_par, ev_par1, ev_def, ev_defR, ev_defN, ev_var0, ev_varS, ev_k, ev_anil, ev_acons, ev_acons1, ev_acons2, ev_tup, ev_tup_0, ev_tup_1, ev_tup_2, ev_tup_3, ev_lst, ev_lst_0, ev_lst_1, ev_lst_2, ev_lst_3, ev_mkT, ev_mkF, ev_bin, ev_bin1, ev_bin2, ev_un, ev_un1, ev_add, ev_addT, ev_addL, ev_sub, ev_neg, ev_lt, ev_le, ev_gt, ev_ge, ev_eqI, ev_neI, ev_eqB, ev_neB, ev_eqS, ev_neS, ev_and, ev_andT, ev_andF, ev_or, ev_orT, ev_orF, ev_not, ev_not1, ev_tnot, ev_tnot1, ev_tand, ev_tandT, ev_tandF, ev_tor, ev_torT, ev_torF, ev_tb, ev_tb1, ev_yes, ev_ife, ev_ifeT, ev_ifeF, ev_ch, ev_ch1, ev_ch2, ev_ch3T, ev_ch3F, ev_ch4, ev_is, ev_isB, ev_notN, ev_call, ev_call1, ev_own, ev_own_1, ev_own_2, ev_own_3, ev_own_4, ev_own_5, ev_ownK, ev_ownK_1, ev_ownK_01, ev_ownK_10, ev_lenT, ev_lenL, ev_lenO, ev_int, ev_intB, ev_abs, ev_min, ev_max, ev_tupT, ev_tupL, ev_listT, ev_listL, ev_meth, ev_meth2, ev_gN, ev_set, ev_set1, ev_gT, ev_gT2, ev_gT3, ev_gnil, ev_gcons, ev_gcons1, ev_iseq, ev_iseqT, ev_iseqL, ev_iseqO, ev_r1, ev_r2, ev_lrg1, ev_sl, ev_sl1, ev_sl3, ev_sl4, ev_on, ev_os, ev_os1, ev_slT, ev_slL, ev_slO, ev_r3, ix_t0, ix_t1, ix_t2, en_pair, en_int, wipeM, List.map_cons, List.map_nil, List.length_cons, List.length_nil, List.replicate_succ, List.replicate_zero, List.cons_append, List.nil_append, List.append_nil, List.set_cons_zero, List.set_cons_succ, Nat.reduceAdd, Nat.reduceSub, Nat.zero_add, if_true, if_false, reduceIte, Int.reduceEq, Int.reduceLT, Int.reduceLE, Bool.false_eq_true, decide_true, decide_false, Bool.not_true, Bool.not_false, List.getElem?_cons_zero, List.getElem?_cons_succ, List.map_append]) [some (web n A), some (web n B), some (.loc 0), none] [] ⟨none, rfl⟩ (by
        rw [key, List.length_nil, Nat.zero_add]
        exact Nat.le_trans (lotD_len (A := A) (B := B) hn) (by decide))
  rw [key] at e
  rw [show ([O.lst []] : MH) = [.lst (([] : List Int).map M.int)] from rfl, e]
  simp only [ev_seq, ev_seqN, ev_seqR, ev_seqB, ev_seqC, ev_seqE, ev_nil, ev_brk, ev_cnt, ev_retN, ev_expr, ev_expr1, ev_ret, ev_ret1, ev_if, ev_ifT, ev_ifF, ev_asg, ev_asg1, ev_asg2, ev_par, ev_par1, ev_def, ev_defR, ev_defN, ev_var0, ev_varS, ev_k, ev_anil, ev_acons, ev_acons1, ev_acons2, ev_tup, ev_tup_0, ev_tup_1, ev_tup_2, ev_tup_3, ev_lst, ev_lst_0, ev_lst_1, ev_lst_2, ev_lst_3, ev_mkT, ev_mkF, ev_bin, ev_bin1, ev_bin2, ev_un, ev_un1, ev_add, ev_addT, ev_addL, ev_sub, ev_neg, ev_lt, ev_le, ev_gt, ev_ge, ev_eqI, ev_neI, ev_eqB, ev_neB, ev_eqS, ev_neS, ev_and, ev_andT, ev_andF, ev_or, ev_orT, ev_orF, ev_not, ev_not1, ev_tnot, ev_tnot1, ev_tand, ev_tandT, ev_tandF, ev_tor, ev_torT, ev_torF, ev_tb, ev_tb1, ev_yes, ev_ife, ev_ifeT, ev_ifeF, ev_ch, ev_ch1, ev_ch2, ev_ch3T, ev_ch3F, ev_ch4, ev_is, ev_isB, ev_notN, ev_call, ev_call1, ev_own, ev_own_1, ev_own_2, ev_own_3, ev_own_4, ev_own_5, ev_ownK, ev_ownK_1, ev_ownK_01, ev_ownK_10, ev_lenT, ev_lenL, ev_lenO, ev_int, ev_intB, ev_abs, ev_min, ev_max, ev_tupT, ev_tupL, ev_listT, ev_listL, ev_meth, ev_meth2, ev_gN, ev_set, ev_set1, ev_gT, ev_gT2, ev_gT3, ev_gnil, ev_gcons, ev_gcons1, ev_iseq, ev_iseqT, ev_iseqL, ev_iseqO, ev_r1, ev_r2, ev_lrg1, ev_sl, ev_sl1, ev_sl3, ev_sl4, ev_on, ev_os, ev_os1, ev_slT, ev_slL, ev_slO, ev_r3, ix_t0, ix_t1, ix_t2, en_pair, en_int, wipeM, List.map_cons, List.map_nil, List.length_cons, List.length_nil, List.replicate_succ, List.replicate_zero, List.cons_append, List.nil_append, List.append_nil, List.set_cons_zero, List.set_cons_succ, Nat.reduceAdd, Nat.reduceSub, Nat.zero_add, if_true, if_false, reduceIte, Int.reduceEq, Int.reduceLT, Int.reduceLE, Bool.false_eq_true, decide_true, decide_false, Bool.not_true, Bool.not_false, List.getElem?_cons_zero, List.getElem?_cons_succ]
  rw [show (irg 1 n).filter (fun p => !(A 0 p == B 0 p)) = lotD n A B from rfl, along_loc hn rfl (Nat.le_trans (lotD_len hn) (by decide)) lotD_in]
  simp only [ev_seq, ev_seqN, ev_seqR, ev_seqB, ev_seqC, ev_seqE, ev_nil, ev_brk, ev_cnt, ev_retN, ev_expr, ev_expr1, ev_ret, ev_ret1, ev_if, ev_ifT, ev_ifF, ev_asg, ev_asg1, ev_asg2, ev_par, ev_par1, ev_def, ev_defR, ev_defN, ev_var0, ev_varS, ev_k, ev_anil, ev_acons, ev_acons1, ev_acons2, ev_tup, ev_tup_0, ev_tup_1, ev_tup_2, ev_tup_3, ev_lst, ev_lst_0, ev_lst_1, ev_lst_2, ev_lst_3, ev_mkT, ev_mkF, ev_bin, ev_bin1, ev_bin2, ev_un, ev_un1, ev_add, ev_addT, ev_addL, ev_sub, ev_neg, ev_lt, ev_le, ev_gt, ev_ge, ev_eqI, ev_neI, ev_eqB, ev_neB, ev_eqS, ev_neS, ev_and, ev_andT, ev_andF, ev_or, ev_orT, ev_orF, ev_not, ev_not1, ev_tnot, ev_tnot1, ev_tand, ev_tandT, ev_tandF, ev_tor, ev_torT, ev_torF, ev_tb, ev_tb1, ev_yes, ev_ife, ev_ifeT, ev_ifeF, ev_ch, ev_ch1, ev_ch2, ev_ch3T, ev_ch3F, ev_ch4, ev_is, ev_isB, ev_notN, ev_call, ev_call1, ev_own, ev_own_1, ev_own_2, ev_own_3, ev_own_4, ev_own_5, ev_ownK, ev_ownK_1, ev_ownK_01, ev_ownK_10, ev_lenT, ev_lenL, ev_lenO, ev_int, ev_intB, ev_abs, ev_min, ev_max, ev_tupT, ev_tupL, ev_listT, ev_listL, ev_meth, ev_meth2, ev_gN, ev_set, ev_set1, ev_gT, ev_gT2, ev_gT3, ev_gnil, ev_gcons, ev_gcons1, ev_iseq, ev_iseqT, ev_iseqL, ev_iseqO, ev_r1, ev_r2, ev_lrg1, ev_sl, ev_sl1, ev_sl3, ev_sl4, ev_on, ev_os, ev_os1, ev_slT, ev_slL, ev_slO, ev_r3, ix_t0, ix_t1, ix_t2, en_pair, en_int, wipeM, List.map_cons, List.map_nil, List.length_cons, List.length_nil, List.replicate_succ, List.replicate_zero, List.cons_append, List.nil_append, List.append_nil, List.set_cons_zero, List.set_cons_succ, Nat.reduceAdd, Nat.reduceSub, Nat.zero_add, if_true, if_false, reduceIte, Int.reduceEq, Int.reduceLT, Int.reduceLE, Bool.false_eq_true, decide_true, decide_false, Bool.not_true, Bool.not_false, List.getElem?_cons_zero, List.getElem?_cons_succ, eqM_web]
  unfold lotM
  split
  · rename_i q; simp only [ev_seq, ev_seqN, ev_seqR, ev_seqB, ev_seqC, ev_seqE, ev_nil, ev_brk, ev_cnt, ev_retN, ev_expr, ev_expr1, ev_ret, ev_ret1, ev_if, ev_ifT, ev_ifF, ev_asg, ev_asg1, ev_asg2, ev_par, ev_par1, ev_def, ev_defR, ev_defN, ev_var0, ev_varS, ev_k, ev_anil, ev_acons, ev_acons1, ev_acons2, ev_tup, ev_tup_0, ev_tup_1, ev_tup_2, ev_tup_3, ev_lst, ev_lst_0, ev_lst_1, ev_lst_2, ev_lst_3, ev_mkT, ev_mkF, ev_bin, ev_bin1, ev_bin2, ev_un, ev_un1, ev_add, ev_addT, ev_addL, ev_sub, ev_neg, ev_lt, ev_le, ev_gt, ev_ge, ev_eqI, ev_neI, ev_eqB, ev_neB, ev_eqS, ev_neS, ev_and, ev_andT, ev_andF, ev_or, ev_orT, ev_orF, ev_not, ev_not1, ev_tnot, ev_tnot1, ev_tand, ev_tandT, ev_tandF, ev_tor, ev_torT, ev_torF, ev_tb, ev_tb1, ev_yes, ev_ife, ev_ifeT, ev_ifeF, ev_ch, ev_ch1, ev_ch2, ev_ch3T, ev_ch3F, ev_ch4, ev_is, ev_isB, ev_notN, ev_call, ev_call1, ev_own, ev_own_1, ev_own_2, ev_own_3, ev_own_4, ev_own_5, ev_ownK, ev_ownK_1, ev_ownK_01, ev_ownK_10, ev_lenT, ev_lenL, ev_lenO, ev_int, ev_intB, ev_abs, ev_min, ev_max, ev_tupT, ev_tupL, ev_listT, ev_listL, ev_meth, ev_meth2, ev_gN, ev_set, ev_set1, ev_gT, ev_gT2, ev_gT3, ev_gnil, ev_gcons, ev_gcons1, ev_iseq, ev_iseqT, ev_iseqL, ev_iseqO, ev_r1, ev_r2, ev_lrg1, ev_sl, ev_sl1, ev_sl3, ev_sl4, ev_on, ev_os, ev_os1, ev_slT, ev_slL, ev_slO, ev_r3, ix_t0, ix_t1, ix_t2, en_pair, en_int, wipeM, List.map_cons, List.map_nil, List.length_cons, List.length_nil, List.replicate_succ, List.replicate_zero, List.cons_append, List.nil_append, List.append_nil, List.set_cons_zero, List.set_cons_succ, Nat.reduceAdd, Nat.reduceSub, Nat.zero_add, if_true, if_false, reduceIte, Int.reduceEq, Int.reduceLT, Int.reduceLE, Bool.false_eq_true, decide_true, decide_false, Bool.not_true, Bool.not_false, List.getElem?_cons_zero, List.getElem?_cons_succ, q]; rfl
  · rename_i q; simp only [ev_seq, ev_seqN, ev_seqR, ev_seqB, ev_seqC, ev_seqE, ev_nil, ev_brk, ev_cnt, ev_retN, ev_expr, ev_expr1, ev_ret, ev_ret1, ev_if, ev_ifT, ev_ifF, ev_asg, ev_asg1, ev_asg2, ev_par, ev_par1, ev_def, ev_defR, ev_defN, ev_var0, ev_varS, ev_k, ev_anil, ev_acons, ev_acons1, ev_acons2, ev_tup, ev_tup_0, ev_tup_1, ev_tup_2, ev_tup_3, ev_lst, ev_lst_0, ev_lst_1, ev_lst_2, ev_lst_3, ev_mkT, ev_mkF, ev_bin, ev_bin1, ev_bin2, ev_un, ev_un1, ev_add, ev_addT, ev_addL, ev_sub, ev_neg, ev_lt, ev_le, ev_gt, ev_ge, ev_eqI, ev_neI, ev_eqB, ev_neB, ev_eqS, ev_neS, ev_and, ev_andT, ev_andF, ev_or, ev_orT, ev_orF, ev_not, ev_not1, ev_tnot, ev_tnot1, ev_tand, ev_tandT, ev_tandF, ev_tor, ev_torT, ev_torF, ev_tb, ev_tb1, ev_yes, ev_ife, ev_ifeT, ev_ifeF, ev_ch, ev_ch1, ev_ch2, ev_ch3T, ev_ch3F, ev_ch4, ev_is, ev_isB, ev_notN, ev_call, ev_call1, ev_own, ev_own_1, ev_own_2, ev_own_3, ev_own_4, ev_own_5, ev_ownK, ev_ownK_1, ev_ownK_01, ev_ownK_10, ev_lenT, ev_lenL, ev_lenO, ev_int, ev_intB, ev_abs, ev_min, ev_max, ev_tupT, ev_tupL, ev_listT, ev_listL, ev_meth, ev_meth2, ev_gN, ev_set, ev_set1, ev_gT, ev_gT2, ev_gT3, ev_gnil, ev_gcons, ev_gcons1, ev_iseq, ev_iseqT, ev_iseqL, ev_iseqO, ev_r1, ev_r2, ev_lrg1, ev_sl, ev_sl1, ev_sl3, ev_sl4, ev_on, ev_os, ev_os1, ev_slT, ev_slL, ev_slO, ev_r3, ix_t0, ix_t1, ix_t2, en_pair, en_int, wipeM, List.map_cons, List.map_nil, List.length_cons, List.length_nil, List.replicate_succ, List.replicate_zero, List.cons_append, List.nil_append, List.append_nil, List.set_cons_zero, List.set_cons_succ, Nat.reduceAdd, Nat.reduceSub, Nat.zero_add, if_true, if_false, reduceIte, Int.reduceEq, Int.reduceLT, Int.reduceLE, Bool.false_eq_true, decide_true, decide_false, Bool.not_true, Bool.not_false, List.getElem?_cons_zero, List.getElem?_cons_succ, q]
/-! ### the same odd triples: turned along a lot -/
theorem tri_congr {n : Int} {A B : Int → Int → Bool} : tri n A = tri n B ↔ ∀ a b c, 0 ≤ a → a < b → b < c → c < n → odd3 A a b c = odd3 B a b c := by
  have mem : ∀ (A : Int → Int → Bool) (t : Tr), t ∈ tri n A ↔ 0 ≤ t.a ∧ t.a < t.b ∧ t.b < t.c ∧ t.c < n ∧ odd3 A t.a t.b t.c = true := fun A t => by
    unfold tri triF
    simp only [List.mem_flatMap, mem_pairsL, List.mem_map, List.mem_filter, mem_irg]
    constructor
    · rintro ⟨⟨a, b⟩, ⟨h1, h2, h3⟩, c, ⟨⟨h4, h5⟩, h6⟩, rfl⟩
      exact ⟨h1, h2, by show b < c; omega, h5, h6⟩
    · rintro ⟨h1, h2, h3, h4, h5⟩
      exact ⟨(t.a, t.b), ⟨h1, h2, by show t.b < n; omega⟩, t.c, ⟨⟨by show t.b + 1 ≤ t.c; omega, h4⟩, h5⟩, rfl⟩
  constructor
  · intro h a b c h1 h2 h3 h4
    have q := mem A ⟨a, b, c⟩
    rw [h, mem B ⟨a, b, c⟩] at q
    rw [Bool.eq_iff_iff]
    exact ⟨fun z => (q.mpr ⟨h1, h2, h3, h4, z⟩).2.2.2.2, fun z => (q.mp ⟨h1, h2, h3, h4, z⟩).2.2.2.2⟩
  · intro h
    unfold tri
    refine flatMap_cong fun t ht => ?_
    rw [mem_pairsL] at ht
    unfold triF
    congr 1
    refine List.filter_congr fun c hc => ?_
    rw [mem_irg] at hc
    exact h _ _ _ ht.1 ht.2.1 (by omega) hc.2
theorem odd_flip {A : Int → Int → Bool} {ps : List Int} (hn : ps.Nodup) {a b c : Int} (h1 : a < b) (h2 : b < c) : odd3 (flipL A ps) a b c = odd3 A a b c := by
  unfold odd3
  rw [flipL_eq ps A hn (by omega : a ≠ b), flipL_eq ps A hn (by omega : a ≠ c), flipL_eq ps A hn (by omega : b ≠ c)]
  cases A a b <;> cases A a c <;> cases A b c <;> cases decide (a ∈ ps) <;> cases decide (b ∈ ps) <;> cases decide (c ∈ ps) <;> rfl
/-- two webs have the same odd triples exactly if one is the other turned along the lot -/
theorem two_graph {n : Int} {A B : Int → Int → Bool} : tri n B = tri n A ↔ canon n (flipL A (lotD n A B)) = canon n B := by
  rw [tri_congr, canon_congr]
  have dl : ∀ {p : Int}, 1 ≤ p → p < n → decide (p ∈ lotD n A B) = (A 0 p).xor (B 0 p) := fun {p} h1 h2 => by
    rw [Bool.eq_iff_iff, decide_eq_true_eq, mem_lotD]
    cases A 0 p <;> cases B 0 p <;> simp [h1, h2]
  have d0 : decide ((0 : Int) ∈ lotD n A B) = false := by rw [decide_eq_false_iff_not, mem_lotD]; omega
  constructor
  · intro h a b h1 h2 h3
    rw [flipL_eq _ A (lotD_nodup n A B) (by omega : a ≠ b)]
    by_cases ha : a = 0
    · subst ha
      rw [d0, dl (by omega) h3]
      cases A 0 b <;> cases B 0 b <;> rfl
    · have q := h 0 a b (by omega) (by omega) h2 h3
      rw [dl (by omega) (by omega), dl (by omega) h3]
      unfold odd3 at q
      revert q
      cases A 0 a <;> cases B 0 a <;> cases A 0 b <;> cases B 0 b <;> cases A a b <;> cases B a b <;> simp
  · intro h a b c h1 h2 h3 h4
    have e : odd3 B a b c = odd3 (flipL A (lotD n A B)) a b c := by
      unfold odd3
      rw [h a b h1 h2 (by omega), h a c h1 (by omega) h4, h b c (by omega) h3 h4]
    rw [e, odd_flip (lotD_nodup n A B) h2 h3]
end Tb.K19

set_option Elab.async false
set_option linter.all false
set_option maxRecDepth 100000
namespace Tb.K19
open PySem L2
open En (en da)

/-! ### a thing is the same as itself -/
theorem isi_int_t (i : Int) (h : MH) : isiM [.int i, .ty "tuple"] h = .ok (.bl false) h := rfl
theorem isi_int_s (i : Int) (h : MH) : isiM [.int i, .ty "str"] h = .ok (.bl false) h := rfl
theorem isi_int_i (i : Int) (h : MH) : isiM [.int i, .ty "int"] h = .ok (.bl true) h := rfl
theorem isi_int_b (i : Int) (h : MH) : isiM [.int i, .ty "bool"] h = .ok (.bl false) h := rfl
theorem isi_tup_t (xs : List M) (h : MH) : isiM [.tup xs, .ty "tuple"] h = .ok (.bl true) h := rfl
theorem isi_non_t (h : MH) : isiM [.non, .ty "tuple"] h = .ok (.bl false) h := rfl
theorem repr_non (h : MH) : reprM [.non] h = .ok (.str (PyData.shown .none)) h := rfl
inductive Sm : Nat → M → Prop
  | int (k : Nat) (i : Int) : Sm k (.int i)
  | non (k : Nat) : Sm k .non
  | tup {k : Nat} {xs : List M} : (∀ x ∈ xs, Sm k x) → xs.length ≤ LIM → Sm (k + 1) (.tup xs)
theorem Sm.clo : ∀ {k : Nat} {m : M}, Sm k m → Tb.clo m = true
  | _, _, .int _ _ => by simp [Tb.clo]
  | _, _, .non _ => by simp [Tb.clo]
  | _, _, .tup h _ => by
    rw [Tb.clo]
    exact all _ fun x hx => Sm.clo (h x hx)
where
  all : ∀ xs : List M, (∀ x ∈ xs, Tb.clo x = true) → cloL xs = true
    | [], _ => by rw [cloL]
    | x :: xs, h => by rw [cloL, h x List.mem_cons_self, all xs fun y hy => h y (List.mem_cons_of_mem _ hy)]; rfl
theorem is_int_spec (i : Int) (h : MH) : f__law_is_int [.int i] h = .ok (.bl true) h := by
  refine cloF_val (h' := []) (by simp [cloL, clo]) ?_ (by simp [clo])
  unfold F__law_is_int
  simp only [ev_seq, ev_seqN, ev_seqR, ev_seqB, ev_seqC, ev_seqE, ev_nil, ev_brk, ev_cnt, ev_retN, ev_expr, ev_expr1, ev_ret, ev_ret1, ev_if, ev_ifT, ev_ifF, ev_asg, ev_asg1, ev_asg2, ev_par, ev_par1, ev_def, ev_defR, ev_defN, ev_var0, ev_varS, ev_k, ev_anil, ev_acons, ev_acons1, ev_acons2, ev_tup, ev_tup_0, ev_tup_1, ev_tup_2, ev_tup_3, ev_lst, ev_lst_0, ev_lst_1, ev_lst_2, ev_lst_3, ev_mkT, ev_mkF, ev_bin, ev_bin1, ev_bin2, ev_un, ev_un1, ev_add, ev_addT, ev_addL, ev_sub, ev_neg, ev_lt, ev_le, ev_gt, ev_ge, ev_eqI, ev_neI, ev_eqB, ev_neB, ev_eqS, ev_neS, ev_and, ev_andT, ev_andF, ev_or, ev_orT, ev_orF, ev_not, ev_not1, ev_tnot, ev_tnot1, ev_tand, ev_tandT, ev_tandF, ev_tor, ev_torT, ev_torF, ev_tb, ev_tb1, ev_yes, ev_ife, ev_ifeT, ev_ifeF, ev_ch, ev_ch1, ev_ch2, ev_ch3T, ev_ch3F, ev_ch4, ev_is, ev_isB, ev_notN, ev_call, ev_call1, ev_own, ev_own_1, ev_own_2, ev_own_3, ev_own_4, ev_own_5, ev_ownK, ev_ownK_1, ev_ownK_01, ev_ownK_10, ev_lenT, ev_lenL, ev_lenO, ev_int, ev_intB, ev_abs, ev_min, ev_max, ev_tupT, ev_tupL, ev_listT, ev_listL, ev_meth, ev_meth2, ev_gN, ev_set, ev_set1, ev_gT, ev_gT2, ev_gT3, ev_gnil, ev_gcons, ev_gcons1, ev_iseq, ev_iseqT, ev_iseqL, ev_iseqO, ev_r1, ev_r2, ev_lrg1, ev_sl, ev_sl1, ev_sl3, ev_sl4, ev_on, ev_os, ev_os1, ev_slT, ev_slL, ev_slO, ev_r3, ix_t0, ix_t1, ix_t2, en_pair, en_int, wipeM, List.map_cons, List.map_nil, List.length_cons, List.length_nil, List.replicate_succ, List.replicate_zero, List.cons_append, List.nil_append, List.append_nil, List.set_cons_zero, List.set_cons_succ, Nat.reduceAdd, Nat.reduceSub, Nat.zero_add, if_true, if_false, reduceIte, Int.reduceEq, Int.reduceLT, Int.reduceLE, Bool.false_eq_true, decide_true, decide_false, Bool.not_true, Bool.not_false, List.getElem?_cons_zero, List.getElem?_cons_succ, isi_int_i, isi_int_b]
theorem all_true (xs : List M) (h : MH) : allM [.tmp (xs.map fun _ => M.bl true)] h = .ok (.bl true) h := by
  have e : (xs.map fun _ => M.bl true) = (xs.map fun _ => true).map M.bl := by rw [List.map_map]; rfl
  rw [e]
  unfold allM onBools
  simp only [seqOf, lsq, boolsOf_map]
  simp
theorem zip_self (xs : List M) : List.zipWith (fun x y => M.tup [x, y]) xs xs = xs.map fun x => .tup [x, x] := by
  induction xs with
  | nil => rfl
  | cons x xs ih => rw [List.zipWith_cons_cons, ih]; rfl
theorem same_spec : ∀ {k : Nat} {m : M}, Sm k m → ∀ h : MH, cloF (F__law_same (k + 1)) [m, m] h = .ok (.bl true) h := by
  intro k
  induction k with
  | zero =>
    intro m hm h
    refine cloF_val (h' := []) (by simp only [cloL, hm.clo, Bool.and_self]) ?_ (by simp [clo])
    cases hm with
    | int _ i => simp only [F__law_same, ev_seq, ev_seqN, ev_seqR, ev_seqB, ev_seqC, ev_seqE, ev_nil, ev_brk, ev_cnt, ev_retN, ev_expr, ev_expr1, ev_ret, ev_ret1, ev_if, ev_ifT, ev_ifF, ev_asg, ev_asg1, ev_asg2, ev_par, ev_par1, ev_def, ev_defR, ev_defN, ev_var0, ev_varS, ev_k, ev_anil, ev_acons, ev_acons1, ev_acons2, ev_tup, ev_tup_0, ev_tup_1, ev_tup_2, ev_tup_3, ev_lst, ev_lst_0, ev_lst_1, ev_lst_2, ev_lst_3, ev_mkT, ev_mkF, ev_bin, ev_bin1, ev_bin2, ev_un, ev_un1, ev_add, ev_addT, ev_addL, ev_sub, ev_neg, ev_lt, ev_le, ev_gt, ev_ge, ev_eqI, ev_neI, ev_eqB, ev_neB, ev_eqS, ev_neS, ev_and, ev_andT, ev_andF, ev_or, ev_orT, ev_orF, ev_not, ev_not1, ev_tnot, ev_tnot1, ev_tand, ev_tandT, ev_tandF, ev_tor, ev_torT, ev_torF, ev_tb, ev_tb1, ev_yes, ev_ife, ev_ifeT, ev_ifeF, ev_ch, ev_ch1, ev_ch2, ev_ch3T, ev_ch3F, ev_ch4, ev_is, ev_isB, ev_notN, ev_call, ev_call1, ev_own, ev_own_1, ev_own_2, ev_own_3, ev_own_4, ev_own_5, ev_ownK, ev_ownK_1, ev_ownK_01, ev_ownK_10, ev_lenT, ev_lenL, ev_lenO, ev_int, ev_intB, ev_abs, ev_min, ev_max, ev_tupT, ev_tupL, ev_listT, ev_listL, ev_meth, ev_meth2, ev_gN, ev_set, ev_set1, ev_gT, ev_gT2, ev_gT3, ev_gnil, ev_gcons, ev_gcons1, ev_iseq, ev_iseqT, ev_iseqL, ev_iseqO, ev_r1, ev_r2, ev_lrg1, ev_sl, ev_sl1, ev_sl3, ev_sl4, ev_on, ev_os, ev_os1, ev_slT, ev_slL, ev_slO, ev_r3, ix_t0, ix_t1, ix_t2, en_pair, en_int, wipeM, List.map_cons, List.map_nil, List.length_cons, List.length_nil, List.replicate_succ, List.replicate_zero, List.cons_append, List.nil_append, List.append_nil, List.set_cons_zero, List.set_cons_succ, Nat.reduceAdd, Nat.reduceSub, Nat.zero_add, if_true, if_false, reduceIte, Int.reduceEq, Int.reduceLT, Int.reduceLE, Bool.false_eq_true, decide_true, decide_false, Bool.not_true, Bool.not_false, List.getElem?_cons_zero, List.getElem?_cons_succ, isi_int_t, isi_int_s, is_int_spec]
    | non => simp only [F__law_same, ev_seq, ev_seqN, ev_seqR, ev_seqB, ev_seqC, ev_seqE, ev_nil, ev_brk, ev_cnt, ev_retN, ev_expr, ev_expr1, ev_ret, ev_ret1, ev_if, ev_ifT, ev_ifF, ev_asg, ev_asg1, ev_asg2, ev_par, ev_par1, ev_def, ev_defR, ev_defN, ev_var0, ev_varS, ev_k, ev_anil, ev_acons, ev_acons1, ev_acons2, ev_tup, ev_tup_0, ev_tup_1, ev_tup_2, ev_tup_3, ev_lst, ev_lst_0, ev_lst_1, ev_lst_2, ev_lst_3, ev_mkT, ev_mkF, ev_bin, ev_bin1, ev_bin2, ev_un, ev_un1, ev_add, ev_addT, ev_addL, ev_sub, ev_neg, ev_lt, ev_le, ev_gt, ev_ge, ev_eqI, ev_neI, ev_eqB, ev_neB, ev_eqS, ev_neS, ev_and, ev_andT, ev_andF, ev_or, ev_orT, ev_orF, ev_not, ev_not1, ev_tnot, ev_tnot1, ev_tand, ev_tandT, ev_tandF, ev_tor, ev_torT, ev_torF, ev_tb, ev_tb1, ev_yes, ev_ife, ev_ifeT, ev_ifeF, ev_ch, ev_ch1, ev_ch2, ev_ch3T, ev_ch3F, ev_ch4, ev_is, ev_isB, ev_notN, ev_call, ev_call1, ev_own, ev_own_1, ev_own_2, ev_own_3, ev_own_4, ev_own_5, ev_ownK, ev_ownK_1, ev_ownK_01, ev_ownK_10, ev_lenT, ev_lenL, ev_lenO, ev_int, ev_intB, ev_abs, ev_min, ev_max, ev_tupT, ev_tupL, ev_listT, ev_listL, ev_meth, ev_meth2, ev_gN, ev_set, ev_set1, ev_gT, ev_gT2, ev_gT3, ev_gnil, ev_gcons, ev_gcons1, ev_iseq, ev_iseqT, ev_iseqL, ev_iseqO, ev_r1, ev_r2, ev_lrg1, ev_sl, ev_sl1, ev_sl3, ev_sl4, ev_on, ev_os, ev_os1, ev_slT, ev_slL, ev_slO, ev_r3, ix_t0, ix_t1, ix_t2, en_pair, en_int, wipeM, List.map_cons, List.map_nil, List.length_cons, List.length_nil, List.replicate_succ, List.replicate_zero, List.cons_append, List.nil_append, List.append_nil, List.set_cons_zero, List.set_cons_succ, Nat.reduceAdd, Nat.reduceSub, Nat.zero_add, if_true, if_false, reduceIte, Int.reduceEq, Int.reduceLT, Int.reduceLE, Bool.false_eq_true, decide_true, decide_false, Bool.not_true, Bool.not_false, List.getElem?_cons_zero, List.getElem?_cons_succ, isi_non_t, repr_non]
  | succ k ih =>
    intro m hm h
    refine cloF_val (h' := []) (by simp only [cloL, hm.clo, Bool.and_self]) ?_ (by simp [clo])
    cases hm with
    | int _ i => simp only [F__law_same, ev_seq, ev_seqN, ev_seqR, ev_seqB, ev_seqC, ev_seqE, ev_nil, ev_brk, ev_cnt, ev_retN, ev_expr, ev_expr1, ev_ret, ev_ret1, ev_if, ev_ifT, ev_ifF, ev_asg, ev_asg1, ev_asg2, ev_par, ev_par1, ev_def, ev_defR, ev_defN, ev_var0, ev_varS, ev_k, ev_anil, ev_acons, ev_acons1, ev_acons2, ev_tup, ev_tup_0, ev_tup_1, ev_tup_2, ev_tup_3, ev_lst, ev_lst_0, ev_lst_1, ev_lst_2, ev_lst_3, ev_mkT, ev_mkF, ev_bin, ev_bin1, ev_bin2, ev_un, ev_un1, ev_add, ev_addT, ev_addL, ev_sub, ev_neg, ev_lt, ev_le, ev_gt, ev_ge, ev_eqI, ev_neI, ev_eqB, ev_neB, ev_eqS, ev_neS, ev_and, ev_andT, ev_andF, ev_or, ev_orT, ev_orF, ev_not, ev_not1, ev_tnot, ev_tnot1, ev_tand, ev_tandT, ev_tandF, ev_tor, ev_torT, ev_torF, ev_tb, ev_tb1, ev_yes, ev_ife, ev_ifeT, ev_ifeF, ev_ch, ev_ch1, ev_ch2, ev_ch3T, ev_ch3F, ev_ch4, ev_is, ev_isB, ev_notN, ev_call, ev_call1, ev_own, ev_own_1, ev_own_2, ev_own_3, ev_own_4, ev_own_5, ev_ownK, ev_ownK_1, ev_ownK_01, ev_ownK_10, ev_lenT, ev_lenL, ev_lenO, ev_int, ev_intB, ev_abs, ev_min, ev_max, ev_tupT, ev_tupL, ev_listT, ev_listL, ev_meth, ev_meth2, ev_gN, ev_set, ev_set1, ev_gT, ev_gT2, ev_gT3, ev_gnil, ev_gcons, ev_gcons1, ev_iseq, ev_iseqT, ev_iseqL, ev_iseqO, ev_r1, ev_r2, ev_lrg1, ev_sl, ev_sl1, ev_sl3, ev_sl4, ev_on, ev_os, ev_os1, ev_slT, ev_slL, ev_slO, ev_r3, ix_t0, ix_t1, ix_t2, en_pair, en_int, wipeM, List.map_cons, List.map_nil, List.length_cons, List.length_nil, List.replicate_succ, List.replicate_zero, List.cons_append, List.nil_append, List.append_nil, List.set_cons_zero, List.set_cons_succ, Nat.reduceAdd, Nat.reduceSub, Nat.zero_add, if_true, if_false, reduceIte, Int.reduceEq, Int.reduceLT, Int.reduceLE, Bool.false_eq_true, decide_true, decide_false, Bool.not_true, Bool.not_false, List.getElem?_cons_zero, List.getElem?_cons_succ, isi_int_t, isi_int_s, is_int_spec]
    | non => simp only [F__law_same, ev_seq, ev_seqN, ev_seqR, ev_seqB, ev_seqC, ev_seqE, ev_nil, ev_brk, ev_cnt, ev_retN, ev_expr, ev_expr1, ev_ret, ev_ret1, ev_if, ev_ifT, ev_ifF, ev_asg, ev_asg1, ev_asg2, ev_par, ev_par1, ev_def, ev_defR, ev_defN, ev_var0, ev_varS, ev_k, ev_anil, ev_acons, ev_acons1, ev_acons2, ev_tup, ev_tup_0, ev_tup_1, ev_tup_2, ev_tup_3, ev_lst, ev_lst_0, ev_lst_1, ev_lst_2, ev_lst_3, ev_mkT, ev_mkF, ev_bin, ev_bin1, ev_bin2, ev_un, ev_un1, ev_add, ev_addT, ev_addL, ev_sub, ev_neg, ev_lt, ev_le, ev_gt, ev_ge, ev_eqI, ev_neI, ev_eqB, ev_neB, ev_eqS, ev_neS, ev_and, ev_andT, ev_andF, ev_or, ev_orT, ev_orF, ev_not, ev_not1, ev_tnot, ev_tnot1, ev_tand, ev_tandT, ev_tandF, ev_tor, ev_torT, ev_torF, ev_tb, ev_tb1, ev_yes, ev_ife, ev_ifeT, ev_ifeF, ev_ch, ev_ch1, ev_ch2, ev_ch3T, ev_ch3F, ev_ch4, ev_is, ev_isB, ev_notN, ev_call, ev_call1, ev_own, ev_own_1, ev_own_2, ev_own_3, ev_own_4, ev_own_5, ev_ownK, ev_ownK_1, ev_ownK_01, ev_ownK_10, ev_lenT, ev_lenL, ev_lenO, ev_int, ev_intB, ev_abs, ev_min, ev_max, ev_tupT, ev_tupL, ev_listT, ev_listL, ev_meth, ev_meth2, ev_gN, ev_set, ev_set1, ev_gT, ev_gT2, ev_gT3, ev_gnil, ev_gcons, ev_gcons1, ev_iseq, ev_iseqT, ev_iseqL, ev_iseqO, ev_r1, ev_r2, ev_lrg1, ev_sl, ev_sl1, ev_sl3, ev_sl4, ev_on, ev_os, ev_os1, ev_slT, ev_slL, ev_slO, ev_r3, ix_t0, ix_t1, ix_t2, en_pair, en_int, wipeM, List.map_cons, List.map_nil, List.length_cons, List.length_nil, List.replicate_succ, List.replicate_zero, List.cons_append, List.nil_append, List.append_nil, List.set_cons_zero, List.set_cons_succ, Nat.reduceAdd, Nat.reduceSub, Nat.zero_add, if_true, if_false, reduceIte, Int.reduceEq, Int.reduceLT, Int.reduceLE, Bool.false_eq_true, decide_true, decide_false, Bool.not_true, Bool.not_false, List.getElem?_cons_zero, List.getElem?_cons_succ, isi_non_t, repr_non]
    | tup hx hl =>
      rename_i xs
      rw [F__law_same]
      have c1 : mLc false (iSeq (mCall zipM (aCons (mVar 0) (aCons (mVar 1) aNil)))) (gT 2 (gsCons (gN 2) (gsCons (gN 3) gsNil))) ttYes (E1__law_same (cloF (F__law_same (k + 1)))) [2, 3] [some (.tup xs), some (.tup xs), none, none] [] = .ok (.tmp (xs.map fun _ => M.bl true)) [] := by
        refine (mLc_all (as := xs) (fun x => .tup [x, x]) (fun _ => .bl true) ?_ ?_ hl).trans rfl
        · simp only [ev_seq, ev_seqN, ev_seqR, ev_seqB, ev_seqC, ev_seqE, ev_nil, ev_brk, ev_cnt, ev_retN, ev_expr, ev_expr1, ev_ret, ev_ret1, ev_if, ev_ifT, ev_ifF, ev_asg, ev_asg1, ev_asg2, ev_par, ev_par1, ev_def, ev_defR, ev_defN, ev_var0, ev_varS, ev_k, ev_anil, ev_acons, ev_acons1, ev_acons2, ev_tup, ev_tup_0, ev_tup_1, ev_tup_2, ev_tup_3, ev_lst, ev_lst_0, ev_lst_1, ev_lst_2, ev_lst_3, ev_mkT, ev_mkF, ev_bin, ev_bin1, ev_bin2, ev_un, ev_un1, ev_add, ev_addT, ev_addL, ev_sub, ev_neg, ev_lt, ev_le, ev_gt, ev_ge, ev_eqI, ev_neI, ev_eqB, ev_neB, ev_eqS, ev_neS, ev_and, ev_andT, ev_andF, ev_or, ev_orT, ev_orF, ev_not, ev_not1, ev_tnot, ev_tnot1, ev_tand, ev_tandT, ev_tandF, ev_tor, ev_torT, ev_torF, ev_tb, ev_tb1, ev_yes, ev_ife, ev_ifeT, ev_ifeF, ev_ch, ev_ch1, ev_ch2, ev_ch3T, ev_ch3F, ev_ch4, ev_is, ev_isB, ev_notN, ev_call, ev_call1, ev_own, ev_own_1, ev_own_2, ev_own_3, ev_own_4, ev_own_5, ev_ownK, ev_ownK_1, ev_ownK_01, ev_ownK_10, ev_lenT, ev_lenL, ev_lenO, ev_int, ev_intB, ev_abs, ev_min, ev_max, ev_tupT, ev_tupL, ev_listT, ev_listL, ev_meth, ev_meth2, ev_gN, ev_set, ev_set1, ev_gT, ev_gT2, ev_gT3, ev_gnil, ev_gcons, ev_gcons1, ev_iseq, ev_iseqT, ev_iseqL, ev_iseqO, ev_r1, ev_r2, ev_lrg1, ev_sl, ev_sl1, ev_sl3, ev_sl4, ev_on, ev_os, ev_os1, ev_slT, ev_slL, ev_slO, ev_r3, ix_t0, ix_t1, ix_t2, en_pair, en_int, wipeM, List.map_cons, List.map_nil, List.length_cons, List.length_nil, List.replicate_succ, List.replicate_zero, List.cons_append, List.nil_append, List.append_nil, List.set_cons_zero, List.set_cons_succ, Nat.reduceAdd, Nat.reduceSub, Nat.zero_add, if_true, if_false, reduceIte, Int.reduceEq, Int.reduceLT, Int.reduceLE, Bool.false_eq_true, decide_true, decide_false, Bool.not_true, Bool.not_false, List.getElem?_cons_zero, List.getElem?_cons_succ]
          show sISeq (.ok (.tmp (List.zipWith (fun x y => M.tup [x, y]) xs xs)) []) = _
          rw [zip_self]
          rfl
        · intro x hx'
          refine ⟨_, by simp only [ev_seq, ev_seqN, ev_seqR, ev_seqB, ev_seqC, ev_seqE, ev_nil, ev_brk, ev_cnt, ev_retN, ev_expr, ev_expr1, ev_ret, ev_ret1, ev_if, ev_ifT, ev_ifF, ev_asg, ev_asg1, ev_asg2, ev_par, ev_par1, ev_def, ev_defR, ev_defN, ev_var0, ev_varS, ev_k, ev_anil, ev_acons, ev_acons1, ev_acons2, ev_tup, ev_tup_0, ev_tup_1, ev_tup_2, ev_tup_3, ev_lst, ev_lst_0, ev_lst_1, ev_lst_2, ev_lst_3, ev_mkT, ev_mkF, ev_bin, ev_bin1, ev_bin2, ev_un, ev_un1, ev_add, ev_addT, ev_addL, ev_sub, ev_neg, ev_lt, ev_le, ev_gt, ev_ge, ev_eqI, ev_neI, ev_eqB, ev_neB, ev_eqS, ev_neS, ev_and, ev_andT, ev_andF, ev_or, ev_orT, ev_orF, ev_not, ev_not1, ev_tnot, ev_tnot1, ev_tand, ev_tandT, ev_tandF, ev_tor, ev_torT, ev_torF, ev_tb, ev_tb1, ev_yes, ev_ife, ev_ifeT, ev_ifeF, ev_ch, ev_ch1, ev_ch2, ev_ch3T, ev_ch3F, ev_ch4, ev_is, ev_isB, ev_notN, ev_call, ev_call1, ev_own, ev_own_1, ev_own_2, ev_own_3, ev_own_4, ev_own_5, ev_ownK, ev_ownK_1, ev_ownK_01, ev_ownK_10, ev_lenT, ev_lenL, ev_lenO, ev_int, ev_intB, ev_abs, ev_min, ev_max, ev_tupT, ev_tupL, ev_listT, ev_listL, ev_meth, ev_meth2, ev_gN, ev_set, ev_set1, ev_gT, ev_gT2, ev_gT3, ev_gnil, ev_gcons, ev_gcons1, ev_iseq, ev_iseqT, ev_iseqL, ev_iseqO, ev_r1, ev_r2, ev_lrg1, ev_sl, ev_sl1, ev_sl3, ev_sl4, ev_on, ev_os, ev_os1, ev_slT, ev_slL, ev_slO, ev_r3, ix_t0, ix_t1, ix_t2, en_pair, en_int, wipeM, List.map_cons, List.map_nil, List.length_cons, List.length_nil, List.replicate_succ, List.replicate_zero, List.cons_append, List.nil_append, List.append_nil, List.set_cons_zero, List.set_cons_succ, Nat.reduceAdd, Nat.reduceSub, Nat.zero_add, if_true, if_false, reduceIte, Int.reduceEq, Int.reduceLT, Int.reduceLE, Bool.false_eq_true, decide_true, decide_false, Bool.not_true, Bool.not_false, List.getElem?_cons_zero, List.getElem?_cons_succ] <;> rfl, ?_⟩
          unfold E1__law_same
          simp only [ev_seq, ev_seqN, ev_seqR, ev_seqB, ev_seqC, ev_seqE, ev_nil, ev_brk, ev_cnt, ev_retN, ev_expr, ev_expr1, ev_ret, ev_ret1, ev_if, ev_ifT, ev_ifF, ev_asg, ev_asg1, ev_asg2, ev_par, ev_par1, ev_def, ev_defR, ev_defN, ev_var0, ev_varS, ev_k, ev_anil, ev_acons, ev_acons1, ev_acons2, ev_tup, ev_tup_0, ev_tup_1, ev_tup_2, ev_tup_3, ev_lst, ev_lst_0, ev_lst_1, ev_lst_2, ev_lst_3, ev_mkT, ev_mkF, ev_bin, ev_bin1, ev_bin2, ev_un, ev_un1, ev_add, ev_addT, ev_addL, ev_sub, ev_neg, ev_lt, ev_le, ev_gt, ev_ge, ev_eqI, ev_neI, ev_eqB, ev_neB, ev_eqS, ev_neS, ev_and, ev_andT, ev_andF, ev_or, ev_orT, ev_orF, ev_not, ev_not1, ev_tnot, ev_tnot1, ev_tand, ev_tandT, ev_tandF, ev_tor, ev_torT, ev_torF, ev_tb, ev_tb1, ev_yes, ev_ife, ev_ifeT, ev_ifeF, ev_ch, ev_ch1, ev_ch2, ev_ch3T, ev_ch3F, ev_ch4, ev_is, ev_isB, ev_notN, ev_call, ev_call1, ev_own, ev_own_1, ev_own_2, ev_own_3, ev_own_4, ev_own_5, ev_ownK, ev_ownK_1, ev_ownK_01, ev_ownK_10, ev_lenT, ev_lenL, ev_lenO, ev_int, ev_intB, ev_abs, ev_min, ev_max, ev_tupT, ev_tupL, ev_listT, ev_listL, ev_meth, ev_meth2, ev_gN, ev_set, ev_set1, ev_gT, ev_gT2, ev_gT3, ev_gnil, ev_gcons, ev_gcons1, ev_iseq, ev_iseqT, ev_iseqL, ev_iseqO, ev_r1, ev_r2, ev_lrg1, ev_sl, ev_sl1, ev_sl3, ev_sl4, ev_on, ev_os, ev_os1, ev_slT, ev_slL, ev_slO, ev_r3, ix_t0, ix_t1, ix_t2, en_pair, en_int, wipeM, List.map_cons, List.map_nil, List.length_cons, List.length_nil, List.replicate_succ, List.replicate_zero, List.cons_append, List.nil_append, List.append_nil, List.set_cons_zero, List.set_cons_succ, Nat.reduceAdd, Nat.reduceSub, Nat.zero_add, if_true, if_false, reduceIte, Int.reduceEq, Int.reduceLT, Int.reduceLE, Bool.false_eq_true, decide_true, decide_false, Bool.not_true, Bool.not_false, List.getElem?_cons_zero, List.getElem?_cons_succ, ih (hx x hx')]
      simp only [ev_seq, ev_seqN, ev_seqR, ev_seqB, ev_seqC, ev_seqE, ev_nil, ev_brk, ev_cnt, ev_retN, ev_expr, ev_expr1, ev_ret, ev_ret1, ev_if, ev_ifT, ev_ifF, ev_asg, ev_asg1, ev_asg2, ev_par, ev_par1, ev_def, ev_defR, ev_defN, ev_var0, ev_varS, ev_k, ev_anil, ev_acons, ev_acons1, ev_acons2, ev_tup, ev_tup_0, ev_tup_1, ev_tup_2, ev_tup_3, ev_lst, ev_lst_0, ev_lst_1, ev_lst_2, ev_lst_3, ev_mkT, ev_mkF, ev_bin, ev_bin1, ev_bin2, ev_un, ev_un1, ev_add, ev_addT, ev_addL, ev_sub, ev_neg, ev_lt, ev_le, ev_gt, ev_ge, ev_eqI, ev_neI, ev_eqB, ev_neB, ev_eqS, ev_neS, ev_and, ev_andT, ev_andF, ev_or, ev_orT, ev_orF, ev_not, ev_not1, ev_tnot, ev_tnot1, ev_tand, ev_tandT, ev_tandF, ev_tor, ev_torT, ev_torF, ev_tb, ev_tb1, ev_yes, ev_ife, ev_ifeT, ev_ifeF, ev_ch, ev_ch1, ev_ch2, ev_ch3T, ev_ch3F, ev_ch4, ev_is, ev_isB, ev_notN, ev_call, ev_call1, ev_own, ev_own_1, ev_own_2, ev_own_3, ev_own_4, ev_own_5, ev_ownK, ev_ownK_1, ev_ownK_01, ev_ownK_10, ev_lenT, ev_lenL, ev_lenO, ev_int, ev_intB, ev_abs, ev_min, ev_max, ev_tupT, ev_tupL, ev_listT, ev_listL, ev_meth, ev_meth2, ev_gN, ev_set, ev_set1, ev_gT, ev_gT2, ev_gT3, ev_gnil, ev_gcons, ev_gcons1, ev_iseq, ev_iseqT, ev_iseqL, ev_iseqO, ev_r1, ev_r2, ev_lrg1, ev_sl, ev_sl1, ev_sl3, ev_sl4, ev_on, ev_os, ev_os1, ev_slT, ev_slL, ev_slO, ev_r3, ix_t0, ix_t1, ix_t2, en_pair, en_int, wipeM, List.map_cons, List.map_nil, List.length_cons, List.length_nil, List.replicate_succ, List.replicate_zero, List.cons_append, List.nil_append, List.append_nil, List.set_cons_zero, List.set_cons_succ, Nat.reduceAdd, Nat.reduceSub, Nat.zero_add, if_true, if_false, reduceIte, Int.reduceEq, Int.reduceLT, Int.reduceLE, Bool.false_eq_true, decide_true, decide_false, Bool.not_true, Bool.not_false, List.getElem?_cons_zero, List.getElem?_cons_succ, isi_tup_t, c1, all_true]
end Tb.K19

set_option Elab.async false
set_option linter.all false
set_option maxRecDepth 100000
/-! the bag of draws: two places ahead of all others -/
namespace Tb
open PySem L2
open En (en da)

structure Bag where
  cells : List Int
  x : Int
  m : Int
structure Bag.Ok (b : Bag) : Prop where
  nn : ∀ c ∈ b.cells, 0 ≤ c
  len : b.cells.length ≤ 63
  x0 : 0 ≤ b.x
  m0 : 0 ≤ b.m
  m1 : b.m < 2147483647
def bagR (b : Bag) (rest : MH) : MH := .lst (b.cells.map M.int) :: .lst [.loc 0, .int b.x, .int b.m] :: rest
theorem bag_ix0 (b : Bag) (r : MH) : ixM (.loc 1) (.int 0) (bagR b r) = .ok (.loc 0) (bagR b r) := ix_seq (xs := [.loc 0, .int b.x, .int b.m]) rfl (by decide) rfl
theorem bag_ix1 (b : Bag) (r : MH) : ixM (.loc 1) (.int 1) (bagR b r) = .ok (.int b.x) (bagR b r) := ix_seq (xs := [.loc 0, .int b.x, .int b.m]) rfl (by decide) rfl
theorem bag_ix2 (b : Bag) (r : MH) : ixM (.loc 1) (.int 2) (bagR b r) = .ok (.int b.m) (bagR b r) := ix_seq (xs := [.loc 0, .int b.x, .int b.m]) rfl (by decide) rfl
theorem bag_set1 (b : Bag) (r : MH) (v : Int) : setM (.loc 1) (.int 1) (.int v) (bagR b r) = some (bagR ⟨b.cells, v, b.m⟩ r) := rfl
theorem bag_set2 (b : Bag) (r : MH) (v : Int) : setM (.loc 1) (.int 2) (.int v) (bagR b r) = some (bagR ⟨b.cells, b.x, v⟩ r) := rfl
theorem bag_ne (b : Bag) (r : MH) : neM (.loc 0) (.tmp []) (bagR b r) = .ok (.bl (!decide (b.cells = []))) (bagR b r) := by
  unfold neM
  have e1 : dat (bagR b r) DP (.loc 0) = some (.list (b.cells.map (da (α := Int)))) := dat_loc (α := Int) (bagR b r) 0 b.cells rfl
  have e2 : dat (bagR b r) DP (.tmp []) = some (.list (([] : List Int).map (da (α := Int)))) := dat_tmp (α := Int) (bagR b r) []
  have e3 : strs2 (.loc 0) (.tmp []) = none := rfl
  have e4 : PyData.eqv (.list (b.cells.map (da (α := Int)))) (.list (([] : List Int).map (da (α := Int)))) = decide (b.cells = []) := by
    simp only [PyData.eqv]
    exact eqvAll_en b.cells []
  simp only [e1, e2, e3, e4]
theorem bag_pop (b : Bag) (init : List Int) (c : Int) (r : MH) (h : b.cells = init ++ [c]) : popM (.loc 0) [] (bagR b r) = .ok (.int c) (bagR ⟨init, b.x, b.m⟩ r) := by
  have e : (b.cells.map M.int)[(b.cells.map M.int).length - 1]? = some (.int c) := by rw [h]; simp
  show (match (b.cells.map M.int)[(b.cells.map M.int).length - 1]? with
    | some y => R.ok y ((bagR b r).set 0 (.lst (b.cells.map M.int).dropLast))
    | none => .bad) = _
  rw [e]
  show R.ok (M.int c) (O.lst (b.cells.map M.int).dropLast :: .lst [.loc 0, .int b.x, .int b.m] :: r) = _
  rw [h, List.map_append, List.map_cons, List.map_nil, List.dropLast_concat]
  rfl
theorem bag_typ0 (b : Bag) (r : MH) : typM (bagR b r) (.loc 0) = some "list" := rfl
/-! ### litter -/
def CloH (h : MH) : Prop := ∀ o ∈ h, ∃ xs, o = .lst xs ∧ cloL xs = true
theorem cloH_nil : CloH [] := fun o ho => by simp at ho
theorem cloH_cons {xs : List M} {h : MH} (h1 : cloL xs = true) (h2 : CloH h) : CloH (.lst xs :: h) := fun o ho => by
  rcases List.mem_cons.mp ho with rfl | ho
  · exact ⟨xs, rfl, h1⟩
  · exact h2 o ho
theorem frz_cloH (f : Nat → Option M) : ∀ {h : MH}, CloH h → optMap (frzO f) h = some h
  | [], _ => rfl
  | o :: h, c => by
    obtain ⟨xs, rfl, hx⟩ := c o List.mem_cons_self
    have e : frzO f (.lst xs) = some (.lst xs) := by
      show (frzL f xs).map O.lst = _
      rw [frzL_clo hx]
      rfl
    unfold optMap
    rw [e, frz_cloH f fun o' ho => c o' (List.mem_cons_of_mem _ ho)]
theorem bag_frz (b : Bag) {rest : MH} (c : CloH rest) {n : Nat} (hn : 0 < n) : optMap (frzO (low n)) (bagR b rest) = some (bagR b rest) := by
  have hc : cloL (b.cells.map M.int) = true := cloL_en (α := Int) b.cells
  have e1 : frzO (low n) (.lst (b.cells.map M.int)) = some (.lst (b.cells.map M.int)) := by
    show (frzL (low n) (b.cells.map M.int)).map O.lst = _
    rw [frzL_clo hc]
    rfl
  have e2 : frzO (low n) (.lst [.loc 0, .int b.x, .int b.m]) = some (.lst [.loc 0, .int b.x, .int b.m]) := by
    show (frzL (low n) [.loc 0, .int b.x, .int b.m]).map O.lst = _
    have e0 : frzM (low n) (.loc 0) = some (.loc 0) := by
      rw [frzM]
      unfold low
      rw [if_pos hn]
    rw [frzL, e0]
    simp only
    rw [frzL_clo (by simp [cloL, clo])]
    rfl
  unfold bagR optMap
  rw [e1]
  simp only
  unfold optMap
  rw [e2, frz_cloH _ c]
theorem gc_val {F : MF} {args : List M} {h h' h2 : MH} {r : M} (hF : F args h = .ok r h') (hr : clo r = true) (h2e : optMap (frzO (low h.length)) (h'.take h.length) = some h2) : gcF F args h = .ok r h2 := by
  unfold gcF
  rw [hF]
  simp only [frz_clo hr, h2e]
theorem gc_loc {F : MF} {args : List M} {h h' h2 : MH} {k : Nat} {xs : List M} (hF : F args h = .ok (.loc k) h') (hk : h.length ≤ k) (hx : h'[k]? = some (.lst xs)) (hr : cloL xs = true) (h2e : optMap (frzO (low h.length)) (h'.take h.length) = some h2) : gcF F args h = .ok (.tmp xs) h2 := by
  unfold gcF
  rw [hF]
  have e : frzM (gcAt h' h.length 6) (.loc k) = some (.tmp xs) := by
    rw [frzM]
    unfold gcAt
    rw [if_neg (by omega), hx]
    simp only [frzL_clo hr, Option.map_some]
  simp only [e, h2e]
theorem bag_take (b b' : Bag) (rest new : MH) : (bagR b' (rest ++ new)).take (bagR b rest).length = bagR b' rest := by
  unfold bagR
  rw [List.length_cons, List.length_cons, List.take_succ_cons, List.take_succ_cons, List.take_left]
/-- behind a run from a bag: a value, the bag changed, litter perhaps -/
theorem bag_val {F : MF} {args : List M} {b b' : Bag} {rest new : MH} {r : M} (hF : F args (bagR b rest) = .ok r (bagR b' (rest ++ new))) (hr : clo r = true) (c : CloH rest) : gcF F args (bagR b rest) = .ok r (bagR b' rest) :=
  gc_val hF hr (by rw [bag_take]; exact bag_frz b' c (by simp [bagR]))
theorem bag_val0 {F : MF} {args : List M} {b b' : Bag} {rest : MH} {r : M} (hF : F args (bagR b rest) = .ok r (bagR b' rest)) (hr : clo r = true) (c : CloH rest) : gcF F args (bagR b rest) = .ok r (bagR b' rest) :=
  bag_val (new := []) (by rw [List.append_nil]; exact hF) hr c
theorem bag_loc {F : MF} {args : List M} {b b' : Bag} {rest new : MH} {k : Nat} {xs : List M} (hF : F args (bagR b rest) = .ok (.loc k) (bagR b' (rest ++ new))) (hk : rest.length + 2 ≤ k) (hx : (bagR b' (rest ++ new))[k]? = some (.lst xs)) (hr : cloL xs = true) (c : CloH rest) :
    gcF F args (bagR b rest) = .ok (.tmp xs) (bagR b' rest) :=
  gc_loc hF (by simp [bagR]; omega) hx hr (by rw [bag_take]; exact bag_frz b' c (by simp [bagR]))
theorem eraseIdx_perm {α : Type} {l : List α} {i : Nat} {x : α} (h : l[i]? = some x) : (x :: l.eraseIdx i).Perm l := by
  obtain ⟨h1, h2⟩ := List.getElem?_eq_some_iff.mp h
  rw [List.eraseIdx_eq_take_drop_succ]
  have e : l = l.take i ++ x :: l.drop (i + 1) := by
    conv => lhs; rw [← List.take_append_drop i l, List.drop_eq_getElem_cons h1, h2]
  conv => rhs; rw [e]
  exact List.perm_middle.symm
theorem pop_at {n : Nat} {h : MH} {l : List Int} {j : Int} {y : Int} (hn : h[n]? = some (.lst (l.map M.int))) (h0 : 0 ≤ j) (h1 : j < 2 ^ 63) (hy : l[j.toNat]? = some y) : popM (.loc n) [.int j] h = .ok (.int y) (h.set n (.lst ((l.eraseIdx j.toNat).map M.int))) := by
  obtain ⟨h2, h3⟩ := List.getElem?_eq_some_iff.mp hy
  have e1 : seqIndex? j (l.map M.int).length = some j.toNat := by
    unfold seqIndex?
    rw [List.length_map]
    have a1 : ¬ j < 0 := by omega
    simp only [a1, if_false]
    rw [if_pos]
    simp only [Bool.and_eq_true, decide_eq_true_eq]
    omega
  have e2 : (l.map M.int)[j.toNat]? = some (.int y) := by rw [List.getElem?_map, hy]; rfl
  unfold popM
  simp only [hn]
  rw [if_pos (by omega)]
  simp only [e1, e2]
  rw [List.eraseIdx_eq_take_drop_succ, List.eraseIdx_eq_take_drop_succ, List.map_append, List.map_take, List.map_drop]
/-! ### while -/
theorem while_f {t : MT} {body : MX} {k : Nat} {ms : MS} {h h1 : MH} (e : t ms h = .ok false h1) : whileF t body (k + 1) ms h = .nx ms h1 := by
  unfold whileF
  rw [e]
  rfl
theorem while_t {t : MT} {body : MX} {k : Nat} {ms ms2 : MS} {h h1 h2 : MH} (e : t ms h = .ok true h1) (e2 : body ms h1 = .nx ms2 h2) : whileF t body (k + 1) ms h = whileF t body k ms2 h2 := by
  conv => lhs; unfold whileF
  rw [e]
  show (if true = true then (match body ms h1 with
    | .nx ms2 h2 => whileF t body k ms2 h2
    | .ct ms2 h2 => whileF t body k ms2 h2
    | .bk ms2 h2 => .nx ms2 h2
    | r => r) else RS.nx ms h1) = _
  rw [if_pos rfl, e2]
end Tb

set_option Elab.async false
set_option linter.all false
set_option maxRecDepth 100000
namespace Tb.K19
open PySem L2
open En (en da)

/-! ### draws -/
theorem draw_while (k : Int) (rest : MH) : ∀ (fuel : Nat) (b : Bag) (c f : Option M), b.Ok → b.cells.length < fuel →
    ∃ b' c', b'.Ok ∧ whileF T1__law_draw B2__law_draw fuel [some (.loc 1), some (.int k), c, f] (bagR b rest) = .nx [some (.loc 1), some (.int k), c', f] (bagR b' rest)
  | 0, b, c, f, ok, hf => by omega
  | fuel + 1, b, c, f, ok, hf => by
    by_cases hx : b.x = 0
    · by_cases hc : b.cells = []
      · exact ⟨b, c, ok, while_f (by unfold T1__law_draw; simp only [ev_seq, ev_seqN, ev_seqR, ev_seqB, ev_seqC, ev_seqE, ev_nil, ev_brk, ev_cnt, ev_retN, ev_expr, ev_expr1, ev_ret, ev_ret1, ev_if, ev_ifT, ev_ifF, ev_asg, ev_asg1, ev_asg2, ev_par, ev_par1, ev_def, ev_defR, ev_defN, ev_var0, ev_varS, ev_k, ev_anil, ev_acons, ev_acons1, ev_acons2, ev_tup, ev_tup_0, ev_tup_1, ev_tup_2, ev_tup_3, ev_lst, ev_lst_0, ev_lst_1, ev_lst_2, ev_lst_3, ev_mkT, ev_mkF, ev_bin, ev_bin1, ev_bin2, ev_un, ev_un1, ev_add, ev_addT, ev_addL, ev_sub, ev_neg, ev_lt, ev_le, ev_gt, ev_ge, ev_eqI, ev_neI, ev_eqB, ev_neB, ev_eqS, ev_neS, ev_and, ev_andT, ev_andF, ev_or, ev_orT, ev_orF, ev_not, ev_not1, ev_tnot, ev_tnot1, ev_tand, ev_tandT, ev_tandF, ev_tor, ev_torT, ev_torF, ev_tb, ev_tb1, ev_yes, ev_ife, ev_ifeT, ev_ifeF, ev_ch, ev_ch1, ev_ch2, ev_ch3T, ev_ch3F, ev_ch4, ev_is, ev_isB, ev_notN, ev_call, ev_call1, ev_own, ev_own_1, ev_own_2, ev_own_3, ev_own_4, ev_own_5, ev_ownK, ev_ownK_1, ev_ownK_01, ev_ownK_10, ev_lenT, ev_lenL, ev_lenO, ev_int, ev_intB, ev_abs, ev_min, ev_max, ev_tupT, ev_tupL, ev_listT, ev_listL, ev_meth, ev_meth2, ev_gN, ev_set, ev_set1, ev_gT, ev_gT2, ev_gT3, ev_gnil, ev_gcons, ev_gcons1, ev_iseq, ev_iseqT, ev_iseqL, ev_iseqO, ev_r1, ev_r2, ev_lrg1, ev_sl, ev_sl1, ev_sl3, ev_sl4, ev_on, ev_os, ev_os1, ev_slT, ev_slL, ev_slO, ev_r3, ix_t0, ix_t1, ix_t2, en_pair, en_int, wipeM, List.map_cons, List.map_nil, List.length_cons, List.length_nil, List.replicate_succ, List.replicate_zero, List.cons_append, List.nil_append, List.append_nil, List.set_cons_zero, List.set_cons_succ, Nat.reduceAdd, Nat.reduceSub, Nat.zero_add, if_true, if_false, reduceIte, Int.reduceEq, Int.reduceLT, Int.reduceLE, Bool.false_eq_true, decide_true, decide_false, Bool.not_true, Bool.not_false, List.getElem?_cons_zero, List.getElem?_cons_succ, bag_ix1, bag_ix0, bag_ne, hx, hc])⟩
      · obtain ⟨init, l, hl⟩ : ∃ init l, b.cells = init ++ [l] := ⟨b.cells.dropLast, b.cells.getLast hc, (List.dropLast_concat_getLast hc).symm⟩
        have hp : cPow 10 9 = true := by decide
        have hd : decide (b.cells = []) = false := by simp [hc]
        have l0 : 0 ≤ l := ok.nn l (by rw [hl]; simp)
        have lens : init.length < fuel := by
          have := congrArg List.length hl
          rw [List.length_append, List.length_singleton] at this
          omega
        have t1 : T1__law_draw [some (.loc 1), some (.int k), c, f] (bagR b rest) = .ok true (bagR b rest) := by
          unfold T1__law_draw
          simp only [ev_seq, ev_seqN, ev_seqR, ev_seqB, ev_seqC, ev_seqE, ev_nil, ev_brk, ev_cnt, ev_retN, ev_expr, ev_expr1, ev_ret, ev_ret1, ev_if, ev_ifT, ev_ifF, ev_asg, ev_asg1, ev_asg2, ev_par, ev_par1, ev_def, ev_defR, ev_defN, ev_var0, ev_varS, ev_k, ev_anil, ev_acons, ev_acons1, ev_acons2, ev_tup, ev_tup_0, ev_tup_1, ev_tup_2, ev_tup_3, ev_lst, ev_lst_0, ev_lst_1, ev_lst_2, ev_lst_3, ev_mkT, ev_mkF, ev_bin, ev_bin1, ev_bin2, ev_un, ev_un1, ev_add, ev_addT, ev_addL, ev_sub, ev_neg, ev_lt, ev_le, ev_gt, ev_ge, ev_eqI, ev_neI, ev_eqB, ev_neB, ev_eqS, ev_neS, ev_and, ev_andT, ev_andF, ev_or, ev_orT, ev_orF, ev_not, ev_not1, ev_tnot, ev_tnot1, ev_tand, ev_tandT, ev_tandF, ev_tor, ev_torT, ev_torF, ev_tb, ev_tb1, ev_yes, ev_ife, ev_ifeT, ev_ifeF, ev_ch, ev_ch1, ev_ch2, ev_ch3T, ev_ch3F, ev_ch4, ev_is, ev_isB, ev_notN, ev_call, ev_call1, ev_own, ev_own_1, ev_own_2, ev_own_3, ev_own_4, ev_own_5, ev_ownK, ev_ownK_1, ev_ownK_01, ev_ownK_10, ev_lenT, ev_lenL, ev_lenO, ev_int, ev_intB, ev_abs, ev_min, ev_max, ev_tupT, ev_tupL, ev_listT, ev_listL, ev_meth, ev_meth2, ev_gN, ev_set, ev_set1, ev_gT, ev_gT2, ev_gT3, ev_gnil, ev_gcons, ev_gcons1, ev_iseq, ev_iseqT, ev_iseqL, ev_iseqO, ev_r1, ev_r2, ev_lrg1, ev_sl, ev_sl1, ev_sl3, ev_sl4, ev_on, ev_os, ev_os1, ev_slT, ev_slL, ev_slO, ev_r3, ix_t0, ix_t1, ix_t2, en_pair, en_int, wipeM, List.map_cons, List.map_nil, List.length_cons, List.length_nil, List.replicate_succ, List.replicate_zero, List.cons_append, List.nil_append, List.append_nil, List.set_cons_zero, List.set_cons_succ, Nat.reduceAdd, Nat.reduceSub, Nat.zero_add, if_true, if_false, reduceIte, Int.reduceEq, Int.reduceLT, Int.reduceLE, Bool.false_eq_true, decide_true, decide_false, Bool.not_true, Bool.not_false, List.getElem?_cons_zero, List.getElem?_cons_succ, bag_ix1, bag_ix0, bag_ne, hx, hd]
        have ok2 : ∀ v : Int, 0 ≤ v → Bag.Ok ⟨init, v, b.m⟩ := fun v hv => ⟨fun c hc => ok.nn c (by rw [hl]; exact List.mem_append_left _ hc), by
          have := ok.len
          have := congrArg List.length hl
          rw [List.length_append, List.length_singleton] at this
          show init.length ≤ 63
          omega, hv, ok.m0, ok.m1⟩
        have bd : ∀ v : Int, v = (if (10 : Int) ^ (9 : Int).toNat < l then l else 0) → B2__law_draw [some (.loc 1), some (.int k), c, f] (bagR b rest) = .nx [some (.loc 1), some (.int k), some (.int l), f] (bagR ⟨init, v, b.m⟩ rest) := fun v hv => by
          unfold B2__law_draw
          simp only [ev_seq, ev_seqN, ev_seqR, ev_seqB, ev_seqC, ev_seqE, ev_nil, ev_brk, ev_cnt, ev_retN, ev_expr, ev_expr1, ev_ret, ev_ret1, ev_if, ev_ifT, ev_ifF, ev_asg, ev_asg1, ev_asg2, ev_par, ev_par1, ev_def, ev_defR, ev_defN, ev_var0, ev_varS, ev_k, ev_anil, ev_acons, ev_acons1, ev_acons2, ev_tup, ev_tup_0, ev_tup_1, ev_tup_2, ev_tup_3, ev_lst, ev_lst_0, ev_lst_1, ev_lst_2, ev_lst_3, ev_mkT, ev_mkF, ev_bin, ev_bin1, ev_bin2, ev_un, ev_un1, ev_add, ev_addT, ev_addL, ev_sub, ev_neg, ev_lt, ev_le, ev_gt, ev_ge, ev_eqI, ev_neI, ev_eqB, ev_neB, ev_eqS, ev_neS, ev_and, ev_andT, ev_andF, ev_or, ev_orT, ev_orF, ev_not, ev_not1, ev_tnot, ev_tnot1, ev_tand, ev_tandT, ev_tandF, ev_tor, ev_torT, ev_torF, ev_tb, ev_tb1, ev_yes, ev_ife, ev_ifeT, ev_ifeF, ev_ch, ev_ch1, ev_ch2, ev_ch3T, ev_ch3F, ev_ch4, ev_is, ev_isB, ev_notN, ev_call, ev_call1, ev_own, ev_own_1, ev_own_2, ev_own_3, ev_own_4, ev_own_5, ev_ownK, ev_ownK_1, ev_ownK_01, ev_ownK_10, ev_lenT, ev_lenL, ev_lenO, ev_int, ev_intB, ev_abs, ev_min, ev_max, ev_tupT, ev_tupL, ev_listT, ev_listL, ev_meth, ev_meth2, ev_gN, ev_set, ev_set1, ev_gT, ev_gT2, ev_gT3, ev_gnil, ev_gcons, ev_gcons1, ev_iseq, ev_iseqT, ev_iseqL, ev_iseqO, ev_r1, ev_r2, ev_lrg1, ev_sl, ev_sl1, ev_sl3, ev_sl4, ev_on, ev_os, ev_os1, ev_slT, ev_slL, ev_slO, ev_r3, ix_t0, ix_t1, ix_t2, en_pair, en_int, wipeM, List.map_cons, List.map_nil, List.length_cons, List.length_nil, List.replicate_succ, List.replicate_zero, List.cons_append, List.nil_append, List.append_nil, List.set_cons_zero, List.set_cons_succ, Nat.reduceAdd, Nat.reduceSub, Nat.zero_add, if_true, if_false, reduceIte, Int.reduceEq, Int.reduceLT, Int.reduceLE, Bool.false_eq_true, decide_true, decide_false, Bool.not_true, Bool.not_false, List.getElem?_cons_zero, List.getElem?_cons_succ, bag_ix0, ev_meth1, bag_typ0, bag_pop b init l rest hl, ev_pow, hp]
          cases q : decide ((10 : Int) ^ (9 : Int).toNat < l) with
          | true =>
            have q' := of_decide_eq_true q
            rw [if_pos q'] at hv
            simp only [ev_seq, ev_seqN, ev_seqR, ev_seqB, ev_seqC, ev_seqE, ev_nil, ev_brk, ev_cnt, ev_retN, ev_expr, ev_expr1, ev_ret, ev_ret1, ev_if, ev_ifT, ev_ifF, ev_asg, ev_asg1, ev_asg2, ev_par, ev_par1, ev_def, ev_defR, ev_defN, ev_var0, ev_varS, ev_k, ev_anil, ev_acons, ev_acons1, ev_acons2, ev_tup, ev_tup_0, ev_tup_1, ev_tup_2, ev_tup_3, ev_lst, ev_lst_0, ev_lst_1, ev_lst_2, ev_lst_3, ev_mkT, ev_mkF, ev_bin, ev_bin1, ev_bin2, ev_un, ev_un1, ev_add, ev_addT, ev_addL, ev_sub, ev_neg, ev_lt, ev_le, ev_gt, ev_ge, ev_eqI, ev_neI, ev_eqB, ev_neB, ev_eqS, ev_neS, ev_and, ev_andT, ev_andF, ev_or, ev_orT, ev_orF, ev_not, ev_not1, ev_tnot, ev_tnot1, ev_tand, ev_tandT, ev_tandF, ev_tor, ev_torT, ev_torF, ev_tb, ev_tb1, ev_yes, ev_ife, ev_ifeT, ev_ifeF, ev_ch, ev_ch1, ev_ch2, ev_ch3T, ev_ch3F, ev_ch4, ev_is, ev_isB, ev_notN, ev_call, ev_call1, ev_own, ev_own_1, ev_own_2, ev_own_3, ev_own_4, ev_own_5, ev_ownK, ev_ownK_1, ev_ownK_01, ev_ownK_10, ev_lenT, ev_lenL, ev_lenO, ev_int, ev_intB, ev_abs, ev_min, ev_max, ev_tupT, ev_tupL, ev_listT, ev_listL, ev_meth, ev_meth2, ev_gN, ev_set, ev_set1, ev_gT, ev_gT2, ev_gT3, ev_gnil, ev_gcons, ev_gcons1, ev_iseq, ev_iseqT, ev_iseqL, ev_iseqO, ev_r1, ev_r2, ev_lrg1, ev_sl, ev_sl1, ev_sl3, ev_sl4, ev_on, ev_os, ev_os1, ev_slT, ev_slL, ev_slO, ev_r3, ix_t0, ix_t1, ix_t2, en_pair, en_int, wipeM, List.map_cons, List.map_nil, List.length_cons, List.length_nil, List.replicate_succ, List.replicate_zero, List.cons_append, List.nil_append, List.append_nil, List.set_cons_zero, List.set_cons_succ, Nat.reduceAdd, Nat.reduceSub, Nat.zero_add, if_true, if_false, reduceIte, Int.reduceEq, Int.reduceLT, Int.reduceLE, Bool.false_eq_true, decide_true, decide_false, Bool.not_true, Bool.not_false, List.getElem?_cons_zero, List.getElem?_cons_succ]
            rw [ev_set2 (bag_set1 ⟨init, b.x, b.m⟩ rest l)]
            simp only [ev_seq, ev_seqN, ev_seqR, ev_seqB, ev_seqC, ev_seqE, ev_nil, ev_brk, ev_cnt, ev_retN, ev_expr, ev_expr1, ev_ret, ev_ret1, ev_if, ev_ifT, ev_ifF, ev_asg, ev_asg1, ev_asg2, ev_par, ev_par1, ev_def, ev_defR, ev_defN, ev_var0, ev_varS, ev_k, ev_anil, ev_acons, ev_acons1, ev_acons2, ev_tup, ev_tup_0, ev_tup_1, ev_tup_2, ev_tup_3, ev_lst, ev_lst_0, ev_lst_1, ev_lst_2, ev_lst_3, ev_mkT, ev_mkF, ev_bin, ev_bin1, ev_bin2, ev_un, ev_un1, ev_add, ev_addT, ev_addL, ev_sub, ev_neg, ev_lt, ev_le, ev_gt, ev_ge, ev_eqI, ev_neI, ev_eqB, ev_neB, ev_eqS, ev_neS, ev_and, ev_andT, ev_andF, ev_or, ev_orT, ev_orF, ev_not, ev_not1, ev_tnot, ev_tnot1, ev_tand, ev_tandT, ev_tandF, ev_tor, ev_torT, ev_torF, ev_tb, ev_tb1, ev_yes, ev_ife, ev_ifeT, ev_ifeF, ev_ch, ev_ch1, ev_ch2, ev_ch3T, ev_ch3F, ev_ch4, ev_is, ev_isB, ev_notN, ev_call, ev_call1, ev_own, ev_own_1, ev_own_2, ev_own_3, ev_own_4, ev_own_5, ev_ownK, ev_ownK_1, ev_ownK_01, ev_ownK_10, ev_lenT, ev_lenL, ev_lenO, ev_int, ev_intB, ev_abs, ev_min, ev_max, ev_tupT, ev_tupL, ev_listT, ev_listL, ev_meth, ev_meth2, ev_gN, ev_set, ev_set1, ev_gT, ev_gT2, ev_gT3, ev_gnil, ev_gcons, ev_gcons1, ev_iseq, ev_iseqT, ev_iseqL, ev_iseqO, ev_r1, ev_r2, ev_lrg1, ev_sl, ev_sl1, ev_sl3, ev_sl4, ev_on, ev_os, ev_os1, ev_slT, ev_slL, ev_slO, ev_r3, ix_t0, ix_t1, ix_t2, en_pair, en_int, wipeM, List.map_cons, List.map_nil, List.length_cons, List.length_nil, List.replicate_succ, List.replicate_zero, List.cons_append, List.nil_append, List.append_nil, List.set_cons_zero, List.set_cons_succ, Nat.reduceAdd, Nat.reduceSub, Nat.zero_add, if_true, if_false, reduceIte, Int.reduceEq, Int.reduceLT, Int.reduceLE, Bool.false_eq_true, decide_true, decide_false, Bool.not_true, Bool.not_false, List.getElem?_cons_zero, List.getElem?_cons_succ, hv]
          | false =>
            have q' := of_decide_eq_false q
            rw [if_neg q'] at hv
            simp only [ev_seq, ev_seqN, ev_seqR, ev_seqB, ev_seqC, ev_seqE, ev_nil, ev_brk, ev_cnt, ev_retN, ev_expr, ev_expr1, ev_ret, ev_ret1, ev_if, ev_ifT, ev_ifF, ev_asg, ev_asg1, ev_asg2, ev_par, ev_par1, ev_def, ev_defR, ev_defN, ev_var0, ev_varS, ev_k, ev_anil, ev_acons, ev_acons1, ev_acons2, ev_tup, ev_tup_0, ev_tup_1, ev_tup_2, ev_tup_3, ev_lst, ev_lst_0, ev_lst_1, ev_lst_2, ev_lst_3, ev_mkT, ev_mkF, ev_bin, ev_bin1, ev_bin2, ev_un, ev_un1, ev_add, ev_addT, ev_addL, ev_sub, ev_neg, ev_lt, ev_le, ev_gt, ev_ge, ev_eqI, ev_neI, ev_eqB, ev_neB, ev_eqS, ev_neS, ev_and, ev_andT, ev_andF, ev_or, ev_orT, ev_orF, ev_not, ev_not1, ev_tnot, ev_tnot1, ev_tand, ev_tandT, ev_tandF, ev_tor, ev_torT, ev_torF, ev_tb, ev_tb1, ev_yes, ev_ife, ev_ifeT, ev_ifeF, ev_ch, ev_ch1, ev_ch2, ev_ch3T, ev_ch3F, ev_ch4, ev_is, ev_isB, ev_notN, ev_call, ev_call1, ev_own, ev_own_1, ev_own_2, ev_own_3, ev_own_4, ev_own_5, ev_ownK, ev_ownK_1, ev_ownK_01, ev_ownK_10, ev_lenT, ev_lenL, ev_lenO, ev_int, ev_intB, ev_abs, ev_min, ev_max, ev_tupT, ev_tupL, ev_listT, ev_listL, ev_meth, ev_meth2, ev_gN, ev_set, ev_set1, ev_gT, ev_gT2, ev_gT3, ev_gnil, ev_gcons, ev_gcons1, ev_iseq, ev_iseqT, ev_iseqL, ev_iseqO, ev_r1, ev_r2, ev_lrg1, ev_sl, ev_sl1, ev_sl3, ev_sl4, ev_on, ev_os, ev_os1, ev_slT, ev_slL, ev_slO, ev_r3, ix_t0, ix_t1, ix_t2, en_pair, en_int, wipeM, List.map_cons, List.map_nil, List.length_cons, List.length_nil, List.replicate_succ, List.replicate_zero, List.cons_append, List.nil_append, List.append_nil, List.set_cons_zero, List.set_cons_succ, Nat.reduceAdd, Nat.reduceSub, Nat.zero_add, if_true, if_false, reduceIte, Int.reduceEq, Int.reduceLT, Int.reduceLE, Bool.false_eq_true, decide_true, decide_false, Bool.not_true, Bool.not_false, List.getElem?_cons_zero, List.getElem?_cons_succ]
            rw [ev_set2 (bag_set1 ⟨init, b.x, b.m⟩ rest 0)]
            simp only [ev_seq, ev_seqN, ev_seqR, ev_seqB, ev_seqC, ev_seqE, ev_nil, ev_brk, ev_cnt, ev_retN, ev_expr, ev_expr1, ev_ret, ev_ret1, ev_if, ev_ifT, ev_ifF, ev_asg, ev_asg1, ev_asg2, ev_par, ev_par1, ev_def, ev_defR, ev_defN, ev_var0, ev_varS, ev_k, ev_anil, ev_acons, ev_acons1, ev_acons2, ev_tup, ev_tup_0, ev_tup_1, ev_tup_2, ev_tup_3, ev_lst, ev_lst_0, ev_lst_1, ev_lst_2, ev_lst_3, ev_mkT, ev_mkF, ev_bin, ev_bin1, ev_bin2, ev_un, ev_un1, ev_add, ev_addT, ev_addL, ev_sub, ev_neg, ev_lt, ev_le, ev_gt, ev_ge, ev_eqI, ev_neI, ev_eqB, ev_neB, ev_eqS, ev_neS, ev_and, ev_andT, ev_andF, ev_or, ev_orT, ev_orF, ev_not, ev_not1, ev_tnot, ev_tnot1, ev_tand, ev_tandT, ev_tandF, ev_tor, ev_torT, ev_torF, ev_tb, ev_tb1, ev_yes, ev_ife, ev_ifeT, ev_ifeF, ev_ch, ev_ch1, ev_ch2, ev_ch3T, ev_ch3F, ev_ch4, ev_is, ev_isB, ev_notN, ev_call, ev_call1, ev_own, ev_own_1, ev_own_2, ev_own_3, ev_own_4, ev_own_5, ev_ownK, ev_ownK_1, ev_ownK_01, ev_ownK_10, ev_lenT, ev_lenL, ev_lenO, ev_int, ev_intB, ev_abs, ev_min, ev_max, ev_tupT, ev_tupL, ev_listT, ev_listL, ev_meth, ev_meth2, ev_gN, ev_set, ev_set1, ev_gT, ev_gT2, ev_gT3, ev_gnil, ev_gcons, ev_gcons1, ev_iseq, ev_iseqT, ev_iseqL, ev_iseqO, ev_r1, ev_r2, ev_lrg1, ev_sl, ev_sl1, ev_sl3, ev_sl4, ev_on, ev_os, ev_os1, ev_slT, ev_slL, ev_slO, ev_r3, ix_t0, ix_t1, ix_t2, en_pair, en_int, wipeM, List.map_cons, List.map_nil, List.length_cons, List.length_nil, List.replicate_succ, List.replicate_zero, List.cons_append, List.nil_append, List.append_nil, List.set_cons_zero, List.set_cons_succ, Nat.reduceAdd, Nat.reduceSub, Nat.zero_add, if_true, if_false, reduceIte, Int.reduceEq, Int.reduceLT, Int.reduceLE, Bool.false_eq_true, decide_true, decide_false, Bool.not_true, Bool.not_false, List.getElem?_cons_zero, List.getElem?_cons_succ, hv]
        obtain ⟨b', c', o', e'⟩ := draw_while k rest fuel ⟨init, if (10 : Int) ^ (9 : Int).toNat < l then l else 0, b.m⟩ (some (.int l)) f (ok2 _ (by split <;> omega)) lens
        exact ⟨b', c', o', by rw [while_t t1 (bd _ rfl), e']⟩
    · have hd : decide (b.x = 0) = false := by simp [hx]
      exact ⟨b, c, ok, while_f (by unfold T1__law_draw; simp only [ev_seq, ev_seqN, ev_seqR, ev_seqB, ev_seqC, ev_seqE, ev_nil, ev_brk, ev_cnt, ev_retN, ev_expr, ev_expr1, ev_ret, ev_ret1, ev_if, ev_ifT, ev_ifF, ev_asg, ev_asg1, ev_asg2, ev_par, ev_par1, ev_def, ev_defR, ev_defN, ev_var0, ev_varS, ev_k, ev_anil, ev_acons, ev_acons1, ev_acons2, ev_tup, ev_tup_0, ev_tup_1, ev_tup_2, ev_tup_3, ev_lst, ev_lst_0, ev_lst_1, ev_lst_2, ev_lst_3, ev_mkT, ev_mkF, ev_bin, ev_bin1, ev_bin2, ev_un, ev_un1, ev_add, ev_addT, ev_addL, ev_sub, ev_neg, ev_lt, ev_le, ev_gt, ev_ge, ev_eqI, ev_neI, ev_eqB, ev_neB, ev_eqS, ev_neS, ev_and, ev_andT, ev_andF, ev_or, ev_orT, ev_orF, ev_not, ev_not1, ev_tnot, ev_tnot1, ev_tand, ev_tandT, ev_tandF, ev_tor, ev_torT, ev_torF, ev_tb, ev_tb1, ev_yes, ev_ife, ev_ifeT, ev_ifeF, ev_ch, ev_ch1, ev_ch2, ev_ch3T, ev_ch3F, ev_ch4, ev_is, ev_isB, ev_notN, ev_call, ev_call1, ev_own, ev_own_1, ev_own_2, ev_own_3, ev_own_4, ev_own_5, ev_ownK, ev_ownK_1, ev_ownK_01, ev_ownK_10, ev_lenT, ev_lenL, ev_lenO, ev_int, ev_intB, ev_abs, ev_min, ev_max, ev_tupT, ev_tupL, ev_listT, ev_listL, ev_meth, ev_meth2, ev_gN, ev_set, ev_set1, ev_gT, ev_gT2, ev_gT3, ev_gnil, ev_gcons, ev_gcons1, ev_iseq, ev_iseqT, ev_iseqL, ev_iseqO, ev_r1, ev_r2, ev_lrg1, ev_sl, ev_sl1, ev_sl3, ev_sl4, ev_on, ev_os, ev_os1, ev_slT, ev_slL, ev_slO, ev_r3, ix_t0, ix_t1, ix_t2, en_pair, en_int, wipeM, List.map_cons, List.map_nil, List.length_cons, List.length_nil, List.replicate_succ, List.replicate_zero, List.cons_append, List.nil_append, List.append_nil, List.set_cons_zero, List.set_cons_succ, Nat.reduceAdd, Nat.reduceSub, Nat.zero_add, if_true, if_false, reduceIte, Int.reduceEq, Int.reduceLT, Int.reduceLE, Bool.false_eq_true, decide_true, decide_false, Bool.not_true, Bool.not_false, List.getElem?_cons_zero, List.getElem?_cons_succ, bag_ix1, hd])⟩
theorem mulS (i j : Int) (h1 : -(2 ^ 64) < j) (h2 : j < 2 ^ 64) : cMul i j = true := by simp [cMul]; omega
theorem draw_spec {b : Bag} {k : Int} {rest : MH} (ok : b.Ok) (h0 : 0 < k) (h1 : k < 1073741824) (cr : CloH rest) : ∃ j b', b'.Ok ∧ 0 ≤ j ∧ j < k ∧ f__law_draw [.loc 1, .int k] (bagR b rest) = .ok (.int j) (bagR b' rest) := by
  obtain ⟨b1, c', o1, e1⟩ := draw_while k rest 100 b none none ok (Nat.lt_of_le_of_lt ok.len (by decide))
  have hmk : cMod b1.x k = true := by simp [cMod, h0]
  have hdk : cDiv b1.x k = true := by simp [cDiv, h0, h1]
  by_cases hx : 0 < b1.x
  · refine ⟨b1.x % k, ⟨b1.cells, b1.x / k, b1.m⟩, ⟨o1.nn, o1.len, Int.ediv_nonneg o1.x0 (by omega), o1.m0, o1.m1⟩, Int.emod_nonneg _ (by omega), Int.emod_lt_of_pos _ h0, bag_val0 ?_ (by simp [clo]) cr⟩
    unfold F__law_draw
    have hd : decide (0 < b1.x) = true := by simp [hx]
    simp only [ev_seq, ev_seqN, ev_seqR, ev_seqB, ev_seqC, ev_seqE, ev_nil, ev_brk, ev_cnt, ev_retN, ev_expr, ev_expr1, ev_ret, ev_ret1, ev_if, ev_ifT, ev_ifF, ev_asg, ev_asg1, ev_asg2, ev_par, ev_par1, ev_def, ev_defR, ev_defN, ev_var0, ev_varS, ev_k, ev_anil, ev_acons, ev_acons1, ev_acons2, ev_tup, ev_tup_0, ev_tup_1, ev_tup_2, ev_tup_3, ev_lst, ev_lst_0, ev_lst_1, ev_lst_2, ev_lst_3, ev_mkT, ev_mkF, ev_bin, ev_bin1, ev_bin2, ev_un, ev_un1, ev_add, ev_addT, ev_addL, ev_sub, ev_neg, ev_lt, ev_le, ev_gt, ev_ge, ev_eqI, ev_neI, ev_eqB, ev_neB, ev_eqS, ev_neS, ev_and, ev_andT, ev_andF, ev_or, ev_orT, ev_orF, ev_not, ev_not1, ev_tnot, ev_tnot1, ev_tand, ev_tandT, ev_tandF, ev_tor, ev_torT, ev_torF, ev_tb, ev_tb1, ev_yes, ev_ife, ev_ifeT, ev_ifeF, ev_ch, ev_ch1, ev_ch2, ev_ch3T, ev_ch3F, ev_ch4, ev_is, ev_isB, ev_notN, ev_call, ev_call1, ev_own, ev_own_1, ev_own_2, ev_own_3, ev_own_4, ev_own_5, ev_ownK, ev_ownK_1, ev_ownK_01, ev_ownK_10, ev_lenT, ev_lenL, ev_lenO, ev_int, ev_intB, ev_abs, ev_min, ev_max, ev_tupT, ev_tupL, ev_listT, ev_listL, ev_meth, ev_meth2, ev_gN, ev_set, ev_set1, ev_gT, ev_gT2, ev_gT3, ev_gnil, ev_gcons, ev_gcons1, ev_iseq, ev_iseqT, ev_iseqL, ev_iseqO, ev_r1, ev_r2, ev_lrg1, ev_sl, ev_sl1, ev_sl3, ev_sl4, ev_on, ev_os, ev_os1, ev_slT, ev_slL, ev_slO, ev_r3, ix_t0, ix_t1, ix_t2, en_pair, en_int, wipeM, List.map_cons, List.map_nil, List.length_cons, List.length_nil, List.replicate_succ, List.replicate_zero, List.cons_append, List.nil_append, List.append_nil, List.set_cons_zero, List.set_cons_succ, Nat.reduceAdd, Nat.reduceSub, Nat.zero_add, if_true, if_false, reduceIte, Int.reduceEq, Int.reduceLT, Int.reduceLE, Bool.false_eq_true, decide_true, decide_false, Bool.not_true, Bool.not_false, List.getElem?_cons_zero, List.getElem?_cons_succ, xWhile, e1, bag_ix1, hd, ev_mod, ev_div, hmk, hdk]
    rw [ev_set2 (bag_set1 b1 rest (b1.x / k))]
    simp only [ev_seq, ev_seqN, ev_seqR, ev_seqB, ev_seqC, ev_seqE, ev_nil, ev_brk, ev_cnt, ev_retN, ev_expr, ev_expr1, ev_ret, ev_ret1, ev_if, ev_ifT, ev_ifF, ev_asg, ev_asg1, ev_asg2, ev_par, ev_par1, ev_def, ev_defR, ev_defN, ev_var0, ev_varS, ev_k, ev_anil, ev_acons, ev_acons1, ev_acons2, ev_tup, ev_tup_0, ev_tup_1, ev_tup_2, ev_tup_3, ev_lst, ev_lst_0, ev_lst_1, ev_lst_2, ev_lst_3, ev_mkT, ev_mkF, ev_bin, ev_bin1, ev_bin2, ev_un, ev_un1, ev_add, ev_addT, ev_addL, ev_sub, ev_neg, ev_lt, ev_le, ev_gt, ev_ge, ev_eqI, ev_neI, ev_eqB, ev_neB, ev_eqS, ev_neS, ev_and, ev_andT, ev_andF, ev_or, ev_orT, ev_orF, ev_not, ev_not1, ev_tnot, ev_tnot1, ev_tand, ev_tandT, ev_tandF, ev_tor, ev_torT, ev_torF, ev_tb, ev_tb1, ev_yes, ev_ife, ev_ifeT, ev_ifeF, ev_ch, ev_ch1, ev_ch2, ev_ch3T, ev_ch3F, ev_ch4, ev_is, ev_isB, ev_notN, ev_call, ev_call1, ev_own, ev_own_1, ev_own_2, ev_own_3, ev_own_4, ev_own_5, ev_ownK, ev_ownK_1, ev_ownK_01, ev_ownK_10, ev_lenT, ev_lenL, ev_lenO, ev_int, ev_intB, ev_abs, ev_min, ev_max, ev_tupT, ev_tupL, ev_listT, ev_listL, ev_meth, ev_meth2, ev_gN, ev_set, ev_set1, ev_gT, ev_gT2, ev_gT3, ev_gnil, ev_gcons, ev_gcons1, ev_iseq, ev_iseqT, ev_iseqL, ev_iseqO, ev_r1, ev_r2, ev_lrg1, ev_sl, ev_sl1, ev_sl3, ev_sl4, ev_on, ev_os, ev_os1, ev_slT, ev_slL, ev_slO, ev_r3, ix_t0, ix_t1, ix_t2, en_pair, en_int, wipeM, List.map_cons, List.map_nil, List.length_cons, List.length_nil, List.replicate_succ, List.replicate_zero, List.cons_append, List.nil_append, List.append_nil, List.set_cons_zero, List.set_cons_succ, Nat.reduceAdd, Nat.reduceSub, Nat.zero_add, if_true, if_false, reduceIte, Int.reduceEq, Int.reduceLT, Int.reduceLE, Bool.false_eq_true, decide_true, decide_false, Bool.not_true, Bool.not_false, List.getElem?_cons_zero, List.getElem?_cons_succ]
  · have hd : decide (0 < b1.x) = false := by simp [hx]
    have m2 : ∀ i : Int, cMod i 2147483647 = true := fun i => rfl
    have m3 : ∀ i : Int, cMod i 2147483629 = true := fun i => rfl
    have d7 : ∀ i : Int, cDiv i 7 = true := fun i => rfl
    have mk : ∀ i : Int, cMod i k = true := fun i => by simp [cMod, h0]
    have hm := o1.m0
    have hm1 := o1.m1
    have mb0 : 0 ≤ (b1.m * 48271 + 11) % 2147483647 := Int.emod_nonneg _ (by decide)
    have mb1 : (b1.m * 48271 + 11) % 2147483647 < 2147483647 := Int.emod_lt_of_pos _ (by decide)
    refine ⟨((b1.m * 48271 + 11) % 2147483647 * ((b1.m * 48271 + 11) % 2147483647) % 2147483629 / 7) % k, ⟨b1.cells, b1.x, (b1.m * 48271 + 11) % 2147483647⟩, ⟨o1.nn, o1.len, o1.x0, mb0, mb1⟩, Int.emod_nonneg _ (by omega), Int.emod_lt_of_pos _ h0, bag_val0 ?_ (by simp [clo]) cr⟩
    unfold F__law_draw
    simp only [ev_seq, ev_seqN, ev_seqR, ev_seqB, ev_seqC, ev_seqE, ev_nil, ev_brk, ev_cnt, ev_retN, ev_expr, ev_expr1, ev_ret, ev_ret1, ev_if, ev_ifT, ev_ifF, ev_asg, ev_asg1, ev_asg2, ev_par, ev_par1, ev_def, ev_defR, ev_defN, ev_var0, ev_varS, ev_k, ev_anil, ev_acons, ev_acons1, ev_acons2, ev_tup, ev_tup_0, ev_tup_1, ev_tup_2, ev_tup_3, ev_lst, ev_lst_0, ev_lst_1, ev_lst_2, ev_lst_3, ev_mkT, ev_mkF, ev_bin, ev_bin1, ev_bin2, ev_un, ev_un1, ev_add, ev_addT, ev_addL, ev_sub, ev_neg, ev_lt, ev_le, ev_gt, ev_ge, ev_eqI, ev_neI, ev_eqB, ev_neB, ev_eqS, ev_neS, ev_and, ev_andT, ev_andF, ev_or, ev_orT, ev_orF, ev_not, ev_not1, ev_tnot, ev_tnot1, ev_tand, ev_tandT, ev_tandF, ev_tor, ev_torT, ev_torF, ev_tb, ev_tb1, ev_yes, ev_ife, ev_ifeT, ev_ifeF, ev_ch, ev_ch1, ev_ch2, ev_ch3T, ev_ch3F, ev_ch4, ev_is, ev_isB, ev_notN, ev_call, ev_call1, ev_own, ev_own_1, ev_own_2, ev_own_3, ev_own_4, ev_own_5, ev_ownK, ev_ownK_1, ev_ownK_01, ev_ownK_10, ev_lenT, ev_lenL, ev_lenO, ev_int, ev_intB, ev_abs, ev_min, ev_max, ev_tupT, ev_tupL, ev_listT, ev_listL, ev_meth, ev_meth2, ev_gN, ev_set, ev_set1, ev_gT, ev_gT2, ev_gT3, ev_gnil, ev_gcons, ev_gcons1, ev_iseq, ev_iseqT, ev_iseqL, ev_iseqO, ev_r1, ev_r2, ev_lrg1, ev_sl, ev_sl1, ev_sl3, ev_sl4, ev_on, ev_os, ev_os1, ev_slT, ev_slL, ev_slO, ev_r3, ix_t0, ix_t1, ix_t2, en_pair, en_int, wipeM, List.map_cons, List.map_nil, List.length_cons, List.length_nil, List.replicate_succ, List.replicate_zero, List.cons_append, List.nil_append, List.append_nil, List.set_cons_zero, List.set_cons_succ, Nat.reduceAdd, Nat.reduceSub, Nat.zero_add, if_true, if_false, reduceIte, Int.reduceEq, Int.reduceLT, Int.reduceLE, Bool.false_eq_true, decide_true, decide_false, Bool.not_true, Bool.not_false, List.getElem?_cons_zero, List.getElem?_cons_succ, xWhile, e1, bag_ix1, bag_ix2, hd, ev_mod, ev_mul, mulS _ 48271 (by decide) (by decide), m2]
    rw [ev_set2 (bag_set2 b1 rest _)]
    generalize (b1.m * 48271 + 11) % 2147483647 = u at *
    have b2 : ixM (.loc 1) (.int 2) (bagR ⟨b1.cells, b1.x, u⟩ rest) = .ok (.int u) (bagR ⟨b1.cells, b1.x, u⟩ rest) := bag_ix2 ⟨b1.cells, b1.x, u⟩ rest
    simp only [ev_seq, ev_seqN, ev_seqR, ev_seqB, ev_seqC, ev_seqE, ev_nil, ev_brk, ev_cnt, ev_retN, ev_expr, ev_expr1, ev_ret, ev_ret1, ev_if, ev_ifT, ev_ifF, ev_asg, ev_asg1, ev_asg2, ev_par, ev_par1, ev_def, ev_defR, ev_defN, ev_var0, ev_varS, ev_k, ev_anil, ev_acons, ev_acons1, ev_acons2, ev_tup, ev_tup_0, ev_tup_1, ev_tup_2, ev_tup_3, ev_lst, ev_lst_0, ev_lst_1, ev_lst_2, ev_lst_3, ev_mkT, ev_mkF, ev_bin, ev_bin1, ev_bin2, ev_un, ev_un1, ev_add, ev_addT, ev_addL, ev_sub, ev_neg, ev_lt, ev_le, ev_gt, ev_ge, ev_eqI, ev_neI, ev_eqB, ev_neB, ev_eqS, ev_neS, ev_and, ev_andT, ev_andF, ev_or, ev_orT, ev_orF, ev_not, ev_not1, ev_tnot, ev_tnot1, ev_tand, ev_tandT, ev_tandF, ev_tor, ev_torT, ev_torF, ev_tb, ev_tb1, ev_yes, ev_ife, ev_ifeT, ev_ifeF, ev_ch, ev_ch1, ev_ch2, ev_ch3T, ev_ch3F, ev_ch4, ev_is, ev_isB, ev_notN, ev_call, ev_call1, ev_own, ev_own_1, ev_own_2, ev_own_3, ev_own_4, ev_own_5, ev_ownK, ev_ownK_1, ev_ownK_01, ev_ownK_10, ev_lenT, ev_lenL, ev_lenO, ev_int, ev_intB, ev_abs, ev_min, ev_max, ev_tupT, ev_tupL, ev_listT, ev_listL, ev_meth, ev_meth2, ev_gN, ev_set, ev_set1, ev_gT, ev_gT2, ev_gT3, ev_gnil, ev_gcons, ev_gcons1, ev_iseq, ev_iseqT, ev_iseqL, ev_iseqO, ev_r1, ev_r2, ev_lrg1, ev_sl, ev_sl1, ev_sl3, ev_sl4, ev_on, ev_os, ev_os1, ev_slT, ev_slL, ev_slO, ev_r3, ix_t0, ix_t1, ix_t2, en_pair, en_int, wipeM, List.map_cons, List.map_nil, List.length_cons, List.length_nil, List.replicate_succ, List.replicate_zero, List.cons_append, List.nil_append, List.append_nil, List.set_cons_zero, List.set_cons_succ, Nat.reduceAdd, Nat.reduceSub, Nat.zero_add, if_true, if_false, reduceIte, Int.reduceEq, Int.reduceLT, Int.reduceLE, Bool.false_eq_true, decide_true, decide_false, Bool.not_true, Bool.not_false, List.getElem?_cons_zero, List.getElem?_cons_succ, b2, ev_mul, mulS u u (by omega) (by omega), ev_mod, m3, ev_div, d7, mk]
theorem pick_spec {b : Bag} {xs : List M} {rest : MH} (ok : b.Ok) (h0 : 0 < xs.length) (h1 : xs.length ≤ 1000) (hx : cloL xs = true) (cr : CloH rest) : ∃ x b', b'.Ok ∧ x ∈ xs ∧ f__law_pick [.loc 1, .tmp xs] (bagR b rest) = .ok x (bagR b' rest) := by
  obtain ⟨j, b', o, j0, j1, e⟩ := draw_spec (k := xs.length) (rest := rest) ok (by omega) (by omega) cr
  have hj : j.toNat < xs.length := by omega
  refine ⟨xs[j.toNat], b', o, List.getElem_mem hj, bag_val0 ?_ ?_ cr⟩
  · unfold F__law_pick
    simp only [ev_seq, ev_seqN, ev_seqR, ev_seqB, ev_seqC, ev_seqE, ev_nil, ev_brk, ev_cnt, ev_retN, ev_expr, ev_expr1, ev_ret, ev_ret1, ev_if, ev_ifT, ev_ifF, ev_asg, ev_asg1, ev_asg2, ev_par, ev_par1, ev_def, ev_defR, ev_defN, ev_var0, ev_varS, ev_k, ev_anil, ev_acons, ev_acons1, ev_acons2, ev_tup, ev_tup_0, ev_tup_1, ev_tup_2, ev_tup_3, ev_lst, ev_lst_0, ev_lst_1, ev_lst_2, ev_lst_3, ev_mkT, ev_mkF, ev_bin, ev_bin1, ev_bin2, ev_un, ev_un1, ev_add, ev_addT, ev_addL, ev_sub, ev_neg, ev_lt, ev_le, ev_gt, ev_ge, ev_eqI, ev_neI, ev_eqB, ev_neB, ev_eqS, ev_neS, ev_and, ev_andT, ev_andF, ev_or, ev_orT, ev_orF, ev_not, ev_not1, ev_tnot, ev_tnot1, ev_tand, ev_tandT, ev_tandF, ev_tor, ev_torT, ev_torF, ev_tb, ev_tb1, ev_yes, ev_ife, ev_ifeT, ev_ifeF, ev_ch, ev_ch1, ev_ch2, ev_ch3T, ev_ch3F, ev_ch4, ev_is, ev_isB, ev_notN, ev_call, ev_call1, ev_own, ev_own_1, ev_own_2, ev_own_3, ev_own_4, ev_own_5, ev_ownK, ev_ownK_1, ev_ownK_01, ev_ownK_10, ev_lenT, ev_lenL, ev_lenO, ev_int, ev_intB, ev_abs, ev_min, ev_max, ev_tupT, ev_tupL, ev_listT, ev_listL, ev_meth, ev_meth2, ev_gN, ev_set, ev_set1, ev_gT, ev_gT2, ev_gT3, ev_gnil, ev_gcons, ev_gcons1, ev_iseq, ev_iseqT, ev_iseqL, ev_iseqO, ev_r1, ev_r2, ev_lrg1, ev_sl, ev_sl1, ev_sl3, ev_sl4, ev_on, ev_os, ev_os1, ev_slT, ev_slL, ev_slO, ev_r3, ix_t0, ix_t1, ix_t2, en_pair, en_int, wipeM, List.map_cons, List.map_nil, List.length_cons, List.length_nil, List.replicate_succ, List.replicate_zero, List.cons_append, List.nil_append, List.append_nil, List.set_cons_zero, List.set_cons_succ, Nat.reduceAdd, Nat.reduceSub, Nat.zero_add, if_true, if_false, reduceIte, Int.reduceEq, Int.reduceLT, Int.reduceLE, Bool.false_eq_true, decide_true, decide_false, Bool.not_true, Bool.not_false, List.getElem?_cons_zero, List.getElem?_cons_succ, e]
    rw [ix_seq (xs := xs) rfl j0 (List.getElem?_eq_getElem hj)]
    simp only [ev_seq, ev_seqN, ev_seqR, ev_seqB, ev_seqC, ev_seqE, ev_nil, ev_brk, ev_cnt, ev_retN, ev_expr, ev_expr1, ev_ret, ev_ret1, ev_if, ev_ifT, ev_ifF, ev_asg, ev_asg1, ev_asg2, ev_par, ev_par1, ev_def, ev_defR, ev_defN, ev_var0, ev_varS, ev_k, ev_anil, ev_acons, ev_acons1, ev_acons2, ev_tup, ev_tup_0, ev_tup_1, ev_tup_2, ev_tup_3, ev_lst, ev_lst_0, ev_lst_1, ev_lst_2, ev_lst_3, ev_mkT, ev_mkF, ev_bin, ev_bin1, ev_bin2, ev_un, ev_un1, ev_add, ev_addT, ev_addL, ev_sub, ev_neg, ev_lt, ev_le, ev_gt, ev_ge, ev_eqI, ev_neI, ev_eqB, ev_neB, ev_eqS, ev_neS, ev_and, ev_andT, ev_andF, ev_or, ev_orT, ev_orF, ev_not, ev_not1, ev_tnot, ev_tnot1, ev_tand, ev_tandT, ev_tandF, ev_tor, ev_torT, ev_torF, ev_tb, ev_tb1, ev_yes, ev_ife, ev_ifeT, ev_ifeF, ev_ch, ev_ch1, ev_ch2, ev_ch3T, ev_ch3F, ev_ch4, ev_is, ev_isB, ev_notN, ev_call, ev_call1, ev_own, ev_own_1, ev_own_2, ev_own_3, ev_own_4, ev_own_5, ev_ownK, ev_ownK_1, ev_ownK_01, ev_ownK_10, ev_lenT, ev_lenL, ev_lenO, ev_int, ev_intB, ev_abs, ev_min, ev_max, ev_tupT, ev_tupL, ev_listT, ev_listL, ev_meth, ev_meth2, ev_gN, ev_set, ev_set1, ev_gT, ev_gT2, ev_gT3, ev_gnil, ev_gcons, ev_gcons1, ev_iseq, ev_iseqT, ev_iseqL, ev_iseqO, ev_r1, ev_r2, ev_lrg1, ev_sl, ev_sl1, ev_sl3, ev_sl4, ev_on, ev_os, ev_os1, ev_slT, ev_slL, ev_slO, ev_r3, ix_t0, ix_t1, ix_t2, en_pair, en_int, wipeM, List.map_cons, List.map_nil, List.length_cons, List.length_nil, List.replicate_succ, List.replicate_zero, List.cons_append, List.nil_append, List.append_nil, List.set_cons_zero, List.set_cons_succ, Nat.reduceAdd, Nat.reduceSub, Nat.zero_add, if_true, if_false, reduceIte, Int.reduceEq, Int.reduceLT, Int.reduceLE, Bool.false_eq_true, decide_true, decide_false, Bool.not_true, Bool.not_false, List.getElem?_cons_zero, List.getElem?_cons_succ]
  · have all : ∀ (l : List M) (i : Nat) (h : i < l.length), cloL l = true → clo l[i] = true := fun l => by
      induction l with
      | nil => intro i h; simp at h
      | cons y l ih =>
        intro i h c
        rw [cloL, Bool.and_eq_true] at c
        cases i with
        | zero => exact c.1
        | succ i => exact ih i (by simpa using h) c.2
    exact all xs _ hj hx
/-! ### an order drawn -/
theorem order_spec {b : Bag} {n : Int} (ok : b.Ok) (h0 : 0 ≤ n) (h1 : n ≤ 100) : ∃ (os : List Int) (b' : Bag), b'.Ok ∧ os.Perm (irg 0 n) ∧ f__law_order [.loc 1, .int n] (bagR b []) = .ok (.tmp (os.map M.int)) (bagR b' []) := by
  have hc : cR n = true := cR_ok (by omega) (by omega)
  have hcg : cRg 0 n = true := cRg_yes (by omega) (by omega) (by omega) (by omega) (by omega)
  have loop := forV_pre (g := gN 4) (body := B1__law_order) M.int (irg 0 n) (fun pre ms h => ∃ b' rs fs x, b'.Ok ∧ ms = [some (.loc 1), some (.int n), some (.loc 2), some (.loc 3), x] ∧ h = bagR b' [.lst (rs.map M.int), .lst (fs.map M.int)] ∧ rs.length + pre.length = n.toNat ∧ (fs ++ rs).Perm (irg 0 n)) (by
    rintro pre t post ms h e ⟨b', rs, fs, x, o, rfl, rfl, hl, hp⟩
    have hpl := congrArg List.length e
    rw [irg_length, List.length_append, List.length_cons] at hpl
    obtain ⟨j, b2, o2, j0, j1, ed⟩ := draw_spec (k := rs.length) (rest := [.lst (rs.map M.int), .lst (fs.map M.int)]) o (by omega) (by omega) (cloH_cons (cloL_en (α := Int) rs) (cloH_cons (cloL_en (α := Int) fs) cloH_nil))
    have hj : j.toNat < rs.length := by omega
    have hy : rs[j.toNat]? = some rs[j.toNat] := List.getElem?_eq_getElem hj
    generalize rs[j.toNat] = y at hy
    refine ⟨_, bagR b2 [.lst ((rs.eraseIdx j.toNat).map M.int), .lst ((fs ++ [y]).map M.int)], turn_nx (by simp only [ev_seq, ev_seqN, ev_seqR, ev_seqB, ev_seqC, ev_seqE, ev_nil, ev_brk, ev_cnt, ev_retN, ev_expr, ev_expr1, ev_ret, ev_ret1, ev_if, ev_ifT, ev_ifF, ev_asg, ev_asg1, ev_asg2, ev_par, ev_par1, ev_def, ev_defR, ev_defN, ev_var0, ev_varS, ev_k, ev_anil, ev_acons, ev_acons1, ev_acons2, ev_tup, ev_tup_0, ev_tup_1, ev_tup_2, ev_tup_3, ev_lst, ev_lst_0, ev_lst_1, ev_lst_2, ev_lst_3, ev_mkT, ev_mkF, ev_bin, ev_bin1, ev_bin2, ev_un, ev_un1, ev_add, ev_addT, ev_addL, ev_sub, ev_neg, ev_lt, ev_le, ev_gt, ev_ge, ev_eqI, ev_neI, ev_eqB, ev_neB, ev_eqS, ev_neS, ev_and, ev_andT, ev_andF, ev_or, ev_orT, ev_orF, ev_not, ev_not1, ev_tnot, ev_tnot1, ev_tand, ev_tandT, ev_tandF, ev_tor, ev_torT, ev_torF, ev_tb, ev_tb1, ev_yes, ev_ife, ev_ifeT, ev_ifeF, ev_ch, ev_ch1, ev_ch2, ev_ch3T, ev_ch3F, ev_ch4, ev_is, ev_isB, ev_notN, ev_call, ev_call1, ev_own, ev_own_1, ev_own_2, ev_own_3, ev_own_4, ev_own_5, ev_ownK, ev_ownK_1, ev_ownK_01, ev_ownK_10, ev_lenT, ev_lenL, ev_lenO, ev_int, ev_intB, ev_abs, ev_min, ev_max, ev_tupT, ev_tupL, ev_listT, ev_listL, ev_meth, ev_meth2, ev_gN, ev_set, ev_set1, ev_gT, ev_gT2, ev_gT3, ev_gnil, ev_gcons, ev_gcons1, ev_iseq, ev_iseqT, ev_iseqL, ev_iseqO, ev_r1, ev_r2, ev_lrg1, ev_sl, ev_sl1, ev_sl3, ev_sl4, ev_on, ev_os, ev_os1, ev_slT, ev_slL, ev_slO, ev_r3, ix_t0, ix_t1, ix_t2, en_pair, en_int, wipeM, List.map_cons, List.map_nil, List.length_cons, List.length_nil, List.replicate_succ, List.replicate_zero, List.cons_append, List.nil_append, List.append_nil, List.set_cons_zero, List.set_cons_succ, Nat.reduceAdd, Nat.reduceSub, Nat.zero_add, if_true, if_false, reduceIte, Int.reduceEq, Int.reduceLT, Int.reduceLE, Bool.false_eq_true, decide_true, decide_false, Bool.not_true, Bool.not_false, List.getElem?_cons_zero, List.getElem?_cons_succ] <;> rfl) ?_, b2, rs.eraseIdx j.toNat, fs ++ [y], some (.int t), o2, rfl, rfl, ?_, ?_⟩
    · unfold B1__law_order
      have eln : lenM [.loc 2] (bagR b' [.lst (rs.map M.int), .lst (fs.map M.int)]) = .ok (.int rs.length) (bagR b' [.lst (rs.map M.int), .lst (fs.map M.int)]) := by
        show R.ok (M.int ((rs.map M.int).length : Nat)) _ = _
        rw [List.length_map]
      have t3 : typM (bagR b' [.lst (rs.map M.int), .lst (fs.map M.int)]) (.loc 3) = some "list" := rfl
      have t2 : typM (bagR b' [.lst (rs.map M.int), .lst (fs.map M.int)]) (.loc 2) = some "list" := rfl
      have ep := pop_at (n := 2) (h := bagR b2 [.lst (rs.map M.int), .lst (fs.map M.int)]) (l := rs) rfl j0 (by omega) hy
      have ea : appM (.loc 3) [.int y] ((bagR b2 [.lst (rs.map M.int), .lst (fs.map M.int)]).set 2 (.lst ((rs.eraseIdx j.toNat).map M.int))) = .ok .non (bagR b2 [.lst ((rs.eraseIdx j.toNat).map M.int), .lst ((fs ++ [y]).map M.int)]) := by
        rw [ev_app (xs := fs.map M.int) rfl (by
          have := hp.length_eq
          rw [List.length_append, irg_length] at this
          rw [List.length_map]
          exact Nat.lt_of_le_of_lt (by omega : fs.length ≤ 100) (by decide))]
        rw [List.map_append]
        rfl
      simp only [ev_seq, ev_seqN, ev_seqR, ev_seqB, ev_seqC, ev_seqE, ev_nil, ev_brk, ev_cnt, ev_retN, ev_expr, ev_expr1, ev_ret, ev_ret1, ev_if, ev_ifT, ev_ifF, ev_asg, ev_asg1, ev_asg2, ev_par, ev_par1, ev_def, ev_defR, ev_defN, ev_var0, ev_varS, ev_k, ev_anil, ev_acons, ev_acons1, ev_acons2, ev_tup, ev_tup_0, ev_tup_1, ev_tup_2, ev_tup_3, ev_lst, ev_lst_0, ev_lst_1, ev_lst_2, ev_lst_3, ev_mkT, ev_mkF, ev_bin, ev_bin1, ev_bin2, ev_un, ev_un1, ev_add, ev_addT, ev_addL, ev_sub, ev_neg, ev_lt, ev_le, ev_gt, ev_ge, ev_eqI, ev_neI, ev_eqB, ev_neB, ev_eqS, ev_neS, ev_and, ev_andT, ev_andF, ev_or, ev_orT, ev_orF, ev_not, ev_not1, ev_tnot, ev_tnot1, ev_tand, ev_tandT, ev_tandF, ev_tor, ev_torT, ev_torF, ev_tb, ev_tb1, ev_yes, ev_ife, ev_ifeT, ev_ifeF, ev_ch, ev_ch1, ev_ch2, ev_ch3T, ev_ch3F, ev_ch4, ev_is, ev_isB, ev_notN, ev_call, ev_call1, ev_own, ev_own_1, ev_own_2, ev_own_3, ev_own_4, ev_own_5, ev_ownK, ev_ownK_1, ev_ownK_01, ev_ownK_10, ev_lenT, ev_lenL, ev_lenO, ev_int, ev_intB, ev_abs, ev_min, ev_max, ev_tupT, ev_tupL, ev_listT, ev_listL, ev_meth, ev_meth2, ev_gN, ev_set, ev_set1, ev_gT, ev_gT2, ev_gT3, ev_gnil, ev_gcons, ev_gcons1, ev_iseq, ev_iseqT, ev_iseqL, ev_iseqO, ev_r1, ev_r2, ev_lrg1, ev_sl, ev_sl1, ev_sl3, ev_sl4, ev_on, ev_os, ev_os1, ev_slT, ev_slL, ev_slO, ev_r3, ix_t0, ix_t1, ix_t2, en_pair, en_int, wipeM, List.map_cons, List.map_nil, List.length_cons, List.length_nil, List.replicate_succ, List.replicate_zero, List.cons_append, List.nil_append, List.append_nil, List.set_cons_zero, List.set_cons_succ, Nat.reduceAdd, Nat.reduceSub, Nat.zero_add, if_true, if_false, reduceIte, Int.reduceEq, Int.reduceLT, Int.reduceLE, Bool.false_eq_true, decide_true, decide_false, Bool.not_true, Bool.not_false, List.getElem?_cons_zero, List.getElem?_cons_succ, ev_meth1, t3, t2, eln, ed, ep, ea]
    · rw [List.length_eraseIdx_of_lt hj, List.length_append, List.length_singleton]; omega
    · refine List.Perm.trans ?_ hp
      rw [List.append_assoc]
      exact List.Perm.append_left fs (eraseIdx_perm hy)) (ms := [some (.loc 1), some (.int n), some (.loc 2), some (.loc 3), none]) (h := bagR b [.lst ((irg 0 n).map M.int), .lst []]) ⟨b, irg 0 n, [], none, ok, rfl, rfl, by rw [irg_length, List.length_nil]; omega, by simp⟩
  obtain ⟨ms', h', e, b', rs, fs, x, o, rfl, rfl, hl, hp⟩ := loop
  rw [irg_length] at hl
  have hr : rs = [] := List.length_eq_zero_iff.mp (by omega)
  subst hr
  rw [List.append_nil] at hp
  refine ⟨fs, b', o, hp, bag_loc (new := [.lst [], .lst (fs.map M.int)]) (k := 3) ?_ (by simp) rfl (cloL_en (α := Int) fs) cloH_nil⟩
  unfold F__law_order
  have p0 : sPar 2 3 (sCons (sLrg1 true (.ok (.int n) (bagR b []))) (aCons (mLst true aNil) aNil) [some (.loc 1), some (.int n), none, none, none]) [some (.loc 1), some (.int n), none, none, none] = .nx [some (.loc 1), some (.int n), some (.loc 2), some (.loc 3), none] (bagR b [.lst ((irg 0 n).map M.int), .lst []]) := by
    rw [ev_lrg1', if_pos hcg]
    rfl
  simp only [ev_seq, ev_seqN, ev_seqR, ev_seqB, ev_seqC, ev_seqE, ev_nil, ev_brk, ev_cnt, ev_retN, ev_expr, ev_expr1, ev_ret, ev_ret1, ev_if, ev_ifT, ev_ifF, ev_asg, ev_asg1, ev_asg2, ev_par, ev_par1, ev_def, ev_defR, ev_defN, ev_var0, ev_varS, ev_k, ev_anil, ev_acons, ev_acons1, ev_acons2, ev_tup, ev_tup_0, ev_tup_1, ev_tup_2, ev_tup_3, ev_lst, ev_lst_0, ev_lst_1, ev_lst_2, ev_lst_3, ev_mkT, ev_mkF, ev_bin, ev_bin1, ev_bin2, ev_un, ev_un1, ev_add, ev_addT, ev_addL, ev_sub, ev_neg, ev_lt, ev_le, ev_gt, ev_ge, ev_eqI, ev_neI, ev_eqB, ev_neB, ev_eqS, ev_neS, ev_and, ev_andT, ev_andF, ev_or, ev_orT, ev_orF, ev_not, ev_not1, ev_tnot, ev_tnot1, ev_tand, ev_tandT, ev_tandF, ev_tor, ev_torT, ev_torF, ev_tb, ev_tb1, ev_yes, ev_ife, ev_ifeT, ev_ifeF, ev_ch, ev_ch1, ev_ch2, ev_ch3T, ev_ch3F, ev_ch4, ev_is, ev_isB, ev_notN, ev_call, ev_call1, ev_own, ev_own_1, ev_own_2, ev_own_3, ev_own_4, ev_own_5, ev_ownK, ev_ownK_1, ev_ownK_01, ev_ownK_10, ev_lenT, ev_lenL, ev_lenO, ev_int, ev_intB, ev_abs, ev_min, ev_max, ev_tupT, ev_tupL, ev_listT, ev_listL, ev_meth, ev_meth2, ev_gN, ev_set, ev_set1, ev_gT, ev_gT2, ev_gT3, ev_gnil, ev_gcons, ev_gcons1, ev_iseq, ev_iseqT, ev_iseqL, ev_iseqO, ev_r1, ev_r2, ev_lrg1, ev_sl, ev_sl1, ev_sl3, ev_sl4, ev_on, ev_os, ev_os1, ev_slT, ev_slL, ev_slO, ev_r3, ix_t0, ix_t1, ix_t2, en_pair, en_int, wipeM, List.map_cons, List.map_nil, List.length_cons, List.length_nil, List.replicate_succ, List.replicate_zero, List.cons_append, List.nil_append, List.append_nil, List.set_cons_zero, List.set_cons_succ, Nat.reduceAdd, Nat.reduceSub, Nat.zero_add, if_true, if_false, reduceIte, Int.reduceEq, Int.reduceLT, Int.reduceLE, Bool.false_eq_true, decide_true, decide_false, Bool.not_true, Bool.not_false, List.getElem?_cons_zero, List.getElem?_cons_succ, p0]
  rw [xFor_eq (xs := (irg 0 n).map M.int) (by simp only [ev_seq, ev_seqN, ev_seqR, ev_seqB, ev_seqC, ev_seqE, ev_nil, ev_brk, ev_cnt, ev_retN, ev_expr, ev_expr1, ev_ret, ev_ret1, ev_if, ev_ifT, ev_ifF, ev_asg, ev_asg1, ev_asg2, ev_par, ev_par1, ev_def, ev_defR, ev_defN, ev_var0, ev_varS, ev_k, ev_anil, ev_acons, ev_acons1, ev_acons2, ev_tup, ev_tup_0, ev_tup_1, ev_tup_2, ev_tup_3, ev_lst, ev_lst_0, ev_lst_1, ev_lst_2, ev_lst_3, ev_mkT, ev_mkF, ev_bin, ev_bin1, ev_bin2, ev_un, ev_un1, ev_add, ev_addT, ev_addL, ev_sub, ev_neg, ev_lt, ev_le, ev_gt, ev_ge, ev_eqI, ev_neI, ev_eqB, ev_neB, ev_eqS, ev_neS, ev_and, ev_andT, ev_andF, ev_or, ev_orT, ev_orF, ev_not, ev_not1, ev_tnot, ev_tnot1, ev_tand, ev_tandT, ev_tandF, ev_tor, ev_torT, ev_torF, ev_tb, ev_tb1, ev_yes, ev_ife, ev_ifeT, ev_ifeF, ev_ch, ev_ch1, ev_ch2, ev_ch3T, ev_ch3F, ev_ch4, ev_is, ev_isB, ev_notN, ev_call, ev_call1, ev_own, ev_own_1, ev_own_2, ev_own_3, ev_own_4, ev_own_5, ev_ownK, ev_ownK_1, ev_ownK_01, ev_ownK_10, ev_lenT, ev_lenL, ev_lenO, ev_int, ev_intB, ev_abs, ev_min, ev_max, ev_tupT, ev_tupL, ev_listT, ev_listL, ev_meth, ev_meth2, ev_gN, ev_set, ev_set1, ev_gT, ev_gT2, ev_gT3, ev_gnil, ev_gcons, ev_gcons1, ev_iseq, ev_iseqT, ev_iseqL, ev_iseqO, ev_r1, ev_r2, ev_lrg1, ev_sl, ev_sl1, ev_sl3, ev_sl4, ev_on, ev_os, ev_os1, ev_slT, ev_slL, ev_slO, ev_r3, ix_t0, ix_t1, ix_t2, en_pair, en_int, wipeM, List.map_cons, List.map_nil, List.length_cons, List.length_nil, List.replicate_succ, List.replicate_zero, List.cons_append, List.nil_append, List.append_nil, List.set_cons_zero, List.set_cons_succ, Nat.reduceAdd, Nat.reduceSub, Nat.zero_add, if_true, if_false, reduceIte, Int.reduceEq, Int.reduceLT, Int.reduceLE, Bool.false_eq_true, decide_true, decide_false, Bool.not_true, Bool.not_false, List.getElem?_cons_zero, List.getElem?_cons_succ, ev_r1', hc] <;> rfl), e]
  simp only [ev_seq, ev_seqN, ev_seqR, ev_seqB, ev_seqC, ev_seqE, ev_nil, ev_brk, ev_cnt, ev_retN, ev_expr, ev_expr1, ev_ret, ev_ret1, ev_if, ev_ifT, ev_ifF, ev_asg, ev_asg1, ev_asg2, ev_par, ev_par1, ev_def, ev_defR, ev_defN, ev_var0, ev_varS, ev_k, ev_anil, ev_acons, ev_acons1, ev_acons2, ev_tup, ev_tup_0, ev_tup_1, ev_tup_2, ev_tup_3, ev_lst, ev_lst_0, ev_lst_1, ev_lst_2, ev_lst_3, ev_mkT, ev_mkF, ev_bin, ev_bin1, ev_bin2, ev_un, ev_un1, ev_add, ev_addT, ev_addL, ev_sub, ev_neg, ev_lt, ev_le, ev_gt, ev_ge, ev_eqI, ev_neI, ev_eqB, ev_neB, ev_eqS, ev_neS, ev_and, ev_andT, ev_andF, ev_or, ev_orT, ev_orF, ev_not, ev_not1, ev_tnot, ev_tnot1, ev_tand, ev_tandT, ev_tandF, ev_tor, ev_torT, ev_torF, ev_tb, ev_tb1, ev_yes, ev_ife, ev_ifeT, ev_ifeF, ev_ch, ev_ch1, ev_ch2, ev_ch3T, ev_ch3F, ev_ch4, ev_is, ev_isB, ev_notN, ev_call, ev_call1, ev_own, ev_own_1, ev_own_2, ev_own_3, ev_own_4, ev_own_5, ev_ownK, ev_ownK_1, ev_ownK_01, ev_ownK_10, ev_lenT, ev_lenL, ev_lenO, ev_int, ev_intB, ev_abs, ev_min, ev_max, ev_tupT, ev_tupL, ev_listT, ev_listL, ev_meth, ev_meth2, ev_gN, ev_set, ev_set1, ev_gT, ev_gT2, ev_gT3, ev_gnil, ev_gcons, ev_gcons1, ev_iseq, ev_iseqT, ev_iseqL, ev_iseqO, ev_r1, ev_r2, ev_lrg1, ev_sl, ev_sl1, ev_sl3, ev_sl4, ev_on, ev_os, ev_os1, ev_slT, ev_slL, ev_slO, ev_r3, ix_t0, ix_t1, ix_t2, en_pair, en_int, wipeM, List.map_cons, List.map_nil, List.length_cons, List.length_nil, List.replicate_succ, List.replicate_zero, List.cons_append, List.nil_append, List.append_nil, List.set_cons_zero, List.set_cons_succ, Nat.reduceAdd, Nat.reduceSub, Nat.zero_add, if_true, if_false, reduceIte, Int.reduceEq, Int.reduceLT, Int.reduceLE, Bool.false_eq_true, decide_true, decide_false, Bool.not_true, Bool.not_false, List.getElem?_cons_zero, List.getElem?_cons_succ]
end Tb.K19

set_option Elab.async false
set_option linter.all false
set_option maxRecDepth 100000
namespace Tb.K19
open PySem L2
open En (en da)

/-! ### the bag of a script -/
def iabs (c : Int) : Int := if c < 0 then -c else c
theorem own_bag_spec (ns : List Int) : ∃ b : Bag, b.Ok ∧ f__law_own_bag [.ro (ns.map M.int)] [] = .ok (.loc 1) (bagR b []) := by
  have c1 : mLc false (iSeq (mSlice false (mVar 0) oNone (oSome (mK (.int 63))))) (gN 3) ttYes E2__law_own_bag [3] [some (.ro (ns.map M.int)), none, none, none] [] = .ok (.tmp (((ns.take 63).map iabs).map M.int)) [] := by
    refine (mLc_all (as := ns.take 63) M.int (fun c => .int (iabs c)) ?_ ?_ ?_).trans ?_
    · have e : cutM (ns.map M.int) none (some 63) = (ns.map M.int).take 63 := cut_hi (ns.map M.int) 63
      simp only [ev_seq, ev_seqN, ev_seqR, ev_seqB, ev_seqC, ev_seqE, ev_nil, ev_brk, ev_cnt, ev_retN, ev_expr, ev_expr1, ev_ret, ev_ret1, ev_if, ev_ifT, ev_ifF, ev_asg, ev_asg1, ev_asg2, ev_par, ev_par1, ev_def, ev_defR, ev_defN, ev_var0, ev_varS, ev_k, ev_anil, ev_acons, ev_acons1, ev_acons2, ev_tup, ev_tup_0, ev_tup_1, ev_tup_2, ev_tup_3, ev_lst, ev_lst_0, ev_lst_1, ev_lst_2, ev_lst_3, ev_mkT, ev_mkF, ev_bin, ev_bin1, ev_bin2, ev_un, ev_un1, ev_add, ev_addT, ev_addL, ev_sub, ev_neg, ev_lt, ev_le, ev_gt, ev_ge, ev_eqI, ev_neI, ev_eqB, ev_neB, ev_eqS, ev_neS, ev_and, ev_andT, ev_andF, ev_or, ev_orT, ev_orF, ev_not, ev_not1, ev_tnot, ev_tnot1, ev_tand, ev_tandT, ev_tandF, ev_tor, ev_torT, ev_torF, ev_tb, ev_tb1, ev_yes, ev_ife, ev_ifeT, ev_ifeF, ev_ch, ev_ch1, ev_ch2, ev_ch3T, ev_ch3F, ev_ch4, ev_is, ev_isB, ev_notN, ev_call, ev_call1, ev_own, ev_own_1, ev_own_2, ev_own_3, ev_own_4, ev_own_5, ev_ownK, ev_ownK_1, ev_ownK_01, ev_ownK_10, ev_lenT, ev_lenL, ev_lenO, ev_int, ev_intB, ev_abs, ev_min, ev_max, ev_tupT, ev_tupL, ev_listT, ev_listL, ev_meth, ev_meth2, ev_gN, ev_set, ev_set1, ev_gT, ev_gT2, ev_gT3, ev_gnil, ev_gcons, ev_gcons1, ev_iseq, ev_iseqT, ev_iseqL, ev_iseqO, ev_r1, ev_r2, ev_lrg1, ev_sl, ev_sl1, ev_sl3, ev_sl4, ev_on, ev_os, ev_os1, ev_slT, ev_slL, ev_slO, ev_r3, ix_t0, ix_t1, ix_t2, en_pair, en_int, wipeM, List.map_cons, List.map_nil, List.length_cons, List.length_nil, List.replicate_succ, List.replicate_zero, List.cons_append, List.nil_append, List.append_nil, List.set_cons_zero, List.set_cons_succ, Nat.reduceAdd, Nat.reduceSub, Nat.zero_add, if_true, if_false, reduceIte, Int.reduceEq, Int.reduceLT, Int.reduceLE, Bool.false_eq_true, decide_true, decide_false, Bool.not_true, Bool.not_false, List.getElem?_cons_zero, List.getElem?_cons_succ, e, ← List.map_take]
    · intro c _
      refine ⟨_, by simp only [ev_seq, ev_seqN, ev_seqR, ev_seqB, ev_seqC, ev_seqE, ev_nil, ev_brk, ev_cnt, ev_retN, ev_expr, ev_expr1, ev_ret, ev_ret1, ev_if, ev_ifT, ev_ifF, ev_asg, ev_asg1, ev_asg2, ev_par, ev_par1, ev_def, ev_defR, ev_defN, ev_var0, ev_varS, ev_k, ev_anil, ev_acons, ev_acons1, ev_acons2, ev_tup, ev_tup_0, ev_tup_1, ev_tup_2, ev_tup_3, ev_lst, ev_lst_0, ev_lst_1, ev_lst_2, ev_lst_3, ev_mkT, ev_mkF, ev_bin, ev_bin1, ev_bin2, ev_un, ev_un1, ev_add, ev_addT, ev_addL, ev_sub, ev_neg, ev_lt, ev_le, ev_gt, ev_ge, ev_eqI, ev_neI, ev_eqB, ev_neB, ev_eqS, ev_neS, ev_and, ev_andT, ev_andF, ev_or, ev_orT, ev_orF, ev_not, ev_not1, ev_tnot, ev_tnot1, ev_tand, ev_tandT, ev_tandF, ev_tor, ev_torT, ev_torF, ev_tb, ev_tb1, ev_yes, ev_ife, ev_ifeT, ev_ifeF, ev_ch, ev_ch1, ev_ch2, ev_ch3T, ev_ch3F, ev_ch4, ev_is, ev_isB, ev_notN, ev_call, ev_call1, ev_own, ev_own_1, ev_own_2, ev_own_3, ev_own_4, ev_own_5, ev_ownK, ev_ownK_1, ev_ownK_01, ev_ownK_10, ev_lenT, ev_lenL, ev_lenO, ev_int, ev_intB, ev_abs, ev_min, ev_max, ev_tupT, ev_tupL, ev_listT, ev_listL, ev_meth, ev_meth2, ev_gN, ev_set, ev_set1, ev_gT, ev_gT2, ev_gT3, ev_gnil, ev_gcons, ev_gcons1, ev_iseq, ev_iseqT, ev_iseqL, ev_iseqO, ev_r1, ev_r2, ev_lrg1, ev_sl, ev_sl1, ev_sl3, ev_sl4, ev_on, ev_os, ev_os1, ev_slT, ev_slL, ev_slO, ev_r3, ix_t0, ix_t1, ix_t2, en_pair, en_int, wipeM, List.map_cons, List.map_nil, List.length_cons, List.length_nil, List.replicate_succ, List.replicate_zero, List.cons_append, List.nil_append, List.append_nil, List.set_cons_zero, List.set_cons_succ, Nat.reduceAdd, Nat.reduceSub, Nat.zero_add, if_true, if_false, reduceIte, Int.reduceEq, Int.reduceLT, Int.reduceLE, Bool.false_eq_true, decide_true, decide_false, Bool.not_true, Bool.not_false, List.getElem?_cons_zero, List.getElem?_cons_succ] <;> rfl, ?_⟩
      unfold E2__law_own_bag
      simp only [ev_seq, ev_seqN, ev_seqR, ev_seqB, ev_seqC, ev_seqE, ev_nil, ev_brk, ev_cnt, ev_retN, ev_expr, ev_expr1, ev_ret, ev_ret1, ev_if, ev_ifT, ev_ifF, ev_asg, ev_asg1, ev_asg2, ev_par, ev_par1, ev_def, ev_defR, ev_defN, ev_var0, ev_varS, ev_k, ev_anil, ev_acons, ev_acons1, ev_acons2, ev_tup, ev_tup_0, ev_tup_1, ev_tup_2, ev_tup_3, ev_lst, ev_lst_0, ev_lst_1, ev_lst_2, ev_lst_3, ev_mkT, ev_mkF, ev_bin, ev_bin1, ev_bin2, ev_un, ev_un1, ev_add, ev_addT, ev_addL, ev_sub, ev_neg, ev_lt, ev_le, ev_gt, ev_ge, ev_eqI, ev_neI, ev_eqB, ev_neB, ev_eqS, ev_neS, ev_and, ev_andT, ev_andF, ev_or, ev_orT, ev_orF, ev_not, ev_not1, ev_tnot, ev_tnot1, ev_tand, ev_tandT, ev_tandF, ev_tor, ev_torT, ev_torF, ev_tb, ev_tb1, ev_yes, ev_ife, ev_ifeT, ev_ifeF, ev_ch, ev_ch1, ev_ch2, ev_ch3T, ev_ch3F, ev_ch4, ev_is, ev_isB, ev_notN, ev_call, ev_call1, ev_own, ev_own_1, ev_own_2, ev_own_3, ev_own_4, ev_own_5, ev_ownK, ev_ownK_1, ev_ownK_01, ev_ownK_10, ev_lenT, ev_lenL, ev_lenO, ev_int, ev_intB, ev_abs, ev_min, ev_max, ev_tupT, ev_tupL, ev_listT, ev_listL, ev_meth, ev_meth2, ev_gN, ev_set, ev_set1, ev_gT, ev_gT2, ev_gT3, ev_gnil, ev_gcons, ev_gcons1, ev_iseq, ev_iseqT, ev_iseqL, ev_iseqO, ev_r1, ev_r2, ev_lrg1, ev_sl, ev_sl1, ev_sl3, ev_sl4, ev_on, ev_os, ev_os1, ev_slT, ev_slL, ev_slO, ev_r3, ix_t0, ix_t1, ix_t2, en_pair, en_int, wipeM, List.map_cons, List.map_nil, List.length_cons, List.length_nil, List.replicate_succ, List.replicate_zero, List.cons_append, List.nil_append, List.append_nil, List.set_cons_zero, List.set_cons_succ, Nat.reduceAdd, Nat.reduceSub, Nat.zero_add, if_true, if_false, reduceIte, Int.reduceEq, Int.reduceLT, Int.reduceLE, Bool.false_eq_true, decide_true, decide_false, Bool.not_true, Bool.not_false, List.getElem?_cons_zero, List.getElem?_cons_succ]
      rfl
    · rw [List.length_take]; exact Nat.le_trans (Nat.min_le_left _ _) (by decide)
    · rw [ev_mkF, List.map_map]; rfl
  have ab : ∀ c : Int, 0 ≤ iabs c := fun c => by unfold iabs; split <;> omega
  generalize hcs : (ns.take 63).map iabs = cs at c1
  have hlen : cs.length ≤ 63 := by rw [← hcs, List.length_map, List.length_take]; omega
  have hnn : ∀ c ∈ cs, 0 ≤ c := fun c hc => by
    rw [← hcs] at hc
    obtain ⟨d, _, rfl⟩ := List.mem_map.mp hc
    exact ab d
  obtain ⟨ms', h', e, m, x, m0, m1, rfl, rfl⟩ := forV_pre (g := gN 3) (body := B1__law_own_bag) M.int cs (fun pre ms h => ∃ (m : Int) (x : Option M), 0 ≤ m ∧ m < 2147483647 ∧ ms = [some (.ro (ns.map M.int)), some (.tmp (cs.map M.int)), some (.int m), x] ∧ h = []) (by
    rintro pre c post ms h e ⟨m, x, m0, m1, rfl, rfl⟩
    have h1 : cMod c 2147483629 = true := rfl
    have h2 : ∀ i : Int, cMod i 2147483647 = true := fun _ => rfl
    refine ⟨_, [], turn_nx (by simp only [ev_seq, ev_seqN, ev_seqR, ev_seqB, ev_seqC, ev_seqE, ev_nil, ev_brk, ev_cnt, ev_retN, ev_expr, ev_expr1, ev_ret, ev_ret1, ev_if, ev_ifT, ev_ifF, ev_asg, ev_asg1, ev_asg2, ev_par, ev_par1, ev_def, ev_defR, ev_defN, ev_var0, ev_varS, ev_k, ev_anil, ev_acons, ev_acons1, ev_acons2, ev_tup, ev_tup_0, ev_tup_1, ev_tup_2, ev_tup_3, ev_lst, ev_lst_0, ev_lst_1, ev_lst_2, ev_lst_3, ev_mkT, ev_mkF, ev_bin, ev_bin1, ev_bin2, ev_un, ev_un1, ev_add, ev_addT, ev_addL, ev_sub, ev_neg, ev_lt, ev_le, ev_gt, ev_ge, ev_eqI, ev_neI, ev_eqB, ev_neB, ev_eqS, ev_neS, ev_and, ev_andT, ev_andF, ev_or, ev_orT, ev_orF, ev_not, ev_not1, ev_tnot, ev_tnot1, ev_tand, ev_tandT, ev_tandF, ev_tor, ev_torT, ev_torF, ev_tb, ev_tb1, ev_yes, ev_ife, ev_ifeT, ev_ifeF, ev_ch, ev_ch1, ev_ch2, ev_ch3T, ev_ch3F, ev_ch4, ev_is, ev_isB, ev_notN, ev_call, ev_call1, ev_own, ev_own_1, ev_own_2, ev_own_3, ev_own_4, ev_own_5, ev_ownK, ev_ownK_1, ev_ownK_01, ev_ownK_10, ev_lenT, ev_lenL, ev_lenO, ev_int, ev_intB, ev_abs, ev_min, ev_max, ev_tupT, ev_tupL, ev_listT, ev_listL, ev_meth, ev_meth2, ev_gN, ev_set, ev_set1, ev_gT, ev_gT2, ev_gT3, ev_gnil, ev_gcons, ev_gcons1, ev_iseq, ev_iseqT, ev_iseqL, ev_iseqO, ev_r1, ev_r2, ev_lrg1, ev_sl, ev_sl1, ev_sl3, ev_sl4, ev_on, ev_os, ev_os1, ev_slT, ev_slL, ev_slO, ev_r3, ix_t0, ix_t1, ix_t2, en_pair, en_int, wipeM, List.map_cons, List.map_nil, List.length_cons, List.length_nil, List.replicate_succ, List.replicate_zero, List.cons_append, List.nil_append, List.append_nil, List.set_cons_zero, List.set_cons_succ, Nat.reduceAdd, Nat.reduceSub, Nat.zero_add, if_true, if_false, reduceIte, Int.reduceEq, Int.reduceLT, Int.reduceLE, Bool.false_eq_true, decide_true, decide_false, Bool.not_true, Bool.not_false, List.getElem?_cons_zero, List.getElem?_cons_succ] <;> rfl) ?_, (m * 48271 + c % 2147483629 + 5) % 2147483647, some (.int c), Int.emod_nonneg _ (by decide), Int.emod_lt_of_pos _ (by decide), rfl, rfl⟩
    unfold B1__law_own_bag
    simp only [ev_seq, ev_seqN, ev_seqR, ev_seqB, ev_seqC, ev_seqE, ev_nil, ev_brk, ev_cnt, ev_retN, ev_expr, ev_expr1, ev_ret, ev_ret1, ev_if, ev_ifT, ev_ifF, ev_asg, ev_asg1, ev_asg2, ev_par, ev_par1, ev_def, ev_defR, ev_defN, ev_var0, ev_varS, ev_k, ev_anil, ev_acons, ev_acons1, ev_acons2, ev_tup, ev_tup_0, ev_tup_1, ev_tup_2, ev_tup_3, ev_lst, ev_lst_0, ev_lst_1, ev_lst_2, ev_lst_3, ev_mkT, ev_mkF, ev_bin, ev_bin1, ev_bin2, ev_un, ev_un1, ev_add, ev_addT, ev_addL, ev_sub, ev_neg, ev_lt, ev_le, ev_gt, ev_ge, ev_eqI, ev_neI, ev_eqB, ev_neB, ev_eqS, ev_neS, ev_and, ev_andT, ev_andF, ev_or, ev_orT, ev_orF, ev_not, ev_not1, ev_tnot, ev_tnot1, ev_tand, ev_tandT, ev_tandF, ev_tor, ev_torT, ev_torF, ev_tb, ev_tb1, ev_yes, ev_ife, ev_ifeT, ev_ifeF, ev_ch, ev_ch1, ev_ch2, ev_ch3T, ev_ch3F, ev_ch4, ev_is, ev_isB, ev_notN, ev_call, ev_call1, ev_own, ev_own_1, ev_own_2, ev_own_3, ev_own_4, ev_own_5, ev_ownK, ev_ownK_1, ev_ownK_01, ev_ownK_10, ev_lenT, ev_lenL, ev_lenO, ev_int, ev_intB, ev_abs, ev_min, ev_max, ev_tupT, ev_tupL, ev_listT, ev_listL, ev_meth, ev_meth2, ev_gN, ev_set, ev_set1, ev_gT, ev_gT2, ev_gT3, ev_gnil, ev_gcons, ev_gcons1, ev_iseq, ev_iseqT, ev_iseqL, ev_iseqO, ev_r1, ev_r2, ev_lrg1, ev_sl, ev_sl1, ev_sl3, ev_sl4, ev_on, ev_os, ev_os1, ev_slT, ev_slL, ev_slO, ev_r3, ix_t0, ix_t1, ix_t2, en_pair, en_int, wipeM, List.map_cons, List.map_nil, List.length_cons, List.length_nil, List.replicate_succ, List.replicate_zero, List.cons_append, List.nil_append, List.append_nil, List.set_cons_zero, List.set_cons_succ, Nat.reduceAdd, Nat.reduceSub, Nat.zero_add, if_true, if_false, reduceIte, Int.reduceEq, Int.reduceLT, Int.reduceLE, Bool.false_eq_true, decide_true, decide_false, Bool.not_true, Bool.not_false, List.getElem?_cons_zero, List.getElem?_cons_succ, ev_mul, mulS m 48271 (by decide) (by decide), ev_mod, h1, h2]) (ms := [some (.ro (ns.map M.int)), some (.tmp (cs.map M.int)), some (.int (2033 + (cs.length : Nat))), none]) (h := []) ⟨2033 + (cs.length : Nat), none, by omega, by omega, rfl, rfl⟩
  refine ⟨⟨cs.reverse, 0, m⟩, ⟨fun c hc => hnn c (List.mem_reverse.mp hc), by rw [List.length_reverse]; exact hlen, Int.le_refl 0, m0, m1⟩, ?_⟩
  unfold f__law_own_bag F__law_own_bag
  have e1 : revM true (.tmp (cs.map M.int)) [] = .ok (.loc 0) [.lst (cs.reverse.map M.int)] := by
    show R.ok (M.loc 0) [O.lst (cs.map M.int).reverse] = _
    rw [List.map_reverse]
  simp only [ev_seq, ev_seqN, ev_seqR, ev_seqB, ev_seqC, ev_seqE, ev_nil, ev_brk, ev_cnt, ev_retN, ev_expr, ev_expr1, ev_ret, ev_ret1, ev_if, ev_ifT, ev_ifF, ev_asg, ev_asg1, ev_asg2, ev_par, ev_par1, ev_def, ev_defR, ev_defN, ev_var0, ev_varS, ev_k, ev_anil, ev_acons, ev_acons1, ev_acons2, ev_tup, ev_tup_0, ev_tup_1, ev_tup_2, ev_tup_3, ev_lst, ev_lst_0, ev_lst_1, ev_lst_2, ev_lst_3, ev_mkT, ev_mkF, ev_bin, ev_bin1, ev_bin2, ev_un, ev_un1, ev_add, ev_addT, ev_addL, ev_sub, ev_neg, ev_lt, ev_le, ev_gt, ev_ge, ev_eqI, ev_neI, ev_eqB, ev_neB, ev_eqS, ev_neS, ev_and, ev_andT, ev_andF, ev_or, ev_orT, ev_orF, ev_not, ev_not1, ev_tnot, ev_tnot1, ev_tand, ev_tandT, ev_tandF, ev_tor, ev_torT, ev_torF, ev_tb, ev_tb1, ev_yes, ev_ife, ev_ifeT, ev_ifeF, ev_ch, ev_ch1, ev_ch2, ev_ch3T, ev_ch3F, ev_ch4, ev_is, ev_isB, ev_notN, ev_call, ev_call1, ev_own, ev_own_1, ev_own_2, ev_own_3, ev_own_4, ev_own_5, ev_ownK, ev_ownK_1, ev_ownK_01, ev_ownK_10, ev_lenT, ev_lenL, ev_lenO, ev_int, ev_intB, ev_abs, ev_min, ev_max, ev_tupT, ev_tupL, ev_listT, ev_listL, ev_meth, ev_meth2, ev_gN, ev_set, ev_set1, ev_gT, ev_gT2, ev_gT3, ev_gnil, ev_gcons, ev_gcons1, ev_iseq, ev_iseqT, ev_iseqL, ev_iseqO, ev_r1, ev_r2, ev_lrg1, ev_sl, ev_sl1, ev_sl3, ev_sl4, ev_on, ev_os, ev_os1, ev_slT, ev_slL, ev_slO, ev_r3, ix_t0, ix_t1, ix_t2, en_pair, en_int, wipeM, List.map_cons, List.map_nil, List.length_cons, List.length_nil, List.replicate_succ, List.replicate_zero, List.cons_append, List.nil_append, List.append_nil, List.set_cons_zero, List.set_cons_succ, Nat.reduceAdd, Nat.reduceSub, Nat.zero_add, if_true, if_false, reduceIte, Int.reduceEq, Int.reduceLT, Int.reduceLE, Bool.false_eq_true, decide_true, decide_false, Bool.not_true, Bool.not_false, List.getElem?_cons_zero, List.getElem?_cons_succ, c1]
  rw [xFor_eq (xs := cs.map M.int) (by simp only [ev_seq, ev_seqN, ev_seqR, ev_seqB, ev_seqC, ev_seqE, ev_nil, ev_brk, ev_cnt, ev_retN, ev_expr, ev_expr1, ev_ret, ev_ret1, ev_if, ev_ifT, ev_ifF, ev_asg, ev_asg1, ev_asg2, ev_par, ev_par1, ev_def, ev_defR, ev_defN, ev_var0, ev_varS, ev_k, ev_anil, ev_acons, ev_acons1, ev_acons2, ev_tup, ev_tup_0, ev_tup_1, ev_tup_2, ev_tup_3, ev_lst, ev_lst_0, ev_lst_1, ev_lst_2, ev_lst_3, ev_mkT, ev_mkF, ev_bin, ev_bin1, ev_bin2, ev_un, ev_un1, ev_add, ev_addT, ev_addL, ev_sub, ev_neg, ev_lt, ev_le, ev_gt, ev_ge, ev_eqI, ev_neI, ev_eqB, ev_neB, ev_eqS, ev_neS, ev_and, ev_andT, ev_andF, ev_or, ev_orT, ev_orF, ev_not, ev_not1, ev_tnot, ev_tnot1, ev_tand, ev_tandT, ev_tandF, ev_tor, ev_torT, ev_torF, ev_tb, ev_tb1, ev_yes, ev_ife, ev_ifeT, ev_ifeF, ev_ch, ev_ch1, ev_ch2, ev_ch3T, ev_ch3F, ev_ch4, ev_is, ev_isB, ev_notN, ev_call, ev_call1, ev_own, ev_own_1, ev_own_2, ev_own_3, ev_own_4, ev_own_5, ev_ownK, ev_ownK_1, ev_ownK_01, ev_ownK_10, ev_lenT, ev_lenL, ev_lenO, ev_int, ev_intB, ev_abs, ev_min, ev_max, ev_tupT, ev_tupL, ev_listT, ev_listL, ev_meth, ev_meth2, ev_gN, ev_set, ev_set1, ev_gT, ev_gT2, ev_gT3, ev_gnil, ev_gcons, ev_gcons1, ev_iseq, ev_iseqT, ev_iseqL, ev_iseqO, ev_r1, ev_r2, ev_lrg1, ev_sl, ev_sl1, ev_sl3, ev_sl4, ev_on, ev_os, ev_os1, ev_slT, ev_slL, ev_slO, ev_r3, ix_t0, ix_t1, ix_t2, en_pair, en_int, wipeM, List.map_cons, List.map_nil, List.length_cons, List.length_nil, List.replicate_succ, List.replicate_zero, List.cons_append, List.nil_append, List.append_nil, List.set_cons_zero, List.set_cons_succ, Nat.reduceAdd, Nat.reduceSub, Nat.zero_add, if_true, if_false, reduceIte, Int.reduceEq, Int.reduceLT, Int.reduceLE, Bool.false_eq_true, decide_true, decide_false, Bool.not_true, Bool.not_false, List.getElem?_cons_zero, List.getElem?_cons_succ] <;> rfl)]
  rw [show (List.map M.int cs).length = cs.length from List.length_map _, e]
  simp only [ev_seq, ev_seqN, ev_seqR, ev_seqB, ev_seqC, ev_seqE, ev_nil, ev_brk, ev_cnt, ev_retN, ev_expr, ev_expr1, ev_ret, ev_ret1, ev_if, ev_ifT, ev_ifF, ev_asg, ev_asg1, ev_asg2, ev_par, ev_par1, ev_def, ev_defR, ev_defN, ev_var0, ev_varS, ev_k, ev_anil, ev_acons, ev_acons1, ev_acons2, ev_tup, ev_tup_0, ev_tup_1, ev_tup_2, ev_tup_3, ev_lst, ev_lst_0, ev_lst_1, ev_lst_2, ev_lst_3, ev_mkT, ev_mkF, ev_bin, ev_bin1, ev_bin2, ev_un, ev_un1, ev_add, ev_addT, ev_addL, ev_sub, ev_neg, ev_lt, ev_le, ev_gt, ev_ge, ev_eqI, ev_neI, ev_eqB, ev_neB, ev_eqS, ev_neS, ev_and, ev_andT, ev_andF, ev_or, ev_orT, ev_orF, ev_not, ev_not1, ev_tnot, ev_tnot1, ev_tand, ev_tandT, ev_tandF, ev_tor, ev_torT, ev_torF, ev_tb, ev_tb1, ev_yes, ev_ife, ev_ifeT, ev_ifeF, ev_ch, ev_ch1, ev_ch2, ev_ch3T, ev_ch3F, ev_ch4, ev_is, ev_isB, ev_notN, ev_call, ev_call1, ev_own, ev_own_1, ev_own_2, ev_own_3, ev_own_4, ev_own_5, ev_ownK, ev_ownK_1, ev_ownK_01, ev_ownK_10, ev_lenT, ev_lenL, ev_lenO, ev_int, ev_intB, ev_abs, ev_min, ev_max, ev_tupT, ev_tupL, ev_listT, ev_listL, ev_meth, ev_meth2, ev_gN, ev_set, ev_set1, ev_gT, ev_gT2, ev_gT3, ev_gnil, ev_gcons, ev_gcons1, ev_iseq, ev_iseqT, ev_iseqL, ev_iseqO, ev_r1, ev_r2, ev_lrg1, ev_sl, ev_sl1, ev_sl3, ev_sl4, ev_on, ev_os, ev_os1, ev_slT, ev_slL, ev_slO, ev_r3, ix_t0, ix_t1, ix_t2, en_pair, en_int, wipeM, List.map_cons, List.map_nil, List.length_cons, List.length_nil, List.replicate_succ, List.replicate_zero, List.cons_append, List.nil_append, List.append_nil, List.set_cons_zero, List.set_cons_succ, Nat.reduceAdd, Nat.reduceSub, Nat.zero_add, if_true, if_false, reduceIte, Int.reduceEq, Int.reduceLT, Int.reduceLE, Bool.false_eq_true, decide_true, decide_false, Bool.not_true, Bool.not_false, List.getElem?_cons_zero, List.getElem?_cons_succ, e1]
  rfl
/-! ### webs of the law -/
theorem web_ix0 (n : Int) (A : Int → Int → Bool) (h : MH) : ixM (web n A) (.int 0) h = .ok (.int n) h := rfl
theorem web_ix1 (n : Int) (A : Int → Int → Bool) (h : MH) : ixM (web n A) (.int 1) h = .ok (en (canon n A)) h := rfl
theorem web_of {n : Int} {l : List Tie} (h : l.Pairwise ltP) (hr : ∀ t ∈ l, 0 ≤ t.1 ∧ t.1 < t.2 ∧ t.2 < n) : ∃ A, (M.tup [.int n, .tup (l.map en)]) = web n A := ⟨_, by rw [web_eq, ← canon_of h hr]; rfl⟩
theorem led_spec {n : Int} {A : Int → Int → Bool} {os : List Int} {h : MH} (hn0 : 0 ≤ n) (hn : n ≤ 100) (hp : os.Perm (irg 0 n)) : ∃ A', f__law_led [web n A, .tmp (os.map M.int)] h = .ok (web n A') h := by
  have hlen : os.length = n.toNat := by rw [hp.length_eq, irg_length]; omega
  have hnd : os.Nodup := hp.nodup_iff.mpr (irg_nodup 0 n)
  have get : ∀ i : Int, 0 ≤ i → i < n → os[i.toNat]? = some (os.getD i.toNat 0) ∧ 0 ≤ os.getD i.toNat 0 ∧ os.getD i.toNat 0 < n := fun i h0 h1 => by
    have hl : i.toNat < os.length := by omega
    have e : os[i.toNat]? = some (os.getD i.toNat 0) := by rw [List.getD_eq_getElem?_getD, List.getElem?_eq_getElem hl]; rfl
    have := mem_irg.mp (hp.mem_iff.mp (List.mem_of_getElem? e))
    exact ⟨e, this.1, this.2⟩
  have inj : ∀ i j : Int, 0 ≤ i → i < n → 0 ≤ j → j < n → os.getD i.toNat 0 = os.getD j.toNat 0 → i = j := fun i j h0 h1 h2 h3 e => by
    have a := (get i h0 h1).1
    have b := (get j h2 h3).1
    rw [e] at a
    have := (List.getElem?_inj (by omega : i.toNat < os.length) hnd).mp (a.trans b.symm)
    omega
  have neq : ∀ t ∈ canon n A, os.getD t.1.toNat 0 ≠ os.getD t.2.toNat 0 := fun t ht e => by
    rw [mem_canon] at ht
    have := inj t.1 t.2 ht.1 (by omega) (by omega) ht.2.2.1 e
    omega
  have c1 : mLc false (iSeq (mBin ixM (mVar 0) (mK (.int 1)))) (gT 2 (gsCons (gN 3) (gsCons (gN 4) gsNil))) ttYes E1__law_led [3, 4] [some (web n A), some (.tmp (os.map M.int)), none, none, none] [] =
      .ok (.tmp (((canon n A).map fun t => ((mn (os.getD t.1.toNat 0) (os.getD t.2.toNat 0), mx (os.getD t.1.toNat 0) (os.getD t.2.toNat 0)) : Tie)).map en)) [] := by
    refine (mLc_all (as := canon n A) en (fun t => en ((mn (os.getD t.1.toNat 0) (os.getD t.2.toNat 0), mx (os.getD t.1.toNat 0) (os.getD t.2.toNat 0)) : Tie)) (by simp only [ev_seq, ev_seqN, ev_seqR, ev_seqB, ev_seqC, ev_seqE, ev_nil, ev_brk, ev_cnt, ev_retN, ev_expr, ev_expr1, ev_ret, ev_ret1, ev_if, ev_ifT, ev_ifF, ev_asg, ev_asg1, ev_asg2, ev_par, ev_par1, ev_def, ev_defR, ev_defN, ev_var0, ev_varS, ev_k, ev_anil, ev_acons, ev_acons1, ev_acons2, ev_tup, ev_tup_0, ev_tup_1, ev_tup_2, ev_tup_3, ev_lst, ev_lst_0, ev_lst_1, ev_lst_2, ev_lst_3, ev_mkT, ev_mkF, ev_bin, ev_bin1, ev_bin2, ev_un, ev_un1, ev_add, ev_addT, ev_addL, ev_sub, ev_neg, ev_lt, ev_le, ev_gt, ev_ge, ev_eqI, ev_neI, ev_eqB, ev_neB, ev_eqS, ev_neS, ev_and, ev_andT, ev_andF, ev_or, ev_orT, ev_orF, ev_not, ev_not1, ev_tnot, ev_tnot1, ev_tand, ev_tandT, ev_tandF, ev_tor, ev_torT, ev_torF, ev_tb, ev_tb1, ev_yes, ev_ife, ev_ifeT, ev_ifeF, ev_ch, ev_ch1, ev_ch2, ev_ch3T, ev_ch3F, ev_ch4, ev_is, ev_isB, ev_notN, ev_call, ev_call1, ev_own, ev_own_1, ev_own_2, ev_own_3, ev_own_4, ev_own_5, ev_ownK, ev_ownK_1, ev_ownK_01, ev_ownK_10, ev_lenT, ev_lenL, ev_lenO, ev_int, ev_intB, ev_abs, ev_min, ev_max, ev_tupT, ev_tupL, ev_listT, ev_listL, ev_meth, ev_meth2, ev_gN, ev_set, ev_set1, ev_gT, ev_gT2, ev_gT3, ev_gnil, ev_gcons, ev_gcons1, ev_iseq, ev_iseqT, ev_iseqL, ev_iseqO, ev_r1, ev_r2, ev_lrg1, ev_sl, ev_sl1, ev_sl3, ev_sl4, ev_on, ev_os, ev_os1, ev_slT, ev_slL, ev_slO, ev_r3, ix_t0, ix_t1, ix_t2, en_pair, en_int, wipeM, List.map_cons, List.map_nil, List.length_cons, List.length_nil, List.replicate_succ, List.replicate_zero, List.cons_append, List.nil_append, List.append_nil, List.set_cons_zero, List.set_cons_succ, Nat.reduceAdd, Nat.reduceSub, Nat.zero_add, if_true, if_false, reduceIte, Int.reduceEq, Int.reduceLT, Int.reduceLE, Bool.false_eq_true, decide_true, decide_false, Bool.not_true, Bool.not_false, List.getElem?_cons_zero, List.getElem?_cons_succ, web_eq, En.en] <;> rfl) ?_ (Nat.le_trans (canon_100 A hn) (by decide))).trans ?_
    · rintro ⟨a, b⟩ ht
      rw [mem_canon] at ht
      obtain ⟨g1, _⟩ := get a ht.1 (by have := ht.2.1; have := ht.2.2.1; omega)
      obtain ⟨g2, _⟩ := get b (by have := ht.2.1; have := ht.1; omega) ht.2.2.1
      refine ⟨_, by simp only [ev_seq, ev_seqN, ev_seqR, ev_seqB, ev_seqC, ev_seqE, ev_nil, ev_brk, ev_cnt, ev_retN, ev_expr, ev_expr1, ev_ret, ev_ret1, ev_if, ev_ifT, ev_ifF, ev_asg, ev_asg1, ev_asg2, ev_par, ev_par1, ev_def, ev_defR, ev_defN, ev_var0, ev_varS, ev_k, ev_anil, ev_acons, ev_acons1, ev_acons2, ev_tup, ev_tup_0, ev_tup_1, ev_tup_2, ev_tup_3, ev_lst, ev_lst_0, ev_lst_1, ev_lst_2, ev_lst_3, ev_mkT, ev_mkF, ev_bin, ev_bin1, ev_bin2, ev_un, ev_un1, ev_add, ev_addT, ev_addL, ev_sub, ev_neg, ev_lt, ev_le, ev_gt, ev_ge, ev_eqI, ev_neI, ev_eqB, ev_neB, ev_eqS, ev_neS, ev_and, ev_andT, ev_andF, ev_or, ev_orT, ev_orF, ev_not, ev_not1, ev_tnot, ev_tnot1, ev_tand, ev_tandT, ev_tandF, ev_tor, ev_torT, ev_torF, ev_tb, ev_tb1, ev_yes, ev_ife, ev_ifeT, ev_ifeF, ev_ch, ev_ch1, ev_ch2, ev_ch3T, ev_ch3F, ev_ch4, ev_is, ev_isB, ev_notN, ev_call, ev_call1, ev_own, ev_own_1, ev_own_2, ev_own_3, ev_own_4, ev_own_5, ev_ownK, ev_ownK_1, ev_ownK_01, ev_ownK_10, ev_lenT, ev_lenL, ev_lenO, ev_int, ev_intB, ev_abs, ev_min, ev_max, ev_tupT, ev_tupL, ev_listT, ev_listL, ev_meth, ev_meth2, ev_gN, ev_set, ev_set1, ev_gT, ev_gT2, ev_gT3, ev_gnil, ev_gcons, ev_gcons1, ev_iseq, ev_iseqT, ev_iseqL, ev_iseqO, ev_r1, ev_r2, ev_lrg1, ev_sl, ev_sl1, ev_sl3, ev_sl4, ev_on, ev_os, ev_os1, ev_slT, ev_slL, ev_slO, ev_r3, ix_t0, ix_t1, ix_t2, en_pair, en_int, wipeM, List.map_cons, List.map_nil, List.length_cons, List.length_nil, List.replicate_succ, List.replicate_zero, List.cons_append, List.nil_append, List.append_nil, List.set_cons_zero, List.set_cons_succ, Nat.reduceAdd, Nat.reduceSub, Nat.zero_add, if_true, if_false, reduceIte, Int.reduceEq, Int.reduceLT, Int.reduceLE, Bool.false_eq_true, decide_true, decide_false, Bool.not_true, Bool.not_false, List.getElem?_cons_zero, List.getElem?_cons_succ] <;> rfl, ?_⟩
      unfold E1__law_led
      have i1 : ∀ h : MH, ixM (.tmp (os.map M.int)) (.int a) h = .ok (.int (os.getD a.toNat 0)) h := fun h => ix_seq (xs := os.map M.int) rfl ht.1 (by rw [List.getElem?_map, g1]; rfl)
      have i2 : ∀ h : MH, ixM (.tmp (os.map M.int)) (.int b) h = .ok (.int (os.getD b.toNat 0)) h := fun h => ix_seq (xs := os.map M.int) rfl (by have := ht.2.1; have := ht.1; omega) (by rw [List.getElem?_map, g2]; rfl)
      simp only [ev_seq, ev_seqN, ev_seqR, ev_seqB, ev_seqC, ev_seqE, ev_nil, ev_brk, ev_cnt, ev_retN, ev_expr, ev_expr1, ev_ret, ev_ret1, ev_if, ev_ifT, ev_ifF, ev_asg, ev_asg1, ev_asg2, ev_par, ev_par1, ev_def, ev_defR, ev_defN, ev_var0, ev_varS, ev_k, ev_anil, ev_acons, ev_acons1, ev_acons2, ev_tup, ev_tup_0, ev_tup_1, ev_tup_2, ev_tup_3, ev_lst, ev_lst_0, ev_lst_1, ev_lst_2, ev_lst_3, ev_mkT, ev_mkF, ev_bin, ev_bin1, ev_bin2, ev_un, ev_un1, ev_add, ev_addT, ev_addL, ev_sub, ev_neg, ev_lt, ev_le, ev_gt, ev_ge, ev_eqI, ev_neI, ev_eqB, ev_neB, ev_eqS, ev_neS, ev_and, ev_andT, ev_andF, ev_or, ev_orT, ev_orF, ev_not, ev_not1, ev_tnot, ev_tnot1, ev_tand, ev_tandT, ev_tandF, ev_tor, ev_torT, ev_torF, ev_tb, ev_tb1, ev_yes, ev_ife, ev_ifeT, ev_ifeF, ev_ch, ev_ch1, ev_ch2, ev_ch3T, ev_ch3F, ev_ch4, ev_is, ev_isB, ev_notN, ev_call, ev_call1, ev_own, ev_own_1, ev_own_2, ev_own_3, ev_own_4, ev_own_5, ev_ownK, ev_ownK_1, ev_ownK_01, ev_ownK_10, ev_lenT, ev_lenL, ev_lenO, ev_int, ev_intB, ev_abs, ev_min, ev_max, ev_tupT, ev_tupL, ev_listT, ev_listL, ev_meth, ev_meth2, ev_gN, ev_set, ev_set1, ev_gT, ev_gT2, ev_gT3, ev_gnil, ev_gcons, ev_gcons1, ev_iseq, ev_iseqT, ev_iseqL, ev_iseqO, ev_r1, ev_r2, ev_lrg1, ev_sl, ev_sl1, ev_sl3, ev_sl4, ev_on, ev_os, ev_os1, ev_slT, ev_slL, ev_slO, ev_r3, ix_t0, ix_t1, ix_t2, en_pair, en_int, wipeM, List.map_cons, List.map_nil, List.length_cons, List.length_nil, List.replicate_succ, List.replicate_zero, List.cons_append, List.nil_append, List.append_nil, List.set_cons_zero, List.set_cons_succ, Nat.reduceAdd, Nat.reduceSub, Nat.zero_add, if_true, if_false, reduceIte, Int.reduceEq, Int.reduceLT, Int.reduceLE, Bool.false_eq_true, decide_true, decide_false, Bool.not_true, Bool.not_false, List.getElem?_cons_zero, List.getElem?_cons_succ, i1, i2]
    · rw [ev_mkF, List.map_map]; rfl
  generalize hl : ((canon n A).map fun t => ((mn (os.getD t.1.toNat 0) (os.getD t.2.toNat 0), mx (os.getD t.1.toNat 0) (os.getD t.2.toNat 0)) : Tie)) = l at c1
  have nd : l.Nodup := by
    rw [← hl]
    refine List.pairwise_map.mpr ((canon_nodup n A).imp_of_mem ?_)
    rintro ⟨a, b⟩ ⟨c, d⟩ hs ht hne e
    have s1 := mem_canon.mp hs
    have t1 := mem_canon.mp ht
    apply hne
    simp only at s1 t1
    have i1 := inj a c s1.1 (by omega) t1.1 (by omega)
    have i2 := inj a d s1.1 (by omega) (by omega) t1.2.2.1
    have i3 := inj b c (by omega) s1.2.2.1 t1.1 (by omega)
    have i4 := inj b d (by omega) s1.2.2.1 (by omega) t1.2.2.1
    simp only [Prod.mk.injEq, mn, mx] at e ⊢
    generalize os.getD a.toNat 0 = oa at *
    generalize os.getD b.toNat 0 = ob at *
    generalize os.getD c.toNat 0 = oc at *
    generalize os.getD d.toNat 0 = od at *
    have h5 : (oa = oc ∧ ob = od) ∨ (oa = od ∧ ob = oc) := by
      split at e <;> split at e <;> split at e <;> split at e <;> omega
    rcases h5 with ⟨h6, h7⟩ | ⟨h6, h7⟩
    · exact ⟨i1 h6, i4 h7⟩
    · have := i2 h6; have := i3 h7; omega
  have rg : ∀ t ∈ l, 0 ≤ t.1 ∧ t.1 < t.2 ∧ t.2 < n := fun t ht => by
    rw [← hl] at ht
    obtain ⟨s, hs, rfl⟩ := List.mem_map.mp ht
    have s1 := mem_canon.mp hs
    have g1 := (get s.1 s1.1 (by omega)).2
    have g2 := (get s.2 (by omega) s1.2.2.1).2
    have ne := neq s hs
    simp only [mn, mx]
    split <;> split <;> omega
  have se : l.mergeSort leP = canon n fun a b => decide ((a, b) ∈ l) := sort_eq nd (canon_sorted _ _) fun t => by
    rw [mem_canon]
    exact ⟨fun ht => ⟨(rg t ht).1, (rg t ht).2.1, (rg t ht).2.2, by simpa using ht⟩, fun ⟨_, _, _, ht⟩ => by simpa using ht⟩
  refine ⟨fun a b => decide ((a, b) ∈ l), cloF_val (h' := []) ?_ ?_ (web_clo _ _)⟩
  · have : cloL (os.map M.int) = true := cloL_en (α := Int) os
    simp only [cloL, web_clo, clo, this, Bool.and_self]
  · unfold F__law_led
    simp only [ev_seq, ev_seqN, ev_seqR, ev_seqB, ev_seqC, ev_seqE, ev_nil, ev_brk, ev_cnt, ev_retN, ev_expr, ev_expr1, ev_ret, ev_ret1, ev_if, ev_ifT, ev_ifF, ev_asg, ev_asg1, ev_asg2, ev_par, ev_par1, ev_def, ev_defR, ev_defN, ev_var0, ev_varS, ev_k, ev_anil, ev_acons, ev_acons1, ev_acons2, ev_tup, ev_tup_0, ev_tup_1, ev_tup_2, ev_tup_3, ev_lst, ev_lst_0, ev_lst_1, ev_lst_2, ev_lst_3, ev_mkT, ev_mkF, ev_bin, ev_bin1, ev_bin2, ev_un, ev_un1, ev_add, ev_addT, ev_addL, ev_sub, ev_neg, ev_lt, ev_le, ev_gt, ev_ge, ev_eqI, ev_neI, ev_eqB, ev_neB, ev_eqS, ev_neS, ev_and, ev_andT, ev_andF, ev_or, ev_orT, ev_orF, ev_not, ev_not1, ev_tnot, ev_tnot1, ev_tand, ev_tandT, ev_tandF, ev_tor, ev_torT, ev_torF, ev_tb, ev_tb1, ev_yes, ev_ife, ev_ifeT, ev_ifeF, ev_ch, ev_ch1, ev_ch2, ev_ch3T, ev_ch3F, ev_ch4, ev_is, ev_isB, ev_notN, ev_call, ev_call1, ev_own, ev_own_1, ev_own_2, ev_own_3, ev_own_4, ev_own_5, ev_ownK, ev_ownK_1, ev_ownK_01, ev_ownK_10, ev_lenT, ev_lenL, ev_lenO, ev_int, ev_intB, ev_abs, ev_min, ev_max, ev_tupT, ev_tupL, ev_listT, ev_listL, ev_meth, ev_meth2, ev_gN, ev_set, ev_set1, ev_gT, ev_gT2, ev_gT3, ev_gnil, ev_gcons, ev_gcons1, ev_iseq, ev_iseqT, ev_iseqL, ev_iseqO, ev_r1, ev_r2, ev_lrg1, ev_sl, ev_sl1, ev_sl3, ev_sl4, ev_on, ev_os, ev_os1, ev_slT, ev_slL, ev_slO, ev_r3, ix_t0, ix_t1, ix_t2, en_pair, en_int, wipeM, List.map_cons, List.map_nil, List.length_cons, List.length_nil, List.replicate_succ, List.replicate_zero, List.cons_append, List.nil_append, List.append_nil, List.set_cons_zero, List.set_cons_succ, Nat.reduceAdd, Nat.reduceSub, Nat.zero_add, if_true, if_false, reduceIte, Int.reduceEq, Int.reduceLT, Int.reduceLE, Bool.false_eq_true, decide_true, decide_false, Bool.not_true, Bool.not_false, List.getElem?_cons_zero, List.getElem?_cons_succ, c1, web_ix0]
    rw [sort_ties (l := l) rfl, se]
    simp only [ev_seq, ev_seqN, ev_seqR, ev_seqB, ev_seqC, ev_seqE, ev_nil, ev_brk, ev_cnt, ev_retN, ev_expr, ev_expr1, ev_ret, ev_ret1, ev_if, ev_ifT, ev_ifF, ev_asg, ev_asg1, ev_asg2, ev_par, ev_par1, ev_def, ev_defR, ev_defN, ev_var0, ev_varS, ev_k, ev_anil, ev_acons, ev_acons1, ev_acons2, ev_tup, ev_tup_0, ev_tup_1, ev_tup_2, ev_tup_3, ev_lst, ev_lst_0, ev_lst_1, ev_lst_2, ev_lst_3, ev_mkT, ev_mkF, ev_bin, ev_bin1, ev_bin2, ev_un, ev_un1, ev_add, ev_addT, ev_addL, ev_sub, ev_neg, ev_lt, ev_le, ev_gt, ev_ge, ev_eqI, ev_neI, ev_eqB, ev_neB, ev_eqS, ev_neS, ev_and, ev_andT, ev_andF, ev_or, ev_orT, ev_orF, ev_not, ev_not1, ev_tnot, ev_tnot1, ev_tand, ev_tandT, ev_tandF, ev_tor, ev_torT, ev_torF, ev_tb, ev_tb1, ev_yes, ev_ife, ev_ifeT, ev_ifeF, ev_ch, ev_ch1, ev_ch2, ev_ch3T, ev_ch3F, ev_ch4, ev_is, ev_isB, ev_notN, ev_call, ev_call1, ev_own, ev_own_1, ev_own_2, ev_own_3, ev_own_4, ev_own_5, ev_ownK, ev_ownK_1, ev_ownK_01, ev_ownK_10, ev_lenT, ev_lenL, ev_lenO, ev_int, ev_intB, ev_abs, ev_min, ev_max, ev_tupT, ev_tupL, ev_listT, ev_listL, ev_meth, ev_meth2, ev_gN, ev_set, ev_set1, ev_gT, ev_gT2, ev_gT3, ev_gnil, ev_gcons, ev_gcons1, ev_iseq, ev_iseqT, ev_iseqL, ev_iseqO, ev_r1, ev_r2, ev_lrg1, ev_sl, ev_sl1, ev_sl3, ev_sl4, ev_on, ev_os, ev_os1, ev_slT, ev_slL, ev_slO, ev_r3, ix_t0, ix_t1, ix_t2, en_pair, en_int, wipeM, List.map_cons, List.map_nil, List.length_cons, List.length_nil, List.replicate_succ, List.replicate_zero, List.cons_append, List.nil_append, List.append_nil, List.set_cons_zero, List.set_cons_succ, Nat.reduceAdd, Nat.reduceSub, Nat.zero_add, if_true, if_false, reduceIte, Int.reduceEq, Int.reduceLT, Int.reduceLE, Bool.false_eq_true, decide_true, decide_false, Bool.not_true, Bool.not_false, List.getElem?_cons_zero, List.getElem?_cons_succ, web_eq]
    rfl
theorem pairs_of_range {n : Int} {h : MH} (hn0 : 0 ≤ n) (hn : n ≤ 100) : f__law_pairs [.tmp ((irg 0 n).map M.int)] h = .ok (.tmp ((pairsL n).map en)) h := by
  rw [pairs_spec (by rw [irg_length]; omega), pairsOf_pairsL]
theorem sides_spec {n m : Int} {h : MH} (hn0 : 0 ≤ n) (hn : n ≤ 100) : ∃ A, f__law_two_sides [.int n, .int m] h = .ok (web n A) h := by
  refine ⟨fun a b => decide (a < m) && decide (m ≤ b), cloF_val (h' := []) (by simp [cloL, clo]) ?_ (web_clo _ _)⟩
  have hcg : cRg 0 n = true := cRg_yes (by omega) (by omega) (by omega) (by omega) (by omega)
  have c1 : mLc false (iSeq (mOwn 1 f__law_pairs (aCons (mLrg1 false (mVar 0)) aNil))) (gN 3) C1__law_two_sides (mVar 3) [3] [some (.int n), some (.int m), none, none] [] = .ok (.tmp ((canon n fun a b => decide (a < m) && decide (m ≤ b)).map en)) [] := by
    refine (mLc_pure (as := pairsL n) en (fun t => decide (t.1 < m) && decide (m ≤ t.2)) en ?_ ?_ (Nat.le_trans (pairsL_len hn) (by decide))).trans rfl
    · simp only [ev_seq, ev_seqN, ev_seqR, ev_seqB, ev_seqC, ev_seqE, ev_nil, ev_brk, ev_cnt, ev_retN, ev_expr, ev_expr1, ev_ret, ev_ret1, ev_if, ev_ifT, ev_ifF, ev_asg, ev_asg1, ev_asg2, ev_par, ev_par1, ev_def, ev_defR, ev_defN, ev_var0, ev_varS, ev_k, ev_anil, ev_acons, ev_acons1, ev_acons2, ev_tup, ev_tup_0, ev_tup_1, ev_tup_2, ev_tup_3, ev_lst, ev_lst_0, ev_lst_1, ev_lst_2, ev_lst_3, ev_mkT, ev_mkF, ev_bin, ev_bin1, ev_bin2, ev_un, ev_un1, ev_add, ev_addT, ev_addL, ev_sub, ev_neg, ev_lt, ev_le, ev_gt, ev_ge, ev_eqI, ev_neI, ev_eqB, ev_neB, ev_eqS, ev_neS, ev_and, ev_andT, ev_andF, ev_or, ev_orT, ev_orF, ev_not, ev_not1, ev_tnot, ev_tnot1, ev_tand, ev_tandT, ev_tandF, ev_tor, ev_torT, ev_torF, ev_tb, ev_tb1, ev_yes, ev_ife, ev_ifeT, ev_ifeF, ev_ch, ev_ch1, ev_ch2, ev_ch3T, ev_ch3F, ev_ch4, ev_is, ev_isB, ev_notN, ev_call, ev_call1, ev_own, ev_own_1, ev_own_2, ev_own_3, ev_own_4, ev_own_5, ev_ownK, ev_ownK_1, ev_ownK_01, ev_ownK_10, ev_lenT, ev_lenL, ev_lenO, ev_int, ev_intB, ev_abs, ev_min, ev_max, ev_tupT, ev_tupL, ev_listT, ev_listL, ev_meth, ev_meth2, ev_gN, ev_set, ev_set1, ev_gT, ev_gT2, ev_gT3, ev_gnil, ev_gcons, ev_gcons1, ev_iseq, ev_iseqT, ev_iseqL, ev_iseqO, ev_r1, ev_r2, ev_lrg1, ev_sl, ev_sl1, ev_sl3, ev_sl4, ev_on, ev_os, ev_os1, ev_slT, ev_slL, ev_slO, ev_r3, ix_t0, ix_t1, ix_t2, en_pair, en_int, wipeM, List.map_cons, List.map_nil, List.length_cons, List.length_nil, List.replicate_succ, List.replicate_zero, List.cons_append, List.nil_append, List.append_nil, List.set_cons_zero, List.set_cons_succ, Nat.reduceAdd, Nat.reduceSub, Nat.zero_add, if_true, if_false, reduceIte, Int.reduceEq, Int.reduceLT, Int.reduceLE, Bool.false_eq_true, decide_true, decide_false, Bool.not_true, Bool.not_false, List.getElem?_cons_zero, List.getElem?_cons_succ, ev_lrg1', hcg, pairs_of_range hn0 hn]
    · rintro ⟨a, b⟩ _
      refine ⟨_, by simp only [ev_seq, ev_seqN, ev_seqR, ev_seqB, ev_seqC, ev_seqE, ev_nil, ev_brk, ev_cnt, ev_retN, ev_expr, ev_expr1, ev_ret, ev_ret1, ev_if, ev_ifT, ev_ifF, ev_asg, ev_asg1, ev_asg2, ev_par, ev_par1, ev_def, ev_defR, ev_defN, ev_var0, ev_varS, ev_k, ev_anil, ev_acons, ev_acons1, ev_acons2, ev_tup, ev_tup_0, ev_tup_1, ev_tup_2, ev_tup_3, ev_lst, ev_lst_0, ev_lst_1, ev_lst_2, ev_lst_3, ev_mkT, ev_mkF, ev_bin, ev_bin1, ev_bin2, ev_un, ev_un1, ev_add, ev_addT, ev_addL, ev_sub, ev_neg, ev_lt, ev_le, ev_gt, ev_ge, ev_eqI, ev_neI, ev_eqB, ev_neB, ev_eqS, ev_neS, ev_and, ev_andT, ev_andF, ev_or, ev_orT, ev_orF, ev_not, ev_not1, ev_tnot, ev_tnot1, ev_tand, ev_tandT, ev_tandF, ev_tor, ev_torT, ev_torF, ev_tb, ev_tb1, ev_yes, ev_ife, ev_ifeT, ev_ifeF, ev_ch, ev_ch1, ev_ch2, ev_ch3T, ev_ch3F, ev_ch4, ev_is, ev_isB, ev_notN, ev_call, ev_call1, ev_own, ev_own_1, ev_own_2, ev_own_3, ev_own_4, ev_own_5, ev_ownK, ev_ownK_1, ev_ownK_01, ev_ownK_10, ev_lenT, ev_lenL, ev_lenO, ev_int, ev_intB, ev_abs, ev_min, ev_max, ev_tupT, ev_tupL, ev_listT, ev_listL, ev_meth, ev_meth2, ev_gN, ev_set, ev_set1, ev_gT, ev_gT2, ev_gT3, ev_gnil, ev_gcons, ev_gcons1, ev_iseq, ev_iseqT, ev_iseqL, ev_iseqO, ev_r1, ev_r2, ev_lrg1, ev_sl, ev_sl1, ev_sl3, ev_sl4, ev_on, ev_os, ev_os1, ev_slT, ev_slL, ev_slO, ev_r3, ix_t0, ix_t1, ix_t2, en_pair, en_int, wipeM, List.map_cons, List.map_nil, List.length_cons, List.length_nil, List.replicate_succ, List.replicate_zero, List.cons_append, List.nil_append, List.append_nil, List.set_cons_zero, List.set_cons_succ, Nat.reduceAdd, Nat.reduceSub, Nat.zero_add, if_true, if_false, reduceIte, Int.reduceEq, Int.reduceLT, Int.reduceLE, Bool.false_eq_true, decide_true, decide_false, Bool.not_true, Bool.not_false, List.getElem?_cons_zero, List.getElem?_cons_succ] <;> rfl, ?_, fun _ => by simp only [ev_seq, ev_seqN, ev_seqR, ev_seqB, ev_seqC, ev_seqE, ev_nil, ev_brk, ev_cnt, ev_retN, ev_expr, ev_expr1, ev_ret, ev_ret1, ev_if, ev_ifT, ev_ifF, ev_asg, ev_asg1, ev_asg2, ev_par, ev_par1, ev_def, ev_defR, ev_defN, ev_var0, ev_varS, ev_k, ev_anil, ev_acons, ev_acons1, ev_acons2, ev_tup, ev_tup_0, ev_tup_1, ev_tup_2, ev_tup_3, ev_lst, ev_lst_0, ev_lst_1, ev_lst_2, ev_lst_3, ev_mkT, ev_mkF, ev_bin, ev_bin1, ev_bin2, ev_un, ev_un1, ev_add, ev_addT, ev_addL, ev_sub, ev_neg, ev_lt, ev_le, ev_gt, ev_ge, ev_eqI, ev_neI, ev_eqB, ev_neB, ev_eqS, ev_neS, ev_and, ev_andT, ev_andF, ev_or, ev_orT, ev_orF, ev_not, ev_not1, ev_tnot, ev_tnot1, ev_tand, ev_tandT, ev_tandF, ev_tor, ev_torT, ev_torF, ev_tb, ev_tb1, ev_yes, ev_ife, ev_ifeT, ev_ifeF, ev_ch, ev_ch1, ev_ch2, ev_ch3T, ev_ch3F, ev_ch4, ev_is, ev_isB, ev_notN, ev_call, ev_call1, ev_own, ev_own_1, ev_own_2, ev_own_3, ev_own_4, ev_own_5, ev_ownK, ev_ownK_1, ev_ownK_01, ev_ownK_10, ev_lenT, ev_lenL, ev_lenO, ev_int, ev_intB, ev_abs, ev_min, ev_max, ev_tupT, ev_tupL, ev_listT, ev_listL, ev_meth, ev_meth2, ev_gN, ev_set, ev_set1, ev_gT, ev_gT2, ev_gT3, ev_gnil, ev_gcons, ev_gcons1, ev_iseq, ev_iseqT, ev_iseqL, ev_iseqO, ev_r1, ev_r2, ev_lrg1, ev_sl, ev_sl1, ev_sl3, ev_sl4, ev_on, ev_os, ev_os1, ev_slT, ev_slL, ev_slO, ev_r3, ix_t0, ix_t1, ix_t2, en_pair, en_int, wipeM, List.map_cons, List.map_nil, List.length_cons, List.length_nil, List.replicate_succ, List.replicate_zero, List.cons_append, List.nil_append, List.append_nil, List.set_cons_zero, List.set_cons_succ, Nat.reduceAdd, Nat.reduceSub, Nat.zero_add, if_true, if_false, reduceIte, Int.reduceEq, Int.reduceLT, Int.reduceLE, Bool.false_eq_true, decide_true, decide_false, Bool.not_true, Bool.not_false, List.getElem?_cons_zero, List.getElem?_cons_succ]⟩
      unfold C1__law_two_sides
      simp only [ev_seq, ev_seqN, ev_seqR, ev_seqB, ev_seqC, ev_seqE, ev_nil, ev_brk, ev_cnt, ev_retN, ev_expr, ev_expr1, ev_ret, ev_ret1, ev_if, ev_ifT, ev_ifF, ev_asg, ev_asg1, ev_asg2, ev_par, ev_par1, ev_def, ev_defR, ev_defN, ev_var0, ev_varS, ev_k, ev_anil, ev_acons, ev_acons1, ev_acons2, ev_tup, ev_tup_0, ev_tup_1, ev_tup_2, ev_tup_3, ev_lst, ev_lst_0, ev_lst_1, ev_lst_2, ev_lst_3, ev_mkT, ev_mkF, ev_bin, ev_bin1, ev_bin2, ev_un, ev_un1, ev_add, ev_addT, ev_addL, ev_sub, ev_neg, ev_lt, ev_le, ev_gt, ev_ge, ev_eqI, ev_neI, ev_eqB, ev_neB, ev_eqS, ev_neS, ev_and, ev_andT, ev_andF, ev_or, ev_orT, ev_orF, ev_not, ev_not1, ev_tnot, ev_tnot1, ev_tand, ev_tandT, ev_tandF, ev_tor, ev_torT, ev_torF, ev_tb, ev_tb1, ev_yes, ev_ife, ev_ifeT, ev_ifeF, ev_ch, ev_ch1, ev_ch2, ev_ch3T, ev_ch3F, ev_ch4, ev_is, ev_isB, ev_notN, ev_call, ev_call1, ev_own, ev_own_1, ev_own_2, ev_own_3, ev_own_4, ev_own_5, ev_ownK, ev_ownK_1, ev_ownK_01, ev_ownK_10, ev_lenT, ev_lenL, ev_lenO, ev_int, ev_intB, ev_abs, ev_min, ev_max, ev_tupT, ev_tupL, ev_listT, ev_listL, ev_meth, ev_meth2, ev_gN, ev_set, ev_set1, ev_gT, ev_gT2, ev_gT3, ev_gnil, ev_gcons, ev_gcons1, ev_iseq, ev_iseqT, ev_iseqL, ev_iseqO, ev_r1, ev_r2, ev_lrg1, ev_sl, ev_sl1, ev_sl3, ev_sl4, ev_on, ev_os, ev_os1, ev_slT, ev_slL, ev_slO, ev_r3, ix_t0, ix_t1, ix_t2, en_pair, en_int, wipeM, List.map_cons, List.map_nil, List.length_cons, List.length_nil, List.replicate_succ, List.replicate_zero, List.cons_append, List.nil_append, List.append_nil, List.set_cons_zero, List.set_cons_succ, Nat.reduceAdd, Nat.reduceSub, Nat.zero_add, if_true, if_false, reduceIte, Int.reduceEq, Int.reduceLT, Int.reduceLE, Bool.false_eq_true, decide_true, decide_false, Bool.not_true, Bool.not_false, List.getElem?_cons_zero, List.getElem?_cons_succ]
      cases q : decide (a < m) with
      | true => simp only [ev_seq, ev_seqN, ev_seqR, ev_seqB, ev_seqC, ev_seqE, ev_nil, ev_brk, ev_cnt, ev_retN, ev_expr, ev_expr1, ev_ret, ev_ret1, ev_if, ev_ifT, ev_ifF, ev_asg, ev_asg1, ev_asg2, ev_par, ev_par1, ev_def, ev_defR, ev_defN, ev_var0, ev_varS, ev_k, ev_anil, ev_acons, ev_acons1, ev_acons2, ev_tup, ev_tup_0, ev_tup_1, ev_tup_2, ev_tup_3, ev_lst, ev_lst_0, ev_lst_1, ev_lst_2, ev_lst_3, ev_mkT, ev_mkF, ev_bin, ev_bin1, ev_bin2, ev_un, ev_un1, ev_add, ev_addT, ev_addL, ev_sub, ev_neg, ev_lt, ev_le, ev_gt, ev_ge, ev_eqI, ev_neI, ev_eqB, ev_neB, ev_eqS, ev_neS, ev_and, ev_andT, ev_andF, ev_or, ev_orT, ev_orF, ev_not, ev_not1, ev_tnot, ev_tnot1, ev_tand, ev_tandT, ev_tandF, ev_tor, ev_torT, ev_torF, ev_tb, ev_tb1, ev_yes, ev_ife, ev_ifeT, ev_ifeF, ev_ch, ev_ch1, ev_ch2, ev_ch3T, ev_ch3F, ev_ch4, ev_is, ev_isB, ev_notN, ev_call, ev_call1, ev_own, ev_own_1, ev_own_2, ev_own_3, ev_own_4, ev_own_5, ev_ownK, ev_ownK_1, ev_ownK_01, ev_ownK_10, ev_lenT, ev_lenL, ev_lenO, ev_int, ev_intB, ev_abs, ev_min, ev_max, ev_tupT, ev_tupL, ev_listT, ev_listL, ev_meth, ev_meth2, ev_gN, ev_set, ev_set1, ev_gT, ev_gT2, ev_gT3, ev_gnil, ev_gcons, ev_gcons1, ev_iseq, ev_iseqT, ev_iseqL, ev_iseqO, ev_r1, ev_r2, ev_lrg1, ev_sl, ev_sl1, ev_sl3, ev_sl4, ev_on, ev_os, ev_os1, ev_slT, ev_slL, ev_slO, ev_r3, ix_t0, ix_t1, ix_t2, en_pair, en_int, wipeM, List.map_cons, List.map_nil, List.length_cons, List.length_nil, List.replicate_succ, List.replicate_zero, List.cons_append, List.nil_append, List.append_nil, List.set_cons_zero, List.set_cons_succ, Nat.reduceAdd, Nat.reduceSub, Nat.zero_add, if_true, if_false, reduceIte, Int.reduceEq, Int.reduceLT, Int.reduceLE, Bool.false_eq_true, decide_true, decide_false, Bool.not_true, Bool.not_false, List.getElem?_cons_zero, List.getElem?_cons_succ, Bool.true_and]
      | false => simp only [ev_seq, ev_seqN, ev_seqR, ev_seqB, ev_seqC, ev_seqE, ev_nil, ev_brk, ev_cnt, ev_retN, ev_expr, ev_expr1, ev_ret, ev_ret1, ev_if, ev_ifT, ev_ifF, ev_asg, ev_asg1, ev_asg2, ev_par, ev_par1, ev_def, ev_defR, ev_defN, ev_var0, ev_varS, ev_k, ev_anil, ev_acons, ev_acons1, ev_acons2, ev_tup, ev_tup_0, ev_tup_1, ev_tup_2, ev_tup_3, ev_lst, ev_lst_0, ev_lst_1, ev_lst_2, ev_lst_3, ev_mkT, ev_mkF, ev_bin, ev_bin1, ev_bin2, ev_un, ev_un1, ev_add, ev_addT, ev_addL, ev_sub, ev_neg, ev_lt, ev_le, ev_gt, ev_ge, ev_eqI, ev_neI, ev_eqB, ev_neB, ev_eqS, ev_neS, ev_and, ev_andT, ev_andF, ev_or, ev_orT, ev_orF, ev_not, ev_not1, ev_tnot, ev_tnot1, ev_tand, ev_tandT, ev_tandF, ev_tor, ev_torT, ev_torF, ev_tb, ev_tb1, ev_yes, ev_ife, ev_ifeT, ev_ifeF, ev_ch, ev_ch1, ev_ch2, ev_ch3T, ev_ch3F, ev_ch4, ev_is, ev_isB, ev_notN, ev_call, ev_call1, ev_own, ev_own_1, ev_own_2, ev_own_3, ev_own_4, ev_own_5, ev_ownK, ev_ownK_1, ev_ownK_01, ev_ownK_10, ev_lenT, ev_lenL, ev_lenO, ev_int, ev_intB, ev_abs, ev_min, ev_max, ev_tupT, ev_tupL, ev_listT, ev_listL, ev_meth, ev_meth2, ev_gN, ev_set, ev_set1, ev_gT, ev_gT2, ev_gT3, ev_gnil, ev_gcons, ev_gcons1, ev_iseq, ev_iseqT, ev_iseqL, ev_iseqO, ev_r1, ev_r2, ev_lrg1, ev_sl, ev_sl1, ev_sl3, ev_sl4, ev_on, ev_os, ev_os1, ev_slT, ev_slL, ev_slO, ev_r3, ix_t0, ix_t1, ix_t2, en_pair, en_int, wipeM, List.map_cons, List.map_nil, List.length_cons, List.length_nil, List.replicate_succ, List.replicate_zero, List.cons_append, List.nil_append, List.append_nil, List.set_cons_zero, List.set_cons_succ, Nat.reduceAdd, Nat.reduceSub, Nat.zero_add, if_true, if_false, reduceIte, Int.reduceEq, Int.reduceLT, Int.reduceLE, Bool.false_eq_true, decide_true, decide_false, Bool.not_true, Bool.not_false, List.getElem?_cons_zero, List.getElem?_cons_succ, Bool.false_and]
  unfold F__law_two_sides
  simp only [ev_seq, ev_seqN, ev_seqR, ev_seqB, ev_seqC, ev_seqE, ev_nil, ev_brk, ev_cnt, ev_retN, ev_expr, ev_expr1, ev_ret, ev_ret1, ev_if, ev_ifT, ev_ifF, ev_asg, ev_asg1, ev_asg2, ev_par, ev_par1, ev_def, ev_defR, ev_defN, ev_var0, ev_varS, ev_k, ev_anil, ev_acons, ev_acons1, ev_acons2, ev_tup, ev_tup_0, ev_tup_1, ev_tup_2, ev_tup_3, ev_lst, ev_lst_0, ev_lst_1, ev_lst_2, ev_lst_3, ev_mkT, ev_mkF, ev_bin, ev_bin1, ev_bin2, ev_un, ev_un1, ev_add, ev_addT, ev_addL, ev_sub, ev_neg, ev_lt, ev_le, ev_gt, ev_ge, ev_eqI, ev_neI, ev_eqB, ev_neB, ev_eqS, ev_neS, ev_and, ev_andT, ev_andF, ev_or, ev_orT, ev_orF, ev_not, ev_not1, ev_tnot, ev_tnot1, ev_tand, ev_tandT, ev_tandF, ev_tor, ev_torT, ev_torF, ev_tb, ev_tb1, ev_yes, ev_ife, ev_ifeT, ev_ifeF, ev_ch, ev_ch1, ev_ch2, ev_ch3T, ev_ch3F, ev_ch4, ev_is, ev_isB, ev_notN, ev_call, ev_call1, ev_own, ev_own_1, ev_own_2, ev_own_3, ev_own_4, ev_own_5, ev_ownK, ev_ownK_1, ev_ownK_01, ev_ownK_10, ev_lenT, ev_lenL, ev_lenO, ev_int, ev_intB, ev_abs, ev_min, ev_max, ev_tupT, ev_tupL, ev_listT, ev_listL, ev_meth, ev_meth2, ev_gN, ev_set, ev_set1, ev_gT, ev_gT2, ev_gT3, ev_gnil, ev_gcons, ev_gcons1, ev_iseq, ev_iseqT, ev_iseqL, ev_iseqO, ev_r1, ev_r2, ev_lrg1, ev_sl, ev_sl1, ev_sl3, ev_sl4, ev_on, ev_os, ev_os1, ev_slT, ev_slL, ev_slO, ev_r3, ix_t0, ix_t1, ix_t2, en_pair, en_int, wipeM, List.map_cons, List.map_nil, List.length_cons, List.length_nil, List.replicate_succ, List.replicate_zero, List.cons_append, List.nil_append, List.append_nil, List.set_cons_zero, List.set_cons_succ, Nat.reduceAdd, Nat.reduceSub, Nat.zero_add, if_true, if_false, reduceIte, Int.reduceEq, Int.reduceLT, Int.reduceLE, Bool.false_eq_true, decide_true, decide_false, Bool.not_true, Bool.not_false, List.getElem?_cons_zero, List.getElem?_cons_succ, c1, web_eq]
  rfl
end Tb.K19

set_option Elab.async false
set_option linter.all false
set_option maxRecDepth 100000
namespace Tb.K19
open PySem L2
open En (en da)

theorem irg_take (lo hi : Int) (k : Nat) (h : lo + k ≤ hi) : (irg lo hi).take k = irg lo (lo + k) := by
  unfold irg
  rw [← List.map_take, List.take_range]
  have e : min k (hi - lo).toNat = (lo + k - lo).toNat := by omega
  rw [e]
theorem pairsOf_sorted (lo hi : Int) : (pairsOf (irg lo hi)).Pairwise ltP ∧ ∀ t ∈ pairsOf (irg lo hi), lo ≤ t.1 ∧ t.1 < t.2 ∧ t.2 < hi := by
  rw [pairsOf_irg]
  refine ⟨?_, fun t ht => ?_⟩
  · rw [List.pairwise_flatMap]
    refine ⟨fun a _ => ?_, (irg_sorted lo hi).imp fun {a b} hab x hx y hy => ?_⟩
    · rw [List.pairwise_map]
      exact (irg_sorted _ _).imp fun h => .inr ⟨rfl, h⟩
    · obtain ⟨u, _, rfl⟩ := List.mem_map.mp hx
      obtain ⟨v, _, rfl⟩ := List.mem_map.mp hy
      exact .inl hab
  · obtain ⟨a, ha, ht⟩ := List.mem_flatMap.mp ht
    obtain ⟨b, hb, rfl⟩ := List.mem_map.mp ht
    rw [mem_irg] at ha hb
    exact ⟨ha.1, by show a < b; omega, hb.2⟩
def wayL (n : Int) : List Tie := (irg 0 (n - 1)).map fun i => (i, i + 1)
theorem wayL_sorted (n : Int) : (wayL n).Pairwise ltP := by
  unfold wayL
  rw [List.pairwise_map]
  exact (irg_sorted _ _).imp fun h => .inl h
theorem wayL_in (n : Int) : ∀ t ∈ wayL n, 0 ≤ t.1 ∧ t.2 = t.1 + 1 ∧ t.2 < n := fun t ht => by
  obtain ⟨i, hi, rfl⟩ := List.mem_map.mp ht
  rw [mem_irg] at hi
  exact ⟨hi.1, rfl, by show i + 1 < n; omega⟩
theorem web_sort {n : Int} {l : List Tie} (h : l.Nodup) (hr : ∀ t ∈ l, 0 ≤ t.1 ∧ t.1 < t.2 ∧ t.2 < n) : ∃ A, (M.tup [.int n, .tup ((l.mergeSort leP).map en)]) = web n A := by
  refine ⟨fun a b => decide ((a, b) ∈ l), ?_⟩
  have se : l.mergeSort leP = canon n fun a b => decide ((a, b) ∈ l) := sort_eq h (canon_sorted _ _) fun t => by
    rw [mem_canon]
    exact ⟨fun ht => ⟨(hr t ht).1, (hr t ht).2.1, (hr t ht).2.2, by simpa using ht⟩, fun ⟨_, _, _, ht⟩ => by simpa using ht⟩
  rw [se]
  rfl
theorem two_step {n : Int} (hn0 : 1 ≤ n) (hn : n ≤ 100) {b : Bag} {v x2 x3 x4 x5 : Option M} :
    ∃ l : List Tie, (l.Pairwise ltP ∧ ∀ t ∈ l, 0 ≤ t.1 ∧ t.1 < t.2 ∧ t.2 < n) ∧ mLc false (iRange3 (aCons (mK (.int 0)) (aCons (mBin subM (mVar 1) (mK (.int 1))) (aCons (mK (.int 2)) aNil)))) (gN 6) ttYes E1__law_told_web [6] [v, some (.int n), x2, x3, x4, x5, none] (bagR b []) = .ok (.tmp (l.map en)) (bagR b []) := by
  have sz : Builtin.Range.rangeSize 0 (n - 1) 2 = if 0 < n - 1 then (n - 1 - 0 - 1) / 2 + 1 else 0 := rfl
  have hk : 0 ≤ Builtin.Range.rangeSize 0 (n - 1) 2 ∧ 2 * Builtin.Range.rangeSize 0 (n - 1) 2 ≤ n := by
    rw [sz]
    by_cases h : 0 < n - 1
    · rw [if_pos h]; omega
    · rw [if_neg h]; omega
  have hs : cStep 0 (n - 1) 2 = true := by
    unfold cStep
    have : Builtin.Range.small 0 (n - 1) 2 = true := by
      unfold Builtin.Range.small
      simp [Builtin.Range.rangeFitsLong]
      omega
    simp [this, hk.1]
  refine ⟨(List.range (Builtin.Range.rangeSize 0 (n - 1) 2).toNat).map fun i : Nat => ((0 + (i : Int) * 2, 0 + (i : Int) * 2 + 1) : Tie), ⟨?_, fun t ht => ?_⟩, ?_⟩
  · rw [List.pairwise_map]
    exact List.pairwise_lt_range.imp fun {a b} h => .inl (by show 0 + (a : Int) * 2 < 0 + (b : Int) * 2; omega)
  · obtain ⟨i, hi, rfl⟩ := List.mem_map.mp ht
    rw [List.mem_range] at hi
    exact ⟨by show 0 ≤ 0 + (i : Int) * 2; omega, by show 0 + (i : Int) * 2 < 0 + (i : Int) * 2 + 1; omega, by show 0 + (i : Int) * 2 + 1 < n; omega⟩
  · refine (mLc_all (as := List.range (Builtin.Range.rangeSize 0 (n - 1) 2).toNat) (fun i : Nat => .int (0 + (i : Int) * 2)) (fun i : Nat => en ((0 + (i : Int) * 2, 0 + (i : Int) * 2 + 1) : Tie)) ?_ ?_ ?_).trans ?_
    · simp only [ev_seq, ev_seqN, ev_seqR, ev_seqB, ev_seqC, ev_seqE, ev_nil, ev_brk, ev_cnt, ev_retN, ev_expr, ev_expr1, ev_ret, ev_ret1, ev_if, ev_ifT, ev_ifF, ev_asg, ev_asg1, ev_asg2, ev_par, ev_par1, ev_def, ev_defR, ev_defN, ev_var0, ev_varS, ev_k, ev_anil, ev_acons, ev_acons1, ev_acons2, ev_tup, ev_tup_0, ev_tup_1, ev_tup_2, ev_tup_3, ev_lst, ev_lst_0, ev_lst_1, ev_lst_2, ev_lst_3, ev_mkT, ev_mkF, ev_bin, ev_bin1, ev_bin2, ev_un, ev_un1, ev_add, ev_addT, ev_addL, ev_sub, ev_neg, ev_lt, ev_le, ev_gt, ev_ge, ev_eqI, ev_neI, ev_eqB, ev_neB, ev_eqS, ev_neS, ev_and, ev_andT, ev_andF, ev_or, ev_orT, ev_orF, ev_not, ev_not1, ev_tnot, ev_tnot1, ev_tand, ev_tandT, ev_tandF, ev_tor, ev_torT, ev_torF, ev_tb, ev_tb1, ev_yes, ev_ife, ev_ifeT, ev_ifeF, ev_ch, ev_ch1, ev_ch2, ev_ch3T, ev_ch3F, ev_ch4, ev_is, ev_isB, ev_notN, ev_call, ev_call1, ev_own, ev_own_1, ev_own_2, ev_own_3, ev_own_4, ev_own_5, ev_ownK, ev_ownK_1, ev_ownK_01, ev_ownK_10, ev_lenT, ev_lenL, ev_lenO, ev_int, ev_intB, ev_abs, ev_min, ev_max, ev_tupT, ev_tupL, ev_listT, ev_listL, ev_meth, ev_meth2, ev_gN, ev_set, ev_set1, ev_gT, ev_gT2, ev_gT3, ev_gnil, ev_gcons, ev_gcons1, ev_iseq, ev_iseqT, ev_iseqL, ev_iseqO, ev_r1, ev_r2, ev_lrg1, ev_sl, ev_sl1, ev_sl3, ev_sl4, ev_on, ev_os, ev_os1, ev_slT, ev_slL, ev_slO, ev_r3, ix_t0, ix_t1, ix_t2, en_pair, en_int, wipeM, List.map_cons, List.map_nil, List.length_cons, List.length_nil, List.replicate_succ, List.replicate_zero, List.cons_append, List.nil_append, List.append_nil, List.set_cons_zero, List.set_cons_succ, Nat.reduceAdd, Nat.reduceSub, Nat.zero_add, if_true, if_false, reduceIte, Int.reduceEq, Int.reduceLT, Int.reduceLE, Bool.false_eq_true, decide_true, decide_false, Bool.not_true, Bool.not_false, List.getElem?_cons_zero, List.getElem?_cons_succ]
      rw [r3_ok hs]
      rfl
    · intro i _
      refine ⟨_, by simp only [ev_seq, ev_seqN, ev_seqR, ev_seqB, ev_seqC, ev_seqE, ev_nil, ev_brk, ev_cnt, ev_retN, ev_expr, ev_expr1, ev_ret, ev_ret1, ev_if, ev_ifT, ev_ifF, ev_asg, ev_asg1, ev_asg2, ev_par, ev_par1, ev_def, ev_defR, ev_defN, ev_var0, ev_varS, ev_k, ev_anil, ev_acons, ev_acons1, ev_acons2, ev_tup, ev_tup_0, ev_tup_1, ev_tup_2, ev_tup_3, ev_lst, ev_lst_0, ev_lst_1, ev_lst_2, ev_lst_3, ev_mkT, ev_mkF, ev_bin, ev_bin1, ev_bin2, ev_un, ev_un1, ev_add, ev_addT, ev_addL, ev_sub, ev_neg, ev_lt, ev_le, ev_gt, ev_ge, ev_eqI, ev_neI, ev_eqB, ev_neB, ev_eqS, ev_neS, ev_and, ev_andT, ev_andF, ev_or, ev_orT, ev_orF, ev_not, ev_not1, ev_tnot, ev_tnot1, ev_tand, ev_tandT, ev_tandF, ev_tor, ev_torT, ev_torF, ev_tb, ev_tb1, ev_yes, ev_ife, ev_ifeT, ev_ifeF, ev_ch, ev_ch1, ev_ch2, ev_ch3T, ev_ch3F, ev_ch4, ev_is, ev_isB, ev_notN, ev_call, ev_call1, ev_own, ev_own_1, ev_own_2, ev_own_3, ev_own_4, ev_own_5, ev_ownK, ev_ownK_1, ev_ownK_01, ev_ownK_10, ev_lenT, ev_lenL, ev_lenO, ev_int, ev_intB, ev_abs, ev_min, ev_max, ev_tupT, ev_tupL, ev_listT, ev_listL, ev_meth, ev_meth2, ev_gN, ev_set, ev_set1, ev_gT, ev_gT2, ev_gT3, ev_gnil, ev_gcons, ev_gcons1, ev_iseq, ev_iseqT, ev_iseqL, ev_iseqO, ev_r1, ev_r2, ev_lrg1, ev_sl, ev_sl1, ev_sl3, ev_sl4, ev_on, ev_os, ev_os1, ev_slT, ev_slL, ev_slO, ev_r3, ix_t0, ix_t1, ix_t2, en_pair, en_int, wipeM, List.map_cons, List.map_nil, List.length_cons, List.length_nil, List.replicate_succ, List.replicate_zero, List.cons_append, List.nil_append, List.append_nil, List.set_cons_zero, List.set_cons_succ, Nat.reduceAdd, Nat.reduceSub, Nat.zero_add, if_true, if_false, reduceIte, Int.reduceEq, Int.reduceLT, Int.reduceLE, Bool.false_eq_true, decide_true, decide_false, Bool.not_true, Bool.not_false, List.getElem?_cons_zero, List.getElem?_cons_succ] <;> rfl, ?_⟩
      unfold E1__law_told_web
      simp only [ev_seq, ev_seqN, ev_seqR, ev_seqB, ev_seqC, ev_seqE, ev_nil, ev_brk, ev_cnt, ev_retN, ev_expr, ev_expr1, ev_ret, ev_ret1, ev_if, ev_ifT, ev_ifF, ev_asg, ev_asg1, ev_asg2, ev_par, ev_par1, ev_def, ev_defR, ev_defN, ev_var0, ev_varS, ev_k, ev_anil, ev_acons, ev_acons1, ev_acons2, ev_tup, ev_tup_0, ev_tup_1, ev_tup_2, ev_tup_3, ev_lst, ev_lst_0, ev_lst_1, ev_lst_2, ev_lst_3, ev_mkT, ev_mkF, ev_bin, ev_bin1, ev_bin2, ev_un, ev_un1, ev_add, ev_addT, ev_addL, ev_sub, ev_neg, ev_lt, ev_le, ev_gt, ev_ge, ev_eqI, ev_neI, ev_eqB, ev_neB, ev_eqS, ev_neS, ev_and, ev_andT, ev_andF, ev_or, ev_orT, ev_orF, ev_not, ev_not1, ev_tnot, ev_tnot1, ev_tand, ev_tandT, ev_tandF, ev_tor, ev_torT, ev_torF, ev_tb, ev_tb1, ev_yes, ev_ife, ev_ifeT, ev_ifeF, ev_ch, ev_ch1, ev_ch2, ev_ch3T, ev_ch3F, ev_ch4, ev_is, ev_isB, ev_notN, ev_call, ev_call1, ev_own, ev_own_1, ev_own_2, ev_own_3, ev_own_4, ev_own_5, ev_ownK, ev_ownK_1, ev_ownK_01, ev_ownK_10, ev_lenT, ev_lenL, ev_lenO, ev_int, ev_intB, ev_abs, ev_min, ev_max, ev_tupT, ev_tupL, ev_listT, ev_listL, ev_meth, ev_meth2, ev_gN, ev_set, ev_set1, ev_gT, ev_gT2, ev_gT3, ev_gnil, ev_gcons, ev_gcons1, ev_iseq, ev_iseqT, ev_iseqL, ev_iseqO, ev_r1, ev_r2, ev_lrg1, ev_sl, ev_sl1, ev_sl3, ev_sl4, ev_on, ev_os, ev_os1, ev_slT, ev_slL, ev_slO, ev_r3, ix_t0, ix_t1, ix_t2, en_pair, en_int, wipeM, List.map_cons, List.map_nil, List.length_cons, List.length_nil, List.replicate_succ, List.replicate_zero, List.cons_append, List.nil_append, List.append_nil, List.set_cons_zero, List.set_cons_succ, Nat.reduceAdd, Nat.reduceSub, Nat.zero_add, if_true, if_false, reduceIte, Int.reduceEq, Int.reduceLT, Int.reduceLE, Bool.false_eq_true, decide_true, decide_false, Bool.not_true, Bool.not_false, List.getElem?_cons_zero, List.getElem?_cons_succ]
    · rw [List.length_range]
      exact Nat.le_trans (by omega : _ ≤ 100) (by decide)
    · rw [ev_mkF, List.map_map]; rfl
theorem told_spec {b : Bag} {n : Int} (ok : b.Ok) (hn0 : 1 ≤ n) (hn : n ≤ 100) : ∃ A b', b'.Ok ∧ f__law_told_web [.loc 1, .int n] (bagR b []) = .ok (web n A) (bagR b' []) := by
  have hcg : cRg 0 n = true := cRg_yes (by omega) (by omega) (by omega) (by omega) (by omega)
  have hc : ∀ i : Int, 0 ≤ i → i ≤ 200 → cR i = true := fun i a b => cR_ok (by omega) (by omega)
  obtain ⟨j, b1, o1, j0, j1, ej⟩ := draw_spec (k := 8) (rest := []) ok (by omega) (by omega) cloH_nil
  have c1 : mLc false (iRange1 (aCons (mBin subM (mVar 1) (mK (.int 1))) aNil)) (gN 6) ttYes E3__law_told_web [6] [some (.loc 1), some (.int n), some (.int j), some (.tmp ((irg 0 n).map M.int)), none, none, none] (bagR b1 []) = .ok (.tmp ((wayL n).map en)) (bagR b1 []) := by
    refine (mLc_all (as := irg 0 (n - 1)) M.int (fun i => en ((i, i + 1) : Tie)) (by simp only [ev_seq, ev_seqN, ev_seqR, ev_seqB, ev_seqC, ev_seqE, ev_nil, ev_brk, ev_cnt, ev_retN, ev_expr, ev_expr1, ev_ret, ev_ret1, ev_if, ev_ifT, ev_ifF, ev_asg, ev_asg1, ev_asg2, ev_par, ev_par1, ev_def, ev_defR, ev_defN, ev_var0, ev_varS, ev_k, ev_anil, ev_acons, ev_acons1, ev_acons2, ev_tup, ev_tup_0, ev_tup_1, ev_tup_2, ev_tup_3, ev_lst, ev_lst_0, ev_lst_1, ev_lst_2, ev_lst_3, ev_mkT, ev_mkF, ev_bin, ev_bin1, ev_bin2, ev_un, ev_un1, ev_add, ev_addT, ev_addL, ev_sub, ev_neg, ev_lt, ev_le, ev_gt, ev_ge, ev_eqI, ev_neI, ev_eqB, ev_neB, ev_eqS, ev_neS, ev_and, ev_andT, ev_andF, ev_or, ev_orT, ev_orF, ev_not, ev_not1, ev_tnot, ev_tnot1, ev_tand, ev_tandT, ev_tandF, ev_tor, ev_torT, ev_torF, ev_tb, ev_tb1, ev_yes, ev_ife, ev_ifeT, ev_ifeF, ev_ch, ev_ch1, ev_ch2, ev_ch3T, ev_ch3F, ev_ch4, ev_is, ev_isB, ev_notN, ev_call, ev_call1, ev_own, ev_own_1, ev_own_2, ev_own_3, ev_own_4, ev_own_5, ev_ownK, ev_ownK_1, ev_ownK_01, ev_ownK_10, ev_lenT, ev_lenL, ev_lenO, ev_int, ev_intB, ev_abs, ev_min, ev_max, ev_tupT, ev_tupL, ev_listT, ev_listL, ev_meth, ev_meth2, ev_gN, ev_set, ev_set1, ev_gT, ev_gT2, ev_gT3, ev_gnil, ev_gcons, ev_gcons1, ev_iseq, ev_iseqT, ev_iseqL, ev_iseqO, ev_r1, ev_r2, ev_lrg1, ev_sl, ev_sl1, ev_sl3, ev_sl4, ev_on, ev_os, ev_os1, ev_slT, ev_slL, ev_slO, ev_r3, ix_t0, ix_t1, ix_t2, en_pair, en_int, wipeM, List.map_cons, List.map_nil, List.length_cons, List.length_nil, List.replicate_succ, List.replicate_zero, List.cons_append, List.nil_append, List.append_nil, List.set_cons_zero, List.set_cons_succ, Nat.reduceAdd, Nat.reduceSub, Nat.zero_add, if_true, if_false, reduceIte, Int.reduceEq, Int.reduceLT, Int.reduceLE, Bool.false_eq_true, decide_true, decide_false, Bool.not_true, Bool.not_false, List.getElem?_cons_zero, List.getElem?_cons_succ, ev_r1', hc (n - 1) (by omega) (by omega)]) ?_ ?_).trans ?_
    · intro i _
      refine ⟨_, by simp only [ev_seq, ev_seqN, ev_seqR, ev_seqB, ev_seqC, ev_seqE, ev_nil, ev_brk, ev_cnt, ev_retN, ev_expr, ev_expr1, ev_ret, ev_ret1, ev_if, ev_ifT, ev_ifF, ev_asg, ev_asg1, ev_asg2, ev_par, ev_par1, ev_def, ev_defR, ev_defN, ev_var0, ev_varS, ev_k, ev_anil, ev_acons, ev_acons1, ev_acons2, ev_tup, ev_tup_0, ev_tup_1, ev_tup_2, ev_tup_3, ev_lst, ev_lst_0, ev_lst_1, ev_lst_2, ev_lst_3, ev_mkT, ev_mkF, ev_bin, ev_bin1, ev_bin2, ev_un, ev_un1, ev_add, ev_addT, ev_addL, ev_sub, ev_neg, ev_lt, ev_le, ev_gt, ev_ge, ev_eqI, ev_neI, ev_eqB, ev_neB, ev_eqS, ev_neS, ev_and, ev_andT, ev_andF, ev_or, ev_orT, ev_orF, ev_not, ev_not1, ev_tnot, ev_tnot1, ev_tand, ev_tandT, ev_tandF, ev_tor, ev_torT, ev_torF, ev_tb, ev_tb1, ev_yes, ev_ife, ev_ifeT, ev_ifeF, ev_ch, ev_ch1, ev_ch2, ev_ch3T, ev_ch3F, ev_ch4, ev_is, ev_isB, ev_notN, ev_call, ev_call1, ev_own, ev_own_1, ev_own_2, ev_own_3, ev_own_4, ev_own_5, ev_ownK, ev_ownK_1, ev_ownK_01, ev_ownK_10, ev_lenT, ev_lenL, ev_lenO, ev_int, ev_intB, ev_abs, ev_min, ev_max, ev_tupT, ev_tupL, ev_listT, ev_listL, ev_meth, ev_meth2, ev_gN, ev_set, ev_set1, ev_gT, ev_gT2, ev_gT3, ev_gnil, ev_gcons, ev_gcons1, ev_iseq, ev_iseqT, ev_iseqL, ev_iseqO, ev_r1, ev_r2, ev_lrg1, ev_sl, ev_sl1, ev_sl3, ev_sl4, ev_on, ev_os, ev_os1, ev_slT, ev_slL, ev_slO, ev_r3, ix_t0, ix_t1, ix_t2, en_pair, en_int, wipeM, List.map_cons, List.map_nil, List.length_cons, List.length_nil, List.replicate_succ, List.replicate_zero, List.cons_append, List.nil_append, List.append_nil, List.set_cons_zero, List.set_cons_succ, Nat.reduceAdd, Nat.reduceSub, Nat.zero_add, if_true, if_false, reduceIte, Int.reduceEq, Int.reduceLT, Int.reduceLE, Bool.false_eq_true, decide_true, decide_false, Bool.not_true, Bool.not_false, List.getElem?_cons_zero, List.getElem?_cons_succ] <;> rfl, ?_⟩
      unfold E3__law_told_web
      simp only [ev_seq, ev_seqN, ev_seqR, ev_seqB, ev_seqC, ev_seqE, ev_nil, ev_brk, ev_cnt, ev_retN, ev_expr, ev_expr1, ev_ret, ev_ret1, ev_if, ev_ifT, ev_ifF, ev_asg, ev_asg1, ev_asg2, ev_par, ev_par1, ev_def, ev_defR, ev_defN, ev_var0, ev_varS, ev_k, ev_anil, ev_acons, ev_acons1, ev_acons2, ev_tup, ev_tup_0, ev_tup_1, ev_tup_2, ev_tup_3, ev_lst, ev_lst_0, ev_lst_1, ev_lst_2, ev_lst_3, ev_mkT, ev_mkF, ev_bin, ev_bin1, ev_bin2, ev_un, ev_un1, ev_add, ev_addT, ev_addL, ev_sub, ev_neg, ev_lt, ev_le, ev_gt, ev_ge, ev_eqI, ev_neI, ev_eqB, ev_neB, ev_eqS, ev_neS, ev_and, ev_andT, ev_andF, ev_or, ev_orT, ev_orF, ev_not, ev_not1, ev_tnot, ev_tnot1, ev_tand, ev_tandT, ev_tandF, ev_tor, ev_torT, ev_torF, ev_tb, ev_tb1, ev_yes, ev_ife, ev_ifeT, ev_ifeF, ev_ch, ev_ch1, ev_ch2, ev_ch3T, ev_ch3F, ev_ch4, ev_is, ev_isB, ev_notN, ev_call, ev_call1, ev_own, ev_own_1, ev_own_2, ev_own_3, ev_own_4, ev_own_5, ev_ownK, ev_ownK_1, ev_ownK_01, ev_ownK_10, ev_lenT, ev_lenL, ev_lenO, ev_int, ev_intB, ev_abs, ev_min, ev_max, ev_tupT, ev_tupL, ev_listT, ev_listL, ev_meth, ev_meth2, ev_gN, ev_set, ev_set1, ev_gT, ev_gT2, ev_gT3, ev_gnil, ev_gcons, ev_gcons1, ev_iseq, ev_iseqT, ev_iseqL, ev_iseqO, ev_r1, ev_r2, ev_lrg1, ev_sl, ev_sl1, ev_sl3, ev_sl4, ev_on, ev_os, ev_os1, ev_slT, ev_slL, ev_slO, ev_r3, ix_t0, ix_t1, ix_t2, en_pair, en_int, wipeM, List.map_cons, List.map_nil, List.length_cons, List.length_nil, List.replicate_succ, List.replicate_zero, List.cons_append, List.nil_append, List.append_nil, List.set_cons_zero, List.set_cons_succ, Nat.reduceAdd, Nat.reduceSub, Nat.zero_add, if_true, if_false, reduceIte, Int.reduceEq, Int.reduceLT, Int.reduceLE, Bool.false_eq_true, decide_true, decide_false, Bool.not_true, Bool.not_false, List.getElem?_cons_zero, List.getElem?_cons_succ]
    · rw [irg_length]; exact Nat.le_trans (by omega : _ ≤ 100) (by decide)
    · rw [ev_mkF, wayL, List.map_map]; rfl
  have wl : ((wayL n).map (en (α := Tie))).length ≤ 100 := by rw [List.length_map, wayL, List.length_map, irg_length]; omega
  have fin : ∀ r A, F__law_told_web [.loc 1, .int n] (bagR b []) = .ok r (bagR b1 []) → r = web n A → ∃ A b', b'.Ok ∧ f__law_told_web [.loc 1, .int n] (bagR b []) = .ok (web n A) (bagR b' []) := fun r A e er => by
    subst er
    exact ⟨A, b1, o1, bag_val0 e (web_clo _ _) cloH_nil⟩
  have last : ∀ (x2 x5 : Option M), ∃ A, sTup (sCons (.ok (.int n) (bagR b1 [])) (aCons (mCall tupleM (aCons (mLc false (iRange3 (aCons (mK (.int 0)) (aCons (mBin subM (mVar 1) (mK (.int 1))) (aCons (mK (.int 2)) aNil)))) (gN 6) ttYes E1__law_told_web [6]) aNil)) aNil)
      [some (.loc 1), some (.int n), x2, some (.tmp ((irg 0 n).map M.int)), some (.tmp ((wayL n).map en)), x5, none]) = .ok (web n A) (bagR b1 []) := fun x2 x5 => by
    obtain ⟨l, ⟨s1, s2⟩, e⟩ := two_step (v := some (.loc 1)) (x2 := x2) (x3 := some (.tmp ((irg 0 n).map M.int))) (x4 := some (.tmp ((wayL n).map en))) (x5 := x5) (b := b1) hn0 hn
    obtain ⟨A, eA⟩ := web_of s1 s2
    refine ⟨A, ?_⟩
    simp only [ev_seq, ev_seqN, ev_seqR, ev_seqB, ev_seqC, ev_seqE, ev_nil, ev_brk, ev_cnt, ev_retN, ev_expr, ev_expr1, ev_ret, ev_ret1, ev_if, ev_ifT, ev_ifF, ev_asg, ev_asg1, ev_asg2, ev_par, ev_par1, ev_def, ev_defR, ev_defN, ev_var0, ev_varS, ev_k, ev_anil, ev_acons, ev_acons1, ev_acons2, ev_tup, ev_tup_0, ev_tup_1, ev_tup_2, ev_tup_3, ev_lst, ev_lst_0, ev_lst_1, ev_lst_2, ev_lst_3, ev_mkT, ev_mkF, ev_bin, ev_bin1, ev_bin2, ev_un, ev_un1, ev_add, ev_addT, ev_addL, ev_sub, ev_neg, ev_lt, ev_le, ev_gt, ev_ge, ev_eqI, ev_neI, ev_eqB, ev_neB, ev_eqS, ev_neS, ev_and, ev_andT, ev_andF, ev_or, ev_orT, ev_orF, ev_not, ev_not1, ev_tnot, ev_tnot1, ev_tand, ev_tandT, ev_tandF, ev_tor, ev_torT, ev_torF, ev_tb, ev_tb1, ev_yes, ev_ife, ev_ifeT, ev_ifeF, ev_ch, ev_ch1, ev_ch2, ev_ch3T, ev_ch3F, ev_ch4, ev_is, ev_isB, ev_notN, ev_call, ev_call1, ev_own, ev_own_1, ev_own_2, ev_own_3, ev_own_4, ev_own_5, ev_ownK, ev_ownK_1, ev_ownK_01, ev_ownK_10, ev_lenT, ev_lenL, ev_lenO, ev_int, ev_intB, ev_abs, ev_min, ev_max, ev_tupT, ev_tupL, ev_listT, ev_listL, ev_meth, ev_meth2, ev_gN, ev_set, ev_set1, ev_gT, ev_gT2, ev_gT3, ev_gnil, ev_gcons, ev_gcons1, ev_iseq, ev_iseqT, ev_iseqL, ev_iseqO, ev_r1, ev_r2, ev_lrg1, ev_sl, ev_sl1, ev_sl3, ev_sl4, ev_on, ev_os, ev_os1, ev_slT, ev_slL, ev_slO, ev_r3, ix_t0, ix_t1, ix_t2, en_pair, en_int, wipeM, List.map_cons, List.map_nil, List.length_cons, List.length_nil, List.replicate_succ, List.replicate_zero, List.cons_append, List.nil_append, List.append_nil, List.set_cons_zero, List.set_cons_succ, Nat.reduceAdd, Nat.reduceSub, Nat.zero_add, if_true, if_false, reduceIte, Int.reduceEq, Int.reduceLT, Int.reduceLE, Bool.false_eq_true, decide_true, decide_false, Bool.not_true, Bool.not_false, List.getElem?_cons_zero, List.getElem?_cons_succ, e]
    rw [eA]
  have cases8 : j = 0 ∨ j = 1 ∨ j = 2 ∨ j = 3 ∨ j = 4 ∨ j = 5 ∨ j = 6 ∨ j = 7 := by omega
  rcases cases8 with rfl | rfl | rfl | rfl | rfl | rfl | rfl | rfl
  · obtain ⟨A, eA⟩ := web_of (n := n) (wayL_sorted n) (fun t ht => by have := wayL_in n t ht; omega)
    refine fin _ A ?_ eA
    unfold F__law_told_web
    simp only [ev_seq, ev_seqN, ev_seqR, ev_seqB, ev_seqC, ev_seqE, ev_nil, ev_brk, ev_cnt, ev_retN, ev_expr, ev_expr1, ev_ret, ev_ret1, ev_if, ev_ifT, ev_ifF, ev_asg, ev_asg1, ev_asg2, ev_par, ev_par1, ev_def, ev_defR, ev_defN, ev_var0, ev_varS, ev_k, ev_anil, ev_acons, ev_acons1, ev_acons2, ev_tup, ev_tup_0, ev_tup_1, ev_tup_2, ev_tup_3, ev_lst, ev_lst_0, ev_lst_1, ev_lst_2, ev_lst_3, ev_mkT, ev_mkF, ev_bin, ev_bin1, ev_bin2, ev_un, ev_un1, ev_add, ev_addT, ev_addL, ev_sub, ev_neg, ev_lt, ev_le, ev_gt, ev_ge, ev_eqI, ev_neI, ev_eqB, ev_neB, ev_eqS, ev_neS, ev_and, ev_andT, ev_andF, ev_or, ev_orT, ev_orF, ev_not, ev_not1, ev_tnot, ev_tnot1, ev_tand, ev_tandT, ev_tandF, ev_tor, ev_torT, ev_torF, ev_tb, ev_tb1, ev_yes, ev_ife, ev_ifeT, ev_ifeF, ev_ch, ev_ch1, ev_ch2, ev_ch3T, ev_ch3F, ev_ch4, ev_is, ev_isB, ev_notN, ev_call, ev_call1, ev_own, ev_own_1, ev_own_2, ev_own_3, ev_own_4, ev_own_5, ev_ownK, ev_ownK_1, ev_ownK_01, ev_ownK_10, ev_lenT, ev_lenL, ev_lenO, ev_int, ev_intB, ev_abs, ev_min, ev_max, ev_tupT, ev_tupL, ev_listT, ev_listL, ev_meth, ev_meth2, ev_gN, ev_set, ev_set1, ev_gT, ev_gT2, ev_gT3, ev_gnil, ev_gcons, ev_gcons1, ev_iseq, ev_iseqT, ev_iseqL, ev_iseqO, ev_r1, ev_r2, ev_lrg1, ev_sl, ev_sl1, ev_sl3, ev_sl4, ev_on, ev_os, ev_os1, ev_slT, ev_slL, ev_slO, ev_r3, ix_t0, ix_t1, ix_t2, en_pair, en_int, wipeM, List.map_cons, List.map_nil, List.length_cons, List.length_nil, List.replicate_succ, List.replicate_zero, List.cons_append, List.nil_append, List.append_nil, List.set_cons_zero, List.set_cons_succ, Nat.reduceAdd, Nat.reduceSub, Nat.zero_add, if_true, if_false, reduceIte, Int.reduceEq, Int.reduceLT, Int.reduceLE, Bool.false_eq_true, decide_true, decide_false, Bool.not_true, Bool.not_false, List.getElem?_cons_zero, List.getElem?_cons_succ, ej, ev_lrg1', hcg, c1]
  · by_cases h2 : 2 < n
    · have nd : (wayL n ++ [((0, n - 1) : Tie)]).Nodup := by
        rw [List.nodup_append]
        refine ⟨nodup_ltP (wayL_sorted n), by simp, fun a ha b hb e => ?_⟩
        rw [List.mem_singleton] at hb
        subst hb; subst e
        have := wayL_in n _ ha
        simp only at this
        omega
      obtain ⟨A, eA⟩ := web_sort (n := n) nd (fun t ht => by
        rcases List.mem_append.mp ht with q | q
        · have := wayL_in n t q; omega
        · rw [List.mem_singleton] at q; subst q; exact ⟨Int.le_refl 0, by show 0 < n - 1; omega, by show n - 1 < n; omega⟩)
      refine fin _ A ?_ eA
      unfold F__law_told_web
      have hd : decide (2 < n) = true := by simp [h2]
      have ea : addM false (.tmp ((wayL n).map en)) (.tmp [.tup [.int 0, .int (n - 1)]]) (bagR b1 []) = .ok (.tmp ((wayL n ++ [((0, n - 1) : Tie)]).map en)) (bagR b1 []) := by
        rw [ev_addL, if_pos (by rw [List.length_cons, List.length_nil]; exact Nat.le_trans (Nat.add_le_add_right wl 1) (by decide)), List.map_append]
        rfl
      simp only [ev_seq, ev_seqN, ev_seqR, ev_seqB, ev_seqC, ev_seqE, ev_nil, ev_brk, ev_cnt, ev_retN, ev_expr, ev_expr1, ev_ret, ev_ret1, ev_if, ev_ifT, ev_ifF, ev_asg, ev_asg1, ev_asg2, ev_par, ev_par1, ev_def, ev_defR, ev_defN, ev_var0, ev_varS, ev_k, ev_anil, ev_acons, ev_acons1, ev_acons2, ev_tup, ev_tup_0, ev_tup_1, ev_tup_2, ev_tup_3, ev_lst, ev_lst_0, ev_lst_1, ev_lst_2, ev_lst_3, ev_mkT, ev_mkF, ev_bin, ev_bin1, ev_bin2, ev_un, ev_un1, ev_add, ev_addT, ev_addL, ev_sub, ev_neg, ev_lt, ev_le, ev_gt, ev_ge, ev_eqI, ev_neI, ev_eqB, ev_neB, ev_eqS, ev_neS, ev_and, ev_andT, ev_andF, ev_or, ev_orT, ev_orF, ev_not, ev_not1, ev_tnot, ev_tnot1, ev_tand, ev_tandT, ev_tandF, ev_tor, ev_torT, ev_torF, ev_tb, ev_tb1, ev_yes, ev_ife, ev_ifeT, ev_ifeF, ev_ch, ev_ch1, ev_ch2, ev_ch3T, ev_ch3F, ev_ch4, ev_is, ev_isB, ev_notN, ev_call, ev_call1, ev_own, ev_own_1, ev_own_2, ev_own_3, ev_own_4, ev_own_5, ev_ownK, ev_ownK_1, ev_ownK_01, ev_ownK_10, ev_lenT, ev_lenL, ev_lenO, ev_int, ev_intB, ev_abs, ev_min, ev_max, ev_tupT, ev_tupL, ev_listT, ev_listL, ev_meth, ev_meth2, ev_gN, ev_set, ev_set1, ev_gT, ev_gT2, ev_gT3, ev_gnil, ev_gcons, ev_gcons1, ev_iseq, ev_iseqT, ev_iseqL, ev_iseqO, ev_r1, ev_r2, ev_lrg1, ev_sl, ev_sl1, ev_sl3, ev_sl4, ev_on, ev_os, ev_os1, ev_slT, ev_slL, ev_slO, ev_r3, ix_t0, ix_t1, ix_t2, en_pair, en_int, wipeM, List.map_cons, List.map_nil, List.length_cons, List.length_nil, List.replicate_succ, List.replicate_zero, List.cons_append, List.nil_append, List.append_nil, List.set_cons_zero, List.set_cons_succ, Nat.reduceAdd, Nat.reduceSub, Nat.zero_add, if_true, if_false, reduceIte, Int.reduceEq, Int.reduceLT, Int.reduceLE, Bool.false_eq_true, decide_true, decide_false, Bool.not_true, Bool.not_false, List.getElem?_cons_zero, List.getElem?_cons_succ, ej, ev_lrg1', hcg, c1, hd, ea]
      rw [sort_ties (l := wayL n ++ [((0, n - 1) : Tie)]) rfl]
      simp only [ev_seq, ev_seqN, ev_seqR, ev_seqB, ev_seqC, ev_seqE, ev_nil, ev_brk, ev_cnt, ev_retN, ev_expr, ev_expr1, ev_ret, ev_ret1, ev_if, ev_ifT, ev_ifF, ev_asg, ev_asg1, ev_asg2, ev_par, ev_par1, ev_def, ev_defR, ev_defN, ev_var0, ev_varS, ev_k, ev_anil, ev_acons, ev_acons1, ev_acons2, ev_tup, ev_tup_0, ev_tup_1, ev_tup_2, ev_tup_3, ev_lst, ev_lst_0, ev_lst_1, ev_lst_2, ev_lst_3, ev_mkT, ev_mkF, ev_bin, ev_bin1, ev_bin2, ev_un, ev_un1, ev_add, ev_addT, ev_addL, ev_sub, ev_neg, ev_lt, ev_le, ev_gt, ev_ge, ev_eqI, ev_neI, ev_eqB, ev_neB, ev_eqS, ev_neS, ev_and, ev_andT, ev_andF, ev_or, ev_orT, ev_orF, ev_not, ev_not1, ev_tnot, ev_tnot1, ev_tand, ev_tandT, ev_tandF, ev_tor, ev_torT, ev_torF, ev_tb, ev_tb1, ev_yes, ev_ife, ev_ifeT, ev_ifeF, ev_ch, ev_ch1, ev_ch2, ev_ch3T, ev_ch3F, ev_ch4, ev_is, ev_isB, ev_notN, ev_call, ev_call1, ev_own, ev_own_1, ev_own_2, ev_own_3, ev_own_4, ev_own_5, ev_ownK, ev_ownK_1, ev_ownK_01, ev_ownK_10, ev_lenT, ev_lenL, ev_lenO, ev_int, ev_intB, ev_abs, ev_min, ev_max, ev_tupT, ev_tupL, ev_listT, ev_listL, ev_meth, ev_meth2, ev_gN, ev_set, ev_set1, ev_gT, ev_gT2, ev_gT3, ev_gnil, ev_gcons, ev_gcons1, ev_iseq, ev_iseqT, ev_iseqL, ev_iseqO, ev_r1, ev_r2, ev_lrg1, ev_sl, ev_sl1, ev_sl3, ev_sl4, ev_on, ev_os, ev_os1, ev_slT, ev_slL, ev_slO, ev_r3, ix_t0, ix_t1, ix_t2, en_pair, en_int, wipeM, List.map_cons, List.map_nil, List.length_cons, List.length_nil, List.replicate_succ, List.replicate_zero, List.cons_append, List.nil_append, List.append_nil, List.set_cons_zero, List.set_cons_succ, Nat.reduceAdd, Nat.reduceSub, Nat.zero_add, if_true, if_false, reduceIte, Int.reduceEq, Int.reduceLT, Int.reduceLE, Bool.false_eq_true, decide_true, decide_false, Bool.not_true, Bool.not_false, List.getElem?_cons_zero, List.getElem?_cons_succ]
    · obtain ⟨A, eA⟩ := last (some (.int 1)) none
      refine fin _ A ?_ rfl
      unfold F__law_told_web
      have hd : decide (2 < n) = false := by simp [h2]
      simp only [ev_seq, ev_seqN, ev_seqR, ev_seqB, ev_seqC, ev_seqE, ev_nil, ev_brk, ev_cnt, ev_retN, ev_expr, ev_expr1, ev_ret, ev_ret1, ev_if, ev_ifT, ev_ifF, ev_asg, ev_asg1, ev_asg2, ev_par, ev_par1, ev_def, ev_defR, ev_defN, ev_var0, ev_varS, ev_k, ev_anil, ev_acons, ev_acons1, ev_acons2, ev_tup, ev_tup_0, ev_tup_1, ev_tup_2, ev_tup_3, ev_lst, ev_lst_0, ev_lst_1, ev_lst_2, ev_lst_3, ev_mkT, ev_mkF, ev_bin, ev_bin1, ev_bin2, ev_un, ev_un1, ev_add, ev_addT, ev_addL, ev_sub, ev_neg, ev_lt, ev_le, ev_gt, ev_ge, ev_eqI, ev_neI, ev_eqB, ev_neB, ev_eqS, ev_neS, ev_and, ev_andT, ev_andF, ev_or, ev_orT, ev_orF, ev_not, ev_not1, ev_tnot, ev_tnot1, ev_tand, ev_tandT, ev_tandF, ev_tor, ev_torT, ev_torF, ev_tb, ev_tb1, ev_yes, ev_ife, ev_ifeT, ev_ifeF, ev_ch, ev_ch1, ev_ch2, ev_ch3T, ev_ch3F, ev_ch4, ev_is, ev_isB, ev_notN, ev_call, ev_call1, ev_own, ev_own_1, ev_own_2, ev_own_3, ev_own_4, ev_own_5, ev_ownK, ev_ownK_1, ev_ownK_01, ev_ownK_10, ev_lenT, ev_lenL, ev_lenO, ev_int, ev_intB, ev_abs, ev_min, ev_max, ev_tupT, ev_tupL, ev_listT, ev_listL, ev_meth, ev_meth2, ev_gN, ev_set, ev_set1, ev_gT, ev_gT2, ev_gT3, ev_gnil, ev_gcons, ev_gcons1, ev_iseq, ev_iseqT, ev_iseqL, ev_iseqO, ev_r1, ev_r2, ev_lrg1, ev_sl, ev_sl1, ev_sl3, ev_sl4, ev_on, ev_os, ev_os1, ev_slT, ev_slL, ev_slO, ev_r3, ix_t0, ix_t1, ix_t2, en_pair, en_int, wipeM, List.map_cons, List.map_nil, List.length_cons, List.length_nil, List.replicate_succ, List.replicate_zero, List.cons_append, List.nil_append, List.append_nil, List.set_cons_zero, List.set_cons_succ, Nat.reduceAdd, Nat.reduceSub, Nat.zero_add, if_true, if_false, reduceIte, Int.reduceEq, Int.reduceLT, Int.reduceLE, Bool.false_eq_true, decide_true, decide_false, Bool.not_true, Bool.not_false, List.getElem?_cons_zero, List.getElem?_cons_succ, ej, ev_lrg1', hcg, c1, hd] at eA ⊢
      rw [eA]
      simp only [ev_seq, ev_seqN, ev_seqR, ev_seqB, ev_seqC, ev_seqE, ev_nil, ev_brk, ev_cnt, ev_retN, ev_expr, ev_expr1, ev_ret, ev_ret1, ev_if, ev_ifT, ev_ifF, ev_asg, ev_asg1, ev_asg2, ev_par, ev_par1, ev_def, ev_defR, ev_defN, ev_var0, ev_varS, ev_k, ev_anil, ev_acons, ev_acons1, ev_acons2, ev_tup, ev_tup_0, ev_tup_1, ev_tup_2, ev_tup_3, ev_lst, ev_lst_0, ev_lst_1, ev_lst_2, ev_lst_3, ev_mkT, ev_mkF, ev_bin, ev_bin1, ev_bin2, ev_un, ev_un1, ev_add, ev_addT, ev_addL, ev_sub, ev_neg, ev_lt, ev_le, ev_gt, ev_ge, ev_eqI, ev_neI, ev_eqB, ev_neB, ev_eqS, ev_neS, ev_and, ev_andT, ev_andF, ev_or, ev_orT, ev_orF, ev_not, ev_not1, ev_tnot, ev_tnot1, ev_tand, ev_tandT, ev_tandF, ev_tor, ev_torT, ev_torF, ev_tb, ev_tb1, ev_yes, ev_ife, ev_ifeT, ev_ifeF, ev_ch, ev_ch1, ev_ch2, ev_ch3T, ev_ch3F, ev_ch4, ev_is, ev_isB, ev_notN, ev_call, ev_call1, ev_own, ev_own_1, ev_own_2, ev_own_3, ev_own_4, ev_own_5, ev_ownK, ev_ownK_1, ev_ownK_01, ev_ownK_10, ev_lenT, ev_lenL, ev_lenO, ev_int, ev_intB, ev_abs, ev_min, ev_max, ev_tupT, ev_tupL, ev_listT, ev_listL, ev_meth, ev_meth2, ev_gN, ev_set, ev_set1, ev_gT, ev_gT2, ev_gT3, ev_gnil, ev_gcons, ev_gcons1, ev_iseq, ev_iseqT, ev_iseqL, ev_iseqO, ev_r1, ev_r2, ev_lrg1, ev_sl, ev_sl1, ev_sl3, ev_sl4, ev_on, ev_os, ev_os1, ev_slT, ev_slL, ev_slO, ev_r3, ix_t0, ix_t1, ix_t2, en_pair, en_int, wipeM, List.map_cons, List.map_nil, List.length_cons, List.length_nil, List.replicate_succ, List.replicate_zero, List.cons_append, List.nil_append, List.append_nil, List.set_cons_zero, List.set_cons_succ, Nat.reduceAdd, Nat.reduceSub, Nat.zero_add, if_true, if_false, reduceIte, Int.reduceEq, Int.reduceLT, Int.reduceLE, Bool.false_eq_true, decide_true, decide_false, Bool.not_true, Bool.not_false, List.getElem?_cons_zero, List.getElem?_cons_succ]
  · have s1 : ((irg 1 n).map fun i => ((0, i) : Tie)).Pairwise ltP := by
      rw [List.pairwise_map]
      exact (irg_sorted _ _).imp fun h => .inr ⟨rfl, h⟩
    obtain ⟨A, eA⟩ := web_of (n := n) s1 (fun t ht => by
      obtain ⟨i, hi, rfl⟩ := List.mem_map.mp ht
      rw [mem_irg] at hi
      exact ⟨Int.le_refl 0, by show 0 < i; omega, hi.2⟩)
    refine fin _ A ?_ eA
    unfold F__law_told_web
    have c2 : ∀ x4 x5 : Option M, mLc false (iRange2 (aCons (mK (.int 1)) (aCons (mVar 1) aNil))) (gN 6) ttYes E2__law_told_web [6] [some (.loc 1), some (.int n), some (.int 2), some (.tmp ((irg 0 n).map M.int)), x4, x5, none] (bagR b1 []) = .ok (.tmp (((irg 1 n).map fun i => ((0, i) : Tie)).map en)) (bagR b1 []) := fun x4 x5 => by
      refine (mLc_all (as := irg 1 n) M.int (fun i => en ((0, i) : Tie)) (by simp only [ev_seq, ev_seqN, ev_seqR, ev_seqB, ev_seqC, ev_seqE, ev_nil, ev_brk, ev_cnt, ev_retN, ev_expr, ev_expr1, ev_ret, ev_ret1, ev_if, ev_ifT, ev_ifF, ev_asg, ev_asg1, ev_asg2, ev_par, ev_par1, ev_def, ev_defR, ev_defN, ev_var0, ev_varS, ev_k, ev_anil, ev_acons, ev_acons1, ev_acons2, ev_tup, ev_tup_0, ev_tup_1, ev_tup_2, ev_tup_3, ev_lst, ev_lst_0, ev_lst_1, ev_lst_2, ev_lst_3, ev_mkT, ev_mkF, ev_bin, ev_bin1, ev_bin2, ev_un, ev_un1, ev_add, ev_addT, ev_addL, ev_sub, ev_neg, ev_lt, ev_le, ev_gt, ev_ge, ev_eqI, ev_neI, ev_eqB, ev_neB, ev_eqS, ev_neS, ev_and, ev_andT, ev_andF, ev_or, ev_orT, ev_orF, ev_not, ev_not1, ev_tnot, ev_tnot1, ev_tand, ev_tandT, ev_tandF, ev_tor, ev_torT, ev_torF, ev_tb, ev_tb1, ev_yes, ev_ife, ev_ifeT, ev_ifeF, ev_ch, ev_ch1, ev_ch2, ev_ch3T, ev_ch3F, ev_ch4, ev_is, ev_isB, ev_notN, ev_call, ev_call1, ev_own, ev_own_1, ev_own_2, ev_own_3, ev_own_4, ev_own_5, ev_ownK, ev_ownK_1, ev_ownK_01, ev_ownK_10, ev_lenT, ev_lenL, ev_lenO, ev_int, ev_intB, ev_abs, ev_min, ev_max, ev_tupT, ev_tupL, ev_listT, ev_listL, ev_meth, ev_meth2, ev_gN, ev_set, ev_set1, ev_gT, ev_gT2, ev_gT3, ev_gnil, ev_gcons, ev_gcons1, ev_iseq, ev_iseqT, ev_iseqL, ev_iseqO, ev_r1, ev_r2, ev_lrg1, ev_sl, ev_sl1, ev_sl3, ev_sl4, ev_on, ev_os, ev_os1, ev_slT, ev_slL, ev_slO, ev_r3, ix_t0, ix_t1, ix_t2, en_pair, en_int, wipeM, List.map_cons, List.map_nil, List.length_cons, List.length_nil, List.replicate_succ, List.replicate_zero, List.cons_append, List.nil_append, List.append_nil, List.set_cons_zero, List.set_cons_succ, Nat.reduceAdd, Nat.reduceSub, Nat.zero_add, if_true, if_false, reduceIte, Int.reduceEq, Int.reduceLT, Int.reduceLE, Bool.false_eq_true, decide_true, decide_false, Bool.not_true, Bool.not_false, List.getElem?_cons_zero, List.getElem?_cons_succ, ev_r2', hc n (by omega) (by omega), hc 1 (by omega) (by omega), Bool.and_self]) ?_ ?_).trans ?_
      · intro i _
        refine ⟨_, by simp only [ev_seq, ev_seqN, ev_seqR, ev_seqB, ev_seqC, ev_seqE, ev_nil, ev_brk, ev_cnt, ev_retN, ev_expr, ev_expr1, ev_ret, ev_ret1, ev_if, ev_ifT, ev_ifF, ev_asg, ev_asg1, ev_asg2, ev_par, ev_par1, ev_def, ev_defR, ev_defN, ev_var0, ev_varS, ev_k, ev_anil, ev_acons, ev_acons1, ev_acons2, ev_tup, ev_tup_0, ev_tup_1, ev_tup_2, ev_tup_3, ev_lst, ev_lst_0, ev_lst_1, ev_lst_2, ev_lst_3, ev_mkT, ev_mkF, ev_bin, ev_bin1, ev_bin2, ev_un, ev_un1, ev_add, ev_addT, ev_addL, ev_sub, ev_neg, ev_lt, ev_le, ev_gt, ev_ge, ev_eqI, ev_neI, ev_eqB, ev_neB, ev_eqS, ev_neS, ev_and, ev_andT, ev_andF, ev_or, ev_orT, ev_orF, ev_not, ev_not1, ev_tnot, ev_tnot1, ev_tand, ev_tandT, ev_tandF, ev_tor, ev_torT, ev_torF, ev_tb, ev_tb1, ev_yes, ev_ife, ev_ifeT, ev_ifeF, ev_ch, ev_ch1, ev_ch2, ev_ch3T, ev_ch3F, ev_ch4, ev_is, ev_isB, ev_notN, ev_call, ev_call1, ev_own, ev_own_1, ev_own_2, ev_own_3, ev_own_4, ev_own_5, ev_ownK, ev_ownK_1, ev_ownK_01, ev_ownK_10, ev_lenT, ev_lenL, ev_lenO, ev_int, ev_intB, ev_abs, ev_min, ev_max, ev_tupT, ev_tupL, ev_listT, ev_listL, ev_meth, ev_meth2, ev_gN, ev_set, ev_set1, ev_gT, ev_gT2, ev_gT3, ev_gnil, ev_gcons, ev_gcons1, ev_iseq, ev_iseqT, ev_iseqL, ev_iseqO, ev_r1, ev_r2, ev_lrg1, ev_sl, ev_sl1, ev_sl3, ev_sl4, ev_on, ev_os, ev_os1, ev_slT, ev_slL, ev_slO, ev_r3, ix_t0, ix_t1, ix_t2, en_pair, en_int, wipeM, List.map_cons, List.map_nil, List.length_cons, List.length_nil, List.replicate_succ, List.replicate_zero, List.cons_append, List.nil_append, List.append_nil, List.set_cons_zero, List.set_cons_succ, Nat.reduceAdd, Nat.reduceSub, Nat.zero_add, if_true, if_false, reduceIte, Int.reduceEq, Int.reduceLT, Int.reduceLE, Bool.false_eq_true, decide_true, decide_false, Bool.not_true, Bool.not_false, List.getElem?_cons_zero, List.getElem?_cons_succ] <;> rfl, ?_⟩
        unfold E2__law_told_web
        simp only [ev_seq, ev_seqN, ev_seqR, ev_seqB, ev_seqC, ev_seqE, ev_nil, ev_brk, ev_cnt, ev_retN, ev_expr, ev_expr1, ev_ret, ev_ret1, ev_if, ev_ifT, ev_ifF, ev_asg, ev_asg1, ev_asg2, ev_par, ev_par1, ev_def, ev_defR, ev_defN, ev_var0, ev_varS, ev_k, ev_anil, ev_acons, ev_acons1, ev_acons2, ev_tup, ev_tup_0, ev_tup_1, ev_tup_2, ev_tup_3, ev_lst, ev_lst_0, ev_lst_1, ev_lst_2, ev_lst_3, ev_mkT, ev_mkF, ev_bin, ev_bin1, ev_bin2, ev_un, ev_un1, ev_add, ev_addT, ev_addL, ev_sub, ev_neg, ev_lt, ev_le, ev_gt, ev_ge, ev_eqI, ev_neI, ev_eqB, ev_neB, ev_eqS, ev_neS, ev_and, ev_andT, ev_andF, ev_or, ev_orT, ev_orF, ev_not, ev_not1, ev_tnot, ev_tnot1, ev_tand, ev_tandT, ev_tandF, ev_tor, ev_torT, ev_torF, ev_tb, ev_tb1, ev_yes, ev_ife, ev_ifeT, ev_ifeF, ev_ch, ev_ch1, ev_ch2, ev_ch3T, ev_ch3F, ev_ch4, ev_is, ev_isB, ev_notN, ev_call, ev_call1, ev_own, ev_own_1, ev_own_2, ev_own_3, ev_own_4, ev_own_5, ev_ownK, ev_ownK_1, ev_ownK_01, ev_ownK_10, ev_lenT, ev_lenL, ev_lenO, ev_int, ev_intB, ev_abs, ev_min, ev_max, ev_tupT, ev_tupL, ev_listT, ev_listL, ev_meth, ev_meth2, ev_gN, ev_set, ev_set1, ev_gT, ev_gT2, ev_gT3, ev_gnil, ev_gcons, ev_gcons1, ev_iseq, ev_iseqT, ev_iseqL, ev_iseqO, ev_r1, ev_r2, ev_lrg1, ev_sl, ev_sl1, ev_sl3, ev_sl4, ev_on, ev_os, ev_os1, ev_slT, ev_slL, ev_slO, ev_r3, ix_t0, ix_t1, ix_t2, en_pair, en_int, wipeM, List.map_cons, List.map_nil, List.length_cons, List.length_nil, List.replicate_succ, List.replicate_zero, List.cons_append, List.nil_append, List.append_nil, List.set_cons_zero, List.set_cons_succ, Nat.reduceAdd, Nat.reduceSub, Nat.zero_add, if_true, if_false, reduceIte, Int.reduceEq, Int.reduceLT, Int.reduceLE, Bool.false_eq_true, decide_true, decide_false, Bool.not_true, Bool.not_false, List.getElem?_cons_zero, List.getElem?_cons_succ]
      · rw [irg_length]; exact Nat.le_trans (by omega : _ ≤ 100) (by decide)
      · rw [ev_mkF, List.map_map]; rfl
    simp only [ev_seq, ev_seqN, ev_seqR, ev_seqB, ev_seqC, ev_seqE, ev_nil, ev_brk, ev_cnt, ev_retN, ev_expr, ev_expr1, ev_ret, ev_ret1, ev_if, ev_ifT, ev_ifF, ev_asg, ev_asg1, ev_asg2, ev_par, ev_par1, ev_def, ev_defR, ev_defN, ev_var0, ev_varS, ev_k, ev_anil, ev_acons, ev_acons1, ev_acons2, ev_tup, ev_tup_0, ev_tup_1, ev_tup_2, ev_tup_3, ev_lst, ev_lst_0, ev_lst_1, ev_lst_2, ev_lst_3, ev_mkT, ev_mkF, ev_bin, ev_bin1, ev_bin2, ev_un, ev_un1, ev_add, ev_addT, ev_addL, ev_sub, ev_neg, ev_lt, ev_le, ev_gt, ev_ge, ev_eqI, ev_neI, ev_eqB, ev_neB, ev_eqS, ev_neS, ev_and, ev_andT, ev_andF, ev_or, ev_orT, ev_orF, ev_not, ev_not1, ev_tnot, ev_tnot1, ev_tand, ev_tandT, ev_tandF, ev_tor, ev_torT, ev_torF, ev_tb, ev_tb1, ev_yes, ev_ife, ev_ifeT, ev_ifeF, ev_ch, ev_ch1, ev_ch2, ev_ch3T, ev_ch3F, ev_ch4, ev_is, ev_isB, ev_notN, ev_call, ev_call1, ev_own, ev_own_1, ev_own_2, ev_own_3, ev_own_4, ev_own_5, ev_ownK, ev_ownK_1, ev_ownK_01, ev_ownK_10, ev_lenT, ev_lenL, ev_lenO, ev_int, ev_intB, ev_abs, ev_min, ev_max, ev_tupT, ev_tupL, ev_listT, ev_listL, ev_meth, ev_meth2, ev_gN, ev_set, ev_set1, ev_gT, ev_gT2, ev_gT3, ev_gnil, ev_gcons, ev_gcons1, ev_iseq, ev_iseqT, ev_iseqL, ev_iseqO, ev_r1, ev_r2, ev_lrg1, ev_sl, ev_sl1, ev_sl3, ev_sl4, ev_on, ev_os, ev_os1, ev_slT, ev_slL, ev_slO, ev_r3, ix_t0, ix_t1, ix_t2, en_pair, en_int, wipeM, List.map_cons, List.map_nil, List.length_cons, List.length_nil, List.replicate_succ, List.replicate_zero, List.cons_append, List.nil_append, List.append_nil, List.set_cons_zero, List.set_cons_succ, Nat.reduceAdd, Nat.reduceSub, Nat.zero_add, if_true, if_false, reduceIte, Int.reduceEq, Int.reduceLT, Int.reduceLE, Bool.false_eq_true, decide_true, decide_false, Bool.not_true, Bool.not_false, List.getElem?_cons_zero, List.getElem?_cons_succ, ej, ev_lrg1', hcg, c1, c2]
  · obtain ⟨A, eA⟩ := web_of (n := n) (l := []) List.Pairwise.nil (fun t ht => by simp at ht)
    refine fin _ A ?_ eA
    unfold F__law_told_web
    simp only [ev_seq, ev_seqN, ev_seqR, ev_seqB, ev_seqC, ev_seqE, ev_nil, ev_brk, ev_cnt, ev_retN, ev_expr, ev_expr1, ev_ret, ev_ret1, ev_if, ev_ifT, ev_ifF, ev_asg, ev_asg1, ev_asg2, ev_par, ev_par1, ev_def, ev_defR, ev_defN, ev_var0, ev_varS, ev_k, ev_anil, ev_acons, ev_acons1, ev_acons2, ev_tup, ev_tup_0, ev_tup_1, ev_tup_2, ev_tup_3, ev_lst, ev_lst_0, ev_lst_1, ev_lst_2, ev_lst_3, ev_mkT, ev_mkF, ev_bin, ev_bin1, ev_bin2, ev_un, ev_un1, ev_add, ev_addT, ev_addL, ev_sub, ev_neg, ev_lt, ev_le, ev_gt, ev_ge, ev_eqI, ev_neI, ev_eqB, ev_neB, ev_eqS, ev_neS, ev_and, ev_andT, ev_andF, ev_or, ev_orT, ev_orF, ev_not, ev_not1, ev_tnot, ev_tnot1, ev_tand, ev_tandT, ev_tandF, ev_tor, ev_torT, ev_torF, ev_tb, ev_tb1, ev_yes, ev_ife, ev_ifeT, ev_ifeF, ev_ch, ev_ch1, ev_ch2, ev_ch3T, ev_ch3F, ev_ch4, ev_is, ev_isB, ev_notN, ev_call, ev_call1, ev_own, ev_own_1, ev_own_2, ev_own_3, ev_own_4, ev_own_5, ev_ownK, ev_ownK_1, ev_ownK_01, ev_ownK_10, ev_lenT, ev_lenL, ev_lenO, ev_int, ev_intB, ev_abs, ev_min, ev_max, ev_tupT, ev_tupL, ev_listT, ev_listL, ev_meth, ev_meth2, ev_gN, ev_set, ev_set1, ev_gT, ev_gT2, ev_gT3, ev_gnil, ev_gcons, ev_gcons1, ev_iseq, ev_iseqT, ev_iseqL, ev_iseqO, ev_r1, ev_r2, ev_lrg1, ev_sl, ev_sl1, ev_sl3, ev_sl4, ev_on, ev_os, ev_os1, ev_slT, ev_slL, ev_slO, ev_r3, ix_t0, ix_t1, ix_t2, en_pair, en_int, wipeM, List.map_cons, List.map_nil, List.length_cons, List.length_nil, List.replicate_succ, List.replicate_zero, List.cons_append, List.nil_append, List.append_nil, List.set_cons_zero, List.set_cons_succ, Nat.reduceAdd, Nat.reduceSub, Nat.zero_add, if_true, if_false, reduceIte, Int.reduceEq, Int.reduceLT, Int.reduceLE, Bool.false_eq_true, decide_true, decide_false, Bool.not_true, Bool.not_false, List.getElem?_cons_zero, List.getElem?_cons_succ, ej, ev_lrg1', hcg, c1]
  · obtain ⟨A, eA⟩ := web_of (n := n) (pairsL_sorted n) (fun t ht => by rw [mem_pairsL] at ht; exact ht)
    refine fin _ A ?_ eA
    unfold F__law_told_web
    simp only [ev_seq, ev_seqN, ev_seqR, ev_seqB, ev_seqC, ev_seqE, ev_nil, ev_brk, ev_cnt, ev_retN, ev_expr, ev_expr1, ev_ret, ev_ret1, ev_if, ev_ifT, ev_ifF, ev_asg, ev_asg1, ev_asg2, ev_par, ev_par1, ev_def, ev_defR, ev_defN, ev_var0, ev_varS, ev_k, ev_anil, ev_acons, ev_acons1, ev_acons2, ev_tup, ev_tup_0, ev_tup_1, ev_tup_2, ev_tup_3, ev_lst, ev_lst_0, ev_lst_1, ev_lst_2, ev_lst_3, ev_mkT, ev_mkF, ev_bin, ev_bin1, ev_bin2, ev_un, ev_un1, ev_add, ev_addT, ev_addL, ev_sub, ev_neg, ev_lt, ev_le, ev_gt, ev_ge, ev_eqI, ev_neI, ev_eqB, ev_neB, ev_eqS, ev_neS, ev_and, ev_andT, ev_andF, ev_or, ev_orT, ev_orF, ev_not, ev_not1, ev_tnot, ev_tnot1, ev_tand, ev_tandT, ev_tandF, ev_tor, ev_torT, ev_torF, ev_tb, ev_tb1, ev_yes, ev_ife, ev_ifeT, ev_ifeF, ev_ch, ev_ch1, ev_ch2, ev_ch3T, ev_ch3F, ev_ch4, ev_is, ev_isB, ev_notN, ev_call, ev_call1, ev_own, ev_own_1, ev_own_2, ev_own_3, ev_own_4, ev_own_5, ev_ownK, ev_ownK_1, ev_ownK_01, ev_ownK_10, ev_lenT, ev_lenL, ev_lenO, ev_int, ev_intB, ev_abs, ev_min, ev_max, ev_tupT, ev_tupL, ev_listT, ev_listL, ev_meth, ev_meth2, ev_gN, ev_set, ev_set1, ev_gT, ev_gT2, ev_gT3, ev_gnil, ev_gcons, ev_gcons1, ev_iseq, ev_iseqT, ev_iseqL, ev_iseqO, ev_r1, ev_r2, ev_lrg1, ev_sl, ev_sl1, ev_sl3, ev_sl4, ev_on, ev_os, ev_os1, ev_slT, ev_slL, ev_slO, ev_r3, ix_t0, ix_t1, ix_t2, en_pair, en_int, wipeM, List.map_cons, List.map_nil, List.length_cons, List.length_nil, List.replicate_succ, List.replicate_zero, List.cons_append, List.nil_append, List.append_nil, List.set_cons_zero, List.set_cons_succ, Nat.reduceAdd, Nat.reduceSub, Nat.zero_add, if_true, if_false, reduceIte, Int.reduceEq, Int.reduceLT, Int.reduceLE, Bool.false_eq_true, decide_true, decide_false, Bool.not_true, Bool.not_false, List.getElem?_cons_zero, List.getElem?_cons_succ, ej, ev_lrg1', hcg, c1, pairs_of_range (by omega : 0 ≤ n) hn]
  · have h2 : 0 ≤ n / 2 ∧ n / 2 ≤ n := by omega
    obtain ⟨u1, u2⟩ := pairsOf_sorted 0 (n / 2)
    obtain ⟨v1, v2⟩ := pairsOf_sorted (n / 2) n
    obtain ⟨A, eA⟩ := web_of (n := n) (l := pairsOf (irg 0 (n / 2)) ++ pairsOf (irg (n / 2) n)) (List.pairwise_append.mpr ⟨u1, v1, fun a ha b hb => .inl (by have := u2 a ha; have := v2 b hb; omega)⟩) (fun t ht => by
      rcases List.mem_append.mp ht with q | q
      · have := u2 t q; omega
      · have := v2 t q; omega)
    refine fin _ A ?_ eA
    unfold F__law_told_web
    have hd2 : cDiv n 2 = true := rfl
    have e1 : cutM ((irg 0 n).map M.int) none (some (n / 2)) = (irg 0 (n / 2)).map M.int := by
      have := cut_hi ((irg 0 n).map M.int) (n / 2).toNat
      rw [show (((n / 2).toNat : Nat) : Int) = n / 2 by omega] at this
      rw [this, ← List.map_take, irg_take 0 n _ (by omega)]
      congr 2
      omega
    have e2 : cutM ((irg 0 n).map M.int) (some (n / 2)) none = (irg (n / 2) n).map M.int := by
      have := cut_lo ((irg 0 n).map M.int) (n / 2).toNat
      rw [show (((n / 2).toNat : Nat) : Int) = n / 2 by omega] at this
      rw [this, ← List.map_drop, irg_drop]
      congr 2
      omega
    have l1 : (irg 0 (n / 2)).length ≤ 100 := by rw [irg_length]; omega
    have l2 : (irg (n / 2) n).length ≤ 100 := by rw [irg_length]; omega
    have ea : addM false (.tmp ((pairsOf (irg 0 (n / 2))).map en)) (.tmp ((pairsOf (irg (n / 2) n)).map en)) (bagR b1 []) = .ok (.tmp ((pairsOf (irg 0 (n / 2)) ++ pairsOf (irg (n / 2) n)).map en)) (bagR b1 []) := by
      rw [ev_addL, if_pos (by rw [List.length_map, List.length_map]; exact Nat.le_trans (Nat.add_le_add (pairsOf_len l1) (pairsOf_len l2)) (by decide)), List.map_append]
      rfl
    simp only [ev_seq, ev_seqN, ev_seqR, ev_seqB, ev_seqC, ev_seqE, ev_nil, ev_brk, ev_cnt, ev_retN, ev_expr, ev_expr1, ev_ret, ev_ret1, ev_if, ev_ifT, ev_ifF, ev_asg, ev_asg1, ev_asg2, ev_par, ev_par1, ev_def, ev_defR, ev_defN, ev_var0, ev_varS, ev_k, ev_anil, ev_acons, ev_acons1, ev_acons2, ev_tup, ev_tup_0, ev_tup_1, ev_tup_2, ev_tup_3, ev_lst, ev_lst_0, ev_lst_1, ev_lst_2, ev_lst_3, ev_mkT, ev_mkF, ev_bin, ev_bin1, ev_bin2, ev_un, ev_un1, ev_add, ev_addT, ev_addL, ev_sub, ev_neg, ev_lt, ev_le, ev_gt, ev_ge, ev_eqI, ev_neI, ev_eqB, ev_neB, ev_eqS, ev_neS, ev_and, ev_andT, ev_andF, ev_or, ev_orT, ev_orF, ev_not, ev_not1, ev_tnot, ev_tnot1, ev_tand, ev_tandT, ev_tandF, ev_tor, ev_torT, ev_torF, ev_tb, ev_tb1, ev_yes, ev_ife, ev_ifeT, ev_ifeF, ev_ch, ev_ch1, ev_ch2, ev_ch3T, ev_ch3F, ev_ch4, ev_is, ev_isB, ev_notN, ev_call, ev_call1, ev_own, ev_own_1, ev_own_2, ev_own_3, ev_own_4, ev_own_5, ev_ownK, ev_ownK_1, ev_ownK_01, ev_ownK_10, ev_lenT, ev_lenL, ev_lenO, ev_int, ev_intB, ev_abs, ev_min, ev_max, ev_tupT, ev_tupL, ev_listT, ev_listL, ev_meth, ev_meth2, ev_gN, ev_set, ev_set1, ev_gT, ev_gT2, ev_gT3, ev_gnil, ev_gcons, ev_gcons1, ev_iseq, ev_iseqT, ev_iseqL, ev_iseqO, ev_r1, ev_r2, ev_lrg1, ev_sl, ev_sl1, ev_sl3, ev_sl4, ev_on, ev_os, ev_os1, ev_slT, ev_slL, ev_slO, ev_r3, ix_t0, ix_t1, ix_t2, en_pair, en_int, wipeM, List.map_cons, List.map_nil, List.length_cons, List.length_nil, List.replicate_succ, List.replicate_zero, List.cons_append, List.nil_append, List.append_nil, List.set_cons_zero, List.set_cons_succ, Nat.reduceAdd, Nat.reduceSub, Nat.zero_add, if_true, if_false, reduceIte, Int.reduceEq, Int.reduceLT, Int.reduceLE, Bool.false_eq_true, decide_true, decide_false, Bool.not_true, Bool.not_false, List.getElem?_cons_zero, List.getElem?_cons_succ, ej, ev_lrg1', hcg, c1, ev_div, hd2, e1, e2, pairs_spec l1, pairs_spec l2, ea]
  · obtain ⟨A, eA⟩ := sides_spec (n := n) (m := n / 2) (h := bagR b1 []) (by omega) hn
    refine fin _ A ?_ rfl
    unfold F__law_told_web
    have hd2 : cDiv n 2 = true := rfl
    simp only [ev_seq, ev_seqN, ev_seqR, ev_seqB, ev_seqC, ev_seqE, ev_nil, ev_brk, ev_cnt, ev_retN, ev_expr, ev_expr1, ev_ret, ev_ret1, ev_if, ev_ifT, ev_ifF, ev_asg, ev_asg1, ev_asg2, ev_par, ev_par1, ev_def, ev_defR, ev_defN, ev_var0, ev_varS, ev_k, ev_anil, ev_acons, ev_acons1, ev_acons2, ev_tup, ev_tup_0, ev_tup_1, ev_tup_2, ev_tup_3, ev_lst, ev_lst_0, ev_lst_1, ev_lst_2, ev_lst_3, ev_mkT, ev_mkF, ev_bin, ev_bin1, ev_bin2, ev_un, ev_un1, ev_add, ev_addT, ev_addL, ev_sub, ev_neg, ev_lt, ev_le, ev_gt, ev_ge, ev_eqI, ev_neI, ev_eqB, ev_neB, ev_eqS, ev_neS, ev_and, ev_andT, ev_andF, ev_or, ev_orT, ev_orF, ev_not, ev_not1, ev_tnot, ev_tnot1, ev_tand, ev_tandT, ev_tandF, ev_tor, ev_torT, ev_torF, ev_tb, ev_tb1, ev_yes, ev_ife, ev_ifeT, ev_ifeF, ev_ch, ev_ch1, ev_ch2, ev_ch3T, ev_ch3F, ev_ch4, ev_is, ev_isB, ev_notN, ev_call, ev_call1, ev_own, ev_own_1, ev_own_2, ev_own_3, ev_own_4, ev_own_5, ev_ownK, ev_ownK_1, ev_ownK_01, ev_ownK_10, ev_lenT, ev_lenL, ev_lenO, ev_int, ev_intB, ev_abs, ev_min, ev_max, ev_tupT, ev_tupL, ev_listT, ev_listL, ev_meth, ev_meth2, ev_gN, ev_set, ev_set1, ev_gT, ev_gT2, ev_gT3, ev_gnil, ev_gcons, ev_gcons1, ev_iseq, ev_iseqT, ev_iseqL, ev_iseqO, ev_r1, ev_r2, ev_lrg1, ev_sl, ev_sl1, ev_sl3, ev_sl4, ev_on, ev_os, ev_os1, ev_slT, ev_slL, ev_slO, ev_r3, ix_t0, ix_t1, ix_t2, en_pair, en_int, wipeM, List.map_cons, List.map_nil, List.length_cons, List.length_nil, List.replicate_succ, List.replicate_zero, List.cons_append, List.nil_append, List.append_nil, List.set_cons_zero, List.set_cons_succ, Nat.reduceAdd, Nat.reduceSub, Nat.zero_add, if_true, if_false, reduceIte, Int.reduceEq, Int.reduceLT, Int.reduceLE, Bool.false_eq_true, decide_true, decide_false, Bool.not_true, Bool.not_false, List.getElem?_cons_zero, List.getElem?_cons_succ, ej, ev_lrg1', hcg, c1, ev_div, hd2, eA]
  · obtain ⟨A, eA⟩ := last (some (.int 7)) none
    refine fin _ A ?_ rfl
    unfold F__law_told_web
    simp only [ev_seq, ev_seqN, ev_seqR, ev_seqB, ev_seqC, ev_seqE, ev_nil, ev_brk, ev_cnt, ev_retN, ev_expr, ev_expr1, ev_ret, ev_ret1, ev_if, ev_ifT, ev_ifF, ev_asg, ev_asg1, ev_asg2, ev_par, ev_par1, ev_def, ev_defR, ev_defN, ev_var0, ev_varS, ev_k, ev_anil, ev_acons, ev_acons1, ev_acons2, ev_tup, ev_tup_0, ev_tup_1, ev_tup_2, ev_tup_3, ev_lst, ev_lst_0, ev_lst_1, ev_lst_2, ev_lst_3, ev_mkT, ev_mkF, ev_bin, ev_bin1, ev_bin2, ev_un, ev_un1, ev_add, ev_addT, ev_addL, ev_sub, ev_neg, ev_lt, ev_le, ev_gt, ev_ge, ev_eqI, ev_neI, ev_eqB, ev_neB, ev_eqS, ev_neS, ev_and, ev_andT, ev_andF, ev_or, ev_orT, ev_orF, ev_not, ev_not1, ev_tnot, ev_tnot1, ev_tand, ev_tandT, ev_tandF, ev_tor, ev_torT, ev_torF, ev_tb, ev_tb1, ev_yes, ev_ife, ev_ifeT, ev_ifeF, ev_ch, ev_ch1, ev_ch2, ev_ch3T, ev_ch3F, ev_ch4, ev_is, ev_isB, ev_notN, ev_call, ev_call1, ev_own, ev_own_1, ev_own_2, ev_own_3, ev_own_4, ev_own_5, ev_ownK, ev_ownK_1, ev_ownK_01, ev_ownK_10, ev_lenT, ev_lenL, ev_lenO, ev_int, ev_intB, ev_abs, ev_min, ev_max, ev_tupT, ev_tupL, ev_listT, ev_listL, ev_meth, ev_meth2, ev_gN, ev_set, ev_set1, ev_gT, ev_gT2, ev_gT3, ev_gnil, ev_gcons, ev_gcons1, ev_iseq, ev_iseqT, ev_iseqL, ev_iseqO, ev_r1, ev_r2, ev_lrg1, ev_sl, ev_sl1, ev_sl3, ev_sl4, ev_on, ev_os, ev_os1, ev_slT, ev_slL, ev_slO, ev_r3, ix_t0, ix_t1, ix_t2, en_pair, en_int, wipeM, List.map_cons, List.map_nil, List.length_cons, List.length_nil, List.replicate_succ, List.replicate_zero, List.cons_append, List.nil_append, List.append_nil, List.set_cons_zero, List.set_cons_succ, Nat.reduceAdd, Nat.reduceSub, Nat.zero_add, if_true, if_false, reduceIte, Int.reduceEq, Int.reduceLT, Int.reduceLE, Bool.false_eq_true, decide_true, decide_false, Bool.not_true, Bool.not_false, List.getElem?_cons_zero, List.getElem?_cons_succ, ej, ev_lrg1', hcg, c1] at eA ⊢
    rw [eA]
    simp only [ev_seq, ev_seqN, ev_seqR, ev_seqB, ev_seqC, ev_seqE, ev_nil, ev_brk, ev_cnt, ev_retN, ev_expr, ev_expr1, ev_ret, ev_ret1, ev_if, ev_ifT, ev_ifF, ev_asg, ev_asg1, ev_asg2, ev_par, ev_par1, ev_def, ev_defR, ev_defN, ev_var0, ev_varS, ev_k, ev_anil, ev_acons, ev_acons1, ev_acons2, ev_tup, ev_tup_0, ev_tup_1, ev_tup_2, ev_tup_3, ev_lst, ev_lst_0, ev_lst_1, ev_lst_2, ev_lst_3, ev_mkT, ev_mkF, ev_bin, ev_bin1, ev_bin2, ev_un, ev_un1, ev_add, ev_addT, ev_addL, ev_sub, ev_neg, ev_lt, ev_le, ev_gt, ev_ge, ev_eqI, ev_neI, ev_eqB, ev_neB, ev_eqS, ev_neS, ev_and, ev_andT, ev_andF, ev_or, ev_orT, ev_orF, ev_not, ev_not1, ev_tnot, ev_tnot1, ev_tand, ev_tandT, ev_tandF, ev_tor, ev_torT, ev_torF, ev_tb, ev_tb1, ev_yes, ev_ife, ev_ifeT, ev_ifeF, ev_ch, ev_ch1, ev_ch2, ev_ch3T, ev_ch3F, ev_ch4, ev_is, ev_isB, ev_notN, ev_call, ev_call1, ev_own, ev_own_1, ev_own_2, ev_own_3, ev_own_4, ev_own_5, ev_ownK, ev_ownK_1, ev_ownK_01, ev_ownK_10, ev_lenT, ev_lenL, ev_lenO, ev_int, ev_intB, ev_abs, ev_min, ev_max, ev_tupT, ev_tupL, ev_listT, ev_listL, ev_meth, ev_meth2, ev_gN, ev_set, ev_set1, ev_gT, ev_gT2, ev_gT3, ev_gnil, ev_gcons, ev_gcons1, ev_iseq, ev_iseqT, ev_iseqL, ev_iseqO, ev_r1, ev_r2, ev_lrg1, ev_sl, ev_sl1, ev_sl3, ev_sl4, ev_on, ev_os, ev_os1, ev_slT, ev_slL, ev_slO, ev_r3, ix_t0, ix_t1, ix_t2, en_pair, en_int, wipeM, List.map_cons, List.map_nil, List.length_cons, List.length_nil, List.replicate_succ, List.replicate_zero, List.cons_append, List.nil_append, List.append_nil, List.set_cons_zero, List.set_cons_succ, Nat.reduceAdd, Nat.reduceSub, Nat.zero_add, if_true, if_false, reduceIte, Int.reduceEq, Int.reduceLT, Int.reduceLE, Bool.false_eq_true, decide_true, decide_false, Bool.not_true, Bool.not_false, List.getElem?_cons_zero, List.getElem?_cons_succ]
theorem own_web_spec {b : Bag} {n : Int} (ok : b.Ok) (hn0 : 1 ≤ n) (hn : n ≤ 100) : ∃ A b', b'.Ok ∧ f__law_own_web [.loc 1, .int n] (bagR b []) = .ok (web n A) (bagR b' []) := by
  have hcg : cRg 0 n = true := cRg_yes (by omega) (by omega) (by omega) (by omega) (by omega)
  obtain ⟨j, b1, o1, j0, j1, ej⟩ := draw_spec (k := 5) (rest := []) ok (by omega) (by omega) cloH_nil
  obtain ⟨A1, b2, o2, e2⟩ := told_spec o1 hn0 hn
  -- the tail: led, or as it is
  have tail : ∀ (A : Int → Int → Bool) (b3 : Bag) (x : Option M), b3.Ok → ∃ A' b4, b4.Ok ∧ sIfE (asB (sBin eqM (sOwn 2 f__law_draw (.ok [.loc 1, .int 2] (bagR b3 []))) (mK (.int 0)) [some (.loc 1), some (.int n), some (.int j), some (web n A), x])) (mOwn 2 f__law_led (aCons (mVar 3) (aCons (mOwn 2 f__law_order (aCons (mVar 0) (aCons (mVar 1) aNil))) aNil))) (mVar 3) [some (.loc 1), some (.int n), some (.int j), some (web n A), x] = .ok (web n A') (bagR b4 []) := fun A b3 x o3 => by
    obtain ⟨i, b4, o4, i0, i1, ei⟩ := draw_spec (k := 2) (rest := []) o3 (by omega) (by omega) cloH_nil
    cases q : decide (i = 0) with
    | false =>
      refine ⟨A, b4, o4, ?_⟩
      simp only [ev_seq, ev_seqN, ev_seqR, ev_seqB, ev_seqC, ev_seqE, ev_nil, ev_brk, ev_cnt, ev_retN, ev_expr, ev_expr1, ev_ret, ev_ret1, ev_if, ev_ifT, ev_ifF, ev_asg, ev_asg1, ev_asg2, ev_par, ev_par1, ev_def, ev_defR, ev_defN, ev_var0, ev_varS, ev_k, ev_anil, ev_acons, ev_acons1, ev_acons2, ev_tup, ev_tup_0, ev_tup_1, ev_tup_2, ev_tup_3, ev_lst, ev_lst_0, ev_lst_1, ev_lst_2, ev_lst_3, ev_mkT, ev_mkF, ev_bin, ev_bin1, ev_bin2, ev_un, ev_un1, ev_add, ev_addT, ev_addL, ev_sub, ev_neg, ev_lt, ev_le, ev_gt, ev_ge, ev_eqI, ev_neI, ev_eqB, ev_neB, ev_eqS, ev_neS, ev_and, ev_andT, ev_andF, ev_or, ev_orT, ev_orF, ev_not, ev_not1, ev_tnot, ev_tnot1, ev_tand, ev_tandT, ev_tandF, ev_tor, ev_torT, ev_torF, ev_tb, ev_tb1, ev_yes, ev_ife, ev_ifeT, ev_ifeF, ev_ch, ev_ch1, ev_ch2, ev_ch3T, ev_ch3F, ev_ch4, ev_is, ev_isB, ev_notN, ev_call, ev_call1, ev_own, ev_own_1, ev_own_2, ev_own_3, ev_own_4, ev_own_5, ev_ownK, ev_ownK_1, ev_ownK_01, ev_ownK_10, ev_lenT, ev_lenL, ev_lenO, ev_int, ev_intB, ev_abs, ev_min, ev_max, ev_tupT, ev_tupL, ev_listT, ev_listL, ev_meth, ev_meth2, ev_gN, ev_set, ev_set1, ev_gT, ev_gT2, ev_gT3, ev_gnil, ev_gcons, ev_gcons1, ev_iseq, ev_iseqT, ev_iseqL, ev_iseqO, ev_r1, ev_r2, ev_lrg1, ev_sl, ev_sl1, ev_sl3, ev_sl4, ev_on, ev_os, ev_os1, ev_slT, ev_slL, ev_slO, ev_r3, ix_t0, ix_t1, ix_t2, en_pair, en_int, wipeM, List.map_cons, List.map_nil, List.length_cons, List.length_nil, List.replicate_succ, List.replicate_zero, List.cons_append, List.nil_append, List.append_nil, List.set_cons_zero, List.set_cons_succ, Nat.reduceAdd, Nat.reduceSub, Nat.zero_add, if_true, if_false, reduceIte, Int.reduceEq, Int.reduceLT, Int.reduceLE, Bool.false_eq_true, decide_true, decide_false, Bool.not_true, Bool.not_false, List.getElem?_cons_zero, List.getElem?_cons_succ, ei, q]
    | true =>
      obtain ⟨os, b5, o5, po, eo⟩ := order_spec (n := n) o4 (by omega) hn
      obtain ⟨A', eA⟩ := led_spec (A := A) (h := bagR b5 []) (by omega) hn po
      refine ⟨A', b5, o5, ?_⟩
      simp only [ev_seq, ev_seqN, ev_seqR, ev_seqB, ev_seqC, ev_seqE, ev_nil, ev_brk, ev_cnt, ev_retN, ev_expr, ev_expr1, ev_ret, ev_ret1, ev_if, ev_ifT, ev_ifF, ev_asg, ev_asg1, ev_asg2, ev_par, ev_par1, ev_def, ev_defR, ev_defN, ev_var0, ev_varS, ev_k, ev_anil, ev_acons, ev_acons1, ev_acons2, ev_tup, ev_tup_0, ev_tup_1, ev_tup_2, ev_tup_3, ev_lst, ev_lst_0, ev_lst_1, ev_lst_2, ev_lst_3, ev_mkT, ev_mkF, ev_bin, ev_bin1, ev_bin2, ev_un, ev_un1, ev_add, ev_addT, ev_addL, ev_sub, ev_neg, ev_lt, ev_le, ev_gt, ev_ge, ev_eqI, ev_neI, ev_eqB, ev_neB, ev_eqS, ev_neS, ev_and, ev_andT, ev_andF, ev_or, ev_orT, ev_orF, ev_not, ev_not1, ev_tnot, ev_tnot1, ev_tand, ev_tandT, ev_tandF, ev_tor, ev_torT, ev_torF, ev_tb, ev_tb1, ev_yes, ev_ife, ev_ifeT, ev_ifeF, ev_ch, ev_ch1, ev_ch2, ev_ch3T, ev_ch3F, ev_ch4, ev_is, ev_isB, ev_notN, ev_call, ev_call1, ev_own, ev_own_1, ev_own_2, ev_own_3, ev_own_4, ev_own_5, ev_ownK, ev_ownK_1, ev_ownK_01, ev_ownK_10, ev_lenT, ev_lenL, ev_lenO, ev_int, ev_intB, ev_abs, ev_min, ev_max, ev_tupT, ev_tupL, ev_listT, ev_listL, ev_meth, ev_meth2, ev_gN, ev_set, ev_set1, ev_gT, ev_gT2, ev_gT3, ev_gnil, ev_gcons, ev_gcons1, ev_iseq, ev_iseqT, ev_iseqL, ev_iseqO, ev_r1, ev_r2, ev_lrg1, ev_sl, ev_sl1, ev_sl3, ev_sl4, ev_on, ev_os, ev_os1, ev_slT, ev_slL, ev_slO, ev_r3, ix_t0, ix_t1, ix_t2, en_pair, en_int, wipeM, List.map_cons, List.map_nil, List.length_cons, List.length_nil, List.replicate_succ, List.replicate_zero, List.cons_append, List.nil_append, List.append_nil, List.set_cons_zero, List.set_cons_succ, Nat.reduceAdd, Nat.reduceSub, Nat.zero_add, if_true, if_false, reduceIte, Int.reduceEq, Int.reduceLT, Int.reduceLE, Bool.false_eq_true, decide_true, decide_false, Bool.not_true, Bool.not_false, List.getElem?_cons_zero, List.getElem?_cons_succ, ei, q, eo, eA]
  cases q : decide (1 < j) with
  | false =>
    obtain ⟨A', b4, o4, e4⟩ := tail A1 b2 none o2
    refine ⟨A', b4, o4, bag_val0 ?_ (web_clo _ _) cloH_nil⟩
    unfold F__law_own_web
    simp only [ev_seq, ev_seqN, ev_seqR, ev_seqB, ev_seqC, ev_seqE, ev_nil, ev_brk, ev_cnt, ev_retN, ev_expr, ev_expr1, ev_ret, ev_ret1, ev_if, ev_ifT, ev_ifF, ev_asg, ev_asg1, ev_asg2, ev_par, ev_par1, ev_def, ev_defR, ev_defN, ev_var0, ev_varS, ev_k, ev_anil, ev_acons, ev_acons1, ev_acons2, ev_tup, ev_tup_0, ev_tup_1, ev_tup_2, ev_tup_3, ev_lst, ev_lst_0, ev_lst_1, ev_lst_2, ev_lst_3, ev_mkT, ev_mkF, ev_bin, ev_bin1, ev_bin2, ev_un, ev_un1, ev_add, ev_addT, ev_addL, ev_sub, ev_neg, ev_lt, ev_le, ev_gt, ev_ge, ev_eqI, ev_neI, ev_eqB, ev_neB, ev_eqS, ev_neS, ev_and, ev_andT, ev_andF, ev_or, ev_orT, ev_orF, ev_not, ev_not1, ev_tnot, ev_tnot1, ev_tand, ev_tandT, ev_tandF, ev_tor, ev_torT, ev_torF, ev_tb, ev_tb1, ev_yes, ev_ife, ev_ifeT, ev_ifeF, ev_ch, ev_ch1, ev_ch2, ev_ch3T, ev_ch3F, ev_ch4, ev_is, ev_isB, ev_notN, ev_call, ev_call1, ev_own, ev_own_1, ev_own_2, ev_own_3, ev_own_4, ev_own_5, ev_ownK, ev_ownK_1, ev_ownK_01, ev_ownK_10, ev_lenT, ev_lenL, ev_lenO, ev_int, ev_intB, ev_abs, ev_min, ev_max, ev_tupT, ev_tupL, ev_listT, ev_listL, ev_meth, ev_meth2, ev_gN, ev_set, ev_set1, ev_gT, ev_gT2, ev_gT3, ev_gnil, ev_gcons, ev_gcons1, ev_iseq, ev_iseqT, ev_iseqL, ev_iseqO, ev_r1, ev_r2, ev_lrg1, ev_sl, ev_sl1, ev_sl3, ev_sl4, ev_on, ev_os, ev_os1, ev_slT, ev_slL, ev_slO, ev_r3, ix_t0, ix_t1, ix_t2, en_pair, en_int, wipeM, List.map_cons, List.map_nil, List.length_cons, List.length_nil, List.replicate_succ, List.replicate_zero, List.cons_append, List.nil_append, List.append_nil, List.set_cons_zero, List.set_cons_succ, Nat.reduceAdd, Nat.reduceSub, Nat.zero_add, if_true, if_false, reduceIte, Int.reduceEq, Int.reduceLT, Int.reduceLE, Bool.false_eq_true, decide_true, decide_false, Bool.not_true, Bool.not_false, List.getElem?_cons_zero, List.getElem?_cons_succ, ej, e2, q] at e4 ⊢
    rw [e4]
    simp only [ev_seq, ev_seqN, ev_seqR, ev_seqB, ev_seqC, ev_seqE, ev_nil, ev_brk, ev_cnt, ev_retN, ev_expr, ev_expr1, ev_ret, ev_ret1, ev_if, ev_ifT, ev_ifF, ev_asg, ev_asg1, ev_asg2, ev_par, ev_par1, ev_def, ev_defR, ev_defN, ev_var0, ev_varS, ev_k, ev_anil, ev_acons, ev_acons1, ev_acons2, ev_tup, ev_tup_0, ev_tup_1, ev_tup_2, ev_tup_3, ev_lst, ev_lst_0, ev_lst_1, ev_lst_2, ev_lst_3, ev_mkT, ev_mkF, ev_bin, ev_bin1, ev_bin2, ev_un, ev_un1, ev_add, ev_addT, ev_addL, ev_sub, ev_neg, ev_lt, ev_le, ev_gt, ev_ge, ev_eqI, ev_neI, ev_eqB, ev_neB, ev_eqS, ev_neS, ev_and, ev_andT, ev_andF, ev_or, ev_orT, ev_orF, ev_not, ev_not1, ev_tnot, ev_tnot1, ev_tand, ev_tandT, ev_tandF, ev_tor, ev_torT, ev_torF, ev_tb, ev_tb1, ev_yes, ev_ife, ev_ifeT, ev_ifeF, ev_ch, ev_ch1, ev_ch2, ev_ch3T, ev_ch3F, ev_ch4, ev_is, ev_isB, ev_notN, ev_call, ev_call1, ev_own, ev_own_1, ev_own_2, ev_own_3, ev_own_4, ev_own_5, ev_ownK, ev_ownK_1, ev_ownK_01, ev_ownK_10, ev_lenT, ev_lenL, ev_lenO, ev_int, ev_intB, ev_abs, ev_min, ev_max, ev_tupT, ev_tupL, ev_listT, ev_listL, ev_meth, ev_meth2, ev_gN, ev_set, ev_set1, ev_gT, ev_gT2, ev_gT3, ev_gnil, ev_gcons, ev_gcons1, ev_iseq, ev_iseqT, ev_iseqL, ev_iseqO, ev_r1, ev_r2, ev_lrg1, ev_sl, ev_sl1, ev_sl3, ev_sl4, ev_on, ev_os, ev_os1, ev_slT, ev_slL, ev_slO, ev_r3, ix_t0, ix_t1, ix_t2, en_pair, en_int, wipeM, List.map_cons, List.map_nil, List.length_cons, List.length_nil, List.replicate_succ, List.replicate_zero, List.cons_append, List.nil_append, List.append_nil, List.set_cons_zero, List.set_cons_succ, Nat.reduceAdd, Nat.reduceSub, Nat.zero_add, if_true, if_false, reduceIte, Int.reduceEq, Int.reduceLT, Int.reduceLE, Bool.false_eq_true, decide_true, decide_false, Bool.not_true, Bool.not_false, List.getElem?_cons_zero, List.getElem?_cons_succ]
  | true =>
    -- drawn ties
    have cm : ∃ (l : List Tie) (b3 : Bag), b3.Ok ∧ l.Sublist (pairsL n) ∧ mLc false (iSeq (mOwn 1 f__law_pairs (aCons (mLrg1 false (mVar 1)) aNil))) (gN 4) C1__law_own_web (mVar 4) [4] [some (.loc 1), some (.int n), some (.int j), some (web n A1), none] (bagR b2 []) = .ok (.tmp (l.map en)) (bagR b3 []) := by
      obtain ⟨ys, h', e, l, b3, o3, sl, rfl, rfl⟩ := lcV_pre (g := gN 4) (tt := C1__law_own_web) (te := mVar 4) (ms := [some (.loc 1), some (.int n), some (.int j), some (web n A1), none]) en (pairsL n) (fun pre ys h => ∃ (l : List Tie) (b3 : Bag), b3.Ok ∧ l.Sublist pre ∧ ys = l.map en ∧ h = bagR b3 []) (by
        rintro pre t post ys h e ⟨l, b3, o3, sl, rfl, rfl⟩
        obtain ⟨i, b4, o4, i0, i1, ei⟩ := draw_spec (k := 4) (rest := []) o3 (by omega) (by omega) cloH_nil
        refine ⟨_, _, by simp only [ev_seq, ev_seqN, ev_seqR, ev_seqB, ev_seqC, ev_seqE, ev_nil, ev_brk, ev_cnt, ev_retN, ev_expr, ev_expr1, ev_ret, ev_ret1, ev_if, ev_ifT, ev_ifF, ev_asg, ev_asg1, ev_asg2, ev_par, ev_par1, ev_def, ev_defR, ev_defN, ev_var0, ev_varS, ev_k, ev_anil, ev_acons, ev_acons1, ev_acons2, ev_tup, ev_tup_0, ev_tup_1, ev_tup_2, ev_tup_3, ev_lst, ev_lst_0, ev_lst_1, ev_lst_2, ev_lst_3, ev_mkT, ev_mkF, ev_bin, ev_bin1, ev_bin2, ev_un, ev_un1, ev_add, ev_addT, ev_addL, ev_sub, ev_neg, ev_lt, ev_le, ev_gt, ev_ge, ev_eqI, ev_neI, ev_eqB, ev_neB, ev_eqS, ev_neS, ev_and, ev_andT, ev_andF, ev_or, ev_orT, ev_orF, ev_not, ev_not1, ev_tnot, ev_tnot1, ev_tand, ev_tandT, ev_tandF, ev_tor, ev_torT, ev_torF, ev_tb, ev_tb1, ev_yes, ev_ife, ev_ifeT, ev_ifeF, ev_ch, ev_ch1, ev_ch2, ev_ch3T, ev_ch3F, ev_ch4, ev_is, ev_isB, ev_notN, ev_call, ev_call1, ev_own, ev_own_1, ev_own_2, ev_own_3, ev_own_4, ev_own_5, ev_ownK, ev_ownK_1, ev_ownK_01, ev_ownK_10, ev_lenT, ev_lenL, ev_lenO, ev_int, ev_intB, ev_abs, ev_min, ev_max, ev_tupT, ev_tupL, ev_listT, ev_listL, ev_meth, ev_meth2, ev_gN, ev_set, ev_set1, ev_gT, ev_gT2, ev_gT3, ev_gnil, ev_gcons, ev_gcons1, ev_iseq, ev_iseqT, ev_iseqL, ev_iseqO, ev_r1, ev_r2, ev_lrg1, ev_sl, ev_sl1, ev_sl3, ev_sl4, ev_on, ev_os, ev_os1, ev_slT, ev_slL, ev_slO, ev_r3, ix_t0, ix_t1, ix_t2, en_pair, en_int, wipeM, List.map_cons, List.map_nil, List.length_cons, List.length_nil, List.replicate_succ, List.replicate_zero, List.cons_append, List.nil_append, List.append_nil, List.set_cons_zero, List.set_cons_succ, Nat.reduceAdd, Nat.reduceSub, Nat.zero_add, if_true, if_false, reduceIte, Int.reduceEq, Int.reduceLT, Int.reduceLE, Bool.false_eq_true, decide_true, decide_false, Bool.not_true, Bool.not_false, List.getElem?_cons_zero, List.getElem?_cons_succ] <;> rfl, ?_⟩
        cases q2 : decide (i < j - 1) with
        | false =>
          refine .inl ⟨bagR b4 [], ?_, l, b4, o4, sl.trans (List.sublist_append_left _ _), rfl, rfl⟩
          unfold C1__law_own_web
          simp only [ev_seq, ev_seqN, ev_seqR, ev_seqB, ev_seqC, ev_seqE, ev_nil, ev_brk, ev_cnt, ev_retN, ev_expr, ev_expr1, ev_ret, ev_ret1, ev_if, ev_ifT, ev_ifF, ev_asg, ev_asg1, ev_asg2, ev_par, ev_par1, ev_def, ev_defR, ev_defN, ev_var0, ev_varS, ev_k, ev_anil, ev_acons, ev_acons1, ev_acons2, ev_tup, ev_tup_0, ev_tup_1, ev_tup_2, ev_tup_3, ev_lst, ev_lst_0, ev_lst_1, ev_lst_2, ev_lst_3, ev_mkT, ev_mkF, ev_bin, ev_bin1, ev_bin2, ev_un, ev_un1, ev_add, ev_addT, ev_addL, ev_sub, ev_neg, ev_lt, ev_le, ev_gt, ev_ge, ev_eqI, ev_neI, ev_eqB, ev_neB, ev_eqS, ev_neS, ev_and, ev_andT, ev_andF, ev_or, ev_orT, ev_orF, ev_not, ev_not1, ev_tnot, ev_tnot1, ev_tand, ev_tandT, ev_tandF, ev_tor, ev_torT, ev_torF, ev_tb, ev_tb1, ev_yes, ev_ife, ev_ifeT, ev_ifeF, ev_ch, ev_ch1, ev_ch2, ev_ch3T, ev_ch3F, ev_ch4, ev_is, ev_isB, ev_notN, ev_call, ev_call1, ev_own, ev_own_1, ev_own_2, ev_own_3, ev_own_4, ev_own_5, ev_ownK, ev_ownK_1, ev_ownK_01, ev_ownK_10, ev_lenT, ev_lenL, ev_lenO, ev_int, ev_intB, ev_abs, ev_min, ev_max, ev_tupT, ev_tupL, ev_listT, ev_listL, ev_meth, ev_meth2, ev_gN, ev_set, ev_set1, ev_gT, ev_gT2, ev_gT3, ev_gnil, ev_gcons, ev_gcons1, ev_iseq, ev_iseqT, ev_iseqL, ev_iseqO, ev_r1, ev_r2, ev_lrg1, ev_sl, ev_sl1, ev_sl3, ev_sl4, ev_on, ev_os, ev_os1, ev_slT, ev_slL, ev_slO, ev_r3, ix_t0, ix_t1, ix_t2, en_pair, en_int, wipeM, List.map_cons, List.map_nil, List.length_cons, List.length_nil, List.replicate_succ, List.replicate_zero, List.cons_append, List.nil_append, List.append_nil, List.set_cons_zero, List.set_cons_succ, Nat.reduceAdd, Nat.reduceSub, Nat.zero_add, if_true, if_false, reduceIte, Int.reduceEq, Int.reduceLT, Int.reduceLE, Bool.false_eq_true, decide_true, decide_false, Bool.not_true, Bool.not_false, List.getElem?_cons_zero, List.getElem?_cons_succ, ei, q2]
        | true =>
          refine .inr ⟨bagR b4 [], en t, bagR b4 [], ?_, by simp only [ev_seq, ev_seqN, ev_seqR, ev_seqB, ev_seqC, ev_seqE, ev_nil, ev_brk, ev_cnt, ev_retN, ev_expr, ev_expr1, ev_ret, ev_ret1, ev_if, ev_ifT, ev_ifF, ev_asg, ev_asg1, ev_asg2, ev_par, ev_par1, ev_def, ev_defR, ev_defN, ev_var0, ev_varS, ev_k, ev_anil, ev_acons, ev_acons1, ev_acons2, ev_tup, ev_tup_0, ev_tup_1, ev_tup_2, ev_tup_3, ev_lst, ev_lst_0, ev_lst_1, ev_lst_2, ev_lst_3, ev_mkT, ev_mkF, ev_bin, ev_bin1, ev_bin2, ev_un, ev_un1, ev_add, ev_addT, ev_addL, ev_sub, ev_neg, ev_lt, ev_le, ev_gt, ev_ge, ev_eqI, ev_neI, ev_eqB, ev_neB, ev_eqS, ev_neS, ev_and, ev_andT, ev_andF, ev_or, ev_orT, ev_orF, ev_not, ev_not1, ev_tnot, ev_tnot1, ev_tand, ev_tandT, ev_tandF, ev_tor, ev_torT, ev_torF, ev_tb, ev_tb1, ev_yes, ev_ife, ev_ifeT, ev_ifeF, ev_ch, ev_ch1, ev_ch2, ev_ch3T, ev_ch3F, ev_ch4, ev_is, ev_isB, ev_notN, ev_call, ev_call1, ev_own, ev_own_1, ev_own_2, ev_own_3, ev_own_4, ev_own_5, ev_ownK, ev_ownK_1, ev_ownK_01, ev_ownK_10, ev_lenT, ev_lenL, ev_lenO, ev_int, ev_intB, ev_abs, ev_min, ev_max, ev_tupT, ev_tupL, ev_listT, ev_listL, ev_meth, ev_meth2, ev_gN, ev_set, ev_set1, ev_gT, ev_gT2, ev_gT3, ev_gnil, ev_gcons, ev_gcons1, ev_iseq, ev_iseqT, ev_iseqL, ev_iseqO, ev_r1, ev_r2, ev_lrg1, ev_sl, ev_sl1, ev_sl3, ev_sl4, ev_on, ev_os, ev_os1, ev_slT, ev_slL, ev_slO, ev_r3, ix_t0, ix_t1, ix_t2, en_pair, en_int, wipeM, List.map_cons, List.map_nil, List.length_cons, List.length_nil, List.replicate_succ, List.replicate_zero, List.cons_append, List.nil_append, List.append_nil, List.set_cons_zero, List.set_cons_succ, Nat.reduceAdd, Nat.reduceSub, Nat.zero_add, if_true, if_false, reduceIte, Int.reduceEq, Int.reduceLT, Int.reduceLE, Bool.false_eq_true, decide_true, decide_false, Bool.not_true, Bool.not_false, List.getElem?_cons_zero, List.getElem?_cons_succ], l ++ [t], b4, o4, List.Sublist.append sl (List.Sublist.refl _), by simp, rfl⟩
          unfold C1__law_own_web
          simp only [ev_seq, ev_seqN, ev_seqR, ev_seqB, ev_seqC, ev_seqE, ev_nil, ev_brk, ev_cnt, ev_retN, ev_expr, ev_expr1, ev_ret, ev_ret1, ev_if, ev_ifT, ev_ifF, ev_asg, ev_asg1, ev_asg2, ev_par, ev_par1, ev_def, ev_defR, ev_defN, ev_var0, ev_varS, ev_k, ev_anil, ev_acons, ev_acons1, ev_acons2, ev_tup, ev_tup_0, ev_tup_1, ev_tup_2, ev_tup_3, ev_lst, ev_lst_0, ev_lst_1, ev_lst_2, ev_lst_3, ev_mkT, ev_mkF, ev_bin, ev_bin1, ev_bin2, ev_un, ev_un1, ev_add, ev_addT, ev_addL, ev_sub, ev_neg, ev_lt, ev_le, ev_gt, ev_ge, ev_eqI, ev_neI, ev_eqB, ev_neB, ev_eqS, ev_neS, ev_and, ev_andT, ev_andF, ev_or, ev_orT, ev_orF, ev_not, ev_not1, ev_tnot, ev_tnot1, ev_tand, ev_tandT, ev_tandF, ev_tor, ev_torT, ev_torF, ev_tb, ev_tb1, ev_yes, ev_ife, ev_ifeT, ev_ifeF, ev_ch, ev_ch1, ev_ch2, ev_ch3T, ev_ch3F, ev_ch4, ev_is, ev_isB, ev_notN, ev_call, ev_call1, ev_own, ev_own_1, ev_own_2, ev_own_3, ev_own_4, ev_own_5, ev_ownK, ev_ownK_1, ev_ownK_01, ev_ownK_10, ev_lenT, ev_lenL, ev_lenO, ev_int, ev_intB, ev_abs, ev_min, ev_max, ev_tupT, ev_tupL, ev_listT, ev_listL, ev_meth, ev_meth2, ev_gN, ev_set, ev_set1, ev_gT, ev_gT2, ev_gT3, ev_gnil, ev_gcons, ev_gcons1, ev_iseq, ev_iseqT, ev_iseqL, ev_iseqO, ev_r1, ev_r2, ev_lrg1, ev_sl, ev_sl1, ev_sl3, ev_sl4, ev_on, ev_os, ev_os1, ev_slT, ev_slL, ev_slO, ev_r3, ix_t0, ix_t1, ix_t2, en_pair, en_int, wipeM, List.map_cons, List.map_nil, List.length_cons, List.length_nil, List.replicate_succ, List.replicate_zero, List.cons_append, List.nil_append, List.append_nil, List.set_cons_zero, List.set_cons_succ, Nat.reduceAdd, Nat.reduceSub, Nat.zero_add, if_true, if_false, reduceIte, Int.reduceEq, Int.reduceLT, Int.reduceLE, Bool.false_eq_true, decide_true, decide_false, Bool.not_true, Bool.not_false, List.getElem?_cons_zero, List.getElem?_cons_succ, ei, q2]) (h := bagR b2 []) ⟨[], b2, o2, List.Sublist.refl _, rfl, rfl⟩
      refine ⟨l, b3, o3, sl, ?_⟩
      refine (mLc_eq (xs := (pairsL n).map en) ?_ e ?_).trans rfl
      · simp only [ev_seq, ev_seqN, ev_seqR, ev_seqB, ev_seqC, ev_seqE, ev_nil, ev_brk, ev_cnt, ev_retN, ev_expr, ev_expr1, ev_ret, ev_ret1, ev_if, ev_ifT, ev_ifF, ev_asg, ev_asg1, ev_asg2, ev_par, ev_par1, ev_def, ev_defR, ev_defN, ev_var0, ev_varS, ev_k, ev_anil, ev_acons, ev_acons1, ev_acons2, ev_tup, ev_tup_0, ev_tup_1, ev_tup_2, ev_tup_3, ev_lst, ev_lst_0, ev_lst_1, ev_lst_2, ev_lst_3, ev_mkT, ev_mkF, ev_bin, ev_bin1, ev_bin2, ev_un, ev_un1, ev_add, ev_addT, ev_addL, ev_sub, ev_neg, ev_lt, ev_le, ev_gt, ev_ge, ev_eqI, ev_neI, ev_eqB, ev_neB, ev_eqS, ev_neS, ev_and, ev_andT, ev_andF, ev_or, ev_orT, ev_orF, ev_not, ev_not1, ev_tnot, ev_tnot1, ev_tand, ev_tandT, ev_tandF, ev_tor, ev_torT, ev_torF, ev_tb, ev_tb1, ev_yes, ev_ife, ev_ifeT, ev_ifeF, ev_ch, ev_ch1, ev_ch2, ev_ch3T, ev_ch3F, ev_ch4, ev_is, ev_isB, ev_notN, ev_call, ev_call1, ev_own, ev_own_1, ev_own_2, ev_own_3, ev_own_4, ev_own_5, ev_ownK, ev_ownK_1, ev_ownK_01, ev_ownK_10, ev_lenT, ev_lenL, ev_lenO, ev_int, ev_intB, ev_abs, ev_min, ev_max, ev_tupT, ev_tupL, ev_listT, ev_listL, ev_meth, ev_meth2, ev_gN, ev_set, ev_set1, ev_gT, ev_gT2, ev_gT3, ev_gnil, ev_gcons, ev_gcons1, ev_iseq, ev_iseqT, ev_iseqL, ev_iseqO, ev_r1, ev_r2, ev_lrg1, ev_sl, ev_sl1, ev_sl3, ev_sl4, ev_on, ev_os, ev_os1, ev_slT, ev_slL, ev_slO, ev_r3, ix_t0, ix_t1, ix_t2, en_pair, en_int, wipeM, List.map_cons, List.map_nil, List.length_cons, List.length_nil, List.replicate_succ, List.replicate_zero, List.cons_append, List.nil_append, List.append_nil, List.set_cons_zero, List.set_cons_succ, Nat.reduceAdd, Nat.reduceSub, Nat.zero_add, if_true, if_false, reduceIte, Int.reduceEq, Int.reduceLT, Int.reduceLE, Bool.false_eq_true, decide_true, decide_false, Bool.not_true, Bool.not_false, List.getElem?_cons_zero, List.getElem?_cons_succ, ev_lrg1', hcg, pairs_of_range (by omega : 0 ≤ n) hn]
      · rw [List.length_map]
        exact Nat.le_trans sl.length_le (Nat.le_trans (pairsL_len hn) (by decide))
    obtain ⟨l, b3, o3, sl, e3⟩ := cm
    obtain ⟨A2, eA⟩ := web_of (n := n) (l := l) ((pairsL_sorted n).sublist sl) (fun t ht => by have := sl.subset ht; rw [mem_pairsL] at this; exact this)
    obtain ⟨A', b4, o4, e4⟩ := tail A2 b3 none o3
    refine ⟨A', b4, o4, bag_val0 ?_ (web_clo _ _) cloH_nil⟩
    unfold F__law_own_web
    simp only [ev_seq, ev_seqN, ev_seqR, ev_seqB, ev_seqC, ev_seqE, ev_nil, ev_brk, ev_cnt, ev_retN, ev_expr, ev_expr1, ev_ret, ev_ret1, ev_if, ev_ifT, ev_ifF, ev_asg, ev_asg1, ev_asg2, ev_par, ev_par1, ev_def, ev_defR, ev_defN, ev_var0, ev_varS, ev_k, ev_anil, ev_acons, ev_acons1, ev_acons2, ev_tup, ev_tup_0, ev_tup_1, ev_tup_2, ev_tup_3, ev_lst, ev_lst_0, ev_lst_1, ev_lst_2, ev_lst_3, ev_mkT, ev_mkF, ev_bin, ev_bin1, ev_bin2, ev_un, ev_un1, ev_add, ev_addT, ev_addL, ev_sub, ev_neg, ev_lt, ev_le, ev_gt, ev_ge, ev_eqI, ev_neI, ev_eqB, ev_neB, ev_eqS, ev_neS, ev_and, ev_andT, ev_andF, ev_or, ev_orT, ev_orF, ev_not, ev_not1, ev_tnot, ev_tnot1, ev_tand, ev_tandT, ev_tandF, ev_tor, ev_torT, ev_torF, ev_tb, ev_tb1, ev_yes, ev_ife, ev_ifeT, ev_ifeF, ev_ch, ev_ch1, ev_ch2, ev_ch3T, ev_ch3F, ev_ch4, ev_is, ev_isB, ev_notN, ev_call, ev_call1, ev_own, ev_own_1, ev_own_2, ev_own_3, ev_own_4, ev_own_5, ev_ownK, ev_ownK_1, ev_ownK_01, ev_ownK_10, ev_lenT, ev_lenL, ev_lenO, ev_int, ev_intB, ev_abs, ev_min, ev_max, ev_tupT, ev_tupL, ev_listT, ev_listL, ev_meth, ev_meth2, ev_gN, ev_set, ev_set1, ev_gT, ev_gT2, ev_gT3, ev_gnil, ev_gcons, ev_gcons1, ev_iseq, ev_iseqT, ev_iseqL, ev_iseqO, ev_r1, ev_r2, ev_lrg1, ev_sl, ev_sl1, ev_sl3, ev_sl4, ev_on, ev_os, ev_os1, ev_slT, ev_slL, ev_slO, ev_r3, ix_t0, ix_t1, ix_t2, en_pair, en_int, wipeM, List.map_cons, List.map_nil, List.length_cons, List.length_nil, List.replicate_succ, List.replicate_zero, List.cons_append, List.nil_append, List.append_nil, List.set_cons_zero, List.set_cons_succ, Nat.reduceAdd, Nat.reduceSub, Nat.zero_add, if_true, if_false, reduceIte, Int.reduceEq, Int.reduceLT, Int.reduceLE, Bool.false_eq_true, decide_true, decide_false, Bool.not_true, Bool.not_false, List.getElem?_cons_zero, List.getElem?_cons_succ, ej, e2, q, e3, eA] at e4 ⊢
    rw [e4]
    simp only [ev_seq, ev_seqN, ev_seqR, ev_seqB, ev_seqC, ev_seqE, ev_nil, ev_brk, ev_cnt, ev_retN, ev_expr, ev_expr1, ev_ret, ev_ret1, ev_if, ev_ifT, ev_ifF, ev_asg, ev_asg1, ev_asg2, ev_par, ev_par1, ev_def, ev_defR, ev_defN, ev_var0, ev_varS, ev_k, ev_anil, ev_acons, ev_acons1, ev_acons2, ev_tup, ev_tup_0, ev_tup_1, ev_tup_2, ev_tup_3, ev_lst, ev_lst_0, ev_lst_1, ev_lst_2, ev_lst_3, ev_mkT, ev_mkF, ev_bin, ev_bin1, ev_bin2, ev_un, ev_un1, ev_add, ev_addT, ev_addL, ev_sub, ev_neg, ev_lt, ev_le, ev_gt, ev_ge, ev_eqI, ev_neI, ev_eqB, ev_neB, ev_eqS, ev_neS, ev_and, ev_andT, ev_andF, ev_or, ev_orT, ev_orF, ev_not, ev_not1, ev_tnot, ev_tnot1, ev_tand, ev_tandT, ev_tandF, ev_tor, ev_torT, ev_torF, ev_tb, ev_tb1, ev_yes, ev_ife, ev_ifeT, ev_ifeF, ev_ch, ev_ch1, ev_ch2, ev_ch3T, ev_ch3F, ev_ch4, ev_is, ev_isB, ev_notN, ev_call, ev_call1, ev_own, ev_own_1, ev_own_2, ev_own_3, ev_own_4, ev_own_5, ev_ownK, ev_ownK_1, ev_ownK_01, ev_ownK_10, ev_lenT, ev_lenL, ev_lenO, ev_int, ev_intB, ev_abs, ev_min, ev_max, ev_tupT, ev_tupL, ev_listT, ev_listL, ev_meth, ev_meth2, ev_gN, ev_set, ev_set1, ev_gT, ev_gT2, ev_gT3, ev_gnil, ev_gcons, ev_gcons1, ev_iseq, ev_iseqT, ev_iseqL, ev_iseqO, ev_r1, ev_r2, ev_lrg1, ev_sl, ev_sl1, ev_sl3, ev_sl4, ev_on, ev_os, ev_os1, ev_slT, ev_slL, ev_slO, ev_r3, ix_t0, ix_t1, ix_t2, en_pair, en_int, wipeM, List.map_cons, List.map_nil, List.length_cons, List.length_nil, List.replicate_succ, List.replicate_zero, List.cons_append, List.nil_append, List.append_nil, List.set_cons_zero, List.set_cons_succ, Nat.reduceAdd, Nat.reduceSub, Nat.zero_add, if_true, if_false, reduceIte, Int.reduceEq, Int.reduceLT, Int.reduceLE, Bool.false_eq_true, decide_true, decide_false, Bool.not_true, Bool.not_false, List.getElem?_cons_zero, List.getElem?_cons_succ]
end Tb.K19

set_option Elab.async false
set_option linter.all false
set_option maxRecDepth 100000
namespace Tb.K19
open PySem L2
open En (en da)

/-! ### what is shown -/
structure Shw (d : PyData) (w k : Nat) : Prop where
  sh : d.showable = true
  nd : d.hasDict = false
  ls : d.leavesShort 13 = true
  wt : d.weight ≤ w
  dp : d.depth ≤ k
theorem shw_int {i : Int} (h : i.natAbs < 1024) : Shw (.int i) 10 0 := by
  have h2 : i.natAbs.log2 < 10 := by
    by_cases h0 : i.natAbs = 0
    · rw [h0]; decide
    · exact (Nat.log2_lt h0).mpr h
  refine ⟨by simp only [PyData.showable, decide_eq_true_eq]; omega, by simp only [PyData.hasDict], ?_, ?_, by simp [PyData.depth]⟩
  · simp only [PyData.leavesShort, decide_eq_true_eq]
    exact PyData.shown_int_le (Nat.lt_of_lt_of_le h (by decide))
  · simp only [PyData.weight]
    split <;> omega
theorem shw_all {w k : Nat} : ∀ {xs : List PyData}, (∀ x ∈ xs, Shw x w k) → PyData.showableAll xs = true ∧ PyData.hasDictAll xs = false ∧ PyData.leavesShortAll 13 xs = true ∧ PyData.weightAll xs ≤ xs.length * (w + 1) ∧ PyData.depthAll xs ≤ k
  | [], _ => by simp [PyData.showableAll, PyData.hasDictAll, PyData.leavesShortAll, PyData.weightAll, PyData.depthAll]
  | x :: xs, h => by
    have hx := h x List.mem_cons_self
    obtain ⟨a, b, c, d, e⟩ := shw_all fun y hy => h y (List.mem_cons_of_mem _ hy)
    simp only [PyData.showableAll, PyData.hasDictAll, PyData.leavesShortAll, PyData.weightAll, PyData.depthAll, hx.sh, hx.nd, hx.ls, a, b, c, Bool.and_self, Bool.or_self, true_and, List.length_cons]
    have := hx.wt
    have := hx.dp
    rw [Nat.add_mul, Nat.one_mul]
    omega
theorem shw_tup {w k : Nat} {xs : List PyData} (h : ∀ x ∈ xs, Shw x w k) : Shw (.tuple xs) (xs.length * (w + 1)) (k + 1) := by
  obtain ⟨a, b, c, d, e⟩ := shw_all h
  exact ⟨by simpa only [PyData.showable] using a, by simpa only [PyData.hasDict] using b, by simpa only [PyData.leavesShort] using c, by simpa only [PyData.weight] using d, by simp only [PyData.depth]; omega⟩
theorem shw_lst {w k : Nat} {xs : List PyData} (h : ∀ x ∈ xs, Shw x w k) : Shw (.list xs) (xs.length * (w + 1)) (k + 1) := by
  obtain ⟨a, b, c, d, e⟩ := shw_all h
  exact ⟨by simpa only [PyData.showable] using a, by simpa only [PyData.hasDict] using b, by simpa only [PyData.leavesShort] using c, by simpa only [PyData.weight] using d, by simp only [PyData.depth]; omega⟩
theorem Shw.up {d : PyData} {w k w' k' : Nat} (h : Shw d w k) (hw : w ≤ w') (hk : k ≤ k') : Shw d w' k' := ⟨h.sh, h.nd, h.ls, Nat.le_trans h.wt hw, Nat.le_trans h.dp hk⟩
theorem Shw.ok {d : PyData} {w k : Nat} (h : Shw d w k) (hw : w ≤ 1000000) (hk : k ≤ 32) : cShow d = true := by
  have l := PyData.shown_le 13 (by decide) d h.ls
  have := h.wt
  have := h.dp
  unfold cShow
  simp only [h.sh, h.nd, Bool.not_false, Bool.and_self, Bool.true_and, Bool.and_eq_true, decide_eq_true_eq]
  refine ⟨by omega, Nat.le_trans l ?_⟩
  show _ ≤ 16777216
  omega
theorem shw_web {n : Int} {A : Int → Int → Bool} (h0 : 0 ≤ n) (hn : n ≤ 100) : Shw (da ((n, canon n A) : Int × List Tie)) 470000 3 := by
  have t : ∀ x ∈ (canon n A).map (da (α := Tie)), Shw x 22 1 := fun x hx => by
    obtain ⟨p, hp, rfl⟩ := List.mem_map.mp hx
    rw [mem_canon] at hp
    refine (shw_tup (w := 10) (k := 0) (xs := [.int p.1, .int p.2]) fun y hy => ?_).up (by simp) (by decide)
    rcases List.mem_cons.mp hy with rfl | hy
    · exact shw_int (by omega)
    · rw [List.mem_singleton] at hy; subst hy; exact shw_int (by omega)
  have e := shw_tup t
  rw [List.length_map] at e
  have l := canon_100 A hn
  have e2 : Shw (.tuple ((canon n A).map (da (α := Tie)))) 230000 2 := e.up (by omega) (by decide)
  refine (shw_tup (w := 230000) (k := 2) (xs := [.int n, .tuple ((canon n A).map (da (α := Tie)))]) fun y hy => ?_).up ?_ (by decide)
  · rcases List.mem_cons.mp hy with rfl | hy
    · exact (shw_int (by omega)).up (by decide) (by decide)
    · rw [List.mem_singleton] at hy; subst hy; exact e2
  · show (2 : Nat) * (230000 + 1) ≤ 470000; decide
theorem repr_ok {x : M} {d : PyData} {h : MH} (e : dat h DP x = some d) (c : cShow d = true) : reprM [x] h = .ok (.str d.shown) h := by
  unfold reprM
  simp only [e, c, if_true]
theorem repr_web {n : Int} {A : Int → Int → Bool} {h : MH} (h0 : 0 ≤ n) (hn : n ≤ 100) : reprM [web n A] h = .ok (.str (da ((n, canon n A) : Int × List Tie)).shown) h :=
  repr_ok (En.dat_en h DP (n, canon n A) (by decide)) ((shw_web h0 hn).ok (by decide) (by decide))
theorem repr_two {n : Int} {A B : Int → Int → Bool} {h : MH} (h0 : 0 ≤ n) (hn : n ≤ 100) : ∃ s, ∀ h : MH, reprM [.tmp [web n A, web n B]] h = .ok (.str s) h := by
  refine ⟨_, fun h => repr_ok (dat_tmp (α := Int × List Tie) h [(n, canon n A), (n, canon n B)]) ((shw_lst (w := 470000) (k := 3) fun x hx => ?_).ok (show (2 : Nat) * (470000 + 1) ≤ 1000000 by decide) (by decide))⟩
  obtain ⟨p, hp, rfl⟩ := List.mem_map.mp hx
  rcases List.mem_cons.mp hp with rfl | hp
  · exact shw_web h0 hn
  · rw [List.mem_singleton] at hp; subst hp; exact shw_web h0 hn
/-! ### things that are the same as themselves -/
theorem sm_up : ∀ {k : Nat} {m : M}, Sm k m → Sm (k + 1) m
  | _, _, .int _ i => .int _ i
  | _, _, .non _ => .non _
  | _, _, .tup h hl => .tup (fun x hx => sm_up (h x hx)) hl
theorem sm_ints {k : Nat} {l : List Int} (hl : l.length ≤ LIM) : Sm (k + 1) (.tup (l.map M.int)) := .tup (fun x hx => by
  obtain ⟨i, _, rfl⟩ := List.mem_map.mp hx
  exact .int _ i) (by rw [List.length_map]; exact hl)
theorem sm_tie {k : Nat} (t : Tie) : Sm (k + 1) (en t) := sm_ints (l := [t.1, t.2]) (show (2 : Nat) ≤ LIM by decide)
theorem sm_tr {k : Nat} (t : Tr) : Sm (k + 1) (en t) := sm_ints (l := [t.a, t.b, t.c]) (show (3 : Nat) ≤ LIM by decide)
theorem sm_web {k : Nat} {n : Int} {A : Int → Int → Bool} (hn : n ≤ 100) : Sm (k + 3) (web n A) := by
  refine .tup (fun x hx => ?_) (show (2 : Nat) ≤ LIM by decide)
  rcases List.mem_cons.mp hx with rfl | hx
  · exact .int _ n
  · rw [List.mem_singleton] at hx
    subst hx
    refine .tup (fun x hx => ?_) (by rw [List.length_map]; exact Nat.le_trans (canon_100 A hn) (by decide))
    obtain ⟨t, _, rfl⟩ := List.mem_map.mp hx
    exact sm_tie t
theorem sm_tri {k : Nat} {n : Int} {A : Int → Int → Bool} (hn : n ≤ 100) : Sm (k + 2) (en (tri n A)) := by
  refine .tup (fun x hx => ?_) (by rw [List.length_map]; exact Nat.le_trans (tri_len hn) (by decide))
  obtain ⟨t, _, rfl⟩ := List.mem_map.mp hx
  exact sm_tr t
theorem sm_lot {k : Nat} {n : Int} {A B : Int → Int → Bool} (hn : n ≤ 100) : Sm (k + 1) (lotM n A B) := by
  unfold lotM
  split
  · exact sm_ints (Nat.le_trans (lotD_len hn) (by decide))
  · exact .non _
theorem same7 {m : M} {h : MH} (s : Sm 7 m) : f__law_same [m, m] h = .ok (.bl true) h := same_spec s h
theorem lot_self {n : Int} {A : Int → Int → Bool} : lotM n A A = .tup [] := by
  have e : lotD n A A = [] := by
    unfold lotD
    rw [List.filter_eq_nil_iff]
    intro p _
    simp
  unfold lotM
  rw [e, if_pos (by rfl)]
  rfl
theorem lotD_comm (n : Int) (A B : Int → Int → Bool) : lotD n B A = lotD n A B := by
  unfold lotD
  refine List.filter_congr fun p _ => ?_
  cases A 0 p <;> cases B 0 p <;> rfl
theorem lotM_comm (n : Int) (A B : Int → Int → Bool) : lotM n B A = lotM n A B := by
  unfold lotM
  have h1 := two_graph (n := n) (A := A) (B := B)
  have h2 := two_graph (n := n) (A := B) (B := A)
  by_cases h : tri n B = tri n A
  · rw [if_pos (h1.mp h), if_pos (h2.mp h.symm), lotD_comm]
  · rw [if_neg fun z => h (h1.mpr z), if_neg fun z => h (h2.mpr z).symm]
/-! ### lots -/
def lotsTail : MX := (xSeq (xPar 10 11 (aCons (mOwn 2 f__law_lot_due (aCons (mVar 1) (aCons (mVar 5) aNil))) (aCons (mCall reprM (aCons (mLst false (aCons (mVar 1) (aCons (mVar 5) aNil))) aNil)) aNil)))
  (xSeq (xIf (tB' (mBin neM (mBin notNM (mVar 10) (mK .non)) (mBin eqM (mOwn 1 f__law_triples (aCons (mVar 5) aNil)) (mVar 2)))) (xSeq (xRet (mK (.bl false)))
  xNil) xNil)
  (xSeq (xIf (tOr' (tNot' (tB' (mOwn 2 f__law_same (aCons (mOwn 2 f_turning_lot (aCons (mVar 1) (aCons (mVar 5) aNil))) (aCons (mVar 10) aNil))))) (tNot' (tB' (mOwn 2 f__law_same (aCons (mOwnK [1, 0] 2 f_turning_lot (aCons (mVar 1) (aCons (mVar 5) aNil))) (aCons (mVar 10) aNil)))))) (xSeq (xRet (mK (.bl false)))
  xNil) xNil)
  (xSeq (xIf (tOr' (tNot' (tB' (mOwn 2 f__law_same (aCons (mOwn 1 f_odd_triples (aCons (mVar 5) aNil)) (aCons (mOwn 1 f__law_triples (aCons (mVar 5) aNil)) aNil))))) (tNot' (tB' (mOwn 2 f__law_same (aCons (mOwn 2 f_turning_lot (aCons (mVar 1) (aCons (mVar 1) aNil))) (aCons (mTup aNil) aNil)))))) (xSeq (xRet (mK (.bl false)))
  xNil) xNil)
  (xSeq (xRet (mBin eqM (mCall reprM (aCons (mLst false (aCons (mVar 1) (aCons (mVar 5) aNil))) aNil)) (mVar 11)))
  xNil)))))
theorem lots_tail {n : Int} {A B : Int → Int → Bool} {b : Bag} (h0 : 0 ≤ n) (hn : n ≤ 100) (x3 x4 x6 x7 x8 x9 x10 x11 x12 x13 : Option M) :
    lotsTail [some (.loc 1), some (web n A), some (en (tri n A)), x3, x4, some (web n B), x6, x7, x8, x9, x10, x11, x12, x13] (bagR b []) = .rt (.bl true) (bagR b []) := by
  obtain ⟨s, es⟩ := repr_two (n := n) (A := A) (B := B) (h := []) h0 hn
  have e1 : notNon (lotM n A B) = decide (canon n (flipL A (lotD n A B)) = canon n B) := by
    unfold lotM
    by_cases h : canon n (flipL A (lotD n A B)) = canon n B
    · rw [if_pos h]; simp only [h, decide_true]; rfl
    · rw [if_neg h]; simp only [h, decide_false]; rfl
  have e2 : eqM (en (tri n B)) (en (tri n A)) (bagR b []) = .ok (.bl (decide (canon n (flipL A (lotD n A B)) = canon n B))) (bagR b []) := by
    rw [eqM_en (tri n B) (tri n A)]
    congr 2
    exact decide_eq_decide.mpr two_graph
  have e3 : ∀ q : Bool, (!(q == q)) = false := fun q => by cases q <;> rfl
  have e4 : decide (s = s) = true := by simp
  have e5 : f__law_same [.tup [], .tup []] (bagR b []) = .ok (.bl true) (bagR b []) := same7 (sm_ints (k := 6) (l := []) (by decide))
  unfold lotsTail
  simp only [ev_seq, ev_seqN, ev_seqR, ev_seqB, ev_seqC, ev_seqE, ev_nil, ev_brk, ev_cnt, ev_retN, ev_expr, ev_expr1, ev_ret, ev_ret1, ev_if, ev_ifT, ev_ifF, ev_asg, ev_asg1, ev_asg2, ev_par, ev_par1, ev_def, ev_defR, ev_defN, ev_var0, ev_varS, ev_k, ev_anil, ev_acons, ev_acons1, ev_acons2, ev_tup, ev_tup_0, ev_tup_1, ev_tup_2, ev_tup_3, ev_lst, ev_lst_0, ev_lst_1, ev_lst_2, ev_lst_3, ev_mkT, ev_mkF, ev_bin, ev_bin1, ev_bin2, ev_un, ev_un1, ev_add, ev_addT, ev_addL, ev_sub, ev_neg, ev_lt, ev_le, ev_gt, ev_ge, ev_eqI, ev_neI, ev_eqB, ev_neB, ev_eqS, ev_neS, ev_and, ev_andT, ev_andF, ev_or, ev_orT, ev_orF, ev_not, ev_not1, ev_tnot, ev_tnot1, ev_tand, ev_tandT, ev_tandF, ev_tor, ev_torT, ev_torF, ev_tb, ev_tb1, ev_yes, ev_ife, ev_ifeT, ev_ifeF, ev_ch, ev_ch1, ev_ch2, ev_ch3T, ev_ch3F, ev_ch4, ev_is, ev_isB, ev_notN, ev_call, ev_call1, ev_own, ev_own_1, ev_own_2, ev_own_3, ev_own_4, ev_own_5, ev_ownK, ev_ownK_1, ev_ownK_01, ev_ownK_10, ev_lenT, ev_lenL, ev_lenO, ev_int, ev_intB, ev_abs, ev_min, ev_max, ev_tupT, ev_tupL, ev_listT, ev_listL, ev_meth, ev_meth2, ev_gN, ev_set, ev_set1, ev_gT, ev_gT2, ev_gT3, ev_gnil, ev_gcons, ev_gcons1, ev_iseq, ev_iseqT, ev_iseqL, ev_iseqO, ev_r1, ev_r2, ev_lrg1, ev_sl, ev_sl1, ev_sl3, ev_sl4, ev_on, ev_os, ev_os1, ev_slT, ev_slL, ev_slO, ev_r3, ix_t0, ix_t1, ix_t2, en_pair, en_int, wipeM, List.map_cons, List.map_nil, List.length_cons, List.length_nil, List.replicate_succ, List.replicate_zero, List.cons_append, List.nil_append, List.append_nil, List.set_cons_zero, List.set_cons_succ, Nat.reduceAdd, Nat.reduceSub, Nat.zero_add, if_true, if_false, reduceIte, Int.reduceEq, Int.reduceLT, Int.reduceLE, Bool.false_eq_true, decide_true, decide_false, Bool.not_true, Bool.not_false, List.getElem?_cons_zero, List.getElem?_cons_succ, due_spec hn h0, lot_spec hn h0, tri_spec hn h0, odd_spec hn h0, es, lotM_comm n A B, lot_self, same7 (sm_lot (k := 6) hn), same7 (sm_tri (k := 5) hn), e5, e1, e2, e3, e4]
end Tb.K19

set_option Elab.async false
set_option linter.all false
set_option maxRecDepth 100000
namespace Tb.K19
open PySem L2
open En (en da)

/-- points drawn: [p for p in range(n) if draw(k) == 0] -/
theorem draw_lot {n k : Int} {C : MT} {i : Nat} {ms : MS} {b : Bag} (ok : b.Ok) (hk : 0 < k) (hk2 : k < 1073741824)
    (hC : ∀ (p : Int) (ms' : MS) (b1 b2 : Bag) (j : Int), gN i (.int p) (wipeM ms [i]) (bagR b1 []) = .ok ms' (bagR b1 []) → f__law_draw [.loc 1, .int k] (bagR b1 []) = .ok (.int j) (bagR b2 []) → C ms' (bagR b1 []) = .ok (decide (j = 0)) (bagR b2 []) ∧ mVar i ms' (bagR b2 []) = .ok (.int p) (bagR b2 [])) :
    ∃ (ps : List Int) (b' : Bag), b'.Ok ∧ ps.Sublist (irg 0 n) ∧ lcV (gN i) C (mVar i) (wipeM ms [i]) ((irg 0 n).map M.int) (bagR b []) = .ok (ps.map M.int) (bagR b' []) := by
  obtain ⟨ys, h', e, ps, b3, o3, sl, rfl, rfl⟩ := lcV_pre (g := gN i) (tt := C) (te := mVar i) (ms := wipeM ms [i]) M.int (irg 0 n) (fun pre ys h => ∃ (ps : List Int) (b3 : Bag), b3.Ok ∧ ps.Sublist pre ∧ ys = ps.map M.int ∧ h = bagR b3 []) (by
    rintro pre p post ys h e ⟨ps, b3, o3, sl, rfl, rfl⟩
    obtain ⟨j, b4, o4, j0, j1, ej⟩ := draw_spec (k := k) (rest := []) o3 hk hk2 cloH_nil
    obtain ⟨c1, c2⟩ := hC p _ b3 b4 j rfl ej
    refine ⟨_, _, rfl, ?_⟩
    cases q : decide (j = 0) with
    | false => exact .inl ⟨_, by rw [c1, q], ps, b4, o4, sl.trans (List.sublist_append_left _ _), rfl, rfl⟩
    | true => exact .inr ⟨_, _, _, by rw [c1, q], c2, ps ++ [p], b4, o4, List.Sublist.append sl (List.Sublist.refl _), by simp, rfl⟩) (h := bagR b []) ⟨[], b, ok, List.Sublist.refl _, rfl, rfl⟩
  exact ⟨ps, b3, o3, sl, e⟩
def LOTS1 : MX := (xSeq (xAsg (mOwn 2 f__law_draw (aCons (mVar 0) (aCons (mBin subM (mVar 3) (mK (.int 1))) aNil))) (gN 7))
  (xSeq (xAsg (mTup (aCons (mVar 7) (aCons (mBin (addM false) (mBin (addM false) (mVar 7) (mK (.int 1))) (mOwn 2 f__law_draw (aCons (mVar 0) (aCons (mBin subM (mBin subM (mVar 3) (mK (.int 1))) (mVar 7)) aNil)))) aNil))) (gN 8))
  (xSeq (xAsg (mLc false (iSeq (mBin ixM (mVar 5) (mK (.int 1)))) (gN 13) C1__law_are_lots (mVar 13) [13]) (gN 9))
  (xSeq (xAsg (mTup (aCons (mVar 3) (aCons (mCall tupleM (aCons (mCall (sortM false) (aCons (mBin (addM false) (mVar 9) (mIf (tB' (mBin (inM false) (mVar 8) (mBin ixM (mVar 5) (mK (.int 1))))) (mLst false aNil) (mLst false (aCons (mVar 8) aNil)))) aNil)) aNil)) aNil))) (gN 5))
  xNil))))
def LOTS2 : MX := (xIf (tB' (mBin eqM (mVar 6) (mK (.int 1)))) (xSeq (xAsg (mOwn 2 f__law_own_web (aCons (mVar 0) (aCons (mVar 3) aNil))) (gN 5))
  xNil) xNil)
theorem lots_spec {n : Int} {A : Int → Int → Bool} {b : Bag} (ok : b.Ok) (hn0 : 1 ≤ n) (hn : n ≤ 100) : ∃ b', b'.Ok ∧ f__law_are_lots [.loc 1, web n A, en (tri n A)] (bagR b []) = .ok (.bl true) (bagR b' []) := by
  have hc : cR n = true := cR_ok (by omega) (by omega)
  obtain ⟨ps, b1, o1, sl, e1⟩ := draw_lot (n := n) (k := 2) (C := C2__law_are_lots) (i := 12) (ms := [some (.loc 1), some (web n A), some (en (tri n A)), some (.int n), none, none, none, none, none, none, none, none, none, none]) ok (by decide) (by decide) (by
    intro p ms' b1 b2 j e ej
    simp only [ev_seq, ev_seqN, ev_seqR, ev_seqB, ev_seqC, ev_seqE, ev_nil, ev_brk, ev_cnt, ev_retN, ev_expr, ev_expr1, ev_ret, ev_ret1, ev_if, ev_ifT, ev_ifF, ev_asg, ev_asg1, ev_asg2, ev_par, ev_par1, ev_def, ev_defR, ev_defN, ev_var0, ev_varS, ev_k, ev_anil, ev_acons, ev_acons1, ev_acons2, ev_tup, ev_tup_0, ev_tup_1, ev_tup_2, ev_tup_3, ev_lst, ev_lst_0, ev_lst_1, ev_lst_2, ev_lst_3, ev_mkT, ev_mkF, ev_bin, ev_bin1, ev_bin2, ev_un, ev_un1, ev_add, ev_addT, ev_addL, ev_sub, ev_neg, ev_lt, ev_le, ev_gt, ev_ge, ev_eqI, ev_neI, ev_eqB, ev_neB, ev_eqS, ev_neS, ev_and, ev_andT, ev_andF, ev_or, ev_orT, ev_orF, ev_not, ev_not1, ev_tnot, ev_tnot1, ev_tand, ev_tandT, ev_tandF, ev_tor, ev_torT, ev_torF, ev_tb, ev_tb1, ev_yes, ev_ife, ev_ifeT, ev_ifeF, ev_ch, ev_ch1, ev_ch2, ev_ch3T, ev_ch3F, ev_ch4, ev_is, ev_isB, ev_notN, ev_call, ev_call1, ev_own, ev_own_1, ev_own_2, ev_own_3, ev_own_4, ev_own_5, ev_ownK, ev_ownK_1, ev_ownK_01, ev_ownK_10, ev_lenT, ev_lenL, ev_lenO, ev_int, ev_intB, ev_abs, ev_min, ev_max, ev_tupT, ev_tupL, ev_listT, ev_listL, ev_meth, ev_meth2, ev_gN, ev_set, ev_set1, ev_gT, ev_gT2, ev_gT3, ev_gnil, ev_gcons, ev_gcons1, ev_iseq, ev_iseqT, ev_iseqL, ev_iseqO, ev_r1, ev_r2, ev_lrg1, ev_sl, ev_sl1, ev_sl3, ev_sl4, ev_on, ev_os, ev_os1, ev_slT, ev_slL, ev_slO, ev_r3, ix_t0, ix_t1, ix_t2, en_pair, en_int, wipeM, List.map_cons, List.map_nil, List.length_cons, List.length_nil, List.replicate_succ, List.replicate_zero, List.cons_append, List.nil_append, List.append_nil, List.set_cons_zero, List.set_cons_succ, Nat.reduceAdd, Nat.reduceSub, Nat.zero_add, if_true, if_false, reduceIte, Int.reduceEq, Int.reduceLT, Int.reduceLE, Bool.false_eq_true, decide_true, decide_false, Bool.not_true, Bool.not_false, List.getElem?_cons_zero, List.getElem?_cons_succ] at e
    cases e
    refine ⟨?_, by simp only [ev_seq, ev_seqN, ev_seqR, ev_seqB, ev_seqC, ev_seqE, ev_nil, ev_brk, ev_cnt, ev_retN, ev_expr, ev_expr1, ev_ret, ev_ret1, ev_if, ev_ifT, ev_ifF, ev_asg, ev_asg1, ev_asg2, ev_par, ev_par1, ev_def, ev_defR, ev_defN, ev_var0, ev_varS, ev_k, ev_anil, ev_acons, ev_acons1, ev_acons2, ev_tup, ev_tup_0, ev_tup_1, ev_tup_2, ev_tup_3, ev_lst, ev_lst_0, ev_lst_1, ev_lst_2, ev_lst_3, ev_mkT, ev_mkF, ev_bin, ev_bin1, ev_bin2, ev_un, ev_un1, ev_add, ev_addT, ev_addL, ev_sub, ev_neg, ev_lt, ev_le, ev_gt, ev_ge, ev_eqI, ev_neI, ev_eqB, ev_neB, ev_eqS, ev_neS, ev_and, ev_andT, ev_andF, ev_or, ev_orT, ev_orF, ev_not, ev_not1, ev_tnot, ev_tnot1, ev_tand, ev_tandT, ev_tandF, ev_tor, ev_torT, ev_torF, ev_tb, ev_tb1, ev_yes, ev_ife, ev_ifeT, ev_ifeF, ev_ch, ev_ch1, ev_ch2, ev_ch3T, ev_ch3F, ev_ch4, ev_is, ev_isB, ev_notN, ev_call, ev_call1, ev_own, ev_own_1, ev_own_2, ev_own_3, ev_own_4, ev_own_5, ev_ownK, ev_ownK_1, ev_ownK_01, ev_ownK_10, ev_lenT, ev_lenL, ev_lenO, ev_int, ev_intB, ev_abs, ev_min, ev_max, ev_tupT, ev_tupL, ev_listT, ev_listL, ev_meth, ev_meth2, ev_gN, ev_set, ev_set1, ev_gT, ev_gT2, ev_gT3, ev_gnil, ev_gcons, ev_gcons1, ev_iseq, ev_iseqT, ev_iseqL, ev_iseqO, ev_r1, ev_r2, ev_lrg1, ev_sl, ev_sl1, ev_sl3, ev_sl4, ev_on, ev_os, ev_os1, ev_slT, ev_slL, ev_slO, ev_r3, ix_t0, ix_t1, ix_t2, en_pair, en_int, wipeM, List.map_cons, List.map_nil, List.length_cons, List.length_nil, List.replicate_succ, List.replicate_zero, List.cons_append, List.nil_append, List.append_nil, List.set_cons_zero, List.set_cons_succ, Nat.reduceAdd, Nat.reduceSub, Nat.zero_add, if_true, if_false, reduceIte, Int.reduceEq, Int.reduceLT, Int.reduceLE, Bool.false_eq_true, decide_true, decide_false, Bool.not_true, Bool.not_false, List.getElem?_cons_zero, List.getElem?_cons_succ]⟩
    unfold C2__law_are_lots
    simp only [ev_seq, ev_seqN, ev_seqR, ev_seqB, ev_seqC, ev_seqE, ev_nil, ev_brk, ev_cnt, ev_retN, ev_expr, ev_expr1, ev_ret, ev_ret1, ev_if, ev_ifT, ev_ifF, ev_asg, ev_asg1, ev_asg2, ev_par, ev_par1, ev_def, ev_defR, ev_defN, ev_var0, ev_varS, ev_k, ev_anil, ev_acons, ev_acons1, ev_acons2, ev_tup, ev_tup_0, ev_tup_1, ev_tup_2, ev_tup_3, ev_lst, ev_lst_0, ev_lst_1, ev_lst_2, ev_lst_3, ev_mkT, ev_mkF, ev_bin, ev_bin1, ev_bin2, ev_un, ev_un1, ev_add, ev_addT, ev_addL, ev_sub, ev_neg, ev_lt, ev_le, ev_gt, ev_ge, ev_eqI, ev_neI, ev_eqB, ev_neB, ev_eqS, ev_neS, ev_and, ev_andT, ev_andF, ev_or, ev_orT, ev_orF, ev_not, ev_not1, ev_tnot, ev_tnot1, ev_tand, ev_tandT, ev_tandF, ev_tor, ev_torT, ev_torF, ev_tb, ev_tb1, ev_yes, ev_ife, ev_ifeT, ev_ifeF, ev_ch, ev_ch1, ev_ch2, ev_ch3T, ev_ch3F, ev_ch4, ev_is, ev_isB, ev_notN, ev_call, ev_call1, ev_own, ev_own_1, ev_own_2, ev_own_3, ev_own_4, ev_own_5, ev_ownK, ev_ownK_1, ev_ownK_01, ev_ownK_10, ev_lenT, ev_lenL, ev_lenO, ev_int, ev_intB, ev_abs, ev_min, ev_max, ev_tupT, ev_tupL, ev_listT, ev_listL, ev_meth, ev_meth2, ev_gN, ev_set, ev_set1, ev_gT, ev_gT2, ev_gT3, ev_gnil, ev_gcons, ev_gcons1, ev_iseq, ev_iseqT, ev_iseqL, ev_iseqO, ev_r1, ev_r2, ev_lrg1, ev_sl, ev_sl1, ev_sl3, ev_sl4, ev_on, ev_os, ev_os1, ev_slT, ev_slL, ev_slO, ev_r3, ix_t0, ix_t1, ix_t2, en_pair, en_int, wipeM, List.map_cons, List.map_nil, List.length_cons, List.length_nil, List.replicate_succ, List.replicate_zero, List.cons_append, List.nil_append, List.append_nil, List.set_cons_zero, List.set_cons_succ, Nat.reduceAdd, Nat.reduceSub, Nat.zero_add, if_true, if_false, reduceIte, Int.reduceEq, Int.reduceLT, Int.reduceLE, Bool.false_eq_true, decide_true, decide_false, Bool.not_true, Bool.not_false, List.getElem?_cons_zero, List.getElem?_cons_succ, ej])
  have hin : ∀ p ∈ ps, 0 ≤ p ∧ p < n := fun p hp => mem_irg.mp (sl.subset hp)
  have c1 : mLc false (iRange1 (aCons (mVar 3) aNil)) (gN 12) C2__law_are_lots (mVar 12) [12] [some (.loc 1), some (web n A), some (en (tri n A)), some (.int n), none, none, none, none, none, none, none, none, none, none] (bagR b []) = .ok (.tmp (ps.map M.int)) (bagR b1 []) := by
    refine (mLc_eq (xs := (irg 0 n).map M.int) (by simp only [ev_seq, ev_seqN, ev_seqR, ev_seqB, ev_seqC, ev_seqE, ev_nil, ev_brk, ev_cnt, ev_retN, ev_expr, ev_expr1, ev_ret, ev_ret1, ev_if, ev_ifT, ev_ifF, ev_asg, ev_asg1, ev_asg2, ev_par, ev_par1, ev_def, ev_defR, ev_defN, ev_var0, ev_varS, ev_k, ev_anil, ev_acons, ev_acons1, ev_acons2, ev_tup, ev_tup_0, ev_tup_1, ev_tup_2, ev_tup_3, ev_lst, ev_lst_0, ev_lst_1, ev_lst_2, ev_lst_3, ev_mkT, ev_mkF, ev_bin, ev_bin1, ev_bin2, ev_un, ev_un1, ev_add, ev_addT, ev_addL, ev_sub, ev_neg, ev_lt, ev_le, ev_gt, ev_ge, ev_eqI, ev_neI, ev_eqB, ev_neB, ev_eqS, ev_neS, ev_and, ev_andT, ev_andF, ev_or, ev_orT, ev_orF, ev_not, ev_not1, ev_tnot, ev_tnot1, ev_tand, ev_tandT, ev_tandF, ev_tor, ev_torT, ev_torF, ev_tb, ev_tb1, ev_yes, ev_ife, ev_ifeT, ev_ifeF, ev_ch, ev_ch1, ev_ch2, ev_ch3T, ev_ch3F, ev_ch4, ev_is, ev_isB, ev_notN, ev_call, ev_call1, ev_own, ev_own_1, ev_own_2, ev_own_3, ev_own_4, ev_own_5, ev_ownK, ev_ownK_1, ev_ownK_01, ev_ownK_10, ev_lenT, ev_lenL, ev_lenO, ev_int, ev_intB, ev_abs, ev_min, ev_max, ev_tupT, ev_tupL, ev_listT, ev_listL, ev_meth, ev_meth2, ev_gN, ev_set, ev_set1, ev_gT, ev_gT2, ev_gT3, ev_gnil, ev_gcons, ev_gcons1, ev_iseq, ev_iseqT, ev_iseqL, ev_iseqO, ev_r1, ev_r2, ev_lrg1, ev_sl, ev_sl1, ev_sl3, ev_sl4, ev_on, ev_os, ev_os1, ev_slT, ev_slL, ev_slO, ev_r3, ix_t0, ix_t1, ix_t2, en_pair, en_int, wipeM, List.map_cons, List.map_nil, List.length_cons, List.length_nil, List.replicate_succ, List.replicate_zero, List.cons_append, List.nil_append, List.append_nil, List.set_cons_zero, List.set_cons_succ, Nat.reduceAdd, Nat.reduceSub, Nat.zero_add, if_true, if_false, reduceIte, Int.reduceEq, Int.reduceLT, Int.reduceLE, Bool.false_eq_true, decide_true, decide_false, Bool.not_true, Bool.not_false, List.getElem?_cons_zero, List.getElem?_cons_succ, ev_r1', hc] <;> rfl) e1 ?_).trans rfl
    have := sl.length_le
    rw [irg_length] at this
    rw [List.length_map]
    exact Nat.le_trans (by omega : _ ≤ 100) (by decide)
  obtain ⟨w, b2, o2, w0, w1, e2⟩ := draw_spec (k := 4) (rest := []) o1 (by omega) (by omega) cloH_nil
  -- the tail
  have fin : ∀ (b' : Bag), b'.Ok → F__law_are_lots [.loc 1, web n A, en (tri n A)] (bagR b []) = .ok (.bl true) (bagR b' []) → ∃ b', b'.Ok ∧ f__law_are_lots [.loc 1, web n A, en (tri n A)] (bagR b []) = .ok (.bl true) (bagR b' []) := fun b' o e => ⟨b', o, bag_val0 e (by simp [clo]) cloH_nil⟩
  have go : F__law_are_lots [.loc 1, web n A, en (tri n A)] (bagR b []) = sDef (sSeq (sIf (sTAnd (.ok (decide (w = 0)) (bagR b2 [])) (tB' (mBin gtM (mVar 3) (mK (.int 1)))) [some (.loc 1), some (web n A), some (en (tri n A)), some (.int n), some (.tmp (ps.map M.int)), some (web n (flipL A ps)), some (.int w), none, none, none, none, none, none, none]) LOTS1 xNil [some (.loc 1), some (web n A), some (en (tri n A)), some (.int n), some (.tmp (ps.map M.int)), some (web n (flipL A ps)), some (.int w), none, none, none, none, none, none, none]) (xSeq LOTS2 lotsTail)) := by
    unfold F__law_are_lots lotsTail
    simp only [ev_seq, ev_seqN, ev_seqR, ev_seqB, ev_seqC, ev_seqE, ev_nil, ev_brk, ev_cnt, ev_retN, ev_expr, ev_expr1, ev_ret, ev_ret1, ev_if, ev_ifT, ev_ifF, ev_asg, ev_asg1, ev_asg2, ev_par, ev_par1, ev_def, ev_defR, ev_defN, ev_var0, ev_varS, ev_k, ev_anil, ev_acons, ev_acons1, ev_acons2, ev_tup, ev_tup_0, ev_tup_1, ev_tup_2, ev_tup_3, ev_lst, ev_lst_0, ev_lst_1, ev_lst_2, ev_lst_3, ev_mkT, ev_mkF, ev_bin, ev_bin1, ev_bin2, ev_un, ev_un1, ev_add, ev_addT, ev_addL, ev_sub, ev_neg, ev_lt, ev_le, ev_gt, ev_ge, ev_eqI, ev_neI, ev_eqB, ev_neB, ev_eqS, ev_neS, ev_and, ev_andT, ev_andF, ev_or, ev_orT, ev_orF, ev_not, ev_not1, ev_tnot, ev_tnot1, ev_tand, ev_tandT, ev_tandF, ev_tor, ev_torT, ev_torF, ev_tb, ev_tb1, ev_yes, ev_ife, ev_ifeT, ev_ifeF, ev_ch, ev_ch1, ev_ch2, ev_ch3T, ev_ch3F, ev_ch4, ev_is, ev_isB, ev_notN, ev_call, ev_call1, ev_own, ev_own_1, ev_own_2, ev_own_3, ev_own_4, ev_own_5, ev_ownK, ev_ownK_1, ev_ownK_01, ev_ownK_10, ev_lenT, ev_lenL, ev_lenO, ev_int, ev_intB, ev_abs, ev_min, ev_max, ev_tupT, ev_tupL, ev_listT, ev_listL, ev_meth, ev_meth2, ev_gN, ev_set, ev_set1, ev_gT, ev_gT2, ev_gT3, ev_gnil, ev_gcons, ev_gcons1, ev_iseq, ev_iseqT, ev_iseqL, ev_iseqO, ev_r1, ev_r2, ev_lrg1, ev_sl, ev_sl1, ev_sl3, ev_sl4, ev_on, ev_os, ev_os1, ev_slT, ev_slL, ev_slO, ev_r3, ix_t0, ix_t1, ix_t2, en_pair, en_int, wipeM, List.map_cons, List.map_nil, List.length_cons, List.length_nil, List.replicate_succ, List.replicate_zero, List.cons_append, List.nil_append, List.append_nil, List.set_cons_zero, List.set_cons_succ, Nat.reduceAdd, Nat.reduceSub, Nat.zero_add, if_true, if_false, reduceIte, Int.reduceEq, Int.reduceLT, Int.reduceLE, Bool.false_eq_true, decide_true, decide_false, Bool.not_true, Bool.not_false, List.getElem?_cons_zero, List.getElem?_cons_succ, web_ix0, c1, along_tmp hn hin, e2]
    rfl
  by_cases hw1 : w = 1
  · subst hw1
    obtain ⟨B, b3, o3, e3⟩ := own_web_spec o2 hn0 hn
    refine fin b3 o3 ?_
    rw [go]
    simp only [ev_seq, ev_seqN, ev_seqR, ev_seqB, ev_seqC, ev_seqE, ev_nil, ev_brk, ev_cnt, ev_retN, ev_expr, ev_expr1, ev_ret, ev_ret1, ev_if, ev_ifT, ev_ifF, ev_asg, ev_asg1, ev_asg2, ev_par, ev_par1, ev_def, ev_defR, ev_defN, ev_var0, ev_varS, ev_k, ev_anil, ev_acons, ev_acons1, ev_acons2, ev_tup, ev_tup_0, ev_tup_1, ev_tup_2, ev_tup_3, ev_lst, ev_lst_0, ev_lst_1, ev_lst_2, ev_lst_3, ev_mkT, ev_mkF, ev_bin, ev_bin1, ev_bin2, ev_un, ev_un1, ev_add, ev_addT, ev_addL, ev_sub, ev_neg, ev_lt, ev_le, ev_gt, ev_ge, ev_eqI, ev_neI, ev_eqB, ev_neB, ev_eqS, ev_neS, ev_and, ev_andT, ev_andF, ev_or, ev_orT, ev_orF, ev_not, ev_not1, ev_tnot, ev_tnot1, ev_tand, ev_tandT, ev_tandF, ev_tor, ev_torT, ev_torF, ev_tb, ev_tb1, ev_yes, ev_ife, ev_ifeT, ev_ifeF, ev_ch, ev_ch1, ev_ch2, ev_ch3T, ev_ch3F, ev_ch4, ev_is, ev_isB, ev_notN, ev_call, ev_call1, ev_own, ev_own_1, ev_own_2, ev_own_3, ev_own_4, ev_own_5, ev_ownK, ev_ownK_1, ev_ownK_01, ev_ownK_10, ev_lenT, ev_lenL, ev_lenO, ev_int, ev_intB, ev_abs, ev_min, ev_max, ev_tupT, ev_tupL, ev_listT, ev_listL, ev_meth, ev_meth2, ev_gN, ev_set, ev_set1, ev_gT, ev_gT2, ev_gT3, ev_gnil, ev_gcons, ev_gcons1, ev_iseq, ev_iseqT, ev_iseqL, ev_iseqO, ev_r1, ev_r2, ev_lrg1, ev_sl, ev_sl1, ev_sl3, ev_sl4, ev_on, ev_os, ev_os1, ev_slT, ev_slL, ev_slO, ev_r3, ix_t0, ix_t1, ix_t2, en_pair, en_int, wipeM, List.map_cons, List.map_nil, List.length_cons, List.length_nil, List.replicate_succ, List.replicate_zero, List.cons_append, List.nil_append, List.append_nil, List.set_cons_zero, List.set_cons_succ, Nat.reduceAdd, Nat.reduceSub, Nat.zero_add, if_true, if_false, reduceIte, Int.reduceEq, Int.reduceLT, Int.reduceLE, Bool.false_eq_true, decide_true, decide_false, Bool.not_true, Bool.not_false, List.getElem?_cons_zero, List.getElem?_cons_succ, e3, LOTS2, lots_tail (by omega : 0 ≤ n) hn]
  · have hd1 : decide (w = 1) = false := by simp [hw1]
    by_cases hw0 : w = 0 ∧ 1 < n
    · obtain ⟨rfl, h1n⟩ := hw0
      have hg : decide (1 < n) = true := by simp [h1n]
      obtain ⟨u, b3, o3, u0, u1, e3⟩ := draw_spec (k := n - 1) (rest := []) o2 (by omega) (by omega) cloH_nil
      obtain ⟨v, b4, o4, v0, v1, e4⟩ := draw_spec (k := n - 1 - u) (rest := []) o3 (by omega) (by omega) cloH_nil
      refine fin b4 o4 ?_
      rw [go]
      let E := canon n (flipL A ps)
      let pr : Tie := (u, u + 1 + v)
      have c2 : ∀ (x4 x9 x10 x11 x12 : Option M), mLc false (iSeq (mBin ixM (mVar 5) (mK (.int 1)))) (gN 13) C1__law_are_lots (mVar 13) [13] [some (.loc 1), some (web n A), some (en (tri n A)), some (.int n), x4, some (web n (flipL A ps)), some (.int 0), some (.int u), some (.tup [.int u, .int (u + 1 + v)]), x9, x10, x11, x12, none] (bagR b4 []) = .ok (.tmp ((E.filter fun t => !decide (t = pr)).map en)) (bagR b4 []) := fun x4 x9 x10 x11 x12 => by
        refine (mLc_pure (as := E) en (fun t => !decide (t = pr)) en (by simp only [ev_seq, ev_seqN, ev_seqR, ev_seqB, ev_seqC, ev_seqE, ev_nil, ev_brk, ev_cnt, ev_retN, ev_expr, ev_expr1, ev_ret, ev_ret1, ev_if, ev_ifT, ev_ifF, ev_asg, ev_asg1, ev_asg2, ev_par, ev_par1, ev_def, ev_defR, ev_defN, ev_var0, ev_varS, ev_k, ev_anil, ev_acons, ev_acons1, ev_acons2, ev_tup, ev_tup_0, ev_tup_1, ev_tup_2, ev_tup_3, ev_lst, ev_lst_0, ev_lst_1, ev_lst_2, ev_lst_3, ev_mkT, ev_mkF, ev_bin, ev_bin1, ev_bin2, ev_un, ev_un1, ev_add, ev_addT, ev_addL, ev_sub, ev_neg, ev_lt, ev_le, ev_gt, ev_ge, ev_eqI, ev_neI, ev_eqB, ev_neB, ev_eqS, ev_neS, ev_and, ev_andT, ev_andF, ev_or, ev_orT, ev_orF, ev_not, ev_not1, ev_tnot, ev_tnot1, ev_tand, ev_tandT, ev_tandF, ev_tor, ev_torT, ev_torF, ev_tb, ev_tb1, ev_yes, ev_ife, ev_ifeT, ev_ifeF, ev_ch, ev_ch1, ev_ch2, ev_ch3T, ev_ch3F, ev_ch4, ev_is, ev_isB, ev_notN, ev_call, ev_call1, ev_own, ev_own_1, ev_own_2, ev_own_3, ev_own_4, ev_own_5, ev_ownK, ev_ownK_1, ev_ownK_01, ev_ownK_10, ev_lenT, ev_lenL, ev_lenO, ev_int, ev_intB, ev_abs, ev_min, ev_max, ev_tupT, ev_tupL, ev_listT, ev_listL, ev_meth, ev_meth2, ev_gN, ev_set, ev_set1, ev_gT, ev_gT2, ev_gT3, ev_gnil, ev_gcons, ev_gcons1, ev_iseq, ev_iseqT, ev_iseqL, ev_iseqO, ev_r1, ev_r2, ev_lrg1, ev_sl, ev_sl1, ev_sl3, ev_sl4, ev_on, ev_os, ev_os1, ev_slT, ev_slL, ev_slO, ev_r3, ix_t0, ix_t1, ix_t2, en_pair, en_int, wipeM, List.map_cons, List.map_nil, List.length_cons, List.length_nil, List.replicate_succ, List.replicate_zero, List.cons_append, List.nil_append, List.append_nil, List.set_cons_zero, List.set_cons_succ, Nat.reduceAdd, Nat.reduceSub, Nat.zero_add, if_true, if_false, reduceIte, Int.reduceEq, Int.reduceLT, Int.reduceLE, Bool.false_eq_true, decide_true, decide_false, Bool.not_true, Bool.not_false, List.getElem?_cons_zero, List.getElem?_cons_succ, web_ix1, En.en] <;> rfl) ?_ (Nat.le_trans (canon_100 _ hn) (by decide))).trans rfl
        intro t _
        refine ⟨_, by simp only [ev_seq, ev_seqN, ev_seqR, ev_seqB, ev_seqC, ev_seqE, ev_nil, ev_brk, ev_cnt, ev_retN, ev_expr, ev_expr1, ev_ret, ev_ret1, ev_if, ev_ifT, ev_ifF, ev_asg, ev_asg1, ev_asg2, ev_par, ev_par1, ev_def, ev_defR, ev_defN, ev_var0, ev_varS, ev_k, ev_anil, ev_acons, ev_acons1, ev_acons2, ev_tup, ev_tup_0, ev_tup_1, ev_tup_2, ev_tup_3, ev_lst, ev_lst_0, ev_lst_1, ev_lst_2, ev_lst_3, ev_mkT, ev_mkF, ev_bin, ev_bin1, ev_bin2, ev_un, ev_un1, ev_add, ev_addT, ev_addL, ev_sub, ev_neg, ev_lt, ev_le, ev_gt, ev_ge, ev_eqI, ev_neI, ev_eqB, ev_neB, ev_eqS, ev_neS, ev_and, ev_andT, ev_andF, ev_or, ev_orT, ev_orF, ev_not, ev_not1, ev_tnot, ev_tnot1, ev_tand, ev_tandT, ev_tandF, ev_tor, ev_torT, ev_torF, ev_tb, ev_tb1, ev_yes, ev_ife, ev_ifeT, ev_ifeF, ev_ch, ev_ch1, ev_ch2, ev_ch3T, ev_ch3F, ev_ch4, ev_is, ev_isB, ev_notN, ev_call, ev_call1, ev_own, ev_own_1, ev_own_2, ev_own_3, ev_own_4, ev_own_5, ev_ownK, ev_ownK_1, ev_ownK_01, ev_ownK_10, ev_lenT, ev_lenL, ev_lenO, ev_int, ev_intB, ev_abs, ev_min, ev_max, ev_tupT, ev_tupL, ev_listT, ev_listL, ev_meth, ev_meth2, ev_gN, ev_set, ev_set1, ev_gT, ev_gT2, ev_gT3, ev_gnil, ev_gcons, ev_gcons1, ev_iseq, ev_iseqT, ev_iseqL, ev_iseqO, ev_r1, ev_r2, ev_lrg1, ev_sl, ev_sl1, ev_sl3, ev_sl4, ev_on, ev_os, ev_os1, ev_slT, ev_slL, ev_slO, ev_r3, ix_t0, ix_t1, ix_t2, en_pair, en_int, wipeM, List.map_cons, List.map_nil, List.length_cons, List.length_nil, List.replicate_succ, List.replicate_zero, List.cons_append, List.nil_append, List.append_nil, List.set_cons_zero, List.set_cons_succ, Nat.reduceAdd, Nat.reduceSub, Nat.zero_add, if_true, if_false, reduceIte, Int.reduceEq, Int.reduceLT, Int.reduceLE, Bool.false_eq_true, decide_true, decide_false, Bool.not_true, Bool.not_false, List.getElem?_cons_zero, List.getElem?_cons_succ] <;> rfl, ?_, fun _ => by simp only [ev_seq, ev_seqN, ev_seqR, ev_seqB, ev_seqC, ev_seqE, ev_nil, ev_brk, ev_cnt, ev_retN, ev_expr, ev_expr1, ev_ret, ev_ret1, ev_if, ev_ifT, ev_ifF, ev_asg, ev_asg1, ev_asg2, ev_par, ev_par1, ev_def, ev_defR, ev_defN, ev_var0, ev_varS, ev_k, ev_anil, ev_acons, ev_acons1, ev_acons2, ev_tup, ev_tup_0, ev_tup_1, ev_tup_2, ev_tup_3, ev_lst, ev_lst_0, ev_lst_1, ev_lst_2, ev_lst_3, ev_mkT, ev_mkF, ev_bin, ev_bin1, ev_bin2, ev_un, ev_un1, ev_add, ev_addT, ev_addL, ev_sub, ev_neg, ev_lt, ev_le, ev_gt, ev_ge, ev_eqI, ev_neI, ev_eqB, ev_neB, ev_eqS, ev_neS, ev_and, ev_andT, ev_andF, ev_or, ev_orT, ev_orF, ev_not, ev_not1, ev_tnot, ev_tnot1, ev_tand, ev_tandT, ev_tandF, ev_tor, ev_torT, ev_torF, ev_tb, ev_tb1, ev_yes, ev_ife, ev_ifeT, ev_ifeF, ev_ch, ev_ch1, ev_ch2, ev_ch3T, ev_ch3F, ev_ch4, ev_is, ev_isB, ev_notN, ev_call, ev_call1, ev_own, ev_own_1, ev_own_2, ev_own_3, ev_own_4, ev_own_5, ev_ownK, ev_ownK_1, ev_ownK_01, ev_ownK_10, ev_lenT, ev_lenL, ev_lenO, ev_int, ev_intB, ev_abs, ev_min, ev_max, ev_tupT, ev_tupL, ev_listT, ev_listL, ev_meth, ev_meth2, ev_gN, ev_set, ev_set1, ev_gT, ev_gT2, ev_gT3, ev_gnil, ev_gcons, ev_gcons1, ev_iseq, ev_iseqT, ev_iseqL, ev_iseqO, ev_r1, ev_r2, ev_lrg1, ev_sl, ev_sl1, ev_sl3, ev_sl4, ev_on, ev_os, ev_os1, ev_slT, ev_slL, ev_slO, ev_r3, ix_t0, ix_t1, ix_t2, en_pair, en_int, wipeM, List.map_cons, List.map_nil, List.length_cons, List.length_nil, List.replicate_succ, List.replicate_zero, List.cons_append, List.nil_append, List.append_nil, List.set_cons_zero, List.set_cons_succ, Nat.reduceAdd, Nat.reduceSub, Nat.zero_add, if_true, if_false, reduceIte, Int.reduceEq, Int.reduceLT, Int.reduceLE, Bool.false_eq_true, decide_true, decide_false, Bool.not_true, Bool.not_false, List.getElem?_cons_zero, List.getElem?_cons_succ]⟩
        unfold C1__law_are_lots
        have := neM_en t pr (bagR b4 [])
        simp only [ev_seq, ev_seqN, ev_seqR, ev_seqB, ev_seqC, ev_seqE, ev_nil, ev_brk, ev_cnt, ev_retN, ev_expr, ev_expr1, ev_ret, ev_ret1, ev_if, ev_ifT, ev_ifF, ev_asg, ev_asg1, ev_asg2, ev_par, ev_par1, ev_def, ev_defR, ev_defN, ev_var0, ev_varS, ev_k, ev_anil, ev_acons, ev_acons1, ev_acons2, ev_tup, ev_tup_0, ev_tup_1, ev_tup_2, ev_tup_3, ev_lst, ev_lst_0, ev_lst_1, ev_lst_2, ev_lst_3, ev_mkT, ev_mkF, ev_bin, ev_bin1, ev_bin2, ev_un, ev_un1, ev_add, ev_addT, ev_addL, ev_sub, ev_neg, ev_lt, ev_le, ev_gt, ev_ge, ev_eqI, ev_neI, ev_eqB, ev_neB, ev_eqS, ev_neS, ev_and, ev_andT, ev_andF, ev_or, ev_orT, ev_orF, ev_not, ev_not1, ev_tnot, ev_tnot1, ev_tand, ev_tandT, ev_tandF, ev_tor, ev_torT, ev_torF, ev_tb, ev_tb1, ev_yes, ev_ife, ev_ifeT, ev_ifeF, ev_ch, ev_ch1, ev_ch2, ev_ch3T, ev_ch3F, ev_ch4, ev_is, ev_isB, ev_notN, ev_call, ev_call1, ev_own, ev_own_1, ev_own_2, ev_own_3, ev_own_4, ev_own_5, ev_ownK, ev_ownK_1, ev_ownK_01, ev_ownK_10, ev_lenT, ev_lenL, ev_lenO, ev_int, ev_intB, ev_abs, ev_min, ev_max, ev_tupT, ev_tupL, ev_listT, ev_listL, ev_meth, ev_meth2, ev_gN, ev_set, ev_set1, ev_gT, ev_gT2, ev_gT3, ev_gnil, ev_gcons, ev_gcons1, ev_iseq, ev_iseqT, ev_iseqL, ev_iseqO, ev_r1, ev_r2, ev_lrg1, ev_sl, ev_sl1, ev_sl3, ev_sl4, ev_on, ev_os, ev_os1, ev_slT, ev_slL, ev_slO, ev_r3, ix_t0, ix_t1, ix_t2, en_pair, en_int, wipeM, List.map_cons, List.map_nil, List.length_cons, List.length_nil, List.replicate_succ, List.replicate_zero, List.cons_append, List.nil_append, List.append_nil, List.set_cons_zero, List.set_cons_succ, Nat.reduceAdd, Nat.reduceSub, Nat.zero_add, if_true, if_false, reduceIte, Int.reduceEq, Int.reduceLT, Int.reduceLE, Bool.false_eq_true, decide_true, decide_false, Bool.not_true, Bool.not_false, List.getElem?_cons_zero, List.getElem?_cons_succ]
        rw [show (M.tup [.int u, .int (u + 1 + v)]) = en pr from rfl, this]
        simp only [ev_seq, ev_seqN, ev_seqR, ev_seqB, ev_seqC, ev_seqE, ev_nil, ev_brk, ev_cnt, ev_retN, ev_expr, ev_expr1, ev_ret, ev_ret1, ev_if, ev_ifT, ev_ifF, ev_asg, ev_asg1, ev_asg2, ev_par, ev_par1, ev_def, ev_defR, ev_defN, ev_var0, ev_varS, ev_k, ev_anil, ev_acons, ev_acons1, ev_acons2, ev_tup, ev_tup_0, ev_tup_1, ev_tup_2, ev_tup_3, ev_lst, ev_lst_0, ev_lst_1, ev_lst_2, ev_lst_3, ev_mkT, ev_mkF, ev_bin, ev_bin1, ev_bin2, ev_un, ev_un1, ev_add, ev_addT, ev_addL, ev_sub, ev_neg, ev_lt, ev_le, ev_gt, ev_ge, ev_eqI, ev_neI, ev_eqB, ev_neB, ev_eqS, ev_neS, ev_and, ev_andT, ev_andF, ev_or, ev_orT, ev_orF, ev_not, ev_not1, ev_tnot, ev_tnot1, ev_tand, ev_tandT, ev_tandF, ev_tor, ev_torT, ev_torF, ev_tb, ev_tb1, ev_yes, ev_ife, ev_ifeT, ev_ifeF, ev_ch, ev_ch1, ev_ch2, ev_ch3T, ev_ch3F, ev_ch4, ev_is, ev_isB, ev_notN, ev_call, ev_call1, ev_own, ev_own_1, ev_own_2, ev_own_3, ev_own_4, ev_own_5, ev_ownK, ev_ownK_1, ev_ownK_01, ev_ownK_10, ev_lenT, ev_lenL, ev_lenO, ev_int, ev_intB, ev_abs, ev_min, ev_max, ev_tupT, ev_tupL, ev_listT, ev_listL, ev_meth, ev_meth2, ev_gN, ev_set, ev_set1, ev_gT, ev_gT2, ev_gT3, ev_gnil, ev_gcons, ev_gcons1, ev_iseq, ev_iseqT, ev_iseqL, ev_iseqO, ev_r1, ev_r2, ev_lrg1, ev_sl, ev_sl1, ev_sl3, ev_sl4, ev_on, ev_os, ev_os1, ev_slT, ev_slL, ev_slO, ev_r3, ix_t0, ix_t1, ix_t2, en_pair, en_int, wipeM, List.map_cons, List.map_nil, List.length_cons, List.length_nil, List.replicate_succ, List.replicate_zero, List.cons_append, List.nil_append, List.append_nil, List.set_cons_zero, List.set_cons_succ, Nat.reduceAdd, Nat.reduceSub, Nat.zero_add, if_true, if_false, reduceIte, Int.reduceEq, Int.reduceLT, Int.reduceLE, Bool.false_eq_true, decide_true, decide_false, Bool.not_true, Bool.not_false, List.getElem?_cons_zero, List.getElem?_cons_succ]
      let E2 := (E.filter fun t => !decide (t = pr)) ++ (if pr ∈ E then [] else [pr])
      have nd : E2.Nodup := by
        rw [List.nodup_append]
        refine ⟨(canon_nodup n _).filter _, by split <;> simp, fun a ha b hb e => ?_⟩
        subst e
        rw [List.mem_filter] at ha
        split at hb
        · simp at hb
        · rw [List.mem_singleton] at hb; subst hb; simp at ha
      obtain ⟨B, eB⟩ := web_sort (n := n) nd (fun t ht => by
        rcases List.mem_append.mp ht with q | q
        · have := mem_canon.mp (List.mem_filter.mp q).1
          exact ⟨this.1, this.2.1, this.2.2.1⟩
        · split at q
          · simp at q
          · rw [List.mem_singleton] at q; subst q
            exact ⟨u0, by show u < u + 1 + v; omega, by show u + 1 + v < n; omega⟩)
      have el : ((E.filter fun t => !decide (t = pr)).map (en (α := Tie))).length ≤ 10000 := by
        rw [List.length_map]
        exact Nat.le_trans (List.length_filter_le _ _) (canon_100 _ hn)
      have em : inM false (.tup [.int u, .int (u + 1 + v)]) (en (canon n (flipL A ps))) (bagR b4 []) = .ok (.bl (decide (pr ∈ E))) (bagR b4 []) := (inM_te false u (u + 1 + v) E (bagR b4 [])).trans rfl
      cases q : decide (pr ∈ E) with
      | true =>
        have hE2 : E2 = (E.filter fun t => !decide (t = pr)) ++ [] := by show _ ++ _ = _; rw [if_pos (of_decide_eq_true q)]
        have ea : addM false (.tmp ((E.filter fun t => !decide (t = pr)).map en)) (.tmp []) (bagR b4 []) = .ok (.tmp (E2.map en)) (bagR b4 []) := by
          rw [ev_addL, if_pos (by rw [List.length_nil]; exact Nat.le_trans el (by decide)), hE2, List.append_nil, List.append_nil]
          rfl
        simp only [ev_seq, ev_seqN, ev_seqR, ev_seqB, ev_seqC, ev_seqE, ev_nil, ev_brk, ev_cnt, ev_retN, ev_expr, ev_expr1, ev_ret, ev_ret1, ev_if, ev_ifT, ev_ifF, ev_asg, ev_asg1, ev_asg2, ev_par, ev_par1, ev_def, ev_defR, ev_defN, ev_var0, ev_varS, ev_k, ev_anil, ev_acons, ev_acons1, ev_acons2, ev_tup, ev_tup_0, ev_tup_1, ev_tup_2, ev_tup_3, ev_lst, ev_lst_0, ev_lst_1, ev_lst_2, ev_lst_3, ev_mkT, ev_mkF, ev_bin, ev_bin1, ev_bin2, ev_un, ev_un1, ev_add, ev_addT, ev_addL, ev_sub, ev_neg, ev_lt, ev_le, ev_gt, ev_ge, ev_eqI, ev_neI, ev_eqB, ev_neB, ev_eqS, ev_neS, ev_and, ev_andT, ev_andF, ev_or, ev_orT, ev_orF, ev_not, ev_not1, ev_tnot, ev_tnot1, ev_tand, ev_tandT, ev_tandF, ev_tor, ev_torT, ev_torF, ev_tb, ev_tb1, ev_yes, ev_ife, ev_ifeT, ev_ifeF, ev_ch, ev_ch1, ev_ch2, ev_ch3T, ev_ch3F, ev_ch4, ev_is, ev_isB, ev_notN, ev_call, ev_call1, ev_own, ev_own_1, ev_own_2, ev_own_3, ev_own_4, ev_own_5, ev_ownK, ev_ownK_1, ev_ownK_01, ev_ownK_10, ev_lenT, ev_lenL, ev_lenO, ev_int, ev_intB, ev_abs, ev_min, ev_max, ev_tupT, ev_tupL, ev_listT, ev_listL, ev_meth, ev_meth2, ev_gN, ev_set, ev_set1, ev_gT, ev_gT2, ev_gT3, ev_gnil, ev_gcons, ev_gcons1, ev_iseq, ev_iseqT, ev_iseqL, ev_iseqO, ev_r1, ev_r2, ev_lrg1, ev_sl, ev_sl1, ev_sl3, ev_sl4, ev_on, ev_os, ev_os1, ev_slT, ev_slL, ev_slO, ev_r3, ix_t0, ix_t1, ix_t2, en_pair, en_int, wipeM, List.map_cons, List.map_nil, List.length_cons, List.length_nil, List.replicate_succ, List.replicate_zero, List.cons_append, List.nil_append, List.append_nil, List.set_cons_zero, List.set_cons_succ, Nat.reduceAdd, Nat.reduceSub, Nat.zero_add, if_true, if_false, reduceIte, Int.reduceEq, Int.reduceLT, Int.reduceLE, Bool.false_eq_true, decide_true, decide_false, Bool.not_true, Bool.not_false, List.getElem?_cons_zero, List.getElem?_cons_succ, hg, e3, e4, c2, web_ix1, em, q, ea, LOTS1, LOTS2]
        rw [sort_ties (l := E2) rfl]
        simp only [ev_seq, ev_seqN, ev_seqR, ev_seqB, ev_seqC, ev_seqE, ev_nil, ev_brk, ev_cnt, ev_retN, ev_expr, ev_expr1, ev_ret, ev_ret1, ev_if, ev_ifT, ev_ifF, ev_asg, ev_asg1, ev_asg2, ev_par, ev_par1, ev_def, ev_defR, ev_defN, ev_var0, ev_varS, ev_k, ev_anil, ev_acons, ev_acons1, ev_acons2, ev_tup, ev_tup_0, ev_tup_1, ev_tup_2, ev_tup_3, ev_lst, ev_lst_0, ev_lst_1, ev_lst_2, ev_lst_3, ev_mkT, ev_mkF, ev_bin, ev_bin1, ev_bin2, ev_un, ev_un1, ev_add, ev_addT, ev_addL, ev_sub, ev_neg, ev_lt, ev_le, ev_gt, ev_ge, ev_eqI, ev_neI, ev_eqB, ev_neB, ev_eqS, ev_neS, ev_and, ev_andT, ev_andF, ev_or, ev_orT, ev_orF, ev_not, ev_not1, ev_tnot, ev_tnot1, ev_tand, ev_tandT, ev_tandF, ev_tor, ev_torT, ev_torF, ev_tb, ev_tb1, ev_yes, ev_ife, ev_ifeT, ev_ifeF, ev_ch, ev_ch1, ev_ch2, ev_ch3T, ev_ch3F, ev_ch4, ev_is, ev_isB, ev_notN, ev_call, ev_call1, ev_own, ev_own_1, ev_own_2, ev_own_3, ev_own_4, ev_own_5, ev_ownK, ev_ownK_1, ev_ownK_01, ev_ownK_10, ev_lenT, ev_lenL, ev_lenO, ev_int, ev_intB, ev_abs, ev_min, ev_max, ev_tupT, ev_tupL, ev_listT, ev_listL, ev_meth, ev_meth2, ev_gN, ev_set, ev_set1, ev_gT, ev_gT2, ev_gT3, ev_gnil, ev_gcons, ev_gcons1, ev_iseq, ev_iseqT, ev_iseqL, ev_iseqO, ev_r1, ev_r2, ev_lrg1, ev_sl, ev_sl1, ev_sl3, ev_sl4, ev_on, ev_os, ev_os1, ev_slT, ev_slL, ev_slO, ev_r3, ix_t0, ix_t1, ix_t2, en_pair, en_int, wipeM, List.map_cons, List.map_nil, List.length_cons, List.length_nil, List.replicate_succ, List.replicate_zero, List.cons_append, List.nil_append, List.append_nil, List.set_cons_zero, List.set_cons_succ, Nat.reduceAdd, Nat.reduceSub, Nat.zero_add, if_true, if_false, reduceIte, Int.reduceEq, Int.reduceLT, Int.reduceLE, Bool.false_eq_true, decide_true, decide_false, Bool.not_true, Bool.not_false, List.getElem?_cons_zero, List.getElem?_cons_succ, eB, hd1, lots_tail (by omega : 0 ≤ n) hn]
      | false =>
        have hE2 : E2 = (E.filter fun t => !decide (t = pr)) ++ [pr] := by show _ ++ _ = _; rw [if_neg (of_decide_eq_false q)]
        have ea : addM false (.tmp ((E.filter fun t => !decide (t = pr)).map en)) (.tmp [.tup [.int u, .int (u + 1 + v)]]) (bagR b4 []) = .ok (.tmp (E2.map en)) (bagR b4 []) := by
          rw [ev_addL, if_pos (by rw [List.length_singleton]; exact Nat.le_trans (Nat.add_le_add_right el 1) (by decide)), hE2, List.map_append]
          rfl
        simp only [ev_seq, ev_seqN, ev_seqR, ev_seqB, ev_seqC, ev_seqE, ev_nil, ev_brk, ev_cnt, ev_retN, ev_expr, ev_expr1, ev_ret, ev_ret1, ev_if, ev_ifT, ev_ifF, ev_asg, ev_asg1, ev_asg2, ev_par, ev_par1, ev_def, ev_defR, ev_defN, ev_var0, ev_varS, ev_k, ev_anil, ev_acons, ev_acons1, ev_acons2, ev_tup, ev_tup_0, ev_tup_1, ev_tup_2, ev_tup_3, ev_lst, ev_lst_0, ev_lst_1, ev_lst_2, ev_lst_3, ev_mkT, ev_mkF, ev_bin, ev_bin1, ev_bin2, ev_un, ev_un1, ev_add, ev_addT, ev_addL, ev_sub, ev_neg, ev_lt, ev_le, ev_gt, ev_ge, ev_eqI, ev_neI, ev_eqB, ev_neB, ev_eqS, ev_neS, ev_and, ev_andT, ev_andF, ev_or, ev_orT, ev_orF, ev_not, ev_not1, ev_tnot, ev_tnot1, ev_tand, ev_tandT, ev_tandF, ev_tor, ev_torT, ev_torF, ev_tb, ev_tb1, ev_yes, ev_ife, ev_ifeT, ev_ifeF, ev_ch, ev_ch1, ev_ch2, ev_ch3T, ev_ch3F, ev_ch4, ev_is, ev_isB, ev_notN, ev_call, ev_call1, ev_own, ev_own_1, ev_own_2, ev_own_3, ev_own_4, ev_own_5, ev_ownK, ev_ownK_1, ev_ownK_01, ev_ownK_10, ev_lenT, ev_lenL, ev_lenO, ev_int, ev_intB, ev_abs, ev_min, ev_max, ev_tupT, ev_tupL, ev_listT, ev_listL, ev_meth, ev_meth2, ev_gN, ev_set, ev_set1, ev_gT, ev_gT2, ev_gT3, ev_gnil, ev_gcons, ev_gcons1, ev_iseq, ev_iseqT, ev_iseqL, ev_iseqO, ev_r1, ev_r2, ev_lrg1, ev_sl, ev_sl1, ev_sl3, ev_sl4, ev_on, ev_os, ev_os1, ev_slT, ev_slL, ev_slO, ev_r3, ix_t0, ix_t1, ix_t2, en_pair, en_int, wipeM, List.map_cons, List.map_nil, List.length_cons, List.length_nil, List.replicate_succ, List.replicate_zero, List.cons_append, List.nil_append, List.append_nil, List.set_cons_zero, List.set_cons_succ, Nat.reduceAdd, Nat.reduceSub, Nat.zero_add, if_true, if_false, reduceIte, Int.reduceEq, Int.reduceLT, Int.reduceLE, Bool.false_eq_true, decide_true, decide_false, Bool.not_true, Bool.not_false, List.getElem?_cons_zero, List.getElem?_cons_succ, hg, e3, e4, c2, web_ix1, em, q, ea, LOTS1, LOTS2]
        rw [sort_ties (l := E2) rfl]
        simp only [ev_seq, ev_seqN, ev_seqR, ev_seqB, ev_seqC, ev_seqE, ev_nil, ev_brk, ev_cnt, ev_retN, ev_expr, ev_expr1, ev_ret, ev_ret1, ev_if, ev_ifT, ev_ifF, ev_asg, ev_asg1, ev_asg2, ev_par, ev_par1, ev_def, ev_defR, ev_defN, ev_var0, ev_varS, ev_k, ev_anil, ev_acons, ev_acons1, ev_acons2, ev_tup, ev_tup_0, ev_tup_1, ev_tup_2, ev_tup_3, ev_lst, ev_lst_0, ev_lst_1, ev_lst_2, ev_lst_3, ev_mkT, ev_mkF, ev_bin, ev_bin1, ev_bin2, ev_un, ev_un1, ev_add, ev_addT, ev_addL, ev_sub, ev_neg, ev_lt, ev_le, ev_gt, ev_ge, ev_eqI, ev_neI, ev_eqB, ev_neB, ev_eqS, ev_neS, ev_and, ev_andT, ev_andF, ev_or, ev_orT, ev_orF, ev_not, ev_not1, ev_tnot, ev_tnot1, ev_tand, ev_tandT, ev_tandF, ev_tor, ev_torT, ev_torF, ev_tb, ev_tb1, ev_yes, ev_ife, ev_ifeT, ev_ifeF, ev_ch, ev_ch1, ev_ch2, ev_ch3T, ev_ch3F, ev_ch4, ev_is, ev_isB, ev_notN, ev_call, ev_call1, ev_own, ev_own_1, ev_own_2, ev_own_3, ev_own_4, ev_own_5, ev_ownK, ev_ownK_1, ev_ownK_01, ev_ownK_10, ev_lenT, ev_lenL, ev_lenO, ev_int, ev_intB, ev_abs, ev_min, ev_max, ev_tupT, ev_tupL, ev_listT, ev_listL, ev_meth, ev_meth2, ev_gN, ev_set, ev_set1, ev_gT, ev_gT2, ev_gT3, ev_gnil, ev_gcons, ev_gcons1, ev_iseq, ev_iseqT, ev_iseqL, ev_iseqO, ev_r1, ev_r2, ev_lrg1, ev_sl, ev_sl1, ev_sl3, ev_sl4, ev_on, ev_os, ev_os1, ev_slT, ev_slL, ev_slO, ev_r3, ix_t0, ix_t1, ix_t2, en_pair, en_int, wipeM, List.map_cons, List.map_nil, List.length_cons, List.length_nil, List.replicate_succ, List.replicate_zero, List.cons_append, List.nil_append, List.append_nil, List.set_cons_zero, List.set_cons_succ, Nat.reduceAdd, Nat.reduceSub, Nat.zero_add, if_true, if_false, reduceIte, Int.reduceEq, Int.reduceLT, Int.reduceLE, Bool.false_eq_true, decide_true, decide_false, Bool.not_true, Bool.not_false, List.getElem?_cons_zero, List.getElem?_cons_succ, eB, hd1, lots_tail (by omega : 0 ≤ n) hn]
    · refine fin b2 o2 ?_
      rw [go]
      by_cases hw : w = 0
      · have hd0 : decide (w = 0) = true := by simp [hw]
        have hg : decide (1 < n) = false := by simp; omega
        simp only [ev_seq, ev_seqN, ev_seqR, ev_seqB, ev_seqC, ev_seqE, ev_nil, ev_brk, ev_cnt, ev_retN, ev_expr, ev_expr1, ev_ret, ev_ret1, ev_if, ev_ifT, ev_ifF, ev_asg, ev_asg1, ev_asg2, ev_par, ev_par1, ev_def, ev_defR, ev_defN, ev_var0, ev_varS, ev_k, ev_anil, ev_acons, ev_acons1, ev_acons2, ev_tup, ev_tup_0, ev_tup_1, ev_tup_2, ev_tup_3, ev_lst, ev_lst_0, ev_lst_1, ev_lst_2, ev_lst_3, ev_mkT, ev_mkF, ev_bin, ev_bin1, ev_bin2, ev_un, ev_un1, ev_add, ev_addT, ev_addL, ev_sub, ev_neg, ev_lt, ev_le, ev_gt, ev_ge, ev_eqI, ev_neI, ev_eqB, ev_neB, ev_eqS, ev_neS, ev_and, ev_andT, ev_andF, ev_or, ev_orT, ev_orF, ev_not, ev_not1, ev_tnot, ev_tnot1, ev_tand, ev_tandT, ev_tandF, ev_tor, ev_torT, ev_torF, ev_tb, ev_tb1, ev_yes, ev_ife, ev_ifeT, ev_ifeF, ev_ch, ev_ch1, ev_ch2, ev_ch3T, ev_ch3F, ev_ch4, ev_is, ev_isB, ev_notN, ev_call, ev_call1, ev_own, ev_own_1, ev_own_2, ev_own_3, ev_own_4, ev_own_5, ev_ownK, ev_ownK_1, ev_ownK_01, ev_ownK_10, ev_lenT, ev_lenL, ev_lenO, ev_int, ev_intB, ev_abs, ev_min, ev_max, ev_tupT, ev_tupL, ev_listT, ev_listL, ev_meth, ev_meth2, ev_gN, ev_set, ev_set1, ev_gT, ev_gT2, ev_gT3, ev_gnil, ev_gcons, ev_gcons1, ev_iseq, ev_iseqT, ev_iseqL, ev_iseqO, ev_r1, ev_r2, ev_lrg1, ev_sl, ev_sl1, ev_sl3, ev_sl4, ev_on, ev_os, ev_os1, ev_slT, ev_slL, ev_slO, ev_r3, ix_t0, ix_t1, ix_t2, en_pair, en_int, wipeM, List.map_cons, List.map_nil, List.length_cons, List.length_nil, List.replicate_succ, List.replicate_zero, List.cons_append, List.nil_append, List.append_nil, List.set_cons_zero, List.set_cons_succ, Nat.reduceAdd, Nat.reduceSub, Nat.zero_add, if_true, if_false, reduceIte, Int.reduceEq, Int.reduceLT, Int.reduceLE, Bool.false_eq_true, decide_true, decide_false, Bool.not_true, Bool.not_false, List.getElem?_cons_zero, List.getElem?_cons_succ, hd0, hg, hd1, LOTS2, lots_tail (by omega : 0 ≤ n) hn]
      · have hd0 : decide (w = 0) = false := by simp [hw]
        simp only [ev_seq, ev_seqN, ev_seqR, ev_seqB, ev_seqC, ev_seqE, ev_nil, ev_brk, ev_cnt, ev_retN, ev_expr, ev_expr1, ev_ret, ev_ret1, ev_if, ev_ifT, ev_ifF, ev_asg, ev_asg1, ev_asg2, ev_par, ev_par1, ev_def, ev_defR, ev_defN, ev_var0, ev_varS, ev_k, ev_anil, ev_acons, ev_acons1, ev_acons2, ev_tup, ev_tup_0, ev_tup_1, ev_tup_2, ev_tup_3, ev_lst, ev_lst_0, ev_lst_1, ev_lst_2, ev_lst_3, ev_mkT, ev_mkF, ev_bin, ev_bin1, ev_bin2, ev_un, ev_un1, ev_add, ev_addT, ev_addL, ev_sub, ev_neg, ev_lt, ev_le, ev_gt, ev_ge, ev_eqI, ev_neI, ev_eqB, ev_neB, ev_eqS, ev_neS, ev_and, ev_andT, ev_andF, ev_or, ev_orT, ev_orF, ev_not, ev_not1, ev_tnot, ev_tnot1, ev_tand, ev_tandT, ev_tandF, ev_tor, ev_torT, ev_torF, ev_tb, ev_tb1, ev_yes, ev_ife, ev_ifeT, ev_ifeF, ev_ch, ev_ch1, ev_ch2, ev_ch3T, ev_ch3F, ev_ch4, ev_is, ev_isB, ev_notN, ev_call, ev_call1, ev_own, ev_own_1, ev_own_2, ev_own_3, ev_own_4, ev_own_5, ev_ownK, ev_ownK_1, ev_ownK_01, ev_ownK_10, ev_lenT, ev_lenL, ev_lenO, ev_int, ev_intB, ev_abs, ev_min, ev_max, ev_tupT, ev_tupL, ev_listT, ev_listL, ev_meth, ev_meth2, ev_gN, ev_set, ev_set1, ev_gT, ev_gT2, ev_gT3, ev_gnil, ev_gcons, ev_gcons1, ev_iseq, ev_iseqT, ev_iseqL, ev_iseqO, ev_r1, ev_r2, ev_lrg1, ev_sl, ev_sl1, ev_sl3, ev_sl4, ev_on, ev_os, ev_os1, ev_slT, ev_slL, ev_slO, ev_r3, ix_t0, ix_t1, ix_t2, en_pair, en_int, wipeM, List.map_cons, List.map_nil, List.length_cons, List.length_nil, List.replicate_succ, List.replicate_zero, List.cons_append, List.nil_append, List.append_nil, List.set_cons_zero, List.set_cons_succ, Nat.reduceAdd, Nat.reduceSub, Nat.zero_add, if_true, if_false, reduceIte, Int.reduceEq, Int.reduceLT, Int.reduceLE, Bool.false_eq_true, decide_true, decide_false, Bool.not_true, Bool.not_false, List.getElem?_cons_zero, List.getElem?_cons_succ, hd0, hd1, LOTS2, lots_tail (by omega : 0 ≤ n) hn]
end Tb.K19

set_option Elab.async false
set_option linter.all false
set_option maxRecDepth 100000
namespace Tb.K19
open PySem L2
open En (en da)

/-! ### rows of turns -/
theorem flip_same {n : Int} {A : Int → Int → Bool} {ps qs : List Int} (hp : ps.Nodup) (hq : qs.Nodup) (h : ∀ a b, 0 ≤ a → a < n → 0 ≤ b → b < n → ((decide (a ∈ ps)).xor (decide (b ∈ ps))) = ((decide (a ∈ qs)).xor (decide (b ∈ qs)))) : web n (flipL A ps) = web n (flipL A qs) := by
  rw [web_eq, web_eq]
  congr 3
  have : canon n (flipL A ps) = canon n (flipL A qs) := canon_congr.mpr fun a b h1 h2 h3 => by
    rw [flipL_eq ps A hp (by omega), flipL_eq qs A hq (by omega), h a b (by omega) (by omega) (by omega) (by omega)]
  rw [this]
theorem rows_spec {n : Int} {A : Int → Int → Bool} {b : Bag} (ok : b.Ok) (hn0 : 1 ≤ n) (hn : n ≤ 100) : ∃ b', b'.Ok ∧ f__law_are_rows [.loc 1, web n A] (bagR b []) = .ok (.bl true) (bagR b' []) := by
  have hc : cR n = true := cR_ok (by omega) (by omega)
  obtain ⟨ps, b1, o1, sl, e1⟩ := draw_lot (n := n) (k := 3) (C := C5__law_are_rows) (i := 9) (ms := [some (.loc 1), some (web n A), some (.int n), none, none, none, none, none, none, none]) ok (by decide) (by decide) (by
    intro p ms' b1 b2 j e ej
    simp only [ev_seq, ev_seqN, ev_seqR, ev_seqB, ev_seqC, ev_seqE, ev_nil, ev_brk, ev_cnt, ev_retN, ev_expr, ev_expr1, ev_ret, ev_ret1, ev_if, ev_ifT, ev_ifF, ev_asg, ev_asg1, ev_asg2, ev_par, ev_par1, ev_def, ev_defR, ev_defN, ev_var0, ev_varS, ev_k, ev_anil, ev_acons, ev_acons1, ev_acons2, ev_tup, ev_tup_0, ev_tup_1, ev_tup_2, ev_tup_3, ev_lst, ev_lst_0, ev_lst_1, ev_lst_2, ev_lst_3, ev_mkT, ev_mkF, ev_bin, ev_bin1, ev_bin2, ev_un, ev_un1, ev_add, ev_addT, ev_addL, ev_sub, ev_neg, ev_lt, ev_le, ev_gt, ev_ge, ev_eqI, ev_neI, ev_eqB, ev_neB, ev_eqS, ev_neS, ev_and, ev_andT, ev_andF, ev_or, ev_orT, ev_orF, ev_not, ev_not1, ev_tnot, ev_tnot1, ev_tand, ev_tandT, ev_tandF, ev_tor, ev_torT, ev_torF, ev_tb, ev_tb1, ev_yes, ev_ife, ev_ifeT, ev_ifeF, ev_ch, ev_ch1, ev_ch2, ev_ch3T, ev_ch3F, ev_ch4, ev_is, ev_isB, ev_notN, ev_call, ev_call1, ev_own, ev_own_1, ev_own_2, ev_own_3, ev_own_4, ev_own_5, ev_ownK, ev_ownK_1, ev_ownK_01, ev_ownK_10, ev_lenT, ev_lenL, ev_lenO, ev_int, ev_intB, ev_abs, ev_min, ev_max, ev_tupT, ev_tupL, ev_listT, ev_listL, ev_meth, ev_meth2, ev_gN, ev_set, ev_set1, ev_gT, ev_gT2, ev_gT3, ev_gnil, ev_gcons, ev_gcons1, ev_iseq, ev_iseqT, ev_iseqL, ev_iseqO, ev_r1, ev_r2, ev_lrg1, ev_sl, ev_sl1, ev_sl3, ev_sl4, ev_on, ev_os, ev_os1, ev_slT, ev_slL, ev_slO, ev_r3, ix_t0, ix_t1, ix_t2, en_pair, en_int, wipeM, List.map_cons, List.map_nil, List.length_cons, List.length_nil, List.replicate_succ, List.replicate_zero, List.cons_append, List.nil_append, List.append_nil, List.set_cons_zero, List.set_cons_succ, Nat.reduceAdd, Nat.reduceSub, Nat.zero_add, if_true, if_false, reduceIte, Int.reduceEq, Int.reduceLT, Int.reduceLE, Bool.false_eq_true, decide_true, decide_false, Bool.not_true, Bool.not_false, List.getElem?_cons_zero, List.getElem?_cons_succ] at e
    cases e
    refine ⟨?_, by simp only [ev_seq, ev_seqN, ev_seqR, ev_seqB, ev_seqC, ev_seqE, ev_nil, ev_brk, ev_cnt, ev_retN, ev_expr, ev_expr1, ev_ret, ev_ret1, ev_if, ev_ifT, ev_ifF, ev_asg, ev_asg1, ev_asg2, ev_par, ev_par1, ev_def, ev_defR, ev_defN, ev_var0, ev_varS, ev_k, ev_anil, ev_acons, ev_acons1, ev_acons2, ev_tup, ev_tup_0, ev_tup_1, ev_tup_2, ev_tup_3, ev_lst, ev_lst_0, ev_lst_1, ev_lst_2, ev_lst_3, ev_mkT, ev_mkF, ev_bin, ev_bin1, ev_bin2, ev_un, ev_un1, ev_add, ev_addT, ev_addL, ev_sub, ev_neg, ev_lt, ev_le, ev_gt, ev_ge, ev_eqI, ev_neI, ev_eqB, ev_neB, ev_eqS, ev_neS, ev_and, ev_andT, ev_andF, ev_or, ev_orT, ev_orF, ev_not, ev_not1, ev_tnot, ev_tnot1, ev_tand, ev_tandT, ev_tandF, ev_tor, ev_torT, ev_torF, ev_tb, ev_tb1, ev_yes, ev_ife, ev_ifeT, ev_ifeF, ev_ch, ev_ch1, ev_ch2, ev_ch3T, ev_ch3F, ev_ch4, ev_is, ev_isB, ev_notN, ev_call, ev_call1, ev_own, ev_own_1, ev_own_2, ev_own_3, ev_own_4, ev_own_5, ev_ownK, ev_ownK_1, ev_ownK_01, ev_ownK_10, ev_lenT, ev_lenL, ev_lenO, ev_int, ev_intB, ev_abs, ev_min, ev_max, ev_tupT, ev_tupL, ev_listT, ev_listL, ev_meth, ev_meth2, ev_gN, ev_set, ev_set1, ev_gT, ev_gT2, ev_gT3, ev_gnil, ev_gcons, ev_gcons1, ev_iseq, ev_iseqT, ev_iseqL, ev_iseqO, ev_r1, ev_r2, ev_lrg1, ev_sl, ev_sl1, ev_sl3, ev_sl4, ev_on, ev_os, ev_os1, ev_slT, ev_slL, ev_slO, ev_r3, ix_t0, ix_t1, ix_t2, en_pair, en_int, wipeM, List.map_cons, List.map_nil, List.length_cons, List.length_nil, List.replicate_succ, List.replicate_zero, List.cons_append, List.nil_append, List.append_nil, List.set_cons_zero, List.set_cons_succ, Nat.reduceAdd, Nat.reduceSub, Nat.zero_add, if_true, if_false, reduceIte, Int.reduceEq, Int.reduceLT, Int.reduceLE, Bool.false_eq_true, decide_true, decide_false, Bool.not_true, Bool.not_false, List.getElem?_cons_zero, List.getElem?_cons_succ]⟩
    unfold C5__law_are_rows
    simp only [ev_seq, ev_seqN, ev_seqR, ev_seqB, ev_seqC, ev_seqE, ev_nil, ev_brk, ev_cnt, ev_retN, ev_expr, ev_expr1, ev_ret, ev_ret1, ev_if, ev_ifT, ev_ifF, ev_asg, ev_asg1, ev_asg2, ev_par, ev_par1, ev_def, ev_defR, ev_defN, ev_var0, ev_varS, ev_k, ev_anil, ev_acons, ev_acons1, ev_acons2, ev_tup, ev_tup_0, ev_tup_1, ev_tup_2, ev_tup_3, ev_lst, ev_lst_0, ev_lst_1, ev_lst_2, ev_lst_3, ev_mkT, ev_mkF, ev_bin, ev_bin1, ev_bin2, ev_un, ev_un1, ev_add, ev_addT, ev_addL, ev_sub, ev_neg, ev_lt, ev_le, ev_gt, ev_ge, ev_eqI, ev_neI, ev_eqB, ev_neB, ev_eqS, ev_neS, ev_and, ev_andT, ev_andF, ev_or, ev_orT, ev_orF, ev_not, ev_not1, ev_tnot, ev_tnot1, ev_tand, ev_tandT, ev_tandF, ev_tor, ev_torT, ev_torF, ev_tb, ev_tb1, ev_yes, ev_ife, ev_ifeT, ev_ifeF, ev_ch, ev_ch1, ev_ch2, ev_ch3T, ev_ch3F, ev_ch4, ev_is, ev_isB, ev_notN, ev_call, ev_call1, ev_own, ev_own_1, ev_own_2, ev_own_3, ev_own_4, ev_own_5, ev_ownK, ev_ownK_1, ev_ownK_01, ev_ownK_10, ev_lenT, ev_lenL, ev_lenO, ev_int, ev_intB, ev_abs, ev_min, ev_max, ev_tupT, ev_tupL, ev_listT, ev_listL, ev_meth, ev_meth2, ev_gN, ev_set, ev_set1, ev_gT, ev_gT2, ev_gT3, ev_gnil, ev_gcons, ev_gcons1, ev_iseq, ev_iseqT, ev_iseqL, ev_iseqO, ev_r1, ev_r2, ev_lrg1, ev_sl, ev_sl1, ev_sl3, ev_sl4, ev_on, ev_os, ev_os1, ev_slT, ev_slL, ev_slO, ev_r3, ix_t0, ix_t1, ix_t2, en_pair, en_int, wipeM, List.map_cons, List.map_nil, List.length_cons, List.length_nil, List.replicate_succ, List.replicate_zero, List.cons_append, List.nil_append, List.append_nil, List.set_cons_zero, List.set_cons_succ, Nat.reduceAdd, Nat.reduceSub, Nat.zero_add, if_true, if_false, reduceIte, Int.reduceEq, Int.reduceLT, Int.reduceLE, Bool.false_eq_true, decide_true, decide_false, Bool.not_true, Bool.not_false, List.getElem?_cons_zero, List.getElem?_cons_succ, ej])
  have c1 : mLc false (iRange1 (aCons (mVar 2) aNil)) (gN 9) C5__law_are_rows (mVar 9) [9] [some (.loc 1), some (web n A), some (.int n), none, none, none, none, none, none, none] (bagR b []) = .ok (.tmp (ps.map M.int)) (bagR b1 []) := by
    refine (mLc_eq (xs := (irg 0 n).map M.int) (by simp only [ev_seq, ev_seqN, ev_seqR, ev_seqB, ev_seqC, ev_seqE, ev_nil, ev_brk, ev_cnt, ev_retN, ev_expr, ev_expr1, ev_ret, ev_ret1, ev_if, ev_ifT, ev_ifF, ev_asg, ev_asg1, ev_asg2, ev_par, ev_par1, ev_def, ev_defR, ev_defN, ev_var0, ev_varS, ev_k, ev_anil, ev_acons, ev_acons1, ev_acons2, ev_tup, ev_tup_0, ev_tup_1, ev_tup_2, ev_tup_3, ev_lst, ev_lst_0, ev_lst_1, ev_lst_2, ev_lst_3, ev_mkT, ev_mkF, ev_bin, ev_bin1, ev_bin2, ev_un, ev_un1, ev_add, ev_addT, ev_addL, ev_sub, ev_neg, ev_lt, ev_le, ev_gt, ev_ge, ev_eqI, ev_neI, ev_eqB, ev_neB, ev_eqS, ev_neS, ev_and, ev_andT, ev_andF, ev_or, ev_orT, ev_orF, ev_not, ev_not1, ev_tnot, ev_tnot1, ev_tand, ev_tandT, ev_tandF, ev_tor, ev_torT, ev_torF, ev_tb, ev_tb1, ev_yes, ev_ife, ev_ifeT, ev_ifeF, ev_ch, ev_ch1, ev_ch2, ev_ch3T, ev_ch3F, ev_ch4, ev_is, ev_isB, ev_notN, ev_call, ev_call1, ev_own, ev_own_1, ev_own_2, ev_own_3, ev_own_4, ev_own_5, ev_ownK, ev_ownK_1, ev_ownK_01, ev_ownK_10, ev_lenT, ev_lenL, ev_lenO, ev_int, ev_intB, ev_abs, ev_min, ev_max, ev_tupT, ev_tupL, ev_listT, ev_listL, ev_meth, ev_meth2, ev_gN, ev_set, ev_set1, ev_gT, ev_gT2, ev_gT3, ev_gnil, ev_gcons, ev_gcons1, ev_iseq, ev_iseqT, ev_iseqL, ev_iseqO, ev_r1, ev_r2, ev_lrg1, ev_sl, ev_sl1, ev_sl3, ev_sl4, ev_on, ev_os, ev_os1, ev_slT, ev_slL, ev_slO, ev_r3, ix_t0, ix_t1, ix_t2, en_pair, en_int, wipeM, List.map_cons, List.map_nil, List.length_cons, List.length_nil, List.replicate_succ, List.replicate_zero, List.cons_append, List.nil_append, List.append_nil, List.set_cons_zero, List.set_cons_succ, Nat.reduceAdd, Nat.reduceSub, Nat.zero_add, if_true, if_false, reduceIte, Int.reduceEq, Int.reduceLT, Int.reduceLE, Bool.false_eq_true, decide_true, decide_false, Bool.not_true, Bool.not_false, List.getElem?_cons_zero, List.getElem?_cons_succ, ev_r1', hc] <;> rfl) e1 ?_).trans rfl
    have := sl.length_le
    rw [irg_length] at this
    rw [List.length_map]
    exact Nat.le_trans (by omega : _ ≤ 100) (by decide)
  have ct : cutM (ps.map M.int) none (some 4) = (ps.take 4).map M.int := (cut_hi (ps.map M.int) 4).trans (by rw [List.map_take])
  have sl4 : (ps.take 4).Sublist (irg 0 n) := (List.take_sublist 4 ps).trans sl
  generalize ps.take 4 = qs at ct sl4
  have qin : ∀ p ∈ qs, 0 ≤ p ∧ p < n := fun p hp => mem_irg.mp (sl4.subset hp)
  have qnd : qs.Nodup := (irg_nodup 0 n).sublist sl4
  -- the rest
  have c2 : ∀ x4 x5 x6 x7 x8 : Option M, mLc false (iRange1 (aCons (mVar 2) aNil)) (gN 9) C1__law_are_rows (mVar 9) [9] [some (.loc 1), some (web n A), some (.int n), some (.tmp (qs.map M.int)), x4, x5, x6, x7, x8, none] (bagR b1 []) = .ok (.tmp (((irg 0 n).filter fun p => !decide (p ∈ qs)).map M.int)) (bagR b1 []) := fun x4 x5 x6 x7 x8 => by
    refine (mLc_pure (as := irg 0 n) M.int (fun p => !decide (p ∈ qs)) M.int (by simp only [ev_seq, ev_seqN, ev_seqR, ev_seqB, ev_seqC, ev_seqE, ev_nil, ev_brk, ev_cnt, ev_retN, ev_expr, ev_expr1, ev_ret, ev_ret1, ev_if, ev_ifT, ev_ifF, ev_asg, ev_asg1, ev_asg2, ev_par, ev_par1, ev_def, ev_defR, ev_defN, ev_var0, ev_varS, ev_k, ev_anil, ev_acons, ev_acons1, ev_acons2, ev_tup, ev_tup_0, ev_tup_1, ev_tup_2, ev_tup_3, ev_lst, ev_lst_0, ev_lst_1, ev_lst_2, ev_lst_3, ev_mkT, ev_mkF, ev_bin, ev_bin1, ev_bin2, ev_un, ev_un1, ev_add, ev_addT, ev_addL, ev_sub, ev_neg, ev_lt, ev_le, ev_gt, ev_ge, ev_eqI, ev_neI, ev_eqB, ev_neB, ev_eqS, ev_neS, ev_and, ev_andT, ev_andF, ev_or, ev_orT, ev_orF, ev_not, ev_not1, ev_tnot, ev_tnot1, ev_tand, ev_tandT, ev_tandF, ev_tor, ev_torT, ev_torF, ev_tb, ev_tb1, ev_yes, ev_ife, ev_ifeT, ev_ifeF, ev_ch, ev_ch1, ev_ch2, ev_ch3T, ev_ch3F, ev_ch4, ev_is, ev_isB, ev_notN, ev_call, ev_call1, ev_own, ev_own_1, ev_own_2, ev_own_3, ev_own_4, ev_own_5, ev_ownK, ev_ownK_1, ev_ownK_01, ev_ownK_10, ev_lenT, ev_lenL, ev_lenO, ev_int, ev_intB, ev_abs, ev_min, ev_max, ev_tupT, ev_tupL, ev_listT, ev_listL, ev_meth, ev_meth2, ev_gN, ev_set, ev_set1, ev_gT, ev_gT2, ev_gT3, ev_gnil, ev_gcons, ev_gcons1, ev_iseq, ev_iseqT, ev_iseqL, ev_iseqO, ev_r1, ev_r2, ev_lrg1, ev_sl, ev_sl1, ev_sl3, ev_sl4, ev_on, ev_os, ev_os1, ev_slT, ev_slL, ev_slO, ev_r3, ix_t0, ix_t1, ix_t2, en_pair, en_int, wipeM, List.map_cons, List.map_nil, List.length_cons, List.length_nil, List.replicate_succ, List.replicate_zero, List.cons_append, List.nil_append, List.append_nil, List.set_cons_zero, List.set_cons_succ, Nat.reduceAdd, Nat.reduceSub, Nat.zero_add, if_true, if_false, reduceIte, Int.reduceEq, Int.reduceLT, Int.reduceLE, Bool.false_eq_true, decide_true, decide_false, Bool.not_true, Bool.not_false, List.getElem?_cons_zero, List.getElem?_cons_succ, ev_r1', hc] <;> rfl) ?_ (by rw [irg_length]; exact Nat.le_trans (by omega : _ ≤ 100) (by decide))).trans rfl
    intro p _
    refine ⟨_, by simp only [ev_seq, ev_seqN, ev_seqR, ev_seqB, ev_seqC, ev_seqE, ev_nil, ev_brk, ev_cnt, ev_retN, ev_expr, ev_expr1, ev_ret, ev_ret1, ev_if, ev_ifT, ev_ifF, ev_asg, ev_asg1, ev_asg2, ev_par, ev_par1, ev_def, ev_defR, ev_defN, ev_var0, ev_varS, ev_k, ev_anil, ev_acons, ev_acons1, ev_acons2, ev_tup, ev_tup_0, ev_tup_1, ev_tup_2, ev_tup_3, ev_lst, ev_lst_0, ev_lst_1, ev_lst_2, ev_lst_3, ev_mkT, ev_mkF, ev_bin, ev_bin1, ev_bin2, ev_un, ev_un1, ev_add, ev_addT, ev_addL, ev_sub, ev_neg, ev_lt, ev_le, ev_gt, ev_ge, ev_eqI, ev_neI, ev_eqB, ev_neB, ev_eqS, ev_neS, ev_and, ev_andT, ev_andF, ev_or, ev_orT, ev_orF, ev_not, ev_not1, ev_tnot, ev_tnot1, ev_tand, ev_tandT, ev_tandF, ev_tor, ev_torT, ev_torF, ev_tb, ev_tb1, ev_yes, ev_ife, ev_ifeT, ev_ifeF, ev_ch, ev_ch1, ev_ch2, ev_ch3T, ev_ch3F, ev_ch4, ev_is, ev_isB, ev_notN, ev_call, ev_call1, ev_own, ev_own_1, ev_own_2, ev_own_3, ev_own_4, ev_own_5, ev_ownK, ev_ownK_1, ev_ownK_01, ev_ownK_10, ev_lenT, ev_lenL, ev_lenO, ev_int, ev_intB, ev_abs, ev_min, ev_max, ev_tupT, ev_tupL, ev_listT, ev_listL, ev_meth, ev_meth2, ev_gN, ev_set, ev_set1, ev_gT, ev_gT2, ev_gT3, ev_gnil, ev_gcons, ev_gcons1, ev_iseq, ev_iseqT, ev_iseqL, ev_iseqO, ev_r1, ev_r2, ev_lrg1, ev_sl, ev_sl1, ev_sl3, ev_sl4, ev_on, ev_os, ev_os1, ev_slT, ev_slL, ev_slO, ev_r3, ix_t0, ix_t1, ix_t2, en_pair, en_int, wipeM, List.map_cons, List.map_nil, List.length_cons, List.length_nil, List.replicate_succ, List.replicate_zero, List.cons_append, List.nil_append, List.append_nil, List.set_cons_zero, List.set_cons_succ, Nat.reduceAdd, Nat.reduceSub, Nat.zero_add, if_true, if_false, reduceIte, Int.reduceEq, Int.reduceLT, Int.reduceLE, Bool.false_eq_true, decide_true, decide_false, Bool.not_true, Bool.not_false, List.getElem?_cons_zero, List.getElem?_cons_succ] <;> rfl, ?_, fun _ => by simp only [ev_seq, ev_seqN, ev_seqR, ev_seqB, ev_seqC, ev_seqE, ev_nil, ev_brk, ev_cnt, ev_retN, ev_expr, ev_expr1, ev_ret, ev_ret1, ev_if, ev_ifT, ev_ifF, ev_asg, ev_asg1, ev_asg2, ev_par, ev_par1, ev_def, ev_defR, ev_defN, ev_var0, ev_varS, ev_k, ev_anil, ev_acons, ev_acons1, ev_acons2, ev_tup, ev_tup_0, ev_tup_1, ev_tup_2, ev_tup_3, ev_lst, ev_lst_0, ev_lst_1, ev_lst_2, ev_lst_3, ev_mkT, ev_mkF, ev_bin, ev_bin1, ev_bin2, ev_un, ev_un1, ev_add, ev_addT, ev_addL, ev_sub, ev_neg, ev_lt, ev_le, ev_gt, ev_ge, ev_eqI, ev_neI, ev_eqB, ev_neB, ev_eqS, ev_neS, ev_and, ev_andT, ev_andF, ev_or, ev_orT, ev_orF, ev_not, ev_not1, ev_tnot, ev_tnot1, ev_tand, ev_tandT, ev_tandF, ev_tor, ev_torT, ev_torF, ev_tb, ev_tb1, ev_yes, ev_ife, ev_ifeT, ev_ifeF, ev_ch, ev_ch1, ev_ch2, ev_ch3T, ev_ch3F, ev_ch4, ev_is, ev_isB, ev_notN, ev_call, ev_call1, ev_own, ev_own_1, ev_own_2, ev_own_3, ev_own_4, ev_own_5, ev_ownK, ev_ownK_1, ev_ownK_01, ev_ownK_10, ev_lenT, ev_lenL, ev_lenO, ev_int, ev_intB, ev_abs, ev_min, ev_max, ev_tupT, ev_tupL, ev_listT, ev_listL, ev_meth, ev_meth2, ev_gN, ev_set, ev_set1, ev_gT, ev_gT2, ev_gT3, ev_gnil, ev_gcons, ev_gcons1, ev_iseq, ev_iseqT, ev_iseqL, ev_iseqO, ev_r1, ev_r2, ev_lrg1, ev_sl, ev_sl1, ev_sl3, ev_sl4, ev_on, ev_os, ev_os1, ev_slT, ev_slL, ev_slO, ev_r3, ix_t0, ix_t1, ix_t2, en_pair, en_int, wipeM, List.map_cons, List.map_nil, List.length_cons, List.length_nil, List.replicate_succ, List.replicate_zero, List.cons_append, List.nil_append, List.append_nil, List.set_cons_zero, List.set_cons_succ, Nat.reduceAdd, Nat.reduceSub, Nat.zero_add, if_true, if_false, reduceIte, Int.reduceEq, Int.reduceLT, Int.reduceLE, Bool.false_eq_true, decide_true, decide_false, Bool.not_true, Bool.not_false, List.getElem?_cons_zero, List.getElem?_cons_succ]⟩
    unfold C1__law_are_rows
    have := inM_tmp (α := Int) true p qs (bagR b1 [])
    rw [en_int] at this
    simp only [ev_seq, ev_seqN, ev_seqR, ev_seqB, ev_seqC, ev_seqE, ev_nil, ev_brk, ev_cnt, ev_retN, ev_expr, ev_expr1, ev_ret, ev_ret1, ev_if, ev_ifT, ev_ifF, ev_asg, ev_asg1, ev_asg2, ev_par, ev_par1, ev_def, ev_defR, ev_defN, ev_var0, ev_varS, ev_k, ev_anil, ev_acons, ev_acons1, ev_acons2, ev_tup, ev_tup_0, ev_tup_1, ev_tup_2, ev_tup_3, ev_lst, ev_lst_0, ev_lst_1, ev_lst_2, ev_lst_3, ev_mkT, ev_mkF, ev_bin, ev_bin1, ev_bin2, ev_un, ev_un1, ev_add, ev_addT, ev_addL, ev_sub, ev_neg, ev_lt, ev_le, ev_gt, ev_ge, ev_eqI, ev_neI, ev_eqB, ev_neB, ev_eqS, ev_neS, ev_and, ev_andT, ev_andF, ev_or, ev_orT, ev_orF, ev_not, ev_not1, ev_tnot, ev_tnot1, ev_tand, ev_tandT, ev_tandF, ev_tor, ev_torT, ev_torF, ev_tb, ev_tb1, ev_yes, ev_ife, ev_ifeT, ev_ifeF, ev_ch, ev_ch1, ev_ch2, ev_ch3T, ev_ch3F, ev_ch4, ev_is, ev_isB, ev_notN, ev_call, ev_call1, ev_own, ev_own_1, ev_own_2, ev_own_3, ev_own_4, ev_own_5, ev_ownK, ev_ownK_1, ev_ownK_01, ev_ownK_10, ev_lenT, ev_lenL, ev_lenO, ev_int, ev_intB, ev_abs, ev_min, ev_max, ev_tupT, ev_tupL, ev_listT, ev_listL, ev_meth, ev_meth2, ev_gN, ev_set, ev_set1, ev_gT, ev_gT2, ev_gT3, ev_gnil, ev_gcons, ev_gcons1, ev_iseq, ev_iseqT, ev_iseqL, ev_iseqO, ev_r1, ev_r2, ev_lrg1, ev_sl, ev_sl1, ev_sl3, ev_sl4, ev_on, ev_os, ev_os1, ev_slT, ev_slL, ev_slO, ev_r3, ix_t0, ix_t1, ix_t2, en_pair, en_int, wipeM, List.map_cons, List.map_nil, List.length_cons, List.length_nil, List.replicate_succ, List.replicate_zero, List.cons_append, List.nil_append, List.append_nil, List.set_cons_zero, List.set_cons_succ, Nat.reduceAdd, Nat.reduceSub, Nat.zero_add, if_true, if_false, reduceIte, Int.reduceEq, Int.reduceLT, Int.reduceLE, Bool.false_eq_true, decide_true, decide_false, Bool.not_true, Bool.not_false, List.getElem?_cons_zero, List.getElem?_cons_succ]
    rw [show (qs.map M.int) = qs.map (en (α := Int)) from rfl, this]
    simp only [ev_seq, ev_seqN, ev_seqR, ev_seqB, ev_seqC, ev_seqE, ev_nil, ev_brk, ev_cnt, ev_retN, ev_expr, ev_expr1, ev_ret, ev_ret1, ev_if, ev_ifT, ev_ifF, ev_asg, ev_asg1, ev_asg2, ev_par, ev_par1, ev_def, ev_defR, ev_defN, ev_var0, ev_varS, ev_k, ev_anil, ev_acons, ev_acons1, ev_acons2, ev_tup, ev_tup_0, ev_tup_1, ev_tup_2, ev_tup_3, ev_lst, ev_lst_0, ev_lst_1, ev_lst_2, ev_lst_3, ev_mkT, ev_mkF, ev_bin, ev_bin1, ev_bin2, ev_un, ev_un1, ev_add, ev_addT, ev_addL, ev_sub, ev_neg, ev_lt, ev_le, ev_gt, ev_ge, ev_eqI, ev_neI, ev_eqB, ev_neB, ev_eqS, ev_neS, ev_and, ev_andT, ev_andF, ev_or, ev_orT, ev_orF, ev_not, ev_not1, ev_tnot, ev_tnot1, ev_tand, ev_tandT, ev_tandF, ev_tor, ev_torT, ev_torF, ev_tb, ev_tb1, ev_yes, ev_ife, ev_ifeT, ev_ifeF, ev_ch, ev_ch1, ev_ch2, ev_ch3T, ev_ch3F, ev_ch4, ev_is, ev_isB, ev_notN, ev_call, ev_call1, ev_own, ev_own_1, ev_own_2, ev_own_3, ev_own_4, ev_own_5, ev_ownK, ev_ownK_1, ev_ownK_01, ev_ownK_10, ev_lenT, ev_lenL, ev_lenO, ev_int, ev_intB, ev_abs, ev_min, ev_max, ev_tupT, ev_tupL, ev_listT, ev_listL, ev_meth, ev_meth2, ev_gN, ev_set, ev_set1, ev_gT, ev_gT2, ev_gT3, ev_gnil, ev_gcons, ev_gcons1, ev_iseq, ev_iseqT, ev_iseqL, ev_iseqO, ev_r1, ev_r2, ev_lrg1, ev_sl, ev_sl1, ev_sl3, ev_sl4, ev_on, ev_os, ev_os1, ev_slT, ev_slL, ev_slO, ev_r3, ix_t0, ix_t1, ix_t2, en_pair, en_int, wipeM, List.map_cons, List.map_nil, List.length_cons, List.length_nil, List.replicate_succ, List.replicate_zero, List.cons_append, List.nil_append, List.append_nil, List.set_cons_zero, List.set_cons_succ, Nat.reduceAdd, Nat.reduceSub, Nat.zero_add, if_true, if_false, reduceIte, Int.reduceEq, Int.reduceLT, Int.reduceLE, Bool.false_eq_true, decide_true, decide_false, Bool.not_true, Bool.not_false, List.getElem?_cons_zero, List.getElem?_cons_succ]
  have l1 : ∀ (x5 x6 x7 x8 x9 : Option M), ∃ y, forV (gN 6) B4__law_are_rows (qs.map M.int) [some (.loc 1), some (web n A), some (.int n), some (.tmp (qs.map M.int)), some (web n A), x5, x6, x7, x8, x9] (bagR b1 []) =
      .nx [some (.loc 1), some (web n A), some (.int n), some (.tmp (qs.map M.int)), some (web n (flipL A qs)), x5, y, x7, x8, x9] (bagR b1 []) := fun x5 x6 x7 x8 x9 => by
    obtain ⟨ms', h', e, y, rfl, rfl⟩ := forV_pre (g := gN 6) (body := B4__law_are_rows) M.int qs (fun pre ms h => ∃ y, ms = [some (.loc 1), some (web n A), some (.int n), some (.tmp (qs.map M.int)), some (web n (flipL A pre)), x5, y, x7, x8, x9] ∧ h = bagR b1 []) (by
      rintro pre p post ms h e ⟨y, rfl, rfl⟩
      obtain ⟨q1, q2⟩ := qin p (by rw [e]; simp)
      refine ⟨_, _, turn_nx (by simp only [ev_seq, ev_seqN, ev_seqR, ev_seqB, ev_seqC, ev_seqE, ev_nil, ev_brk, ev_cnt, ev_retN, ev_expr, ev_expr1, ev_ret, ev_ret1, ev_if, ev_ifT, ev_ifF, ev_asg, ev_asg1, ev_asg2, ev_par, ev_par1, ev_def, ev_defR, ev_defN, ev_var0, ev_varS, ev_k, ev_anil, ev_acons, ev_acons1, ev_acons2, ev_tup, ev_tup_0, ev_tup_1, ev_tup_2, ev_tup_3, ev_lst, ev_lst_0, ev_lst_1, ev_lst_2, ev_lst_3, ev_mkT, ev_mkF, ev_bin, ev_bin1, ev_bin2, ev_un, ev_un1, ev_add, ev_addT, ev_addL, ev_sub, ev_neg, ev_lt, ev_le, ev_gt, ev_ge, ev_eqI, ev_neI, ev_eqB, ev_neB, ev_eqS, ev_neS, ev_and, ev_andT, ev_andF, ev_or, ev_orT, ev_orF, ev_not, ev_not1, ev_tnot, ev_tnot1, ev_tand, ev_tandT, ev_tandF, ev_tor, ev_torT, ev_torF, ev_tb, ev_tb1, ev_yes, ev_ife, ev_ifeT, ev_ifeF, ev_ch, ev_ch1, ev_ch2, ev_ch3T, ev_ch3F, ev_ch4, ev_is, ev_isB, ev_notN, ev_call, ev_call1, ev_own, ev_own_1, ev_own_2, ev_own_3, ev_own_4, ev_own_5, ev_ownK, ev_ownK_1, ev_ownK_01, ev_ownK_10, ev_lenT, ev_lenL, ev_lenO, ev_int, ev_intB, ev_abs, ev_min, ev_max, ev_tupT, ev_tupL, ev_listT, ev_listL, ev_meth, ev_meth2, ev_gN, ev_set, ev_set1, ev_gT, ev_gT2, ev_gT3, ev_gnil, ev_gcons, ev_gcons1, ev_iseq, ev_iseqT, ev_iseqL, ev_iseqO, ev_r1, ev_r2, ev_lrg1, ev_sl, ev_sl1, ev_sl3, ev_sl4, ev_on, ev_os, ev_os1, ev_slT, ev_slL, ev_slO, ev_r3, ix_t0, ix_t1, ix_t2, en_pair, en_int, wipeM, List.map_cons, List.map_nil, List.length_cons, List.length_nil, List.replicate_succ, List.replicate_zero, List.cons_append, List.nil_append, List.append_nil, List.set_cons_zero, List.set_cons_succ, Nat.reduceAdd, Nat.reduceSub, Nat.zero_add, if_true, if_false, reduceIte, Int.reduceEq, Int.reduceLT, Int.reduceLE, Bool.false_eq_true, decide_true, decide_false, Bool.not_true, Bool.not_false, List.getElem?_cons_zero, List.getElem?_cons_succ] <;> rfl) ?_, some (.int p), rfl, rfl⟩
      unfold B4__law_are_rows
      simp only [ev_seq, ev_seqN, ev_seqR, ev_seqB, ev_seqC, ev_seqE, ev_nil, ev_brk, ev_cnt, ev_retN, ev_expr, ev_expr1, ev_ret, ev_ret1, ev_if, ev_ifT, ev_ifF, ev_asg, ev_asg1, ev_asg2, ev_par, ev_par1, ev_def, ev_defR, ev_defN, ev_var0, ev_varS, ev_k, ev_anil, ev_acons, ev_acons1, ev_acons2, ev_tup, ev_tup_0, ev_tup_1, ev_tup_2, ev_tup_3, ev_lst, ev_lst_0, ev_lst_1, ev_lst_2, ev_lst_3, ev_mkT, ev_mkF, ev_bin, ev_bin1, ev_bin2, ev_un, ev_un1, ev_add, ev_addT, ev_addL, ev_sub, ev_neg, ev_lt, ev_le, ev_gt, ev_ge, ev_eqI, ev_neI, ev_eqB, ev_neB, ev_eqS, ev_neS, ev_and, ev_andT, ev_andF, ev_or, ev_orT, ev_orF, ev_not, ev_not1, ev_tnot, ev_tnot1, ev_tand, ev_tandT, ev_tandF, ev_tor, ev_torT, ev_torF, ev_tb, ev_tb1, ev_yes, ev_ife, ev_ifeT, ev_ifeF, ev_ch, ev_ch1, ev_ch2, ev_ch3T, ev_ch3F, ev_ch4, ev_is, ev_isB, ev_notN, ev_call, ev_call1, ev_own, ev_own_1, ev_own_2, ev_own_3, ev_own_4, ev_own_5, ev_ownK, ev_ownK_1, ev_ownK_01, ev_ownK_10, ev_lenT, ev_lenL, ev_lenO, ev_int, ev_intB, ev_abs, ev_min, ev_max, ev_tupT, ev_tupL, ev_listT, ev_listL, ev_meth, ev_meth2, ev_gN, ev_set, ev_set1, ev_gT, ev_gT2, ev_gT3, ev_gnil, ev_gcons, ev_gcons1, ev_iseq, ev_iseqT, ev_iseqL, ev_iseqO, ev_r1, ev_r2, ev_lrg1, ev_sl, ev_sl1, ev_sl3, ev_sl4, ev_on, ev_os, ev_os1, ev_slT, ev_slL, ev_slO, ev_r3, ix_t0, ix_t1, ix_t2, en_pair, en_int, wipeM, List.map_cons, List.map_nil, List.length_cons, List.length_nil, List.replicate_succ, List.replicate_zero, List.cons_append, List.nil_append, List.append_nil, List.set_cons_zero, List.set_cons_succ, Nat.reduceAdd, Nat.reduceSub, Nat.zero_add, if_true, if_false, reduceIte, Int.reduceEq, Int.reduceLT, Int.reduceLE, Bool.false_eq_true, decide_true, decide_false, Bool.not_true, Bool.not_false, List.getElem?_cons_zero, List.getElem?_cons_succ, turned_spec hn q1 q2, flipL_snoc]) (ms := [some (.loc 1), some (web n A), some (.int n), some (.tmp (qs.map M.int)), some (web n A), x5, x6, x7, x8, x9]) (h := bagR b1 []) ⟨x6, rfl, rfl⟩
    exact ⟨y, e⟩
  have l2 : ∀ (x4 x6 x7 x8 x9 : Option M), ∃ y, forV (gN 6) B3__law_are_rows (qs.reverse.map M.int) [some (.loc 1), some (web n A), some (.int n), some (.tmp (qs.map M.int)), x4, some (web n A), x6, x7, x8, x9] (bagR b1 []) =
      .nx [some (.loc 1), some (web n A), some (.int n), some (.tmp (qs.map M.int)), x4, some (web n (flipL A qs.reverse)), y, x7, x8, x9] (bagR b1 []) := fun x4 x6 x7 x8 x9 => by
    obtain ⟨ms', h', e, y, rfl, rfl⟩ := forV_pre (g := gN 6) (body := B3__law_are_rows) M.int qs.reverse (fun pre ms h => ∃ y, ms = [some (.loc 1), some (web n A), some (.int n), some (.tmp (qs.map M.int)), x4, some (web n (flipL A pre)), y, x7, x8, x9] ∧ h = bagR b1 []) (by
      rintro pre p post ms h e ⟨y, rfl, rfl⟩
      obtain ⟨q1, q2⟩ := qin p (List.mem_reverse.mp (by rw [e]; simp))
      refine ⟨_, _, turn_nx (by simp only [ev_seq, ev_seqN, ev_seqR, ev_seqB, ev_seqC, ev_seqE, ev_nil, ev_brk, ev_cnt, ev_retN, ev_expr, ev_expr1, ev_ret, ev_ret1, ev_if, ev_ifT, ev_ifF, ev_asg, ev_asg1, ev_asg2, ev_par, ev_par1, ev_def, ev_defR, ev_defN, ev_var0, ev_varS, ev_k, ev_anil, ev_acons, ev_acons1, ev_acons2, ev_tup, ev_tup_0, ev_tup_1, ev_tup_2, ev_tup_3, ev_lst, ev_lst_0, ev_lst_1, ev_lst_2, ev_lst_3, ev_mkT, ev_mkF, ev_bin, ev_bin1, ev_bin2, ev_un, ev_un1, ev_add, ev_addT, ev_addL, ev_sub, ev_neg, ev_lt, ev_le, ev_gt, ev_ge, ev_eqI, ev_neI, ev_eqB, ev_neB, ev_eqS, ev_neS, ev_and, ev_andT, ev_andF, ev_or, ev_orT, ev_orF, ev_not, ev_not1, ev_tnot, ev_tnot1, ev_tand, ev_tandT, ev_tandF, ev_tor, ev_torT, ev_torF, ev_tb, ev_tb1, ev_yes, ev_ife, ev_ifeT, ev_ifeF, ev_ch, ev_ch1, ev_ch2, ev_ch3T, ev_ch3F, ev_ch4, ev_is, ev_isB, ev_notN, ev_call, ev_call1, ev_own, ev_own_1, ev_own_2, ev_own_3, ev_own_4, ev_own_5, ev_ownK, ev_ownK_1, ev_ownK_01, ev_ownK_10, ev_lenT, ev_lenL, ev_lenO, ev_int, ev_intB, ev_abs, ev_min, ev_max, ev_tupT, ev_tupL, ev_listT, ev_listL, ev_meth, ev_meth2, ev_gN, ev_set, ev_set1, ev_gT, ev_gT2, ev_gT3, ev_gnil, ev_gcons, ev_gcons1, ev_iseq, ev_iseqT, ev_iseqL, ev_iseqO, ev_r1, ev_r2, ev_lrg1, ev_sl, ev_sl1, ev_sl3, ev_sl4, ev_on, ev_os, ev_os1, ev_slT, ev_slL, ev_slO, ev_r3, ix_t0, ix_t1, ix_t2, en_pair, en_int, wipeM, List.map_cons, List.map_nil, List.length_cons, List.length_nil, List.replicate_succ, List.replicate_zero, List.cons_append, List.nil_append, List.append_nil, List.set_cons_zero, List.set_cons_succ, Nat.reduceAdd, Nat.reduceSub, Nat.zero_add, if_true, if_false, reduceIte, Int.reduceEq, Int.reduceLT, Int.reduceLE, Bool.false_eq_true, decide_true, decide_false, Bool.not_true, Bool.not_false, List.getElem?_cons_zero, List.getElem?_cons_succ] <;> rfl) ?_, some (.int p), rfl, rfl⟩
      unfold B3__law_are_rows
      simp only [ev_seq, ev_seqN, ev_seqR, ev_seqB, ev_seqC, ev_seqE, ev_nil, ev_brk, ev_cnt, ev_retN, ev_expr, ev_expr1, ev_ret, ev_ret1, ev_if, ev_ifT, ev_ifF, ev_asg, ev_asg1, ev_asg2, ev_par, ev_par1, ev_def, ev_defR, ev_defN, ev_var0, ev_varS, ev_k, ev_anil, ev_acons, ev_acons1, ev_acons2, ev_tup, ev_tup_0, ev_tup_1, ev_tup_2, ev_tup_3, ev_lst, ev_lst_0, ev_lst_1, ev_lst_2, ev_lst_3, ev_mkT, ev_mkF, ev_bin, ev_bin1, ev_bin2, ev_un, ev_un1, ev_add, ev_addT, ev_addL, ev_sub, ev_neg, ev_lt, ev_le, ev_gt, ev_ge, ev_eqI, ev_neI, ev_eqB, ev_neB, ev_eqS, ev_neS, ev_and, ev_andT, ev_andF, ev_or, ev_orT, ev_orF, ev_not, ev_not1, ev_tnot, ev_tnot1, ev_tand, ev_tandT, ev_tandF, ev_tor, ev_torT, ev_torF, ev_tb, ev_tb1, ev_yes, ev_ife, ev_ifeT, ev_ifeF, ev_ch, ev_ch1, ev_ch2, ev_ch3T, ev_ch3F, ev_ch4, ev_is, ev_isB, ev_notN, ev_call, ev_call1, ev_own, ev_own_1, ev_own_2, ev_own_3, ev_own_4, ev_own_5, ev_ownK, ev_ownK_1, ev_ownK_01, ev_ownK_10, ev_lenT, ev_lenL, ev_lenO, ev_int, ev_intB, ev_abs, ev_min, ev_max, ev_tupT, ev_tupL, ev_listT, ev_listL, ev_meth, ev_meth2, ev_gN, ev_set, ev_set1, ev_gT, ev_gT2, ev_gT3, ev_gnil, ev_gcons, ev_gcons1, ev_iseq, ev_iseqT, ev_iseqL, ev_iseqO, ev_r1, ev_r2, ev_lrg1, ev_sl, ev_sl1, ev_sl3, ev_sl4, ev_on, ev_os, ev_os1, ev_slT, ev_slL, ev_slO, ev_r3, ix_t0, ix_t1, ix_t2, en_pair, en_int, wipeM, List.map_cons, List.map_nil, List.length_cons, List.length_nil, List.replicate_succ, List.replicate_zero, List.cons_append, List.nil_append, List.append_nil, List.set_cons_zero, List.set_cons_succ, Nat.reduceAdd, Nat.reduceSub, Nat.zero_add, if_true, if_false, reduceIte, Int.reduceEq, Int.reduceLT, Int.reduceLE, Bool.false_eq_true, decide_true, decide_false, Bool.not_true, Bool.not_false, List.getElem?_cons_zero, List.getElem?_cons_succ, turned_spec hn q1 q2, flipL_snoc]) (ms := [some (.loc 1), some (web n A), some (.int n), some (.tmp (qs.map M.int)), x4, some (web n A), x6, x7, x8, x9]) (h := bagR b1 []) ⟨x6, rfl, rfl⟩
    exact ⟨y, e⟩
  have l3 : ∀ (x4 x5 x6 x8 x9 : Option M), ∃ y, forV (gN 6) B2__law_are_rows (((irg 0 n).filter fun p => !decide (p ∈ qs)).map M.int) [some (.loc 1), some (web n A), some (.int n), some (.tmp (qs.map M.int)), x4, x5, x6, some (web n A), x8, x9] (bagR b1 []) =
      .nx [some (.loc 1), some (web n A), some (.int n), some (.tmp (qs.map M.int)), x4, x5, y, some (web n (flipL A ((irg 0 n).filter fun p => !decide (p ∈ qs)))), x8, x9] (bagR b1 []) := fun x4 x5 x6 x8 x9 => by
    obtain ⟨ms', h', e, y, rfl, rfl⟩ := forV_pre (g := gN 6) (body := B2__law_are_rows) M.int ((irg 0 n).filter fun p => !decide (p ∈ qs)) (fun pre ms h => ∃ y, ms = [some (.loc 1), some (web n A), some (.int n), some (.tmp (qs.map M.int)), x4, x5, y, some (web n (flipL A pre)), x8, x9] ∧ h = bagR b1 []) (by
      rintro pre p post ms h e ⟨y, rfl, rfl⟩
      obtain ⟨q1, q2⟩ := mem_irg.mp (List.mem_filter.mp (show p ∈ (irg 0 n).filter fun p => !decide (p ∈ qs) by rw [e]; simp)).1
      refine ⟨_, _, turn_nx (by simp only [ev_seq, ev_seqN, ev_seqR, ev_seqB, ev_seqC, ev_seqE, ev_nil, ev_brk, ev_cnt, ev_retN, ev_expr, ev_expr1, ev_ret, ev_ret1, ev_if, ev_ifT, ev_ifF, ev_asg, ev_asg1, ev_asg2, ev_par, ev_par1, ev_def, ev_defR, ev_defN, ev_var0, ev_varS, ev_k, ev_anil, ev_acons, ev_acons1, ev_acons2, ev_tup, ev_tup_0, ev_tup_1, ev_tup_2, ev_tup_3, ev_lst, ev_lst_0, ev_lst_1, ev_lst_2, ev_lst_3, ev_mkT, ev_mkF, ev_bin, ev_bin1, ev_bin2, ev_un, ev_un1, ev_add, ev_addT, ev_addL, ev_sub, ev_neg, ev_lt, ev_le, ev_gt, ev_ge, ev_eqI, ev_neI, ev_eqB, ev_neB, ev_eqS, ev_neS, ev_and, ev_andT, ev_andF, ev_or, ev_orT, ev_orF, ev_not, ev_not1, ev_tnot, ev_tnot1, ev_tand, ev_tandT, ev_tandF, ev_tor, ev_torT, ev_torF, ev_tb, ev_tb1, ev_yes, ev_ife, ev_ifeT, ev_ifeF, ev_ch, ev_ch1, ev_ch2, ev_ch3T, ev_ch3F, ev_ch4, ev_is, ev_isB, ev_notN, ev_call, ev_call1, ev_own, ev_own_1, ev_own_2, ev_own_3, ev_own_4, ev_own_5, ev_ownK, ev_ownK_1, ev_ownK_01, ev_ownK_10, ev_lenT, ev_lenL, ev_lenO, ev_int, ev_intB, ev_abs, ev_min, ev_max, ev_tupT, ev_tupL, ev_listT, ev_listL, ev_meth, ev_meth2, ev_gN, ev_set, ev_set1, ev_gT, ev_gT2, ev_gT3, ev_gnil, ev_gcons, ev_gcons1, ev_iseq, ev_iseqT, ev_iseqL, ev_iseqO, ev_r1, ev_r2, ev_lrg1, ev_sl, ev_sl1, ev_sl3, ev_sl4, ev_on, ev_os, ev_os1, ev_slT, ev_slL, ev_slO, ev_r3, ix_t0, ix_t1, ix_t2, en_pair, en_int, wipeM, List.map_cons, List.map_nil, List.length_cons, List.length_nil, List.replicate_succ, List.replicate_zero, List.cons_append, List.nil_append, List.append_nil, List.set_cons_zero, List.set_cons_succ, Nat.reduceAdd, Nat.reduceSub, Nat.zero_add, if_true, if_false, reduceIte, Int.reduceEq, Int.reduceLT, Int.reduceLE, Bool.false_eq_true, decide_true, decide_false, Bool.not_true, Bool.not_false, List.getElem?_cons_zero, List.getElem?_cons_succ] <;> rfl) ?_, some (.int p), rfl, rfl⟩
      unfold B2__law_are_rows
      simp only [ev_seq, ev_seqN, ev_seqR, ev_seqB, ev_seqC, ev_seqE, ev_nil, ev_brk, ev_cnt, ev_retN, ev_expr, ev_expr1, ev_ret, ev_ret1, ev_if, ev_ifT, ev_ifF, ev_asg, ev_asg1, ev_asg2, ev_par, ev_par1, ev_def, ev_defR, ev_defN, ev_var0, ev_varS, ev_k, ev_anil, ev_acons, ev_acons1, ev_acons2, ev_tup, ev_tup_0, ev_tup_1, ev_tup_2, ev_tup_3, ev_lst, ev_lst_0, ev_lst_1, ev_lst_2, ev_lst_3, ev_mkT, ev_mkF, ev_bin, ev_bin1, ev_bin2, ev_un, ev_un1, ev_add, ev_addT, ev_addL, ev_sub, ev_neg, ev_lt, ev_le, ev_gt, ev_ge, ev_eqI, ev_neI, ev_eqB, ev_neB, ev_eqS, ev_neS, ev_and, ev_andT, ev_andF, ev_or, ev_orT, ev_orF, ev_not, ev_not1, ev_tnot, ev_tnot1, ev_tand, ev_tandT, ev_tandF, ev_tor, ev_torT, ev_torF, ev_tb, ev_tb1, ev_yes, ev_ife, ev_ifeT, ev_ifeF, ev_ch, ev_ch1, ev_ch2, ev_ch3T, ev_ch3F, ev_ch4, ev_is, ev_isB, ev_notN, ev_call, ev_call1, ev_own, ev_own_1, ev_own_2, ev_own_3, ev_own_4, ev_own_5, ev_ownK, ev_ownK_1, ev_ownK_01, ev_ownK_10, ev_lenT, ev_lenL, ev_lenO, ev_int, ev_intB, ev_abs, ev_min, ev_max, ev_tupT, ev_tupL, ev_listT, ev_listL, ev_meth, ev_meth2, ev_gN, ev_set, ev_set1, ev_gT, ev_gT2, ev_gT3, ev_gnil, ev_gcons, ev_gcons1, ev_iseq, ev_iseqT, ev_iseqL, ev_iseqO, ev_r1, ev_r2, ev_lrg1, ev_sl, ev_sl1, ev_sl3, ev_sl4, ev_on, ev_os, ev_os1, ev_slT, ev_slL, ev_slO, ev_r3, ix_t0, ix_t1, ix_t2, en_pair, en_int, wipeM, List.map_cons, List.map_nil, List.length_cons, List.length_nil, List.replicate_succ, List.replicate_zero, List.cons_append, List.nil_append, List.append_nil, List.set_cons_zero, List.set_cons_succ, Nat.reduceAdd, Nat.reduceSub, Nat.zero_add, if_true, if_false, reduceIte, Int.reduceEq, Int.reduceLT, Int.reduceLE, Bool.false_eq_true, decide_true, decide_false, Bool.not_true, Bool.not_false, List.getElem?_cons_zero, List.getElem?_cons_succ, turned_spec hn q1 q2, flipL_snoc]) (ms := [some (.loc 1), some (web n A), some (.int n), some (.tmp (qs.map M.int)), x4, x5, x6, some (web n A), x8, x9]) (h := bagR b1 []) ⟨x6, rfl, rfl⟩
    exact ⟨y, e⟩
  have w2 : web n (flipL A qs.reverse) = web n (flipL A qs) := flip_same ((List.reverse_perm qs).nodup_iff.mpr qnd) qnd fun a b _ _ _ _ => by simp
  have w3 : web n (flipL A ((irg 0 n).filter fun p => !decide (p ∈ qs))) = web n (flipL A qs) := flip_same ((irg_nodup 0 n).filter _) qnd fun a b h1 h2 h3 h4 => by
    have ma : ∀ x : Int, 0 ≤ x → x < n → decide (x ∈ (irg 0 n).filter fun p => !decide (p ∈ qs)) = !decide (x ∈ qs) := fun x u v => by
      rw [Bool.eq_iff_iff, decide_eq_true_eq, List.mem_filter, mem_irg]
      exact ⟨fun z => z.2, fun z => ⟨⟨u, v⟩, z⟩⟩
    rw [ma a h1 h2, ma b h3 h4]
    cases decide (a ∈ qs) <;> cases decide (b ∈ qs) <;> rfl
  obtain ⟨y1, k1⟩ := l1 (some (web n A)) none none none none
  obtain ⟨y2, k2⟩ := l2 (some (web n (flipL A qs))) y1 none none none
  obtain ⟨y3, k3⟩ := l3 (some (web n (flipL A qs))) (some (web n (flipL A qs.reverse))) y2 none none
  have sm3 : Sm 7 (.tup [web n (flipL A qs), web n (flipL A qs), web n (flipL A qs)]) := .tup (fun x hx => by
    have : x = web n (flipL A qs) := by simpa using hx
    subst this
    exact sm_web (k := 3) hn) (show (3 : Nat) ≤ LIM by decide)
  refine ⟨b1, o1, bag_val0 ?_ (by simp [clo]) cloH_nil⟩
  unfold F__law_are_rows
  have rv : revM false (.tmp (qs.map M.int)) (bagR b1 []) = .ok (.tmp (qs.reverse.map M.int)) (bagR b1 []) := by
    show R.ok (M.tmp (qs.map M.int).reverse) _ = _
    rw [List.map_reverse]
  simp only [ev_seq, ev_seqN, ev_seqR, ev_seqB, ev_seqC, ev_seqE, ev_nil, ev_brk, ev_cnt, ev_retN, ev_expr, ev_expr1, ev_ret, ev_ret1, ev_if, ev_ifT, ev_ifF, ev_asg, ev_asg1, ev_asg2, ev_par, ev_par1, ev_def, ev_defR, ev_defN, ev_var0, ev_varS, ev_k, ev_anil, ev_acons, ev_acons1, ev_acons2, ev_tup, ev_tup_0, ev_tup_1, ev_tup_2, ev_tup_3, ev_lst, ev_lst_0, ev_lst_1, ev_lst_2, ev_lst_3, ev_mkT, ev_mkF, ev_bin, ev_bin1, ev_bin2, ev_un, ev_un1, ev_add, ev_addT, ev_addL, ev_sub, ev_neg, ev_lt, ev_le, ev_gt, ev_ge, ev_eqI, ev_neI, ev_eqB, ev_neB, ev_eqS, ev_neS, ev_and, ev_andT, ev_andF, ev_or, ev_orT, ev_orF, ev_not, ev_not1, ev_tnot, ev_tnot1, ev_tand, ev_tandT, ev_tandF, ev_tor, ev_torT, ev_torF, ev_tb, ev_tb1, ev_yes, ev_ife, ev_ifeT, ev_ifeF, ev_ch, ev_ch1, ev_ch2, ev_ch3T, ev_ch3F, ev_ch4, ev_is, ev_isB, ev_notN, ev_call, ev_call1, ev_own, ev_own_1, ev_own_2, ev_own_3, ev_own_4, ev_own_5, ev_ownK, ev_ownK_1, ev_ownK_01, ev_ownK_10, ev_lenT, ev_lenL, ev_lenO, ev_int, ev_intB, ev_abs, ev_min, ev_max, ev_tupT, ev_tupL, ev_listT, ev_listL, ev_meth, ev_meth2, ev_gN, ev_set, ev_set1, ev_gT, ev_gT2, ev_gT3, ev_gnil, ev_gcons, ev_gcons1, ev_iseq, ev_iseqT, ev_iseqL, ev_iseqO, ev_r1, ev_r2, ev_lrg1, ev_sl, ev_sl1, ev_sl3, ev_sl4, ev_on, ev_os, ev_os1, ev_slT, ev_slL, ev_slO, ev_r3, ix_t0, ix_t1, ix_t2, en_pair, en_int, wipeM, List.map_cons, List.map_nil, List.length_cons, List.length_nil, List.replicate_succ, List.replicate_zero, List.cons_append, List.nil_append, List.append_nil, List.set_cons_zero, List.set_cons_succ, Nat.reduceAdd, Nat.reduceSub, Nat.zero_add, if_true, if_false, reduceIte, Int.reduceEq, Int.reduceLT, Int.reduceLE, Bool.false_eq_true, decide_true, decide_false, Bool.not_true, Bool.not_false, List.getElem?_cons_zero, List.getElem?_cons_succ, web_ix0, c1, ct]
  rw [xFor_eq (xs := qs.map M.int) (by simp only [ev_seq, ev_seqN, ev_seqR, ev_seqB, ev_seqC, ev_seqE, ev_nil, ev_brk, ev_cnt, ev_retN, ev_expr, ev_expr1, ev_ret, ev_ret1, ev_if, ev_ifT, ev_ifF, ev_asg, ev_asg1, ev_asg2, ev_par, ev_par1, ev_def, ev_defR, ev_defN, ev_var0, ev_varS, ev_k, ev_anil, ev_acons, ev_acons1, ev_acons2, ev_tup, ev_tup_0, ev_tup_1, ev_tup_2, ev_tup_3, ev_lst, ev_lst_0, ev_lst_1, ev_lst_2, ev_lst_3, ev_mkT, ev_mkF, ev_bin, ev_bin1, ev_bin2, ev_un, ev_un1, ev_add, ev_addT, ev_addL, ev_sub, ev_neg, ev_lt, ev_le, ev_gt, ev_ge, ev_eqI, ev_neI, ev_eqB, ev_neB, ev_eqS, ev_neS, ev_and, ev_andT, ev_andF, ev_or, ev_orT, ev_orF, ev_not, ev_not1, ev_tnot, ev_tnot1, ev_tand, ev_tandT, ev_tandF, ev_tor, ev_torT, ev_torF, ev_tb, ev_tb1, ev_yes, ev_ife, ev_ifeT, ev_ifeF, ev_ch, ev_ch1, ev_ch2, ev_ch3T, ev_ch3F, ev_ch4, ev_is, ev_isB, ev_notN, ev_call, ev_call1, ev_own, ev_own_1, ev_own_2, ev_own_3, ev_own_4, ev_own_5, ev_ownK, ev_ownK_1, ev_ownK_01, ev_ownK_10, ev_lenT, ev_lenL, ev_lenO, ev_int, ev_intB, ev_abs, ev_min, ev_max, ev_tupT, ev_tupL, ev_listT, ev_listL, ev_meth, ev_meth2, ev_gN, ev_set, ev_set1, ev_gT, ev_gT2, ev_gT3, ev_gnil, ev_gcons, ev_gcons1, ev_iseq, ev_iseqT, ev_iseqL, ev_iseqO, ev_r1, ev_r2, ev_lrg1, ev_sl, ev_sl1, ev_sl3, ev_sl4, ev_on, ev_os, ev_os1, ev_slT, ev_slL, ev_slO, ev_r3, ix_t0, ix_t1, ix_t2, en_pair, en_int, wipeM, List.map_cons, List.map_nil, List.length_cons, List.length_nil, List.replicate_succ, List.replicate_zero, List.cons_append, List.nil_append, List.append_nil, List.set_cons_zero, List.set_cons_succ, Nat.reduceAdd, Nat.reduceSub, Nat.zero_add, if_true, if_false, reduceIte, Int.reduceEq, Int.reduceLT, Int.reduceLE, Bool.false_eq_true, decide_true, decide_false, Bool.not_true, Bool.not_false, List.getElem?_cons_zero, List.getElem?_cons_succ] <;> rfl), k1]
  simp only [ev_seq, ev_seqN, ev_seqR, ev_seqB, ev_seqC, ev_seqE, ev_nil, ev_brk, ev_cnt, ev_retN, ev_expr, ev_expr1, ev_ret, ev_ret1, ev_if, ev_ifT, ev_ifF, ev_asg, ev_asg1, ev_asg2, ev_par, ev_par1, ev_def, ev_defR, ev_defN, ev_var0, ev_varS, ev_k, ev_anil, ev_acons, ev_acons1, ev_acons2, ev_tup, ev_tup_0, ev_tup_1, ev_tup_2, ev_tup_3, ev_lst, ev_lst_0, ev_lst_1, ev_lst_2, ev_lst_3, ev_mkT, ev_mkF, ev_bin, ev_bin1, ev_bin2, ev_un, ev_un1, ev_add, ev_addT, ev_addL, ev_sub, ev_neg, ev_lt, ev_le, ev_gt, ev_ge, ev_eqI, ev_neI, ev_eqB, ev_neB, ev_eqS, ev_neS, ev_and, ev_andT, ev_andF, ev_or, ev_orT, ev_orF, ev_not, ev_not1, ev_tnot, ev_tnot1, ev_tand, ev_tandT, ev_tandF, ev_tor, ev_torT, ev_torF, ev_tb, ev_tb1, ev_yes, ev_ife, ev_ifeT, ev_ifeF, ev_ch, ev_ch1, ev_ch2, ev_ch3T, ev_ch3F, ev_ch4, ev_is, ev_isB, ev_notN, ev_call, ev_call1, ev_own, ev_own_1, ev_own_2, ev_own_3, ev_own_4, ev_own_5, ev_ownK, ev_ownK_1, ev_ownK_01, ev_ownK_10, ev_lenT, ev_lenL, ev_lenO, ev_int, ev_intB, ev_abs, ev_min, ev_max, ev_tupT, ev_tupL, ev_listT, ev_listL, ev_meth, ev_meth2, ev_gN, ev_set, ev_set1, ev_gT, ev_gT2, ev_gT3, ev_gnil, ev_gcons, ev_gcons1, ev_iseq, ev_iseqT, ev_iseqL, ev_iseqO, ev_r1, ev_r2, ev_lrg1, ev_sl, ev_sl1, ev_sl3, ev_sl4, ev_on, ev_os, ev_os1, ev_slT, ev_slL, ev_slO, ev_r3, ix_t0, ix_t1, ix_t2, en_pair, en_int, wipeM, List.map_cons, List.map_nil, List.length_cons, List.length_nil, List.replicate_succ, List.replicate_zero, List.cons_append, List.nil_append, List.append_nil, List.set_cons_zero, List.set_cons_succ, Nat.reduceAdd, Nat.reduceSub, Nat.zero_add, if_true, if_false, reduceIte, Int.reduceEq, Int.reduceLT, Int.reduceLE, Bool.false_eq_true, decide_true, decide_false, Bool.not_true, Bool.not_false, List.getElem?_cons_zero, List.getElem?_cons_succ]
  rw [xFor_eq (xs := qs.reverse.map M.int) (by simp only [ev_seq, ev_seqN, ev_seqR, ev_seqB, ev_seqC, ev_seqE, ev_nil, ev_brk, ev_cnt, ev_retN, ev_expr, ev_expr1, ev_ret, ev_ret1, ev_if, ev_ifT, ev_ifF, ev_asg, ev_asg1, ev_asg2, ev_par, ev_par1, ev_def, ev_defR, ev_defN, ev_var0, ev_varS, ev_k, ev_anil, ev_acons, ev_acons1, ev_acons2, ev_tup, ev_tup_0, ev_tup_1, ev_tup_2, ev_tup_3, ev_lst, ev_lst_0, ev_lst_1, ev_lst_2, ev_lst_3, ev_mkT, ev_mkF, ev_bin, ev_bin1, ev_bin2, ev_un, ev_un1, ev_add, ev_addT, ev_addL, ev_sub, ev_neg, ev_lt, ev_le, ev_gt, ev_ge, ev_eqI, ev_neI, ev_eqB, ev_neB, ev_eqS, ev_neS, ev_and, ev_andT, ev_andF, ev_or, ev_orT, ev_orF, ev_not, ev_not1, ev_tnot, ev_tnot1, ev_tand, ev_tandT, ev_tandF, ev_tor, ev_torT, ev_torF, ev_tb, ev_tb1, ev_yes, ev_ife, ev_ifeT, ev_ifeF, ev_ch, ev_ch1, ev_ch2, ev_ch3T, ev_ch3F, ev_ch4, ev_is, ev_isB, ev_notN, ev_call, ev_call1, ev_own, ev_own_1, ev_own_2, ev_own_3, ev_own_4, ev_own_5, ev_ownK, ev_ownK_1, ev_ownK_01, ev_ownK_10, ev_lenT, ev_lenL, ev_lenO, ev_int, ev_intB, ev_abs, ev_min, ev_max, ev_tupT, ev_tupL, ev_listT, ev_listL, ev_meth, ev_meth2, ev_gN, ev_set, ev_set1, ev_gT, ev_gT2, ev_gT3, ev_gnil, ev_gcons, ev_gcons1, ev_iseq, ev_iseqT, ev_iseqL, ev_iseqO, ev_r1, ev_r2, ev_lrg1, ev_sl, ev_sl1, ev_sl3, ev_sl4, ev_on, ev_os, ev_os1, ev_slT, ev_slL, ev_slO, ev_r3, ix_t0, ix_t1, ix_t2, en_pair, en_int, wipeM, List.map_cons, List.map_nil, List.length_cons, List.length_nil, List.replicate_succ, List.replicate_zero, List.cons_append, List.nil_append, List.append_nil, List.set_cons_zero, List.set_cons_succ, Nat.reduceAdd, Nat.reduceSub, Nat.zero_add, if_true, if_false, reduceIte, Int.reduceEq, Int.reduceLT, Int.reduceLE, Bool.false_eq_true, decide_true, decide_false, Bool.not_true, Bool.not_false, List.getElem?_cons_zero, List.getElem?_cons_succ, rv] <;> rfl), k2]
  simp only [ev_seq, ev_seqN, ev_seqR, ev_seqB, ev_seqC, ev_seqE, ev_nil, ev_brk, ev_cnt, ev_retN, ev_expr, ev_expr1, ev_ret, ev_ret1, ev_if, ev_ifT, ev_ifF, ev_asg, ev_asg1, ev_asg2, ev_par, ev_par1, ev_def, ev_defR, ev_defN, ev_var0, ev_varS, ev_k, ev_anil, ev_acons, ev_acons1, ev_acons2, ev_tup, ev_tup_0, ev_tup_1, ev_tup_2, ev_tup_3, ev_lst, ev_lst_0, ev_lst_1, ev_lst_2, ev_lst_3, ev_mkT, ev_mkF, ev_bin, ev_bin1, ev_bin2, ev_un, ev_un1, ev_add, ev_addT, ev_addL, ev_sub, ev_neg, ev_lt, ev_le, ev_gt, ev_ge, ev_eqI, ev_neI, ev_eqB, ev_neB, ev_eqS, ev_neS, ev_and, ev_andT, ev_andF, ev_or, ev_orT, ev_orF, ev_not, ev_not1, ev_tnot, ev_tnot1, ev_tand, ev_tandT, ev_tandF, ev_tor, ev_torT, ev_torF, ev_tb, ev_tb1, ev_yes, ev_ife, ev_ifeT, ev_ifeF, ev_ch, ev_ch1, ev_ch2, ev_ch3T, ev_ch3F, ev_ch4, ev_is, ev_isB, ev_notN, ev_call, ev_call1, ev_own, ev_own_1, ev_own_2, ev_own_3, ev_own_4, ev_own_5, ev_ownK, ev_ownK_1, ev_ownK_01, ev_ownK_10, ev_lenT, ev_lenL, ev_lenO, ev_int, ev_intB, ev_abs, ev_min, ev_max, ev_tupT, ev_tupL, ev_listT, ev_listL, ev_meth, ev_meth2, ev_gN, ev_set, ev_set1, ev_gT, ev_gT2, ev_gT3, ev_gnil, ev_gcons, ev_gcons1, ev_iseq, ev_iseqT, ev_iseqL, ev_iseqO, ev_r1, ev_r2, ev_lrg1, ev_sl, ev_sl1, ev_sl3, ev_sl4, ev_on, ev_os, ev_os1, ev_slT, ev_slL, ev_slO, ev_r3, ix_t0, ix_t1, ix_t2, en_pair, en_int, wipeM, List.map_cons, List.map_nil, List.length_cons, List.length_nil, List.replicate_succ, List.replicate_zero, List.cons_append, List.nil_append, List.append_nil, List.set_cons_zero, List.set_cons_succ, Nat.reduceAdd, Nat.reduceSub, Nat.zero_add, if_true, if_false, reduceIte, Int.reduceEq, Int.reduceLT, Int.reduceLE, Bool.false_eq_true, decide_true, decide_false, Bool.not_true, Bool.not_false, List.getElem?_cons_zero, List.getElem?_cons_succ]
  rw [xFor_eq (xs := ((irg 0 n).filter fun p => !decide (p ∈ qs)).map M.int) (by simp only [ev_seq, ev_seqN, ev_seqR, ev_seqB, ev_seqC, ev_seqE, ev_nil, ev_brk, ev_cnt, ev_retN, ev_expr, ev_expr1, ev_ret, ev_ret1, ev_if, ev_ifT, ev_ifF, ev_asg, ev_asg1, ev_asg2, ev_par, ev_par1, ev_def, ev_defR, ev_defN, ev_var0, ev_varS, ev_k, ev_anil, ev_acons, ev_acons1, ev_acons2, ev_tup, ev_tup_0, ev_tup_1, ev_tup_2, ev_tup_3, ev_lst, ev_lst_0, ev_lst_1, ev_lst_2, ev_lst_3, ev_mkT, ev_mkF, ev_bin, ev_bin1, ev_bin2, ev_un, ev_un1, ev_add, ev_addT, ev_addL, ev_sub, ev_neg, ev_lt, ev_le, ev_gt, ev_ge, ev_eqI, ev_neI, ev_eqB, ev_neB, ev_eqS, ev_neS, ev_and, ev_andT, ev_andF, ev_or, ev_orT, ev_orF, ev_not, ev_not1, ev_tnot, ev_tnot1, ev_tand, ev_tandT, ev_tandF, ev_tor, ev_torT, ev_torF, ev_tb, ev_tb1, ev_yes, ev_ife, ev_ifeT, ev_ifeF, ev_ch, ev_ch1, ev_ch2, ev_ch3T, ev_ch3F, ev_ch4, ev_is, ev_isB, ev_notN, ev_call, ev_call1, ev_own, ev_own_1, ev_own_2, ev_own_3, ev_own_4, ev_own_5, ev_ownK, ev_ownK_1, ev_ownK_01, ev_ownK_10, ev_lenT, ev_lenL, ev_lenO, ev_int, ev_intB, ev_abs, ev_min, ev_max, ev_tupT, ev_tupL, ev_listT, ev_listL, ev_meth, ev_meth2, ev_gN, ev_set, ev_set1, ev_gT, ev_gT2, ev_gT3, ev_gnil, ev_gcons, ev_gcons1, ev_iseq, ev_iseqT, ev_iseqL, ev_iseqO, ev_r1, ev_r2, ev_lrg1, ev_sl, ev_sl1, ev_sl3, ev_sl4, ev_on, ev_os, ev_os1, ev_slT, ev_slL, ev_slO, ev_r3, ix_t0, ix_t1, ix_t2, en_pair, en_int, wipeM, List.map_cons, List.map_nil, List.length_cons, List.length_nil, List.replicate_succ, List.replicate_zero, List.cons_append, List.nil_append, List.append_nil, List.set_cons_zero, List.set_cons_succ, Nat.reduceAdd, Nat.reduceSub, Nat.zero_add, if_true, if_false, reduceIte, Int.reduceEq, Int.reduceLT, Int.reduceLE, Bool.false_eq_true, decide_true, decide_false, Bool.not_true, Bool.not_false, List.getElem?_cons_zero, List.getElem?_cons_succ, c2] <;> rfl), k3]
  simp only [ev_seq, ev_seqN, ev_seqR, ev_seqB, ev_seqC, ev_seqE, ev_nil, ev_brk, ev_cnt, ev_retN, ev_expr, ev_expr1, ev_ret, ev_ret1, ev_if, ev_ifT, ev_ifF, ev_asg, ev_asg1, ev_asg2, ev_par, ev_par1, ev_def, ev_defR, ev_defN, ev_var0, ev_varS, ev_k, ev_anil, ev_acons, ev_acons1, ev_acons2, ev_tup, ev_tup_0, ev_tup_1, ev_tup_2, ev_tup_3, ev_lst, ev_lst_0, ev_lst_1, ev_lst_2, ev_lst_3, ev_mkT, ev_mkF, ev_bin, ev_bin1, ev_bin2, ev_un, ev_un1, ev_add, ev_addT, ev_addL, ev_sub, ev_neg, ev_lt, ev_le, ev_gt, ev_ge, ev_eqI, ev_neI, ev_eqB, ev_neB, ev_eqS, ev_neS, ev_and, ev_andT, ev_andF, ev_or, ev_orT, ev_orF, ev_not, ev_not1, ev_tnot, ev_tnot1, ev_tand, ev_tandT, ev_tandF, ev_tor, ev_torT, ev_torF, ev_tb, ev_tb1, ev_yes, ev_ife, ev_ifeT, ev_ifeF, ev_ch, ev_ch1, ev_ch2, ev_ch3T, ev_ch3F, ev_ch4, ev_is, ev_isB, ev_notN, ev_call, ev_call1, ev_own, ev_own_1, ev_own_2, ev_own_3, ev_own_4, ev_own_5, ev_ownK, ev_ownK_1, ev_ownK_01, ev_ownK_10, ev_lenT, ev_lenL, ev_lenO, ev_int, ev_intB, ev_abs, ev_min, ev_max, ev_tupT, ev_tupL, ev_listT, ev_listL, ev_meth, ev_meth2, ev_gN, ev_set, ev_set1, ev_gT, ev_gT2, ev_gT3, ev_gnil, ev_gcons, ev_gcons1, ev_iseq, ev_iseqT, ev_iseqL, ev_iseqO, ev_r1, ev_r2, ev_lrg1, ev_sl, ev_sl1, ev_sl3, ev_sl4, ev_on, ev_os, ev_os1, ev_slT, ev_slL, ev_slO, ev_r3, ix_t0, ix_t1, ix_t2, en_pair, en_int, wipeM, List.map_cons, List.map_nil, List.length_cons, List.length_nil, List.replicate_succ, List.replicate_zero, List.cons_append, List.nil_append, List.append_nil, List.set_cons_zero, List.set_cons_succ, Nat.reduceAdd, Nat.reduceSub, Nat.zero_add, if_true, if_false, reduceIte, Int.reduceEq, Int.reduceLT, Int.reduceLE, Bool.false_eq_true, decide_true, decide_false, Bool.not_true, Bool.not_false, List.getElem?_cons_zero, List.getElem?_cons_succ, along_tmp hn qin, w2, w3, same7 sm3]
end Tb.K19

set_option Elab.async false
set_option linter.all false
set_option maxRecDepth 100000
namespace Tb.K19
open PySem L2
open En (en da)

/-! ### four points hold an even number of odd triples -/
theorem mem_tri {n : Int} {A : Int → Int → Bool} {t : Tr} : t ∈ tri n A ↔ 0 ≤ t.a ∧ t.a < t.b ∧ t.b < t.c ∧ t.c < n ∧ odd3 A t.a t.b t.c = true := by
  unfold tri triF
  simp only [List.mem_flatMap, mem_pairsL, List.mem_map, List.mem_filter, mem_irg]
  constructor
  · rintro ⟨⟨a, b⟩, ⟨h1, h2, h3⟩, c, ⟨⟨h4, h5⟩, h6⟩, rfl⟩
    exact ⟨h1, h2, by show b < c; omega, h5, h6⟩
  · rintro ⟨h1, h2, h3, h4, h5⟩
    exact ⟨(t.a, t.b), ⟨h1, h2, by show t.b < n; omega⟩, t.c, ⟨⟨by show t.b + 1 ≤ t.c; omega, h4⟩, h5⟩, rfl⟩
theorem tri_nodup (n : Int) (A : Int → Int → Bool) : (tri n A).Nodup := by
  unfold tri
  refine List.pairwise_flatMap.mpr ⟨fun t _ => ?_, (pairsL_sorted n).imp fun {s t} hst x hx y hy e => ?_⟩
  · unfold triF
    refine List.pairwise_map.mpr (((irg_sorted _ _).filter _).imp fun {a b} h e => ?_)
    have := congrArg Tr.c e
    simp only at this
    omega
  · unfold triF at hx hy
    obtain ⟨c, _, rfl⟩ := List.mem_map.mp hx
    obtain ⟨d, _, rfl⟩ := List.mem_map.mp hy
    have e1 := congrArg Tr.a e
    have e2 := congrArg Tr.b e
    simp only at e1 e2
    unfold ltP at hst
    omega
theorem four_even {n : Int} {A : Int → Int → Bool} {p q r s : Int} (h0 : 0 ≤ p) (h1 : p < q) (h2 : q < r) (h3 : r < s) (h4 : s < n) :
    ((((tri n A).filter fun t => [t.a, t.b, t.c].all fun x => decide (x ∈ [p, q, r, s])).length : Int) % 2 = 1) = False := by
  have nd4 : ([⟨p, q, r⟩, ⟨p, q, s⟩, ⟨p, r, s⟩, ⟨q, r, s⟩] : List Tr).Nodup := by
    simp
    omega
  have e : ((tri n A).filter fun t => [t.a, t.b, t.c].all fun x => decide (x ∈ [p, q, r, s])).length = (([⟨p, q, r⟩, ⟨p, q, s⟩, ⟨p, r, s⟩, ⟨q, r, s⟩] : List Tr).filter fun t => odd3 A t.a t.b t.c).length := by
    refine ((List.perm_ext_iff_of_nodup ((tri_nodup n A).filter _) (nd4.filter _)).mpr fun t => ?_).length_eq
    · rw [List.mem_filter, List.mem_filter, mem_tri]
      simp only [List.all_cons, List.all_nil, Bool.and_true, Bool.and_eq_true, decide_eq_true_eq, List.mem_cons, List.not_mem_nil, or_false]
      constructor
      · rintro ⟨⟨u1, u2, u3, u4, u5⟩, v1, v2, v3⟩
        refine ⟨?_, u5⟩
        obtain ⟨a, b, c⟩ := t
        simp only at u1 u2 u3 u4 v1 v2 v3
        simp only [Tr.mk.injEq]
        omega
      · rintro ⟨h, u⟩
        refine ⟨⟨?_, ?_, ?_, ?_, u⟩, ?_, ?_, ?_⟩ <;> rcases h with rfl | rfl | rfl | rfl <;> simp only [true_or, or_true] <;> omega
  rw [e]
  simp only [List.filter_cons, List.filter_nil, odd3]
  cases A p q <;> cases A p r <;> cases A p s <;> cases A q r <;> cases A q s <;> cases A r s <;> simp
/-- four of them, sorted -/
theorem four_of {n : Int} {os : List Int} (hp : os.Perm (irg 0 n)) (hn : 3 < n) : ∃ p q r s, (os.take 4).mergeSort leI = [p, q, r, s] ∧ 0 ≤ p ∧ p < q ∧ q < r ∧ r < s ∧ s < n := by
  have hl : ((os.take 4).mergeSort leI).length = 4 := by
    rw [List.length_mergeSort, List.length_take, hp.length_eq, irg_length]
    omega
  have hnd : ((os.take 4).mergeSort leI).Nodup := (List.mergeSort_perm _ _).nodup_iff.mpr ((hp.nodup_iff.mpr (irg_nodup 0 n)).sublist (List.take_sublist 4 os))
  have hs : ((os.take 4).mergeSort leI).Pairwise (fun a b => leI a b = true) := List.pairwise_mergeSort (fun a b c => by simp only [leI, decide_eq_true_eq]; omega) (fun a b => by simp only [leI, Bool.or_eq_true, decide_eq_true_eq]; omega) _
  have hin : ∀ x ∈ (os.take 4).mergeSort leI, 0 ≤ x ∧ x < n := fun x hx => mem_irg.mp (hp.mem_iff.mp (List.mem_of_mem_take ((List.mergeSort_perm _ _).mem_iff.mp hx)))
  match h : (os.take 4).mergeSort leI, hl with
  | [p, q, r, s], _ =>
    rw [h] at hnd hs hin
    simp only [List.nodup_cons, List.mem_cons, List.not_mem_nil, or_false, List.pairwise_cons, leI, decide_eq_true_eq, forall_eq_or_imp, forall_eq] at hnd hs
    have i1 := hin p (by simp)
    have i2 := hin s (by simp)
    exact ⟨p, q, r, s, rfl, by omega, by omega, by omega, by omega, by omega⟩
theorem bools_all (l : List Bool) (h : MH) : allM [.tmp (l.map M.bl)] h = .ok (.bl (l.all id)) h := by
  unfold allM onBools
  simp only [seqOf, lsq, boolsOf_map]
theorem law_true (ns : List Int) (hl : ns.length ≤ 63) : ∃ h', f_law [.ro (ns.map M.int)] [] = .ok (.bl true) h' := by
  obtain ⟨b, ok, eb⟩ := own_bag_spec ns
  obtain ⟨x, b1, o1, hx, e1⟩ := pick_spec (xs := [.int 12, .int 9, .int 7, .int 6, .int 5, .int 4, .int 4, .int 3, .int 2, .int 1]) (rest := []) ok (by decide) (by decide) (by simp [cloL, clo]) cloH_nil
  obtain ⟨n, rfl, hn1, hn12⟩ : ∃ n : Int, x = .int n ∧ 1 ≤ n ∧ n ≤ 12 := by
    simp only [List.mem_cons, List.not_mem_nil, or_false] at hx
    rcases hx with rfl | rfl | rfl | rfl | rfl | rfl | rfl | rfl | rfl | rfl <;> exact ⟨_, rfl, by decide, by decide⟩
  obtain ⟨A, b2, o2, e2⟩ := own_web_spec (n := n) o1 hn1 (by omega)
  obtain ⟨b3, o3, e3⟩ := lots_spec (A := A) o2 hn1 (by omega : n ≤ 100)
  obtain ⟨b4, o4, e4⟩ := rows_spec (A := A) o3 hn1 (by omega : n ≤ 100)
  have tr : ∀ h : MH, f__law_triples [web n A] h = .ok (en (tri n A)) h := fun h => tri_spec (by omega) (by omega)
  have od : ∀ h : MH, f_odd_triples [web n A] h = .ok (en (tri n A)) h := fun h => odd_spec (by omega) (by omega)
  have rp : ∀ h : MH, reprM [web n A] h = .ok (.str (da ((n, canon n A) : Int × List Tie)).shown) h := fun h => repr_web (by omega) (by omega)
  have sm : ∀ h : MH, f__law_same [en (tri n A), en (tri n A)] h = .ok (.bl true) h := fun h => same7 (sm_tri (k := 5) (by omega))
  have mk10 : ∀ h : MH, sLst false (.ok [.int 12, .int 9, .int 7, .int 6, .int 5, .int 4, .int 4, .int 3, .int 2, .int 1] h) = .ok (.tmp [.int 12, .int 9, .int 7, .int 6, .int 5, .int 4, .int 4, .int 3, .int 2, .int 1]) h := fun h => by
    exact (ev_lst1 false _ h).trans ((if_pos (show (10 : Nat) ≤ LIM by decide)).trans rfl)
  have es : decide ((da ((n, canon n A) : Int × List Tie)).shown = (da ((n, canon n A) : Int × List Tie)).shown) = true := by simp
  have go : ∃ h', F_law [.ro (ns.map M.int)] [] = .ok (.bl true) h' := by
    cases q : decide (3 < n) with
    | false =>
      refine ⟨bagR b4 [], ?_⟩
      unfold F_law
      simp only [ev_seq, ev_seqN, ev_seqR, ev_seqB, ev_seqC, ev_seqE, ev_nil, ev_brk, ev_cnt, ev_retN, ev_expr, ev_expr1, ev_ret, ev_ret1, ev_if, ev_ifT, ev_ifF, ev_asg, ev_asg1, ev_asg2, ev_par, ev_par1, ev_def, ev_defR, ev_defN, ev_var0, ev_varS, ev_k, ev_anil, ev_acons, ev_acons1, ev_acons2, ev_tup, ev_tup_0, ev_tup_1, ev_tup_2, ev_tup_3, ev_lst, ev_lst_0, ev_lst_1, ev_lst_2, ev_lst_3, ev_mkT, ev_mkF, ev_bin, ev_bin1, ev_bin2, ev_un, ev_un1, ev_add, ev_addT, ev_addL, ev_sub, ev_neg, ev_lt, ev_le, ev_gt, ev_ge, ev_eqI, ev_neI, ev_eqB, ev_neB, ev_eqS, ev_neS, ev_and, ev_andT, ev_andF, ev_or, ev_orT, ev_orF, ev_not, ev_not1, ev_tnot, ev_tnot1, ev_tand, ev_tandT, ev_tandF, ev_tor, ev_torT, ev_torF, ev_tb, ev_tb1, ev_yes, ev_ife, ev_ifeT, ev_ifeF, ev_ch, ev_ch1, ev_ch2, ev_ch3T, ev_ch3F, ev_ch4, ev_is, ev_isB, ev_notN, ev_call, ev_call1, ev_own, ev_own_1, ev_own_2, ev_own_3, ev_own_4, ev_own_5, ev_ownK, ev_ownK_1, ev_ownK_01, ev_ownK_10, ev_lenT, ev_lenL, ev_lenO, ev_int, ev_intB, ev_abs, ev_min, ev_max, ev_tupT, ev_tupL, ev_listT, ev_listL, ev_meth, ev_meth2, ev_gN, ev_set, ev_set1, ev_gT, ev_gT2, ev_gT3, ev_gnil, ev_gcons, ev_gcons1, ev_iseq, ev_iseqT, ev_iseqL, ev_iseqO, ev_r1, ev_r2, ev_lrg1, ev_sl, ev_sl1, ev_sl3, ev_sl4, ev_on, ev_os, ev_os1, ev_slT, ev_slL, ev_slO, ev_r3, ix_t0, ix_t1, ix_t2, en_pair, en_int, wipeM, List.map_cons, List.map_nil, List.length_cons, List.length_nil, List.replicate_succ, List.replicate_zero, List.cons_append, List.nil_append, List.append_nil, List.set_cons_zero, List.set_cons_succ, Nat.reduceAdd, Nat.reduceSub, Nat.zero_add, if_true, if_false, reduceIte, Int.reduceEq, Int.reduceLT, Int.reduceLE, Bool.false_eq_true, decide_true, decide_false, Bool.not_true, Bool.not_false, List.getElem?_cons_zero, List.getElem?_cons_succ, eb, mk10, e1, e2, tr, od, rp, sm, e3, e4, web_ix0, q, es]
    | true =>
      have hn3 : 3 < n := of_decide_eq_true q
      obtain ⟨os, b5, o5, po, eo⟩ := order_spec (n := n) o4 (by omega) (by omega)
      obtain ⟨p, p2, p3, p4, ef, z0, z1, z2, z3, z4⟩ := four_of po hn3
      have ct : cutM (os.map M.int) none (some 4) = (os.take 4).map M.int := (cut_hi (os.map M.int) 4).trans (by rw [List.map_take])
      have esr : ∀ h : MH, sortM false [.tmp ((os.take 4).map M.int)] h = .ok (.tmp [.int p, .int p2, .int p3, .int p4]) h := fun h => by
        rw [sort_ints (l := os.take 4) rfl, ef]
        rfl
      have at0 : ∀ h : MH, f__law_at [web n A, .int p] h = .ok (web n (flipA A p)) h := fun h => at_spec (by omega) z0 (by omega)
      have ix0 : ∀ h : MH, ixM (.tmp [.int p, .int p2, .int p3, .int p4]) (.int 0) h = .ok (.int p) h := fun h => ix_seq (xs := [.int p, .int p2, .int p3, .int p4]) rfl (by decide) rfl
      have tq : tri n (flipA A p) = tri n A := tri_congr.mpr fun a b c _ h2 h3 _ => odd_flip (ps := [p]) (by simp) h2 h3
      have od2 : ∀ h : MH, f_odd_triples [web n (flipA A p)] h = .ok (en (tri n A)) h := fun h => by rw [← tq]; exact odd_spec (by omega) (by omega)
      have c2 : ∀ (x1 x3 x4 : Option M), mLc false (iSeq (mVar 6)) (gN 7) C2_law (mVar 7) [7] [x1, some (.loc 1), some (web n A), x3, x4, some (.tmp [.int p, .int p2, .int p3, .int p4]), some (en (tri n A)), none, none] (bagR b5 []) =
          .ok (.tmp (((tri n A).filter fun t => [t.a, t.b, t.c].all fun x => decide (x ∈ [p, p2, p3, p4])).map en)) (bagR b5 []) := fun x1 x3 x4 => by
        refine (mLc_pure (as := tri n A) en (fun t => [t.a, t.b, t.c].all fun x => decide (x ∈ [p, p2, p3, p4])) en (by simp only [ev_seq, ev_seqN, ev_seqR, ev_seqB, ev_seqC, ev_seqE, ev_nil, ev_brk, ev_cnt, ev_retN, ev_expr, ev_expr1, ev_ret, ev_ret1, ev_if, ev_ifT, ev_ifF, ev_asg, ev_asg1, ev_asg2, ev_par, ev_par1, ev_def, ev_defR, ev_defN, ev_var0, ev_varS, ev_k, ev_anil, ev_acons, ev_acons1, ev_acons2, ev_tup, ev_tup_0, ev_tup_1, ev_tup_2, ev_tup_3, ev_lst, ev_lst_0, ev_lst_1, ev_lst_2, ev_lst_3, ev_mkT, ev_mkF, ev_bin, ev_bin1, ev_bin2, ev_un, ev_un1, ev_add, ev_addT, ev_addL, ev_sub, ev_neg, ev_lt, ev_le, ev_gt, ev_ge, ev_eqI, ev_neI, ev_eqB, ev_neB, ev_eqS, ev_neS, ev_and, ev_andT, ev_andF, ev_or, ev_orT, ev_orF, ev_not, ev_not1, ev_tnot, ev_tnot1, ev_tand, ev_tandT, ev_tandF, ev_tor, ev_torT, ev_torF, ev_tb, ev_tb1, ev_yes, ev_ife, ev_ifeT, ev_ifeF, ev_ch, ev_ch1, ev_ch2, ev_ch3T, ev_ch3F, ev_ch4, ev_is, ev_isB, ev_notN, ev_call, ev_call1, ev_own, ev_own_1, ev_own_2, ev_own_3, ev_own_4, ev_own_5, ev_ownK, ev_ownK_1, ev_ownK_01, ev_ownK_10, ev_lenT, ev_lenL, ev_lenO, ev_int, ev_intB, ev_abs, ev_min, ev_max, ev_tupT, ev_tupL, ev_listT, ev_listL, ev_meth, ev_meth2, ev_gN, ev_set, ev_set1, ev_gT, ev_gT2, ev_gT3, ev_gnil, ev_gcons, ev_gcons1, ev_iseq, ev_iseqT, ev_iseqL, ev_iseqO, ev_r1, ev_r2, ev_lrg1, ev_sl, ev_sl1, ev_sl3, ev_sl4, ev_on, ev_os, ev_os1, ev_slT, ev_slL, ev_slO, ev_r3, ix_t0, ix_t1, ix_t2, en_pair, en_int, wipeM, List.map_cons, List.map_nil, List.length_cons, List.length_nil, List.replicate_succ, List.replicate_zero, List.cons_append, List.nil_append, List.append_nil, List.set_cons_zero, List.set_cons_succ, Nat.reduceAdd, Nat.reduceSub, Nat.zero_add, if_true, if_false, reduceIte, Int.reduceEq, Int.reduceLT, Int.reduceLE, Bool.false_eq_true, decide_true, decide_false, Bool.not_true, Bool.not_false, List.getElem?_cons_zero, List.getElem?_cons_succ, en_list]) ?_ (Nat.le_trans (tri_len (by omega)) (by decide))).trans rfl
        intro t _
        refine ⟨_, by simp only [ev_seq, ev_seqN, ev_seqR, ev_seqB, ev_seqC, ev_seqE, ev_nil, ev_brk, ev_cnt, ev_retN, ev_expr, ev_expr1, ev_ret, ev_ret1, ev_if, ev_ifT, ev_ifF, ev_asg, ev_asg1, ev_asg2, ev_par, ev_par1, ev_def, ev_defR, ev_defN, ev_var0, ev_varS, ev_k, ev_anil, ev_acons, ev_acons1, ev_acons2, ev_tup, ev_tup_0, ev_tup_1, ev_tup_2, ev_tup_3, ev_lst, ev_lst_0, ev_lst_1, ev_lst_2, ev_lst_3, ev_mkT, ev_mkF, ev_bin, ev_bin1, ev_bin2, ev_un, ev_un1, ev_add, ev_addT, ev_addL, ev_sub, ev_neg, ev_lt, ev_le, ev_gt, ev_ge, ev_eqI, ev_neI, ev_eqB, ev_neB, ev_eqS, ev_neS, ev_and, ev_andT, ev_andF, ev_or, ev_orT, ev_orF, ev_not, ev_not1, ev_tnot, ev_tnot1, ev_tand, ev_tandT, ev_tandF, ev_tor, ev_torT, ev_torF, ev_tb, ev_tb1, ev_yes, ev_ife, ev_ifeT, ev_ifeF, ev_ch, ev_ch1, ev_ch2, ev_ch3T, ev_ch3F, ev_ch4, ev_is, ev_isB, ev_notN, ev_call, ev_call1, ev_own, ev_own_1, ev_own_2, ev_own_3, ev_own_4, ev_own_5, ev_ownK, ev_ownK_1, ev_ownK_01, ev_ownK_10, ev_lenT, ev_lenL, ev_lenO, ev_int, ev_intB, ev_abs, ev_min, ev_max, ev_tupT, ev_tupL, ev_listT, ev_listL, ev_meth, ev_meth2, ev_gN, ev_set, ev_set1, ev_gT, ev_gT2, ev_gT3, ev_gnil, ev_gcons, ev_gcons1, ev_iseq, ev_iseqT, ev_iseqL, ev_iseqO, ev_r1, ev_r2, ev_lrg1, ev_sl, ev_sl1, ev_sl3, ev_sl4, ev_on, ev_os, ev_os1, ev_slT, ev_slL, ev_slO, ev_r3, ix_t0, ix_t1, ix_t2, en_pair, en_int, wipeM, List.map_cons, List.map_nil, List.length_cons, List.length_nil, List.replicate_succ, List.replicate_zero, List.cons_append, List.nil_append, List.append_nil, List.set_cons_zero, List.set_cons_succ, Nat.reduceAdd, Nat.reduceSub, Nat.zero_add, if_true, if_false, reduceIte, Int.reduceEq, Int.reduceLT, Int.reduceLE, Bool.false_eq_true, decide_true, decide_false, Bool.not_true, Bool.not_false, List.getElem?_cons_zero, List.getElem?_cons_succ] <;> rfl, ?_, fun _ => by simp only [ev_seq, ev_seqN, ev_seqR, ev_seqB, ev_seqC, ev_seqE, ev_nil, ev_brk, ev_cnt, ev_retN, ev_expr, ev_expr1, ev_ret, ev_ret1, ev_if, ev_ifT, ev_ifF, ev_asg, ev_asg1, ev_asg2, ev_par, ev_par1, ev_def, ev_defR, ev_defN, ev_var0, ev_varS, ev_k, ev_anil, ev_acons, ev_acons1, ev_acons2, ev_tup, ev_tup_0, ev_tup_1, ev_tup_2, ev_tup_3, ev_lst, ev_lst_0, ev_lst_1, ev_lst_2, ev_lst_3, ev_mkT, ev_mkF, ev_bin, ev_bin1, ev_bin2, ev_un, ev_un1, ev_add, ev_addT, ev_addL, ev_sub, ev_neg, ev_lt, ev_le, ev_gt, ev_ge, ev_eqI, ev_neI, ev_eqB, ev_neB, ev_eqS, ev_neS, ev_and, ev_andT, ev_andF, ev_or, ev_orT, ev_orF, ev_not, ev_not1, ev_tnot, ev_tnot1, ev_tand, ev_tandT, ev_tandF, ev_tor, ev_torT, ev_torF, ev_tb, ev_tb1, ev_yes, ev_ife, ev_ifeT, ev_ifeF, ev_ch, ev_ch1, ev_ch2, ev_ch3T, ev_ch3F, ev_ch4, ev_is, ev_isB, ev_notN, ev_call, ev_call1, ev_own, ev_own_1, ev_own_2, ev_own_3, ev_own_4, ev_own_5, ev_ownK, ev_ownK_1, ev_ownK_01, ev_ownK_10, ev_lenT, ev_lenL, ev_lenO, ev_int, ev_intB, ev_abs, ev_min, ev_max, ev_tupT, ev_tupL, ev_listT, ev_listL, ev_meth, ev_meth2, ev_gN, ev_set, ev_set1, ev_gT, ev_gT2, ev_gT3, ev_gnil, ev_gcons, ev_gcons1, ev_iseq, ev_iseqT, ev_iseqL, ev_iseqO, ev_r1, ev_r2, ev_lrg1, ev_sl, ev_sl1, ev_sl3, ev_sl4, ev_on, ev_os, ev_os1, ev_slT, ev_slL, ev_slO, ev_r3, ix_t0, ix_t1, ix_t2, en_pair, en_int, wipeM, List.map_cons, List.map_nil, List.length_cons, List.length_nil, List.replicate_succ, List.replicate_zero, List.cons_append, List.nil_append, List.append_nil, List.set_cons_zero, List.set_cons_succ, Nat.reduceAdd, Nat.reduceSub, Nat.zero_add, if_true, if_false, reduceIte, Int.reduceEq, Int.reduceLT, Int.reduceLE, Bool.false_eq_true, decide_true, decide_false, Bool.not_true, Bool.not_false, List.getElem?_cons_zero, List.getElem?_cons_succ]⟩
        have c3 : mLc false (iSeq (mVar 7)) (gN 8) ttYes E1_law [8] [x1, some (.loc 1), some (web n A), x3, x4, some (.tmp [.int p, .int p2, .int p3, .int p4]), some (en (tri n A)), some (en t), none] (bagR b5 []) = .ok (.tmp (([t.a, t.b, t.c].map fun x => decide (x ∈ [p, p2, p3, p4])).map M.bl)) (bagR b5 []) := by
          refine (mLc_all (as := [t.a, t.b, t.c]) M.int (fun x => .bl (decide (x ∈ [p, p2, p3, p4]))) (by simp only [ev_seq, ev_seqN, ev_seqR, ev_seqB, ev_seqC, ev_seqE, ev_nil, ev_brk, ev_cnt, ev_retN, ev_expr, ev_expr1, ev_ret, ev_ret1, ev_if, ev_ifT, ev_ifF, ev_asg, ev_asg1, ev_asg2, ev_par, ev_par1, ev_def, ev_defR, ev_defN, ev_var0, ev_varS, ev_k, ev_anil, ev_acons, ev_acons1, ev_acons2, ev_tup, ev_tup_0, ev_tup_1, ev_tup_2, ev_tup_3, ev_lst, ev_lst_0, ev_lst_1, ev_lst_2, ev_lst_3, ev_mkT, ev_mkF, ev_bin, ev_bin1, ev_bin2, ev_un, ev_un1, ev_add, ev_addT, ev_addL, ev_sub, ev_neg, ev_lt, ev_le, ev_gt, ev_ge, ev_eqI, ev_neI, ev_eqB, ev_neB, ev_eqS, ev_neS, ev_and, ev_andT, ev_andF, ev_or, ev_orT, ev_orF, ev_not, ev_not1, ev_tnot, ev_tnot1, ev_tand, ev_tandT, ev_tandF, ev_tor, ev_torT, ev_torF, ev_tb, ev_tb1, ev_yes, ev_ife, ev_ifeT, ev_ifeF, ev_ch, ev_ch1, ev_ch2, ev_ch3T, ev_ch3F, ev_ch4, ev_is, ev_isB, ev_notN, ev_call, ev_call1, ev_own, ev_own_1, ev_own_2, ev_own_3, ev_own_4, ev_own_5, ev_ownK, ev_ownK_1, ev_ownK_01, ev_ownK_10, ev_lenT, ev_lenL, ev_lenO, ev_int, ev_intB, ev_abs, ev_min, ev_max, ev_tupT, ev_tupL, ev_listT, ev_listL, ev_meth, ev_meth2, ev_gN, ev_set, ev_set1, ev_gT, ev_gT2, ev_gT3, ev_gnil, ev_gcons, ev_gcons1, ev_iseq, ev_iseqT, ev_iseqL, ev_iseqO, ev_r1, ev_r2, ev_lrg1, ev_sl, ev_sl1, ev_sl3, ev_sl4, ev_on, ev_os, ev_os1, ev_slT, ev_slL, ev_slO, ev_r3, ix_t0, ix_t1, ix_t2, en_pair, en_int, wipeM, List.map_cons, List.map_nil, List.length_cons, List.length_nil, List.replicate_succ, List.replicate_zero, List.cons_append, List.nil_append, List.append_nil, List.set_cons_zero, List.set_cons_succ, Nat.reduceAdd, Nat.reduceSub, Nat.zero_add, if_true, if_false, reduceIte, Int.reduceEq, Int.reduceLT, Int.reduceLE, Bool.false_eq_true, decide_true, decide_false, Bool.not_true, Bool.not_false, List.getElem?_cons_zero, List.getElem?_cons_succ, En.en]) ?_ (show (3 : Nat) ≤ LIM by decide)).trans rfl
          intro x _
          refine ⟨_, by simp only [ev_seq, ev_seqN, ev_seqR, ev_seqB, ev_seqC, ev_seqE, ev_nil, ev_brk, ev_cnt, ev_retN, ev_expr, ev_expr1, ev_ret, ev_ret1, ev_if, ev_ifT, ev_ifF, ev_asg, ev_asg1, ev_asg2, ev_par, ev_par1, ev_def, ev_defR, ev_defN, ev_var0, ev_varS, ev_k, ev_anil, ev_acons, ev_acons1, ev_acons2, ev_tup, ev_tup_0, ev_tup_1, ev_tup_2, ev_tup_3, ev_lst, ev_lst_0, ev_lst_1, ev_lst_2, ev_lst_3, ev_mkT, ev_mkF, ev_bin, ev_bin1, ev_bin2, ev_un, ev_un1, ev_add, ev_addT, ev_addL, ev_sub, ev_neg, ev_lt, ev_le, ev_gt, ev_ge, ev_eqI, ev_neI, ev_eqB, ev_neB, ev_eqS, ev_neS, ev_and, ev_andT, ev_andF, ev_or, ev_orT, ev_orF, ev_not, ev_not1, ev_tnot, ev_tnot1, ev_tand, ev_tandT, ev_tandF, ev_tor, ev_torT, ev_torF, ev_tb, ev_tb1, ev_yes, ev_ife, ev_ifeT, ev_ifeF, ev_ch, ev_ch1, ev_ch2, ev_ch3T, ev_ch3F, ev_ch4, ev_is, ev_isB, ev_notN, ev_call, ev_call1, ev_own, ev_own_1, ev_own_2, ev_own_3, ev_own_4, ev_own_5, ev_ownK, ev_ownK_1, ev_ownK_01, ev_ownK_10, ev_lenT, ev_lenL, ev_lenO, ev_int, ev_intB, ev_abs, ev_min, ev_max, ev_tupT, ev_tupL, ev_listT, ev_listL, ev_meth, ev_meth2, ev_gN, ev_set, ev_set1, ev_gT, ev_gT2, ev_gT3, ev_gnil, ev_gcons, ev_gcons1, ev_iseq, ev_iseqT, ev_iseqL, ev_iseqO, ev_r1, ev_r2, ev_lrg1, ev_sl, ev_sl1, ev_sl3, ev_sl4, ev_on, ev_os, ev_os1, ev_slT, ev_slL, ev_slO, ev_r3, ix_t0, ix_t1, ix_t2, en_pair, en_int, wipeM, List.map_cons, List.map_nil, List.length_cons, List.length_nil, List.replicate_succ, List.replicate_zero, List.cons_append, List.nil_append, List.append_nil, List.set_cons_zero, List.set_cons_succ, Nat.reduceAdd, Nat.reduceSub, Nat.zero_add, if_true, if_false, reduceIte, Int.reduceEq, Int.reduceLT, Int.reduceLE, Bool.false_eq_true, decide_true, decide_false, Bool.not_true, Bool.not_false, List.getElem?_cons_zero, List.getElem?_cons_succ] <;> rfl, ?_⟩
          unfold E1_law
          have := inM_tmp (α := Int) false x [p, p2, p3, p4] (bagR b5 [])
          simp only [ev_seq, ev_seqN, ev_seqR, ev_seqB, ev_seqC, ev_seqE, ev_nil, ev_brk, ev_cnt, ev_retN, ev_expr, ev_expr1, ev_ret, ev_ret1, ev_if, ev_ifT, ev_ifF, ev_asg, ev_asg1, ev_asg2, ev_par, ev_par1, ev_def, ev_defR, ev_defN, ev_var0, ev_varS, ev_k, ev_anil, ev_acons, ev_acons1, ev_acons2, ev_tup, ev_tup_0, ev_tup_1, ev_tup_2, ev_tup_3, ev_lst, ev_lst_0, ev_lst_1, ev_lst_2, ev_lst_3, ev_mkT, ev_mkF, ev_bin, ev_bin1, ev_bin2, ev_un, ev_un1, ev_add, ev_addT, ev_addL, ev_sub, ev_neg, ev_lt, ev_le, ev_gt, ev_ge, ev_eqI, ev_neI, ev_eqB, ev_neB, ev_eqS, ev_neS, ev_and, ev_andT, ev_andF, ev_or, ev_orT, ev_orF, ev_not, ev_not1, ev_tnot, ev_tnot1, ev_tand, ev_tandT, ev_tandF, ev_tor, ev_torT, ev_torF, ev_tb, ev_tb1, ev_yes, ev_ife, ev_ifeT, ev_ifeF, ev_ch, ev_ch1, ev_ch2, ev_ch3T, ev_ch3F, ev_ch4, ev_is, ev_isB, ev_notN, ev_call, ev_call1, ev_own, ev_own_1, ev_own_2, ev_own_3, ev_own_4, ev_own_5, ev_ownK, ev_ownK_1, ev_ownK_01, ev_ownK_10, ev_lenT, ev_lenL, ev_lenO, ev_int, ev_intB, ev_abs, ev_min, ev_max, ev_tupT, ev_tupL, ev_listT, ev_listL, ev_meth, ev_meth2, ev_gN, ev_set, ev_set1, ev_gT, ev_gT2, ev_gT3, ev_gnil, ev_gcons, ev_gcons1, ev_iseq, ev_iseqT, ev_iseqL, ev_iseqO, ev_r1, ev_r2, ev_lrg1, ev_sl, ev_sl1, ev_sl3, ev_sl4, ev_on, ev_os, ev_os1, ev_slT, ev_slL, ev_slO, ev_r3, ix_t0, ix_t1, ix_t2, en_pair, en_int, wipeM, List.map_cons, List.map_nil, List.length_cons, List.length_nil, List.replicate_succ, List.replicate_zero, List.cons_append, List.nil_append, List.append_nil, List.set_cons_zero, List.set_cons_succ, Nat.reduceAdd, Nat.reduceSub, Nat.zero_add, if_true, if_false, reduceIte, Int.reduceEq, Int.reduceLT, Int.reduceLE, Bool.false_eq_true, decide_true, decide_false, Bool.not_true, Bool.not_false, List.getElem?_cons_zero, List.getElem?_cons_succ]
          exact this
        have c4 : ∀ (u v w : Bool) (h : MH), allM [.tmp [.bl u, .bl v, .bl w]] h = .ok (.bl (u && (v && (w && true)))) h := fun u v w h => bools_all [u, v, w] h
        unfold C2_law
        simp only [ev_seq, ev_seqN, ev_seqR, ev_seqB, ev_seqC, ev_seqE, ev_nil, ev_brk, ev_cnt, ev_retN, ev_expr, ev_expr1, ev_ret, ev_ret1, ev_if, ev_ifT, ev_ifF, ev_asg, ev_asg1, ev_asg2, ev_par, ev_par1, ev_def, ev_defR, ev_defN, ev_var0, ev_varS, ev_k, ev_anil, ev_acons, ev_acons1, ev_acons2, ev_tup, ev_tup_0, ev_tup_1, ev_tup_2, ev_tup_3, ev_lst, ev_lst_0, ev_lst_1, ev_lst_2, ev_lst_3, ev_mkT, ev_mkF, ev_bin, ev_bin1, ev_bin2, ev_un, ev_un1, ev_add, ev_addT, ev_addL, ev_sub, ev_neg, ev_lt, ev_le, ev_gt, ev_ge, ev_eqI, ev_neI, ev_eqB, ev_neB, ev_eqS, ev_neS, ev_and, ev_andT, ev_andF, ev_or, ev_orT, ev_orF, ev_not, ev_not1, ev_tnot, ev_tnot1, ev_tand, ev_tandT, ev_tandF, ev_tor, ev_torT, ev_torF, ev_tb, ev_tb1, ev_yes, ev_ife, ev_ifeT, ev_ifeF, ev_ch, ev_ch1, ev_ch2, ev_ch3T, ev_ch3F, ev_ch4, ev_is, ev_isB, ev_notN, ev_call, ev_call1, ev_own, ev_own_1, ev_own_2, ev_own_3, ev_own_4, ev_own_5, ev_ownK, ev_ownK_1, ev_ownK_01, ev_ownK_10, ev_lenT, ev_lenL, ev_lenO, ev_int, ev_intB, ev_abs, ev_min, ev_max, ev_tupT, ev_tupL, ev_listT, ev_listL, ev_meth, ev_meth2, ev_gN, ev_set, ev_set1, ev_gT, ev_gT2, ev_gT3, ev_gnil, ev_gcons, ev_gcons1, ev_iseq, ev_iseqT, ev_iseqL, ev_iseqO, ev_r1, ev_r2, ev_lrg1, ev_sl, ev_sl1, ev_sl3, ev_sl4, ev_on, ev_os, ev_os1, ev_slT, ev_slL, ev_slO, ev_r3, ix_t0, ix_t1, ix_t2, en_pair, en_int, wipeM, List.map_cons, List.map_nil, List.length_cons, List.length_nil, List.replicate_succ, List.replicate_zero, List.cons_append, List.nil_append, List.append_nil, List.set_cons_zero, List.set_cons_succ, Nat.reduceAdd, Nat.reduceSub, Nat.zero_add, if_true, if_false, reduceIte, Int.reduceEq, Int.reduceLT, Int.reduceLE, Bool.false_eq_true, decide_true, decide_false, Bool.not_true, Bool.not_false, List.getElem?_cons_zero, List.getElem?_cons_succ, c3, c4]
        rfl
      have ev := four_even (A := A) z0 z1 z2 z3 z4
      have hm : ∀ i : Int, cMod i 2 = true := fun _ => rfl
      refine ⟨bagR b5 [], ?_⟩
      unfold F_law
      simp only [ev_seq, ev_seqN, ev_seqR, ev_seqB, ev_seqC, ev_seqE, ev_nil, ev_brk, ev_cnt, ev_retN, ev_expr, ev_expr1, ev_ret, ev_ret1, ev_if, ev_ifT, ev_ifF, ev_asg, ev_asg1, ev_asg2, ev_par, ev_par1, ev_def, ev_defR, ev_defN, ev_var0, ev_varS, ev_k, ev_anil, ev_acons, ev_acons1, ev_acons2, ev_tup, ev_tup_0, ev_tup_1, ev_tup_2, ev_tup_3, ev_lst, ev_lst_0, ev_lst_1, ev_lst_2, ev_lst_3, ev_mkT, ev_mkF, ev_bin, ev_bin1, ev_bin2, ev_un, ev_un1, ev_add, ev_addT, ev_addL, ev_sub, ev_neg, ev_lt, ev_le, ev_gt, ev_ge, ev_eqI, ev_neI, ev_eqB, ev_neB, ev_eqS, ev_neS, ev_and, ev_andT, ev_andF, ev_or, ev_orT, ev_orF, ev_not, ev_not1, ev_tnot, ev_tnot1, ev_tand, ev_tandT, ev_tandF, ev_tor, ev_torT, ev_torF, ev_tb, ev_tb1, ev_yes, ev_ife, ev_ifeT, ev_ifeF, ev_ch, ev_ch1, ev_ch2, ev_ch3T, ev_ch3F, ev_ch4, ev_is, ev_isB, ev_notN, ev_call, ev_call1, ev_own, ev_own_1, ev_own_2, ev_own_3, ev_own_4, ev_own_5, ev_ownK, ev_ownK_1, ev_ownK_01, ev_ownK_10, ev_lenT, ev_lenL, ev_lenO, ev_int, ev_intB, ev_abs, ev_min, ev_max, ev_tupT, ev_tupL, ev_listT, ev_listL, ev_meth, ev_meth2, ev_gN, ev_set, ev_set1, ev_gT, ev_gT2, ev_gT3, ev_gnil, ev_gcons, ev_gcons1, ev_iseq, ev_iseqT, ev_iseqL, ev_iseqO, ev_r1, ev_r2, ev_lrg1, ev_sl, ev_sl1, ev_sl3, ev_sl4, ev_on, ev_os, ev_os1, ev_slT, ev_slL, ev_slO, ev_r3, ix_t0, ix_t1, ix_t2, en_pair, en_int, wipeM, List.map_cons, List.map_nil, List.length_cons, List.length_nil, List.replicate_succ, List.replicate_zero, List.cons_append, List.nil_append, List.append_nil, List.set_cons_zero, List.set_cons_succ, Nat.reduceAdd, Nat.reduceSub, Nat.zero_add, if_true, if_false, reduceIte, Int.reduceEq, Int.reduceLT, Int.reduceLE, Bool.false_eq_true, decide_true, decide_false, Bool.not_true, Bool.not_false, List.getElem?_cons_zero, List.getElem?_cons_succ, eb, mk10, e1, e2, tr, od, rp, sm, e3, e4, web_ix0, q, es, eo, ct, esr, ix0, at0, od2, c2, List.length_map, ev_mod, hm, ev]
  obtain ⟨h', e⟩ := go
  refine ⟨[], cloF_val ?_ e (by simp [clo])⟩
  have : cloL (ns.map M.int) = true := cloL_en (α := Int) ns
  simp only [cloL, clo, this, Bool.and_self]
end Tb.K19

set_option Elab.async false
set_option linter.all false
set_option maxRecDepth 100000
namespace Tb.K19
open PySem PySem.Spec PyProof.Rows L2
theorem fx_mk {K : PySem.W.Frag} {h : Heap} {mg : Str → Option Value} (X : K.In h) (G : h.Ns mainGlobals mg)
    {f0 : Addr} {oc0 : Value} {od0 an0 : Option Addr} {sl0 : Array (Option Value)} {kv0 dc0 pm0 cd0 ct0 : Value}
    {f1 : Addr} {oc1 : Value} {od1 an1 : Option Addr} {sl1 : Array (Option Value)} {kv1 dc1 pm1 cd1 ct1 : Value}
    {f2 : Addr} {oc2 : Value} {od2 an2 : Option Addr} {sl2 : Array (Option Value)} {kv2 dc2 pm2 cd2 ct2 : Value}
    {f3 : Addr} {oc3 : Value} {od3 an3 : Option Addr} {sl3 : Array (Option Value)} {kv3 dc3 pm3 cd3 ct3 : Value}
    {f4 : Addr} {oc4 : Value} {od4 an4 : Option Addr} {sl4 : Array (Option Value)} {kv4 dc4 pm4 cd4 ct4 : Value}
    {f5 : Addr} {oc5 : Value} {od5 an5 : Option Addr} {sl5 : Array (Option Value)} {kv5 dc5 pm5 cd5 ct5 : Value}
    {f6 : Addr} {oc6 : Value} {od6 an6 : Option Addr} {sl6 : Array (Option Value)} {kv6 dc6 pm6 cd6 ct6 : Value}
    {f7 : Addr} {oc7 : Value} {od7 an7 : Option Addr} {sl7 : Array (Option Value)} {kv7 dc7 pm7 cd7 ct7 : Value}
    {f8 : Addr} {oc8 : Value} {od8 an8 : Option Addr} {sl8 : Array (Option Value)} {kv8 dc8 pm8 cd8 ct8 : Value}
    {f9 : Addr} {oc9 : Value} {od9 an9 : Option Addr} {sl9 : Array (Option Value)} {kv9 dc9 pm9 cd9 ct9 : Value}
    {f10 : Addr} {oc10 : Value} {od10 an10 : Option Addr} {sl10 : Array (Option Value)} {kv10 dc10 pm10 cd10 ct10 : Value}
    {f11 : Addr} {oc11 : Value} {od11 an11 : Option Addr} {sl11 : Array (Option Value)} {kv11 dc11 pm11 cd11 ct11 : Value}
    {f12 : Addr} {oc12 : Value} {od12 an12 : Option Addr} {sl12 : Array (Option Value)} {kv12 dc12 pm12 cd12 ct12 : Value}
    {f13 : Addr} {oc13 : Value} {od13 an13 : Option Addr} {sl13 : Array (Option Value)} {kv13 dc13 pm13 cd13 ct13 : Value}
    {f14 : Addr} {oc14 : Value} {od14 an14 : Option Addr} {sl14 : Array (Option Value)} {kv14 dc14 pm14 cd14 ct14 : Value}
    {f15 : Addr} {oc15 : Value} {od15 an15 : Option Addr} {sl15 : Array (Option Value)} {kv15 dc15 pm15 cd15 ct15 : Value}
    {f16 : Addr} {oc16 : Value} {od16 an16 : Option Addr} {sl16 : Array (Option Value)} {kv16 dc16 pm16 cd16 ct16 : Value}
    {f17 : Addr} {oc17 : Value} {od17 an17 : Option Addr} {sl17 : Array (Option Value)} {kv17 dc17 pm17 cd17 ct17 : Value}
    {f18 : Addr} {oc18 : Value} {od18 an18 : Option Addr} {sl18 : Array (Option Value)} {kv18 dc18 pm18 cd18 ct18 : Value}
    {f19 : Addr} {oc19 : Value} {od19 an19 : Option Addr} {sl19 : Array (Option Value)} {kv19 dc19 pm19 cd19 ct19 : Value}
    {f20 : Addr} {oc20 : Value} {od20 an20 : Option Addr} {sl20 : Array (Option Value)} {kv20 dc20 pm20 cd20 ct20 : Value}
    (a0 : PySem.W.nsIn K mainGlobals "odd_triples" = some (some (.ref f0))) (l0 : K.lookup f0 = some ⟨oc0, od0, .func (PySem.W.fnOf "odd_triples" "odd_triples" (defArgs s_odd_triples) (defBody s_odd_triples) (defScope s_odd_triples) .none kv0 dc0 pm0 an0 cd0 ct0), sl0⟩) (c0 : PySem.W.codeIn K cd0 "odd_triples" = true) (k0 : PySem.W.keepIn K (.ref f0) = true)
    (a1 : PySem.W.nsIn K mainGlobals "_law_own_bag" = some (some (.ref f1))) (l1 : K.lookup f1 = some ⟨oc1, od1, .func (PySem.W.fnOf "_law_own_bag" "_law_own_bag" (defArgs s__law_own_bag) (defBody s__law_own_bag) (defScope s__law_own_bag) .none kv1 dc1 pm1 an1 cd1 ct1), sl1⟩) (c1 : PySem.W.codeIn K cd1 "_law_own_bag" = true) (k1 : PySem.W.keepIn K (.ref f1) = true)
    (a2 : PySem.W.nsIn K mainGlobals "_law_draw" = some (some (.ref f2))) (l2 : K.lookup f2 = some ⟨oc2, od2, .func (PySem.W.fnOf "_law_draw" "_law_draw" (defArgs s__law_draw) (defBody s__law_draw) (defScope s__law_draw) .none kv2 dc2 pm2 an2 cd2 ct2), sl2⟩) (c2 : PySem.W.codeIn K cd2 "_law_draw" = true) (k2 : PySem.W.keepIn K (.ref f2) = true)
    (a3 : PySem.W.nsIn K mainGlobals "_law_pick" = some (some (.ref f3))) (l3 : K.lookup f3 = some ⟨oc3, od3, .func (PySem.W.fnOf "_law_pick" "_law_pick" (defArgs s__law_pick) (defBody s__law_pick) (defScope s__law_pick) .none kv3 dc3 pm3 an3 cd3 ct3), sl3⟩) (c3 : PySem.W.codeIn K cd3 "_law_pick" = true) (k3 : PySem.W.keepIn K (.ref f3) = true)
    (a4 : PySem.W.nsIn K mainGlobals "_law_order" = some (some (.ref f4))) (l4 : K.lookup f4 = some ⟨oc4, od4, .func (PySem.W.fnOf "_law_order" "_law_order" (defArgs s__law_order) (defBody s__law_order) (defScope s__law_order) .none kv4 dc4 pm4 an4 cd4 ct4), sl4⟩) (c4 : PySem.W.codeIn K cd4 "_law_order" = true) (k4 : PySem.W.keepIn K (.ref f4) = true)
    (a5 : PySem.W.nsIn K mainGlobals "_law_is_int" = some (some (.ref f5))) (l5 : K.lookup f5 = some ⟨oc5, od5, .func (PySem.W.fnOf "_law_is_int" "_law_is_int" (defArgs s__law_is_int) (defBody s__law_is_int) (defScope s__law_is_int) .none kv5 dc5 pm5 an5 cd5 ct5), sl5⟩) (c5 : PySem.W.codeIn K cd5 "_law_is_int" = true) (k5 : PySem.W.keepIn K (.ref f5) = true)
    (a6 : PySem.W.nsIn K mainGlobals "_law_same" = some (some (.ref f6))) (l6 : K.lookup f6 = some ⟨oc6, od6, .func (PySem.W.fnOf "_law_same" "_law_same" (defArgs s__law_same) (defBody s__law_same) (defScope s__law_same) .none kv6 dc6 pm6 an6 cd6 ct6), sl6⟩) (c6 : PySem.W.codeIn K cd6 "_law_same" = true) (k6 : PySem.W.keepIn K (.ref f6) = true)
    (a7 : PySem.W.nsIn K mainGlobals "_law_pairs" = some (some (.ref f7))) (l7 : K.lookup f7 = some ⟨oc7, od7, .func (PySem.W.fnOf "_law_pairs" "_law_pairs" (defArgs s__law_pairs) (defBody s__law_pairs) (defScope s__law_pairs) .none kv7 dc7 pm7 an7 cd7 ct7), sl7⟩) (c7 : PySem.W.codeIn K cd7 "_law_pairs" = true) (k7 : PySem.W.keepIn K (.ref f7) = true)
    (a8 : PySem.W.nsIn K mainGlobals "_law_led" = some (some (.ref f8))) (l8 : K.lookup f8 = some ⟨oc8, od8, .func (PySem.W.fnOf "_law_led" "_law_led" (defArgs s__law_led) (defBody s__law_led) (defScope s__law_led) .none kv8 dc8 pm8 an8 cd8 ct8), sl8⟩) (c8 : PySem.W.codeIn K cd8 "_law_led" = true) (k8 : PySem.W.keepIn K (.ref f8) = true)
    (a9 : PySem.W.nsIn K mainGlobals "_law_two_sides" = some (some (.ref f9))) (l9 : K.lookup f9 = some ⟨oc9, od9, .func (PySem.W.fnOf "_law_two_sides" "_law_two_sides" (defArgs s__law_two_sides) (defBody s__law_two_sides) (defScope s__law_two_sides) .none kv9 dc9 pm9 an9 cd9 ct9), sl9⟩) (c9 : PySem.W.codeIn K cd9 "_law_two_sides" = true) (k9 : PySem.W.keepIn K (.ref f9) = true)
    (a10 : PySem.W.nsIn K mainGlobals "_law_told_web" = some (some (.ref f10))) (l10 : K.lookup f10 = some ⟨oc10, od10, .func (PySem.W.fnOf "_law_told_web" "_law_told_web" (defArgs s__law_told_web) (defBody s__law_told_web) (defScope s__law_told_web) .none kv10 dc10 pm10 an10 cd10 ct10), sl10⟩) (c10 : PySem.W.codeIn K cd10 "_law_told_web" = true) (k10 : PySem.W.keepIn K (.ref f10) = true)
    (a11 : PySem.W.nsIn K mainGlobals "_law_own_web" = some (some (.ref f11))) (l11 : K.lookup f11 = some ⟨oc11, od11, .func (PySem.W.fnOf "_law_own_web" "_law_own_web" (defArgs s__law_own_web) (defBody s__law_own_web) (defScope s__law_own_web) .none kv11 dc11 pm11 an11 cd11 ct11), sl11⟩) (c11 : PySem.W.codeIn K cd11 "_law_own_web" = true) (k11 : PySem.W.keepIn K (.ref f11) = true)
    (a12 : PySem.W.nsIn K mainGlobals "_law_at" = some (some (.ref f12))) (l12 : K.lookup f12 = some ⟨oc12, od12, .func (PySem.W.fnOf "_law_at" "_law_at" (defArgs s__law_at) (defBody s__law_at) (defScope s__law_at) .none kv12 dc12 pm12 an12 cd12 ct12), sl12⟩) (c12 : PySem.W.codeIn K cd12 "_law_at" = true) (k12 : PySem.W.keepIn K (.ref f12) = true)
    (a13 : PySem.W.nsIn K mainGlobals "_law_triples" = some (some (.ref f13))) (l13 : K.lookup f13 = some ⟨oc13, od13, .func (PySem.W.fnOf "_law_triples" "_law_triples" (defArgs s__law_triples) (defBody s__law_triples) (defScope s__law_triples) .none kv13 dc13 pm13 an13 cd13 ct13), sl13⟩) (c13 : PySem.W.codeIn K cd13 "_law_triples" = true) (k13 : PySem.W.keepIn K (.ref f13) = true)
    (a14 : PySem.W.nsIn K mainGlobals "turned_at" = some (some (.ref f14))) (l14 : K.lookup f14 = some ⟨oc14, od14, .func (PySem.W.fnOf "turned_at" "turned_at" (defArgs s_turned_at) (defBody s_turned_at) (defScope s_turned_at) .none kv14 dc14 pm14 an14 cd14 ct14), sl14⟩) (c14 : PySem.W.codeIn K cd14 "turned_at" = true) (k14 : PySem.W.keepIn K (.ref f14) = true)
    (a15 : PySem.W.nsIn K mainGlobals "turning_lot" = some (some (.ref f15))) (l15 : K.lookup f15 = some ⟨oc15, od15, .func (PySem.W.fnOf "turning_lot" "turning_lot" (defArgs s_turning_lot) (defBody s_turning_lot) (defScope s_turning_lot) .none kv15 dc15 pm15 an15 cd15 ct15), sl15⟩) (c15 : PySem.W.codeIn K cd15 "turning_lot" = true) (k15 : PySem.W.keepIn K (.ref f15) = true)
    (a16 : PySem.W.nsIn K mainGlobals "_law_along" = some (some (.ref f16))) (l16 : K.lookup f16 = some ⟨oc16, od16, .func (PySem.W.fnOf "_law_along" "_law_along" (defArgs s__law_along) (defBody s__law_along) (defScope s__law_along) .none kv16 dc16 pm16 an16 cd16 ct16), sl16⟩) (c16 : PySem.W.codeIn K cd16 "_law_along" = true) (k16 : PySem.W.keepIn K (.ref f16) = true)
    (a17 : PySem.W.nsIn K mainGlobals "_law_lot_due" = some (some (.ref f17))) (l17 : K.lookup f17 = some ⟨oc17, od17, .func (PySem.W.fnOf "_law_lot_due" "_law_lot_due" (defArgs s__law_lot_due) (defBody s__law_lot_due) (defScope s__law_lot_due) .none kv17 dc17 pm17 an17 cd17 ct17), sl17⟩) (c17 : PySem.W.codeIn K cd17 "_law_lot_due" = true) (k17 : PySem.W.keepIn K (.ref f17) = true)
    (a18 : PySem.W.nsIn K mainGlobals "_law_are_lots" = some (some (.ref f18))) (l18 : K.lookup f18 = some ⟨oc18, od18, .func (PySem.W.fnOf "_law_are_lots" "_law_are_lots" (defArgs s__law_are_lots) (defBody s__law_are_lots) (defScope s__law_are_lots) .none kv18 dc18 pm18 an18 cd18 ct18), sl18⟩) (c18 : PySem.W.codeIn K cd18 "_law_are_lots" = true) (k18 : PySem.W.keepIn K (.ref f18) = true)
    (a19 : PySem.W.nsIn K mainGlobals "_law_are_rows" = some (some (.ref f19))) (l19 : K.lookup f19 = some ⟨oc19, od19, .func (PySem.W.fnOf "_law_are_rows" "_law_are_rows" (defArgs s__law_are_rows) (defBody s__law_are_rows) (defScope s__law_are_rows) .none kv19 dc19 pm19 an19 cd19 ct19), sl19⟩) (c19 : PySem.W.codeIn K cd19 "_law_are_rows" = true) (k19 : PySem.W.keepIn K (.ref f19) = true)
    (a20 : PySem.W.nsIn K mainGlobals "law" = some (some (.ref f20))) (l20 : K.lookup f20 = some ⟨oc20, od20, .func (PySem.W.fnOf "law" "law" (defArgs s_law) (defBody s_law) (defScope s_law) .none kv20 dc20 pm20 an20 cd20 ct20), sl20⟩) (c20 : PySem.W.codeIn K cd20 "law" = true) (k20 : PySem.W.keepIn K (.ref f20) = true)
    (z0 : PySem.W.nsIn K mainGlobals "abs" = some none)
    (z1 : PySem.W.nsIn K mainGlobals "all" = some none)
    (z2 : PySem.W.nsIn K mainGlobals "bool" = some none)
    (z3 : PySem.W.nsIn K mainGlobals "enumerate" = some none)
    (z4 : PySem.W.nsIn K mainGlobals "int" = some none)
    (z5 : PySem.W.nsIn K mainGlobals "isinstance" = some none)
    (z6 : PySem.W.nsIn K mainGlobals "len" = some none)
    (z7 : PySem.W.nsIn K mainGlobals "list" = some none)
    (z8 : PySem.W.nsIn K mainGlobals "max" = some none)
    (z9 : PySem.W.nsIn K mainGlobals "min" = some none)
    (z10 : PySem.W.nsIn K mainGlobals "range" = some none)
    (z11 : PySem.W.nsIn K mainGlobals "repr" = some none)
    (z12 : PySem.W.nsIn K mainGlobals "sorted" = some none)
    (z13 : PySem.W.nsIn K mainGlobals "str" = some none)
    (z14 : PySem.W.nsIn K mainGlobals "tuple" = some none)
    (z15 : PySem.W.nsIn K mainGlobals "zip" = some none)
    : Fx K mg :=
  ⟨defAt (l := K) X G a0 l0 c0 k0 (fun us hl => match us, hl with | [_], _ => rfl) (by intro q hq; simp only [List.mem_cons, List.not_mem_nil, or_false] at hq; rcases hq with rfl <;> exact ⟨rfl, fun us hl => match us, hl with | [_], _ => rfl⟩),
    defAt (l := K) X G a1 l1 c1 k1 (fun us hl => match us, hl with | [_], _ => rfl) (fun q hq => absurd hq List.not_mem_nil),
    defAt (l := K) X G a2 l2 c2 k2 (fun us hl => match us, hl with | [_, _], _ => rfl) (fun q hq => absurd hq List.not_mem_nil),
    defAt (l := K) X G a3 l3 c3 k3 (fun us hl => match us, hl with | [_, _], _ => rfl) (fun q hq => absurd hq List.not_mem_nil),
    defAt (l := K) X G a4 l4 c4 k4 (fun us hl => match us, hl with | [_, _], _ => rfl) (fun q hq => absurd hq List.not_mem_nil),
    defAt (l := K) X G a5 l5 c5 k5 (fun us hl => match us, hl with | [_], _ => rfl) (fun q hq => absurd hq List.not_mem_nil),
    defAt (l := K) X G a6 l6 c6 k6 (fun us hl => match us, hl with | [_, _], _ => rfl) (fun q hq => absurd hq List.not_mem_nil),
    defAt (l := K) X G a7 l7 c7 k7 (fun us hl => match us, hl with | [_], _ => rfl) (fun q hq => absurd hq List.not_mem_nil),
    defAt (l := K) X G a8 l8 c8 k8 (fun us hl => match us, hl with | [_, _], _ => rfl) (fun q hq => absurd hq List.not_mem_nil),
    defAt (l := K) X G a9 l9 c9 k9 (fun us hl => match us, hl with | [_, _], _ => rfl) (fun q hq => absurd hq List.not_mem_nil),
    defAt (l := K) X G a10 l10 c10 k10 (fun us hl => match us, hl with | [_, _], _ => rfl) (fun q hq => absurd hq List.not_mem_nil),
    defAt (l := K) X G a11 l11 c11 k11 (fun us hl => match us, hl with | [_, _], _ => rfl) (fun q hq => absurd hq List.not_mem_nil),
    defAt (l := K) X G a12 l12 c12 k12 (fun us hl => match us, hl with | [_, _], _ => rfl) (fun q hq => absurd hq List.not_mem_nil),
    defAt (l := K) X G a13 l13 c13 k13 (fun us hl => match us, hl with | [_], _ => rfl) (fun q hq => absurd hq List.not_mem_nil),
    defAt (l := K) X G a14 l14 c14 k14 (fun us hl => match us, hl with | [_, _], _ => rfl) (by intro q hq; simp only [List.mem_cons, List.not_mem_nil, or_false] at hq; rcases hq with rfl <;> exact ⟨rfl, fun us hl => match us, hl with | [_, _], _ => rfl⟩),
    defAt (l := K) X G a15 l15 c15 k15 (fun us hl => match us, hl with | [_, _], _ => rfl) (by intro q hq; simp only [List.mem_cons, List.not_mem_nil, or_false] at hq; rcases hq with rfl <;> exact ⟨rfl, fun us hl => match us, hl with | [_, _], _ => rfl⟩),
    defAt (l := K) X G a16 l16 c16 k16 (fun us hl => match us, hl with | [_, _], _ => rfl) (fun q hq => absurd hq List.not_mem_nil),
    defAt (l := K) X G a17 l17 c17 k17 (fun us hl => match us, hl with | [_, _], _ => rfl) (fun q hq => absurd hq List.not_mem_nil),
    defAt (l := K) X G a18 l18 c18 k18 (fun us hl => match us, hl with | [_, _, _], _ => rfl) (fun q hq => absurd hq List.not_mem_nil),
    defAt (l := K) X G a19 l19 c19 k19 (fun us hl => match us, hl with | [_, _], _ => rfl) (fun q hq => absurd hq List.not_mem_nil),
    defAt (l := K) X G a20 l20 c20 k20 (fun us hl => match us, hl with | [_], _ => rfl) (fun q hq => absurd hq List.not_mem_nil),
    PySem.W.mg_none_of X G z0,
    PySem.W.mg_none_of X G z1,
    PySem.W.mg_none_of X G z2,
    PySem.W.mg_none_of X G z3,
    PySem.W.mg_none_of X G z4,
    PySem.W.mg_none_of X G z5,
    PySem.W.mg_none_of X G z6,
    PySem.W.mg_none_of X G z7,
    PySem.W.mg_none_of X G z8,
    PySem.W.mg_none_of X G z9,
    PySem.W.mg_none_of X G z10,
    PySem.W.mg_none_of X G z11,
    PySem.W.mg_none_of X G z12,
    PySem.W.mg_none_of X G z13,
    PySem.W.mg_none_of X G z14,
    PySem.W.mg_none_of X G z15⟩
end Tb.K19
open PySem PySem.W PyProof.Rows
set_option maxHeartbeats 0
theorem PySem.Challenge.cw_toldback_k19_whole_odd_triples_holds : PySem.Challenge.rw_toldback_k19_whole_odd_triples.Holds := by
  w_on; o_law; k_head; (case hw => w_witness2)
  k_fill
  refine Tb.walk_M (l := PySem.Challenge.rw_toldback_k19_whole_odd_triples) (n := 63) (k := 12) (x := "script") (kss := Tb.K19.Q_law) (Fm := Tb.K19.f_law) rfl (by decide) rfl ⟨rfl, by decide, by decide⟩ (fun w h Y => PySem.W.kIn_of Y) ?F Tb.K19.law_true
  case F =>
    intro w mg h KX hmg base hb hn
    refine Tb.K19.at_law ?_
    refine' Tb.K19.fx_mk KX hmg ?a0 ?l0 ?c0 ?k0 ?a1 ?l1 ?c1 ?k1 ?a2 ?l2 ?c2 ?k2 ?a3 ?l3 ?c3 ?k3 ?a4 ?l4 ?c4 ?k4 ?a5 ?l5 ?c5 ?k5 ?a6 ?l6 ?c6 ?k6 ?a7 ?l7 ?c7 ?k7 ?a8 ?l8 ?c8 ?k8 ?a9 ?l9 ?c9 ?k9 ?a10 ?l10 ?c10 ?k10 ?a11 ?l11 ?c11 ?k11 ?a12 ?l12 ?c12 ?k12 ?a13 ?l13 ?c13 ?k13 ?a14 ?l14 ?c14 ?k14 ?a15 ?l15 ?c15 ?k15 ?a16 ?l16 ?c16 ?k16 ?a17 ?l17 ?c17 ?k17 ?a18 ?l18 ?c18 ?k18 ?a19 ?l19 ?c19 ?k19 ?a20 ?l20 ?c20 ?k20 ?z0 ?z1 ?z2 ?z3 ?z4 ?z5 ?z6 ?z7 ?z8 ?z9 ?z10 ?z11 ?z12 ?z13 ?z14 ?z15
    (case a0 => k_is); (case l0 => k_is); (case c0 => k_is); (case k0 => k_is); (case a1 => k_is); (case l1 => k_is); (case c1 => k_is); (case k1 => k_is); (case a2 => k_is); (case l2 => k_is); (case c2 => k_is); (case k2 => k_is); (case a3 => k_is); (case l3 => k_is); (case c3 => k_is); (case k3 => k_is); (case a4 => k_is); (case l4 => k_is); (case c4 => k_is); (case k4 => k_is); (case a5 => k_is); (case l5 => k_is); (case c5 => k_is); (case k5 => k_is); (case a6 => k_is); (case l6 => k_is); (case c6 => k_is); (case k6 => k_is); (case a7 => k_is); (case l7 => k_is); (case c7 => k_is); (case k7 => k_is); (case a8 => k_is); (case l8 => k_is); (case c8 => k_is); (case k8 => k_is); (case a9 => k_is); (case l9 => k_is); (case c9 => k_is); (case k9 => k_is); (case a10 => k_is); (case l10 => k_is); (case c10 => k_is); (case k10 => k_is); (case a11 => k_is); (case l11 => k_is); (case c11 => k_is); (case k11 => k_is); (case a12 => k_is); (case l12 => k_is); (case c12 => k_is); (case k12 => k_is); (case a13 => k_is); (case l13 => k_is); (case c13 => k_is); (case k13 => k_is); (case a14 => k_is); (case l14 => k_is); (case c14 => k_is); (case k14 => k_is); (case a15 => k_is); (case l15 => k_is); (case c15 => k_is); (case k15 => k_is); (case a16 => k_is); (case l16 => k_is); (case c16 => k_is); (case k16 => k_is); (case a17 => k_is); (case l17 => k_is); (case c17 => k_is); (case k17 => k_is); (case a18 => k_is); (case l18 => k_is); (case c18 => k_is); (case k18 => k_is); (case a19 => k_is); (case l19 => k_is); (case c19 => k_is); (case k19 => k_is); (case a20 => k_is); (case l20 => k_is); (case c20 => k_is); (case k20 => k_is); (case z0 => k_is); (case z1 => k_is); (case z2 => k_is); (case z3 => k_is); (case z4 => k_is); (case z5 => k_is); (case z6 => k_is); (case z7 => k_is); (case z8 => k_is); (case z9 => k_is); (case z10 => k_is); (case z11 => k_is); (case z12 => k_is); (case z13 => k_is); (case z14 => k_is); (case z15 => k_is)

