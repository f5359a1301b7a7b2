import PyProof.Rows.All
import Wide.All
import OpenK.AllK
import Wide.FinOn
import PySem.Challenge.RW_brickbonds_k88_whole_lengths_that_are_to
import HandS.ForMost
import HandS.Exc
import HandS.TryOnly
import HandS.CallSlots
import HandS.Wide
import HandS.EndBits
import HandS.TupLe
import HandS.TupAny
import HandS.SortOrd
import HandS.Zip
import HandS.IsInst
import HandS.Deep
import HandS.TupMul
import HandS.Style
import HandS.Flow
import HandS.WordsExc
import HandS.ExcOwn
import HandS.RaiseMore
set_option Elab.async false
set_option linter.all false
set_option maxRecDepth 100000
namespace DL
open PySem PySem.Spec PyProof.Rows L2

/-! ### data -/
inductive D where
  | non | bl (b : Bool) | int (i : Int) | str (s : List Nat) | tup (xs : List D) | lst (xs : List D) | dct (kvs : List (D × D)) | glo (x : Str) | scr (ns : List Int) | typ (n : String)
structure Exc where
  cls : Str
  fs : List (Str × D)
inductive RR (α : Type) where
  | ok (a : α)
  | ex (e : Exc)
/-- what stands in a slot: a datum that is never changed any more, or one of the live objects -/
inductive SV where
  | d (x : D)
  | r (n : Nat)
inductive LO where
  | dead
  | lst (xs : List SV)

abbrev mkS (l : List Nat) : Str := ⟨l.toArray⟩
theorem mkS_toList (x : Str) : mkS x.cps.toList = x := by cases x; simp [mkS]
theorem mkS_len (l : List Nat) : (mkS l).length = l.length := by simp [mkS, Str.length]
theorem mkS_cps (l : List Nat) : (mkS l).cps.toList = l := by simp [mkS]
theorem mkS_app (l m : List Nat) : mkS l ++ mkS m = mkS (l ++ m) := by
  show Str.append _ _ = _
  simp [mkS, Str.append]

/-- Paired, as a function of the left list -/
theorem pair_map {α β γ : Type} {F : α → β → Prop} {G : γ → β → Prop} (f : α → γ) (h : ∀ a b, F a b → G (f a) b) : ∀ {l : List α} {m : List β}, Paired F l m → Paired G (l.map f) m
  | _, _, .nil => .nil
  | _, _, .cons a b => .cons (h _ _ a) (pair_map f h b)
theorem pair_imp {α β : Type} {F G : α → β → Prop} (h : ∀ a b, F a b → G a b) : ∀ {l : List α} {m : List β}, Paired F l m → Paired G l m
  | _, _, .nil => .nil
  | _, _, .cons a b => .cons (h _ _ a) (pair_imp h b)
theorem pair_app {α β : Type} {F : α → β → Prop} : ∀ {l : List α} {m : List β} {l' : List α} {m' : List β}, Paired F l m → Paired F l' m' → Paired F (l ++ l') (m ++ m')
  | _, _, _, _, .nil, h => h
  | _, _, _, _, .cons a b, h => .cons a (pair_app b h)
theorem pair_len {α β : Type} {F : α → β → Prop} : ∀ {l : List α} {m : List β}, Paired F l m → l.length = m.length
  | _, _, .nil => rfl
  | _, _, .cons _ b => by simp [pair_len b]
theorem pair_get {α β : Type} {F : α → β → Prop} : ∀ {l : List α} {m : List β} {i : Nat} {a : α}, Paired F l m → l[i]? = some a → ∃ b, m[i]? = some b ∧ F a b
  | _, _, i, a, .nil, h => by simp at h
  | _, _, 0, a, .cons f _, h => by simp at h; subst h; exact ⟨_, rfl, f⟩
  | _, _, i + 1, a, .cons _ t, h => by
    obtain ⟨b, h1, h2⟩ := pair_get (i := i) t (by simpa using h)
    exact ⟨b, by simpa using h1, h2⟩
theorem pair_get' {α β : Type} {F : α → β → Prop} : ∀ {l : List α} {m : List β} {i : Nat} {b : β}, Paired F l m → m[i]? = some b → ∃ a, l[i]? = some a ∧ F a b
  | _, _, i, a, .nil, h => by simp at h
  | _, _, 0, a, .cons f _, h => by simp at h; subst h; exact ⟨_, rfl, f⟩
  | _, _, i + 1, a, .cons _ t, h => by
    obtain ⟨b, h1, h2⟩ := pair_get' (i := i) t (by simpa using h)
    exact ⟨b, by simpa using h1, h2⟩
theorem pair_set {α β : Type} {F : α → β → Prop} {a : α} {b : β} (r : F a b) : ∀ {l : List α} {m : List β} (i : Nat), Paired F l m → Paired F (l.set i a) (m.set i b)
  | _, _, _, .nil => .nil
  | _, _, 0, .cons _ t => .cons r t
  | _, _, i + 1, .cons q t => .cons q (pair_set r i t)
theorem pair_take {α β : Type} {F : α → β → Prop} : ∀ {l : List α} {m : List β} (i : Nat), Paired F l m → Paired F (l.take i) (m.take i)
  | _, _, 0, _ => by simp; exact .nil
  | _, _, _ + 1, .nil => .nil
  | _, _, i + 1, .cons q t => .cons q (pair_take i t)
theorem pair_drop {α β : Type} {F : α → β → Prop} : ∀ {l : List α} {m : List β} (i : Nat), Paired F l m → Paired F (l.drop i) (m.drop i)
  | _, _, 0, h => h
  | _, _, _ + 1, .nil => .nil
  | _, _, i + 1, .cons q t => pair_drop i t
theorem pair_rev {α β : Type} {F : α → β → Prop} : ∀ {l : List α} {m : List β}, Paired F l m → Paired F l.reverse m.reverse
  | _, _, .nil => .nil
  | _, _, .cons q t => by simp only [List.reverse_cons]; exact pair_app (pair_rev t) (.cons q .nil)
theorem pair_flat {α β : Type} {F : α → β → Prop} {l : List α} {m : List β} (h : Paired F l m) : ∀ k : Nat, Paired F (List.replicate k l).flatten (List.replicate k m).flatten
  | 0 => .nil
  | k + 1 => by simp only [List.replicate_succ, List.flatten_cons]; exact pair_app h (pair_flat h k)
theorem pair_inj {α β : Type} {F : α → β → Prop} (hf : ∀ a b b', F a b → F a b' → b = b') : ∀ {l : List α} {m m' : List β}, Paired F l m → Paired F l m' → m = m'
  | _, _, _, .nil, .nil => rfl
  | _, _, _, .cons a b, .cons a' b' => by rw [hf _ _ _ a a', pair_inj hf b b']

def StrOk (s : List Nat) : Prop := s.length ≤ sizeLine ∧ ∀ c ∈ s, c < 1114112
/-! ### what a value denotes in an abstract heap -/
section
variable (K : PySem.W.Frag) (mg : Str → Option Value) (w : World)
mutual
inductive Den (H : Hp) : V → D → Prop
  | non : Den H .non .non
  | bl (b : Bool) : Den H (.bl b) (.bl b)
  | int (i : Int) : Den H (.int i) (.int i)
  | str (s : List Nat) (h : StrOk s) : Den H (.str (mkS s)) (.str s)
  | tup {a : Addr} {vs : List V} {ds : List D} : SqT K H a vs → DenAll H vs ds → Den H (.ref a) (.tup ds)
  | lst {a : Addr} {vs : List V} {ds : List D} : H a = some (.lst vs) → DenAll H vs ds → Den H (.ref a) (.lst ds)
  | scr {a : Addr} {ns : List Int} : SqL K H a (ns.map V.int) → Den H (.ref a) (.scr ns)
  | typ (n : String) : Den H (.ty n) (.typ n)
  | glo {x : Str} {a : Addr} : mg x = some (.ref a) → Den H (.ref a) (.glo x)
inductive DenAll (H : Hp) : List V → List D → Prop
  | nil : DenAll H [] []
  | cons {v : V} {vs : List V} {d : D} {ds : List D} : Den H v d → DenAll H vs ds → DenAll H (v :: vs) (d :: ds)
end
end
section
variable {K : PySem.W.Frag} {mg : Str → Option Value} {w : World} {H H' : Hp}
theorem Same.seqT (e : Same H H') {a : Addr} {xs : List V} (h : SqT K H a xs) : SqT K H' a xs := by
  rcases h with (h | ⟨o, h⟩) | h
  · exact .inl (.inl (e _ _ h))
  · exact .inl (.inr ⟨o, e _ _ h⟩)
  · exact .inr h
mutual
theorem Den.mono (e : Same H H') : ∀ (d : D) (v : V), Den K mg H v d → Den K mg H' v d
  | .non, _, .non => .non
  | .bl _, _, .bl b => .bl b
  | .int _, _, .int i => .int i
  | .str _, _, .str s h => .str s h
  | .tup ds, _, .tup h1 h2 => .tup (Same.seqT e h1) (DenAll.mono e ds _ h2)
  | .lst ds, _, .lst h1 h2 => .lst (e _ _ h1) (DenAll.mono e ds _ h2)
  | .scr _, _, .scr h => .scr (Same.seq e h)
  | .typ _, _, .typ n => .typ n
  | .glo _, _, .glo h => .glo h
theorem DenAll.mono (e : Same H H') : ∀ (ds : List D) (vs : List V), DenAll K mg H vs ds → DenAll K mg H' vs ds
  | [], _, .nil => .nil
  | d :: ds, _, .cons h1 h2 => .cons (Den.mono e d _ h1) (DenAll.mono e ds _ h2)
end
theorem DenAll.pair : ∀ {vs : List V} {ds : List D}, DenAll K mg H vs ds → Paired (Den K mg H) vs ds
  | _, _, .nil => .nil
  | _, _, .cons a b => .cons a (DenAll.pair b)
theorem DenAll.of : ∀ {vs : List V} {ds : List D}, Paired (Den K mg H) vs ds → DenAll K mg H vs ds
  | _, _, .nil => .nil
  | _, _, .cons a b => .cons a (DenAll.of b)
end

/-! ### the state of live objects -/
structure HS where
  P : List Addr
  α : List Addr
  L : List LO
  H : Hp
def HS.live (s : HS) (a : Addr) : Prop := ∃ (n : Nat) (lo : LO), s.α[n]? = some a ∧ s.L[n]? = some lo ∧ lo ≠ .dead
open Classical in
/-- the part of the heap that is never changed any more -/
noncomputable def HS.fz (s : HS) : Hp := fun a => if s.live a ∨ a ∈ s.P then none else s.H a
theorem HS.fz_some {s : HS} {a : Addr} {o : HO} : s.fz a = some o ↔ ¬ s.live a ∧ a ∉ s.P ∧ s.H a = some o := by
  unfold HS.fz
  split
  · rename_i h; constructor
    · intro z; cases z
    · rintro ⟨h1, h2, _⟩; exact (h.elim h1 h2).elim
  · rename_i h; constructor
    · intro z; exact ⟨fun q => h (.inl q), fun q => h (.inr q), z⟩
    · exact fun z => z.2.2
theorem HS.fz_same (s : HS) : Same s.fz s.H := fun _ _ h => (HS.fz_some.mp h).2.2

section
variable (K : PySem.W.Frag) (mg : Str → Option Value)
def VS (s : HS) : SV → V → Prop
  | .d x, v => Den K mg s.fz v x
  | .r n, v => ∃ a, s.α[n]? = some a ∧ v = .ref a
def LOk (s : HS) (a : Addr) : LO → Prop
  | .dead => s.H a ≠ none
  | .lst xs => ∃ vs, s.H a = some (.lst vs) ∧ Paired (VS K mg s) xs vs
structure HS.Ok (s : HS) : Prop where
  len : s.α.length = s.L.length
  nd : s.α.Nodup
  np : ∀ a ∈ s.α, a ∉ s.P
  hp : ∀ a ∈ s.P, s.H a ≠ none
  obj : ∀ (n : Nat) (lo : LO) (a : Addr), s.L[n]? = some lo → s.α[n]? = some a → LOk K mg s a lo
end
structure Ext (s s' : HS) : Prop where
  P : ∀ a ∈ s.P, a ∈ s'.P
  newP : ∀ a ∈ s'.P, a ∈ s.P ∨ s.H a = none
  α : ∃ m, s'.α = s.α ++ m
  keep : ∀ a o, ¬ s.live a → s.H a = some o → s'.H a = some o
  new : ∀ a, s'.live a → s.live a ∨ s.H a = none
  there : ∀ a, s.H a ≠ none → s'.H a ≠ none
theorem Ext.refl (s : HS) : Ext s s := ⟨fun _ h => h, fun _ h => .inl h, ⟨[], by simp⟩, fun _ _ _ h => h, fun _ h => .inl h, fun _ h => h⟩
theorem Ext.trans {s s' s'' : HS} (a : Ext s s') (b : Ext s' s'') : Ext s s'' := by
  refine ⟨fun x h => b.P x (a.P x h), fun x h => ?_, ?_, fun x o h1 h2 => b.keep x o (fun z => ?_) (a.keep x o h1 h2), fun x h => ?_, fun x h => b.there x (a.there x h)⟩
  · rcases b.newP x h with q | q
    · exact a.newP x q
    · refine .inr ?_
      cases e : s.H x with
      | none => rfl
      | some o => exact absurd q (a.there x (by rw [e]; simp))
  · obtain ⟨m, e⟩ := a.α
    obtain ⟨m', e'⟩ := b.α
    exact ⟨m ++ m', by rw [e', e, List.append_assoc]⟩
  · rcases a.new x z with q | q
    · exact h1 q
    · rw [h2] at q; cases q
  · rcases b.new x h with q | q
    · exact a.new x q
    · refine .inr ?_
      cases e : s.H x with
      | none => rfl
      | some o => exact absurd q (a.there x (by rw [e]; simp))
theorem Ext.fz {s s' : HS} (x : Ext s s') : Same s.fz s'.fz := fun a o h => by
  obtain ⟨h1, h2, h3⟩ := HS.fz_some.mp h
  refine HS.fz_some.mpr ⟨fun z => ?_, fun z => ?_, x.keep a o h1 h3⟩
  · rcases x.new a z with q | q
    · exact h1 q
    · rw [h3] at q; cases q
  · rcases x.newP a z with q | q
    · exact h2 q
    · rw [h3] at q; cases q
theorem Ext.get {s s' : HS} (x : Ext s s') {n : Nat} {a : Addr} (h : s.α[n]? = some a) : s'.α[n]? = some a := by
  obtain ⟨m, e⟩ := x.α
  rw [e, List.getElem?_append_left]
  · exact h
  · exact (List.getElem?_eq_some_iff.mp h).1
section
variable {K : PySem.W.Frag} {mg : Str → Option Value} {s s' : HS}
theorem VS.ext (x : Ext s s') : ∀ {sv : SV} {v : V}, VS K mg s sv v → VS K mg s' sv v
  | .d d, v, h => Den.mono x.fz d v h
  | .r _, _, ⟨a, h1, h2⟩ => ⟨a, x.get h1, h2⟩
/-- a new object is laid, and never changed -/
theorem ext_new (ok : s.Ok K mg) {p : Addr} {o : HO} (hp : s.H p = none) : Ext s { s with H := upd s.H p o } := by
  refine ⟨fun _ h => h, fun _ h => .inl h, ⟨[], by simp⟩, fun a u _ h => ?_, fun a h => .inl h, fun a h => ?_⟩
  · show upd s.H p o a = some u
    rw [upd_ne (ne_of_none h hp)]; exact h
  · show upd s.H p o a ≠ none
    by_cases e : a = p
    · subst e; rw [upd_same]; simp
    · rw [upd_ne e]; exact h
theorem HS.Ok.tracked (ok : s.Ok K mg) {a : Addr} (h : s.live a) : s.H a ≠ none := by
  obtain ⟨n, lo, h1, h2, h3⟩ := h
  have := ok.obj n lo a h2 h1
  cases lo with
  | dead => exact this
  | lst xs => obtain ⟨vs, e, _⟩ := this; rw [e]; simp
theorem LOk.ext (x : Ext s s') {a : Addr} {lo : LO} (hl : LOk K mg s a lo) (hk : ∀ o, s.H a = some o → s'.H a = some o) : LOk K mg s' a lo := by
  cases lo with
  | dead => exact x.there a hl
  | lst xs =>
    obtain ⟨vs, e, r⟩ := hl
    exact ⟨vs, hk _ e, pair_imp (fun _ _ q => VS.ext x q) r⟩
theorem ok_new (ok : s.Ok K mg) {p : Addr} {o : HO} (hp : s.H p = none) : ({ s with H := upd s.H p o } : HS).Ok K mg := by
  have x := ext_new (o := o) ok hp
  refine ⟨ok.len, ok.nd, ok.np, fun a ha => x.there a (ok.hp a ha), fun n lo a h1 h2 => LOk.ext x (ok.obj n lo a h1 h2) fun u hu => ?_⟩
  show upd s.H p o a = some u
  rw [upd_ne (ne_of_none hu hp)]; exact hu
/-- .. it is frozen -/
theorem fz_new (ok : s.Ok K mg) {p : Addr} {o : HO} (hp : s.H p = none) : ({ s with H := upd s.H p o } : HS).fz p = some o := by
  refine HS.fz_some.mpr ⟨fun z => ?_, fun z => ok.hp p z hp, upd_same⟩
  exact ok.tracked (s := s) (show s.live p from z) hp
end
end DL
namespace DL
open PySem PySem.Spec PyProof.Rows L2

abbrev Env' := List (Option SV)
/-- a reckoning: none: stuck (nothing is said) -/
abbrev Mo (α : Type) := Env' → List LO → Option (RR α × List LO)
def Mo.ret {α : Type} (a : α) : Mo α := fun _ L => some (.ok a, L)
def Mo.bind {α β : Type} (m : Mo α) (k : α → Mo β) : Mo β := fun ρ L => match m ρ L with
  | none => none
  | some (.ex e, L1) => some (.ex e, L1)
  | some (.ok a, L1) => k a ρ L1
theorem Mo.bind_ok {α β : Type} {m : Mo α} {k : α → Mo β} {ρ : Env'} {L L1 : List LO} {a : α} (h : m ρ L = some (.ok a, L1)) : m.bind k ρ L = k a ρ L1 := by
  unfold Mo.bind; rw [h]
theorem Mo.bind_ex {α β : Type} {m : Mo α} {k : α → Mo β} {ρ : Env'} {L L1 : List LO} {e : Exc} (h : m ρ L = some (.ex e, L1)) : m.bind k ρ L = some (.ex e, L1) := by
  unfold Mo.bind; rw [h]

section
variable (K : PySem.W.Frag) (mg : Str → Option Value)
/-- an exception of the text's own -/
def ExAt (H : Hp) (e : Exc) (cls : Value) (d : Option Addr) : Prop :=
  ∃ C, cls = .ref C ∧ mg e.cls = some (.ref C) ∧ ((e.fs = [] ∧ d = none) ∨
    ∃ (dx : Addr) (fv : List (Str × V)), d = some dx ∧ H dx = some (.xd fv) ∧ Paired (fun (p : Str × D) (q : Str × V) => p.1 = q.1 ∧ Den K mg H q.2 p.2) e.fs fv)
/-- the slots -/
def VR (s : HS) (ρ : Env') (σ : L2.St) : Prop := ρ.length = σ.length ∧ ∀ (i : Nat) (sv : SV), ρ[i]? = some (some sv) → ∃ v, σ[i]? = some (some v) ∧ VS K mg s sv v
/-- what is wanted of a reckoning's end -/
def Post {α β : Type} (Rel : HS → α → β → Prop) (W : WX) (σ : L2.St) (s : HS) (Q : β → Hp → Prop) : Option (RR α × List LO) → Prop
  | none => False
  | some (.ok a, L') => ∀ (s' : HS) (b : β), s'.L = L' → Ext s s' → s'.Ok K mg → Rel s' a b → Q b s'.H
  | some (.ex e, L') => ∀ (s' : HS) (cls : Value) (d : Option Addr), s'.L = L' → Ext s s' → s'.Ok K mg → ExAt K mg s'.H e cls d → W cls d σ s'.H
/-- the entry of a reading -/
def tM {α β : Type} (Rel : HS → α → β → Prop) (W : WX) (m : Mo α) : L2.St → Hp → (β → Hp → Prop) → Prop := fun σ H Q =>
  ∃ (s : HS) (ρ : Env'), s.H = H ∧ s.Ok K mg ∧ VR K mg s ρ σ ∧ Post K mg Rel W σ s Q (m ρ s.L)
end

def RelD (K : PySem.W.Frag) (mg : Str → Option Value) : HS → SV → V → Prop := VS K mg
def RelA (K : PySem.W.Frag) (mg : Str → Option Value) : HS → List SV → List V → Prop := fun s xs vs => Paired (VS K mg s) xs vs
def RelB : HS → Bool → Bool → Prop := fun _ a b => a = b
def RelO (K : PySem.W.Frag) (mg : Str → Option Value) : HS → Option Int → Option Int → Prop := fun _ a b => a = b

structure JE (X : Cx) (W : WX) (e : Expr) (m : Mo SV) : Prop where
  pe : PE X e (tM X.K X.mg (RelD X.K X.mg) W m)
structure JT (X : Cx) (W : WX) (e : Expr) (m : Mo Bool) : Prop where
  pt : PT X e (tM X.K X.mg RelB W m)
structure JW (X : Cx) (W : WX) (e : Expr) (m : Mo Bool) : Prop where
  pw : PW X e (tM X.K X.mg RelB W m)
structure JA (X : Cx) (W : WX) (es : List Expr) (m : Mo (List SV)) : Prop where
  pa : PA X es (tM X.K X.mg (RelA X.K X.mg) W m)

section
variable {X : Cx}
theorem _root_.L2.PE.weak {e : Expr} {t t' : TE} (h : PE X e t) (w : ∀ σ H Q, t' σ H Q → t σ H Q) : PE X e t' := ⟨fun pins s σ H Q I q => h.run pins s σ H Q I (w σ H Q q)⟩
theorem _root_.L2.PT.weak {e : Expr} {t t' : TT} (h : PT X e t) (w : ∀ σ H Q, t' σ H Q → t σ H Q) : PT X e t' := ⟨fun pins s σ H Q I q => h.run pins s σ H Q I (w σ H Q q)⟩
theorem _root_.L2.PW.weak {e : Expr} {t t' : TT} (h : PW X e t) (w : ∀ σ H Q, t' σ H Q → t σ H Q) : PW X e t' := ⟨fun wh pins s σ H Q I q => h.run wh pins s σ H Q I (w σ H Q q)⟩
theorem _root_.L2.PA.weak {e : List Expr} {t t' : TA} (h : PA X e t) (w : ∀ σ H Q, t' σ H Q → t σ H Q) : PA X e t' := ⟨fun pos pins s σ H Q I q => h.run pos pins s σ H Q I (w σ H Q q)⟩
theorem _root_.L2.PS.weak {e : Stmt} {t t' : TS} (h : PS X e t) (w : ∀ D σ H, t' D σ H → t D σ H) : PS X e t' := ⟨fun pins s σ H D I q => h.run pins s σ H D I (w D σ H q)⟩
theorem _root_.L2.PSs.weak {e : List Stmt} {t t' : TS} (h : PSs X e t) (w : ∀ D σ H, t' D σ H → t D σ H) : PSs X e t' := ⟨fun pins s σ H D I q => h.run pins s σ H D I (w D σ H q)⟩
end

section
variable {K : PySem.W.Frag} {mg : Str → Option Value} {s s' : HS} {ρ : Env'} {σ : L2.St} {W : WX}
theorem VR.ext (x : Ext s s') (r : VR K mg s ρ σ) : VR K mg s' ρ σ := ⟨r.1, fun i sv h => by
  obtain ⟨v, h1, h2⟩ := r.2 i sv h
  exact ⟨v, h1, VS.ext x h2⟩⟩
theorem VR.set {i : Nat} {sv : SV} {v : V} (r : VR K mg s ρ σ) (h : VS K mg s sv v) : VR K mg s (ρ.set i (some sv)) (σ.set i (some v)) := by
  refine ⟨by simp [r.1], fun j sv' h' => ?_⟩
  by_cases e : i = j
  · subst e
    have hl : i < ρ.length := by
      have := (List.getElem?_eq_some_iff.mp h').1
      simpa using this
    rw [List.getElem?_set_self hl] at h'
    cases h'
    exact ⟨v, List.getElem?_set_self (by rw [← r.1]; exact hl), h⟩
  · rw [List.getElem?_set_ne e] at h'
    rw [List.getElem?_set_ne e]
    exact r.2 j sv' h'
theorem Post.mono {α β : Type} {Rel : HS → α → β → Prop} {Q Q' : β → Hp → Prop} {o : Option (RR α × List LO)} (h : Post K mg Rel W σ s Q o) (hq : ∀ b H, Q b H → Q' b H) : Post K mg Rel W σ s Q' o := by
  rcases o with _ | ⟨_ | _, _⟩
  · exact h
  · exact fun s' b e x ok r => hq _ _ (h s' b e x ok r)
  · exact h
/-- THE CHAIN: behind a first reckoning the second -/
theorem Post.bind {α β γ δ : Type} {Rel : HS → α → β → Prop} {Rel' : HS → γ → δ → Prop} {m : Mo α} {k : α → Mo γ} {Q : δ → Hp → Prop} {Q1 : β → Hp → Prop}
    (h : Post K mg Rel' W σ s Q ((m.bind k) ρ s.L)) (hk : ∀ (a : α) (s1 : HS) (b : β), Ext s s1 → s1.Ok K mg → Rel s1 a b → Post K mg Rel' W σ s1 Q (k a ρ s1.L) → Q1 b s1.H) : Post K mg Rel W σ s Q1 (m ρ s.L) := by
  unfold Mo.bind at h
  rcases e : m ρ s.L with _ | ⟨_ | _, L1⟩
  · rw [e] at h; exact h
  · rename_i a
    rw [e] at h
    intro s1 b e1 x1 ok1 r1
    subst e1
    refine hk a s1 b x1 ok1 r1 ?_
    have h' : Post K mg Rel' W σ s Q (k a ρ s1.L) := h
    rcases e2 : k a ρ s1.L with _ | ⟨_ | _, L2⟩
    · rw [e2] at h'; exact h'
    · rw [e2] at h'
      exact fun s2 b2 e3 x2 ok2 r2 => h' s2 b2 e3 (x1.trans x2) ok2 r2
    · rw [e2] at h'
      exact fun s2 c d e3 x2 ok2 r2 => h' s2 c d e3 (x1.trans x2) ok2 r2
  · rw [e] at h; exact h
/-- a value that is there -/
theorem Post.here {α β : Type} {Rel : HS → α → β → Prop} {Q : β → Hp → Prop} {a : α} {b : β} (h : Post K mg Rel W σ s Q (some (.ok a, s.L))) (ok : s.Ok K mg) (r : Rel s a b) : Q b s.H := h s b rfl (Ext.refl s) ok r
end

/-! ### names, constants -/
section
variable {X : Cx} {W : WX}
/-- a slot's name -/
structure Sl (X : Cx) (i : Nat) (x : Str) : Prop where
  n : X.N[i]? = some x
  v : Vis X.env.scope x
  d : (x == ("__debug__" : Str)) = false
  c : (x == ("__classdict__" : Str)) = false
def mVar (i : Nat) : Mo SV := fun ρ L => match ρ[i]? with
  | some (some v) => some (.ok v, L)
  | _ => none
theorem jVar {i : Nat} {x : Str} {pos : Pos} (h : Sl X i x) : JE X W (.Name x pos) (mVar i) := by
  refine ⟨(pe_var h.n h.v h.d h.c).weak fun σ H Q q => ?_⟩
  obtain ⟨s, ρ, rfl, ok, vr, p⟩ := q
  unfold mVar at p
  split at p
  · rename_i v e
    obtain ⟨u, h1, h2⟩ := vr.2 i v e
    exact ⟨u, h1, Post.here p ok h2⟩
  · exact p.elim
def mD (d : D) : Mo SV := fun _ L => some (.ok (.d d), L)
theorem jConst {e : Expr} {v : V} {d : D} (h : PE X e (tC v)) (hd : ∀ H, Den X.K X.mg H v d) : JE X W e (mD d) := by
  refine ⟨h.weak fun σ H Q q => ?_⟩
  obtain ⟨s, ρ, rfl, ok, vr, p⟩ := q
  exact Post.here p ok (hd _)
theorem jInt {i j pos} : JE X W (.Constant (.int i) j pos) (mD (.int i)) := jConst pe_int fun _ => .int i
theorem jBl {b j pos} : JE X W (.Constant (.bool b) j pos) (mD (.bl b)) := jConst pe_bl fun _ => .bl b
theorem jNon {j pos} : JE X W (.Constant .none j pos) (mD .non) := jConst pe_non fun _ => .non
theorem jStr {x : Str} {l : List Nat} {j pos} (h : x = mkS l) (hl : (l.length ≤ 16777216 ∧ l.all (· < 1114112)) = True) : JE X W (.Constant (.str x) j pos) (mD (.str l)) := by
  subst h
  refine jConst pe_str fun _ => .str l ⟨by rw [sizeLine_eq]; exact (of_eq_true hl).1, fun c hc => ?_⟩
  have := List.all_eq_true.mp (of_eq_true hl).2 c hc
  simpa using this
/-- a global name whose value is known -/
structure GlV (X : Cx) (x : Str) (v : V) (u : Value) : Prop where
  g : Gl X x
  m : X.mg x = some u
  r : RelV v u
  d : (x == ("__debug__" : Str)) = false
theorem jGlo {x : Str} {v : V} {u : Value} {d : D} {pos : Pos} (h : GlV X x v u) (hd : ∀ H, Den X.K X.mg H v d) : JE X W (.Name x pos) (mD d) := jConst (pe_glob h.g h.m h.r h.d) hd

/-! ### operators -/
def m2 (f : SV → SV → Mo SV) (a b : Mo SV) : Mo SV := a.bind fun x => b.bind fun y => f x y
/-- an operation of two values -/
def OpJ (X : Cx) (g : Value → Value → Sem Value) (f : SV → SV → Mo SV) : Prop :=
  ∃ r : R2, OpR X g r ∧ ∀ (W : WX) (σ : L2.St) (ρ : Env') (s : HS) (x y : SV) (vx vy : V) (Q : VK), s.Ok X.K X.mg → VS X.K X.mg s x vx → VS X.K X.mg s y vy →
    Post X.K X.mg (RelD X.K X.mg) W σ s Q (f x y ρ s.L) → r vx vy s.H Q
theorem m2_run {g : Value → Value → Sem Value} {f : SV → SV → Mo SV} {r : R2} {ma mb : Mo SV}
    (h : ∀ (W : WX) (σ : L2.St) (ρ : Env') (s : HS) (x y : SV) (vx vy : V) (Q : VK), s.Ok X.K X.mg → VS X.K X.mg s x vx → VS X.K X.mg s y vy →
      Post X.K X.mg (RelD X.K X.mg) W σ s Q (f x y ρ s.L) → r vx vy s.H Q) (σ : L2.St) (H : Hp) (Q : VK) (q : tM X.K X.mg (RelD X.K X.mg) W (m2 f ma mb) σ H Q) :
    tOp r (tM X.K X.mg (RelD X.K X.mg) W ma) (tM X.K X.mg (RelD X.K X.mg) W mb) σ H Q := by
  obtain ⟨s, ρ, rfl, ok, vr, p⟩ := q
  refine ⟨s, ρ, rfl, ok, vr, Post.bind p fun x s1 vx x1 ok1 r1 p1 => ⟨s1, ρ, rfl, ok1, vr.ext x1, Post.bind p1 fun y s2 vy x2 ok2 r2 p2 => ?_⟩⟩
  exact h W σ ρ s2 x y vx vy Q ok2 (VS.ext x2 r1) r2 p2
theorem jBin {op : Operator} {f : SV → SV → Mo SV} {a b : Expr} {ma mb : Mo SV} {pos : Pos} (h : OpJ X (binaryOp op) f) (ha : JE X W a ma) (hb : JE X W b mb) : JE X W (.BinOp a op b pos) (m2 f ma mb) := by
  obtain ⟨r, hr, hq⟩ := h
  exact ⟨(pe_op hr ha.pe hb.pe).weak (m2_run (g := binaryOp op) hq)⟩
theorem jCmp {op : CmpOp} {f : SV → SV → Mo SV} {a b : Expr} {ma mb : Mo SV} {pos : Pos} (h : OpJ X (compareOp op) f) (ha : JE X W a ma) (hb : JE X W b mb) (hm : behindInMarks op b = false) : JE X W (.Compare a [op] [b] pos) (m2 f ma mb) := by
  obtain ⟨r, hr, hq⟩ := h
  exact ⟨(pe_cmpR hr ha.pe hb.pe hm).weak (m2_run (g := compareOp op) hq)⟩
/-- a bool, as a test -/
def mBool (m : Mo SV) : Mo Bool := m.bind fun x _ L => match x with
  | .d (.bl b) => some (.ok b, L)
  | _ => none
theorem mBool_run {m : Mo SV} {t : TE} (h : ∀ σ H Q, tM X.K X.mg (RelD X.K X.mg) W m σ H Q → t σ H Q) (σ : L2.St) (H : Hp) (Q : Bool → Hp → Prop) (q : tM X.K X.mg RelB W (mBool m) σ H Q) : tTest t σ H Q := by
  obtain ⟨s, ρ, rfl, ok, vr, p⟩ := q
  refine h _ _ _ ⟨s, ρ, rfl, ok, vr, Post.bind p fun x s1 v x1 ok1 r1 p1 => ?_⟩
  cases x with
  | r n => exact p1.elim
  | d d =>
    cases d <;> try exact p1.elim
    cases r1
    exact ⟨_, rfl, Post.here (Rel := RelB) p1 ok1 rfl⟩
theorem jtCmp {op : CmpOp} {f : SV → SV → Mo SV} {a b : Expr} {ma mb : Mo SV} {pos : Pos} (h : OpJ X (compareOp op) f) (ha : JE X W a ma) (hb : JE X W b mb) (hm : behindInMarks op b = false) : JT X W (.Compare a [op] [b] pos) (mBool (m2 f ma mb)) := by
  obtain ⟨r, hr, hq⟩ := h
  exact ⟨(pt_cmpR hr ha.pe hb.pe hm).weak (mBool_run (m2_run (g := compareOp op) hq))⟩
/-- a <= b < c -/
def mChain (f g : SV → SV → Mo SV) (a b c : Mo SV) : Mo SV := a.bind fun x => b.bind fun y => (mBool (f x y)).bind fun t => if t then c.bind fun z => g y z else Mo.ret (.d (.bl false))
theorem mChain_run {f g : SV → SV → Mo SV} {r r' : R2} {ma mb mc : Mo SV}
    (h : ∀ (W : WX) (σ : L2.St) (ρ : Env') (s : HS) (x y : SV) (vx vy : V) (Q : VK), s.Ok X.K X.mg → VS X.K X.mg s x vx → VS X.K X.mg s y vy → Post X.K X.mg (RelD X.K X.mg) W σ s Q (f x y ρ s.L) → r vx vy s.H Q)
    (h' : ∀ (W : WX) (σ : L2.St) (ρ : Env') (s : HS) (x y : SV) (vx vy : V) (Q : VK), s.Ok X.K X.mg → VS X.K X.mg s x vx → VS X.K X.mg s y vy → Post X.K X.mg (RelD X.K X.mg) W σ s Q (g x y ρ s.L) → r' vx vy s.H Q)
    (σ : L2.St) (H : Hp) (Q : VK) (q : tM X.K X.mg (RelD X.K X.mg) W (mChain f g ma mb mc) σ H Q) :
    tChain r r' (tM X.K X.mg (RelD X.K X.mg) W ma) (tM X.K X.mg (RelD X.K X.mg) W mb) (tM X.K X.mg (RelD X.K X.mg) W mc) σ H Q := by
  obtain ⟨s, ρ, rfl, ok, vr, p⟩ := q
  refine ⟨s, ρ, rfl, ok, vr, Post.bind p fun x s1 vx x1 ok1 r1 p1 => ⟨s1, ρ, rfl, ok1, vr.ext x1, Post.bind p1 fun y s2 vy x2 ok2 r2 p2 => ?_⟩⟩
  refine h W σ ρ s2 x y vx vy _ ok2 (VS.ext x2 r1) r2 (Post.bind (Rel := RelD X.K X.mg) (Rel' := RelD X.K X.mg) (Q := Q) (Q1 := fun z H3 => ∃ k, z = .bl k ∧ (if k = true then _ else _)) (m := f x y) (k := fun z => Mo.bind (fun _ L => match z with | .d (.bl b) => some (.ok b, L) | _ => none) fun t => if t then mc.bind fun z => g y z else Mo.ret (.d (.bl false))) ?_ fun z s3 vz x3 ok3 r3 p3 => ?_)
  · have e : (Mo.bind (mBool (f x y)) fun t => if t then mc.bind fun z => g y z else Mo.ret (.d (.bl false))) ρ s2.L =
      (Mo.bind (f x y) fun z => Mo.bind (fun _ L => match z with | .d (.bl b) => some (.ok b, L) | _ => none) fun t => if t then mc.bind fun z => g y z else Mo.ret (.d (.bl false))) ρ s2.L := by
      unfold mBool Mo.bind
      rcases f x y ρ s2.L with _ | ⟨_ | _, _⟩ <;> rfl
    rw [← e]; exact p2
  · cases z with
    | r n => exact p3.elim
    | d d =>
      cases d <;> try exact p3.elim
      rename_i b
      cases r3
      refine ⟨b, rfl, ?_⟩
      cases b with
      | true =>
        rw [if_pos rfl]
        have p3' : Post X.K X.mg (RelD X.K X.mg) W σ s3 Q ((mc.bind fun z => g y z) ρ s3.L) := p3
        exact ⟨s3, ρ, rfl, ok3, ((vr.ext x1).ext x2).ext x3, Post.bind p3' fun z s4 vz x4 ok4 r4 p4 => h' W σ ρ s4 y z vy vz Q ok4 (VS.ext x4 (VS.ext x3 r2)) r4 p4⟩
      | false =>
        rw [if_neg (by decide)]
        exact Post.here (Rel := RelD X.K X.mg) p3 ok3 (.bl false)
theorem jChain {op op' : CmpOp} {f g : SV → SV → Mo SV} {a b c : Expr} {ma mb mc : Mo SV} {pos : Pos} (h : OpJ X (compareOp op) f) (h' : OpJ X (compareOp op') g) (ha : JE X W a ma) (hb : JE X W b mb) (hc : JE X W c mc)
    (hm : lastMarks [op, op'] [b, c] = false := by with_unfolding_all rfl) : JE X W (.Compare a [op, op'] [b, c] pos) (mChain f g ma mb mc) := by
  obtain ⟨r, hr, hq⟩ := h
  obtain ⟨r', hr', hq'⟩ := h'
  exact ⟨(pe_chain hr hr' ha.pe hb.pe hc.pe hm).weak (mChain_run hq hq')⟩
theorem jtChain {op op' : CmpOp} {f g : SV → SV → Mo SV} {a b c : Expr} {ma mb mc : Mo SV} {pos : Pos} (h : OpJ X (compareOp op) f) (h' : OpJ X (compareOp op') g) (ha : JE X W a ma) (hb : JE X W b mb) (hc : JE X W c mc) (hm : lastMarks [op, op'] [b, c] = false := by with_unfolding_all rfl) :
    JT X W (.Compare a [op, op'] [b, c] pos) (mBool (mChain f g ma mb mc)) := by
  obtain ⟨r, hr, hq⟩ := h
  obtain ⟨r', hr', hq'⟩ := h'
  exact ⟨(pt_chain hr hr' ha.pe hb.pe hc.pe hm).weak (mBool_run (mChain_run hq hq'))⟩
end
end DL
namespace DL
open PySem PySem.Spec PyProof.Rows L2

/-! ### a live object, looked at -/
def pures : List SV → Option (List D)
  | [] => some []
  | .d x :: r => match pures r with | some ds => some (x :: ds) | none => none
  | .r _ :: _ => none
def top (L : List LO) : SV → Option D
  | .d x => some x
  | .r n => match L[n]? with
    | some (.lst xs) => match pures xs with | some ds => some (.lst ds) | none => none
    | _ => none
@[simp] theorem top_d (L : List LO) (x : D) : top L (.d x) = some x := rfl
section
variable (K : PySem.W.Frag) (mg : Str → Option Value)
/-- the object at the top as it stands now, its parts frozen -/
def DenT (s : HS) (v : V) : D → Prop
  | .lst ds => ∃ a vs, v = .ref a ∧ s.H a = some (.lst vs) ∧ Paired (Den K mg s.fz) vs ds
  | d => Den K mg s.fz v d
end
section
variable {K : PySem.W.Frag} {mg : Str → Option Value} {s s' : HS}
theorem pures_den : ∀ {xs : List SV} {vs : List V} {ds : List D}, pures xs = some ds → Paired (VS K mg s) xs vs → Paired (Den K mg s.fz) vs ds
  | [], _, _, h, .nil => by cases h; exact .nil
  | .d x :: r, _, _, h, .cons a b => by
    unfold pures at h
    split at h
    · rename_i ds e
      cases h
      exact .cons a (pures_den e b)
    · cases h
  | .r _ :: _, _, _, h, _ => by cases h
theorem den_T {v : V} {d : D} (h : Den K mg s.fz v d) : DenT K mg s v d := by
  cases d <;> try exact h
  cases h with
  | lst h1 h2 => exact ⟨_, _, rfl, (HS.fz_same s) _ _ h1, h2.pair⟩
theorem top_den (ok : s.Ok K mg) {x : SV} {v : V} {d : D} (h : VS K mg s x v) (t : top s.L x = some d) : DenT K mg s v d := by
  cases x with
  | d x => cases t; exact den_T h
  | r n =>
    obtain ⟨a, h1, rfl⟩ := h
    unfold top at t
    dsimp only at t
    split at t
    · rename_i xs e
      split at t
      · rename_i ds e2
        cases t
        obtain ⟨vs, h2, h3⟩ := ok.obj n _ a e h1
        exact ⟨a, vs, rfl, h2, pures_den e2 h3⟩
      · cases t
    · cases t
/-- a new frozen list, tuple -/
theorem Post.lst {W : WX} {σ : L2.St} {Q : VK} {ds : List D} {vs : List V} {p : Addr} (q : Post K mg (RelD K mg) W σ s Q (some (.ok (.d (.lst ds)), s.L))) (ok : s.Ok K mg) (h : Paired (Den K mg s.fz) vs ds) (hp : s.H p = none) : Q (.ref p) (upd s.H p (.lst vs)) := by
  have x := ext_new (o := .lst vs) ok hp
  refine q { s with H := upd s.H p (.lst vs) } (.ref p) rfl x (ok_new ok hp) (.lst (fz_new ok hp) ?_)
  exact DenAll.mono x.fz _ _ (DenAll.of h)
theorem Post.tup {W : WX} {σ : L2.St} {Q : VK} {ds : List D} {vs : List V} {p : Addr} (q : Post K mg (RelD K mg) W σ s Q (some (.ok (.d (.tup ds)), s.L))) (ok : s.Ok K mg) (h : Paired (Den K mg s.fz) vs ds) (hp : s.H p = none) : Q (.ref p) (upd s.H p (.tup vs)) := by
  have x := ext_new (o := .tup vs) ok hp
  refine q { s with H := upd s.H p (.tup vs) } (.ref p) rfl x (ok_new ok hp) (.tup (SqT.of (fz_new ok hp)) ?_)
  exact DenAll.mono x.fz _ _ (DenAll.of h)
theorem Post.flat {W : WX} {σ : L2.St} {Q : VK} {d : D} {v : V} (q : Post K mg (RelD K mg) W σ s Q (some (.ok (.d d), s.L))) (ok : s.Ok K mg) (h : Den K mg s.fz v d) : Q v s.H := Post.here q ok h
end

/-- a pure operation of two data -/
def op2 (g : D → D → Option D) : SV → SV → Mo SV := fun x y _ L => match top L x, top L y with
  | some a, some b => match g a b with
    | some d => some (.ok (.d d), L)
    | none => none
  | _, _ => none
def op1 (g : D → Option D) : SV → Mo SV := fun x _ L => match top L x with
  | some a => match g a with
    | some d => some (.ok (.d d), L)
    | none => none
  | _ => none
section
variable {X : Cx}
theorem opJ2 {g : Value → Value → Sem Value} {f : D → D → Option D} {r : R2} (hr : OpR X g r)
    (h : ∀ (W : WX) (σ : L2.St) (s : HS) (a b d : D) (va vb : V) (Q : VK), s.Ok X.K X.mg → DenT X.K X.mg s va a → DenT X.K X.mg s vb b → f a b = some d →
      Post X.K X.mg (RelD X.K X.mg) W σ s Q (some (.ok (.d d), s.L)) → r va vb s.H Q) : OpJ X g (op2 f) := by
  refine ⟨r, hr, fun W σ ρ s x y vx vy Q ok hx hy p => ?_⟩
  unfold op2 at p
  split at p
  · rename_i a b ea eb
    split at p
    · rename_i d e
      exact h W σ s a b d vx vy Q ok (top_den ok hx ea) (top_den ok hy eb) e p
    · exact p.elim
  · exact p.elim
end

/-! ### + -/
def addD : D → D → Option D
  | .int i, .int j => some (.int (i + j))
  | .str a, .str b => if a.length + b.length ≤ 16777216 then some (.str (a ++ b)) else none
  | .lst a, .lst b => if a.length + b.length ≤ 16777216 then some (.lst (a ++ b)) else none
  | .tup a, .tup b => if a.length + b.length ≤ 16777216 then some (.tup (a ++ b)) else none
  | _, _ => none
theorem strOk_app {a b : List Nat} (ha : StrOk a) (hb : StrOk b) (h : a.length + b.length ≤ 16777216) : StrOk (a ++ b) :=
  ⟨by rw [List.length_append, sizeLine_eq]; exact h, fun c hc => (List.mem_append.mp hc).elim (ha.2 c) (hb.2 c)⟩
section
variable {X : Cx}
theorem jAdd : OpJ X (binaryOp .Add) (op2 addD) := by
  refine opJ2 (op_add.or (op_add_str.or (op_cat.or op_catA))) fun W σ s a b d va vb Q ok ha hb e p => ?_
  unfold addD at e
  split at e
  · cases e; cases ha; cases hb
    exact .inl ⟨_, _, rfl, rfl, Post.flat p ok (.int _)⟩
  · split at e
    · rename_i hl
      cases e
      rename_i a b
      cases ha with | str _ h1 => cases hb with | str _ h2 =>
      refine .inr (.inl ⟨_, _, rfl, rfl, ?_, ?_⟩)
      · rw [mkS_len, mkS_len, sizeLine_eq]; exact hl
      · rw [mkS_app]
        exact Post.flat p ok (.str _ (strOk_app h1 h2 hl))
    · cases e
  · split at e
    · rename_i hl
      cases e
      obtain ⟨x, vs, rfl, h1, h2⟩ := ha
      obtain ⟨y, ws, rfl, h3, h4⟩ := hb
      refine .inr (.inr (.inl ⟨x, y, vs, ws, rfl, rfl, h1, h3, ?_, fun q hq => Post.lst p ok (pair_app h2 h4) hq⟩))
      rw [sizeLine_eq, pair_len h2, pair_len h4]; exact hl
    · cases e
  · split at e
    · rename_i hl
      cases e
      rename_i a b
      have ha' := ha
      have hb' := hb
      cases ha with | @tup x vs _ h1 h2 => cases hb with | @tup y ws _ h3 h4 =>
      have l2 := pair_len h2.pair
      have l4 := pair_len h4.pair
      refine .inr (.inr (.inr ⟨x, y, vs, ws, rfl, rfl, Same.seqT (HS.fz_same s) h1, Same.seqT (HS.fz_same s) h3, ?_, fun e => ?_, fun e e' => ?_, fun _ _ q hq => Post.tup p ok (pair_app h2.pair h4.pair) hq⟩))
      · rw [sizeLine_eq, l2, l4]; exact hl
      · subst e
        cases a with
        | nil => exact Post.flat p ok hb'
        | cons _ _ => cases l2
      · subst e'
        cases b with
        | nil => rw [List.append_nil] at p; exact Post.flat p ok ha'
        | cons _ _ => cases l4
    · cases e
  · cases e

/-! ### other arithmetic -/
def subD : D → D → Option D
  | .int i, .int j => some (.int (i - j))
  | _, _ => none
theorem jSub : OpJ X (binaryOp .Sub) (op2 subD) := by
  refine opJ2 op_sub fun W σ s a b d va vb Q ok ha hb e p => ?_
  unfold subD at e
  split at e
  · cases e; cases ha; cases hb
    exact ⟨_, _, rfl, rfl, Post.flat p ok (.int _)⟩
  · cases e
/-- together below some millions of bits -/
def mulOk (i j : Int) : Prop := i.natAbs.log2 + j.natAbs.log2 < 4000000
instance (i j : Int) : Decidable (mulOk i j) := inferInstanceAs (Decidable (_ < _))
theorem mulOk.ok {i j : Int} (h : mulOk i j) : IntMulOk i j := by
  have b : ∀ x : Int, Builtin.Int.intBits x ≤ x.natAbs.log2 + 1 := fun x => by
    unfold Builtin.Int.intBits
    split <;> omega
  have h1 := b i
  have h2 := b j
  have h3 : i.natAbs.log2 + j.natAbs.log2 < 4000000 := h
  have e : bitsLine = 134217728 := by decide
  unfold IntMulOk
  intro z
  rw [Bool.and_eq_true] at z
  have z2 := z.2
  unfold Builtin.Int.intTooBig at z2
  have z3 := of_decide_eq_true z2
  rw [e] at z3
  omega
theorem op_mulM : OpR X (binaryOp .Mult) (rI mulOk fun i j => .int (i * j)) := opI fun _ _ _ _ _ _ _ hc q => mul_int q hc.ok
theorem mulOk_of {i j : Int} (h1 : i.natAbs < 2 ^ 2000000) (h2 : j.natAbs < 2 ^ 2000000) : mulOk i j := by
  have x := PySem.Flt.log2_lt_of (by omega) h1
  have y := PySem.Flt.log2_lt_of (by omega) h2
  unfold mulOk
  omega
theorem mulOk_small {i j : Int} (h1 : -(2 ^ 64) < i) (h2 : i < 2 ^ 64) (h3 : -(2 ^ 64) < j) (h4 : j < 2 ^ 64) : mulOk i j := by
  have x := PySem.Flt.log2_lt_of (k := 64) (n := i.natAbs) (by omega) (by omega)
  have y := PySem.Flt.log2_lt_of (k := 64) (n := j.natAbs) (by omega) (by omega)
  unfold mulOk
  omega
end
end DL
namespace DL
open PySem PySem.Spec PyProof.Rows L2

/-! ### * -/
theorem foldl_arr (x : Array Nat) : ∀ (k : Nat) (acc : Array Nat), ((List.replicate k x).foldl (fun a b => a ++ b) acc) = ⟨acc.toList ++ (List.replicate k x.toList).flatten⟩
  | 0, acc => by simp
  | k + 1, acc => by
    rw [List.replicate_succ, List.foldl_cons, foldl_arr x k]
    simp [List.replicate_succ]
theorem len_rep (l : List Nat) (k : Nat) : (List.replicate k l).flatten.length = k * l.length := by
  induction k with
  | zero => simp
  | succ k ih => simp [List.replicate_succ, ih, Nat.add_mul, Nat.add_comm]
section
variable {X : Cx}
theorem op_mulS : OpR X (binaryOp .Mult) (fun x y H Q => ∃ l k, x = .str (mkS l) ∧ y = .int k ∧ -(2 ^ 63) ≤ k ∧ k < 2 ^ 63 ∧ l.length * k.toNat ≤ 16777216 ∧ Q (.str (mkS (List.replicate k.toNat l).flatten)) H) := by
  intro pins s σ H x y v u Q I rx ry h
  obtain ⟨l, k, rfl, rfl, h1, h2, hz, q⟩ := h
  obtain ⟨t, rfl⟩ := rx
  obtain ⟨t', rfl⟩ := ry
  refine PySem.P.mul_str ?_ ?_ ?_ ?_
  · rw [decide_eq_false (by omega), decide_eq_false (by omega)]; rfl
  · intro hn _
    rw [mkS_len]
    have hk : 0 < k := by omega
    have hzz : (l.length : Int) * k ≤ 16777216 := by
      have e : ((k.toNat : Nat) : Int) = k := Int.toNat_of_nonneg (by omega)
      rw [← e]; exact Int.ofNat_le.mpr hz
    intro hgt
    have := Int.lt_mul_of_ediv_lt hk hgt
    omega
  · intro hn _
    rw [mkS_len]
    unfold Builtin.Str.tooLong
    rw [sizeLine_eq]
    exact decide_eq_false (by omega)
  · split
    · rename_i hn
      have e : k.toNat = 0 := by omega
      rw [e] at q
      exact ⟨by decide, ⟨.str (mkS []), H, I.tok _, ⟨_, rfl⟩, q⟩⟩
    · rename_i hn
      split
      · rename_i hc
        have e : (List.replicate k.toNat l).flatten = l := by
          rw [mkS_len] at hc
          simp only [Bool.or_eq_true, beq_iff_eq] at hc
          rcases hc with hc | hc
          · subst hc; simp
          · have : l = [] := List.eq_nil_of_length_eq_zero hc
            subst this; simp
        rw [e] at q
        exact ⟨.str (mkS l), H, I, ⟨_, rfl⟩, q⟩
      · have e : (⟨(List.replicate k.toNat (mkS l).cps).foldl (fun a b => a ++ b) #[]⟩ : Str) = mkS (List.replicate k.toNat l).flatten := by
          rw [foldl_arr]
          simp [mkS]
        rw [e]
        refine ⟨?_, ⟨.str (mkS (List.replicate k.toNat l).flatten), H, I.tok _, ⟨_, rfl⟩, q⟩⟩
        first
          | (rw [mkS_len, len_rep, sizeLine_eq, Nat.mul_comm]; exact hz)
          | (show (mkS _).length ≤ _; rw [mkS_len, len_rep, Nat.mul_comm]; simpa using hz)
def mulD : D → D → Option D
  | .int i, .int j => if mulOk i j then some (.int (i * j)) else none
  | .str a, .int k => if -(2 ^ 63) ≤ k ∧ k < 2 ^ 63 ∧ a.length * k.toNat ≤ 16777216 then some (.str (List.replicate k.toNat a).flatten) else none
  | .lst a, .int k => if -(2 ^ 63) ≤ k ∧ k < 2 ^ 63 ∧ a.length * k.toNat ≤ 16777216 then some (.lst (List.replicate k.toNat a).flatten) else none
  | .tup a, .int k => if a ≠ [] ∧ 2 ≤ k ∧ k ≤ 1000 ∧ a.length ≤ 1000 then some (.tup (List.replicate k.toNat a).flatten) else none
  | _, _ => none
theorem strOk_rep {a : List Nat} (h : StrOk a) {k : Nat} (hz : a.length * k ≤ 16777216) : StrOk (List.replicate k a).flatten := by
  refine ⟨by rw [len_rep, sizeLine_eq, Nat.mul_comm]; exact hz, fun c hc => ?_⟩
  obtain ⟨l, hl, hcl⟩ := List.mem_flatten.mp hc
  have := List.eq_of_mem_replicate hl
  subst this
  exact h.2 c hcl
theorem jMul : OpJ X (binaryOp .Mult) (op2 mulD) := by
  refine opJ2 (op_mulM.or (op_mulS.or (op_rep.or op_repT))) fun W σ s a b d va vb Q ok ha hb e p => ?_
  unfold mulD at e
  split at e
  · split at e
    · rename_i hm
      cases e; cases ha; cases hb
      exact .inl ⟨_, _, rfl, rfl, hm, Post.flat p ok (.int _)⟩
    · cases e
  · split at e
    · rename_i hm
      cases e; cases hb
      cases ha with | str _ h1 =>
      exact .inr (.inl ⟨_, _, rfl, rfl, hm.1, hm.2.1, hm.2.2, Post.flat p ok (.str _ (strOk_rep h1 hm.2.2))⟩)
    · cases e
  · split at e
    · rename_i hm
      cases e; cases hb
      obtain ⟨x, vs, rfl, h1, h2⟩ := ha
      refine .inr (.inr (.inl ⟨x, _, vs, rfl, rfl, h1, hm.1, hm.2.1, ?_, fun q hq => Post.lst p ok (pair_flat h2 _) hq⟩))
      rw [sizeLine_eq, pair_len h2]; exact hm.2.2
    · cases e
  · split at e
    · rename_i hm
      cases e; cases hb
      cases ha with | @tup x vs _ h1 h2 =>
      have l2 := pair_len h2.pair
      refine .inr (.inr (.inr ⟨x, _, vs, rfl, rfl, Same.seqT (HS.fz_same s) h1, ?_, hm.2.1, hm.2.2.1, by rw [l2]; exact hm.2.2.2, fun q hq => Post.tup p ok (pair_flat h2.pair _) hq⟩))
      intro e
      subst e
      exact hm.1 (List.eq_nil_of_length_eq_zero l2.symm)
    · cases e
  · cases e

/-! ### // % ** - -/
def fdivD : D → D → Option D
  | .int i, .int j => if 0 < j ∧ j.natAbs.log2 < 9000 then some (.int (i / j)) else none
  | _, _ => none
def modD : D → D → Option D
  | .int i, .int j => if 0 < j then some (.int (i % j)) else none
  | _, _ => none
def powD : D → D → Option D
  | .int i, .int j => if 0 ≤ j ∧ j ≤ 1000000 ∧ i.natAbs < 2 ^ 64 then some (.int (i ^ j.toNat)) else none
  | _, _ => none
theorem jFdiv : OpJ X (binaryOp .FloorDiv) (op2 fdivD) := by
  refine opJ2 op_fdivW fun W σ s a b d va vb Q ok ha hb e p => ?_
  unfold fdivD at e
  split at e
  · split at e
    · rename_i hm
      cases e; cases ha; cases hb
      exact ⟨_, _, rfl, rfl, hm, Post.flat p ok (.int _)⟩
    · cases e
  · cases e
theorem jMod : OpJ X (binaryOp .Mod) (op2 modD) := by
  refine opJ2 op_mod fun W σ s a b d va vb Q ok ha hb e p => ?_
  unfold modD at e
  split at e
  · split at e
    · rename_i hm
      cases e; cases ha; cases hb
      exact ⟨_, _, rfl, rfl, hm, Post.flat p ok (.int _)⟩
    · cases e
  · cases e
theorem jPow : OpJ X (binaryOp .Pow) (op2 powD) := by
  refine opJ2 op_pow fun W σ s a b d va vb Q ok ha hb e p => ?_
  unfold powD at e
  split at e
  · split at e
    · rename_i hm
      cases e; cases ha; cases hb
      exact ⟨_, _, rfl, rfl, hm, Post.flat p ok (.int _)⟩
    · cases e
  · cases e

/-! ### order -/
def ordD (f : Int → Int → Bool) (g : List Nat → List Nat → Bool) : D → D → Option D
  | .int i, .int j => some (.bl (f i j))
  | .str a, .str b => some (.bl (g a b))
  | _, _ => none
def ltD : D → D → Option D := ordD (fun i j => decide (i < j)) (fun a b => decide (a < b))
def leD : D → D → Option D := ordD (fun i j => decide (i ≤ j)) (fun a b => !decide (b < a))
def gtD : D → D → Option D := ordD (fun i j => decide (j < i)) (fun a b => decide (b < a))
def geD : D → D → Option D := ordD (fun i j => decide (j ≤ i)) (fun a b => !decide (a < b))
theorem ord_run {g : Value → Value → Sem Value} {f : Int → Int → Bool} {h : List Nat → List Nat → Bool} {r : R2} (h1 : OpR X g (rI0 fun i j => .bl (f i j))) (h2 : OpR X g (fun x y H Q => ∃ i j, x = .str i ∧ y = .str j ∧ Q (.bl (h i.cps.toList j.cps.toList)) H)) : OpJ X g (op2 (ordD f h)) := by
  refine opJ2 (h1.or h2) fun W σ s a b d va vb Q ok ha hb e p => ?_
  unfold ordD at e
  split at e
  · cases e; cases ha; cases hb
    exact .inl ⟨_, _, rfl, rfl, Post.flat p ok (.bl _)⟩
  · cases e
    cases ha with | str _ _ => cases hb with | str _ _ =>
    exact .inr ⟨_, _, rfl, rfl, by rw [mkS_cps, mkS_cps]; exact Post.flat p ok (.bl _)⟩
  · cases e
theorem jLt : OpJ X (compareOp .Lt) (op2 ltD) := ord_run (r := fun _ _ _ _ => True) op_lt op_lt_str
theorem jLe : OpJ X (compareOp .LtE) (op2 leD) := ord_run (r := fun _ _ _ _ => True) op_le op_le_str
theorem jGt : OpJ X (compareOp .Gt) (op2 gtD) := ord_run (r := fun _ _ _ _ => True) op_gt op_gt_str
theorem jGe : OpJ X (compareOp .GtE) (op2 geD) := ord_run (r := fun _ _ _ _ => True) op_ge op_ge_str

/-! ### == -/
mutual
def toPy : D → PyData
  | .non => .none
  | .bl b => .bool b
  | .int i => .int i
  | .str s => .str (mkS s)
  | .tup xs => .tuple (toPys xs)
  | .lst xs => .list (toPys xs)
  | .dct _ => .none
  | .glo _ => .none
  | .scr _ => .none
  | .typ _ => .none
def toPys : List D → List PyData
  | [] => []
  | x :: xs => toPy x :: toPys xs
end
mutual
def plain : D → Bool
  | .non => true | .bl _ => true | .int _ => true | .str _ => true
  | .tup xs => plains xs
  | .lst xs => plains xs
  | .dct _ => false | .glo _ => false | .scr _ => false | .typ _ => false
def plains : List D → Bool
  | [] => true
  | x :: xs => plain x && plains xs
end
mutual
def dep : D → Nat
  | .tup xs => deps xs + 1
  | .lst xs => deps xs + 1
  | _ => 0
def deps : List D → Nat
  | [] => 0
  | x :: xs => max (dep x) (deps xs)
end
mutual
def deq : D → D → Bool
  | .non, .non => true
  | .bl a, .bl b => a == b
  | .bl a, .int j => (if a then 1 else 0) == j
  | .int i, .bl b => i == (if b then 1 else 0)
  | .int i, .int j => i == j
  | .str a, .str b => a == b
  | .tup a, .tup b => deqs a b
  | .lst a, .lst b => deqs a b
  | _, _ => false
def deqs : List D → List D → Bool
  | [], [] => true
  | a :: as, b :: bs => deq a b && deqs as bs
  | _, _ => false
end
end
theorem mkS_beq (a b : List Nat) : (mkS a == mkS b) = (a == b) := by
  rw [Bool.eq_iff_iff]
  simp [mkS]
mutual
theorem toPy_eqv : ∀ (a b : D), plain a = true → plain b = true → PyData.eqv (toPy a) (toPy b) = deq a b
  | .non, b, _, hb => by cases b <;> first | (simp only [toPy, PyData.eqv, deq]; done) | (simp [plain] at hb)
  | .bl _, b, _, hb => by cases b <;> first | (simp only [toPy, PyData.eqv, deq]; done) | (simp [plain] at hb)
  | .int _, b, _, hb => by cases b <;> first | (simp only [toPy, PyData.eqv, deq]; done) | (simp [plain] at hb)
  | .str _, b, _, hb => by cases b <;> first | (simp only [toPy, PyData.eqv, deq, mkS_beq]; done) | (simp [plain] at hb)
  | .tup xs, b, ha, hb => by
    cases b <;> first
      | (simp only [toPy, PyData.eqv, deq]; exact toPys_eqv _ _ (by simpa [plain] using ha) (by simpa [plain] using hb))
      | (simp only [toPy, PyData.eqv, deq]; done) | (simp [plain] at hb)
  | .lst xs, b, ha, hb => by
    cases b <;> first
      | (simp only [toPy, PyData.eqv, deq]; exact toPys_eqv _ _ (by simpa [plain] using ha) (by simpa [plain] using hb))
      | (simp only [toPy, PyData.eqv, deq]; done) | (simp [plain] at hb)
  | .dct _, _, ha, _ => by simp [plain] at ha
  | .glo _, _, ha, _ => by simp [plain] at ha
  | .scr _, _, ha, _ => by simp [plain] at ha
  | .typ _, _, ha, _ => by simp [plain] at ha
theorem toPys_eqv : ∀ (a b : List D), plains a = true → plains b = true → PyData.eqvAll (toPys a) (toPys b) = deqs a b
  | [], [], _, _ => by simp only [toPys, PyData.eqvAll, deqs]
  | [], _ :: _, _, _ => by simp only [toPys, PyData.eqvAll, deqs]
  | _ :: _, [], _, _ => by simp only [toPys, PyData.eqvAll, deqs]
  | x :: xs, y :: ys, ha, hb => by
    have ha' : plain x = true ∧ plains xs = true := by simpa [plains] using ha
    have hb' : plain y = true ∧ plains ys = true := by simpa [plains] using hb
    simp only [toPys, PyData.eqvAll, deqs, toPy_eqv x y ha'.1 hb'.1, toPys_eqv xs ys ha'.2 hb'.2]
end
mutual
theorem toPy_depth : ∀ a : D, (toPy a).depth ≤ dep a
  | .non => by simp [toPy, PyData.depth]
  | .bl _ => by simp [toPy, PyData.depth]
  | .int _ => by simp [toPy, PyData.depth]
  | .str _ => by simp [toPy, PyData.depth]
  | .tup xs => by have := toPys_depth xs; simp only [toPy, PyData.depth, dep]; omega
  | .lst xs => by have := toPys_depth xs; simp only [toPy, PyData.depth, dep]; omega
  | .dct _ => by simp [toPy, PyData.depth]
  | .glo _ => by simp [toPy, PyData.depth]
  | .scr _ => by simp [toPy, PyData.depth]
  | .typ _ => by simp [toPy, PyData.depth]
theorem toPys_depth : ∀ a : List D, PyData.depthAll (toPys a) ≤ deps a
  | [] => by simp [toPys, PyData.depthAll]
  | x :: xs => by
    have h1 := toPy_depth x
    have h2 := toPys_depth xs
    simp only [toPys, PyData.depthAll, deps]
    omega
end
section
variable {K : PySem.W.Frag} {mg : Str → Option Value} {H : Hp}
mutual
theorem den_dp : ∀ (d : D) (v : V), plain d = true → Den K mg H v d → Dp K H v (toPy d)
  | .non, _, _, .non => .non
  | .bl _, _, _, .bl b => .bl b
  | .int _, _, _, .int i => .int i
  | .str _, _, _, .str s _ => .str _
  | .tup ds, _, h, .tup h1 h2 => .tup h1 (dens_dp ds _ (by simpa [plain] using h) h2)
  | .lst ds, _, h, .lst h1 h2 => .lst (SqL.of h1) (dens_dp ds _ (by simpa [plain] using h) h2)
theorem dens_dp : ∀ (ds : List D) (vs : List V), plains ds = true → DenAll K mg H vs ds → DpAll K H vs (toPys ds)
  | [], _, _, .nil => .nil
  | d :: ds, _, h, .cons h1 h2 => by
    have h' : plain d = true ∧ plains ds = true := by simpa [plains] using h
    exact .cons (den_dp d _ h'.1 h1) (dens_dp ds _ h'.2 h2)
end
theorem strOk_lay {s : List Nat} (h : StrOk s) : PyData.strOk (mkS s) = true := by
  unfold PyData.strOk
  rw [Array.all_eq_true']
  intro c hc
  have : c ∈ s := by simpa [mkS] using hc
  simpa using h.2 c this
mutual
theorem den_lay : ∀ (d : D) (v : V), plain d = true → Den K mg H v d → (toPy d).canLay0 = true
  | .non, _, _, .non => by simp [toPy, PyData.canLay0]
  | .bl _, _, _, .bl b => by simp [toPy, PyData.canLay0]
  | .int _, _, _, .int i => by simp [toPy, PyData.canLay0]
  | .str _, _, _, .str s h => by simp only [toPy, PyData.canLay0]; exact strOk_lay h
  | .tup ds, _, h, .tup h1 h2 => by simp only [toPy, PyData.canLay0]; exact dens_lay ds _ (by simpa [plain] using h) h2
  | .lst ds, _, h, .lst h1 h2 => by simp only [toPy, PyData.canLay0]; exact dens_lay ds _ (by simpa [plain] using h) h2
theorem dens_lay : ∀ (ds : List D) (vs : List V), plains ds = true → DenAll K mg H vs ds → PyData.canLayAll0 (toPys ds) = true
  | [], _, _, .nil => by simp [toPys, PyData.canLayAll0]
  | d :: ds, _, h, .cons h1 h2 => by
    have h' : plain d = true ∧ plains ds = true := by simpa [plains] using h
    simp only [toPys, PyData.canLayAll0, den_lay d _ h'.1 h1, dens_lay ds _ h'.2 h2, Bool.and_self]
end
theorem denT_den {s : HS} {v : V} {d : D} (h : DenT K mg s v d) : Den K mg s.H v d := by
  cases d with
  | lst ds =>
    obtain ⟨a, vs, rfl, h1, h2⟩ := h
    exact .lst h1 (DenAll.mono (HS.fz_same s) _ _ (DenAll.of h2))
  | _ => exact Den.mono (HS.fz_same s) _ _ h
end
section
variable {X : Cx}
def rEqM (K : PySem.W.Frag) (n : Bool) : R2 := fun x y H Q => ∃ d e, Dp K H x d ∧ Dp K H y e ∧ d.canLay0 = true ∧ e.canLay0 = true ∧ min d.depth e.depth ≤ 60 ∧ Q (.bl (xor n (PyData.eqv d e))) H
theorem op_eqM (hu : X.A.units + 64 < cLine) : OpR X (compareOp .Eq) (rEqM X.K false) := by
  intro pins s σ H x y v u Q I rx ry h
  obtain ⟨d, e, hd, he, sd, se, hm, q⟩ := h
  obtain ⟨as, r1⟩ := Dp.reads I d x v hd rx
  obtain ⟨bs, r2⟩ := Dp.reads I e y u he ry
  rw [Bool.false_xor] at q
  exact SeqAt.compareEq_reads r1 r2 sd se (by omega) ⟨.bl _, H, I, rfl, q⟩
theorem op_neM (hu : X.A.units + 64 < cLine) : OpR X (compareOp .NotEq) (rEqM X.K true) := by
  intro pins s σ H x y v u Q I rx ry h
  obtain ⟨d, e, hd, he, sd, se, hm, q⟩ := h
  obtain ⟨as, r1⟩ := Dp.reads I d x v hd rx
  obtain ⟨bs, r2⟩ := Dp.reads I e y u he ry
  rw [Bool.true_xor] at q
  exact SeqAt.compareNe_reads r1 r2 sd se (by omega) ⟨.bl _, H, I, rfl, q⟩
def eqOk (a b : D) : Bool := plain a && plain b && decide (min (dep a) (dep b) ≤ 60)
def eqD (a b : D) : Option D := if eqOk a b = true then some (.bl (deq a b)) else none
def neD (a b : D) : Option D := if eqOk a b = true then some (.bl (!deq a b)) else none
theorem eq_run {n : Bool} {f : D → D → Option D} (hf : ∀ a b, f a b = if eqOk a b = true then some (.bl (xor n (deq a b))) else none) {g : Value → Value → Sem Value} (h : OpR X g (rEqM X.K n)) : OpJ X g (op2 f) := by
  refine opJ2 h fun W σ s a b d va vb Q ok ha hb e p => ?_
  rw [hf] at e
  split at e
  · rename_i hm
    cases e
    unfold eqOk at hm
    simp only [Bool.and_eq_true, decide_eq_true_eq] at hm
    have h1 := denT_den ha
    have h2 := denT_den hb
    have d1 := toPy_depth a
    have d2 := toPy_depth b
    refine ⟨toPy a, toPy b, den_dp _ _ hm.1.1 h1, den_dp _ _ hm.1.2 h2, den_lay _ _ hm.1.1 h1, den_lay _ _ hm.1.2 h2, by omega, ?_⟩
    rw [toPy_eqv _ _ hm.1.1 hm.1.2]
    exact Post.flat p ok (.bl _)
  · cases e
theorem jEq (hu : X.A.units + 64 < cLine) : OpJ X (compareOp .Eq) (op2 eqD) := eq_run (n := false) (fun a b => by unfold eqD; simp) (op_eqM hu)
theorem jNe (hu : X.A.units + 64 < cLine) : OpJ X (compareOp .NotEq) (op2 neD) := eq_run (n := true) (fun a b => by unfold neD; simp) (op_neM hu)

/-! ### is -/
def isD (neg : Bool) : D → D → Option D
  | .bl a, .bl b => some (.bl (xor neg (decide (a = b))))
  | .non, .non => some (.bl (xor neg true))
  | .glo _, .non => some (.bl (xor neg false))
  | .lst _, .non => some (.bl (xor neg false))
  | .tup _, .non => some (.bl (xor neg false))
  | .str _, .non => some (.bl (xor neg false))
  | .int _, .non => some (.bl (xor neg false))
  | .bl _, .non => some (.bl (xor neg false))
  | .scr _, .non => some (.bl (xor neg false))
  | _, _ => none
theorem is_run {n : Bool} {g : Value → Value → Sem Value} (h1 : OpR X g (fun x y H Q => y = .non ∧ Q (.bl (xor n (decide (x = .non)))) H)) (h2 : OpR X g (fun x y H Q => ∃ a b : Bool, x = .bl a ∧ y = .bl b ∧ Q (.bl (xor n (decide (a = b)))) H)) : OpJ X g (op2 (isD n)) := by
  refine opJ2 (h1.or h2) fun W σ s a b d va vb Q ok ha hb e p => ?_
  have ha := denT_den ha
  unfold isD at e
  split at e <;> first
    | (cases e; cases ha; cases hb; exact .inr ⟨_, _, rfl, rfl, Post.flat p ok (.bl _)⟩)
    | (cases e; cases hb; cases ha; exact .inl ⟨rfl, by simpa using Post.flat p ok (.bl _)⟩)
    | cases e
theorem jIs : OpJ X (compareOp .Is) (op2 (isD false)) := is_run (by simpa using op_isN) (by simpa using op_is_bl)
theorem jIsNot : OpJ X (compareOp .IsNot) (op2 (isD true)) := is_run (by simpa using op_notN) (by simpa using op_isnot_bl)
end
end DL
namespace DL
open PySem PySem.Spec PyProof.Rows L2

/-! ### truth, and, or, not, if -/
def truthD : D → Option Bool
  | .non => some false
  | .bl b => some b
  | .int i => some (i != 0)
  | .str s => some (!s.isEmpty)
  | .lst xs => some (!xs.isEmpty)
  | .tup xs => some (!xs.isEmpty)
  | _ => none
def mTruth (m : Mo SV) : Mo Bool := m.bind fun x _ L => match top L x with
  | some d => match truthD d with
    | some b => some (.ok b, L)
    | none => none
  | none => none
def gAnd (a b : Mo Bool) : Mo Bool := a.bind fun c => if c then b else Mo.ret false
def gOr (a b : Mo Bool) : Mo Bool := a.bind fun c => if c then Mo.ret true else b
def gNot (a : Mo Bool) : Mo Bool := a.bind fun c => Mo.ret (!c)
def mIf (c : Mo Bool) (a b : Mo SV) : Mo SV := c.bind fun t => if t then a else b
/-- and, or of bools, as values -/
def mAnd (a b : Mo SV) : Mo SV := (mBool a).bind fun c => if c then b else Mo.ret (.d (.bl false))
def mOr (a b : Mo SV) : Mo SV := (mBool a).bind fun c => if c then Mo.ret (.d (.bl true)) else b
def mOfB (g : Mo Bool) : Mo SV := g.bind fun c => Mo.ret (.d (.bl c))
section
variable {K : PySem.W.Frag} {mg : Str → Option Value} {s : HS}
theorem isEmpty_pair {α β : Type} {F : α → β → Prop} {l : List α} {m : List β} (h : Paired F l m) : l.isEmpty = m.isEmpty := by cases h <;> rfl
theorem den_str {H : Hp} {v : V} {l : List Nat} (h : Den K mg H v (.str l)) : v = .str (mkS l) ∧ StrOk l := by
  cases h with | str _ h => exact ⟨rfl, h⟩
theorem len_truth (l : List Nat) : (!l.isEmpty) = (((l.length : Nat) : Int) != 0) := by
  cases l with
  | nil => rfl
  | cons a r =>
    have : (((a :: r).length : Nat) : Int) ≠ 0 := by simp only [List.length_cons]; omega
    rw [show ((((a :: r).length : Nat) : Int) != 0) = true from bne_iff_ne.mpr this]; rfl
theorem truth_tru {v : V} {d : D} {b : Bool} (h : DenT K mg s v d) (e : truthD d = some b) : TruV K v s.H b := by
  have h := denT_den h
  unfold truthD at e
  split at e
  · cases e; cases h; rfl
  · cases e; cases h; rfl
  · cases e; cases h; rfl
  · cases e
    obtain ⟨rfl, hl⟩ := den_str h
    exact ⟨by rw [mkS_len]; exact hl.1, by rw [mkS_len, len_truth]⟩
  · cases e
    cases h with | lst h1 h2 =>
    exact .inl ⟨_, SqL.of h1, by rw [isEmpty_pair h2.pair]⟩
  · cases e
    cases h with | tup h1 h2 =>
    exact .inr (.inl ⟨_, h1, by rw [isEmpty_pair h2.pair]⟩)
  · cases e
end
section
variable {X : Cx} {W : WX} {a b : Expr} {rest : List Expr} {pos : Pos} {ma mb : Mo SV} {ga gb : Mo Bool}
theorem jtTruth (h : JE X W a ma) (he : ∀ whole, isTrue a X.env whole = (do let v ← whole; standAt a.pos; holding [v] (truthy v)) := by intro _; rfl) : JT X W a (mTruth ma) := by
  refine ⟨(pt_truth h.pe he).weak fun σ H Q q => ?_⟩
  obtain ⟨s, ρ, rfl, ok, vr, p⟩ := q
  refine ⟨s, ρ, rfl, ok, vr, Post.bind p fun x s1 v x1 ok1 r1 p1 => ?_⟩
  split at p1
  · rename_i d ed
    split at p1
    · rename_i b eb
      exact ⟨b, truth_tru (top_den ok1 r1 ed) eb, Post.here (Rel := RelB) p1 ok1 rfl⟩
    · exact p1.elim
  · exact p1.elim
theorem jwT (h : JW X W a ga) : JT X W a ga := ⟨h.pw.pt⟩
theorem jwAnd1 (h : JT X W a ga) : JW X W (.BoolOp .And [a] pos) ga := ⟨pw_and1 h.pt⟩
theorem jwOr1 (h : JT X W a ga) : JW X W (.BoolOp .Or [a] pos) ga := ⟨pw_or1 h.pt⟩
theorem jwAnd (ha : JT X W a ga) (hb : JW X W (.BoolOp .And (b :: rest) pos) gb) : JW X W (.BoolOp .And (a :: b :: rest) pos) (gAnd ga gb) := by
  refine ⟨(pw_and ha.pt hb.pw).weak fun σ H Q q => ?_⟩
  obtain ⟨s, ρ, rfl, ok, vr, p⟩ := q
  refine ⟨s, ρ, rfl, ok, vr, Post.bind p fun x s1 v x1 ok1 r1 p1 => ?_⟩
  obtain rfl : x = v := r1
  cases x with
  | true => exact ⟨s1, ρ, rfl, ok1, vr.ext x1, p1⟩
  | false => exact Post.here (Rel := RelB) p1 ok1 rfl
theorem jwOr (ha : JT X W a ga) (hb : JW X W (.BoolOp .Or (b :: rest) pos) gb) : JW X W (.BoolOp .Or (a :: b :: rest) pos) (gOr ga gb) := by
  refine ⟨(pw_or ha.pt hb.pw).weak fun σ H Q q => ?_⟩
  obtain ⟨s, ρ, rfl, ok, vr, p⟩ := q
  refine ⟨s, ρ, rfl, ok, vr, Post.bind p fun x s1 v x1 ok1 r1 p1 => ?_⟩
  obtain rfl : x = v := r1
  cases x with
  | true => exact Post.here (Rel := RelB) p1 ok1 rfl
  | false => exact ⟨s1, ρ, rfl, ok1, vr.ext x1, p1⟩
theorem jtNot (ha : JT X W a ga) : JT X W (.UnaryOp .Not a pos) (gNot ga) := by
  refine ⟨(pt_not ha.pt).weak fun σ H Q q => ?_⟩
  obtain ⟨s, ρ, rfl, ok, vr, p⟩ := q
  refine ⟨s, ρ, rfl, ok, vr, Post.bind p fun x s1 v x1 ok1 r1 p1 => ?_⟩
  obtain rfl : x = v := r1
  exact Post.here (Rel := RelB) p1 ok1 rfl
theorem jIf {c : Expr} {gc : Mo Bool} (hc : JT X W c gc) (ha : JE X W a ma) (hb : JE X W b mb) : JE X W (.IfExp c a b pos) (mIf gc ma mb) := by
  refine ⟨(pe_ifExp hc.pt ha.pe hb.pe).weak fun σ H Q q => ?_⟩
  obtain ⟨s, ρ, rfl, ok, vr, p⟩ := q
  refine ⟨s, ρ, rfl, ok, vr, Post.bind p fun x s1 v x1 ok1 r1 p1 => ?_⟩
  obtain rfl : x = v := r1
  cases x with
  | true => exact ⟨s1, ρ, rfl, ok1, vr.ext x1, p1⟩
  | false => exact ⟨s1, ρ, rfl, ok1, vr.ext x1, p1⟩
theorem jOne {op} (ha : JE X W a ma) : JE X W (.BoolOp op [a] pos) ma := ⟨pe_one ha.pe⟩
theorem mBool_bind {α : Type} {m : Mo SV} {k : Bool → Mo α} {ρ : Env'} {L : List LO} : ((mBool m).bind k) ρ L = (m.bind fun x => Mo.bind (fun _ L => match x with | .d (.bl b) => some (.ok b, L) | _ => none) k) ρ L := by
  unfold mBool Mo.bind
  rcases m ρ L with _ | ⟨_ | _, _⟩ <;> rfl
theorem jAnd (ha : JE X W a ma) (hb : JE X W (.BoolOp .And (b :: rest) pos) mb) : JE X W (.BoolOp .And (a :: b :: rest) pos) (mAnd ma mb) := by
  refine ⟨(pe_and ha.pe hb.pe).weak fun σ H Q q => ?_⟩
  obtain ⟨s, ρ, rfl, ok, vr, p⟩ := q
  unfold mAnd at p
  rw [mBool_bind] at p
  refine ⟨s, ρ, rfl, ok, vr, Post.bind p fun x s1 v x1 ok1 r1 p1 => ?_⟩
  cases x with
  | r n => exact p1.elim
  | d d =>
    cases d <;> try exact p1.elim
    rename_i b
    cases r1
    refine ⟨b, rfl, ?_⟩
    cases b with
    | true => exact ⟨s1, ρ, rfl, ok1, vr.ext x1, p1⟩
    | false => exact Post.here (Rel := RelD X.K X.mg) p1 ok1 (.bl false)
theorem jOr (ha : JE X W a ma) (hb : JE X W (.BoolOp .Or (b :: rest) pos) mb) : JE X W (.BoolOp .Or (a :: b :: rest) pos) (mOr ma mb) := by
  refine ⟨(pe_or ha.pe hb.pe).weak fun σ H Q q => ?_⟩
  obtain ⟨s, ρ, rfl, ok, vr, p⟩ := q
  unfold mOr at p
  rw [mBool_bind] at p
  refine ⟨s, ρ, rfl, ok, vr, Post.bind p fun x s1 v x1 ok1 r1 p1 => ?_⟩
  cases x with
  | r n => exact p1.elim
  | d d =>
    cases d <;> try exact p1.elim
    rename_i b
    cases r1
    refine ⟨b, rfl, ?_⟩
    cases b with
    | true => exact Post.here (Rel := RelD X.K X.mg) p1 ok1 (.bl true)
    | false => exact ⟨s1, ρ, rfl, ok1, vr.ext x1, p1⟩
def mNot (m : Mo SV) : Mo SV := mOfB (gNot (mTruth m))
theorem jNot (ha : JE X W a ma) : JE X W (.UnaryOp .Not a pos) (mNot ma) := by
  refine ⟨(pe_notT ha.pe).weak fun σ H Q q => ?_⟩
  obtain ⟨s, ρ, rfl, ok, vr, p⟩ := q
  have e : (mNot ma) ρ s.L = (ma.bind fun x _ L => match top L x with
    | some d => match truthD d with
      | some b => some (.ok (.d (.bl (!b))), L)
      | none => none
    | none => none) ρ s.L := by
    unfold mNot mOfB gNot mTruth Mo.bind Mo.ret
    rcases ma ρ s.L with _ | ⟨x | _, L1⟩ <;> try rfl
    dsimp only
    cases top L1 x with
    | none => rfl
    | some d => dsimp only; cases truthD d <;> rfl
  rw [e] at p
  refine ⟨s, ρ, rfl, ok, vr, Post.bind p fun x s1 v x1 ok1 r1 p1 => ?_⟩
  split at p1
  · rename_i d ed
    split at p1
    · rename_i b eb
      exact ⟨b, truth_tru (top_den ok1 r1 ed) eb, Post.here (Rel := RelD X.K X.mg) p1 ok1 (.bl _)⟩
    · exact p1.elim
  · exact p1.elim
end

/-! ### argument lists, displays -/
def aNil : Mo (List SV) := Mo.ret []
def aCons (m : Mo SV) (r : Mo (List SV)) : Mo (List SV) := m.bind fun x => r.bind fun xs => Mo.ret (x :: xs)
section
variable {K : PySem.W.Frag} {mg : Str → Option Value} {s s' : HS}
theorem vs_all_ext (x : Ext s s') {xs : List SV} {vs : List V} (h : Paired (VS K mg s) xs vs) : Paired (VS K mg s') xs vs := pair_imp (fun _ _ q => VS.ext x q) h
theorem pures_len : ∀ {xs : List SV} {ds : List D}, pures xs = some ds → ds.length = xs.length
  | [], _, h => by cases h; rfl
  | .d x :: r, _, h => by
    unfold pures at h
    split at h
    · rename_i ds e; cases h; simp [pures_len e]
    · cases h
  | .r _ :: _, _, h => by cases h
/-- a new live object -/
theorem live_new {lo : LO} {p : Addr} : ∀ {a : Addr}, ({ s with α := s.α ++ [p], L := s.L ++ [lo], H := s.H } : HS).live a → s.α.length = s.L.length → s.live a ∨ a = p := by
  rintro a ⟨n, o, h1, h2, h3⟩ hl
  have h1 : (s.α ++ [p])[n]? = some a := h1
  have h2 : (s.L ++ [lo])[n]? = some o := h2
  by_cases hn : n < s.α.length
  · rw [List.getElem?_append_left hn] at h1
    rw [List.getElem?_append_left (by omega)] at h2
    exact .inl ⟨n, o, h1, h2, h3⟩
  · rw [List.getElem?_append_right (by omega)] at h1
    have : n - s.α.length = 0 := by
      have := (List.getElem?_eq_some_iff.mp h1).1
      simp at this; omega
    rw [this] at h1
    simp at h1
    exact .inr h1.symm
theorem live_old {lo : LO} {p a : Addr} {H : Hp} (h : s.live a) : ({ s with α := s.α ++ [p], L := s.L ++ [lo], H := H } : HS).live a := by
  obtain ⟨n, o, h1, h2, h3⟩ := h
  refine ⟨n, o, ?_, ?_, h3⟩
  · show (s.α ++ [p])[n]? = some a
    rw [List.getElem?_append_left (List.getElem?_eq_some_iff.mp h1).1]; exact h1
  · show (s.L ++ [lo])[n]? = some o
    rw [List.getElem?_append_left (List.getElem?_eq_some_iff.mp h2).1]; exact h2
theorem ext_live (ok : s.Ok K mg) {p : Addr} {o : HO} {lo : LO} (hp : s.H p = none) : Ext s { s with α := s.α ++ [p], L := s.L ++ [lo], H := upd s.H p o } := by
  refine ⟨fun _ h => h, fun _ h => .inl h, ⟨[p], rfl⟩, fun a u _ h => ?_, fun a h => ?_, fun a h => ?_⟩
  · show upd s.H p o a = some u
    rw [upd_ne (ne_of_none h hp)]; exact h
  · rcases live_new (lo := lo) (p := p) (s := s) (a := a) (by obtain ⟨n, o', h1, h2, h3⟩ := h; exact ⟨n, o', h1, h2, h3⟩) ok.len with q | rfl
    · exact .inl q
    · exact .inr hp
  · show upd s.H p o a ≠ none
    by_cases e : a = p
    · subst e; rw [upd_same]; simp
    · rw [upd_ne e]; exact h
theorem ok_live (ok : s.Ok K mg) {p : Addr} {xs : List SV} {vs : List V} (hp : s.H p = none) (h : Paired (VS K mg s) xs vs) : ({ s with α := s.α ++ [p], L := s.L ++ [.lst xs], H := upd s.H p (.lst vs) } : HS).Ok K mg := by
  have x := ext_live (o := .lst vs) (lo := .lst xs) ok hp
  have hpa : p ∉ s.α := fun hm => by
    obtain ⟨n, hn⟩ := List.getElem?_of_mem hm
    have hl : n < s.L.length := by rw [← ok.len]; exact (List.getElem?_eq_some_iff.mp hn).1
    have := ok.obj n _ p (List.getElem?_eq_getElem hl) hn
    generalize s.L[n] = lo at this
    cases lo with
    | dead => exact this hp
    | lst _ => obtain ⟨_, e, _⟩ := this; rw [hp] at e; cases e
  refine ⟨?_, ?_, fun a ha => ?_, fun a ha => x.there a (ok.hp a ha), fun n lo a h1 h2 => ?_⟩
  · show (s.α ++ [p]).length = (s.L ++ [LO.lst xs]).length
    simp [ok.len]
  · show (s.α ++ [p]).Nodup
    rw [List.nodup_append]
    exact ⟨ok.nd, by simp, fun a ha b hb => by simp at hb; subst hb; rintro rfl; exact hpa ha⟩
  · have ha : a ∈ s.α ++ [p] := ha
    rcases List.mem_append.mp ha with ha | ha
    · exact ok.np a ha
    · simp at ha; subst ha; exact fun z => ok.hp a z hp
  · have h1 : (s.L ++ [LO.lst xs])[n]? = some lo := h1
    have h2 : (s.α ++ [p])[n]? = some a := h2
    by_cases hn : n < s.L.length
    · rw [List.getElem?_append_left hn] at h1
      rw [List.getElem?_append_left (by rw [ok.len]; exact hn)] at h2
      refine LOk.ext x (ok.obj n lo a h1 h2) fun u hu => ?_
      show upd s.H p (.lst vs) a = some u
      rw [upd_ne (ne_of_none hu hp)]; exact hu
    · rw [List.getElem?_append_right (by omega)] at h1
      rw [List.getElem?_append_right (by rw [ok.len]; omega)] at h2
      have e : n - s.L.length = 0 := by
        have := (List.getElem?_eq_some_iff.mp h1).1
        simp at this; omega
      rw [e] at h1
      rw [ok.len, e] at h2
      simp at h1 h2
      subst h1; subst h2
      exact ⟨vs, upd_same, vs_all_ext x h⟩
end
section
variable {X : Cx} {W : WX} {e : Expr} {es : List Expr} {pos : Pos} {m : Mo SV} {ms : Mo (List SV)}
theorem jaNil : JA X W [] aNil := by
  refine ⟨pa_nil.weak fun σ H Q q => ?_⟩
  obtain ⟨s, ρ, rfl, ok, vr, p⟩ := q
  exact Post.here (Rel := RelA X.K X.mg) p ok .nil
theorem jaCons (h : JE X W e m) (hs : JA X W es ms) (he : starEach (e :: es) X.env = (false, eval e X.env) :: starEach es X.env := by rfl) : JA X W (e :: es) (aCons m ms) := by
  refine ⟨(pa_cons h.pe hs.pa he).weak fun σ H Q q => ?_⟩
  obtain ⟨s, ρ, rfl, ok, vr, p⟩ := q
  refine ⟨s, ρ, rfl, ok, vr, Post.bind p fun x s1 v x1 ok1 r1 p1 => ⟨s1, ρ, rfl, ok1, vr.ext x1, Post.bind p1 fun xs s2 vs x2 ok2 r2 p2 => ?_⟩⟩
  exact Post.here (Rel := RelA X.K X.mg) p2 ok2 (.cons (VS.ext x2 r1) r2)
def mkTup (xs : List SV) : Mo SV := fun _ L => match pures xs with
  | some ds => if ds.length ≤ 16777216 then some (.ok (.d (.tup ds)), L) else none
  | none => none
def mkLst (xs : List SV) : Mo SV := fun _ L => match pures xs with
  | some ds => if ds.length ≤ 16777216 then some (.ok (.d (.lst ds)), L) else none
  | none => none
def mkLive (xs : List SV) : Mo SV := fun _ L => if xs.length ≤ 16777216 then some (.ok (.r L.length), L ++ [.lst xs]) else none
def mTup (ms : Mo (List SV)) : Mo SV := ms.bind mkTup
def mLst (ms : Mo (List SV)) : Mo SV := ms.bind mkLst
def mLive (ms : Mo (List SV)) : Mo SV := ms.bind mkLive
theorem jTup {k} (h : JA X W es ms) : JE X W (.Tuple es k pos) (mTup ms) := by
  refine ⟨(pe_tup h.pa).weak fun σ H Q q => ?_⟩
  obtain ⟨s, ρ, rfl, ok, vr, p⟩ := q
  refine ⟨s, ρ, rfl, ok, vr, Post.bind p fun xs s1 vs x1 ok1 r1 p1 => ?_⟩
  unfold mkTup at p1
  split at p1
  · rename_i ds e
    split at p1
    · rename_i hl
      exact ⟨by rw [← pair_len r1, ← pures_len e, sizeLine_eq]; exact hl, fun q hq => Post.tup p1 ok1 (pures_den e r1) hq⟩
    · exact p1.elim
  · exact p1.elim
theorem jLst (h : JA X W es ms) : JE X W (.List es pos) (mLst ms) := by
  refine ⟨(pe_lst h.pa).weak fun σ H Q q => ?_⟩
  obtain ⟨s, ρ, rfl, ok, vr, p⟩ := q
  refine ⟨s, ρ, rfl, ok, vr, Post.bind p fun xs s1 vs x1 ok1 r1 p1 => ?_⟩
  unfold mkLst at p1
  split at p1
  · rename_i ds e
    split at p1
    · rename_i hl
      exact ⟨by rw [← pair_len r1, ← pures_len e, sizeLine_eq]; exact hl, fun q hq => Post.lst p1 ok1 (pures_den e r1) hq⟩
    · exact p1.elim
  · exact p1.elim
theorem Post.live {σ : L2.St} {s : HS} {Q : VK} {xs : List SV} {vs : List V} {p : Addr} (q : Post X.K X.mg (RelD X.K X.mg) W σ s Q (some (.ok (.r s.L.length), s.L ++ [.lst xs]))) (ok : s.Ok X.K X.mg) (h : Paired (VS X.K X.mg s) xs vs) (hp : s.H p = none) :
    Q (.ref p) (upd s.H p (.lst vs)) := by
  refine q { s with α := s.α ++ [p], L := s.L ++ [.lst xs], H := upd s.H p (.lst vs) } (.ref p) rfl (ext_live ok hp) (ok_live ok hp h) ⟨p, ?_, rfl⟩
  show (s.α ++ [p])[s.L.length]? = some p
  rw [← ok.len]
  simp
theorem jLive (h : JA X W es ms) : JE X W (.List es pos) (mLive ms) := by
  refine ⟨(pe_lst h.pa).weak fun σ H Q q => ?_⟩
  obtain ⟨s, ρ, rfl, ok, vr, p⟩ := q
  refine ⟨s, ρ, rfl, ok, vr, Post.bind p fun xs s1 vs x1 ok1 r1 p1 => ?_⟩
  unfold mkLive at p1
  split at p1
  · rename_i hl
    exact ⟨by rw [← pair_len r1, sizeLine_eq]; exact hl, fun q hq => Post.live p1 ok1 r1 hq⟩
  · exact p1.elim
end

/-! ### built-in functions -/
def mCallB (f : List SV → Mo SV) (ms : Mo (List SV)) : Mo SV := ms.bind f
def CallJ (X : Cx) (g : Value) (f : List SV → Mo SV) : Prop :=
  ∃ r : List V → Hp → VK → Prop, CallR X g r ∧ ∀ (W : WX) (σ : L2.St) (ρ : Env') (s : HS) (xs : List SV) (vs : List V) (Q : VK), s.Ok X.K X.mg → Paired (VS X.K X.mg s) xs vs →
    Post X.K X.mg (RelD X.K X.mg) W σ s Q (f xs ρ s.L) → r vs s.H Q
structure GlB (X : Cx) (x : Str) (u : Value) : Prop where
  g : Gl X x
  m : X.mg x = none
  b : bootBuiltins x = some u
  n : x ≠ "__name__"
  d : (x == ("__debug__" : Str)) = false
section
variable {X : Cx} {W : WX} {e : Expr} {es : List Expr} {p pos : Pos} {ms : Mo (List SV)} {f : List SV → Mo SV} {x : Str}
theorem callB_run {r : List V → Hp → VK → Prop} (h : ∀ (W : WX) (σ : L2.St) (ρ : Env') (s : HS) (xs : List SV) (vs : List V) (Q : VK), s.Ok X.K X.mg → Paired (VS X.K X.mg s) xs vs → Post X.K X.mg (RelD X.K X.mg) W σ s Q (f xs ρ s.L) → r vs s.H Q)
    (σ : L2.St) (H : Hp) (Q : VK) (q : tM X.K X.mg (RelD X.K X.mg) W (mCallB f ms) σ H Q) : tCB r (tM X.K X.mg (RelA X.K X.mg) W ms) σ H Q := by
  obtain ⟨s, ρ, rfl, ok, vr, p⟩ := q
  exact ⟨s, ρ, rfl, ok, vr, Post.bind p fun xs s1 vs x1 ok1 r1 p1 => h W σ ρ s1 xs vs Q ok1 r1 p1⟩
theorem jCallB {id : String} (h : CallJ X (.builtin id) f) (g : GlB X x (.builtin id)) (ha : JA X W (e :: es) ms)
    (he : starEach (e :: es) X.env = (false, eval e X.env) :: starEach es X.env := by rfl) (hpl : (backTo pos (starEach es X.env)).any (·.1) = false := by rfl) : JE X W (.Call (.Name x p) (e :: es) [] pos) (mCallB f ms) := by
  obtain ⟨r, hr, hq⟩ := h
  exact ⟨(pe_callB hr g.g g.m g.b ha.pa g.n g.d he hpl).weak (callB_run hq)⟩
theorem jCallTy {T : String} (h : CallJ X (.type T) f) (g : GlB X x (.type T)) (ha : JA X W (e :: es) ms)
    (he : starEach (e :: es) X.env = (false, eval e X.env) :: starEach es X.env := by rfl) (hpl : (backTo pos (starEach es X.env)).any (·.1) = false := by rfl) : JE X W (.Call (.Name x p) (e :: es) [] pos) (mCallB f ms) := by
  obtain ⟨r, hr, hq⟩ := h
  exact ⟨(pe_callTy hr g.g g.m g.b ha.pa g.n g.d he hpl).weak (callB_run hq)⟩
/-- a built-in type's name -/
theorem jTyp {T : String} (g : GlB X x (.type T)) : JE X W (.Name x p) (mD (.typ T)) := jConst (v := .ty T) (pe_bltn g.g g.m g.b rfl g.n g.d) fun _ => .typ T
/-- a pure function of one, two arguments -/
def cb1 (g : D → Option D) : List SV → Mo SV
  | [x] => op1 g x
  | _ => fun _ _ => none
def cb2 (g : D → D → Option D) : List SV → Mo SV
  | [x, y] => op2 g x y
  | _ => fun _ _ => none
theorem cbJ1 {v : Value} {g : D → Option D} {r : List V → Hp → VK → Prop} (hr : CallR X v r) (h : ∀ (W : WX) (σ : L2.St) (s : HS) (a d : D) (va : V) (Q : VK), s.Ok X.K X.mg → DenT X.K X.mg s va a → g a = some d →
      Post X.K X.mg (RelD X.K X.mg) W σ s Q (some (.ok (.d d), s.L)) → r [va] s.H Q) : CallJ X v (cb1 g) := by
  refine ⟨r, hr, fun W σ ρ s xs vs Q ok hx p => ?_⟩
  rcases hx with _ | ⟨r1, _ | ⟨_, _⟩⟩
  · exact p.elim
  · have p : Post X.K X.mg (RelD X.K X.mg) W σ s Q (op1 g _ ρ s.L) := p
    unfold op1 at p
    split at p
    · rename_i a ea
      split at p
      · rename_i d e
        exact h W σ s a d _ Q ok (top_den ok r1 ea) e p
      · exact p.elim
    · exact p.elim
  · exact p.elim
theorem cbJ2 {v : Value} {g : D → D → Option D} {r : List V → Hp → VK → Prop} (hr : CallR X v r) (h : ∀ (W : WX) (σ : L2.St) (s : HS) (a b d : D) (va vb : V) (Q : VK), s.Ok X.K X.mg → DenT X.K X.mg s va a → DenT X.K X.mg s vb b → g a b = some d →
      Post X.K X.mg (RelD X.K X.mg) W σ s Q (some (.ok (.d d), s.L)) → r [va, vb] s.H Q) : CallJ X v (cb2 g) := by
  refine ⟨r, hr, fun W σ ρ s xs vs Q ok hx p => ?_⟩
  rcases hx with _ | ⟨r1, _ | ⟨r2, _ | ⟨_, _⟩⟩⟩
  · exact p.elim
  · exact p.elim
  · have p : Post X.K X.mg (RelD X.K X.mg) W σ s Q (op2 g _ _ ρ s.L) := p
    unfold op2 at p
    split at p
    · rename_i a b ea eb
      split at p
      · rename_i d e
        exact h W σ s a b d _ _ Q ok (top_den ok r1 ea) (top_den ok r2 eb) e p
      · exact p.elim
    · exact p.elim
  · exact p.elim
/-! the functions -/
def lenD : D → Option D
  | .str s => some (.int s.length)
  | .lst xs => some (.int xs.length)
  | .tup xs => some (.int xs.length)
  | .scr xs => some (.int xs.length)
  | _ => none
theorem jLen : CallJ X (.builtin "len") (cb1 lenD) := by
  refine cbJ1 call_len fun W σ s a d va Q ok ha e p => ?_
  have hd := denT_den ha
  unfold lenD at e
  split at e
  · cases e
    cases hd with | str l hl =>
    exact ⟨_, _, rfl, ⟨by rw [mkS_len]; exact hl.1, rfl⟩, by rw [mkS_len]; exact Post.flat p ok (.int _)⟩
  · cases e
    cases hd with | @lst y vs _ h1 h2 =>
    exact ⟨_, _, rfl, .inl ⟨_, SqL.of h1, rfl⟩, by rw [pair_len h2.pair]; exact Post.flat p ok (.int _)⟩
  · cases e
    cases hd with | @tup y vs _ h1 h2 =>
    exact ⟨_, _, rfl, .inr ⟨_, h1, rfl⟩, by rw [pair_len h2.pair]; exact Post.flat p ok (.int _)⟩
  · cases e
    cases hd with | scr h1 =>
    exact ⟨_, _, rfl, .inl ⟨_, h1, rfl⟩, by rw [List.length_map]; exact Post.flat p ok (.int _)⟩
  · cases e
def absD : D → Option D
  | .int i => some (.int (if i < 0 then -i else i))
  | _ => none
theorem jAbs : CallJ X (.builtin "abs") (cb1 absD) := by
  refine cbJ1 call_abs fun W σ s a d va Q ok ha e p => ?_
  unfold absD at e
  split at e
  · cases e; cases ha; exact ⟨_, rfl, Post.flat p ok (.int _)⟩
  · cases e
def intD : D → Option D
  | .int i => some (.int i)
  | .bl b => some (.int (if b then 1 else 0))
  | _ => none
theorem jIntOf : CallJ X (.type "int") (cb1 intD) := by
  refine cbJ1 call_int1 fun W σ s a d va Q ok ha e p => ?_
  unfold intD at e
  split at e
  · cases e; cases ha; exact .inl ⟨_, rfl, Post.flat p ok (.int _)⟩
  · cases e; cases ha; exact .inr ⟨_, rfl, Post.flat p ok (.int _)⟩
  · cases e
def min2D : D → D → Option D
  | .int i, .int j => some (.int (if j < i then j else i))
  | _, _ => none
def max2D : D → D → Option D
  | .int i, .int j => some (.int (if j > i then j else i))
  | _, _ => none
theorem jMin2 (hc : X.calm = true) : CallJ X (.builtin "min") (cb2 min2D) := by
  refine cbJ2 (call_min2 hc) fun W σ s a b d va vb Q ok ha hb e p => ?_
  unfold min2D at e
  split at e
  · cases e; cases ha; cases hb; exact ⟨_, _, rfl, Post.flat p ok (.int _)⟩
  · cases e
theorem jMax2 (hc : X.calm = true) : CallJ X (.builtin "max") (cb2 max2D) := by
  refine cbJ2 (call_max2 hc) fun W σ s a b d va vb Q ok ha hb e p => ?_
  unfold max2D at e
  split at e
  · cases e; cases ha; cases hb; exact ⟨_, _, rfl, Post.flat p ok (.int _)⟩
  · cases e
theorem pair_ints {K : PySem.W.Frag} {mg : Str → Option Value} {H : Hp} : ∀ ns : List Int, Paired (Den K mg H) (ns.map V.int) (ns.map D.int)
  | [] => .nil
  | n :: ns => .cons (.int n) (pair_ints ns)
def listD : D → Option D
  | .lst xs => some (.lst xs)
  | .tup xs => some (.lst xs)
  | .scr ns => some (.lst (ns.map .int))
  | _ => none
theorem jListOf : CallJ X (.type "list") (cb1 listD) := by
  refine cbJ1 call_list_of fun W σ s a d va Q ok ha e p => ?_
  unfold listD at e
  split at e
  · cases e
    obtain ⟨y, vs, rfl, h1, h2⟩ := ha
    exact ⟨_, _, rfl, .inl (SqL.of h1), fun q hq => Post.lst p ok h2 hq⟩
  · cases e
    cases ha with | @tup y vs _ h1 h2 =>
    exact ⟨_, _, rfl, .inr (Same.seqT (HS.fz_same s) h1), fun q hq => Post.lst p ok h2.pair hq⟩
  · cases e
    cases ha with | @scr y ns h1 =>
    exact ⟨_, _, rfl, .inl (Same.seq (HS.fz_same s) h1), fun q hq => Post.lst p ok (pair_ints _) hq⟩
  · cases e
def tupleD : D → Option D
  | .lst xs => some (.tup xs)
  | .tup xs => some (.tup xs)
  | _ => none
theorem jTupleOf : CallJ X (.type "tuple") (cb1 tupleD) := by
  refine cbJ1 call_tuple_of fun W σ s a d va Q ok ha e p => ?_
  unfold tupleD at e
  split at e
  · cases e
    obtain ⟨y, vs, rfl, h1, h2⟩ := ha
    exact ⟨_, _, rfl, .inl ⟨SqL.of h1, fun q hq => Post.tup p ok h2 hq⟩⟩
  · cases e
    have ha' := ha
    cases ha with | @tup y vs _ h1 h2 =>
    exact ⟨_, _, rfl, .inr ⟨Same.seqT (HS.fz_same s) h1, Post.flat p ok ha'⟩⟩
  · cases e
def tyName : D → Option String
  | .non => some "NoneType"
  | .bl _ => some "bool"
  | .int _ => some "int"
  | .str _ => some "str"
  | .lst _ => some "list"
  | .tup _ => some "tuple"
  | _ => none
def isinstD : D → D → Option D
  | x, .typ T => match tyName x with
    | some t => if T = "int" then some (.bl (t = "int" || t = "bool")) else if T = "bool" ∨ T = "str" ∨ T = "tuple" ∨ T = "list" then some (.bl (t = T)) else none
    | none => none
  | _, _ => none
theorem kit_all {K : PySem.W.Frag} {t T : String} {b : Bool} {x : D} (hx : tyName x = some t) (h : (if T = "int" then some (decide (t = "int") || decide (t = "bool")) else if T = "bool" ∨ T = "str" ∨ T = "tuple" ∨ T = "list" then some (decide (t = T)) else none) = some b) : PySem.W.kitOne K (.type t) (.type T) = some b := by
  have ht : t = "NoneType" ∨ t = "bool" ∨ t = "int" ∨ t = "str" ∨ t = "list" ∨ t = "tuple" := by
    cases x <;> simp [tyName] at hx <;> subst hx <;> simp
  have hT : T = "int" ∨ T = "bool" ∨ T = "str" ∨ T = "tuple" ∨ T = "list" := by
    by_cases e : T = "int"
    · exact .inl e
    · rw [if_neg e] at h
      by_cases e2 : T = "bool" ∨ T = "str" ∨ T = "tuple" ∨ T = "list"
      · exact .inr e2
      · rw [if_neg e2] at h; cases h
  rcases hT with rfl | rfl | rfl | rfl | rfl <;> rcases ht with rfl | rfl | rfl | rfl | rfl | rfl <;> (simp at h; subst h; exact kit_ty (by decide +kernel))
theorem jIsinst : CallJ X (.builtin "isinstance") (cb2 isinstD) := by
  refine cbJ2 call_isi fun W σ s a b d va vb Q ok ha hb e p => ?_
  have hd := denT_den ha
  unfold isinstD at e
  split at e
  · rename_i x T
    cases hb
    split at e
    · rename_i t et
      have hty : TyX X.K s.H va (.type t) := by
        cases hd <;> simp [tyName] at et <;> subst et
        · exact .base .non
        · exact .base (.bl _)
        · exact .base (.int _)
        · exact .base (.str _)
        · rename_i h1 h2
          rcases h1 with (h1 | ⟨o, h1⟩) | ⟨o, its, n, h1, h3, _⟩
          · exact .base (.tup h1)
          · exact .fTuple h1
          · exact .kTuple h1 h3
        · rename_i h1 h2; exact .base (.lst h1)
      obtain ⟨bb, hb1, hb2⟩ : ∃ bb, (if T = "int" then some (decide (t = "int") || decide (t = "bool")) else if T = "bool" ∨ T = "str" ∨ T = "tuple" ∨ T = "list" then some (decide (t = T)) else none) = some bb ∧ d = .bl bb := by
        split at e
        · rename_i h1; cases e; exact ⟨_, by rw [if_pos h1], rfl⟩
        · rename_i h1
          split at e
          · rename_i h2; cases e; exact ⟨_, by rw [if_neg h1, if_pos h2], rfl⟩
          · cases e
      subst hb2
      exact ⟨va, .ty T, _, _, bb, rfl, .ty T, hty, kit_all et hb1, Post.flat p ok (.bl _)⟩
    · cases e
  · cases e
end
end DL
namespace DL
open PySem PySem.Spec PyProof.Rows L2

/-! ### statements -/
inductive Fl where
  | nx | bk | ct
  | rt (v : SV)
  | ex (e : Exc)
abbrev MS := Env' → List LO → Option (Fl × Env' × List LO)
section
variable (K : PySem.W.Frag) (mg : Str → Option Value)
def PostS (W : WX) (s : HS) (D : Ends) : Option (Fl × Env' × List LO) → Prop
  | none => False
  | some (.nx, ρ', L') => ∀ (s' : HS) (σ' : L2.St), s'.L = L' → Ext s s' → s'.Ok K mg → VR K mg s' ρ' σ' → D.nx σ' s'.H
  | some (.bk, ρ', L') => ∀ (s' : HS) (σ' : L2.St), s'.L = L' → Ext s s' → s'.Ok K mg → VR K mg s' ρ' σ' → D.bk σ' s'.H
  | some (.ct, ρ', L') => ∀ (s' : HS) (σ' : L2.St), s'.L = L' → Ext s s' → s'.Ok K mg → VR K mg s' ρ' σ' → D.ct σ' s'.H
  | some (.rt sv, _, L') => ∀ (s' : HS) (v : V), s'.L = L' → Ext s s' → s'.Ok K mg → VS K mg s' sv v → D.rt v s'.H
  | some (.ex e, ρ', L') => ∀ (s' : HS) (σ' : L2.St) (cls : Value) (d : Option Addr), s'.L = L' → Ext s s' → s'.Ok K mg → VR K mg s' ρ' σ' → ExAt K mg s'.H e cls d → W cls d σ' s'.H
def tMS (W : WX) (m : MS) : TS := fun D σ H => ∃ (s : HS) (ρ : Env'), s.H = H ∧ s.Ok K mg ∧ VR K mg s ρ σ ∧ PostS K mg W s D (m ρ s.L)
end
structure JS (X : Cx) (W : WX) (st : Stmt) (m : MS) : Prop where
  ps : PS X st (tMS X.K X.mg W m)
structure JSs (X : Cx) (W : WX) (st : List Stmt) (m : MS) : Prop where
  pss : PSs X st (tMS X.K X.mg W m)
/-- a value, then the rest -/
def eBind {α : Type} (m : Mo α) (k : α → MS) : MS := fun ρ L => match m ρ L with
  | none => none
  | some (.ex e, L1) => some (.ex e, ρ, L1)
  | some (.ok a, L1) => k a ρ L1
section
variable {K : PySem.W.Frag} {mg : Str → Option Value} {s s1 : HS} {ρ : Env'} {σ : L2.St} {W : WX} {D : Ends}
theorem PostS.ext (x : Ext s s1) {o : Option (Fl × Env' × List LO)} (h : PostS K mg W s D o) : PostS K mg W s1 D o := by
  rcases o with _ | ⟨_ | _ | _ | _ | _, ρ', L'⟩
  · exact h
  · exact fun s' σ' e x' ok r => h s' σ' e (x.trans x') ok r
  · exact fun s' σ' e x' ok r => h s' σ' e (x.trans x') ok r
  · exact fun s' σ' e x' ok r => h s' σ' e (x.trans x') ok r
  · exact fun s' v e x' ok r => h s' v e (x.trans x') ok r
  · exact fun s' σ' c d e x' ok r => h s' σ' c d e (x.trans x') ok r
theorem PostS.bind {α β : Type} {Rel : HS → α → β → Prop} {m : Mo α} {k : α → MS} {Q1 : β → Hp → Prop} (vr : VR K mg s ρ σ)
    (h : PostS K mg W s D ((eBind m k) ρ s.L)) (hk : ∀ (a : α) (s1 : HS) (b : β), Ext s s1 → s1.Ok K mg → Rel s1 a b → VR K mg s1 ρ σ → PostS K mg W s1 D (k a ρ s1.L) → Q1 b s1.H) : Post K mg Rel W σ s Q1 (m ρ s.L) := by
  unfold eBind at h
  rcases e : m ρ s.L with _ | ⟨a | _, L1⟩
  · rw [e] at h; exact h
  · rw [e] at h
    intro s1 b e1 x1 ok1 r1
    subst e1
    exact hk a s1 b x1 ok1 r1 (vr.ext x1) (PostS.ext x1 (o := k a ρ s1.L) h)
  · rw [e] at h
    exact fun s1 c d e1 x1 ok1 q => h s1 σ c d e1 x1 ok1 (vr.ext x1) q
theorem PostS.next (h : PostS K mg W s D (some (.nx, ρ, s.L))) (ok : s.Ok K mg) (r : VR K mg s ρ σ) : D.nx σ s.H := h s σ rfl (Ext.refl s) ok r
/-- what a statement leads to -/
theorem PostS.imp {D' : Ends} {o : Option (Fl × Env' × List LO)} (h : PostS K mg W s D o) (hn : ∀ σ H, D.nx σ H → D'.nx σ H) (hr : ∀ v H, D.rt v H → D'.rt v H) (hb : ∀ σ H, D.bk σ H → D'.bk σ H) (hc : ∀ σ H, D.ct σ H → D'.ct σ H) : PostS K mg W s D' o := by
  rcases o with _ | ⟨_ | _ | _ | _ | _, ρ', L'⟩
  · exact h
  · exact fun s' σ' e x' ok r => hn _ _ (h s' σ' e x' ok r)
  · exact fun s' σ' e x' ok r => hb _ _ (h s' σ' e x' ok r)
  · exact fun s' σ' e x' ok r => hc _ _ (h s' σ' e x' ok r)
  · exact fun s' v e x' ok r => hr _ _ (h s' v e x' ok r)
  · exact h
end

/-! blocks -/
def sNil : MS := fun ρ L => some (.nx, ρ, L)
def sCons (a b : MS) : MS := fun ρ L => match a ρ L with
  | some (.nx, ρ1, L1) => b ρ1 L1
  | r => r
def sExpr (m : Mo SV) : MS := eBind m fun _ => sNil
def sRet (m : Mo SV) : MS := eBind m fun x ρ L => some (.rt x, ρ, L)
def sIf (g : Mo Bool) (a b : MS) : MS := eBind g fun c => if c then a else b
section
variable {X : Cx} {W : WX} {st : Stmt} {rest : List Stmt} {a b : MS} {e : Expr} {m : Mo SV} {pos : Pos}
theorem jsNil : JSs X W [] sNil := by
  refine ⟨pss_nil.weak fun D σ H q => ?_⟩
  obtain ⟨s, ρ, rfl, ok, vr, p⟩ := q
  exact PostS.next p ok vr
theorem jsCons (h1 : JS X W st a) (h2 : JSs X W rest b) : JSs X W (st :: rest) (sCons a b) := by
  refine ⟨(pss_cons h1.ps h2.pss).weak fun D σ H q => ?_⟩
  obtain ⟨s, ρ, rfl, ok, vr, p⟩ := q
  refine ⟨s, ρ, rfl, ok, vr, ?_⟩
  unfold sCons at p
  rcases ea : a ρ s.L with _ | ⟨_ | _ | _ | _ | _, ρ', L'⟩ <;> rw [ea] at p
  · exact p
  · intro s1 σ1 e1 x1 ok1 r1
    subst e1
    exact ⟨s1, ρ', rfl, ok1, r1, PostS.ext x1 (o := b ρ' s1.L) p⟩
  · exact p
  · exact p
  · exact p
  · exact p
theorem jsOne (h1 : JS X W st a) : JSs X W [st] a := by
  refine ⟨(pss_one h1.ps).weak fun D σ H q => q⟩
theorem jExprS (h : JE X W e m) (hs : swapsWith e none pos.line X.env = pure false := by rfl) : JS X W (.Expr e pos) (sExpr m) := by
  refine ⟨(ps_expr h.pe hs).weak fun D σ H q => ?_⟩
  obtain ⟨s, ρ, rfl, ok, vr, p⟩ := q
  exact ⟨s, ρ, rfl, ok, vr, PostS.bind vr p fun x s1 v x1 ok1 r1 vr1 p1 => PostS.next p1 ok1 vr1⟩
theorem jRet (h : JE X W e m) : JS X W (.Return (some e) pos) (sRet m) := by
  refine ⟨(ps_ret h.pe).weak fun D σ H q => ?_⟩
  obtain ⟨s, ρ, rfl, ok, vr, p⟩ := q
  exact ⟨s, ρ, rfl, ok, vr, PostS.bind vr p fun x s1 v x1 ok1 r1 vr1 p1 => p1 s1 v rfl (Ext.refl s1) ok1 r1⟩
theorem jIfS {c : Expr} {g : Mo Bool} {sa sb : List Stmt} (hc : JT X W c g) (ha : JSs X W sa a) (hb : JSs X W sb b) : JS X W (.If c sa sb pos) (sIf g a b) := by
  refine ⟨(ps_if hc.pt ha.pss hb.pss).weak fun D σ H q => ?_⟩
  obtain ⟨s, ρ, rfl, ok, vr, p⟩ := q
  refine ⟨s, ρ, rfl, ok, vr, PostS.bind vr p fun x s1 v x1 ok1 r1 vr1 p1 => ?_⟩
  obtain rfl : x = v := r1
  cases x with
  | true => exact ⟨s1, ρ, rfl, ok1, vr1, p1⟩
  | false => exact ⟨s1, ρ, rfl, ok1, vr1, p1⟩
def sBreak : MS := fun ρ L => some (.bk, ρ, L)
def sCont : MS := fun ρ L => some (.ct, ρ, L)
theorem jBreak : JS X W (.Break pos) sBreak := by
  refine ⟨ps_break.weak fun D σ H q => ?_⟩
  obtain ⟨s, ρ, rfl, ok, vr, p⟩ := q
  exact p s σ rfl (Ext.refl s) ok vr
theorem jCont : JS X W (.Continue pos) sCont := by
  refine ⟨ps_continue.weak fun D σ H q => ?_⟩
  obtain ⟨s, ρ, rfl, ok, vr, p⟩ := q
  exact p s σ rfl (Ext.refl s) ok vr
theorem jPass : JS X W (.Pass pos) sNil := by
  refine ⟨ps_pass.weak fun D σ H q => ?_⟩
  obtain ⟨s, ρ, rfl, ok, vr, p⟩ := q
  exact PostS.next p ok vr
end

/-! ### targets -/
abbrev MG := SV → Env' → List LO → Option (Env' × List LO)
/-- the slots but these are as they were (none: whatever they are) -/
def Rw (vs : Option (List Nat)) (σ σ' : L2.St) : Prop := match vs with
  | none => True
  | some l => wipe σ' l = wipe σ l
theorem Rw.refl (vs : Option (List Nat)) (σ : L2.St) : Rw vs σ σ := by cases vs <;> simp [Rw]
theorem Rw.trans {vs : Option (List Nat)} {σ σ' σ'' : L2.St} (a : Rw vs σ σ') (b : Rw vs σ' σ'') : Rw vs σ σ'' := by
  cases vs with
  | none => trivial
  | some l => exact Eq.trans b a
theorem wipe_set {i : Nat} {x : Option V} {σ : L2.St} : ∀ {l : List Nat}, i ∈ l → wipe (σ.set i x) l = wipe σ l
  | [], h => by cases h
  | v :: l, h => by
    unfold wipe
    by_cases e : i ∈ l
    · rw [wipe_set e]
    · have hv : v = i := by
        rcases List.mem_cons.mp h with z | z
        · exact z.symm
        · exact absurd z e
      subst hv
      have key : ∀ (l : List Nat), wipe (σ.set v x) l = (wipe σ l).set v ((wipe (σ.set v x) l)[v]?.getD none) := by
        intro l
        induction l with
        | nil =>
          unfold wipe
          by_cases hl : v < σ.length
          · rw [List.getElem?_set_self hl]; rfl
          · rw [List.set_eq_of_length_le (by omega), List.set_eq_of_length_le (by omega)]
        | cons u l ih =>
          unfold wipe
          by_cases hu : u = v
          · subst hu
            rw [ih]
            simp only [List.set_set]
            by_cases hl : u < (wipe σ l).length
            · rw [List.getElem?_set_self (by simpa using hl)]; rfl
            · rw [List.set_eq_of_length_le (by omega), List.set_eq_of_length_le (by omega)]
          · rw [List.getElem?_set_ne hu, List.set_comm _ _ hu, ← ih]
      rw [key l, List.set_set]
theorem Rw.set {vs : Option (List Nat)} {i : Nat} {x : Option V} {σ : L2.St} (h : ∀ l, vs = some l → i ∈ l) : Rw vs σ (σ.set i x) := by
  cases vs with
  | none => trivial
  | some l => exact wipe_set (h l rfl)
def tMG (K : PySem.W.Frag) (mg : Str → Option Value) (rs : Option (List Nat)) (g : MG) : TG := fun v σ H Q => ∃ (s : HS) (ρ : Env') (sv : SV), s.H = H ∧ s.Ok K mg ∧ VR K mg s ρ σ ∧ VS K mg s sv v ∧
  match g sv ρ s.L with
  | none => False
  | some (ρ', L') => ∀ (s' : HS) (σ' : L2.St), s'.L = L' → Ext s s' → s'.Ok K mg → VR K mg s' ρ' σ' → Rw rs σ σ' → Q σ' s'.H
def tMGs (K : PySem.W.Frag) (mg : Str → Option Value) (rs : Option (List Nat)) (g : List SV → Env' → List LO → Option (Env' × List LO)) : TGs := fun vs σ H Q => ∃ (s : HS) (ρ : Env') (svs : List SV), s.H = H ∧ s.Ok K mg ∧ VR K mg s ρ σ ∧ Paired (VS K mg s) svs vs ∧
  match g svs ρ s.L with
  | none => False
  | some (ρ', L') => ∀ (s' : HS) (σ' : L2.St), s'.L = L' → Ext s s' → s'.Ok K mg → VR K mg s' ρ' σ' → Rw rs σ σ' → Q σ' s'.H
structure JG (X : Cx) (rs : Option (List Nat)) (tg : Expr) (g : MG) : Prop where
  pg : PG X tg (tMG X.K X.mg rs g)
structure JGs (X : Cx) (rs : Option (List Nat)) (tgs : List Expr) (g : List SV → Env' → List LO → Option (Env' × List LO)) : Prop where
  pgs : PGs X tgs (tMGs X.K X.mg rs g)
/-- a slot that is stored -/
structure Lc (X : Cx) (i : Nat) (x : Str) : Prop where
  nd : X.N.Nodup
  n : X.N[i]? = some x
  l : Loc X.env.scope x
  f : X.fn x = true ∨ X.env.scope.names.lookup x = some .local
def gVar (i : Nat) : MG := fun v ρ L => some (ρ.set i (some v), L)
def gsNil : List SV → Env' → List LO → Option (Env' × List LO) := fun vs ρ L => match vs with
  | [] => some (ρ, L)
  | _ => none
def gsCons (g : MG) (gs : List SV → Env' → List LO → Option (Env' × List LO)) : List SV → Env' → List LO → Option (Env' × List LO) := fun vs ρ L => match vs with
  | v :: r => match g v ρ L with
    | some (ρ1, L1) => gs r ρ1 L1
    | none => none
  | [] => none
/-- a, b, .. = a tuple -/
def gTupD (n : Nat) (gs : List SV → Env' → List LO → Option (Env' × List LO)) : MG := fun v ρ L => match v with
  | .d (.tup xs) => if xs.length = n then gs (xs.map .d) ρ L else none
  | _ => none
section
variable {X : Cx} {W : WX} {rs : Option (List Nat)} {tg : Expr} {tgs : List Expr} {g : MG} {gs : List SV → Env' → List LO → Option (Env' × List LO)} {pos : Pos}
theorem PG.weak {t t' : TG} (h : PG X tg t) (w : ∀ v σ H Q, t' v σ H Q → t v σ H Q) : PG X tg t' := ⟨fun pins s σ H v u Q I r q => h.run pins s σ H v u Q I r (w v σ H Q q)⟩
theorem PGs.weak {t t' : TGs} (h : PGs X tgs t) (w : ∀ v σ H Q, t' v σ H Q → t v σ H Q) : PGs X tgs t' := ⟨fun pins s σ H v u Q I r q => h.run pins s σ H v u Q I r (w v σ H Q q)⟩
theorem jgVar {i : Nat} {x : Str} (h : Lc X i x) (hr : ∀ l, rs = some l → i ∈ l) : JG X rs (.Name x pos) (gVar i) := by
  refine ⟨PG.weak (pg_name h.nd h.n h.l h.f) fun v σ H Q q => ?_⟩
  obtain ⟨s, ρ, sv, rfl, ok, vr, r, p⟩ := q
  exact p s _ rfl (Ext.refl s) ok (vr.set r) (Rw.set hr)
theorem jgsNil : JGs X rs [] gsNil := by
  refine ⟨PGs.weak pgs_nil fun v σ H Q q => ?_⟩
  obtain ⟨s, ρ, svs, rfl, ok, vr, r, p⟩ := q
  cases r with
  | nil => exact ⟨rfl, p s σ rfl (Ext.refl s) ok vr (Rw.refl _ _)⟩
  | cons _ _ => exact p.elim
theorem jgsCons (h : JG X rs tg g) (hs : JGs X rs tgs gs) (he : (assignEach (tg :: tgs) X.env).map (·.2) = assign tg X.env :: (assignEach tgs X.env).map (·.2) := by rfl) : JGs X rs (tg :: tgs) (gsCons g gs) := by
  refine ⟨PGs.weak (pgs_cons h.pg hs.pgs he) fun v σ H Q q => ?_⟩
  obtain ⟨s, ρ, svs, rfl, ok, vr, r, p⟩ := q
  cases r with
  | nil => exact p.elim
  | cons r1 r2 =>
    refine ⟨_, _, rfl, s, ρ, _, rfl, ok, vr, r1, ?_⟩
    unfold gsCons at p
    dsimp only at p
    rcases e : g _ ρ s.L with _ | ⟨ρ1, L1⟩ <;> rw [e] at p
    · exact p.elim
    · dsimp only at p ⊢
      intro s1 σ1 e1 x1 ok1 vr1 w1
      subst e1
      refine ⟨s1, ρ1, _, rfl, ok1, vr1, vs_all_ext x1 r2, ?_⟩
      rcases e2 : gs _ ρ1 s1.L with _ | ⟨ρ2, L2⟩ <;> rw [e2] at p
      · exact p.elim
      · exact fun s2 σ2 e3 x2 ok2 vr2 w2 => p s2 σ2 e3 (x1.trans x2) ok2 vr2 (w1.trans w2)
theorem vs_of_den {K : PySem.W.Frag} {mg : Str → Option Value} {s : HS} : ∀ {vs : List V} {ds : List D}, DenAll K mg s.fz vs ds → Paired (VS K mg s) (ds.map SV.d) vs
  | _, _, .nil => .nil
  | _, _, .cons a b => .cons a (vs_of_den b)
theorem jgTup {k : Nat} {n : Nat} (hc : X.calm = true) (hs : JGs X rs tgs gs) (hn : (assignEach tgs X.env).length = n := by rfl) (hst : (assignEach tgs X.env).findIdx? (·.1) = none := by rfl) : JG X rs (.Tuple tgs k pos) (gTupD n gs) := by
  refine ⟨PG.weak (pg_tup hc hs.pgs hn hst) fun v σ H Q q => ?_⟩
  obtain ⟨s, ρ, sv, rfl, ok, vr, r, p⟩ := q
  unfold gTupD at p
  split at p
  · exact p.elim
  · rename_i ρ' L' e
    split at e
    · rename_i xs
      split at e
      · rename_i hl
        cases r with | @tup a vs _ h1 h2 =>
        refine ⟨a, vs, rfl, Same.seqT (HS.fz_same s) h1, by rw [pair_len h2.pair]; exact hl, s, ρ, xs.map .d, rfl, ok, vr, vs_of_den h2, ?_⟩
        rw [e]
        exact p
      · cases e
    · cases e
def sAsg (m : Mo SV) (g : MG) : MS := eBind m fun v ρ L => match g v ρ L with
  | some (ρ', L') => some (.nx, ρ', L')
  | none => none
theorem asg_run {m : Mo SV} {g : MG} {D : Ends} {σ : L2.St} {H : Hp} (q : tMS X.K X.mg W (sAsg m g) D σ H) : tM X.K X.mg (RelD X.K X.mg) W m σ H (fun x H1 => tMG X.K X.mg none g x σ H1 D.nx) := by
  obtain ⟨s, ρ, rfl, ok, vr, p⟩ := q
  refine ⟨s, ρ, rfl, ok, vr, PostS.bind vr p fun x s1 v x1 ok1 r1 vr1 p1 => ⟨s1, ρ, x, rfl, ok1, vr1, r1, ?_⟩⟩
  cases e : g x ρ s1.L with
  | none => rw [e] at p1; exact p1
  | some y =>
    rw [e] at p1
    exact fun s2 σ2 e2 x2 ok2 vr2 _ => p1 s2 σ2 e2 x2 ok2 vr2
theorem jAsg {e : Expr} {m : Mo SV} (h : JE X W e m) (hg : JG X none tg g) (hs : swapsWithSole [tg] e pos.line X.env = pure false := by rfl) (hw : swappedStores [tg] e X.env = pure none := by rfl)
    (h1 : (assignEach [tg] X.env).map (·.2) = [assign tg X.env] := by rfl) : JS X W (.Assign [tg] e pos) (sAsg m g) :=
  ⟨(ps_asg h.pe hg.pg hs hw h1).weak fun _ _ _ q => asg_run q⟩
theorem jSet {i : Nat} {x : Str} {e : Expr} {m : Mo SV} {pos' : Pos} (hl : Lc X i x) (h : JE X W e m) (hs : swapsWith e (some (.Name x pos')) pos.line X.env = pure false := by rfl) : JS X W (.Assign [.Name x pos'] e pos) (sAsg m (gVar i)) := by
  refine ⟨(ps_set hl.nd hl.n hl.l h.pe hs hl.f).weak fun D σ H q => ?_⟩
  obtain ⟨s, ρ, rfl, ok, vr, p⟩ := q
  exact ⟨s, ρ, rfl, ok, vr, PostS.bind vr p fun x s1 v x1 ok1 r1 vr1 p1 => p1 s1 _ rfl (Ext.refl s1) ok1 (vr1.set r1)⟩
end

/-! ### for -/
structure Items where
  src : Option Nat
  items : List SV
def Items.ok (it : Items) (L : List LO) : Prop := match it.src with
  | none => True
  | some n => L[n]? = some (.lst it.items)
/-- the iterator yields these -/
def Walks (K : PySem.W.Frag) (mg : Str → Option Value) (J : It) (s : HS) (it : Items) : Prop :=
  ∀ t : HS, Ext s t → t.Ok K mg → it.ok t.L → ∀ i : Nat, (it.items.length ≤ i → J.stop i t.H) ∧
    ∀ sv, it.items[i]? = some sv → J.go i t.H ∧ ∀ x H', J.yld i t.H x H' → ∃ t' : HS, t'.H = H' ∧ t'.L = t.L ∧ Ext t t' ∧ t'.Ok K mg ∧ VS K mg t' sv x
def PostI (K : PySem.W.Frag) (mg : Str → Option Value) (W : WX) (σ : L2.St) (s : HS) (R : It → Hp → Prop) : Option (RR Items × List LO) → Prop
  | none => False
  | some (.ok it, L') => ∀ (s' : HS) (J : It), s'.L = L' → Ext s s' → s'.Ok K mg → Walks K mg J s' it → R J s'.H
  | some (.ex e, L') => ∀ (s' : HS) (cls : Value) (d : Option Addr), s'.L = L' → Ext s s' → s'.Ok K mg → ExAt K mg s'.H e cls d → W cls d σ s'.H
def tMI (K : PySem.W.Frag) (mg : Str → Option Value) (W : WX) (m : Mo Items) : TI := fun σ H R => ∃ (s : HS) (ρ : Env'), s.H = H ∧ s.Ok K mg ∧ VR K mg s ρ σ ∧ PostI K mg W σ s R (m ρ s.L)
structure JI (X : Cx) (W : WX) (tg iter : Expr) (m : Mo Items) : Prop where
  pi : PI X tg iter (tMI X.K X.mg W m)
theorem _root_.L2.PI.weak {X : Cx} {tg iter : Expr} {t t' : TI} (h : PI X tg iter t) (w : ∀ σ H R, t' σ H R → t σ H R) : PI X tg iter t' := ⟨fun pins s σ H R I q => h.run pins s σ H R I (w σ H R q)⟩
open Classical in
noncomputable def forL (it : Items) (g : MG) (b : MS) : List SV → MS
  | [], ρ, L => if it.ok L then some (.nx, ρ, L) else none
  | x :: xs, ρ, L => if it.ok L then
      match g x ρ L with
      | none => none
      | some (ρ1, L1) => match b ρ1 L1 with
        | some (.nx, ρ2, L2) => forL it g b xs ρ2 L2
        | some (.ct, ρ2, L2) => forL it g b xs ρ2 L2
        | some (.bk, ρ2, L2) => some (.nx, ρ2, L2)
        | r => r
    else none
noncomputable def sFor (m : Mo Items) (g : MG) (b : MS) : MS := eBind m fun it => forL it g b it.items
section
variable {X : Cx} {W : WX} {tg iter : Expr} {body : List Stmt} {m : Mo Items} {g : MG} {b : MS} {pos : Pos}
theorem drop_cons {α : Type} {l : List α} {i : Nat} {x : α} (h : l[i]? = some x) : l.drop i = x :: l.drop (i + 1) := by
  obtain ⟨hl, e⟩ := List.getElem?_eq_some_iff.mp h
  rw [List.drop_eq_getElem_cons hl, e]
theorem jFor (hp : PassesOwn (model X.prog X.w) X.A X.env X.xe) (hc : X.calm = true) (hi : JI X W tg iter m) (hg : JG X none tg g) (hb : JSs X W body b)
    (hs : ∀ x, foldedSetIterable iter X.env x = pure x := by intro _; rfl) : JS X W (.For tg iter body [] pos) (sFor m g b) := by
  refine ⟨(ps_for hp hc hi.pi hg.pg hb.pss hs).weak fun D σ H q => ?_⟩
  obtain ⟨s0, ρ0, rfl, ok0, vr0, p0⟩ := q
  refine ⟨s0, ρ0, rfl, ok0, vr0, ?_⟩
  unfold sFor eBind at p0
  rcases e : m ρ0 s0.L with _ | ⟨it | _, L1⟩ <;> rw [e] at p0
  · exact p0
  · intro s1 J e1 x1 ok1 wk
    subst e1
    have p1 : PostS X.K X.mg W s1 D (forL it g b it.items ρ0 s1.L) := PostS.ext x1 (o := forL it g b it.items ρ0 s1.L) p0
    refine ⟨fun i k σ H => k = it.items.length - i ∧ i ≤ it.items.length ∧ ∃ (s : HS) (ρ : Env'), Ext s1 s ∧ s.H = H ∧ s.Ok X.K X.mg ∧ VR X.K X.mg s ρ σ ∧ PostS X.K X.mg W s D (forL it g b (it.items.drop i) ρ s.L),
      ⟨it.items.length, by simp, Nat.zero_le _, s1, ρ0, Ext.refl s1, rfl, ok1, vr0.ext x1, by simpa using p1⟩, ?_⟩
    rintro i k σ H ⟨rfl, hil, s, ρ, x, rfl, ok, vr, p⟩
    by_cases hlt : i < it.items.length
    · have hx : it.items[i]? = some it.items[i] := List.getElem?_eq_getElem hlt
      rw [drop_cons hx] at p
      unfold forL at p
      split at p
      · rename_i hok
        obtain ⟨_, h2⟩ := wk s x ok hok i
        obtain ⟨go, yl⟩ := h2 _ hx
        refine .inr ⟨go, fun σ' H' => ∃ (s' : HS) (ρ' : Env'), Ext s1 s' ∧ s'.H = H' ∧ s'.Ok X.K X.mg ∧ VR X.K X.mg s' ρ' σ' ∧ PostS X.K X.mg W s' D (forL it g b (it.items.drop (i + 1)) ρ' s'.L), fun σ' H' n => ⟨it.items.length - (i + 1), by omega, rfl, hlt, n⟩, fun x' H' hy => ?_⟩
        obtain ⟨t', rfl, eL, xt, okt, vt⟩ := yl x' H' hy
        refine ⟨t', ρ, _, rfl, okt, vr.ext xt, vt, ?_⟩
        rw [eL]
        cases eg : g it.items[i] ρ s.L with
        | none => rw [eg] at p; exact p
        | some y =>
          obtain ⟨ρ1, L1'⟩ := y
          rw [eg] at p
          dsimp only at p ⊢
          intro s2 σ2 e2 x2 ok2 vr2 _
          subst e2
          refine ⟨s2, ρ1, rfl, ok2, vr2, ?_⟩
          have xx : Ext s1 s2 := x.trans (xt.trans x2)
          rcases eb : b ρ1 s2.L with _ | ⟨_ | _ | _ | _ | _, ρ2, L2⟩ <;> rw [eb] at p
          · exact p
          · exact fun s3 σ3 e3 x3 ok3 vr3 => ⟨s3, ρ2, xx.trans x3, rfl, ok3, vr3, by subst e3; exact PostS.ext ((xt.trans x2).trans x3) p⟩
          · exact fun s3 σ3 e3 x3 ok3 vr3 => p s3 σ3 e3 ((xt.trans x2).trans x3) ok3 vr3
          · exact fun s3 σ3 e3 x3 ok3 vr3 => ⟨s3, ρ2, xx.trans x3, rfl, ok3, vr3, by subst e3; exact PostS.ext ((xt.trans x2).trans x3) p⟩
          · exact fun s3 v e3 x3 ok3 r3 => p s3 v e3 ((xt.trans x2).trans x3) ok3 r3
          · exact fun s3 σ3 c d e3 x3 ok3 vr3 q => p s3 σ3 c d e3 ((xt.trans x2).trans x3) ok3 vr3 q
      · exact p.elim
    · have hil' : i = it.items.length := by omega
      subst hil'
      rw [List.drop_length] at p
      unfold forL at p
      split at p
      · rename_i hok
        exact .inl ⟨(wk s x ok hok _).1 (Nat.le_refl _), PostS.next p ok vr⟩
      · exact p.elim
  · intro s1 c d e1 x1 ok1 q
    exact p0 s1 σ c d e1 x1 ok1 (vr0.ext x1) q
end

/-! ### while -/
def whileN (c : Mo Bool) (b : MS) : Nat → MS
  | 0, _, _ => none
  | n + 1, ρ, L => match c ρ L with
    | none => none
    | some (.ex e, L1) => some (.ex e, ρ, L1)
    | some (.ok false, L1) => some (.nx, ρ, L1)
    | some (.ok true, L1) => match b ρ L1 with
      | some (.nx, ρ2, L2) => whileN c b n ρ2 L2
      | some (.ct, ρ2, L2) => whileN c b n ρ2 L2
      | some (.bk, ρ2, L2) => some (.nx, ρ2, L2)
      | r => r
theorem whileN_mono {c : Mo Bool} {b : MS} : ∀ (n : Nat) (ρ : Env') (L : List LO) (r : Fl × Env' × List LO), whileN c b n ρ L = some r → whileN c b (n + 1) ρ L = some r
  | 0, _, _, _, h => by simp [whileN] at h
  | n + 1, ρ, L, r, h => by
    rw [whileN] at h ⊢
    rcases hc : c ρ L with _ | ⟨(_ | _) | _, L1⟩ <;> rw [hc] at h <;> dsimp only at h ⊢
    · exact h
    · exact h
    · rcases hb : b ρ L1 with _ | ⟨_ | _ | _ | _ | _, ρ2, L2⟩ <;> rw [hb] at h <;> dsimp only at h ⊢
      · exact h
      · exact whileN_mono n _ _ _ h
      · exact h
      · exact whileN_mono n _ _ _ h
      · exact h
      · exact h
    · exact h
theorem whileN_le {c : Mo Bool} {b : MS} {n m : Nat} (hnm : n ≤ m) {ρ : Env'} {L : List LO} {r : Fl × Env' × List LO} (h : whileN c b n ρ L = some r) : whileN c b m ρ L = some r := by
  induction hnm with
  | refl => exact h
  | step _ ih => exact whileN_mono _ _ _ _ ih
open Classical in
noncomputable def sWhile (c : Mo Bool) (b : MS) : MS := fun ρ L => if h : ∃ n r, whileN c b n ρ L = some r then some h.choose_spec.choose else none
theorem sWhile_of {c : Mo Bool} {b : MS} {n : Nat} {ρ : Env'} {L : List LO} {r : Fl × Env' × List LO} (h : whileN c b n ρ L = some r) : sWhile c b ρ L = some r := by
  have he : ∃ n r, whileN c b n ρ L = some r := ⟨n, r, h⟩
  unfold sWhile
  rw [dif_pos he]
  have h2 := he.choose_spec.choose_spec
  have a1 := whileN_le (Nat.le_max_left n he.choose) h
  have a2 := whileN_le (Nat.le_max_right n he.choose) h2
  rw [a1] at a2
  exact a2.symm
theorem sWhile_some {c : Mo Bool} {b : MS} {ρ : Env'} {L : List LO} {r : Fl × Env' × List LO} (h : sWhile c b ρ L = some r) : ∃ n, whileN c b n ρ L = some r := by
  unfold sWhile at h
  split at h
  · rename_i he
    cases h
    exact ⟨_, he.choose_spec.choose_spec⟩
  · cases h
theorem sWhile_step {c : Mo Bool} {b : MS} {ρ ρ2 : Env'} {L L1 L2 : List LO} {f : Fl} (hc : c ρ L = some (.ok true, L1)) (hb : b ρ L1 = some (f, ρ2, L2)) (hf : f = .nx ∨ f = .ct) : sWhile c b ρ L = sWhile c b ρ2 L2 := by
  have st : ∀ n, whileN c b (n + 1) ρ L = whileN c b n ρ2 L2 := fun n => by
    rw [whileN, hc]; dsimp only; rw [hb]
    rcases hf with rfl | rfl <;> rfl
  cases e : sWhile c b ρ2 L2 with
  | some r =>
    obtain ⟨n, h⟩ := sWhile_some e
    exact sWhile_of (n := n + 1) ((st n).trans h)
  | none =>
    cases e2 : sWhile c b ρ L with
    | none => rfl
    | some r =>
      obtain ⟨n, h⟩ := sWhile_some e2
      cases n with
      | zero => simp [whileN] at h
      | succ n =>
        rw [st n] at h
        rw [sWhile_of h] at e; cases e
/-- one turn -/
theorem sWhile_eq {c : Mo Bool} {b : MS} {ρ : Env'} {L : List LO} : sWhile c b ρ L = match c ρ L with
    | none => none
    | some (.ex e, L1) => some (.ex e, ρ, L1)
    | some (.ok false, L1) => some (.nx, ρ, L1)
    | some (.ok true, L1) => match b ρ L1 with
      | some (.nx, ρ2, L2) => sWhile c b ρ2 L2
      | some (.ct, ρ2, L2) => sWhile c b ρ2 L2
      | some (.bk, ρ2, L2) => some (.nx, ρ2, L2)
      | r => r := by
  rcases hc : c ρ L with _ | ⟨(_ | _) | _, L1⟩ <;> dsimp only
  · cases e : sWhile c b ρ L with
    | none => rfl
    | some r =>
      obtain ⟨n, h⟩ := sWhile_some e
      cases n with
      | zero => simp [whileN] at h
      | succ n => rw [whileN, hc] at h; cases h
  · exact sWhile_of (n := 1) (by rw [whileN, hc])
  · rcases hb : b ρ L1 with _ | ⟨_ | _ | _ | _ | _, ρ2, L2⟩ <;> dsimp only
    · cases e : sWhile c b ρ L with
      | none => rfl
      | some r =>
        obtain ⟨n, h⟩ := sWhile_some e
        cases n with
        | zero => simp [whileN] at h
        | succ n => rw [whileN, hc] at h; dsimp only at h; rw [hb] at h; cases h
    · exact sWhile_step hc hb (.inl rfl)
    · exact sWhile_of (n := 1) (by rw [whileN, hc]; dsimp only; rw [hb])
    · exact sWhile_step hc hb (.inr rfl)
    · exact sWhile_of (n := 1) (by rw [whileN, hc]; dsimp only; rw [hb])
    · exact sWhile_of (n := 1) (by rw [whileN, hc]; dsimp only; rw [hb])
  · exact sWhile_of (n := 1) (by rw [whileN, hc])
section
variable {X : Cx} {W : WX} {c : Expr} {body : List Stmt} {g : Mo Bool} {b : MS} {pos : Pos}
theorem jWhile (hp : PassesOwn (model X.prog X.w) X.A X.env X.xe) (hc : JT X W c g) (hb : JSs X W body b) : JS X W (.While c body [] pos) (sWhile g b) := by
  refine ⟨(ps_while hp hc.pt hb.pss).weak fun D σ H q => ?_⟩
  obtain ⟨s0, ρ0, rfl, ok0, vr0, p0⟩ := q
  cases e0 : sWhile g b ρ0 s0.L with
  | none => rw [e0] at p0; exact p0.elim
  | some r =>
    rw [e0] at p0
    obtain ⟨n0, h0⟩ := sWhile_some e0
    refine ⟨fun k σ H => ∃ (s : HS) (ρ : Env'), Ext s0 s ∧ s.H = H ∧ s.Ok X.K X.mg ∧ VR X.K X.mg s ρ σ ∧ whileN g b k ρ s.L = some r, ⟨n0, s0, ρ0, Ext.refl _, rfl, ok0, vr0, h0⟩, ?_⟩
    rintro k σ H ⟨s, ρ, x, rfl, ok, vr, hk⟩
    have p : PostS X.K X.mg W s D (some r) := PostS.ext x p0
    cases k with
    | zero => simp [whileN] at hk
    | succ k =>
      refine ⟨s, ρ, rfl, ok, vr, ?_⟩
      unfold whileN at hk
      rcases ec : g ρ s.L with _ | ⟨t | _, L1⟩ <;> rw [ec] at hk
      · cases hk
      · intro s1 t' e1 x1 ok1 rt
        subst e1
        obtain rfl : t = t' := rt
        cases t with
        | false =>
          rw [if_neg (by decide)]
          cases hk
          exact p s1 σ rfl x1 ok1 (vr.ext x1)
        | true =>
          rw [if_pos rfl]
          refine ⟨fun σ' H' => ∃ (s' : HS) (ρ' : Env'), Ext s0 s' ∧ s'.H = H' ∧ s'.Ok X.K X.mg ∧ VR X.K X.mg s' ρ' σ' ∧ whileN g b k ρ' s'.L = some r, fun σ' H' n => ⟨k, Nat.lt_succ_self _, n⟩, s1, ρ, rfl, ok1, vr.ext x1, ?_⟩
          have xx := x.trans x1
          have p1 : PostS X.K X.mg W s1 D (some r) := PostS.ext x1 p
          dsimp only at hk
          rcases eb : b ρ s1.L with _ | ⟨_ | _ | _ | _ | _, ρ2, L2⟩ <;> rw [eb] at hk
          · cases hk
          · exact fun s3 σ3 e3 x3 ok3 vr3 => ⟨s3, ρ2, xx.trans x3, rfl, ok3, vr3, by subst e3; exact hk⟩
          · cases hk
            exact fun s3 σ3 e3 x3 ok3 vr3 => p1 s3 σ3 e3 x3 ok3 vr3
          · exact fun s3 σ3 e3 x3 ok3 vr3 => ⟨s3, ρ2, xx.trans x3, rfl, ok3, vr3, by subst e3; exact hk⟩
          · cases hk; exact p1
          · cases hk; exact p1
      · cases hk
        exact fun s1 c d e1 x1 ok1 q => p s1 σ c d e1 x1 ok1 (vr.ext x1) q
end
end DL
namespace DL
open PySem PySem.Spec PyProof.Rows L2

/-! ### defs -/
open Classical in
noncomputable def hid (P : List Addr) (H : Hp) : Hp := fun a => if a ∈ P then none else H a
theorem hid_some {P : List Addr} {H : Hp} {a : Addr} {o : HO} : hid P H a = some o ↔ a ∉ P ∧ H a = some o := by
  unfold hid
  split
  · rename_i h; constructor
    · intro z; cases z
    · rintro ⟨h1, _⟩; exact (h1 h).elim
  · rename_i h; exact ⟨fun z => ⟨h, z⟩, fun z => z.2⟩
theorem hid_same (P : List Addr) (H : Hp) : Same (hid P H) H := fun _ _ h => (hid_some.mp h).2
/-- what a pure def promises -/
def spP (K : PySem.W.Frag) (mg : Str → Option Value) (F : List D → Option (RR D)) (n : Nat) : Sp := fun vs H Q E => vs.length = n ∧ ∃ (P : List Addr) (ds : List D), (∀ p ∈ P, H p ≠ none) ∧ Paired (Den K mg (hid P H)) vs ds ∧
  match F ds with
  | none => False
  | some (.ok d) => ∀ (H' : Hp) (v : V), Same H H' → Den K mg (hid P H') v d → Q v H'
  | some (.ex e) => ∀ (H' : Hp) (cls : Value) (d : Option Addr), Same H H' → ExAt K mg H' e cls d → E cls d H'
/-- a pure def of the text -/
structure FnP (P : Program) (w : World) (K : PySem.W.Frag) (mg : Str → Option Value) (base : Heap) (x : Str) (k n : Nat) (F : List D → Option (RR D)) : Prop where
  ex : ∃ (f : Addr) (fd : FuncData) (ps : List Str), FnOk P w K mg base (L2.CX P w) k f fd ps (spP K mg F n) ∧ mg x = some (.ref f) ∧ PySem.W.keepIn K (.ref f) = true ∧ Binds K fd ps []
abbrev FnX (X : Cx) (x : Str) (k n : Nat) (F : List D → Option (RR D)) : Prop := FnP X.prog X.w X.K X.mg X.base x k n F
/-! the whole of a live object, as a datum -/
mutual
def frz : Nat → List LO → SV → Option D
  | _, _, .d x => some x
  | 0, _, .r _ => none
  | k + 1, L, .r n => match L[n]? with
    | some (.lst xs) => match frzs k L xs with | some ds => some (.lst ds) | none => none
    | _ => none
def frzs : Nat → List LO → List SV → Option (List D)
  | _, _, [] => some []
  | k, L, x :: xs => match frz k L x with
    | some d => match frzs k L xs with | some ds => some (d :: ds) | none => none
    | none => none
end
section
variable {K : PySem.W.Frag} {mg : Str → Option Value} {s : HS} {P : List Addr}
theorem fz_hid (hP : ∀ a ∈ P, a ∈ s.P) : Same s.fz (hid P s.H) := fun a o h => by
  obtain ⟨h1, h2, h3⟩ := HS.fz_some.mp h
  exact hid_some.mpr ⟨fun z => h2 (hP a z), h3⟩
mutual
theorem frz_den (ok : s.Ok K mg) (hP : ∀ a ∈ P, a ∈ s.P) : ∀ (k : Nat) (sv : SV) (v : V) (d : D), frz k s.L sv = some d → VS K mg s sv v → Den K mg (hid P s.H) v d
  | k, .d x, v, d, h, hv => by
    have : d = x := by
      cases k <;> (unfold frz at h; exact (Option.some.inj h).symm)
    subst this
    exact Den.mono (fz_hid hP) _ _ hv
  | 0, .r n, v, d, h, hv => by unfold frz at h; cases h
  | k + 1, .r n, v, d, h, hv => by
    obtain ⟨a, h1, rfl⟩ := hv
    unfold frz at h
    split at h
    · rename_i xs e
      split at h
      · rename_i ds e2
        cases h
        obtain ⟨vs, h2, h3⟩ := ok.obj n _ a e h1
        refine .lst (hid_some.mpr ⟨fun z => ok.np a ?_ (hP a z), h2⟩) (frzs_den ok hP k xs vs ds e2 h3)
        exact List.mem_of_getElem? h1
      · cases h
    · cases h
theorem frzs_den (ok : s.Ok K mg) (hP : ∀ a ∈ P, a ∈ s.P) : ∀ (k : Nat) (xs : List SV) (vs : List V) (ds : List D), frzs k s.L xs = some ds → Paired (VS K mg s) xs vs → DenAll K mg (hid P s.H) vs ds
  | _, [], _, _, h, .nil => by unfold frzs at h; cases h; exact .nil
  | k, x :: xs, _, _, h, .cons a b => by
    unfold frzs at h
    split at h
    · rename_i d e
      split at h
      · rename_i ds e2
        cases h
        exact .cons (frz_den ok hP k x _ d e a) (frzs_den ok hP k xs _ ds e2 b)
      · cases h
    · cases h
end
end
/-- the slots at the entry -/
def envOf (n : Nat) (ds : List D) : Env' := ds.map (fun d => some (.d d)) ++ List.replicate (n - ds.length) none
/-- a pure def, run -/
def runP (n : Nat) (m : MS) : List D → Option (RR D) := fun ds => match m (envOf n ds) [] with
  | some (.nx, _, _) => some (.ok .non)
  | some (.rt sv, _, L) => match frz 4 L sv with
    | some d => some (.ok d)
    | none => none
  | some (.ex e, _, _) => some (.ex e)
  | _ => none
theorem vr_start {K : PySem.W.Frag} {mg : Str → Option Value} {s : HS} {N : List Str} {vs : List V} {ds : List D} (h : Paired (Den K mg s.fz) vs ds) : VR K mg s (envOf N.length ds) (L2.start N vs) := by
  have hl := pair_len h
  unfold envOf L2.start
  refine ⟨by simp [hl], fun i sv hi => ?_⟩
  by_cases hlt : i < ds.length
  · rw [List.getElem?_append_left (by simpa using hlt), List.getElem?_map] at hi
    rw [List.getElem?_append_left (by simpa [hl] using hlt), List.getElem?_map]
    have hd : ds[i]? = some ds[i] := List.getElem?_eq_getElem hlt
    rw [hd] at hi
    obtain ⟨v, h1, h2⟩ := pair_get' h hd
    rw [h1]
    cases hi
    exact ⟨v, rfl, h2⟩
  · rw [List.getElem?_append_right (by simpa using hlt), List.getElem?_replicate] at hi
    split at hi <;> cases hi
section
variable {P : Program} {w : World} {K : PySem.W.Frag} {mg : Str → Option Value} {base : Heap}
/-- THE RULE for a pure def -/
theorem okP_of {x : Str} {st : Stmt} {f : Addr} {fd : FuncData} {N ps : List Str} {k : Nat} {m : MS} (F : Fun K x x st f fd) (S : FnScope N ps (defScope st))
    (hbody : ∀ (X : Cx) (W : WX), X.prog = P → X.w = w → X.K = K → X.mg = mg → X.base = base → X.N = N → X.env.scope = defScope st → X.calm = true → Takes X W → Room k X.A → PassesOwn (model X.prog X.w) X.A X.env X.xe → (X.fn = fun _ => true) →
      X.stack = X.env :: X.outer → X.env.frame = some X.env.locals → JSs X W (defBody st) m) : FnOk P w K mg base (L2.CX P w) (k + 1) f fd ps (spP K mg (runP N.length m) ps.length) := by
  refine F.okX S (fun vs H Q E h => h.1) (fun cdv A outer s H vs Q E hr h => ?_)
  obtain ⟨hlen, Pv, ds, hp, hd, h⟩ := h
  refine ⟨_, (hbody (cxOf (L2.CX P w) P w K mg base N x (defScope st) f cdv A outer s H E) (fun cls d _ H => E cls d H) rfl rfl rfl rfl rfl rfl rfl rfl (takes_of rfl rfl rfl rfl) hr (passes_of rfl) rfl rfl rfl).pss, ?_⟩
  have hlive : ∀ a, ¬ ({ P := Pv, α := [], L := [], H := H } : HS).live a := fun a ⟨n, lo, h1, _⟩ => by
    have h1 : ([] : List Addr)[n]? = some a := h1
    simp at h1
  have hfz : Same (hid Pv H) ({ P := Pv, α := [], L := [], H := H } : HS).fz := fun a o q => HS.fz_some.mpr ⟨hlive a, (hid_some.mp q).1, (hid_some.mp q).2⟩
  have ok : ({ P := Pv, α := [], L := [], H := H } : HS).Ok K mg := ⟨rfl, List.nodup_nil, fun a ha => (by cases ha), hp, fun n lo a h1 _ => by
    have h1 : ([] : List LO)[n]? = some lo := h1
    simp at h1⟩
  have same : ∀ {s' : HS}, Ext { P := Pv, α := [], L := [], H := H } s' → Same H s'.H := fun x a o q => x.keep a o (hlive a) q
  refine ⟨{ P := Pv, α := [], L := [], H := H }, envOf N.length ds, rfl, ok, vr_start (pair_imp (fun v d q => Den.mono hfz d v q) hd), ?_⟩
  unfold runP at h
  show PostS K mg _ _ _ (m (envOf N.length ds) [])
  rcases e : m (envOf N.length ds) [] with _ | ⟨_ | _ | _ | sv | ex, ρ', L'⟩ <;> rw [e] at h
  · exact h.elim
  · exact fun s' σ' e1 x1 ok1 r1 => h s'.H .non (same x1) .non
  · exact h.elim
  · exact h.elim
  · intro s' v e1 x1 ok1 r1
    subst e1
    dsimp only at h
    split at h
    · rename_i d ed
      split at ed
      · exact h.elim
      · exact h.elim
    · rename_i d ed
      split at ed
      · rename_i d' ef
        cases ed
        exact h s'.H v (same x1) (frz_den ok1 (fun a ha => x1.P a ha) 4 sv v _ ef r1)
      · cases ed
    · rename_i e' ed
      split at ed <;> cases ed
  · exact fun s' σ' cls d e1 x1 ok1 r1 q => h s'.H cls d (same x1) q
theorem fnP_of {x : Str} {st : Stmt} {f : Addr} {fd : FuncData} {N ps : List Str} {k : Nat} {m : MS} (F : Fun K x x st f fd) (S : FnScope N ps (defScope st)) (hm : mg x = some (.ref f)) (hb : Binds K fd ps [])
    (hbody : ∀ (X : Cx) (W : WX), X.prog = P → X.w = w → X.K = K → X.mg = mg → X.base = base → X.N = N → X.env.scope = defScope st → X.calm = true → Takes X W → Room k X.A → PassesOwn (model X.prog X.w) X.A X.env X.xe → (X.fn = fun _ => true) →
      X.stack = X.env :: X.outer → X.env.frame = some X.env.locals → JSs X W (defBody st) m) : FnP P w K mg base x (k + 1) ps.length (runP N.length m) :=
  ⟨f, fd, ps, okP_of F S hbody, hm, F.kp, hb⟩
end

/-! ### a call of a pure def -/
def flatD : D → Bool
  | .non => true | .bl _ => true | .int _ => true | .str _ => true
  | _ => false
def tops (L : List LO) : List SV → Option (List D)
  | [] => some []
  | x :: xs => match top L x with
    | some d => match tops L xs with | some ds => some (d :: ds) | none => none
    | none => none
def callP (F : List D → Option (RR D)) : List SV → Mo SV := fun xs _ L => match pures xs with
  | some ds => match F ds with
    | some (.ok d) => some (.ok (.d d), L)
    | some (.ex e) => some (.ex e, L)
    | none => none
  | none => match tops L xs with
    | some ds => match F ds with
      | some (.ok d) => if flatD d = true then some (.ok (.d d), L) else none
      | some (.ex e) => some (.ex e, L)
      | none => none
    | none => none
def mCallP (F : List D → Option (RR D)) (ms : Mo (List SV)) : Mo SV := ms.bind (callP F)
section
variable {K : PySem.W.Frag} {mg : Str → Option Value} {s : HS}
noncomputable def HS.lives (s : HS) : List Addr := s.α.filter fun a => @decide (s.live a) (Classical.propDecidable _)
theorem mem_lives {a : Addr} : a ∈ s.lives ↔ s.live a := by
  unfold HS.lives
  rw [List.mem_filter]
  constructor
  · exact fun h => by have := h.2; simpa using this
  · exact fun h => ⟨by obtain ⟨n, lo, h1, _⟩ := h; exact List.mem_of_getElem? h1, by simpa using h⟩
theorem ext_heap (ok : s.Ok K mg) {H' : Hp} (h : Same s.H H') : Ext s { s with H := H' } :=
  ⟨fun _ h => h, fun _ h => .inl h, ⟨[], by simp⟩, fun a o _ q => h a o q, fun a q => .inl q, fun a q => by
    cases e : s.H a with
    | none => exact absurd e q
    | some o => rw [show ({ s with H := H' } : HS).H a = some o from h a o e]; simp⟩
theorem ok_heap (ok : s.Ok K mg) {H' : Hp} (h : Same s.H H') : ({ s with H := H' } : HS).Ok K mg := by
  have x := ext_heap ok h
  exact ⟨ok.len, ok.nd, ok.np, fun a ha => x.there a (ok.hp a ha), fun n lo a h1 h2 => LOk.ext x (ok.obj n lo a h1 h2) fun u hu => h a u hu⟩
theorem tops_vs : ∀ {xs : List SV} {ds : List D}, tops s.L xs = some ds → ∀ {vs : List V}, Paired (VS K mg s) xs vs → s.Ok K mg → ∀ (Pv : List Addr), (∀ a, a ∈ Pv → a ∈ s.P ∨ (s.live a ∧ V.ref a ∉ vs)) → Paired (Den K mg (hid Pv s.H)) vs ds
  | [], _, h, _, .nil, _, _, _ => by cases h; exact .nil
  | x :: xs, _, h, _, .cons a b, ok, Pv, hP => by
    unfold tops at h
    split at h
    · rename_i d e
      split at h
      · rename_i ds e2
        cases h
        have hs : Same s.fz (hid Pv s.H) := fun a o q => by
          obtain ⟨h1, h2, h3⟩ := HS.fz_some.mp q
          exact hid_some.mpr ⟨fun z => (hP a z).elim h2 fun y => h1 y.1, h3⟩
        refine .cons ?_ (tops_vs e2 b ok Pv fun a ha => (hP a ha).imp id fun y => ⟨y.1, fun z => y.2 (List.mem_cons_of_mem _ z)⟩)
        cases x with
        | d x => cases e; exact Den.mono hs _ _ a
        | r n =>
          obtain ⟨p, h1, rfl⟩ := a
          unfold top at e
          dsimp only at e
          split at e
          · rename_i ys e3
            split at e
            · rename_i es e4
              cases e
              obtain ⟨ws, h2, h3⟩ := ok.obj n _ p e3 h1
              refine .lst (hid_some.mpr ⟨fun z => ?_, h2⟩) (DenAll.of (pair_imp (fun v d q => Den.mono hs d v q) (pures_den e4 h3)))
              rcases hP p z with y | y
              · exact ok.np p (List.mem_of_getElem? h1) y
              · exact y.2 List.mem_cons_self
            · cases e
          · cases e
      · cases h
    · cases h
/-- the arguments of a def that only looks at live lists: hidden are all live objects but the arguments -/
theorem dens_hid (ok : s.Ok K mg) {xs : List SV} {vs : List V} {ds : List D} (e : tops s.L xs = some ds) (h : Paired (VS K mg s) xs vs) : ∃ P, (∀ p ∈ P, s.H p ≠ none) ∧ Paired (Den K mg (hid P s.H)) vs ds := by
  refine ⟨s.P ++ s.lives.filter fun a => @decide (V.ref a ∉ vs) (Classical.propDecidable _), fun p hp => ?_, tops_vs e h ok _ fun a ha => ?_⟩
  · rcases List.mem_append.mp hp with q | q
    · exact ok.hp p q
    · exact ok.tracked (mem_lives.mp (List.mem_filter.mp q).1)
  · rcases List.mem_append.mp ha with q | q
    · exact .inl q
    · exact .inr ⟨mem_lives.mp (List.mem_filter.mp q).1, by have := (List.mem_filter.mp q).2; simpa using this⟩
theorem fz_lives : ∀ {H' : Hp}, ({ s with H := H' } : HS).fz = hid (s.P ++ s.lives) H' := fun {H'} => by
  funext a
  cases e : ({ s with H := H' } : HS).fz a with
  | some o =>
    obtain ⟨h1, h2, h3⟩ := HS.fz_some.mp e
    exact (hid_some.mpr ⟨fun z => (List.mem_append.mp z).elim h2 fun q => h1 (mem_lives.mp q), h3⟩).symm
  | none =>
    cases e2 : hid (s.P ++ s.lives) H' a with
    | none => rfl
    | some o =>
      obtain ⟨h1, h2⟩ := hid_some.mp e2
      have := HS.fz_some (s := { s with H := H' }).mpr ⟨fun z => h1 (List.mem_append_right _ (mem_lives.mpr z)), fun z => h1 (List.mem_append_left _ z), h2⟩
      rw [e] at this; cases this
theorem den_flat {H H' : Hp} {v : V} {d : D} (f : flatD d = true) (h : Den K mg H v d) : Den K mg H' v d := by
  cases h <;> first
    | exact .non
    | exact .bl _
    | exact .int _
    | (rename_i hs; exact .str _ hs)
    | cases f
end
section
variable {X : Cx} {W : WX} {e : Expr} {es : List Expr} {p pos : Pos} {ms : Mo (List SV)} {F : List D → Option (RR D)} {x : Str} {k n : Nat}
theorem callP_run {σ : L2.St} {ρ : Env'} {s : HS} {xs : List SV} {vs : List V} {Q : VK} (ok : s.Ok X.K X.mg) (hx : Paired (VS X.K X.mg s) xs vs) (hn : xs.length = n) (p : Post X.K X.mg (RelD X.K X.mg) W σ s Q (callP F xs ρ s.L)) :
    spP X.K X.mg F n vs s.H Q (fun cls d H => W cls d σ H) := by
  refine ⟨by rw [← pair_len hx]; exact hn, ?_⟩
  have fin : ∀ {e : Exc}, Post X.K X.mg (RelD X.K X.mg) W σ s Q (some (.ex e, s.L)) → ∀ (H' : Hp) (cls : Value) (d : Option Addr), Same s.H H' → ExAt X.K X.mg H' e cls d → W cls d σ H' :=
    fun {e} p H' cls d hs q => p { s with H := H' } cls d rfl (ext_heap ok hs) (ok_heap ok hs) q
  unfold callP at p
  split at p
  · rename_i ds e
    refine ⟨s.P ++ s.lives, ds, fun q hq => (List.mem_append.mp hq).elim (ok.hp q) fun z => ok.tracked (mem_lives.mp z), ?_, ?_⟩
    · have := pures_den e hx
      rw [show s.fz = hid (s.P ++ s.lives) s.H from fz_lives (s := s)] at this
      exact this
    · split at p <;> rename_i eF <;> rw [eF]
      · intro H' v hs hv
        refine p { s with H := H' } v rfl (ext_heap ok hs) (ok_heap ok hs) ?_
        show Den X.K X.mg ({ s with H := H' } : HS).fz v _
        rw [fz_lives]; exact hv
      · exact fin p
      · exact p
  · split at p
    · rename_i ds e
      obtain ⟨Pv, h1, h2⟩ := dens_hid ok e hx
      refine ⟨Pv, ds, h1, h2, ?_⟩
      split at p <;> rename_i eF <;> rw [eF]
      · split at p
        · rename_i hf
          exact fun H' v hs hv => p { s with H := H' } v rfl (ext_heap ok hs) (ok_heap ok hs) (den_flat hf hv)
        · exact p.elim
      · exact fin p
      · exact p
    · exact p.elim
theorem jCallP (h : FnX X x k n F) (hr : Room k X.A) (tk : Takes X W) (hg : Gl X x) (hdb : (x == ("__debug__" : Str)) = false) (ha : JA X W (e :: es) ms) (hn : (e :: es).length = n)
    (hl : ∀ ρ L xs L', ms ρ L = some (.ok xs, L') → xs.length = n) (he : starEach (e :: es) X.env = (false, eval e X.env) :: starEach es X.env := by rfl) (hpl : (backTo pos (starEach es X.env)).any (·.1) = false := by rfl) :
    JE X W (.Call (.Name x p) (e :: es) [] pos) (mCallP F ms) := by
  obtain ⟨f, fd, ps, hF, hm, hk, hb⟩ := h.ex
  refine ⟨(pe_callS (E := WE W) hF hr hg hm hk hb (fun σ => passAt tk σ) ha.pa hdb he hpl).weak fun σ H Q q => ?_⟩
  obtain ⟨s, ρ, rfl, ok, vr, p⟩ := q
  refine ⟨s, ρ, rfl, ok, vr, ?_⟩
  have pp := p
  unfold mCallP Mo.bind at pp
  rcases e1 : ms ρ s.L with _ | ⟨xs | ex, L1⟩ <;> rw [e1] at pp
  · exact pp
  · intro s1 vs e2 x1 ok1 r1
    subst e2
    refine callP_run (ρ := ρ) ok1 r1 (hl _ _ _ _ e1) ?_
    dsimp only at pp
    rcases e3 : callP F xs ρ s1.L with _ | ⟨_ | _, L2⟩ <;> rw [e3] at pp
    · exact pp
    · exact fun s2 b e4 x2 ok2 r2 => pp s2 b e4 (x1.trans x2) ok2 r2
    · exact fun s2 c d e4 x2 ok2 r2 => pp s2 c d e4 (x1.trans x2) ok2 r2
  · exact pp
theorem hlNil {ρ : Env'} {L L' : List LO} {xs : List SV} (h : aNil ρ L = some (.ok xs, L')) : xs.length = 0 := by
  cases h; rfl
theorem hlCons {m : Mo SV} {ms : Mo (List SV)} {n : Nat} (hs : ∀ ρ L xs L', ms ρ L = some (.ok xs, L') → xs.length = n) (ρ : Env') (L : List LO) (xs : List SV) (L' : List LO) (h : aCons m ms ρ L = some (.ok xs, L')) : xs.length = n + 1 := by
  unfold aCons Mo.bind at h
  rcases e : m ρ L with _ | ⟨a | _, L1⟩ <;> rw [e] at h
  · cases h
  · dsimp only at h
    rcases e2 : ms ρ L1 with _ | ⟨ys | _, L2⟩ <;> rw [e2] at h
    · cases h
    · cases h
      simp [hs _ _ _ _ e2]
    · cases h
  · cases h
end
end DL
namespace DL
open PySem PySem.Spec PyProof.Rows L2

/-! ### what is walked -/
def itemsD : D → Option (List D)
  | .lst xs => some xs
  | .tup xs => some xs
  | .str s => some (s.map fun c => .str [c])
  | _ => none
def itOf : SV → Mo Items := fun x _ L => match x with
  | .d d => match itemsD d with
    | some ds => some (.ok ⟨none, ds.map .d⟩, L)
    | none => none
  | .r n => match L[n]? with
    | some (.lst xs) => some (.ok ⟨some n, xs⟩, L)
    | _ => none
def mIter (m : Mo SV) : Mo Items := m.bind itOf
section
variable {X : Cx} {tg : Expr}
def iAny (K : PySem.W.Frag) (tl : TE) : TI := fun σ H R => tl σ H fun x H1 => (∃ a, x = .ref a ∧ (∃ xs, SqL K H1 a xs) ∧ R (Itl K a) H1) ∨ (∃ a, x = .ref a ∧ (∃ xs, SqT K H1 a xs) ∧ R (Itt K a) H1) ∨ ∃ z, x = .str z ∧ R (Its z) H1
theorem pi_any {l : Expr} {tl : TE} (hl : PE X l tl) : PI X tg l (iAny X.K tl) := by
  refine ⟨fun pins s σ H R I h => ?_⟩
  refine thn (hl.run pins s σ H _ I h) fun v s1 ⟨x, H1, I1, r1, q1⟩ => ?_
  rcases q1 with ⟨a, e, ⟨xs, hq⟩, q⟩ | ⟨a, e, ⟨xs, hq⟩, q⟩ | ⟨x, ex, q⟩
  · subst e
    cases r1
    obtain ⟨its, rv, p, hz⟩ := I1.list hq
    refine wpAny_pyIter_list p.isList ?_
    refine ⟨s1.heap.objs.size, [s1.heap.objs.size], _, _, H1, rfl, I1.kept (t' := s1.toks) fun b o e => Heap.get?_push_of_some _ e, turn_list a _, ⟨_, Heap.get?_push_size _ rfl, rfl, rfl⟩, fun b hb => ?_, q⟩
    have e : b = s1.heap.objs.size := by simpa using hb
    subst e
    exact I1.fpOk (Nat.le_refl _) (I1.hok.fresh (Nat.le_refl _))
  · subst e
    cases r1
    obtain ⟨its, rv, p, hz⟩ := I1.tuple hq
    refine wpAny_pyIter_tuple (show s1.heap.IsTuple a its.toArray from p) ?_
    refine ⟨s1.heap.objs.size, [s1.heap.objs.size], _, _, H1, rfl, I1.kept (t' := s1.toks) fun b o e => Heap.get?_push_of_some _ e, turn_tuple a _, ⟨_, Heap.get?_push_size _ rfl, rfl, rfl⟩, fun b hb => ?_, q⟩
    have e : b = s1.heap.objs.size := by simpa using hb
    subst e
    exact I1.fpOk (Nat.le_refl _) (I1.hok.fresh (Nat.le_refl _))
  · subst ex
    obtain ⟨t, rfl⟩ := r1
    cases ha : x.cps.all (· < 128)
    · exact wpAny_pyIter_wide ha (pi_one (tk := s1.toks) I1 _ (turn_str _ x t "str_iterator" (.inr rfl)) ⟨_, Heap.get?_push_size _ rfl, rfl, rfl⟩ q)
    · exact wpAny_pyIter_ascii ha (pi_one (tk := s1.toks) I1 _ (turn_str _ x t "str_ascii_iterator" (.inl rfl)) ⟨_, Heap.get?_push_size _ rfl, rfl, rfl⟩ q)
end
section
variable {K : PySem.W.Frag} {mg : Str → Option Value} {s : HS}
/-- a walk that lays nothing -/
theorem walks_flat {J : It} {it : Items} {xs : List V} (h : Paired (VS K mg s) it.items xs) (hj : ∀ t : HS, Ext s t → t.Ok K mg → it.ok t.L → ∀ i : Nat, (xs.length ≤ i → J.stop i t.H) ∧ ∀ v, xs[i]? = some v → J.go i t.H ∧ ∀ x H', J.yld i t.H x H' → H' = t.H ∧ x = v) : Walks K mg J s it := by
  intro t x ok hit i
  obtain ⟨h1, h2⟩ := hj t x ok hit i
  refine ⟨fun hi => h1 (by rw [← pair_len h]; exact hi), fun sv hsv => ?_⟩
  obtain ⟨v, hv, r⟩ := pair_get h hsv
  obtain ⟨g, y⟩ := h2 v hv
  refine ⟨g, fun x' H' hy => ?_⟩
  obtain ⟨rfl, rfl⟩ := y x' H' hy
  exact ⟨t, rfl, rfl, Ext.refl t, ok, VS.ext x r⟩
theorem vs_of_pair {s : HS} : ∀ {vs : List V} {ds : List D}, Paired (Den K mg s.fz) vs ds → Paired (VS K mg s) (ds.map SV.d) vs
  | _, _, .nil => .nil
  | _, _, .cons a b => .cons a (vs_of_pair b)
theorem pair_signs {H : Hp} : ∀ (l : List Nat), StrOk l → Paired (Den K mg H) (l.map fun c => V.str (mkS [c])) (l.map fun c => D.str [c])
  | [], _ => .nil
  | c :: l, h => .cons (.str [c] ⟨by rw [sizeLine_eq]; simp, fun x hx => by simp at hx; subst hx; exact h.2 _ List.mem_cons_self⟩) (pair_signs l ⟨by have := h.1; simp at this; omega, fun x hx => h.2 x (List.mem_cons_of_mem _ hx)⟩)
end
section
variable {X : Cx} {W : WX} {tg e : Expr} {m : Mo SV}
theorem PostI.bind {α β : Type} {K : PySem.W.Frag} {mg : Str → Option Value} {σ : L2.St} {s : HS} {ρ : Env'} {Rel : HS → α → β → Prop} {m : Mo α} {k : α → Mo Items} {R : It → Hp → Prop} {Q1 : β → Hp → Prop}
    (h : PostI K mg W σ s R ((m.bind k) ρ s.L)) (hk : ∀ (a : α) (s1 : HS) (b : β), Ext s s1 → s1.Ok K mg → Rel s1 a b → PostI K mg W σ s1 R (k a ρ s1.L) → Q1 b s1.H) : Post K mg Rel W σ s Q1 (m ρ s.L) := by
  unfold Mo.bind at h
  rcases e : m ρ s.L with _ | ⟨a | _, L1⟩ <;> rw [e] at h
  · exact h
  · intro s1 b e1 x1 ok1 r1
    subst e1
    refine hk a s1 b x1 ok1 r1 ?_
    dsimp only at h
    rcases e2 : k a ρ s1.L with _ | ⟨_ | _, L2⟩ <;> rw [e2] at h
    · exact h
    · exact fun s2 J e3 x2 ok2 r2 => h s2 J e3 (x1.trans x2) ok2 r2
    · exact fun s2 c d e3 x2 ok2 r2 => h s2 c d e3 (x1.trans x2) ok2 r2
  · exact h
theorem PostI.here {K : PySem.W.Frag} {mg : Str → Option Value} {σ : L2.St} {s : HS} {R : It → Hp → Prop} {it : Items} {J : It} (h : PostI K mg W σ s R (some (.ok it, s.L))) (ok : s.Ok K mg) (w : Walks K mg J s it) : R J s.H := h s J rfl (Ext.refl s) ok w
theorem jiIter (h : JE X W e m) : JI X W tg e (mIter m) := by
  refine ⟨(pi_any h.pe).weak fun σ H R q => ?_⟩
  obtain ⟨s, ρ, rfl, ok, vr, p⟩ := q
  refine ⟨s, ρ, rfl, ok, vr, PostI.bind p fun x s1 v x1 ok1 r1 p1 => ?_⟩
  unfold itOf at p1
  cases x with
  | d d =>
    dsimp only at p1
    split at p1
    · rename_i ds ei
      unfold itemsD at ei
      split at ei <;> cases ei
      · cases r1 with | @lst a vs _ h1 h2 =>
        refine .inl ⟨a, rfl, ⟨vs, SqL.of ((HS.fz_same s1) _ _ h1)⟩, PostI.here p1 ok1 (walks_flat (xs := vs) (vs_of_pair h2.pair) fun t xt okt _ i => ?_)⟩
        have hq : SqL X.K t.H a vs := SqL.of ((HS.fz_same t) _ _ (xt.fz _ _ h1))
        exact ⟨fun hi => ⟨vs, hq, hi⟩, fun v hv => ⟨⟨vs, v, hq, hv⟩, fun x H' hy => ⟨hy.1, by have := hy.2 vs hq; rw [hv] at this; exact (Option.some.inj this).symm⟩⟩⟩
      · cases r1 with | @tup a vs _ h1 h2 =>
        refine .inr (.inl ⟨a, rfl, ⟨vs, Same.seqT (HS.fz_same s1) h1⟩, PostI.here p1 ok1 (walks_flat (xs := vs) (vs_of_pair h2.pair) fun t xt okt _ i => ?_)⟩)
        have hq : SqT X.K t.H a vs := Same.seqT (HS.fz_same t) (Same.seqT xt.fz h1)
        exact ⟨fun hi => ⟨vs, hq, hi⟩, fun v hv => ⟨⟨vs, v, hq, hv⟩, fun x H' hy => ⟨hy.1, by have := hy.2 vs hq; rw [hv] at this; exact (Option.some.inj this).symm⟩⟩⟩
      · rename_i l
        cases r1 with | str _ hs =>
        refine .inr (.inr ⟨_, rfl, PostI.here p1 ok1 (walks_flat (xs := l.map fun c => V.str (mkS [c])) ?_ fun t xt okt _ i => ?_)⟩)
        · show Paired _ ((l.map fun c => D.str [c]).map SV.d) _
          exact vs_of_pair (pair_signs l hs)
        · refine ⟨fun hi => ?_, fun v hv => ?_⟩
          · show (mkS l).cps.size ≤ i
            simpa [mkS] using hi
          · rw [List.getElem?_map] at hv
            cases ec : l[i]? with
            | none => rw [ec] at hv; cases hv
            | some c =>
              rw [ec] at hv
              have hvv : v = .str (mkS [c]) := (Option.some.inj hv).symm
              have hci : (mkS l).cps[i]? = some c := by simpa [mkS] using ec
              refine ⟨?_, fun x H' hy => ?_⟩
              · show i < (mkS l).cps.size
                simpa [mkS] using (List.getElem?_eq_some_iff.mp ec).1
              · obtain ⟨e1, c', e2, e3⟩ := hy
                rw [hci] at e2
                cases e2
                exact ⟨e1, by rw [e3, hvv]⟩
    · exact p1.elim
  | r n =>
    dsimp only at p1
    split at p1
    · rename_i xs el
      obtain ⟨a, ha, rfl⟩ := r1
      obtain ⟨vs, h1, h2⟩ := ok1.obj n _ a el ha
      refine .inl ⟨a, rfl, ⟨vs, SqL.of h1⟩, PostI.here p1 ok1 fun t xt okt hit => ?_⟩
      have hit : t.L[n]? = some (.lst xs) := hit
      obtain ⟨ws, g1, g2⟩ := okt.obj n _ a hit (xt.get ha)
      have hq : SqL X.K t.H a ws := SqL.of g1
      intro i
      refine ⟨fun hi => ⟨ws, hq, by rw [← pair_len g2]; exact hi⟩, fun sv hsv => ?_⟩
      obtain ⟨v, hv, r⟩ := pair_get g2 hsv
      refine ⟨⟨ws, v, hq, hv⟩, fun x H' hy => ?_⟩
      obtain ⟨rfl, hy⟩ := hy
      have := hy ws hq
      rw [hv] at this
      cases this
      exact ⟨t, rfl, rfl, Ext.refl t, okt, r⟩
    · exact p1.elim
/-! range -/
def rangeD (lo hi : Int) : List SV := (List.range (hi - lo).toNat).map fun (i : Nat) => .d (.int (lo + (i : Int)))
def okR (i : Int) : Bool := decide (-(2 ^ 62) ≤ i) && decide (i < 2 ^ 62)
def itRange1 : List SV → Mo Items
  | [.d (.int j)] => fun _ L => if okR j = true then some (.ok ⟨none, rangeD 0 j⟩, L) else none
  | _ => fun _ _ => none
def itRange2 : List SV → Mo Items
  | [.d (.int i), .d (.int j)] => fun _ L => if okR i = true ∧ okR j = true then some (.ok ⟨none, rangeD i j⟩, L) else none
  | _ => fun _ _ => none
def mRange1 (ms : Mo (List SV)) : Mo Items := ms.bind itRange1
def mRange2 (ms : Mo (List SV)) : Mo Items := ms.bind itRange2
theorem okR_iff {i : Int} (h : okR i = true) : -(2 ^ 62) ≤ i ∧ i < 2 ^ 62 := by
  unfold okR at h
  simp only [Bool.and_eq_true, decide_eq_true_eq] at h
  exact h
theorem walks_range {K : PySem.W.Frag} {mg : Str → Option Value} {s : HS} (lo hi : Int) : Walks K mg (Itr lo (hi - lo).toNat) s ⟨none, rangeD lo hi⟩ := by
  have hp : Paired (VS K mg s) (rangeD lo hi) ((List.range (hi - lo).toNat).map fun (i : Nat) => V.int (lo + (i : Int))) := by
    unfold rangeD
    generalize List.range (hi - lo).toNat = l
    induction l with
    | nil => exact .nil
    | cons a l ih => exact .cons (.int _) ih
  refine walks_flat hp fun t xt okt _ i => ⟨fun h => ?_, fun v hv => ?_⟩
  · show (hi - lo).toNat ≤ i
    simpa using h
  · rw [List.getElem?_map] at hv
    cases ec : (List.range (hi - lo).toNat)[i]? with
    | none => rw [ec] at hv; cases hv
    | some c =>
      rw [ec] at hv
      have hl := (List.getElem?_eq_some_iff.mp ec)
      obtain ⟨hl1, hl2⟩ := hl
      have hlt : i < (hi - lo).toNat := by simpa using hl1
      have hc : c = i := by rw [← hl2]; simp
      subst hc
      refine ⟨hlt, fun x H' hy => ?_⟩
      obtain ⟨e1, e2⟩ := hy
      exact ⟨e1, by rw [e2]; exact Option.some.inj hv⟩
theorem jiRange1 {a : Expr} {ms : Mo (List SV)} {p pos : Pos} (g : GlB X "range" (.type "range")) (ha : JA X W [a] ms) (hs : starEach [a] X.env = [(false, eval a X.env)] := by rfl) : JI X W tg (.Call (.Name "range" p) [a] [] pos) (mRange1 ms) := by
  refine ⟨(pi_range1 g.g g.m ha.pa hs).weak fun σ H R q => ?_⟩
  obtain ⟨s, ρ, rfl, ok, vr, p⟩ := q
  refine ⟨s, ρ, rfl, ok, vr, PostI.bind p fun xs s1 vs x1 ok1 r1 p1 => ?_⟩
  unfold itRange1 at p1
  split at p1
  · rename_i j
    split at p1
    · rename_i hk
      have hb := okR_iff hk
      cases r1 with | cons r1 r2 =>
      cases r2
      cases r1
      refine ⟨j, rfl, hb.1, hb.2, PostI.here p1 ok1 ?_⟩
      have := walks_range (K := X.K) (mg := X.mg) (s := s1) 0 j
      simpa using this
    · exact p1.elim
  · exact p1.elim
theorem jiRange2 {a b : Expr} {ms : Mo (List SV)} {p pos : Pos} (g : GlB X "range" (.type "range")) (ha : JA X W [a, b] ms) (hs : starEach [a, b] X.env = [(false, eval a X.env), (false, eval b X.env)] := by rfl) (hs2 : starEach [b] X.env = [(false, eval b X.env)] := by rfl) :
    JI X W tg (.Call (.Name "range" p) [a, b] [] pos) (mRange2 ms) := by
  refine ⟨(pi_range2 g.g g.m ha.pa hs hs2).weak fun σ H R q => ?_⟩
  obtain ⟨s, ρ, rfl, ok, vr, p⟩ := q
  refine ⟨s, ρ, rfl, ok, vr, PostI.bind p fun xs s1 vs x1 ok1 r1 p1 => ?_⟩
  unfold itRange2 at p1
  split at p1
  · rename_i i j
    split at p1
    · rename_i hk
      have hb := okR_iff hk.1
      have hb2 := okR_iff hk.2
      cases r1 with | cons r1 r2 =>
      cases r2 with | cons r2 r3 =>
      cases r3
      cases r1
      cases r2
      exact ⟨i, j, rfl, ⟨hb.1, hb.2, hb2.1, hb2.2⟩, PostI.here p1 ok1 (walks_range i j)⟩
    · exact p1.elim
  · exact p1.elim
end

/-! ### list comprehensions -/
/-- the tests of a clause -/
structure JTs (X : Cx) (W : WX) (ifs : List Expr) (m : Mo Bool) : Prop where
  pts : PTs X ifs (tM X.K X.mg RelB W m)
theorem _root_.L2.PTs.weak {X : Cx} {e : List Expr} {t t' : TT} (h : PTs X e t) (w : ∀ σ H Q, t' σ H Q → t σ H Q) : PTs X e t' := ⟨fun pins s σ H Q I q => h.run pins s σ H Q I (w σ H Q q)⟩
def gYes : Mo Bool := Mo.ret true
theorem jtsNil {X : Cx} {W : WX} : JTs X W [] gYes := by
  refine ⟨pts_nil.weak fun σ H Q q => ?_⟩
  obtain ⟨s, ρ, rfl, ok, vr, p⟩ := q
  exact Post.here (Rel := RelB) p ok rfl
theorem jtsOne {X : Cx} {W : WX} {c : Expr} {g : Mo Bool} (h : JT X W c g) : JTs X W [c] g := ⟨pts_one h.pt⟩
def wipeE (ρ : Env') : List Nat → Env'
  | [] => ρ
  | v :: vs => (wipeE ρ vs).set v none
open Classical in
noncomputable def lcL (it : Items) (own : List Nat) (g : MG) (tt : Mo Bool) (te : Mo SV) (ρ : Env') : List SV → List LO → Option (List SV × List LO)
  | [], L => if it.ok L then some ([], L) else none
  | x :: xs, L => if it.ok L then
      match g x (wipeE ρ own) L with
      | none => none
      | some (ρ1, L1) => match tt ρ1 L1 with
        | some (.ok true, L2) => match te ρ1 L2 with
          | some (.ok y, L3) => match lcL it own g tt te ρ xs L3 with
            | some (ys, L4) => some (y :: ys, L4)
            | none => none
          | _ => none
        | some (.ok false, L2) => lcL it own g tt te ρ xs L2
        | _ => none
    else none
/-- what is made of the items: a list that is never changed -/
def toLst (ys : List SV) : Mo SV := fun _ L => match pures ys with
  | some ds => some (.ok (.d (.lst ds)), L)
  | none => none
noncomputable def mLc (m : Mo Items) (own : List Nat) (g : MG) (tt : Mo Bool) (te : Mo SV) (fin : List SV → Mo SV) : Mo SV := m.bind fun it ρ L => if it.items.length ≤ 16777216 then
    match lcL it own g tt te ρ it.items L with
    | some (ys, L') => fin ys ρ L'
    | none => none
  else none
end DL
namespace DL
open PySem PySem.Spec PyProof.Rows L2

/-- what is made of a comprehension's items at D -/
def FinOk (X : Cx) (fin : List SV → Mo SV) : Prop := ∀ (W : WX) (σ : L2.St) (ρ : Env') (s0 t : HS) (ys : List SV) (vs : List V) (Q : VK) (D : Addr), s0.Ok X.K X.mg → s0.H D = none → Ext s0 t → t.Ok X.K X.mg → D ∈ t.P → t.H D = some (.lst vs) →
  Paired (VS X.K X.mg t) ys vs → Post X.K X.mg (RelD X.K X.mg) W σ s0 Q (fin ys ρ t.L) → Q (.ref D) t.H
section
variable {X : Cx}
theorem lst_fin : FinOk X toLst := by
  intro W σ ρ s0 t ys vs Q D ok0 hD x okt hP hH hy p
  unfold toLst at p
  split at p
  · rename_i ds e
    have hsame : Same t.fz ({ t with P := s0.P } : HS).fz := fun a o h => by
      obtain ⟨h1, h2, h3⟩ := HS.fz_some.mp h
      exact HS.fz_some.mpr ⟨h1, fun z => h2 (x.P a z), h3⟩
    have hDα : ¬ ({ t with P := s0.P } : HS).live D := fun ⟨n, lo, h1, _⟩ => okt.np D (List.mem_of_getElem? h1) hP
    refine p { t with P := s0.P } (.ref D) rfl ⟨fun _ h => h, fun _ h => .inl h, x.α, x.keep, x.new, x.there⟩ ⟨okt.len, okt.nd, fun a ha z => okt.np a ha (x.P a z), fun a ha => x.there a (ok0.hp a ha), fun n lo a h1 h2 => ?_⟩ ?_
    · have := okt.obj n lo a h1 h2
      cases lo with
      | dead => exact this
      | lst xs =>
        obtain ⟨ws, g1, g2⟩ := this
        exact ⟨ws, g1, pair_imp (fun sv v q => by cases sv with
          | d d => exact Den.mono hsame _ _ q
          | r n => exact q) g2⟩
    · exact .lst (HS.fz_some.mpr ⟨hDα, fun z => ok0.hp D z hD, hH⟩) (DenAll.mono hsame _ _ (DenAll.of (pures_den e hy)))
  · exact p.elim
theorem live_fin : FinOk X mkLive := by
  intro W σ ρ s0 t ys vs Q D ok0 hD x okt hP hH hy p
  unfold mkLive at p
  split at p
  · have hDα : D ∉ t.α := fun z => okt.np D z hP
    have hlive : ∀ a, ({ P := s0.P, α := t.α ++ [D], L := t.L ++ [.lst ys], H := t.H } : HS).live a → t.live a ∨ a = D := by
      rintro a ⟨n, o, h1, h2, h3⟩
      exact live_new (s := t) (lo := .lst ys) (p := D) (a := a) ⟨n, o, h1, h2, h3⟩ okt.len
    have hsame : Same t.fz ({ P := s0.P, α := t.α ++ [D], L := t.L ++ [.lst ys], H := t.H } : HS).fz := fun a o h => by
      obtain ⟨h1, h2, h3⟩ := HS.fz_some.mp h
      refine HS.fz_some.mpr ⟨fun z => ?_, fun z => h2 (x.P a z), h3⟩
      rcases hlive a z with q | q
      · exact h1 q
      · subst q; exact h2 hP
    have hvs : ∀ sv v, VS X.K X.mg t sv v → VS X.K X.mg { P := s0.P, α := t.α ++ [D], L := t.L ++ [.lst ys], H := t.H } sv v := fun sv v q => by
      cases sv with
      | d d => exact Den.mono hsame _ _ q
      | r n =>
        obtain ⟨a, h1, h2⟩ := q
        refine ⟨a, ?_, h2⟩
        show (t.α ++ [D])[n]? = some a
        rw [List.getElem?_append_left (List.getElem?_eq_some_iff.mp h1).1]; exact h1
    refine p { P := s0.P, α := t.α ++ [D], L := t.L ++ [.lst ys], H := t.H } (.ref D) rfl ⟨fun _ h => h, fun _ h => .inl h, ?_, x.keep, fun a z => ?_, x.there⟩ ⟨?_, ?_, fun a ha z => ?_, fun a ha => x.there a (ok0.hp a ha), fun n lo a h1 h2 => ?_⟩ ⟨D, ?_, rfl⟩
    · obtain ⟨m, e⟩ := x.α
      exact ⟨m ++ [D], by show t.α ++ [D] = _; rw [e, List.append_assoc]⟩
    · rcases hlive a z with q | q
      · exact x.new a q
      · subst q; exact .inr hD
    · show (t.α ++ [D]).length = (t.L ++ [LO.lst ys]).length
      simp [okt.len]
    · show (t.α ++ [D]).Nodup
      rw [List.nodup_append]
      exact ⟨okt.nd, by simp, fun a ha b hb => by simp at hb; subst hb; rintro rfl; exact hDα ha⟩
    · have ha : a ∈ t.α ++ [D] := ha
      rcases List.mem_append.mp ha with q | q
      · exact okt.np a q (x.P a z)
      · simp at q; subst q; exact ok0.hp a z hD
    · have h1 : (t.L ++ [LO.lst ys])[n]? = some lo := h1
      have h2 : (t.α ++ [D])[n]? = some a := h2
      by_cases hn : n < t.L.length
      · rw [List.getElem?_append_left hn] at h1
        rw [List.getElem?_append_left (by rw [okt.len]; exact hn)] at h2
        have := okt.obj n lo a h1 h2
        cases lo with
        | dead => exact this
        | lst xs =>
          obtain ⟨ws, g1, g2⟩ := this
          exact ⟨ws, g1, pair_imp (fun sv v q => hvs sv v q) g2⟩
      · rw [List.getElem?_append_right (by omega)] at h1
        rw [List.getElem?_append_right (by rw [okt.len]; omega)] at h2
        have e : n - t.L.length = 0 := by
          have := (List.getElem?_eq_some_iff.mp h1).1
          simp at this; omega
        rw [e] at h1
        rw [okt.len, e] at h2
        simp at h1 h2
        subst h1; subst h2
        exact ⟨vs, hH, pair_imp (fun sv v q => hvs sv v q) hy⟩
    · show (t.α ++ [D])[t.L.length]? = some D
      rw [← okt.len]
      simp
  · exact p.elim
theorem Post.bindI {α : Type} {β : Type} {K : PySem.W.Frag} {mg : Str → Option Value} {W : WX} {σ : L2.St} {s : HS} {ρ : Env'} {Rel : HS → α → β → Prop} {m : Mo Items} {k : Items → Mo α} {Q : β → Hp → Prop} {R : It → Hp → Prop}
    (h : Post K mg Rel W σ s Q ((m.bind k) ρ s.L)) (hk : ∀ (it : Items) (s1 : HS) (J : It), Ext s s1 → s1.Ok K mg → Walks K mg J s1 it → Post K mg Rel W σ s1 Q (k it ρ s1.L) → R J s1.H) : PostI K mg W σ s R (m ρ s.L) := by
  unfold Mo.bind at h
  rcases e : m ρ s.L with _ | ⟨a | _, L1⟩ <;> rw [e] at h
  · exact h
  · intro s1 J e1 x1 ok1 w1
    subst e1
    refine hk a s1 J x1 ok1 w1 ?_
    dsimp only at h
    rcases e2 : k a ρ s1.L with _ | ⟨_ | _, L2⟩ <;> rw [e2] at h
    · exact h
    · exact fun s2 b e3 x2 ok2 r2 => h s2 b e3 (x1.trans x2) ok2 r2
    · exact fun s2 c d e3 x2 ok2 r2 => h s2 c d e3 (x1.trans x2) ok2 r2
  · exact h
theorem vr_wipe {K : PySem.W.Frag} {mg : Str → Option Value} {s : HS} {ρ : Env'} {σ : L2.St} (r : VR K mg s ρ σ) : ∀ (l : List Nat), VR K mg s (wipeE ρ l) (wipe σ l)
  | [] => r
  | v :: l => by
    have ih := vr_wipe r l
    refine ⟨by simp [wipeE, wipe, ih.1], fun i sv h => ?_⟩
    unfold wipeE at h
    unfold wipe
    by_cases e : v = i
    · subst e
      by_cases hl : v < (wipeE ρ l).length
      · rw [List.getElem?_set_self hl] at h; cases h
      · rw [List.getElem?_eq_none (by simpa using hl)] at h; cases h
    · rw [List.getElem?_set_ne e] at h ⊢
      exact ih.2 i sv h
abbrev W0 : WX := fun _ _ _ _ => False
/-- the reading of a comprehension -/
theorem lc_run {W : WX} {m : Mo Items} {vs : List Nat} {g : MG} {tt : Mo Bool} {te : Mo SV} {fin : List SV → Mo SV} (hf : FinOk X fin) (σ : L2.St) (H : Hp) (Q : VK) (q : tM X.K X.mg (RelD X.K X.mg) W (mLc m vs g tt te fin) σ H Q) :
    tLc (tMI X.K X.mg W m) (tMG X.K X.mg (some vs) g) (tM X.K X.mg RelB W0 tt) (tM X.K X.mg (RelD X.K X.mg) W0 te) vs σ H Q := by
  obtain ⟨s, ρ, rfl, ok, vr, p⟩ := q
  refine ⟨s, ρ, rfl, ok, vr, Post.bindI p fun it s1 J x1 ok1 wk p1 => ?_⟩
  split at p1
  · rename_i hlen
    intro D hD
    rcases eF : lcL it vs g tt te ρ it.items s1.L with _ | ⟨ysF, LF⟩ <;> rw [eF] at p1
    · exact p1.elim
    dsimp only at p1
    have hs1 : Same s1.fz ({ P := s1.P ++ [D], α := s1.α, L := s1.L, H := upd s1.H D (.lst []) } : HS).fz := fun a o h => by
      obtain ⟨h1, h2, h3⟩ := HS.fz_some.mp h
      refine HS.fz_some.mpr ⟨h1, fun z => ?_, ?_⟩
      · rcases List.mem_append.mp z with z | z
        · exact h2 z
        · simp at z; subst z; rw [hD] at h3; cases h3
      · show upd s1.H D _ a = some o
        rw [upd_ne (ne_of_none h3 hD)]; exact h3
    have hDa : D ∉ s1.α := fun z => by
      obtain ⟨n, hn⟩ := List.getElem?_of_mem z
      have hl : n < s1.L.length := by rw [← ok1.len]; exact (List.getElem?_eq_some_iff.mp hn).1
      have := ok1.obj n _ D (List.getElem?_eq_getElem hl) hn
      generalize s1.L[n] = lo at this
      cases lo with
      | dead => exact this hD
      | lst _ => obtain ⟨_, e, _⟩ := this; rw [hD] at e; cases e
    have x0 : Ext s1 { P := s1.P ++ [D], α := s1.α, L := s1.L, H := upd s1.H D (.lst []) } := by
      refine ⟨fun a h => List.mem_append_left _ h, fun a h => ?_, ⟨[], by simp⟩, fun a o _ h => ?_, fun a h => .inl h, fun a h => ?_⟩
      · rcases List.mem_append.mp h with z | z
        · exact .inl z
        · simp at z; subst z; exact .inr hD
      · show upd s1.H D _ a = some o
        rw [upd_ne (ne_of_none h hD)]; exact h
      · show upd s1.H D _ a ≠ none
        by_cases e : a = D
        · subst e; rw [upd_same]; simp
        · rw [upd_ne e]; exact h
    have ok0 : ({ P := s1.P ++ [D], α := s1.α, L := s1.L, H := upd s1.H D (.lst []) } : HS).Ok X.K X.mg := by
      refine ⟨ok1.len, ok1.nd, fun a ha z => ?_, fun a ha => ?_, fun n lo a h1 h2 => LOk.ext x0 (ok1.obj n lo a h1 h2) fun o ho => ?_⟩
      · rcases List.mem_append.mp z with z | z
        · exact ok1.np a ha z
        · simp at z; subst z; exact hDa ha
      · rcases List.mem_append.mp ha with z | z
        · exact x0.there a (ok1.hp a z)
        · simp at z; subst z; show upd s1.H a _ a ≠ none; rw [upd_same]; simp
      · show upd s1.H D _ a = some o
        rw [upd_ne (ne_of_none ho hD)]; exact ho
    refine ⟨fun i k H => k = it.items.length - i ∧ i ≤ it.items.length ∧ ∃ (t : HS) (acc rest : List SV) (accV : List V), Ext s1 t ∧ D ∈ t.P ∧ t.H = H ∧ t.Ok X.K X.mg ∧ t.H D = some (.lst accV) ∧ Paired (VS X.K X.mg t) acc accV ∧ acc.length ≤ i ∧
        lcL it vs g tt te ρ (it.items.drop i) t.L = some (rest, LF) ∧ acc ++ rest = ysF,
      ⟨it.items.length, by simp, Nat.zero_le _, _, [], ysF, [], x0, List.mem_append_right _ (by simp), rfl, ok0, upd_same, .nil, Nat.le_refl _, by simpa using eF, rfl⟩, ?_⟩
    rintro i k H ⟨rfl, hil, t, acc, rest, accV, xt, hDP, rfl, okt, hDt, hacc, hal, hr, hcat⟩
    by_cases hlt : i < it.items.length
    · have hx : it.items[i]? = some it.items[i] := List.getElem?_eq_getElem hlt
      rw [drop_cons hx] at hr
      unfold lcL at hr
      split at hr
      · rename_i hok
        obtain ⟨_, h2⟩ := wk t xt okt hok i
        obtain ⟨go, yl⟩ := h2 _ hx
        refine .inr ⟨go, fun H' => ∃ (t : HS) (acc rest : List SV) (accV : List V), Ext s1 t ∧ D ∈ t.P ∧ t.H = H' ∧ t.Ok X.K X.mg ∧ t.H D = some (.lst accV) ∧ Paired (VS X.K X.mg t) acc accV ∧ acc.length ≤ i + 1 ∧
          lcL it vs g tt te ρ (it.items.drop (i + 1)) t.L = some (rest, LF) ∧ acc ++ rest = ysF, fun H' n => ⟨it.items.length - (i + 1), by omega, rfl, hlt, n⟩, fun x' H' hy => ?_⟩
        obtain ⟨t', rfl, eL, xt', okt', vt⟩ := yl x' H' hy
        refine ⟨t', wipeE ρ vs, _, rfl, okt', (vr_wipe (vr.ext (x1.trans (xt.trans xt'))) vs), vt, ?_⟩
        rw [eL]
        rcases eg : g it.items[i] (wipeE ρ vs) t.L with _ | ⟨ρ1, L1⟩ <;> rw [eg] at hr
        · cases hr
        dsimp only at hr ⊢
        intro s2 σ2 e2 x2 ok2 vr2 w2
        subst e2
        refine ⟨?_, s2, ρ1, rfl, ok2, vr2, ?_⟩
        · have w2 : wipe σ2 vs = wipe (wipe σ vs) vs := w2
          rw [w2]
          have idem : ∀ (l : List Nat) (τ : L2.St), wipe (wipe τ l) l = wipe τ l := by
            intro l
            induction l with
            | nil => intro τ; rfl
            | cons v l ih =>
              intro τ
              have com : ∀ (l : List Nat) (τ : L2.St), wipe (τ.set v none) l = (wipe τ l).set v none := by
                intro l
                induction l with
                | nil => intro τ; rfl
                | cons u l ih =>
                  intro τ
                  unfold wipe
                  rw [ih]
                  by_cases hu : u = v
                  · subst hu; simp
                  · rw [List.set_comm _ _ (Ne.symm hu)]
              show (wipe ((wipe τ l).set v none) l).set v none = (wipe τ l).set v none
              rw [com, ih]
              simp
          exact idem vs σ
        have xs2 : Ext s1 s2 := xt.trans (xt'.trans x2)
        have hD2 : s2.H D = some (.lst accV) := by
          have a1 : ¬ t.live D := fun ⟨n, lo, h1, _⟩ => okt.np D (List.mem_of_getElem? h1) hDP
          have a2 : ¬ t'.live D := fun ⟨n, lo, h1, _⟩ => okt'.np D (List.mem_of_getElem? h1) (xt'.P D hDP)
          exact x2.keep D _ a2 (xt'.keep D _ a1 hDt)
        have hDP2 : D ∈ s2.P := x2.P D (xt'.P D hDP)
        have hacc2 : Paired (VS X.K X.mg s2) acc accV := vs_all_ext (xt'.trans x2) hacc
        rcases ett : tt ρ1 s2.L with _ | ⟨b | _, L2⟩ <;> rw [ett] at hr
        · cases hr
        · intro s3 b' e3 x3 ok3 rb
          subst e3
          obtain rfl : b = b' := rb
          have hD3 : s3.H D = some (.lst accV) := x3.keep D _ (fun ⟨n, lo, h1, _⟩ => ok2.np D (List.mem_of_getElem? h1) hDP2) hD2
          have hDP3 : D ∈ s3.P := x3.P D hDP2
          cases b with
          | false =>
            rw [if_neg (by decide)]
            exact ⟨s3, acc, rest, accV, xs2.trans x3, hDP3, rfl, ok3, hD3, vs_all_ext x3 hacc2, by omega, hr, hcat⟩
          | true =>
            rw [if_pos rfl]
            refine ⟨s3, ρ1, rfl, ok3, vr2.ext x3, ?_⟩
            dsimp only at hr
            rcases ete : te ρ1 s3.L with _ | ⟨y | _, L3⟩ <;> rw [ete] at hr
            · cases hr
            · dsimp only at hr
              rcases erest : lcL it vs g tt te ρ (it.items.drop (i + 1)) L3 with _ | ⟨ys, L4⟩ <;> rw [erest] at hr
              · cases hr
              · cases hr
                intro s4 v e4 x4 ok4 r4
                subst e4
                have a3 : ¬ s3.live D := fun ⟨n, lo, h1, _⟩ => ok3.np D (List.mem_of_getElem? h1) hDP3
                have hD4 : s4.H D = some (.lst accV) := x4.keep D _ a3 hD3
                have hDP4 : D ∈ s4.P := x4.P D hDP3
                have x14 : Ext s1 s4 := (xs2.trans x3).trans x4
                have hna : D ∉ s4.α := fun z => ok4.np D z hDP4
                have hacc4 : Paired (VS X.K X.mg s4) acc accV := vs_all_ext x4 (vs_all_ext x3 hacc2)
                have hle := pair_len hacc4
                refine ⟨accV, hD4, by rw [← hle, sizeLine_eq]; omega, { s4 with H := upd s4.H D (.lst (accV ++ [v])) }, acc ++ [y], ys, accV ++ [v], ?_, hDP4, rfl, ?_, upd_same, ?_, by simp; omega, erest, by simpa using hcat⟩
                · refine ⟨x14.P, x14.newP, x14.α, fun a o hl ho => ?_, x14.new, fun a ha => ?_⟩
                  · show upd s4.H D _ a = some o
                    rw [upd_ne (ne_of_none ho hD)]; exact x14.keep a o hl ho
                  · show upd s4.H D _ a ≠ none
                    rw [upd_ne (fun e => by subst e; exact ha hD)]; exact x14.there a ha
                · have hvs : ∀ sv u, VS X.K X.mg s4 sv u → VS X.K X.mg { s4 with H := upd s4.H D (.lst (accV ++ [v])) } sv u := fun sv u q => by
                    cases sv with
                    | r n => exact q
                    | d d =>
                      refine Den.mono (fun a o h => ?_) _ _ q
                      obtain ⟨h1, h2, h3⟩ := HS.fz_some.mp h
                      refine HS.fz_some.mpr ⟨h1, h2, ?_⟩
                      show upd s4.H D _ a = some o
                      rw [upd_ne (fun e => by subst e; exact h2 hDP4)]; exact h3
                  refine ⟨ok4.len, ok4.nd, ok4.np, fun a ha => ?_, fun n lo a h1 h2 => ?_⟩
                  · show upd s4.H D _ a ≠ none
                    by_cases e : a = D
                    · subst e; rw [upd_same]; simp
                    · rw [upd_ne e]; exact ok4.hp a ha
                  · have hne : a ≠ D := fun e => by subst e; exact hna (List.mem_of_getElem? h2)
                    have := ok4.obj n lo a h1 h2
                    cases lo with
                    | dead => show upd s4.H D _ a ≠ none; rw [upd_ne hne]; exact this
                    | lst xs =>
                      obtain ⟨ws, g1, g2⟩ := this
                      exact ⟨ws, by show upd s4.H D _ a = _; rw [upd_ne hne]; exact g1, pair_imp (fun sv v q => hvs sv v q) g2⟩
                · have hvs : ∀ sv u, VS X.K X.mg s4 sv u → VS X.K X.mg { s4 with H := upd s4.H D (.lst (accV ++ [v])) } sv u := fun sv u q => by
                    cases sv with
                    | r n => exact q
                    | d d =>
                      refine Den.mono (fun a o h => ?_) _ _ q
                      obtain ⟨h1, h2, h3⟩ := HS.fz_some.mp h
                      refine HS.fz_some.mpr ⟨h1, h2, ?_⟩
                      show upd s4.H D _ a = some o
                      rw [upd_ne (fun e => by subst e; exact h2 hDP4)]; exact h3
                  exact pair_app (pair_imp (fun sv v q => hvs sv v q) hacc4) (.cons (hvs _ _ r4) .nil)
            · cases hr
        · cases hr
      · cases hr
    · have hil' : i = it.items.length := by omega
      subst hil'
      rw [List.drop_length] at hr
      unfold lcL at hr
      split at hr
      · rename_i hok
        cases hr
        rw [List.append_nil] at hcat
        subst hcat
        exact .inl ⟨(wk t xt okt hok _).1 (Nat.le_refl _), hf W σ ρ s1 t acc accV Q D ok1 hD xt okt hDP hDt hacc p1⟩
      · cases hr
  · exact p1.elim
theorem jLc {W : WX} {elt tg iter : Expr} {ifs : List Expr} {scope : Scope} {own : List (Str × Nat)} {pos : Pos} {m : Mo Items} {g : MG} {tt : Mo Bool} {te : Mo SV} {fin : List SV → Mo SV} (hf : FinOk X fin) (hc : X.calm = true) (hN : X.N.Nodup) (hi : JI X W tg iter m) (ok : BlkOk X.N X.env.scope scope own)
    (hg : ∀ (s : Shared) (H : Hp) (C : Addr) (cl : List (Str × Addr)) (fp : List Addr), JG (X.blk s H scope (compEnvC scope cl C X.env) fp) (some (own.map (·.2))) tg g)
    (ht : ∀ (s : Shared) (H : Hp) (C : Addr) (cl : List (Str × Addr)) (fp : List Addr), JTs (X.blk s H scope (compEnvC scope cl C X.env) fp) W0 ifs tt)
    (he : ∀ (s : Shared) (H : Hp) (C : Addr) (cl : List (Str × Addr)) (fp : List Addr), JE (X.blk s H scope (compEnvC scope cl C X.env) fp) W0 elt te)
    (hs : ∀ x, foldedSetIterable iter X.env x = pure x := by intro _; rfl) : JE X W (.ListComp elt [⟨tg, iter, ifs, 0⟩] scope pos) (mLc m (own.map (·.2)) g tt te fin) :=
  ⟨(pe_lc (wi := tMI X.K X.mg W m) (g := tMG X.K X.mg (some (own.map (·.2))) g) (tt := tM X.K X.mg RelB W0 tt) (te := tM X.K X.mg (RelD X.K X.mg) W0 te) hc hN hi.pi ok (fun s H C cl fp => (hg s H C cl fp).pg) (fun s H C cl fp => (ht s H C cl fp).pts) (fun s H C cl fp => (he s H C cl fp).pe) hs).weak (lc_run hf)⟩
theorem jSetLc {W : WX} {i : Nat} {y : Str} {py : Pos} {elt tg iter : Expr} {ifs : List Expr} {scope : Scope} {own : List (Str × Nat)} {pos spos : Pos} {m : Mo Items} {g : MG} {tt : Mo Bool} {te : Mo SV} {fin : List SV → Mo SV} (hf : FinOk X fin) (hc : X.calm = true) (hl : Lc X i y) (hyl : X.env.scope.names.lookup y = some .local)
    (hsw : swapsWith (.ListComp elt [⟨tg, iter, ifs, 0⟩] scope pos) (some (.Name y py)) spos.line X.env = pure true) (hi : JI X W tg iter m) (ok : BlkOk X.N X.env.scope scope own)
    (hg : ∀ (s : Shared) (H : Hp) (C : Addr) (cl : List (Str × Addr)) (fp : List Addr), JG (X.blk s H scope (compEnvC scope cl C X.env) fp) (some (own.map (·.2))) tg g)
    (ht : ∀ (s : Shared) (H : Hp) (C : Addr) (cl : List (Str × Addr)) (fp : List Addr), JTs (X.blk s H scope (compEnvC scope cl C X.env) fp) W0 ifs tt)
    (he : ∀ (s : Shared) (H : Hp) (C : Addr) (cl : List (Str × Addr)) (fp : List Addr), JE (X.blk s H scope (compEnvC scope cl C X.env) fp) W0 elt te)
    (hs : ∀ x, foldedSetIterable iter X.env x = pure x := by intro _; rfl) : JS X W (.Assign [.Name y py] (.ListComp elt [⟨tg, iter, ifs, 0⟩] scope pos) spos) (sAsg (mLc m (own.map (·.2)) g tt te fin) (gVar i)) := by
  refine ⟨(ps_setLc (wi := tMI X.K X.mg W m) (g := tMG X.K X.mg (some (own.map (·.2))) g) (tt := tM X.K X.mg RelB W0 tt) (te := tM X.K X.mg (RelD X.K X.mg) W0 te) hc hl.nd hl.n hyl hsw hi.pi ok (fun s H C cl fp => (hg s H C cl fp).pg) (fun s H C cl fp => (ht s H C cl fp).pts) (fun s H C cl fp => (he s H C cl fp).pe) hs).weak fun D σ H q => ?_⟩
  obtain ⟨s, ρ, rfl, ok, vr, p⟩ := q
  exact lc_run hf σ s.H _ ⟨s, ρ, rfl, ok, vr, PostS.bind vr p fun x s1 v x1 ok1 r1 vr1 p1 => p1 s1 _ rfl (Ext.refl s1) ok1 (vr1.set r1)⟩
end
end DL
namespace DL
open PySem PySem.Spec PyProof.Rows L2

/-! ### defs that take, change or hand back live objects -/
def refOk (n : Nat) : SV → Bool
  | .d _ => true
  | .r m => decide (m < n)
def refsOk (n : Nat) : LO → Bool
  | .dead => true
  | .lst xs => xs.all (refOk n)
/-- what the callee made is forgotten, if nothing that stays speaks of it -/
def cutL (n : Nat) (L : List LO) : List LO := if (L.take n).all (refsOk n) = true then L.take n else L
mutual
def frzN (n : Nat) : Nat → List LO → SV → Option D
  | _, _, .d x => some x
  | 0, _, .r _ => none
  | k + 1, L, .r m => if n ≤ m then match L[m]? with
    | some (.lst xs) => match frzsN n k L xs with | some ds => some (.lst ds) | none => none
    | _ => none
    else none
def frzsN (n : Nat) : Nat → List LO → List SV → Option (List D)
  | _, _, [] => some []
  | k, L, x :: xs => match frzN n k L x with
    | some d => match frzsN n k L xs with | some ds => some (d :: ds) | none => none
    | none => none
end
/-- a result, and what stays of the live objects -/
def outL (keep : Bool) (n : Nat) (L : List LO) : SV → Option (RR SV × List LO)
  | .d d => some (.ok (.d d), cutL n L)
  | .r m => if keep = true then some (.ok (.r m), L) else if (L.take n).all (refsOk n) = true then match frzN n 4 L (.r m) with
    | some d => some (.ok (.d d), L.take n)
    | none => none
    else none
def envL (n : Nat) (svs : List SV) : Env' := svs.map some ++ List.replicate (n - svs.length) none
def runL (n : Nat) (keep : Bool) (m : MS) : List SV → List LO → Option (RR SV × List LO) := fun svs L => match m (envL n svs) L with
  | some (.nx, _, L') => some (.ok (.d .non), cutL L.length L')
  | some (.rt sv, _, L') => outL keep L.length L' sv
  | some (.ex e, _, L') => some (.ex e, cutL L.length L')
  | _ => none
def spL (K : PySem.W.Frag) (mg : Str → Option Value) (F : List SV → List LO → Option (RR SV × List LO)) (n : Nat) : Sp := fun vs H Q E => vs.length = n ∧ ∃ (s : HS) (svs : List SV), s.H = H ∧ s.Ok K mg ∧ Paired (VS K mg s) svs vs ∧
  match F svs s.L with
  | none => False
  | some (.ok sv, L') => ∀ (s' : HS) (v : V), s'.L = L' → Ext s s' → s'.Ok K mg → VS K mg s' sv v → Q v s'.H
  | some (.ex e, L') => ∀ (s' : HS) (cls : Value) (d : Option Addr), s'.L = L' → Ext s s' → s'.Ok K mg → ExAt K mg s'.H e cls d → E cls d s'.H
structure FnL (P : Program) (w : World) (K : PySem.W.Frag) (mg : Str → Option Value) (base : Heap) (x : Str) (k n : Nat) (F : List SV → List LO → Option (RR SV × List LO)) : Prop where
  ex : ∃ (f : Addr) (fd : FuncData) (ps : List Str), FnOk P w K mg base (L2.CX P w) k f fd ps (spL K mg F n) ∧ mg x = some (.ref f) ∧ PySem.W.keepIn K (.ref f) = true ∧ Binds K fd ps []
abbrev FnXL (X : Cx) (x : Str) (k n : Nat) (F : List SV → List LO → Option (RR SV × List LO)) : Prop := FnL X.prog X.w X.K X.mg X.base x k n F
section
variable {K : PySem.W.Frag} {mg : Str → Option Value} {s s' : HS}
theorem take_ok (x : Ext s s') (ok : s'.Ok K mg) (hs : s.Ok K mg) (hall : (s'.L.take s.L.length).all (refsOk s.L.length) = true) : ∃ s'' : HS, s''.H = s'.H ∧ s''.L = s'.L.take s.L.length ∧ s''.α = s'.α.take s.L.length ∧ s''.P = s'.P ∧ Ext s s'' ∧ s''.Ok K mg ∧ ∀ (d : D) (v : V), VS K mg s' (.d d) v → VS K mg s'' (.d d) v := by
    have hlive : ∀ a, ({ s' with α := s'.α.take s.L.length, L := s'.L.take s.L.length } : HS).live a → s'.live a := by
      rintro a ⟨n, lo, h1, h2, h3⟩
      have h1 : (s'.α.take s.L.length)[n]? = some a := h1
      have h2 : (s'.L.take s.L.length)[n]? = some lo := h2
      rw [List.getElem?_take] at h1 h2
      split at h1
      · rename_i hn
        rw [if_pos hn] at h2
        exact ⟨n, lo, h1, h2, h3⟩
      · cases h1
    have hsame : Same s'.fz ({ s' with α := s'.α.take s.L.length, L := s'.L.take s.L.length } : HS).fz := fun a o h => by
      obtain ⟨h1, h2, h3⟩ := HS.fz_some.mp h
      exact HS.fz_some.mpr ⟨fun z => h1 (hlive a z), h2, h3⟩
    refine ⟨{ s' with α := s'.α.take s.L.length, L := s'.L.take s.L.length }, rfl, rfl, rfl, rfl, ⟨x.P, x.newP, ?_, x.keep, fun a z => x.new a (hlive a z), x.there⟩, ⟨?_, ok.nd.sublist (List.take_sublist _ _), fun a ha => ok.np a (List.mem_of_mem_take ha), ok.hp, fun n lo a h1 h2 => ?_⟩, fun d v h => Den.mono hsame _ _ h⟩
    · obtain ⟨m, e⟩ := x.α
      refine ⟨[], ?_⟩
      show s'.α.take s.L.length = _
      rw [e, ← hs.len, List.append_nil]
      simp
    · show (s'.α.take s.L.length).length = (s'.L.take s.L.length).length
      simp [ok.len]
    · have h1' : (s'.L.take s.L.length)[n]? = some lo := h1
      have h2' : (s'.α.take s.L.length)[n]? = some a := h2
      rw [List.getElem?_take] at h1' h2'
      split at h1'
      · rename_i hn
        rw [if_pos hn] at h2'
        have hob := ok.obj n lo a h1' h2'
        cases lo with
        | dead => exact hob
        | lst xs =>
          obtain ⟨vs, g1, g2⟩ := hob
          have hr : refsOk s.L.length (.lst xs) = true := List.all_eq_true.mp hall _ (List.mem_of_getElem? h1)
          refine ⟨vs, g1, ?_⟩
          have hr2 : xs.all (refOk s.L.length) = true := hr
          clear g1 h1 h1' hr
          induction g2 with
          | nil => exact .nil
          | @cons sv v xs vs q _ ih =>
            rw [List.all_cons, Bool.and_eq_true] at hr2
            refine .cons ?_ (ih hr2.2)
            cases sv with
            | d d => exact Den.mono hsame _ _ q
            | r m =>
              obtain ⟨b, g1, g2⟩ := q
              refine ⟨b, ?_, g2⟩
              show (s'.α.take s.L.length)[m]? = some b
              rw [List.getElem?_take, if_pos (by have := hr2.1; unfold refOk at this; simpa using this)]
              exact g1
      · cases h1'
theorem cut_ok (x : Ext s s') (ok : s'.Ok K mg) (hs : s.Ok K mg) : ∃ s'' : HS, s''.H = s'.H ∧ s''.L = cutL s.L.length s'.L ∧ Ext s s'' ∧ s''.Ok K mg ∧ ∀ (d : D) (v : V), VS K mg s' (.d d) v → VS K mg s'' (.d d) v := by
  unfold cutL
  split
  · rename_i hall
    obtain ⟨s'', h1, h2, _, _, h3, h4, h5⟩ := take_ok x ok hs hall
    exact ⟨s'', h1, h2, h3, h4, h5⟩
  · exact ⟨s', rfl, rfl, x, ok, fun _ _ h => h⟩
theorem nodup_at {α : Type} : ∀ {l : List α} {i j : Nat} {a : α}, l.Nodup → l[i]? = some a → l[j]? = some a → i = j
  | [], i, j, a, _, h, _ => by simp at h
  | x :: l, 0, 0, a, _, _, _ => rfl
  | x :: l, 0, j + 1, a, nd, h1, h2 => by
    simp at h1 h2; subst h1
    exact absurd (List.mem_of_getElem? h2) (List.nodup_cons.mp nd).1
  | x :: l, i + 1, 0, a, nd, h1, h2 => by
    simp at h1 h2; subst h2
    exact absurd (List.mem_of_getElem? h1) (List.nodup_cons.mp nd).1
  | x :: l, i + 1, j + 1, a, nd, h1, h2 => by
    rw [nodup_at (i := i) (j := j) (List.nodup_cons.mp nd).2 (by simpa using h1) (by simpa using h2)]
mutual
theorem frzN_den {s'' : HS} {n : Nat} (ok : s'.Ok K mg) (hα : s''.α = s'.α.take n) (hH : s''.H = s'.H) (hP : s''.P = s'.P) (hs : Same s'.fz s''.fz) : ∀ (k : Nat) (sv : SV) (v : V) (d : D), frzN n k s'.L sv = some d → VS K mg s' sv v → Den K mg s''.fz v d
  | k, .d x, v, d, h, hv => by
    have : d = x := by
      cases k <;> (unfold frzN at h; exact (Option.some.inj h).symm)
    subst this
    exact Den.mono hs _ _ hv
  | 0, .r m, v, d, h, hv => by unfold frzN at h; cases h
  | k + 1, .r m, v, d, h, hv => by
    obtain ⟨a, h1, rfl⟩ := hv
    unfold frzN at h
    split at h
    · rename_i hn
      split at h
      · rename_i xs e
        split at h
        · rename_i ds e2
          cases h
          obtain ⟨vs, h2, h3⟩ := ok.obj m _ a e h1
          refine .lst (HS.fz_some.mpr ⟨?_, ?_, by rw [hH]; exact h2⟩) (frzsN_den ok hα hH hP hs k xs vs ds e2 h3)
          · rintro ⟨j, lo, g1, _, _⟩
            rw [hα, List.getElem?_take] at g1
            split at g1
            · rename_i hj
              have := nodup_at ok.nd g1 h1
              omega
            · cases g1
          · rw [hP]
            exact ok.np a (List.mem_of_getElem? h1)
        · cases h
      · cases h
    · cases h
theorem frzsN_den {s'' : HS} {n : Nat} (ok : s'.Ok K mg) (hα : s''.α = s'.α.take n) (hH : s''.H = s'.H) (hP : s''.P = s'.P) (hs : Same s'.fz s''.fz) : ∀ (k : Nat) (xs : List SV) (vs : List V) (ds : List D), frzsN n k s'.L xs = some ds → Paired (VS K mg s') xs vs → DenAll K mg s''.fz vs ds
  | _, [], _, _, h, .nil => by unfold frzsN at h; cases h; exact .nil
  | k, x :: xs, _, _, h, .cons a b => by
    unfold frzsN at h
    split at h
    · rename_i d e
      split at h
      · rename_i ds e2
        cases h
        exact .cons (frzN_den ok hα hH hP hs k x _ d e a) (frzsN_den ok hα hH hP hs k xs _ ds e2 b)
      · cases h
    · cases h
end
end
section
variable {P : Program} {w : World} {K : PySem.W.Frag} {mg : Str → Option Value} {base : Heap}
theorem vr_startL {s : HS} {N : List Str} {vs : List V} {svs : List SV} (h : Paired (VS K mg s) svs vs) : VR K mg s (envL N.length svs) (L2.start N vs) := by
  have hl := pair_len h
  unfold envL L2.start
  refine ⟨by simp [hl], fun i sv hi => ?_⟩
  by_cases hlt : i < svs.length
  · rw [List.getElem?_append_left (by simpa using hlt), List.getElem?_map] at hi
    rw [List.getElem?_append_left (by simpa [← hl] using hlt), List.getElem?_map]
    have hd : svs[i]? = some svs[i] := List.getElem?_eq_getElem hlt
    rw [hd] at hi
    obtain ⟨v, h1, h2⟩ := pair_get h hd
    rw [h1]
    cases hi
    exact ⟨v, rfl, h2⟩
  · rw [List.getElem?_append_right (by simpa using hlt), List.getElem?_replicate] at hi
    split at hi <;> cases hi
/-- what a def's body is shown in -/
structure BodyCx (P : Program) (w : World) (K : PySem.W.Frag) (mg : Str → Option Value) (base : Heap) (N : List Str) (sc : Scope) (k : Nat) (X : Cx) (W : WX) : Prop where
  prog : X.prog = P
  w : X.w = w
  K : X.K = K
  mg : X.mg = mg
  base : X.base = base
  n : X.N = N
  sc : X.env.scope = sc
  calm : X.calm = true
  tk : Takes X W
  room : Room k X.A
  po : PassesOwn (model X.prog X.w) X.A X.env X.xe
  fn : X.fn = fun _ => true
  stk : X.stack = X.env :: X.outer
  frm : X.env.frame = some X.env.locals
theorem fnL_of {x : Str} {st : Stmt} {f : Addr} {fd : FuncData} {N ps : List Str} {k : Nat} {m : MS} (keep : Bool) (F : Fun K x x st f fd) (S : FnScope N ps (defScope st)) (hm : mg x = some (.ref f)) (hb : Binds K fd ps [])
    (hbody : ∀ (X : Cx) (W : WX), BodyCx P w K mg base N (defScope st) k X W → JSs X W (defBody st) m) : FnL P w K mg base x (k + 1) ps.length (runL N.length keep m) := by
  refine ⟨f, fd, ps, F.okX S (fun vs H Q E h => h.1) (fun cdv A outer s H vs Q E hr h => ?_), hm, F.kp, hb⟩
  obtain ⟨hlen, s, svs, rfl, ok, hd, h⟩ := h
  refine ⟨_, (hbody (cxOf (L2.CX P w) P w K mg base N x (defScope st) f cdv A outer _ s.H E) (fun cls d _ H => E cls d H) ⟨rfl, rfl, rfl, rfl, rfl, rfl, rfl, rfl, takes_of rfl rfl rfl rfl, hr, passes_of rfl, rfl, rfl, rfl⟩).pss, ?_⟩
  refine ⟨s, envL N.length svs, rfl, ok, vr_startL hd, ?_⟩
  unfold runL at h
  rcases e : m (envL N.length svs) s.L with _ | ⟨_ | _ | _ | sv | ex, ρ', L'⟩ <;> rw [e] at h
  · exact h.elim
  · intro s' σ' e1 x1 ok1 r1
    subst e1
    obtain ⟨s'', h1, h2, h3, h4, _⟩ := cut_ok x1 ok1 ok
    have := h s'' .non h2 h3 h4 .non
    rw [h1] at this
    exact this
  · exact h.elim
  · exact h.elim
  · intro s' v e1 x1 ok1 r1
    subst e1
    dsimp only at h
    unfold outL at h
    cases sv with
    | d d =>
      obtain ⟨s'', h1, h2, h3, h4, h5⟩ := cut_ok x1 ok1 ok
      have := h s'' v h2 h3 h4 (h5 d v r1)
      rw [h1] at this
      exact this
    | r n =>
      dsimp only at h
      by_cases hk : keep = true
      · rw [if_pos hk] at h
        exact h s' v rfl x1 ok1 r1
      · rw [if_neg hk] at h
        by_cases hall : (s'.L.take s.L.length).all (refsOk s.L.length) = true
        · rw [if_pos hall] at h
          obtain ⟨s'', h1, h2, h3, h4, h5, h6, h7⟩ := take_ok x1 ok1 ok hall
          cases ef : frzN s.L.length 4 s'.L (.r n) with
          | none => rw [ef] at h; exact h.elim
          | some d =>
            rw [ef] at h
            have hs : Same s'.fz s''.fz := fun a o q => by
              obtain ⟨g1, g2, g3⟩ := HS.fz_some.mp q
              refine HS.fz_some.mpr ⟨?_, by rw [h4]; exact g2, by rw [h1]; exact g3⟩
              rintro ⟨j, lo, k1, k2, k3⟩
              rw [h3, List.getElem?_take] at k1
              rw [h2, List.getElem?_take] at k2
              split at k1
              · rename_i hj
                rw [if_pos hj] at k2
                exact g1 ⟨j, lo, k1, k2, k3⟩
              · cases k1
            have := h s'' v h2 h5 h6 (frzN_den ok1 h3 h1 h4 hs 4 _ v d ef r1)
            rw [h1] at this
            exact this
        · rw [if_neg hall] at h; exact h.elim
  · intro s' σ' cls d e1 x1 ok1 r1 q
    subst e1
    obtain ⟨s'', h1, h2, h3, h4, _⟩ := cut_ok x1 ok1 ok
    have := h s'' cls d h2 h3 h4 (by rw [h1]; exact q)
    rw [h1] at this
    exact this
theorem fnP_of' {x : Str} {st : Stmt} {f : Addr} {fd : FuncData} {N ps : List Str} {k : Nat} {m : MS} (F : Fun K x x st f fd) (S : FnScope N ps (defScope st)) (hm : mg x = some (.ref f)) (hb : Binds K fd ps [])
    (hbody : ∀ (X : Cx) (W : WX), BodyCx P w K mg base N (defScope st) k X W → JSs X W (defBody st) m) : FnP P w K mg base x (k + 1) ps.length (runP N.length m) :=
  fnP_of F S hm hb fun X W h1 h2 h3 h4 h5 h6 h7 h8 h9 h10 h11 h12 h13 h14 => hbody X W ⟨h1, h2, h3, h4, h5, h6, h7, h8, h9, h10, h11, h12, h13, h14⟩
/-- a def that calls itself: by its depth -/
def recP (n : Nat) (m : (List D → Option (RR D)) → MS) : Nat → List D → Option (RR D)
  | 0 => fun _ => none
  | i + 1 => runP n (m (recP n m i))
theorem fnP_rec {x : Str} {st : Stmt} {f : Addr} {fd : FuncData} {N ps : List Str} {k : Nat} {m : (List D → Option (RR D)) → MS} (F : Fun K x x st f fd) (S : FnScope N ps (defScope st)) (hm : mg x = some (.ref f)) (hb : Binds K fd ps [])
    (hbody : ∀ (j : Nat) (G : List D → Option (RR D)), k ≤ j → FnP P w K mg base x j ps.length G → ∀ (X : Cx) (W : WX), BodyCx P w K mg base N (defScope st) j X W → JSs X W (defBody st) (m G)) :
    ∀ i, FnP P w K mg base x (k + i) ps.length (recP N.length m i)
  | 0 => by
    refine ⟨f, fd, ps, ⟨fun vs H Q E h => h.1, fun A outer s H args us vs Q E hr he hb hv h => ?_⟩, hm, F.kp, hb⟩
    obtain ⟨_, _, _, _, _, h⟩ := h
    exact h.elim
  | i + 1 => fnP_of' F S hm hb (hbody (k + i) _ (by omega) (fnP_rec F S hm hb hbody i))
end

/-! ### a call of such a def -/
def mCallL (F : List SV → List LO → Option (RR SV × List LO)) (ms : Mo (List SV)) : Mo SV := ms.bind fun xs _ L => F xs L
section
variable {X : Cx} {W : WX} {e : Expr} {es : List Expr} {p pos : Pos} {ms : Mo (List SV)} {F : List SV → List LO → Option (RR SV × List LO)} {x : Str} {k n : Nat}
theorem jCallL (h : FnXL X x k n F) (hr : Room k X.A) (tk : Takes X W) (hg : Gl X x) (hdb : (x == ("__debug__" : Str)) = false) (ha : JA X W (e :: es) ms)
    (hl : ∀ ρ L xs L', ms ρ L = some (.ok xs, L') → xs.length = n) (he : starEach (e :: es) X.env = (false, eval e X.env) :: starEach es X.env := by rfl) (hpl : (backTo pos (starEach es X.env)).any (·.1) = false := by rfl) :
    JE X W (.Call (.Name x p) (e :: es) [] pos) (mCallL F ms) := by
  obtain ⟨f, fd, ps, hF, hm, hk, hb⟩ := h.ex
  refine ⟨(pe_callS (E := WE W) hF hr hg hm hk hb (fun σ => passAt tk σ) ha.pa hdb he hpl).weak fun σ H Q q => ?_⟩
  obtain ⟨s, ρ, rfl, ok, vr, p⟩ := q
  refine ⟨s, ρ, rfl, ok, vr, ?_⟩
  have pp := p
  unfold mCallL Mo.bind at pp
  rcases e1 : ms ρ s.L with _ | ⟨xs | ex, L1⟩ <;> rw [e1] at pp
  · exact pp
  · intro s1 vs e2 x1 ok1 r1
    subst e2
    refine ⟨by rw [← pair_len r1]; exact hl _ _ _ _ e1, s1, xs, rfl, ok1, r1, ?_⟩
    dsimp only at pp
    rcases e3 : F xs s1.L with _ | ⟨_ | _, L2⟩ <;> rw [e3] at pp
    · exact pp
    · exact fun s2 b e4 x2 ok2 r2 => pp s2 b e4 (x1.trans x2) ok2 r2
    · exact fun s2 c d e4 x2 ok2 r2 => pp s2 c d e4 (x1.trans x2) ok2 r2
  · exact pp
end
end DL
namespace DL
open PySem PySem.Spec PyProof.Rows L2

/-! ### a[i] -/
def opIdx : SV → SV → Mo SV := fun x y _ L => match y with
  | .d (.int i) => match x with
    | .d (.lst xs) => match atI xs i with | some d => some (.ok (.d d), L) | none => none
    | .d (.tup xs) => match atI xs i with | some d => some (.ok (.d d), L) | none => none
    | .d (.str s) => match atI s i with | some c => some (.ok (.d (.str [c])), L) | none => none
    | .r n => match L[n]? with
      | some (.lst xs) => match atI xs i with | some v => some (.ok v, L) | none => none
      | _ => none
    | _ => none
  | _ => none
theorem atI_pair {α β : Type} {F : α → β → Prop} {l : List α} {m : List β} (h : Paired F l m) {i : Int} {a : α} (e : atI l i = some a) : ∃ b, atI m i = some b ∧ F a b := by
  unfold atI at e ⊢
  rw [← pair_len h]
  cases ei : ixN l.length i with
  | none => rw [ei] at e; cases e
  | some j =>
    rw [ei] at e
    exact pair_get h e
theorem atI_pair' {α β : Type} {F : α → β → Prop} {l : List α} {m : List β} (h : Paired F l m) {i : Int} {b : β} (e : atI m i = some b) : ∃ a, atI l i = some a ∧ F a b := by
  unfold atI at e ⊢
  rw [pair_len h]
  cases ei : ixN m.length i with
  | none => rw [ei] at e; cases e
  | some j =>
    rw [ei] at e
    exact pair_get' h e
theorem atI_mem {α : Type} {l : List α} {i : Int} {a : α} (e : atI l i = some a) : a ∈ l := by
  obtain ⟨j, _, h, _⟩ := atI_get e
  exact List.mem_of_getElem? h
section
variable {X : Cx} {W : WX} {a b : Expr} {ma mb : Mo SV} {pos : Pos}
theorem jIdx (ha : JE X W a ma) (hb : JE X W b mb) (hs : PlainIx b := by exact fun _ _ => rfl) : JE X W (.Subscript a b pos) (m2 opIdx ma mb) := by
  refine ⟨(pe_ix ix_seq ha.pe hb.pe hs).weak (m2_run (g := getItem) fun W σ ρ s x y vx vy Q ok hx hy p => ?_)⟩
  unfold opIdx at p
  split at p
  · rename_i i
    cases hy
    split at p
    · rename_i xs
      split at p
      · rename_i d e
        cases hx with | @lst q vs _ h1 h2 =>
        obtain ⟨v, e2, r⟩ := atI_pair' h2.pair e
        exact .inl ⟨q, vs, i, v, rfl, rfl, SqL.of ((HS.fz_same s) _ _ h1), e2, Post.here (Rel := RelD X.K X.mg) p ok r⟩
      · exact p.elim
    · rename_i xs
      split at p
      · rename_i d e
        cases hx with | @tup q vs _ h1 h2 =>
        obtain ⟨v, e2, r⟩ := atI_pair' h2.pair e
        exact .inr (.inl ⟨q, vs, i, v, rfl, rfl, Same.seqT (HS.fz_same s) h1, e2, Post.here (Rel := RelD X.K X.mg) p ok r⟩)
      · exact p.elim
    · rename_i l
      split at p
      · rename_i c e
        cases hx with | str _ hs =>
        refine .inr (.inr ⟨_, i, c, rfl, rfl, by rw [mkS_len]; exact hs.1, by rw [mkS_cps]; exact e, Post.here (Rel := RelD X.K X.mg) p ok ?_⟩)
        exact .str [c] ⟨by rw [sizeLine_eq]; simp, fun x hx => by simp at hx; subst hx; exact hs.2 _ (atI_mem e)⟩
      · exact p.elim
    · rename_i n
      split at p
      · rename_i xs el
        split at p
        · rename_i sv e
          obtain ⟨q, h1, rfl⟩ := hx
          obtain ⟨vs, h2, h3⟩ := ok.obj n _ q el h1
          obtain ⟨v, e2, r⟩ := atI_pair h3 e
          exact .inl ⟨q, vs, i, v, rfl, rfl, SqL.of h2, e2, Post.here (Rel := RelD X.K X.mg) p ok r⟩
        · exact p.elim
      · exact p.elim
    · exact p.elim
  · exact p.elim
end

/-! ### a live list is changed -/
section
variable {K : PySem.W.Frag} {mg : Str → Option Value} {s : HS}
theorem live_at (ok : s.Ok K mg) {n : Nat} {xs : List SV} {a : Addr} (h : s.L[n]? = some (.lst xs)) (ha : s.α[n]? = some a) : s.live a := ⟨n, _, ha, h, by simp⟩
theorem live_set {n : Nat} {xs xs' : List SV} {H' : Hp} (h : s.L[n]? = some (.lst xs)) {b : Addr} : ({ s with L := s.L.set n (.lst xs'), H := H' } : HS).live b ↔ s.live b := by
  have hn := (List.getElem?_eq_some_iff.mp h).1
  constructor
  · rintro ⟨j, lo, h1, h2, h3⟩
    have h2 : (s.L.set n (.lst xs'))[j]? = some lo := h2
    by_cases e : n = j
    · subst e; exact ⟨n, _, h1, h, by simp⟩
    · rw [List.getElem?_set_ne e] at h2; exact ⟨j, lo, h1, h2, h3⟩
  · rintro ⟨j, lo, h1, h2, h3⟩
    by_cases e : n = j
    · subst e; exact ⟨n, .lst xs', h1, by show (s.L.set n _)[n]? = _; rw [List.getElem?_set_self hn], by simp⟩
    · exact ⟨j, lo, h1, by show (s.L.set n _)[j]? = _; rw [List.getElem?_set_ne e]; exact h2, h3⟩
theorem fz_set (ok : s.Ok K mg) {n : Nat} {xs xs' : List SV} {a : Addr} {o : HO} (h : s.L[n]? = some (.lst xs)) (ha : s.α[n]? = some a) : ({ s with L := s.L.set n (.lst xs'), H := upd s.H a o } : HS).fz = s.fz := by
  have key : ∀ b u, ({ s with L := s.L.set n (.lst xs'), H := upd s.H a o } : HS).fz b = some u ↔ s.fz b = some u := fun b u => by
    rw [HS.fz_some, HS.fz_some, live_set h]
    refine and_congr_right fun hl => and_congr_right fun _ => ?_
    show upd s.H a o b = some u ↔ _
    rw [upd_ne (fun e => by subst e; exact hl (live_at ok h ha))]
  funext b
  cases e : s.fz b with
  | some u => exact (key b u).mpr e
  | none =>
    cases e2 : ({ s with L := s.L.set n (.lst xs'), H := upd s.H a o } : HS).fz b with
    | none => rfl
    | some u => rw [(key b u).mp e2] at e; cases e
theorem vs_set (ok : s.Ok K mg) {n : Nat} {xs xs' : List SV} {a : Addr} {o : HO} (h : s.L[n]? = some (.lst xs)) (ha : s.α[n]? = some a) {sv : SV} {v : V} (q : VS K mg s sv v) : VS K mg { s with L := s.L.set n (.lst xs'), H := upd s.H a o } sv v := by
  cases sv with
  | d d =>
    show Den K mg ({ s with L := s.L.set n (.lst xs'), H := upd s.H a o } : HS).fz v d
    rw [fz_set ok h ha]; exact q
  | r m => exact q
theorem ext_set (ok : s.Ok K mg) {n : Nat} {xs xs' : List SV} {a : Addr} {o : HO} (h : s.L[n]? = some (.lst xs)) (ha : s.α[n]? = some a) : Ext s { s with L := s.L.set n (.lst xs'), H := upd s.H a o } := by
  refine ⟨fun _ h => h, fun _ h => .inl h, ⟨[], by simp⟩, fun b u hl hb => ?_, fun b z => .inl ((live_set h).mp z), fun b hb => ?_⟩
  · show upd s.H a o b = some u
    rw [upd_ne (fun e => by subst e; exact hl (live_at ok h ha))]; exact hb
  · show upd s.H a o b ≠ none
    by_cases e : b = a
    · subst e; rw [upd_same]; simp
    · rw [upd_ne e]; exact hb
theorem ok_set (ok : s.Ok K mg) {n : Nat} {xs xs' : List SV} {vs' : List V} {a : Addr} (h : s.L[n]? = some (.lst xs)) (ha : s.α[n]? = some a) (hp : Paired (VS K mg s) xs' vs') : ({ s with L := s.L.set n (.lst xs'), H := upd s.H a (.lst vs') } : HS).Ok K mg := by
  have x := ext_set (xs' := xs') (o := .lst vs') ok h ha
  refine ⟨by simp [ok.len], ok.nd, ok.np, fun b hb => x.there b (ok.hp b hb), fun j lo b h1 h2 => ?_⟩
  have h1 : (s.L.set n (.lst xs'))[j]? = some lo := h1
  by_cases e : n = j
  · subst e
    rw [List.getElem?_set_self (List.getElem?_eq_some_iff.mp h).1] at h1
    cases h1
    have h2 : s.α[n]? = some b := h2
    rw [ha] at h2; cases h2
    exact ⟨vs', upd_same, pair_imp (fun _ _ q => vs_set ok h ha q) hp⟩
  · rw [List.getElem?_set_ne e] at h1
    have hne : b ≠ a := fun e2 => by subst e2; exact e (nodup_at ok.nd ha h2)
    have := ok.obj j lo b h1 h2
    cases lo with
    | dead => show upd s.H a _ b ≠ none; rw [upd_ne hne]; exact this
    | lst ys =>
      obtain ⟨ws, g1, g2⟩ := this
      exact ⟨ws, by show upd s.H a _ b = _; rw [upd_ne hne]; exact g1, pair_imp (fun _ _ q => vs_set ok h ha q) g2⟩
end
/-- a[i] = .. -/
def gIdx (mo mi : Mo SV) : MG := fun v ρ L => match mo ρ L with
  | some (.ok (.r n), L1) => match mi ρ L1 with
    | some (.ok (.d (.int k)), L2) => match L2[n]? with
      | some (.lst xs) => match ixN xs.length k with
        | some j => some (ρ, L2.set n (.lst (xs.set j v)))
        | none => none
      | _ => none
    | _ => none
  | _ => none
section
variable {X : Cx} {W : WX} {rs : Option (List Nat)} {o i : Expr} {mo mi : Mo SV} {pos : Pos}
theorem jgIdx (ho : JE X W o mo) (hi : JE X W i mi) (ha : ∀ v, assign (.Subscript o i pos) X.env v = (do
      let ov ← holding [v] (eval o X.env)
      let iv ← holding [v, ov] (eval i X.env)
      standAt pos
      holding [v, ov, iv] (setItem ov iv v)
      release [v, ov, iv] []) := by intro _; rfl) : JG X rs (.Subscript o i pos) (gIdx mo mi) := by
  refine ⟨PG.weak (pg_sub ho.pe hi.pe set_list ha) fun v σ H Q q => ?_⟩
  obtain ⟨s, ρ, sv, rfl, ok, vr, r, p⟩ := q
  unfold gIdx at p
  refine ⟨s, ρ, rfl, ok, vr, ?_⟩
  rcases e1 : mo ρ s.L with _ | ⟨(d | n) | _, L1⟩ <;> rw [e1] at p
  · exact p.elim
  · exact p.elim
  · intro s1 ov h1 x1 ok1 r1
    subst h1
    dsimp only at p
    refine ⟨s1, ρ, rfl, ok1, vr.ext x1, ?_⟩
    rcases e2 : mi ρ s1.L with _ | ⟨(d | m) | _, L2⟩ <;> rw [e2] at p
    · exact p.elim
    · intro s2 iv h2 x2 ok2 r2
      subst h2
      cases d <;> try exact p.elim
      rename_i k
      dsimp only at p
      cases r2
      rcases e3 : s2.L[n]? with _ | (_ | xs) <;> rw [e3] at p
      · exact p.elim
      · exact p.elim
      · dsimp only at p
        rcases e4 : ixN xs.length k with _ | j <;> rw [e4] at p
        · exact p.elim
        · obtain ⟨a, ha, rfl⟩ := VS.ext x2 r1
          obtain ⟨vs, g1, g2⟩ := ok2.obj n _ a e3 ha
          refine ⟨a, vs, k, j, rfl, rfl, g1, by rw [← pair_len g2]; exact e4, ?_⟩
          refine p { s2 with L := s2.L.set n (.lst (xs.set j sv)), H := upd s2.H a (.lst (vs.set j v)) } σ rfl ((x1.trans x2).trans (ext_set ok2 e3 ha)) (ok_set ok2 e3 ha (pair_set (VS.ext x2 (VS.ext x1 r)) j g2)) (((vr.ext x1).ext x2).ext (ext_set ok2 e3 ha)) (Rw.refl _ _)
    · exact p.elim
    · exact p.elim
  · exact p.elim
/-- x.append(e) -/
def appTo (n : Nat) (y : SV) : Mo SV := fun _ L => match L[n]? with
  | some (.lst xs) => if xs.length < 16777216 then some (.ok (.d .non), L.set n (.lst (xs ++ [y]))) else none
  | _ => none
def mAppend (mo me : Mo SV) : Mo SV := mo.bind fun x ρ L => match x with
  | .r n => match L[n]? with
    | some (.lst _) => (me.bind (appTo n)) ρ L
    | _ => none
  | _ => none
theorem jAppend {e : Expr} {me : Mo SV} {apos cpos : Pos} (ho : JE X W o mo) (he : JE X W e me) (hs : starEach (e :: []) X.env = (false, eval e X.env) :: starEach [] X.env := by rfl) (hbase : attributeBase o "append" X.env (eval o X.env) = eval o X.env := by rfl)
    (hfew : ((backTo cpos (starEach (e :: []) X.env)).all (fun x => !x.1) && (backToKw cpos (keywordEach [] X.env)).all (fun x => x.1.isSome)
      && decide ((e :: []).length + ([] : List Keyword).length + (if ([] : List Keyword).isEmpty then 0 else 1) < 30)) = true := by rfl)
    (hline : (apos.endLine == cpos.line) = true := by rfl) (hplain : (backTo cpos (starEach [] X.env)).any (·.1) = false := by rfl) :
    JE X W (.Call (.Attribute o "append" apos) [e] [] cpos) (mAppend mo me) := by
  refine ⟨(pe_bm PySem.F.plainAttrs_list PySem.F.slot_list_append PySem.F.type_list_append mt_append ho.pe (pa_cons he.pe pa_nil hs) hbase hfew hline hs hplain).weak fun σ H Q q => ?_⟩
  obtain ⟨s, ρ, rfl, ok, vr, p⟩ := q
  refine ⟨s, ρ, rfl, ok, vr, Post.bind p fun x s1 v x1 ok1 r1 p1 => ?_⟩
  cases x with
  | d d => exact p1.elim
  | r n =>
    obtain ⟨a, ha, rfl⟩ := r1
    dsimp only at p1
    rcases e1 : s1.L[n]? with _ | (_ | xs0) <;> rw [e1] at p1
    · exact p1.elim
    · exact p1.elim
    · obtain ⟨vs0, g0, _⟩ := ok1.obj n _ a e1 ha
      dsimp only at p1
      refine ⟨Or.inl ⟨rfl, vs0, SqL.of g0⟩, s1, ρ, rfl, ok1, vr.ext x1, Post.bind p1 fun y s2 u x2 ok2 r2 p2 => ?_⟩
      unfold appTo at p2
      rcases e2 : s2.L[n]? with _ | (_ | xs) <;> rw [e2] at p2
      · exact p2.elim
      · exact p2.elim
      · dsimp only at p2
        split at p2
        · rename_i hl
          have ha2 := x2.get ha
          obtain ⟨vs, g1, g2⟩ := ok2.obj n _ a e2 ha2
          refine ⟨a, vs, u, rfl, rfl, g1, by rw [← pair_len g2, sizeLine_eq]; exact hl, ?_⟩
          exact p2 { s2 with L := s2.L.set n (.lst (xs ++ [y])), H := upd s2.H a (.lst (vs ++ [u])) } .non rfl (ext_set ok2 e2 ha2) (ok_set ok2 e2 ha2 (pair_app g2 (.cons r2 .nil))) .non
        · exact p2.elim
end

/-! ### raise -/
structure ExcC (X : Cx) (x : Str) : Prop where
  ex : ∃ C, X.mg x = some (.ref C) ∧ PySem.W.excIn X.K C [.type "ValueError", .type "Exception", .type "BaseException", .type "object"] "ValueError.__new__" = true ∧ PySem.W.keepIn X.K (.ref C) = true ∧
    PySem.W.subIn X.K (.ref C) (.type "BaseException") = some true ∧ PySem.W.typeIn X.K (.ref C) = some (.type "type")
def sRaise (x : Str) : MS := fun ρ L => some (.ex ⟨x, []⟩, ρ, L)
theorem jRaise {X : Cx} {W : WX} {x m : Str} {j : Nat} {p p2 pos pos' : Pos} (hc : X.calm = true) (tk : Takes X W) (h : ExcC X x) (hg : Gl X x) (hdb : (x == ("__debug__" : Str)) = false) : JS X W (.Raise (some (.Call (.Name x p) [.Constant (.str m) j p2] [] pos')) none pos) (sRaise x) := by
  obtain ⟨C, hm, hx, hk, hs, ht⟩ := h.ex
  refine ⟨(ps_raise hc tk (pmk_own PySem.F.excBase_ValueError hx hm hk (raises_own hs ht) hg hdb)).weak fun D σ H q => ?_⟩
  obtain ⟨s, ρ, rfl, ok, vr, p⟩ := q
  exact p s σ (.ref C) none rfl (Ext.refl s) ok vr ⟨C, rfl, hm, .inl ⟨rfl, rfl⟩⟩

/-! ### all, any, sum -/
def boolsOf : List D → Option (List Bool)
  | [] => some []
  | .bl b :: r => match boolsOf r with | some bs => some (b :: bs) | none => none
  | _ :: _ => none
def intsOf : List D → Option (List Int)
  | [] => some []
  | .int b :: r => match intsOf r with | some bs => some (b :: bs) | none => none
  | _ :: _ => none
theorem boolsOf_den {K : PySem.W.Frag} {mg : Str → Option Value} {H : Hp} : ∀ {vs : List V} {ds : List D} {bs : List Bool}, Paired (Den K mg H) vs ds → boolsOf ds = some bs → vs = bs.map V.bl
  | _, [], _, .nil, h => by cases h; rfl
  | _, .bl b :: r, _, .cons a t, h => by
    unfold boolsOf at h
    split at h
    · rename_i bs e
      cases h; cases a
      rw [boolsOf_den t e]; rfl
    · cases h
  | _, .non :: _, _, _, h | _, .int _ :: _, _, _, h | _, .str _ :: _, _, _, h | _, .tup _ :: _, _, _, h | _, .lst _ :: _, _, _, h | _, .dct _ :: _, _, _, h | _, .glo _ :: _, _, _, h | _, .scr _ :: _, _, _, h | _, .typ _ :: _, _, _, h => by cases h
theorem intsOf_den {K : PySem.W.Frag} {mg : Str → Option Value} {H : Hp} : ∀ {vs : List V} {ds : List D} {bs : List Int}, Paired (Den K mg H) vs ds → intsOf ds = some bs → vs = bs.map V.int
  | _, [], _, .nil, h => by cases h; rfl
  | _, .int b :: r, _, .cons a t, h => by
    unfold intsOf at h
    split at h
    · rename_i bs e
      cases h; cases a
      rw [intsOf_den t e]; rfl
    · cases h
  | _, .non :: _, _, _, h | _, .bl _ :: _, _, _, h | _, .str _ :: _, _, _, h | _, .tup _ :: _, _, _, h | _, .lst _ :: _, _, _, h | _, .dct _ :: _, _, _, h | _, .glo _ :: _, _, _, h | _, .scr _ :: _, _, _, h | _, .typ _ :: _, _, _, h => by cases h
def allD : D → Option D
  | .lst xs => match boolsOf xs with | some bs => some (.bl (bs.all id)) | none => none
  | _ => none
def anyD : D → Option D
  | .lst xs => match boolsOf xs with | some bs => some (.bl (bs.any id)) | none => none
  | _ => none
def sumD : D → Option D
  | .lst xs => match intsOf xs with | some bs => some (.int bs.sum) | none => none
  | _ => none
def least : List Int → Int
  | [] => 0
  | x :: xs => xs.foldl min x
def greatest : List Int → Int
  | [] => 0
  | x :: xs => xs.foldl max x
theorem foldl_min_le : ∀ (l : List Int) (x : Int), l.foldl min x ≤ x ∧ (∀ y ∈ l, l.foldl min x ≤ y) ∧ (l.foldl min x = x ∨ l.foldl min x ∈ l)
  | [], x => ⟨Int.le_refl _, by simp, .inl rfl⟩
  | a :: l, x => by
    obtain ⟨h1, h2, h3⟩ := foldl_min_le l (min x a)
    simp only [List.foldl_cons]
    refine ⟨by omega, fun y hy => ?_, ?_⟩
    · rcases List.mem_cons.mp hy with rfl | hy
      · omega
      · exact h2 y hy
    · rcases h3 with h3 | h3
      · by_cases hc : x ≤ a
        · left; rw [h3]; omega
        · right; rw [h3, show min x a = a by omega]; exact List.mem_cons_self
      · exact .inr (List.mem_cons_of_mem _ h3)
theorem foldl_max_le : ∀ (l : List Int) (x : Int), x ≤ l.foldl max x ∧ (∀ y ∈ l, y ≤ l.foldl max x) ∧ (l.foldl max x = x ∨ l.foldl max x ∈ l)
  | [], x => ⟨Int.le_refl _, by simp, .inl rfl⟩
  | a :: l, x => by
    obtain ⟨h1, h2, h3⟩ := foldl_max_le l (max x a)
    simp only [List.foldl_cons]
    refine ⟨by omega, fun y hy => ?_, ?_⟩
    · rcases List.mem_cons.mp hy with rfl | hy
      · omega
      · exact h2 y hy
    · rcases h3 with h3 | h3
      · by_cases hc : a ≤ x
        · left; rw [h3]; omega
        · right; rw [h3, show max x a = a by omega]; exact List.mem_cons_self
      · exact .inr (List.mem_cons_of_mem _ h3)
theorem least_spec {l : List Int} (h : l ≠ []) : least l ∈ l ∧ ∀ y ∈ l, least l ≤ y := by
  cases l with
  | nil => exact absurd rfl h
  | cons a l =>
    obtain ⟨h1, h2, h3⟩ := foldl_min_le l a
    refine ⟨?_, fun y hy => ?_⟩
    · rcases h3 with h3 | h3
      · show l.foldl min a ∈ _; rw [h3]; exact List.mem_cons_self
      · exact List.mem_cons_of_mem _ h3
    · rcases List.mem_cons.mp hy with rfl | hy
      · exact h1
      · exact h2 y hy
theorem greatest_spec {l : List Int} (h : l ≠ []) : greatest l ∈ l ∧ ∀ y ∈ l, y ≤ greatest l := by
  cases l with
  | nil => exact absurd rfl h
  | cons a l =>
    obtain ⟨h1, h2, h3⟩ := foldl_max_le l a
    refine ⟨?_, fun y hy => ?_⟩
    · rcases h3 with h3 | h3
      · show l.foldl max a ∈ _; rw [h3]; exact List.mem_cons_self
      · exact List.mem_cons_of_mem _ h3
    · rcases List.mem_cons.mp hy with rfl | hy
      · exact h1
      · exact h2 y hy
def minLD : D → Option D
  | .lst xs => match intsOf xs with | some bs => if bs ≠ [] then some (.int (least bs)) else none | none => none
  | _ => none
def maxLD : D → Option D
  | .lst xs => match intsOf xs with | some bs => if bs ≠ [] then some (.int (greatest bs)) else none | none => none
  | _ => none
section
variable {X : Cx}
theorem jAll (hc : X.calm = true) : CallJ X (.builtin "all") (cb1 allD) := by
  refine cbJ1 (cr_all hc) fun W σ s a d va Q ok ha e p => ?_
  unfold allD at e
  split at e
  · split at e
    · rename_i bs eb
      cases e
      obtain ⟨y, vs, rfl, h1, h2⟩ := ha
      exact ⟨y, bs, rfl, by rw [← boolsOf_den h2 eb]; exact SqL.of h1, Post.flat p ok (.bl _)⟩
    · cases e
  · cases e
theorem jAny (hc : X.calm = true) : CallJ X (.builtin "any") (cb1 anyD) := by
  refine cbJ1 (cr_any hc) fun W σ s a d va Q ok ha e p => ?_
  unfold anyD at e
  split at e
  · split at e
    · rename_i bs eb
      cases e
      obtain ⟨y, vs, rfl, h1, h2⟩ := ha
      exact ⟨y, bs, rfl, by rw [← boolsOf_den h2 eb]; exact SqL.of h1, Post.flat p ok (.bl _)⟩
    · cases e
  · cases e
theorem jSum (hc : X.calm = true) : CallJ X (.builtin "sum") (cb1 sumD) := by
  refine cbJ1 (cr_sum hc) fun W σ s a d va Q ok ha e p => ?_
  unfold sumD at e
  split at e
  · split at e
    · rename_i bs eb
      cases e
      obtain ⟨y, vs, rfl, h1, h2⟩ := ha
      exact ⟨y, bs, rfl, by rw [← intsOf_den h2 eb]; exact SqL.of h1, Post.flat p ok (.int _)⟩
    · cases e
  · cases e
theorem jMinL (hc : X.calm = true) : CallJ X (.builtin "min") (cb1 minLD) := by
  refine cbJ1 (cr_min hc) fun W σ s a d va Q ok ha e p => ?_
  unfold minLD at e
  split at e
  · split at e
    · rename_i bs eb
      split at e
      · rename_i hne
        cases e
        obtain ⟨y, vs, rfl, h1, h2⟩ := ha
        obtain ⟨m1, m2⟩ := least_spec hne
        refine ⟨y, bs, rfl, by rw [← intsOf_den h2 eb]; exact SqL.of h1, List.length_pos_of_mem m1, fun m hm hle => ?_⟩
        have : m = least bs := Int.le_antisymm (hle _ m1) (m2 _ hm)
        subst this
        exact Post.flat p ok (.int _)
      · cases e
    · cases e
  · cases e
theorem jMaxL (hc : X.calm = true) : CallJ X (.builtin "max") (cb1 maxLD) := by
  refine cbJ1 (cr_max hc) fun W σ s a d va Q ok ha e p => ?_
  unfold maxLD at e
  split at e
  · split at e
    · rename_i bs eb
      split at e
      · rename_i hne
        cases e
        obtain ⟨y, vs, rfl, h1, h2⟩ := ha
        obtain ⟨m1, m2⟩ := greatest_spec hne
        refine ⟨y, bs, rfl, by rw [← intsOf_den h2 eb]; exact SqL.of h1, List.length_pos_of_mem m1, fun m hm hle => ?_⟩
        have : m = greatest bs := Int.le_antisymm (m2 _ hm) (hle _ m1)
        subst this
        exact Post.flat p ok (.int _)
      · cases e
    · cases e
  · cases e
/-! ### str(x), -x -/
/-- the signs of a number -/
def digits (i : Int) : List Nat := (toString i : Str).cps.toList
def strOfD : D → Option D
  | .str s => some (.str s)
  | .int i => if i.natAbs.log2 < 1920 then some (.str (digits i)) else none
  | _ => none
theorem jStrOf (hd : ∀ i : Int, i.natAbs.log2 < 1920 → StrOk (digits i)) : CallJ X (.type "str") (cb1 strOfD) := by
  refine cbJ1 (CallR.or SkE.call_str_str call_str_int) fun W σ s a d va Q ok ha e p => ?_
  unfold strOfD at e
  split at e
  · cases e
    have hv := ha
    cases ha
    exact .inl ⟨_, rfl, Post.flat p ok hv⟩
  · rename_i i
    split at e
    · rename_i hl
      cases e; cases ha
      refine .inr ⟨i, rfl, hl, ?_⟩
      have e : (toString i : Str) = mkS (digits i) := (mkS_toList _).symm
      rw [e]
      exact Post.flat p ok (.str _ (hd i hl))
    · cases e
  · cases e
def mNeg (m : Mo SV) : Mo SV := m.bind (op1 fun d => match d with | .int i => some (.int (-i)) | _ => none)
theorem jNeg {W : WX} {a : Expr} {ma : Mo SV} {pos : Pos} (ha : JE X W a ma) : JE X W (.UnaryOp .USub a pos) (mNeg ma) := by
  refine ⟨(pe_un un_neg ha.pe).weak fun σ H Q q => ?_⟩
  obtain ⟨s, ρ, rfl, ok, vr, p⟩ := q
  refine ⟨s, ρ, rfl, ok, vr, Post.bind p fun x s1 v x1 ok1 r1 p1 => ?_⟩
  unfold op1 at p1
  split at p1
  · rename_i a ea
    have hd := top_den ok1 r1 ea
    cases a <;> try exact p1.elim
    cases hd
    exact ⟨_, rfl, Post.flat p1 ok1 (.int _)⟩
  · exact p1.elim
end
end DL
namespace DL
open PySem PySem.Spec PyProof.Rows L2

/-! ### a body's context, by its names -/
def slB (N : List Str) (sc : Scope) (i : Nat) (x : Str) : Bool :=
  decide (N[i]? = some x) && (match sc.names.lookup x with | some .local => true | some .cell => true | some .free => true | _ => false) && !(x == ("__debug__" : Str)) && !(x == ("__classdict__" : Str))
def lcB (N : List Str) (sc : Scope) (fc : Str → Bool) (i : Nat) (x : Str) : Bool :=
  decide (N[i]? = some x) && (match sc.names.lookup x with | some .local => true | some .cell => fc x | _ => false)
def glB (sc : Scope) (x : Str) : Bool := (match sc.names.lookup x with | some .globalImplicit => true | _ => false) && !(x == ("__debug__" : Str))
/-- what holds in a body, and in a comprehension within it -/
structure Ctx (X : Cx) (W : WX) (N : List Str) (sc : Scope) (fc : Str → Bool) (k : Nat) : Prop where
  n : X.N = N
  sc : X.env.scope = sc
  nd : N.Nodup
  calm : X.calm = true
  tk : Takes X W
  room : Room k X.A
  po : PassesOwn (model X.prog X.w) X.A X.env X.xe
  fn : ∀ x, fc x = true → X.fn x = true
section
variable {X : Cx} {W : WX} {N : List Str} {sc : Scope} {fc : Str → Bool} {k : Nat}
theorem Ctx.sl (C : Ctx X W N sc fc k) {i : Nat} {x : Str} (h : slB N sc i x = true) : Sl X i x := by
  unfold slB at h
  simp only [Bool.and_eq_true, decide_eq_true_eq, Bool.not_eq_true'] at h
  obtain ⟨⟨⟨h1, h2⟩, h3⟩, h4⟩ := h
  refine ⟨by rw [C.n]; exact h1, ?_, h3, h4⟩
  rw [C.sc]
  unfold Vis
  split at h2 <;> first
    | exact .inl (by assumption)
    | exact .inr (.inl (by assumption))
    | exact .inr (.inr (by assumption))
    | cases h2
theorem Ctx.lc (C : Ctx X W N sc fc k) {i : Nat} {x : Str} (h : lcB N sc fc i x = true) : Lc X i x := by
  unfold lcB at h
  simp only [Bool.and_eq_true, decide_eq_true_eq] at h
  obtain ⟨h1, h2⟩ := h
  refine ⟨by rw [C.n]; exact C.nd, by rw [C.n]; exact h1, ?_, ?_⟩
  · rw [C.sc]
    unfold L2.Loc
    split at h2 <;> first
      | exact .inl (by assumption)
      | exact .inr (by assumption)
      | cases h2
  · rw [C.sc]
    split at h2 <;> first
      | exact .inr (by assumption)
      | exact .inl (C.fn _ h2)
      | cases h2
theorem Ctx.gl (C : Ctx X W N sc fc k) {x : Str} (h : glB sc x = true) : Gl X x ∧ (x == ("__debug__" : Str)) = false := by
  unfold glB at h
  simp only [Bool.and_eq_true, Bool.not_eq_true'] at h
  refine ⟨?_, h.2⟩
  have h1 := h.1
  show X.env.scope.names.lookup x = some .globalImplicit
  rw [C.sc]
  split at h1 <;> first | assumption | cases h1
theorem Ctx.blk (C : Ctx X W N sc fc k) {scope : Scope} (s : Shared) (H : Hp) (Ca : Addr) (cl : List (Str × Addr)) (fp : List Addr) : Ctx (X.blk s H scope (compEnvC scope cl Ca X.env) fp) W0 N (relS scope sc) (fun x => scope.names.lookup x == some .cell) k := by
  have e : relS scope X.env.scope = relS scope sc := by rw [C.sc]
  refine ⟨C.n, e, C.nd, C.calm, takes0, C.room, PassesOwn.never, fun x hx => hx⟩
theorem Ctx.gb (C : Ctx X W N sc fc k) {x : Str} {u : Value} (h : glB sc x = true) (m : X.mg x = none) (b : bootBuiltins x = some u) (hn : x ≠ "__name__" := by decide) : GlB X x u := ⟨(C.gl h).1, m, b, hn, (C.gl h).2⟩
theorem Ctx.gv (C : Ctx X W N sc fc k) {x : Str} {v : V} {u : Value} (h : glB sc x = true) (m : X.mg x = some u) (r : RelV v u) : GlV X x v u := ⟨(C.gl h).1, m, r, (C.gl h).2⟩
theorem Ctx.bok (C : Ctx X W N sc fc k) {scope : Scope} {own : List (Str × Nat)} (h : blkC N sc scope own = true) : BlkOk X.N X.env.scope scope own := by
  rw [C.n, C.sc]; exact blkOk_by h
theorem Ctx.ndx (C : Ctx X W N sc fc k) : X.N.Nodup := by rw [C.n]; exact C.nd
theorem Ctx.hu (C : Ctx X W N sc fc k) : X.A.units + 64 < cLine := C.room.units
theorem Ctx.lcl (C : Ctx X W N sc fc k) {y : Str} (h : sc.names.lookup y = some .local) : X.env.scope.names.lookup y = some .local := by rw [C.sc]; exact h
theorem Ctx.sw (C : Ctx X W N sc fc k) {elt : Expr} {gs : List Comprehension} {scope : Scope} {pos py : Pos} {y : Str} {l : Nat} (hk : sc.kind = .function) (hy : sc.names.lookup y = some .local) (hl : (py.line == pos.line) = true)
    (ha : (scope.names.any fun (n, k) => n == y && (k == .local || k == .cell)) = false) : swapsWith (.ListComp elt gs scope pos) (some (.Name y py)) l X.env = pure true :=
  sw_true (by rw [C.sc]; exact hk) (by rw [C.sc]; exact hy) hl ha
theorem _root_.DL.BodyCx.ctx {P : Program} {w : World} {K : PySem.W.Frag} {mg : Str → Option Value} {base : Heap} (B : BodyCx P w K mg base N sc k X W) (hN : N.Nodup) : Ctx X W N sc (fun _ => true) k :=
  ⟨B.n, B.sc, hN, B.calm, B.tk, B.room, B.po, fun _ _ => by rw [B.fn]⟩
end
theorem hln {ρ : Env'} {L : List LO} {xs : List SV} {L' : List LO} (h : aNil ρ L = some (.ok xs, L')) : xs.length = 0 := hlNil h

/-! ### the exceptions of the text -/
structure ExcK (K : PySem.W.Frag) (mg : Str → Option Value) (x : Str) : Prop where
  ex : ∃ C, mg x = some (.ref C) ∧ PySem.W.excIn K C [.type "ValueError", .type "Exception", .type "BaseException", .type "object"] "ValueError.__new__" = true ∧ PySem.W.keepIn K (.ref C) = true ∧
    PySem.W.subIn K (.ref C) (.type "BaseException") = some true ∧ PySem.W.typeIn K (.ref C) = some (.type "type")
theorem ExcK.c {X : Cx} {x : Str} (h : ExcK X.K X.mg x) : ExcC X x := ⟨h.ex⟩

/-! ### the end of a law -/
/-- what is to be shown of the law's own def -/
theorem law_end {l : PySem.W.OpenLaw} {q : Program} {loose : List Str} {XP : (Str → Option Value) → Heap → Prop} {YP : World → Heap → Prop} {d : DefRec} {K : Params → PySem.W.Frag} {k : Nat} {F : List D → Option (RR D)} (hn : l.most = some 63) (hdf : d.params.defaults = [])
    (hr : Room k callerA) (hdn : d.name = "law") (hY : ∀ (w : World) (h : Heap), YP w h → (K w.params).In h)
    (hF : ∀ (w : World) (mg : Str → Option Value) (h : Heap), (K w.params).In h → h.Ns mainGlobals mg →
      ∃ (f : Addr) (fd : FuncData), mg "law" = some (.ref f) ∧ (∀ (s : Shared) (u : Value), BindsTo s fd ⟨[u], []⟩ [("script", u)]) ∧
        ∀ base : Heap, (K w.params).In base → base.Ns mainGlobals mg → FnOk l.prog w (K w.params) mg base (L2.CX l.prog w) k f fd ["script"] (spP (K w.params) mg F 1))
    (hlaw : ∀ ns : List Int, ns.length ≤ 63 → (∀ z ∈ ns, Builtin.Int.intBits z ≤ 1048576) → F [.scr ns] = some (.ok (.bl true))) :
    PySem.W.WalkO q loose XP YP l.row.toRowW d [] (fun f vs => PySem.call f vs) := by
  refine Att.attach_callB hn hdf fun w s₀ s₁ mg mb fa o pm cd doc a vs ns G Y ho hd hcd hmg hobj hints hlen hbits hg => ?_
  have KX := hY w _ Y
  obtain ⟨f, fd, hm, hb, hF⟩ := hF w mg _ KX G.T.g
  rw [hdn, hm] at hmg
  cases hmg
  refine law_call KX G.T.g G.T.b G.T.builtins G.T.nolimit hg hobj hints (Nat.le_trans hlen (by decide +kernel)) hr hF hb (fun H hO hS => ⟨rfl, [], [.scr ns], ⟨fun p hp => (nomatch hp), Paired.cons (Den.scr (by rw [show hid [] H = H from funext fun a => by unfold hid; rw [if_neg (by simp)]]; exact hS)) .nil, ?_⟩⟩) fun H e s' h => (by obtain ⟨_, _, _, _, _, _, _, _, _, _, _, _, h⟩ := h; exact h)
  rw [hlaw ns hlen hbits]
  intro H' v _ h
  generalize hd : D.bl true = d at h
  cases h <;> cases hd
  rfl
end DL
namespace DL
open PySem PySem.Spec PyProof.Rows L2
/-- a constant of the text -/
def GV (K : PySem.W.Frag) (mg : Str → Option Value) (x : Str) (d : D) : Prop := ∃ (u : Value) (v : V), mg x = some u ∧ RelV v u ∧ ∀ H, Den K mg H v d
/-- a def of the text -/
def FactF (K : PySem.W.Frag) (mg : Str → Option Value) (x : Str) (st : Stmt) : Prop := ∃ (f : Addr) (fd : FuncData), Fun K x x st f fd ∧ mg x = some (.ref f)
section
variable {K : PySem.W.Frag} {mg : Str → Option Value} {h : Heap} (KX : K.In h) (G : h.Ns mainGlobals mg)
include KX G
theorem factF {x : Str} {st : Stmt} {f : Addr} {oc : Value} {od an : Option Addr} {osl : Array (Option Value)} {kV doc pm cdv ct : Value} (a : PySem.W.nsIn K mainGlobals x = some (some (.ref f)))
    (l : K.lookup f = some ⟨oc, od, .func (PySem.W.fnOf x x (defArgs st) (defBody st) (defScope st) .none kV doc pm an cdv ct), osl⟩)
    (c : PySem.W.codeIn K cdv x = true) (k : PySem.W.keepIn K (.ref f) = true) : FactF K mg x st := ⟨f, _, fun_mk (st := st) l c k, PySem.W.mg_of KX G a⟩
theorem factB {x : Str} (a : PySem.W.nsIn K mainGlobals x = some none) : mg x = none := PySem.W.mg_none_of KX G a
theorem factI {x : Str} {i : Int} {t : Tok} (a : PySem.W.nsIn K mainGlobals x = some (some (.int i t))) : GV K mg x (.int i) := ⟨_, .int i, PySem.W.mg_of KX G a, ⟨_, rfl⟩, fun _ => .int i⟩
theorem factE {x : Str} {C : Addr} (a : PySem.W.nsIn K mainGlobals x = some (some (.ref C))) (q : PySem.W.excIn K C [.type "ValueError", .type "Exception", .type "BaseException", .type "object"] "ValueError.__new__" = true) (k : PySem.W.keepIn K (.ref C) = true)
    (s : PySem.W.subIn K (.ref C) (.type "BaseException") = some true) (t : PySem.W.typeIn K (.ref C) = some (.type "type")) : ExcK K mg x := ⟨C, PySem.W.mg_of KX G a, q, k, s, t⟩
end
section
variable {X : Cx} {W : WX} {N : List Str} {sc : Scope} {fc : Str → Bool} {k : Nat}
theorem Ctx.jC (C : Ctx X W N sc fc k) {x : Str} {d : D} {p : Pos} (h : glB sc x = true) (t : GV X.K X.mg x d) : JE X W (.Name x p) (mD d) := by
  obtain ⟨u, v, h1, h2, h3⟩ := t
  exact jGlo (C.gv h h1 h2) h3
theorem _root_.DL.BodyCx.tr {P : Program} {w : World} {K : PySem.W.Frag} {mg : Str → Option Value} {base : Heap} (B : BodyCx P w K mg base N sc k X W) {p : PySem.W.Frag → (Str → Option Value) → Prop} (h : p K mg) : p X.K X.mg := by
  rw [B.K, B.mg]; exact h
theorem _root_.DL.BodyCx.fp {P : Program} {w : World} {K : PySem.W.Frag} {mg : Str → Option Value} {base : Heap} (B : BodyCx P w K mg base N sc k X W) {x : Str} {j n : Nat} {F : List D → Option (RR D)} (h : FnP P w K mg base x j n F) : FnX X x j n F := by
  show FnP X.prog X.w X.K X.mg X.base x j n F
  rw [B.K, B.mg, B.prog, B.w, B.base]; exact h
theorem _root_.DL.BodyCx.fl {P : Program} {w : World} {K : PySem.W.Frag} {mg : Str → Option Value} {base : Heap} (B : BodyCx P w K mg base N sc k X W) {x : Str} {j n : Nat} {F : List SV → List LO → Option (RR SV × List LO)} (h : FnL P w K mg base x j n F) : FnXL X x j n F := by
  show FnL X.prog X.w X.K X.mg X.base x j n F
  rw [B.K, B.mg, B.prog, B.w, B.base]; exact h
end
section
variable {P : Program} {w : World} {K : PySem.W.Frag} {mg : Str → Option Value} {base : Heap}
/-- how the arguments of a def bind -/
def BindOk (x : Str) (st : Stmt) (ps : List Str) : Prop := ∀ (kV doc pm : Value) (an : Option Addr) (cdv ct : Value) (us : List Value), us.length = ps.length → bindArgs (PySem.W.fnOf x x (defArgs st) (defBody st) (defScope st) .none kV doc pm an cdv ct) ⟨us, []⟩ = pure (ps.zip us)
theorem okP {x : Str} {st : Stmt} {N ps : List Str} {k : Nat} {m : MS} (F : FactF K mg x st) (S : FnScope N ps (defScope st)) (hb : BindOk x st ps)
    (hbody : ∀ (X : Cx) (W : WX), BodyCx P w K mg base N (defScope st) k X W → JSs X W (defBody st) m) : FnP P w K mg base x (k + 1) ps.length (runP N.length m) := by
  obtain ⟨f, fd, F, hm⟩ := F
  exact fnP_of' F S hm (F.binds hb) hbody
theorem okL {x : Str} {st : Stmt} {N ps : List Str} {k : Nat} {m : MS} (keep : Bool) (F : FactF K mg x st) (S : FnScope N ps (defScope st)) (hb : BindOk x st ps)
    (hbody : ∀ (X : Cx) (W : WX), BodyCx P w K mg base N (defScope st) k X W → JSs X W (defBody st) m) : FnL P w K mg base x (k + 1) ps.length (runL N.length keep m) := by
  obtain ⟨f, fd, F, hm⟩ := F
  exact fnL_of keep F S hm (F.binds hb) hbody
theorem okRec {x : Str} {st : Stmt} {N ps : List Str} {k : Nat} {m : (List D → Option (RR D)) → MS} (F : FactF K mg x st) (S : FnScope N ps (defScope st)) (hb : BindOk x st ps)
    (hbody : ∀ (j : Nat) (G : List D → Option (RR D)), k ≤ j → FnP P w K mg base x j ps.length G → ∀ (X : Cx) (W : WX), BodyCx P w K mg base N (defScope st) j X W → JSs X W (defBody st) (m G)) (i : Nat) : FnP P w K mg base x (k + i) ps.length (recP N.length m i) := by
  obtain ⟨f, fd, F, hm⟩ := F
  exact fnP_rec F S hm (F.binds hb) hbody i
end
theorem strDig (i : Int) (h : i.natAbs.log2 < 1920) : StrOk (digits i) := by
  have e : digits i = (toString i).toList.map Char.toNat := by
    unfold digits
    show (Str.ofString (toString i)).cps.toList = _
    rw [PySem.Str.ofString_eq_toList]
  have hl := int_text_fits h
  constructor
  · have : (digits i).length = (Str.ofString (toString i)).length := rfl
    rw [this]; exact hl
  · intro x hx
    rw [e] at hx
    obtain ⟨c, _, rfl⟩ := List.mem_map.mp hx
    have := c.valid
    show c.val.toNat < _
    rcases this with h | ⟨_, h⟩
    · exact Nat.lt_of_lt_of_le h (by decide)
    · exact h
section
variable {X : Cx} {W : WX} {e : Expr} {es : List Expr} {p pos : Pos} {ms : Mo (List SV)} {x : Str} {k n : Nat}
theorem jCallP2 {F : List D → Option (RR D)} (h : FnX X x k n F) (hr : Room k X.A) (tk : Takes X W) (hg : Gl X x ∧ (x == ("__debug__" : Str)) = false) (ha : JA X W (e :: es) ms) (hn : (e :: es).length = n)
    (hl : ∀ ρ L xs L', ms ρ L = some (.ok xs, L') → xs.length = n) (he : starEach (e :: es) X.env = (false, eval e X.env) :: starEach es X.env := by rfl) (hpl : (backTo pos (starEach es X.env)).any (·.1) = false := by rfl) :
    JE X W (.Call (.Name x p) (e :: es) [] pos) (mCallP F ms) := jCallP h hr tk hg.1 hg.2 ha hn hl he hpl
theorem jCallL2 {F : List SV → List LO → Option (RR SV × List LO)} (h : FnXL X x k n F) (hr : Room k X.A) (tk : Takes X W) (hg : Gl X x ∧ (x == ("__debug__" : Str)) = false) (ha : JA X W (e :: es) ms)
    (hl : ∀ ρ L xs L', ms ρ L = some (.ok xs, L') → xs.length = n) (he : starEach (e :: es) X.env = (false, eval e X.env) :: starEach es X.env := by rfl) (hpl : (backTo pos (starEach es X.env)).any (·.1) = false := by rfl) :
    JE X W (.Call (.Name x p) (e :: es) [] pos) (mCallL F ms) := jCallL h hr tk hg.1 hg.2 ha hl he hpl
theorem jRaise2 {m : Str} {j : Nat} {p2 pos' : Pos} (hc : X.calm = true) (tk : Takes X W) (h : ExcC X x) (hg : Gl X x ∧ (x == ("__debug__" : Str)) = false) : JS X W (.Raise (some (.Call (.Name x p) [.Constant (.str m) j p2] [] pos')) none pos) (sRaise x) := jRaise hc tk h hg.1 hg.2
end
/-- the end of a law, from the body of its def -/
theorem law_main {l : PySem.W.OpenLaw} {q : Program} {loose : List Str} {XP : (Str → Option Value) → Heap → Prop} {YP : World → Heap → Prop} {d : DefRec} {K : Params → PySem.W.Frag} {k : Nat} {N : List Str} {m : MS} {st : Stmt} {T : PySem.W.Frag → (Str → Option Value) → Prop} (hn : l.most = some 63) (hdf : d.params.defaults = [])
    (hr : Room (k + 1) callerA) (hdn : d.name = "law") (hY : ∀ (w : World) (h : Heap), YP w h → (K w.params).In h) (S : FnScope N ["script"] (defScope st)) (hb : BindOk "law" st ["script"])
    (hT : ∀ (w : World) (mg : Str → Option Value) (h : Heap), (K w.params).In h → h.Ns mainGlobals mg → T (K w.params) mg)
    (hF : ∀ (K : PySem.W.Frag) (mg : Str → Option Value), T K mg → FactF K mg "law" st)
    (hB : ∀ (w : World) (K : PySem.W.Frag) (mg : Str → Option Value) (base : Heap), T K mg → ∀ (X : Cx) (W : WX), BodyCx l.prog w K mg base N (defScope st) k X W → JSs X W (defBody st) m)
    (hlaw : ∀ ns : List Int, ns.length ≤ 63 → (∀ z ∈ ns, Builtin.Int.intBits z ≤ 1048576) → runP N.length m [.scr ns] = some (.ok (.bl true))) :
    PySem.W.WalkO q loose XP YP l.row.toRowW d [] (fun f vs => PySem.call f vs) := by
  refine law_end (k := k + 1) (F := runP N.length m) hn hdf hr hdn hY (fun w mg h KX G => ?_) hlaw
  have t := hT w mg h KX G
  obtain ⟨f, fd, F, hm⟩ := hF _ _ t
  refine ⟨f, fd, hm, fun s u => ?_, fun base _ _ => ?_⟩
  · obtain ⟨oc, od, kV, doc, pm, an, cdv, ct, osl, rfl, lk, hcd⟩ := F.ex
    exact .of_eq (hb kV doc pm an cdv ct [u] rfl)
  · exact okP_of F S fun X W h1 h2 h3 h4 h5 h6 h7 h8 h9 h10 h11 h12 h13 h14 => hB w _ _ base t X W ⟨h1, h2, h3, h4, h5, h6, h7, h8, h9, h10, h11, h12, h13, h14⟩
end DL
namespace DL
open PySem L2
/-! ## the mirrors, run: simp rules -/
section
variable {α β : Type}
def bO (x : Option (RR α × List LO)) (k : α → Mo β) (ρ : Env') : Option (RR β × List LO) := match x with
  | none => none
  | some (.ex e, L) => some (.ex e, L)
  | some (.ok a, L) => k a ρ L
def bS (x : Option (RR α × List LO)) (k : α → MS) (ρ : Env') : Option (Fl × Env' × List LO) := match x with
  | none => none
  | some (.ex e, L) => some (.ex e, ρ, L)
  | some (.ok a, L) => k a ρ L
/-- a cup of continuations without a state -/
def cS (x : Option (Fl × Env' × List LO)) (k : MS) : Option (Fl × Env' × List LO) := match x with
  | some (.nx, ρ, L) => k ρ L
  | r => r
def gS (x : Option (Env' × List LO)) : Option (Fl × Env' × List LO) := match x with
  | some (ρ, L) => some (.nx, ρ, L)
  | none => none
def gC (x : Option (Env' × List LO)) (gs : List SV → Env' → List LO → Option (Env' × List LO)) (r : List SV) : Option (Env' × List LO) := match x with
  | some (ρ, L) => gs r ρ L
  | none => none
def asB : SV → Mo Bool := fun x _ L => match x with
  | .d (.bl b) => some (.ok b, L)
  | _ => none
def tD : SV → Mo Bool := fun x _ L => match top L x with
  | some d => match truthD d with
    | some b => some (.ok b, L)
    | none => none
  | none => none
def asgK (g : MG) : SV → MS := fun v ρ L => match g v ρ L with
  | some (ρ', L') => some (.nx, ρ', L')
  | none => none
def negD : D → Option D := fun d => match d with | .int i => some (.int (-i)) | _ => none
def oD (o : Option D) (L : List LO) : Option (RR SV × List LO) := match o with
  | some d => some (.ok (.d d), L)
  | none => none
def oB (o : Option Bool) (L : List LO) : Option (RR Bool × List LO) := match o with
  | some d => some (.ok d, L)
  | none => none
def pO (o : Option (RR D)) (L : List LO) : Option (RR SV × List LO) := match o with
  | some (.ok d) => some (.ok (.d d), L)
  | some (.ex e) => some (.ex e, L)
  | none => none
def cP (o : Option (List D)) (F : List D → Option (RR D)) (xs : List SV) (L : List LO) : Option (RR SV × List LO) := match o with
  | some ds => pO (F ds) L
  | none => match tops L xs with
    | some ds => match F ds with
      | some (.ok d) => if flatD d = true then some (.ok (.d d), L) else none
      | some (.ex e) => some (.ex e, L)
      | none => none
    | none => none
def rP (x : Option (Fl × Env' × List LO)) : Option (RR D) := match x with
  | some (.nx, _, _) => some (.ok .non)
  | some (.rt sv, _, L) => match frz 4 L sv with
    | some d => some (.ok d)
    | none => none
  | some (.ex e, _, _) => some (.ex e)
  | _ => none
def rL (n : Nat) (keep : Bool) (x : Option (Fl × Env' × List LO)) : Option (RR SV × List LO) := match x with
  | some (.nx, _, L') => some (.ok (.d .non), cutL n L')
  | some (.rt sv, _, L') => outL keep n L' sv
  | some (.ex e, _, L') => some (.ex e, cutL n L')
  | _ => none
/-! only the first part is visited -/
@[simp] theorem bO_none (k : α → Mo β) (ρ) : bO none k ρ = none := (rfl)
@[simp] theorem bO_ex (e L ρ) (k : α → Mo β) : bO (some (.ex e, L)) k ρ = some (.ex e, L) := (rfl)
@[simp] theorem bO_ok (a L ρ) (k : α → Mo β) : bO (some (.ok a, L)) k ρ = k a ρ L := (rfl)
@[simp] theorem bO_ite (c : Prop) [Decidable c] (x y ρ) (k : α → Mo β) : bO (if c then x else y) k ρ = if c then bO x k ρ else bO y k ρ := by split <;> rfl
@[simp] theorem bS_none (ρ) (k : α → MS) : bS none k ρ = none := (rfl)
@[simp] theorem bS_ex (e L ρ) (k : α → MS) : bS (some (.ex e, L)) k ρ = some (.ex e, ρ, L) := (rfl)
@[simp] theorem bS_ok (a L ρ) (k : α → MS) : bS (some (.ok a, L)) k ρ = k a ρ L := (rfl)
@[simp] theorem bS_ite (c : Prop) [Decidable c] (x y ρ) (k : α → MS) : bS (if c then x else y) k ρ = if c then bS x k ρ else bS y k ρ := by split <;> rfl
@[simp] theorem cS_none (k) : cS none k = none := (rfl)
@[simp] theorem cS_nx (ρ L k) : cS (some (.nx, ρ, L)) k = k ρ L := (rfl)
@[simp] theorem cS_bk (ρ L k) : cS (some (.bk, ρ, L)) k = some (.bk, ρ, L) := (rfl)
@[simp] theorem cS_ct (ρ L k) : cS (some (.ct, ρ, L)) k = some (.ct, ρ, L) := (rfl)
@[simp] theorem cS_rt (v ρ L k) : cS (some (.rt v, ρ, L)) k = some (.rt v, ρ, L) := (rfl)
@[simp] theorem cS_ex (v ρ L k) : cS (some (.ex v, ρ, L)) k = some (.ex v, ρ, L) := (rfl)
@[simp] theorem cS_ite (c : Prop) [Decidable c] (x y k) : cS (if c then x else y) k = if c then cS x k else cS y k := by split <;> rfl
@[simp] theorem asB_b (b ρ L) : asB (.d (.bl b)) ρ L = some (.ok b, L) := (rfl)
@[simp] theorem tD_d (d ρ L) : tD (.d d) ρ L = oB (truthD d) L := by
  unfold tD oB; simp only [top_d]
theorem tD_r (n ρ L) : tD (.r n) ρ L = match top L (.r n) with | some d => oB (truthD d) L | none => none := by
  unfold tD oB; rfl
@[simp] theorem asgK_ap (g v ρ L) : asgK g v ρ L = gS (g v ρ L) := by unfold asgK gS; rfl
@[simp] theorem negD_i (i) : negD (.int i) = some (.int (-i)) := (rfl)
@[simp] theorem gS_some (ρ L) : gS (some (ρ, L)) = some (.nx, ρ, L) := (rfl)
@[simp] theorem gS_none : gS none = none := (rfl)
@[simp] theorem gC_some (ρ L k r) : gC (some (ρ, L)) k r = k r ρ L := (rfl)
@[simp] theorem gC_none (k r) : gC none k r = none := (rfl)
@[simp] theorem oD_some (d L) : oD (some d) L = some (.ok (.d d), L) := (rfl)
@[simp] theorem oD_none (L) : oD none L = none := (rfl)
@[simp] theorem oD_ite (c : Prop) [Decidable c] (x y L) : oD (if c then x else y) L = if c then oD x L else oD y L := by split <;> rfl
@[simp] theorem oB_some (d L) : oB (some d) L = some (.ok d, L) := (rfl)
@[simp] theorem oB_none (L) : oB none L = none := (rfl)
@[simp] theorem pO_ok (d L) : pO (some (.ok d)) L = some (.ok (.d d), L) := (rfl)
@[simp] theorem pO_ex (d L) : pO (some (.ex d)) L = some (.ex d, L) := (rfl)
@[simp] theorem pO_none (L) : pO none L = none := (rfl)
@[simp] theorem pO_ite (c : Prop) [Decidable c] (x y L) : pO (if c then x else y) L = if c then pO x L else pO y L := by split <;> rfl
@[simp] theorem cP_some (ds F xs L) : cP (some ds) F xs L = pO (F ds) L := (rfl)
theorem cP_none (F xs L) : cP none F xs L = match tops L xs with
    | some ds => match F ds with
      | some (.ok d) => if flatD d = true then some (.ok (.d d), L) else none
      | some (.ex e) => some (.ex e, L)
      | none => none
    | none => none := rfl
@[simp] theorem rP_nx (ρ L) : rP (some (.nx, ρ, L)) = some (.ok .non) := (rfl)
@[simp] theorem rP_rt (d ρ L) : rP (some (.rt (.d d), ρ, L)) = some (.ok d) := by unfold rP; simp [frz]
@[simp] theorem rP_ex (e ρ L) : rP (some (.ex e, ρ, L)) = some (.ex e) := (rfl)
@[simp] theorem rP_none : rP none = none := (rfl)
@[simp] theorem rP_ite (c : Prop) [Decidable c] (x y) : rP (if c then x else y) = if c then rP x else rP y := by split <;> rfl
@[simp] theorem rL_nx (n k ρ L) : rL n k (some (.nx, ρ, L)) = some (.ok (.d .non), cutL n L) := (rfl)
@[simp] theorem rL_rtd (n k d ρ L) : rL n k (some (.rt (.d d), ρ, L)) = some (.ok (.d d), cutL n L) := (rfl)
@[simp] theorem rL_rtr (n m ρ L) : rL n true (some (.rt (.r m), ρ, L)) = some (.ok (.r m), L) := (rfl)
@[simp] theorem rL_ex (n k e ρ L) : rL n k (some (.ex e, ρ, L)) = some (.ex e, cutL n L) := (rfl)
@[simp] theorem rL_none (n k) : rL n k none = none := (rfl)
@[simp] theorem rL_ite (n k) (c : Prop) [Decidable c] (x y) : rL n k (if c then x else y) = if c then rL n k x else rL n k y := by split <;> rfl
/-! the parts -/
@[simp] theorem Mo_ret (a : α) (ρ L) : (Mo.ret a : Mo α) ρ L = some (.ok a, L) := (rfl)
@[simp] theorem Mo_bind (m : Mo α) (k : α → Mo β) (ρ L) : Mo.bind m k ρ L = bO (m ρ L) k ρ := by
  unfold Mo.bind bO
  rcases m ρ L with _ | ⟨_ | _, _⟩ <;> rfl
@[simp] theorem eBind_ap (m : Mo α) (k : α → MS) (ρ L) : eBind m k ρ L = bS (m ρ L) k ρ := by
  unfold eBind bS
  rcases m ρ L with _ | ⟨_ | _, _⟩ <;> rfl
end
def vO (o : Option (Option SV)) (L : List LO) : Option (RR SV × List LO) := match o with
  | some (some sv) => some (.ok sv, L)
  | _ => none
@[simp] theorem vO_some (sv L) : vO (some (some sv)) L = some (.ok sv, L) := (rfl)
@[simp] theorem mD_ap (d ρ L) : mD d ρ L = some (.ok (.d d), L) := (rfl)
@[simp] theorem mVar_ap (i) (ρ : Env') (L) : mVar i ρ L = vO ρ[i]? L := by
  unfold mVar vO; rfl
@[simp] theorem m2_ap (f a b ρ L) : m2 f a b ρ L = bO (a ρ L) (fun x => b.bind fun y => f x y) ρ := by unfold m2; rw [Mo_bind]
@[simp] theorem op2_dd (g a b ρ L) : op2 g (.d a) (.d b) ρ L = oD (g a b) L := by
  unfold op2 oD; simp only [top_d]; try rfl
@[simp] theorem op1_d (g a ρ L) : op1 g (.d a) ρ L = oD (g a) L := by
  unfold op1 oD; simp only [top_d]; try rfl
@[simp] theorem mBool_ap (m ρ L) : mBool m ρ L = bO (m ρ L) asB ρ := by unfold mBool; rw [Mo_bind]; try rfl
@[simp] theorem mChain_ap (f g a b c ρ L) : mChain f g a b c ρ L = bO (a ρ L) (fun x => b.bind fun y => (mBool (f x y)).bind fun t => if t then c.bind fun z => g y z else Mo.ret (.d (.bl false))) ρ := by unfold mChain; rw [Mo_bind]
@[simp] theorem mTruth_ap (m ρ L) : mTruth m ρ L = bO (m ρ L) tD ρ := by
  unfold mTruth; rw [Mo_bind]; try rfl
@[simp] theorem gAnd_ap (a b ρ L) : gAnd a b ρ L = bO (a ρ L) (fun c => if c then b else Mo.ret false) ρ := by unfold gAnd; rw [Mo_bind]
@[simp] theorem gOr_ap (a b ρ L) : gOr a b ρ L = bO (a ρ L) (fun c => if c then Mo.ret true else b) ρ := by unfold gOr; rw [Mo_bind]
@[simp] theorem gNot_ap (a ρ L) : gNot a ρ L = bO (a ρ L) (fun c => Mo.ret (!c)) ρ := by unfold gNot; rw [Mo_bind]
@[simp] theorem mIf_ap (c a b ρ L) : mIf c a b ρ L = bO (c ρ L) (fun t => if t then a else b) ρ := by unfold mIf; rw [Mo_bind]
@[simp] theorem mAnd_ap (a b ρ L) : mAnd a b ρ L = bO (mBool a ρ L) (fun t => if t then b else Mo.ret (.d (.bl false))) ρ := by unfold mAnd; rw [Mo_bind]
@[simp] theorem mOr_ap (a b ρ L) : mOr a b ρ L = bO (mBool a ρ L) (fun t => if t then Mo.ret (.d (.bl true)) else b) ρ := by unfold mOr; rw [Mo_bind]
@[simp] theorem mOfB_ap (g ρ L) : mOfB g ρ L = bO (g ρ L) (fun c => Mo.ret (.d (.bl c))) ρ := by unfold mOfB; rw [Mo_bind]
@[simp] theorem mNot_ap (m ρ L) : mNot m ρ L = bO (gNot (mTruth m) ρ L) (fun c => Mo.ret (.d (.bl c))) ρ := by unfold mNot; rw [mOfB_ap]
@[simp] theorem mNeg_ap (m ρ L) : mNeg m ρ L = bO (m ρ L) (op1 negD) ρ := by unfold mNeg; rw [Mo_bind]; try rfl
@[simp] theorem aNil_ap (ρ L) : aNil ρ L = some (.ok [], L) := (rfl)
@[simp] theorem aCons_ap (m r ρ L) : aCons m r ρ L = bO (m ρ L) (fun x => r.bind fun xs => Mo.ret (x :: xs)) ρ := by unfold aCons; rw [Mo_bind]
@[simp] theorem pures_nil : pures [] = some [] := (rfl)
@[simp] theorem pures_d (x r) : pures (.d x :: r) = (pures r).map (x :: ·) := by
  conv => lhs; unfold pures
  cases pures r <;> rfl
@[simp] theorem pures_r (x r) : pures (.r x :: r) = none := (rfl)
theorem pures_map (xs : List D) : pures (xs.map .d) = some xs := by
  induction xs with
  | nil => rfl
  | cons x xs ih => simp [ih]
theorem pures_map' {γ : Type} (f : γ → D) (xs : List γ) : pures (xs.map fun x => .d (f x)) = some (xs.map f) := by
  induction xs with
  | nil => rfl
  | cons x xs ih => simp [ih]
@[simp] theorem mTup_ap (ms ρ L) : mTup ms ρ L = bO (ms ρ L) mkTup ρ := by unfold mTup; rw [Mo_bind]
@[simp] theorem mLst_ap (ms ρ L) : mLst ms ρ L = bO (ms ρ L) mkLst ρ := by unfold mLst; rw [Mo_bind]
@[simp] theorem mLive_ap (ms ρ L) : mLive ms ρ L = bO (ms ρ L) mkLive ρ := by unfold mLive; rw [Mo_bind]
@[simp] theorem mkLive_ap (xs ρ L) : mkLive xs ρ L = if xs.length ≤ 16777216 then some (.ok (.r L.length), L ++ [.lst xs]) else none := (rfl)
@[simp] theorem mCallB_ap (f ms ρ L) : mCallB f ms ρ L = bO (ms ρ L) f ρ := by unfold mCallB; rw [Mo_bind]
@[simp] theorem cb1_ap (g x) : cb1 g [x] = op1 g x := (rfl)
@[simp] theorem cb2_ap (g x y) : cb2 g [x, y] = op2 g x y := (rfl)
@[simp] theorem mCallP_ap (F ms ρ L) : mCallP F ms ρ L = bO (ms ρ L) (callP F) ρ := by unfold mCallP; rw [Mo_bind]
@[simp] theorem callP_ap (F xs ρ L) : callP F xs ρ L = cP (pures xs) F xs L := by
  unfold callP cP pO
  generalize pures xs = o
  cases o with
  | some ds => dsimp only; try (rcases F ds with _ | ⟨_ | _⟩ <;> rfl)
  | none =>
    generalize tops L xs = o2
    cases o2 with
    | some ds => dsimp only; try (rcases F ds with _ | ⟨_ | _⟩ <;> rfl)
    | none => rfl
def callL (F : List SV → List LO → Option (RR SV × List LO)) : List SV → Mo SV := fun xs _ L => F xs L
@[simp] theorem callL_ap (F xs ρ L) : callL F xs ρ L = F xs L := (rfl)
@[simp] theorem mCallL_ap (F ms ρ L) : mCallL F ms ρ L = bO (ms ρ L) (callL F) ρ := by unfold mCallL; rw [Mo_bind]; try rfl
@[simp] theorem sNil_ap (ρ L) : sNil ρ L = some (.nx, ρ, L) := (rfl)
@[simp] theorem sCons_ap (a b ρ L) : sCons a b ρ L = cS (a ρ L) b := by
  unfold sCons cS
  rcases a ρ L with _ | ⟨_ | _ | _ | _ | _, _, _⟩ <;> rfl
@[simp] theorem sExpr_ap (m ρ L) : sExpr m ρ L = bS (m ρ L) (fun _ => sNil) ρ := by unfold sExpr; rw [eBind_ap]
def retK : SV → MS := fun x ρ L => some (.rt x, ρ, L)
@[simp] theorem retK_ap (x ρ L) : retK x ρ L = some (.rt x, ρ, L) := (rfl)
@[simp] theorem sRet_ap (m ρ L) : sRet m ρ L = bS (m ρ L) retK ρ := by unfold sRet; rw [eBind_ap]; try rfl
@[simp] theorem sIf_ap (g a b ρ L) : sIf g a b ρ L = bS (g ρ L) (fun c => if c then a else b) ρ := by unfold sIf; rw [eBind_ap]
@[simp] theorem sBreak_ap (ρ L) : sBreak ρ L = some (.bk, ρ, L) := (rfl)
@[simp] theorem sCont_ap (ρ L) : sCont ρ L = some (.ct, ρ, L) := (rfl)
@[simp] theorem sRaise_ap (x ρ L) : sRaise x ρ L = some (.ex ⟨x, []⟩, ρ, L) := (rfl)
@[simp] theorem sAsg_ap (m g ρ L) : sAsg m g ρ L = bS (m ρ L) (asgK g) ρ := by unfold sAsg; rw [eBind_ap]; try rfl
@[simp] theorem gVar_ap (i v) (ρ : Env') (L) : gVar i v ρ L = some (ρ.set i (some v), L) := (rfl)
@[simp] theorem gsNil_ap (ρ L) : gsNil [] ρ L = some (ρ, L) := (rfl)
@[simp] theorem gsCons_ap (g gs v r ρ L) : gsCons g gs (v :: r) ρ L = gC (g v ρ L) gs r := by
  unfold gsCons gC; rfl
@[simp] theorem gTupD_ap (n gs xs ρ L) : gTupD n gs (.d (.tup xs)) ρ L = if xs.length = n then gs (xs.map .d) ρ L else none := (rfl)
@[simp] theorem sFor_ap (m g b ρ L) : sFor m g b ρ L = bS (m ρ L) (fun it => forL it g b it.items) ρ := by unfold sFor; rw [eBind_ap]
@[simp] theorem ap_ite {γ δ ε : Type} (c : Prop) [Decidable c] (a b : γ → δ → ε) (x : γ) (y : δ) : (if c then a else b) x y = if c then a x y else b x y := by split <;> rfl
theorem runP_ap (n m ds) : runP n m ds = rP (m (envOf n ds) []) := by
  unfold runP rP; rfl
theorem runL_ap (n k m svs L) : runL n k m svs L = rL L.length k (m (envL n svs) L) := by
  unfold runL rL; rfl
@[simp] theorem mRange1_ap (ms ρ L) : mRange1 ms ρ L = bO (ms ρ L) itRange1 ρ := by unfold mRange1; rw [Mo_bind]
@[simp] theorem mRange2_ap (ms ρ L) : mRange2 ms ρ L = bO (ms ρ L) itRange2 ρ := by unfold mRange2; rw [Mo_bind]
@[simp] theorem mIter_ap (m ρ L) : mIter m ρ L = bO (m ρ L) itOf ρ := by unfold mIter; rw [Mo_bind]
/-! data -/
@[simp] theorem addD_ii (i j) : addD (.int i) (.int j) = some (.int (i + j)) := (rfl)
@[simp] theorem subD_ii (i j) : subD (.int i) (.int j) = some (.int (i - j)) := (rfl)
set_option exponentiation.threshold 3000000 in
theorem mulD_ii {i j : Int} (h1 : -2 ^ 200 ≤ i) (h2 : i ≤ 2 ^ 200) (h3 : -2 ^ 200 ≤ j) (h4 : j ≤ 2 ^ 200) : mulD (.int i) (.int j) = some (.int (i * j)) := by
  have : mulOk i j := mulOk_of (Nat.lt_of_le_of_lt (m := 2 ^ 200) (by omega) (Nat.pow_lt_pow_right (by decide) (by decide))) (Nat.lt_of_le_of_lt (m := 2 ^ 200) (by omega) (Nat.pow_lt_pow_right (by decide) (by decide)))
  show (if mulOk i j then some (D.int (i * j)) else none) = _
  rw [if_pos this]
theorem fdivD_ii {i j : Int} (h1 : 0 < j) (h2 : j ≤ 2 ^ 200) : fdivD (.int i) (.int j) = some (.int (i / j)) := by
  show (if 0 < j ∧ j.natAbs.log2 < 9000 then some (D.int (i / j)) else none) = _
  refine if_pos ⟨h1, ?_⟩
  have h3 : j.natAbs ≤ 2 ^ 200 := by omega
  have := Nat.log2_lt (n := j.natAbs) (k := 9000) (by omega)
  rw [this]
  exact Nat.lt_of_le_of_lt h3 (Nat.pow_lt_pow_right (by decide) (by decide))
theorem modD_ii {i j : Int} (h1 : 0 < j) : modD (.int i) (.int j) = some (.int (i % j)) := by
  show (if 0 < j then some (D.int (i % j)) else none) = _
  rw [if_pos h1]
@[simp] theorem ltD_ii (i j) : ltD (.int i) (.int j) = some (.bl (decide (i < j))) := (rfl)
@[simp] theorem leD_ii (i j) : leD (.int i) (.int j) = some (.bl (decide (i ≤ j))) := (rfl)
@[simp] theorem gtD_ii (i j) : gtD (.int i) (.int j) = some (.bl (decide (j < i))) := (rfl)
@[simp] theorem geD_ii (i j) : geD (.int i) (.int j) = some (.bl (decide (j ≤ i))) := (rfl)
@[simp] theorem eqD_ii (i j) : eqD (.int i) (.int j) = some (.bl (decide (i = j))) := (rfl)
@[simp] theorem neD_ii (i j) : neD (.int i) (.int j) = some (.bl (!decide (i = j))) := (rfl)
@[simp] theorem truthD_b (b) : truthD (.bl b) = some b := (rfl)
@[simp] theorem truthD_i (i) : truthD (.int i) = some (i != 0) := (rfl)
@[simp] theorem truthD_n : truthD .non = some false := (rfl)
@[simp] theorem truthD_s (s) : truthD (.str s) = some (!s.isEmpty) := (rfl)
@[simp] theorem truthD_l (s) : truthD (.lst s) = some (!s.isEmpty) := (rfl)
@[simp] theorem truthD_t (s) : truthD (.tup s) = some (!s.isEmpty) := (rfl)
@[simp] theorem lenD_s (s) : lenD (.str s) = some (.int s.length) := (rfl)
@[simp] theorem lenD_l (s) : lenD (.lst s) = some (.int s.length) := (rfl)
@[simp] theorem lenD_t (s) : lenD (.tup s) = some (.int s.length) := (rfl)
@[simp] theorem absD_i (i) : absD (.int i) = some (.int (if i < 0 then -i else i)) := (rfl)
@[simp] theorem intD_i (i) : intD (.int i) = some (.int i) := (rfl)
@[simp] theorem min2D_i (i j) : min2D (.int i) (.int j) = some (.int (if j < i then j else i)) := (rfl)
@[simp] theorem max2D_i (i j) : max2D (.int i) (.int j) = some (.int (if j > i then j else i)) := (rfl)
@[simp] theorem listD_l (s) : listD (.lst s) = some (.lst s) := (rfl)
@[simp] theorem listD_t (s) : listD (.tup s) = some (.lst s) := (rfl)
@[simp] theorem listD_s (s) : listD (.scr s) = some (.lst (s.map .int)) := (rfl)
@[simp] theorem tupleD_l (s) : tupleD (.lst s) = some (.tup s) := (rfl)
@[simp] theorem tupleD_t (s) : tupleD (.tup s) = some (.tup s) := (rfl)
@[simp] theorem isD_n (n) : isD n .non .non = some (.bl (xor n true)) := (rfl)
@[simp] theorem isD_b (n a b) : isD n (.bl a) (.bl b) = some (.bl (xor n (decide (a = b)))) := (rfl)
@[simp] theorem isD_bn (n a) : isD n (.bl a) .non = some (.bl (xor n false)) := (rfl)
@[simp] theorem isD_i (n a) : isD n (.int a) .non = some (.bl (xor n false)) := (rfl)
@[simp] theorem isD_s (n a) : isD n (.str a) .non = some (.bl (xor n false)) := (rfl)
@[simp] theorem isD_t (n a) : isD n (.tup a) .non = some (.bl (xor n false)) := (rfl)
@[simp] theorem isD_l (n a) : isD n (.lst a) .non = some (.bl (xor n false)) := (rfl)

@[simp] theorem isi_n_int  : isinstD .non (.typ "int") = some (.bl false) := by simp [isinstD, tyName]
@[simp] theorem isi_b_int (b) : isinstD (.bl b) (.typ "int") = some (.bl true) := by simp [isinstD, tyName]
@[simp] theorem isi_i_int (b) : isinstD (.int b) (.typ "int") = some (.bl true) := by simp [isinstD, tyName]
@[simp] theorem isi_s_int (b) : isinstD (.str b) (.typ "int") = some (.bl false) := by simp [isinstD, tyName]
@[simp] theorem isi_l_int (b) : isinstD (.lst b) (.typ "int") = some (.bl false) := by simp [isinstD, tyName]
@[simp] theorem isi_t_int (b) : isinstD (.tup b) (.typ "int") = some (.bl false) := by simp [isinstD, tyName]
@[simp] theorem isi_n_bool  : isinstD .non (.typ "bool") = some (.bl false) := by simp [isinstD, tyName]
@[simp] theorem isi_b_bool (b) : isinstD (.bl b) (.typ "bool") = some (.bl true) := by simp [isinstD, tyName]
@[simp] theorem isi_i_bool (b) : isinstD (.int b) (.typ "bool") = some (.bl false) := by simp [isinstD, tyName]
@[simp] theorem isi_s_bool (b) : isinstD (.str b) (.typ "bool") = some (.bl false) := by simp [isinstD, tyName]
@[simp] theorem isi_l_bool (b) : isinstD (.lst b) (.typ "bool") = some (.bl false) := by simp [isinstD, tyName]
@[simp] theorem isi_t_bool (b) : isinstD (.tup b) (.typ "bool") = some (.bl false) := by simp [isinstD, tyName]
@[simp] theorem isi_n_str  : isinstD .non (.typ "str") = some (.bl false) := by simp [isinstD, tyName]
@[simp] theorem isi_b_str (b) : isinstD (.bl b) (.typ "str") = some (.bl false) := by simp [isinstD, tyName]
@[simp] theorem isi_i_str (b) : isinstD (.int b) (.typ "str") = some (.bl false) := by simp [isinstD, tyName]
@[simp] theorem isi_s_str (b) : isinstD (.str b) (.typ "str") = some (.bl true) := by simp [isinstD, tyName]
@[simp] theorem isi_l_str (b) : isinstD (.lst b) (.typ "str") = some (.bl false) := by simp [isinstD, tyName]
@[simp] theorem isi_t_str (b) : isinstD (.tup b) (.typ "str") = some (.bl false) := by simp [isinstD, tyName]
@[simp] theorem isi_n_tuple  : isinstD .non (.typ "tuple") = some (.bl false) := by simp [isinstD, tyName]
@[simp] theorem isi_b_tuple (b) : isinstD (.bl b) (.typ "tuple") = some (.bl false) := by simp [isinstD, tyName]
@[simp] theorem isi_i_tuple (b) : isinstD (.int b) (.typ "tuple") = some (.bl false) := by simp [isinstD, tyName]
@[simp] theorem isi_s_tuple (b) : isinstD (.str b) (.typ "tuple") = some (.bl false) := by simp [isinstD, tyName]
@[simp] theorem isi_l_tuple (b) : isinstD (.lst b) (.typ "tuple") = some (.bl false) := by simp [isinstD, tyName]
@[simp] theorem isi_t_tuple (b) : isinstD (.tup b) (.typ "tuple") = some (.bl true) := by simp [isinstD, tyName]
@[simp] theorem isi_n_list  : isinstD .non (.typ "list") = some (.bl false) := by simp [isinstD, tyName]
@[simp] theorem isi_b_list (b) : isinstD (.bl b) (.typ "list") = some (.bl false) := by simp [isinstD, tyName]
@[simp] theorem isi_i_list (b) : isinstD (.int b) (.typ "list") = some (.bl false) := by simp [isinstD, tyName]
@[simp] theorem isi_s_list (b) : isinstD (.str b) (.typ "list") = some (.bl false) := by simp [isinstD, tyName]
@[simp] theorem isi_l_list (b) : isinstD (.lst b) (.typ "list") = some (.bl true) := by simp [isinstD, tyName]
@[simp] theorem isi_t_list (b) : isinstD (.tup b) (.typ "list") = some (.bl false) := by simp [isinstD, tyName]
def lO (c : List D → D) (o : Option (List D)) (L : List LO) : Option (RR SV × List LO) := match o with
  | some ds => if ds.length ≤ 16777216 then some (.ok (.d (c ds)), L) else none
  | none => none
@[simp] theorem lO_some (c ds L) : lO c (some ds) L = if ds.length ≤ 16777216 then some (.ok (.d (c ds)), L) else none := (rfl)
@[simp] theorem mkTup_ap (xs ρ L) : mkTup xs ρ L = lO .tup (pures xs) L := by
  unfold mkTup lO; cases pures xs <;> rfl
@[simp] theorem mkLst_ap (xs ρ L) : mkLst xs ρ L = lO .lst (pures xs) L := by
  unfold mkLst lO; cases pures xs <;> rfl
@[simp] theorem strOfD_s (s) : strOfD (.str s) = some (.str s) := (rfl)
@[simp] theorem eqD_ss (s t) : eqD (.str s) (.str t) = some (.bl (decide (s = t))) := by
  unfold eqD eqOk; simp [DL.plain, dep, deq]; by_cases h : s = t <;> simp [h]
@[simp] theorem neD_ss (s t) : neD (.str s) (.str t) = some (.bl (!decide (s = t))) := by
  unfold neD eqOk; simp [DL.plain, dep, deq]; by_cases h : s = t <;> simp [h]
theorem int_self (i : Int) : decide (i = i) = true := decide_eq_true rfl
end DL
namespace DL
open PySem L2
/-! ## what a run leads to -/
section
variable {α β : Type}
def WE (x : Option (RR α × List LO)) (Q : α → List LO → Prop) (E : Exc → List LO → Prop) : Prop := match x with
  | none => False
  | some (.ok a, L) => Q a L
  | some (.ex e, L) => E e L
def WS (x : Option (Fl × Env' × List LO)) (Q : Fl → Env' → List LO → Prop) : Prop := match x with
  | none => False
  | some (f, ρ, L) => Q f ρ L
def WG (x : Option (Env' × List LO)) (Q : Env' → List LO → Prop) : Prop := match x with
  | none => False
  | some (ρ, L) => Q ρ L
abbrev QE (α : Type) := α → List LO → Prop
abbrev QS := Fl → Env' → List LO → Prop
def kQ (k : α → Mo β) (ρ : Env') (Q : QE β) (E : Exc → List LO → Prop) : QE α := fun a L => WE (k a ρ L) Q E
def kS (k : α → MS) (ρ : Env') (Q : QS) : QE α := fun a L => WS (k a ρ L) Q
def xS (ρ : Env') (Q : QS) : Exc → List LO → Prop := fun e L => Q (.ex e) ρ L
def cQ (b : MS) (Q : QS) : QS := fun f ρ L => match f with
  | .nx => WS (b ρ L) Q
  | f => Q f ρ L
def gQ (Q : QS) : Env' → List LO → Prop := fun ρ L => Q .nx ρ L
def gK (gs : List SV → Env' → List LO → Option (Env' × List LO)) (r : List SV) (Q : Env' → List LO → Prop) : Env' → List LO → Prop := fun ρ L => WG (gs r ρ L) Q
/-- behind a turn of a loop -/
def onL (f : Fl) (I : Prop) (B : Prop) (O : Fl → Prop) : Prop := match f with
  | .nx => I
  | .ct => I
  | .bk => B
  | f => O f
@[simp] theorem WE_none (Q : α → List LO → Prop) (E) : WE none Q E = False := (rfl)
@[simp] theorem WE_ok (a L) (Q : α → List LO → Prop) (E) : WE (some (.ok a, L)) Q E = Q a L := (rfl)
@[simp] theorem WE_ex (a L) (Q : α → List LO → Prop) (E) : WE (some (.ex a, L)) Q E = E a L := (rfl)
@[simp] theorem WE_bO (x : Option (RR α × List LO)) (k : α → Mo β) (ρ Q E) : WE (bO x k ρ) Q E = WE x (kQ k ρ Q E) E := by
  rcases x with _ | ⟨_ | _, _⟩ <;> rfl
@[simp] theorem kQ_ap (k : α → Mo β) (ρ Q E a L) : kQ k ρ Q E a L = WE (k a ρ L) Q E := (rfl)
@[simp] theorem kS_ap (k : α → MS) (ρ Q a L) : kS k ρ Q a L = WS (k a ρ L) Q := (rfl)
@[simp] theorem xS_ap (ρ Q e L) : xS ρ Q e L = Q (.ex e) ρ L := (rfl)
@[simp] theorem cQ_nx (b Q ρ L) : cQ b Q .nx ρ L = WS (b ρ L) Q := (rfl)
@[simp] theorem cQ_bk (b Q ρ L) : cQ b Q .bk ρ L = Q .bk ρ L := (rfl)
@[simp] theorem cQ_ct (b Q ρ L) : cQ b Q .ct ρ L = Q .ct ρ L := (rfl)
@[simp] theorem cQ_rt (b Q v ρ L) : cQ b Q (.rt v) ρ L = Q (.rt v) ρ L := (rfl)
@[simp] theorem cQ_ex (b Q v ρ L) : cQ b Q (.ex v) ρ L = Q (.ex v) ρ L := (rfl)
@[simp] theorem gQ_ap (Q ρ L) : gQ Q ρ L = Q .nx ρ L := (rfl)
@[simp] theorem gK_ap (gs r Q ρ L) : gK gs r Q ρ L = WG (gs r ρ L) Q := (rfl)
@[simp] theorem WE_ite (c : Prop) [Decidable c] (x y) (Q : α → List LO → Prop) (E) : WE (if c then x else y) Q E = if c then WE x Q E else WE y Q E := by split <;> rfl
@[simp] theorem WS_none (Q) : WS none Q = False := (rfl)
@[simp] theorem WS_some (f ρ L Q) : WS (some (f, ρ, L)) Q = Q f ρ L := (rfl)
@[simp] theorem WS_bS (x : Option (RR α × List LO)) (k ρ Q) : WS (bS x k ρ) Q = WE x (kS k ρ Q) (xS ρ Q) := by
  rcases x with _ | ⟨_ | _, _⟩ <;> rfl
@[simp] theorem WS_cS (x b Q) : WS (cS x b) Q = WS x (cQ b Q) := by
  rcases x with _ | ⟨_ | _ | _ | _ | _, _, _⟩ <;> rfl
@[simp] theorem WS_gS (x Q) : WS (gS x) Q = WG x (gQ Q) := by
  rcases x with _ | ⟨_, _⟩ <;> rfl
@[simp] theorem WG_none (Q) : WG none Q = False := (rfl)
@[simp] theorem WG_some (ρ L Q) : WG (some (ρ, L)) Q = Q ρ L := (rfl)
@[simp] theorem WG_gC (x gs r Q) : WG (gC x gs r) Q = WG x (gK gs r Q) := by
  rcases x with _ | ⟨_, _⟩ <;> rfl
@[simp] theorem WS_ite (c : Prop) [Decidable c] (x y Q) : WS (if c then x else y) Q = if c then WS x Q else WS y Q := by split <;> rfl
def rQ (n : Nat) (keep : Bool) (Q : QE SV) (E : Exc → List LO → Prop) : QS := fun f ρ L => WE (rL n keep (some (f, ρ, L))) Q E
@[simp] theorem WE_rL (n keep x Q E) : WE (rL n keep x) Q E = WS x (rQ n keep Q E) := by
  rcases x with _ | ⟨_ | _ | _ | _ | _, _, _⟩ <;> rfl
@[simp] theorem rQ_nx (n k Q E ρ L) : rQ n k Q E .nx ρ L = Q (.d .non) (cutL n L) := (rfl)
@[simp] theorem rQ_rtd (n k Q E d ρ L) : rQ n k Q E (.rt (.d d)) ρ L = Q (.d d) (cutL n L) := (rfl)
@[simp] theorem rQ_rtr (n m Q E ρ L) : rQ n true Q E (.rt (.r m)) ρ L = Q (.r m) L := (rfl)
theorem rQ_rtr' (n m Q E ρ L) : rQ n false Q E (.rt (.r m)) ρ L = WE (outL false n L (.r m)) Q E := rfl
@[simp] theorem rQ_ex (n k Q E e ρ L) : rQ n k Q E (.ex e) ρ L = E e (cutL n L) := (rfl)
theorem WE_if (c : Prop) [Decidable c] (x y) (Q : QE SV) (E) : (if c then WE x Q E else WE y Q E) ↔ ((c → WE x Q E) ∧ (¬ c → WE y Q E)) := by
  split <;> simp [*]
@[simp] theorem onL_nx (N B O) : onL .nx N B O = N := (rfl)
@[simp] theorem onL_bk (N B O) : onL .bk N B O = B := (rfl)
@[simp] theorem onL_ct (N B O) : onL .ct N B O = N := (rfl)
@[simp] theorem onL_rt (v N B O) : onL (.rt v) N B O = O (.rt v) := (rfl)
@[simp] theorem onL_ex (v N B O) : onL (.ex v) N B O = O (.ex v) := (rfl)
/-- behind a turn of for, while -/
def lQ (I : Env' → List LO → Prop) (Q : QS) : QS := fun f ρ L => onL f (I ρ L) (Q .nx ρ L) fun f => Q f ρ L
@[simp] theorem lQ_nx (I Q ρ L) : lQ I Q .nx ρ L = I ρ L := (rfl)
@[simp] theorem lQ_ct (I Q ρ L) : lQ I Q .ct ρ L = I ρ L := (rfl)
@[simp] theorem lQ_bk (I Q ρ L) : lQ I Q .bk ρ L = Q .nx ρ L := (rfl)
@[simp] theorem lQ_rt (I Q v ρ L) : lQ I Q (.rt v) ρ L = Q (.rt v) ρ L := (rfl)
@[simp] theorem lQ_ex (I Q v ρ L) : lQ I Q (.ex v) ρ L = Q (.ex v) ρ L := (rfl)
def bQ (b : MS) (Q : QS) : Env' → List LO → Prop := fun ρ L => WS (b ρ L) Q
@[simp] theorem bQ_ap (b Q ρ L) : bQ b Q ρ L = WS (b ρ L) Q := (rfl)
def lessI (n : Nat) (I : Nat → Env' → List LO → Prop) : Env' → List LO → Prop := fun ρ L => ∃ m, m < n ∧ I m ρ L
def wQ (b : MS) (n : Nat) (I : Nat → Env' → List LO → Prop) (Q : QS) (ρ : Env') : QE Bool := fun t L => if t = true then WS (b ρ L) (lQ (lessI n I) Q) else Q .nx ρ L
@[simp] theorem wQ_ap (b n I Q ρ t L) : wQ b n I Q ρ t L = if t = true then WS (b ρ L) (lQ (lessI n I) Q) else Q .nx ρ L := (rfl)
theorem WE_of {x : Option (RR α × List LO)} {a : α} {L : List LO} {Q : α → List LO → Prop} {E} (h : x = some (.ok a, L)) (q : Q a L) : WE x Q E := by rw [h]; exact q
theorem WS_of {x : Option (Fl × Env' × List LO)} {f ρ L Q} (h : x = some (f, ρ, L)) (q : Q f ρ L) : WS x Q := by rw [h]; exact q
theorem WE_eq {x : Option (RR α × List LO)} {a : α} {L : List LO} (h : WE x (fun b L' => b = a ∧ L' = L) (fun _ _ => False)) : x = some (.ok a, L) := by
  rcases x with _ | ⟨_ | _, _⟩
  · exact h.elim
  · obtain ⟨rfl, rfl⟩ := h; rfl
  · exact h.elim
theorem rP_of {x : Option (Fl × Env' × List LO)} {d : D} (h : WS x (fun f _ _ => f = .rt (.d d))) : rP x = some (.ok d) := by
  rcases x with _ | ⟨f, ρ, L⟩
  · exact h.elim
  · have h : f = .rt (.d d) := h
    subst h; exact rP_rt d ρ L
theorem WE_mono {x : Option (RR α × List LO)} {Q Q' : α → List LO → Prop} {E E'} (h : WE x Q E) (hq : ∀ a L, Q a L → Q' a L) (he : ∀ e L, E e L → E' e L) : WE x Q' E' := by
  rcases x with _ | ⟨_ | _, _⟩
  · exact h
  · exact hq _ _ h
  · exact he _ _ h
theorem WS_mono {x : Option (Fl × Env' × List LO)} {Q Q'} (h : WS x Q) (hq : ∀ f ρ L, Q f ρ L → Q' f ρ L) : WS x Q' := by
  rcases x with _ | ⟨f, ρ, L⟩
  · exact h
  · exact hq _ _ _ h
end
/-! loops -/
theorem forL_wp {it : Items} (h0 : it.src = none) {g : MG} {b : MS} {Q} (I : Env' → List LO → Prop) (hQ : ∀ ρ L, I ρ L → Q .nx ρ L) : ∀ (xs : List SV) (ρ : Env') (L : List LO), I ρ L →
    (∀ x ∈ xs, ∀ ρ L, I ρ L → WG (g x ρ L) (bQ b (lQ I Q))) → WS (forL it g b xs ρ L) Q
  | [], ρ, L, hI, _ => by
    unfold forL
    rw [if_pos (by unfold Items.ok; rw [h0]; trivial)]
    exact hQ _ _ hI
  | x :: xs, ρ, L, hI, hs => by
    unfold forL
    rw [if_pos (by unfold Items.ok; rw [h0]; trivial)]
    have h1 := hs x List.mem_cons_self ρ L hI
    rcases e1 : g x ρ L with _ | ⟨ρ1, L1⟩ <;> rw [e1] at h1
    · exact h1.elim
    · simp only [WG_some, bQ_ap] at h1
      dsimp only
      rcases e2 : b ρ1 L1 with _ | ⟨_ | _ | _ | _ | _, ρ2, L2⟩ <;> rw [e2] at h1
      · exact h1.elim
      · exact forL_wp h0 I hQ xs ρ2 L2 h1 fun y hy => hs y (List.mem_cons_of_mem _ hy)
      · exact h1
      · exact forL_wp h0 I hQ xs ρ2 L2 h1 fun y hy => hs y (List.mem_cons_of_mem _ hy)
      · exact h1
      · exact h1
/-- with the turn's number -/
theorem forL_wpi {it : Items} (h0 : it.src = none) {g : MG} {b : MS} {Q} (I : Nat → Env' → List LO → Prop) : ∀ (xs : List SV) (i : Nat) (ρ : Env') (L : List LO), I i ρ L → (∀ ρ L, I (i + xs.length) ρ L → Q .nx ρ L) →
    (∀ j x, xs[j]? = some x → ∀ ρ L, I (i + j) ρ L → WG (g x ρ L) (bQ b (lQ (I (i + j + 1)) Q))) → WS (forL it g b xs ρ L) Q
  | [], i, ρ, L, hI, hQ, _ => by
    unfold forL
    rw [if_pos (by unfold Items.ok; rw [h0]; trivial)]
    exact hQ _ _ hI
  | x :: xs, i, ρ, L, hI, hQ, hs => by
    unfold forL
    rw [if_pos (by unfold Items.ok; rw [h0]; trivial)]
    have h1 := hs 0 x rfl ρ L hI
    have e : ∀ j, i + 1 + j = i + (j + 1) := fun j => by omega
    have hrec : ∀ ρ2 L2, I (i + 0 + 1) ρ2 L2 → WS (forL it g b xs ρ2 L2) Q := fun ρ2 L2 h => forL_wpi h0 I xs (i + 1) ρ2 L2 h (by rw [e]; exact hQ) fun j y hy ρ L q => by
      have := hs (j + 1) y (by simpa using hy) ρ L (by rw [← e]; exact q)
      rw [← e] at this; exact this
    rcases e1 : g x ρ L with _ | ⟨ρ1, L1⟩ <;> rw [e1] at h1
    · exact h1.elim
    · simp only [WG_some, bQ_ap] at h1
      dsimp only
      rcases e2 : b ρ1 L1 with _ | ⟨_ | _ | _ | _ | _, ρ2, L2⟩ <;> rw [e2] at h1
      · exact h1.elim
      · exact hrec _ _ h1
      · exact h1
      · exact hrec _ _ h1
      · exact h1
      · exact h1
theorem sWhile_wp {c : Mo Bool} {b : MS} {Q} (I : Nat → Env' → List LO → Prop)
    (hs : ∀ n ρ L, I n ρ L → WE (c ρ L) (wQ b n I Q ρ) (xS ρ Q)) : ∀ (n : Nat) (ρ : Env') (L : List LO), I n ρ L → WS (sWhile c b ρ L) Q := by
  intro n
  induction n using Nat.strongRecOn with
  | ind n ih =>
    intro ρ L hI
    have h1 := hs n ρ L hI
    rw [sWhile_eq]
    rcases e1 : c ρ L with _ | ⟨(_ | _) | _, L1⟩ <;> rw [e1] at h1
    · exact h1.elim
    · simp only [WE_ok, wQ_ap] at h1; rw [if_neg (by decide)] at h1; exact h1
    · simp only [WE_ok, wQ_ap, if_true] at h1
      dsimp only
      rcases e2 : b ρ L1 with _ | ⟨_ | _ | _ | _ | _, ρ2, L2⟩ <;> rw [e2] at h1
      · exact h1.elim
      · obtain ⟨m, hm, h⟩ := h1; exact ih m hm _ _ h
      · exact h1
      · obtain ⟨m, hm, h⟩ := h1; exact ih m hm _ _ h
      · exact h1
      · exact h1
    · exact h1
theorem cutL_all (n : Nat) (L : List LO) (h : L.length = n) : cutL n L = L := by
  unfold cutL; split
  · rw [List.take_of_length_le (by omega)]
  · rfl
set_option exponentiation.threshold 3000000 in
theorem big_of {z : Int} (h : PySem.Builtin.Int.intBits z ≤ 1048576) : z.natAbs < 2 ^ 2000000 := by
  by_cases h0 : z = 0
  · subst h0; exact Nat.pow_pos (by decide)
  · unfold PySem.Builtin.Int.intBits at h
    rw [if_neg (by simpa using h0)] at h
    exact Nat.lt_of_lt_of_le ((Nat.log2_lt (by omega)).mp (Nat.lt_succ_of_le (Nat.le_refl _))) (Nat.pow_le_pow_right (by decide) (by omega))
/-- the cell of a script -/
theorem cell_of {ns : List Int} (hb : ∀ z ∈ ns, PySem.Builtin.Int.intBits z ≤ 1048576) : ∃ z c : Int, atI (ns.map D.int ++ [D.int 0]) 0 = some (.int z) ∧ absD (.int z) = some (.int c) ∧ 0 ≤ c ∧ ∀ j : Int, -2 ^ 200 ≤ j → j ≤ 2 ^ 200 → mulD (.int c) (.int j) = some (.int (c * j)) := by
  obtain ⟨z, hz, he⟩ : ∃ z : Int, z.natAbs < 2 ^ 2000000 ∧ atI (ns.map D.int ++ [D.int 0]) 0 = some (.int z) := by
    cases ns with
    | nil => exact ⟨0, Nat.pow_pos (by decide), rfl⟩
    | cons z r => exact ⟨z, big_of (hb z List.mem_cons_self), by unfold atI ixN; rw [if_pos (by decide), if_pos (by simp; omega)]; rfl⟩
  refine ⟨z, _, he, rfl, by split <;> omega, fun j h1 h2 => ?_⟩
  have : mulOk (if z < 0 then -z else z) j := mulOk_of (by split <;> omega) (Nat.lt_of_le_of_lt (m := 2 ^ 200) (by omega) (Nat.pow_lt_pow_right (by decide) (by decide)))
  show (if mulOk _ j then some (D.int (_ * j)) else none) = _
  rw [if_pos this]
/-! comprehensions -/
theorem lcL_eq {it : Items} (h0 : it.src = none) {own : List Nat} {g : MG} {tt : Mo Bool} {te : Mo SV} {ρ : Env'} {L : List LO} (f : D → D) (p : D → Bool) : ∀ ds : List D,
    (∀ d ∈ ds, ∃ ρ1, g (.d d) (wipeE ρ own) L = some (ρ1, L) ∧ tt ρ1 L = some (.ok (p d), L) ∧ (p d = true → te ρ1 L = some (.ok (.d (f d)), L))) → lcL it own g tt te ρ (ds.map .d) L = some (((ds.filter p).map f).map .d, L)
  | [], _ => by
    rw [List.map_nil, lcL, if_pos (by unfold Items.ok; rw [h0]; trivial)]; rfl
  | d :: ds, h => by
    have ih := lcL_eq h0 f p ds fun e he => h e (List.mem_cons_of_mem _ he)
    obtain ⟨ρ1, h1, h2, h3⟩ := h d List.mem_cons_self
    rw [List.map_cons, lcL, if_pos (by unfold Items.ok; rw [h0]; trivial), h1]
    dsimp only
    rw [h2]
    cases e : p d with
    | true =>
      dsimp only
      rw [h3 e]
      dsimp only
      rw [ih]
      simp [List.filter_cons, e]
    | false =>
      dsimp only
      rw [ih]
      simp [List.filter_cons, e]
theorem mLc_eq {m : Mo Items} {own : List Nat} {g : MG} {tt : Mo Bool} {te : Mo SV} {ρ : Env'} {L : List LO} (ds : List D) (f : D → D) (p : D → Bool) (hm : m ρ L = some (.ok ⟨none, ds.map .d⟩, L)) (hl : ds.length ≤ 16777216)
    (h : ∀ d ∈ ds, ∃ ρ1, g (.d d) (wipeE ρ own) L = some (ρ1, L) ∧ tt ρ1 L = some (.ok (p d), L) ∧ (p d = true → te ρ1 L = some (.ok (.d (f d)), L))) : mLc m own g tt te toLst ρ L = some (.ok (.d (.lst ((ds.filter p).map f))), L) := by
  unfold mLc
  rw [Mo_bind, hm, bO_ok]
  rw [if_pos (by simpa using hl)]
  dsimp only
  rw [lcL_eq rfl f p ds h]
  dsimp only
  unfold toLst
  rw [pures_map]
/-- over range(j) -/
theorem mLc_range {ms : Mo (List SV)} {own : List Nat} {i : Nat} {tt : Mo Bool} {te : Mo SV} {ρ : Env'} {L : List LO} (j : Int) (f : Int → D) (p : Int → Bool) (hm : ms ρ L = some (.ok [.d (.int j)], L)) (hl : j ≤ 16777216) (hl2 : -16777216 ≤ j)
    (h : ∀ k : Int, 0 ≤ k → k < j → tt ((wipeE ρ own).set i (some (.d (.int k)))) L = some (.ok (p k), L) ∧ (p k = true → te ((wipeE ρ own).set i (some (.d (.int k)))) L = some (.ok (.d (f k)), L))) :
    mLc (mRange1 ms) own (gVar i) tt te toLst ρ L = some (.ok (.d (.lst ((((List.range j.toNat).map fun (k : Nat) => (k : Int)).filter p).map f))), L) := by
  have e := mLc_eq (m := mRange1 ms) (own := own) (g := gVar i) (tt := tt) (te := te) (ρ := ρ) (L := L) ((List.range j.toNat).map fun (k : Nat) => D.int (k : Int)) (fun d => match d with | .int k => f k | _ => .non) (fun d => match d with | .int k => p k | _ => false) (by
    simp only [mRange1_ap, hm, bO_ok, itRange1, rangeD]
    rw [if_pos (by unfold okR; simp; omega)]
    simp [List.map_map, Function.comp_def]) (by simp; omega) (fun d hd => by
      obtain ⟨k, hk, rfl⟩ := List.mem_map.mp hd
      have hk := List.mem_range.mp hk
      exact ⟨_, rfl, h k (by omega) (by omega)⟩)
  rw [e]
  simp only [List.filter_map, List.map_map]
  rfl
@[simp] theorem gYes_ap (ρ L) : gYes ρ L = some (.ok true, L) := (rfl)
@[simp] theorem wipeE_nil (ρ) : wipeE ρ [] = ρ := (rfl)
@[simp] theorem wipeE_cons (ρ v vs) : wipeE ρ (v :: vs) = (wipeE ρ vs).set v none := (rfl)
theorem boolsOf_map {γ : Type} (g : γ → Bool) (l : List γ) : boolsOf (l.map fun x => .bl (g x)) = some (l.map g) := by
  induction l with
  | nil => rfl
  | cons a l ih => simp [boolsOf, ih]
theorem intsOf_map {γ : Type} (g : γ → Int) (l : List γ) : intsOf (l.map fun x => .int (g x)) = some (l.map g) := by
  induction l with
  | nil => rfl
  | cons a l ih => simp [intsOf, ih]
/-! places -/
theorem atI_in {α : Type} {xs : List α} {i : Int} (h0 : 0 ≤ i) (h1 : i < xs.length) : atI xs i = xs[i.toNat]? := by
  unfold atI ixN; rw [if_pos h0, if_pos h1]; rfl
theorem ixN_in {n : Nat} {i : Int} (h0 : 0 ≤ i) (h1 : i < n) : ixN n i = some i.toNat := by
  unfold ixN; rw [if_pos h0, if_pos h1]
def oV (o : Option SV) (L : List LO) : Option (RR SV × List LO) := match o with
  | some d => some (.ok d, L)
  | none => none
@[simp] theorem oV_some (d L) : oV (some d) L = some (.ok d, L) := (rfl)
@[simp] theorem oV_none (L) : oV none L = none := (rfl)
@[simp] theorem opIdx_l (xs i ρ L) : opIdx (.d (.lst xs)) (.d (.int i)) ρ L = oD (atI xs i) L := by
  show (match atI xs i with | some d => some (RR.ok (SV.d d), L) | none => none) = oD (atI xs i) L
  unfold oD; rfl
@[simp] theorem opIdx_t (xs i ρ L) : opIdx (.d (.tup xs)) (.d (.int i)) ρ L = oD (atI xs i) L := by
  show (match atI xs i with | some d => some (RR.ok (SV.d d), L) | none => none) = oD (atI xs i) L
  unfold oD; rfl
@[simp] theorem opIdx_r (n i ρ) (L : List LO) : opIdx (.r n) (.d (.int i)) ρ L = match L[n]? with | some (.lst xs) => oV (atI xs i) L | _ => none := by
  show (match L[n]? with | some (.lst xs) => (match atI xs i with | some v => some (RR.ok v, L) | none => none) | _ => none) = _
  rcases L[n]? with _ | (_ | xs)
  · rfl
  · rfl
  · dsimp only; cases atI xs i <;> rfl
def setO (L : List LO) (n : Nat) (k : Int) (v : SV) : Option (List LO) := match L[n]? with
  | some (.lst xs) => match ixN xs.length k with
    | some j => some (L.set n (.lst (xs.set j v)))
    | none => none
  | _ => none
def g2 (x : SV) (o : Option (RR SV × List LO)) (v : SV) (ρ : Env') : Option (Env' × List LO) := match x, o with
  | .r n, some (.ok (.d (.int k)), L) => match setO L n k v with | some L => some (ρ, L) | none => none
  | _, _ => none
def g1 (o : Option (RR SV × List LO)) (mi : Mo SV) (v : SV) (ρ : Env') : Option (Env' × List LO) := match o with
  | some (.ok x, L) => g2 x (mi ρ L) v ρ
  | _ => none
def gL (o : Option (List LO)) (ρ : Env') : Option (Env' × List LO) := match o with
  | some L => some (ρ, L)
  | none => none
@[simp] theorem g1_ok (x L mi v ρ) : g1 (some (.ok x, L)) mi v ρ = g2 x (mi ρ L) v ρ := (rfl)
@[simp] theorem g2_ok (n k L v ρ) : g2 (.r n) (some (.ok (.d (.int k)), L)) v ρ = gL (setO L n k v) ρ := by
  unfold g2 gL; rfl
@[simp] theorem gL_some (L ρ) : gL (some L) ρ = some (ρ, L) := (rfl)
@[simp] theorem gIdx_ap (mo mi v ρ L) : gIdx mo mi v ρ L = g1 (mo ρ L) mi v ρ := by
  unfold gIdx g1 g2
  generalize mo ρ L = o1
  rcases o1 with _ | ⟨(d | n) | _, L1⟩
  · rfl
  · dsimp only
  · dsimp only
    generalize mi ρ L1 = o2
    rcases o2 with _ | ⟨(d2 | n2) | _, L2⟩
    · rfl
    · cases d2 <;> try rfl
      dsimp only
      unfold setO
      generalize L2[n]? = o3
      rcases o3 with _ | (_ | xs)
      · rfl
      · rfl
      · dsimp only
        generalize ixN xs.length _ = o4
        cases o4 <;> rfl
    · rfl
    · rfl
  · rfl
end DL
namespace Lw
open PySem PySem.Spec PyProof.Rows L2 DL
def top (i : Nat) : Stmt := PySem.Challenge.pw_brickbonds_k88_whole_lengths_that_are_to.main.body.getD i (.Pass ⟨0, 0, 0, 0⟩)
abbrev st__law_roll : Stmt := top 19
abbrev st__law_some : Stmt := top 20
abbrev st__law_gauge : Stmt := top 22
abbrev st__law_same : Stmt := top 21
abbrev st_is_whole : Stmt := top 4
abbrev st_fits_whole : Stmt := top 5
abbrev st_need_gauge : Stmt := top 11
abbrev st_need_wide : Stmt := top 12
abbrev st_left_over : Stmt := top 15
abbrev st_need_units : Stmt := top 13
abbrev st_mortar_for : Stmt := top 16
abbrev st_quarters_for : Stmt := top 14
abbrev st__law_cup : Stmt := top 18
abbrev st_law : Stmt := top 23
def c_MORTAR : D := .int 50
def c_QUARTER : D := .int 200
def c_UNITS : D := .int 40
def c_WIDE : D := .int 100000
/-- what the top has written -/
structure Txt (K : PySem.W.Frag) (mg : Str → Option Value) : Prop where
  b_abs : mg "abs" = none
  b_all : mg "all" = none
  b_bool : mg "bool" = none
  b_int : mg "int" = none
  b_isinstance : mg "isinstance" = none
  b_len : mg "len" = none
  b_list : mg "list" = none
  b_max : mg "max" = none
  b_min : mg "min" = none
  b_range : mg "range" = none
  b_str : mg "str" = none
  b_tuple : mg "tuple" = none
  v_MORTAR : GV K mg "MORTAR" c_MORTAR
  v_QUARTER : GV K mg "QUARTER" c_QUARTER
  v_UNITS : GV K mg "UNITS" c_UNITS
  v_WIDE : GV K mg "WIDE" c_WIDE
  e_InvalidNumber : ExcK K mg "InvalidNumber"
  f__law_roll : FactF K mg "_law_roll" st__law_roll
  f__law_some : FactF K mg "_law_some" st__law_some
  f__law_gauge : FactF K mg "_law_gauge" st__law_gauge
  f__law_same : FactF K mg "_law_same" st__law_same
  f_is_whole : FactF K mg "is_whole" st_is_whole
  f_fits_whole : FactF K mg "fits_whole" st_fits_whole
  f_need_gauge : FactF K mg "need_gauge" st_need_gauge
  f_need_wide : FactF K mg "need_wide" st_need_wide
  f_left_over : FactF K mg "left_over" st_left_over
  f_need_units : FactF K mg "need_units" st_need_units
  f_mortar_for : FactF K mg "mortar_for" st_mortar_for
  f_quarters_for : FactF K mg "quarters_for" st_quarters_for
  f__law_cup : FactF K mg "_law_cup" st__law_cup
  f_law : FactF K mg "law" st_law
/-! #### _law_roll(cup=0, many=1, found=2, deep=3) -/
noncomputable def m__law_roll : MS :=
  sCons (sIf (mBool (m2 (op2 gtD) (m2 opIdx (mVar 0) (mD (.int 0))) (mD (.int 0)))) (sCons (sAsg (m2 (op2 modD) (mCallB (cb1 intD) (aCons (m2 opIdx (mVar 0) (mD (.int 0))) (aNil))) (mVar 1)) (gVar 2))
      (sCons (sAsg (m2 (op2 fdivD) (m2 opIdx (mVar 0) (mD (.int 0))) (mVar 1)) (gIdx (mVar 0) (mD (.int 0))))
      (sRet (mVar 2)))) (sNil))
      (sCons (sAsg (m2 (op2 modD) (mCallB (cb1 intD) (aCons (m2 (op2 addD) (m2 (op2 mulD) (m2 opIdx (mVar 0) (mD (.int 1))) (mD (.int 31379))) (mD (.int 8353))) (aNil))) (mD (.int 2147482817))) (gIdx (mVar 0) (mD (.int 1))))
      (sCons (sAsg (m2 (op2 modD) (mCallB (cb1 intD) (aCons (m2 (op2 mulD) (m2 opIdx (mVar 0) (mD (.int 1))) (m2 (op2 addD) (m2 opIdx (mVar 0) (mD (.int 1))) (mD (.int 541)))) (aNil))) (mD (.int 2147483059))) (gVar 3))
      (sRet (m2 (op2 modD) (mCallB (cb1 intD) (aCons (m2 (op2 fdivD) (mVar 3) (mD (.int 1069))) (aNil))) (mVar 1)))))
noncomputable def f__law_roll : List SV → List LO → Option (RR SV × List LO) := runL 4 false m__law_roll
/-! #### _law_some(cup=0, things=1) -/
noncomputable def m__law_some : MS :=
  sRet (m2 opIdx (mVar 1) (mCallL f__law_roll (aCons (mVar 0) (aCons (mCallB (cb1 lenD) (aCons (mVar 1) (aNil))) (aNil)))))
noncomputable def f__law_some : List SV → List LO → Option (RR SV × List LO) := runL 2 false m__law_some
/-! #### _law_gauge(cup=0, quarter=1) -/
noncomputable def m__law_gauge : MS :=
  sCons (sAsg (m2 (op2 addD) (mD (.int 1)) (mCallL f__law_roll (aCons (mVar 0) (aCons (mCallL f__law_some (aCons (mVar 0) (aCons (mLst (aCons (mD (.int 3)) (aCons (mD (.int 70)) (aCons (mD (.int 200)) (aNil))))) (aNil)))) (aNil))))) (gVar 1))
      (sRet (mTup (aCons (mVar 1) (aCons (mCallL f__law_roll (aCons (mVar 0) (aCons (mCallB (cb2 min2D) (aCons (mD (.int 51)) (aCons (mVar 1) (aNil)))) (aNil)))) (aNil)))))
noncomputable def f__law_gauge : List SV → List LO → Option (RR SV × List LO) := runL 2 false m__law_gauge
/-! #### _law_same(told=0, due=1, at=2) -/
noncomputable def m__law_same (G : List D → Option (RR D)) : MS :=
  sCons (sIf (mTruth (mCallB (cb2 isinstD) (aCons (mVar 1) (aCons (mD (.typ "tuple")) (aNil))))) (sCons (sIf (gOr (gNot (mTruth (mCallB (cb2 isinstD) (aCons (mVar 0) (aCons (mD (.typ "tuple")) (aNil)))))) (mBool (m2 (op2 neD) (mCallB (cb1 lenD) (aCons (mVar 0) (aNil))) (mCallB (cb1 lenD) (aCons (mVar 1) (aNil)))))) (sRet (mD (.bl false))) (sNil))
      (sRet (mCallB (cb1 allD) (aCons (mLc (mRange1 (aCons (mCallB (cb1 lenD) (aCons (mVar 1) (aNil))) (aNil))) [2] (gVar 2) (gYes) (mCallP G (aCons (m2 opIdx (mVar 0) (mVar 2)) (aCons (m2 opIdx (mVar 1) (mVar 2)) (aNil)))) toLst) (aNil))))) (sNil))
      (sCons (sIf (mBool (m2 (op2 (isD false)) (mVar 1) (mD .non))) (sRet (m2 (op2 (isD false)) (mVar 0) (mD .non))) (sNil))
      (sCons (sIf (mTruth (mCallB (cb2 isinstD) (aCons (mVar 1) (aCons (mD (.typ "bool")) (aNil))))) (sRet (mIf (mTruth (mVar 1)) (m2 (op2 (isD false)) (mVar 0) (mD (.bl true))) (m2 (op2 (isD false)) (mVar 0) (mD (.bl false))))) (sNil))
      (sCons (sIf (mTruth (mCallB (cb2 isinstD) (aCons (mVar 1) (aCons (mD (.typ "int")) (aNil))))) (sRet (mAnd (mCallB (cb2 isinstD) (aCons (mVar 0) (aCons (mD (.typ "int")) (aNil)))) (mAnd (mNot (mCallB (cb2 isinstD) (aCons (mVar 0) (aCons (mD (.typ "bool")) (aNil))))) (m2 (op2 eqD) (mCallB (cb1 intD) (aCons (mVar 0) (aNil))) (mVar 1))))) (sNil))
      (sRet (mAnd (mCallB (cb2 isinstD) (aCons (mVar 0) (aCons (mD (.typ "str")) (aNil)))) (m2 (op2 eqD) (mCallB (cb1 strOfD) (aCons (mVar 0) (aNil))) (mVar 1)))))))
noncomputable def r__law_same (i : Nat) : List D → Option (RR D) := recP 3 m__law_same i
/-! #### is_whole(value=0) -/
noncomputable def m_is_whole : MS :=
  sRet (mAnd (mCallB (cb2 isinstD) (aCons (mVar 0) (aCons (mD (.typ "int")) (aNil)))) (mNot (mCallB (cb2 isinstD) (aCons (mVar 0) (aCons (mD (.typ "bool")) (aNil))))))
noncomputable def f_is_whole : List D → Option (RR D) := runP 1 m_is_whole
/-! #### fits_whole(value=0, low=1, high=2) -/
noncomputable def m_fits_whole : MS :=
  sRet (mAnd (mCallP f_is_whole (aCons (mVar 0) (aNil))) (mChain (op2 leD) (op2 leD) (mVar 1) (mVar 0) (mVar 2)))
noncomputable def f_fits_whole : List D → Option (RR D) := runP 3 m_fits_whole
/-! #### need_gauge(quarter=0, mortar=1) -/
noncomputable def m_need_gauge : MS :=
  sCons (sIf (gNot (mTruth (mCallP f_fits_whole (aCons (mVar 0) (aCons (mD (.int 1)) (aCons (mD c_QUARTER) (aNil))))))) (sRaise "InvalidNumber") (sNil))
      (sIf (gNot (mTruth (mCallP f_fits_whole (aCons (mVar 1) (aCons (mD (.int 0)) (aCons (mCallB (cb2 min2D) (aCons (mD c_MORTAR) (aCons (m2 (op2 subD) (mVar 0) (mD (.int 1))) (aNil)))) (aNil))))))) (sRaise "InvalidNumber") (sNil))
noncomputable def f_need_gauge : List D → Option (RR D) := runP 2 m_need_gauge
/-! #### need_wide(value=0) -/
noncomputable def m_need_wide : MS :=
  sIf (gNot (mTruth (mCallP f_fits_whole (aCons (mVar 0) (aCons (mD (.int 1)) (aCons (mD c_WIDE) (aNil))))))) (sRaise "InvalidNumber") (sNil)
noncomputable def f_need_wide : List D → Option (RR D) := runP 1 m_need_wide
/-! #### left_over(wide=0, quarter=1, mortar=2, many=3) -/
noncomputable def m_left_over : MS :=
  sCons (sExpr (mCallP f_need_wide (aCons (mVar 0) (aNil))))
      (sCons (sExpr (mCallP f_need_gauge (aCons (mVar 1) (aCons (mVar 2) (aNil)))))
      (sCons (sAsg (m2 (op2 fdivD) (m2 (op2 addD) (mVar 0) (mVar 2)) (mVar 1)) (gVar 3))
      (sRet (mIf (mBool (m2 (op2 eqD) (mVar 3) (mD (.int 0)))) (mVar 0) (m2 (op2 subD) (mVar 0) (m2 (op2 subD) (m2 (op2 mulD) (mVar 3) (mVar 1)) (mVar 2)))))))
noncomputable def f_left_over : List D → Option (RR D) := runP 4 m_left_over
/-! #### need_units(value=0) -/
noncomputable def m_need_units : MS :=
  sIf (gNot (mTruth (mCallP f_fits_whole (aCons (mVar 0) (aCons (mD (.int 1)) (aCons (mD c_UNITS) (aNil))))))) (sRaise "InvalidNumber") (sNil)
noncomputable def f_need_units : List D → Option (RR D) := runP 1 m_need_units
/-! #### mortar_for(wide=0, quarters=1, quarter=2, mortar=3) -/
noncomputable def m_mortar_for : MS :=
  sCons (sExpr (mCallP f_need_wide (aCons (mVar 0) (aNil))))
      (sCons (sExpr (mCallP f_need_units (aCons (mVar 1) (aNil))))
      (sCons (sIf (gNot (mTruth (mCallP f_fits_whole (aCons (mVar 2) (aCons (mD (.int 1)) (aCons (mD c_QUARTER) (aNil))))))) (sRaise "InvalidNumber") (sNil))
      (sCons (sAsg (m2 (op2 subD) (m2 (op2 mulD) (mVar 1) (mVar 2)) (mVar 0)) (gVar 3))
      (sRet (mIf (mBool (mChain (op2 leD) (op2 leD) (mD (.int 0)) (mVar 3) (mCallB (cb2 min2D) (aCons (mD c_MORTAR) (aCons (m2 (op2 subD) (mVar 2) (mD (.int 1))) (aNil)))))) (mVar 3) (mD .non))))))
noncomputable def f_mortar_for : List D → Option (RR D) := runP 4 m_mortar_for
/-! #### quarters_for(wide=0, quarter=1, mortar=2) -/
noncomputable def m_quarters_for : MS :=
  sCons (sExpr (mCallP f_need_wide (aCons (mVar 0) (aNil))))
      (sCons (sExpr (mCallP f_need_gauge (aCons (mVar 1) (aCons (mVar 2) (aNil)))))
      (sRet (m2 (op2 fdivD) (m2 (op2 addD) (mVar 0) (mVar 2)) (mVar 1))))
noncomputable def f_quarters_for : List D → Option (RR D) := runP 3 m_quarters_for
/-! #### _law_cup(script=0, cell=1) -/
noncomputable def m__law_cup : MS :=
  sCons (sAsg (mCallB (cb1 absD) (aCons (m2 opIdx (m2 (op2 addD) (mCallB (cb1 listD) (aCons (mVar 0) (aNil))) (mLst (aCons (mD (.int 0)) (aNil)))) (mD (.int 0))) (aNil))) (gVar 1))
      (sRet (mLive (aCons (mIf (mBool (m2 (op2 geD) (mVar 1) (m2 (op2 powD) (mD (.int 10)) (mD (.int 18))))) (m2 (op2 fdivD) (mVar 1) (mD (.int 331))) (mD (.int 0))) (aCons (m2 (op2 addD) (m2 (op2 modD) (mCallB (cb1 intD) (aCons (m2 (op2 addD) (m2 (op2 mulD) (mVar 1) (mD (.int 571))) (mD (.int 4349))) (aNil))) (mD (.int 2077502977))) (mD (.int 443))) (aNil)))))
noncomputable def f__law_cup : List SV → List LO → Option (RR SV × List LO) := runL 2 true m__law_cup
/-! #### law(script=0, cup=1, turn=2, quarter=3, mortar=4, wide=5, many=6, left=7, size=8, length=9, good=10, told=11, own=12) -/
noncomputable def m_law : MS :=
  sCons (sAsg (mCallL f__law_cup (aCons (mVar 0) (aNil))) (gVar 1))
      (sCons (sFor (mRange1 (aCons (mD (.int 10)) (aNil))) (gVar 2) (sCons (sAsg (mCallL f__law_gauge (aCons (mVar 1) (aNil))) (gTupD 2 (gsCons (gVar 3) (gsCons (gVar 4) (gsNil)))))
      (sCons (sAsg (m2 (op2 addD) (mD (.int 1)) (mCallL f__law_roll (aCons (mVar 1) (aCons (mCallL f__law_some (aCons (mVar 1) (aCons (mLst (aCons (m2 (op2 addD) (mVar 3) (mD (.int 3))) (aCons (m2 (op2 mulD) (mD (.int 40)) (mVar 3)) (aCons (m2 (op2 mulD) (mD (.int 50)) (mVar 3)) (aNil))))) (aNil)))) (aNil))))) (gVar 5))
      (sCons (sAsg (mD (.int 0)) (gVar 6))
      (sCons (sWhile (mBool (m2 (op2 leD) (m2 (op2 subD) (m2 (op2 mulD) (m2 (op2 addD) (mVar 6) (mD (.int 1))) (mVar 3)) (mVar 4)) (mVar 5))) (sAsg (m2 (op2 addD) (mVar 6) (mD (.int 1))) (gVar 6)))
      (sCons (sAsg (mIf (mBool (m2 (op2 gtD) (mVar 6) (mD (.int 0)))) (m2 (op2 subD) (mVar 5) (m2 (op2 subD) (m2 (op2 mulD) (mVar 6) (mVar 3)) (mVar 4))) (mVar 5)) (gVar 7))
      (sCons (sIf (gNot (mTruth (mCallP (r__law_same 6) (aCons (mTup (aCons (mCallP f_quarters_for (aCons (mVar 5) (aCons (mVar 3) (aCons (mVar 4) (aNil))))) (aCons (mCallP f_left_over (aCons (mVar 5) (aCons (mVar 3) (aCons (mVar 4) (aNil))))) (aNil)))) (aCons (mTup (aCons (mVar 6) (aCons (mVar 7) (aNil)))) (aNil)))))) (sRet (mD (.bl false))) (sNil))
      (sCons (sIf (gNot (mBool (mChain (op2 leD) (op2 ltD) (mD (.int 0)) (mVar 7) (mVar 3)))) (sRet (mD (.bl false))) (sNil))
      (sCons (sAsg (m2 (op2 addD) (mD (.int 1)) (mCallL f__law_roll (aCons (mVar 1) (aCons (mD (.int 40)) (aNil))))) (gVar 8))
      (sCons (sAsg (mCallB (cb2 max2D) (aCons (mD (.int 1)) (aCons (m2 (op2 subD) (m2 (op2 mulD) (mVar 8) (mVar 3)) (mCallL f__law_roll (aCons (mVar 1) (aCons (mD (.int 60)) (aNil))))) (aNil)))) (gVar 9))
      (sCons (sAsg (mLc (mRange1 (aCons (mCallB (cb2 min2D) (aCons (mD (.int 51)) (aCons (mVar 3) (aNil)))) (aNil))) [12] (gVar 12) (mBool (m2 (op2 eqD) (m2 (op2 subD) (m2 (op2 mulD) (mVar 8) (mVar 3)) (mVar 12)) (mVar 9))) (mVar 12) toLst) (gVar 10))
      (sCons (sIf (gNot (mTruth (mCallP (r__law_same 6) (aCons (mCallP f_mortar_for (aCons (mVar 9) (aCons (mVar 8) (aCons (mVar 3) (aNil))))) (aCons (mIf (mBool (m2 (op2 neD) (mVar 10) (mLst (aNil)))) (m2 opIdx (mVar 10) (mD (.int 0))) (mD .non)) (aNil)))))) (sRet (mD (.bl false))) (sNil))
      (sIf (gAnd (mBool (m2 (op2 neD) (mVar 10) (mLst (aNil)))) (mBool (m2 (op2 neD) (mTup (aCons (mCallP f_quarters_for (aCons (mVar 9) (aCons (mVar 3) (aCons (m2 opIdx (mVar 10) (mD (.int 0))) (aNil))))) (aCons (mCallP f_left_over (aCons (mVar 9) (aCons (mVar 3) (aCons (m2 opIdx (mVar 10) (mD (.int 0))) (aNil))))) (aNil)))) (mTup (aCons (mVar 8) (aCons (mD (.int 0)) (aNil))))))) (sRet (mD (.bl false))) (sNil))))))))))))))
      (sCons (sAsg (mTup (aCons (mCallP f_quarters_for (aCons (mD (.int 100000)) (aCons (mD (.int 1)) (aCons (mD (.int 0)) (aNil))))) (aCons (mCallP f_left_over (aCons (mD (.int 1)) (aCons (mD (.int 200)) (aCons (mD (.int 50)) (aNil))))) (aCons (mCallP f_mortar_for (aCons (mD (.int 1)) (aCons (mD (.int 1)) (aCons (mD (.int 1)) (aNil))))) (aCons (mCallP f_mortar_for (aCons (mD (.int 10)) (aCons (mD (.int 2)) (aCons (mD (.int 5)) (aNil))))) (aCons (mCallP f_mortar_for (aCons (mD (.int 11)) (aCons (mD (.int 2)) (aCons (mD (.int 5)) (aNil))))) (aNil))))))) (gVar 11))
      (sRet (mCallP (r__law_same 6) (aCons (mVar 11) (aCons (mTup (aCons (mD (.int 100000)) (aCons (mD (.int 1)) (aCons (mD (.int 0)) (aCons (mD (.int 0)) (aCons (mD .non) (aNil))))))) (aNil)))))))
noncomputable def f_law : List D → Option (RR D) := runP 13 m_law
section
variable {X : Cx} {W : WX} {k : Nat}
set_option maxHeartbeats 4000000 in
theorem d__law_roll (C : Ctx X W ["cup", "many", "found", "deep"] (defScope st__law_roll) (fun _ => true) k) (hk : 0 ≤ k) (T : Txt X.K X.mg) : JSs X W (defBody st__law_roll) m__law_roll := by
  unfold m__law_roll
  exact jsCons (jIfS (jtCmp jGt (jIdx (jVar (C.sl (i := 0) (by decide +kernel))) (jInt)) (jInt) (by rfl)) (jsCons (jSet (C.lc (i := 2) (by decide +kernel)) (jBin jMod (jCallTy jIntOf (C.gb (by decide +kernel) T.b_int (by decide +kernel)) (jaCons (jIdx (jVar (C.sl (i := 0) (by decide +kernel))) (jInt)) (jaNil))) (jVar (C.sl (i := 1) (by decide +kernel)))))
      (jsCons (jAsg (jBin jFdiv (jIdx (jVar (C.sl (i := 0) (by decide +kernel))) (jInt)) (jVar (C.sl (i := 1) (by decide +kernel)))) (jgIdx (W := W) (jVar (C.sl (i := 0) (by decide +kernel))) (jInt)))
      (jsOne (jRet (jVar (C.sl (i := 2) (by decide +kernel))))))) (jsNil))
      (jsCons (jAsg (jBin jMod (jCallTy jIntOf (C.gb (by decide +kernel) T.b_int (by decide +kernel)) (jaCons (jBin jAdd (jBin jMul (jIdx (jVar (C.sl (i := 0) (by decide +kernel))) (jInt)) (jInt)) (jInt)) (jaNil))) (jInt)) (jgIdx (W := W) (jVar (C.sl (i := 0) (by decide +kernel))) (jInt)))
      (jsCons (jSet (C.lc (i := 3) (by decide +kernel)) (jBin jMod (jCallTy jIntOf (C.gb (by decide +kernel) T.b_int (by decide +kernel)) (jaCons (jBin jMul (jIdx (jVar (C.sl (i := 0) (by decide +kernel))) (jInt)) (jBin jAdd (jIdx (jVar (C.sl (i := 0) (by decide +kernel))) (jInt)) (jInt))) (jaNil))) (jInt)))
      (jsOne (jRet (jBin jMod (jCallTy jIntOf (C.gb (by decide +kernel) T.b_int (by decide +kernel)) (jaCons (jBin jFdiv (jVar (C.sl (i := 3) (by decide +kernel))) (jInt)) (jaNil))) (jVar (C.sl (i := 1) (by decide +kernel))))))))
set_option maxHeartbeats 4000000 in
theorem d__law_some (C : Ctx X W ["cup", "things"] (defScope st__law_some) (fun _ => true) k) (hk : 1 ≤ k) (T : Txt X.K X.mg) (h__law_roll : FnXL X "_law_roll" 1 2 f__law_roll) : JSs X W (defBody st__law_some) m__law_some := by
  unfold m__law_some
  exact jsOne (jRet (jIdx (jVar (C.sl (i := 1) (by decide +kernel))) (jCallL2 h__law_roll (C.room.mono (Nat.le_trans (by decide) hk)) C.tk (C.gl (x := "_law_roll") (by decide +kernel)) (jaCons (jVar (C.sl (i := 0) (by decide +kernel))) (jaCons (jCallB jLen (C.gb (by decide +kernel) T.b_len (by decide +kernel)) (jaCons (jVar (C.sl (i := 1) (by decide +kernel))) (jaNil))) (jaNil))) (hlCons (hlCons (fun _ _ _ _ h => hlNil h))))))
set_option maxHeartbeats 4000000 in
theorem d__law_gauge (C : Ctx X W ["cup", "quarter"] (defScope st__law_gauge) (fun _ => true) k) (hk : 2 ≤ k) (T : Txt X.K X.mg) (h__law_roll : FnXL X "_law_roll" 1 2 f__law_roll) (h__law_some : FnXL X "_law_some" 2 2 f__law_some) : JSs X W (defBody st__law_gauge) m__law_gauge := by
  unfold m__law_gauge
  exact jsCons (jSet (C.lc (i := 1) (by decide +kernel)) (jBin jAdd (jInt) (jCallL2 h__law_roll (C.room.mono (Nat.le_trans (by decide) hk)) C.tk (C.gl (x := "_law_roll") (by decide +kernel)) (jaCons (jVar (C.sl (i := 0) (by decide +kernel))) (jaCons (jCallL2 h__law_some (C.room.mono (Nat.le_trans (by decide) hk)) C.tk (C.gl (x := "_law_some") (by decide +kernel)) (jaCons (jVar (C.sl (i := 0) (by decide +kernel))) (jaCons (jLst (jaCons (jInt) (jaCons (jInt) (jaCons (jInt) (jaNil))))) (jaNil))) (hlCons (hlCons (fun _ _ _ _ h => hlNil h)))) (jaNil))) (hlCons (hlCons (fun _ _ _ _ h => hlNil h))))))
      (jsOne (jRet (jTup (jaCons (jVar (C.sl (i := 1) (by decide +kernel))) (jaCons (jCallL2 h__law_roll (C.room.mono (Nat.le_trans (by decide) hk)) C.tk (C.gl (x := "_law_roll") (by decide +kernel)) (jaCons (jVar (C.sl (i := 0) (by decide +kernel))) (jaCons (jCallB (jMin2 C.calm) (C.gb (by decide +kernel) T.b_min (by decide +kernel)) (jaCons (jInt) (jaCons (jVar (C.sl (i := 1) (by decide +kernel))) (jaNil)))) (jaNil))) (hlCons (hlCons (fun _ _ _ _ h => hlNil h)))) (jaNil))))))
set_option maxHeartbeats 4000000 in
theorem d__law_same (C : Ctx X W ["told", "due", "at"] (defScope st__law_same) (fun _ => true) k) (hk : 0 ≤ k) (T : Txt X.K X.mg) {G : List D → Option (RR D)} (hself : FnX X "_law_same" k 2 G) : JSs X W (defBody st__law_same) (m__law_same G) := by
  unfold m__law_same
  exact jsCons (jIfS (jtTruth (jCallB jIsinst (C.gb (by decide +kernel) T.b_isinstance (by decide +kernel)) (jaCons (jVar (C.sl (i := 1) (by decide +kernel))) (jaCons (jTyp (C.gb (by decide +kernel) T.b_tuple (by decide +kernel))) (jaNil))))) (jsCons (jIfS (jwT (jwOr (jtNot (jtTruth (jCallB jIsinst (C.gb (by decide +kernel) T.b_isinstance (by decide +kernel)) (jaCons (jVar (C.sl (i := 0) (by decide +kernel))) (jaCons (jTyp (C.gb (by decide +kernel) T.b_tuple (by decide +kernel))) (jaNil)))))) (jwOr1 (jtCmp (jNe C.hu) (jCallB jLen (C.gb (by decide +kernel) T.b_len (by decide +kernel)) (jaCons (jVar (C.sl (i := 0) (by decide +kernel))) (jaNil))) (jCallB jLen (C.gb (by decide +kernel) T.b_len (by decide +kernel)) (jaCons (jVar (C.sl (i := 1) (by decide +kernel))) (jaNil))) (by rfl))))) (jsOne (jRet (jBl))) (jsNil))
      (jsOne (jRet (jCallB (jAll C.calm) (C.gb (by decide +kernel) T.b_all (by decide +kernel)) (jaCons (jLc (own := [("at", 2)]) lst_fin C.calm C.ndx (jiRange1 (C.gb (by decide +kernel) T.b_range (by decide +kernel)) (jaCons (jCallB jLen (C.gb (by decide +kernel) T.b_len (by decide +kernel)) (jaCons (jVar (C.sl (i := 1) (by decide +kernel))) (jaNil))) (jaNil))) (C.bok (by decide +kernel)) (fun s1 H1 a1 c1 f1 => jgVar ((Ctx.blk C s1 H1 a1 c1 f1).lc (i := 2) (by decide +kernel)) (fun _ h => by cases h; decide)) (fun s1 H1 a1 c1 f1 => jtsNil) (fun s1 H1 a1 c1 f1 => jCallP2 hself (Ctx.blk C s1 H1 a1 c1 f1).room (Ctx.blk C s1 H1 a1 c1 f1).tk ((Ctx.blk C s1 H1 a1 c1 f1).gl (x := "_law_same") (by decide +kernel)) (jaCons (jIdx (jVar ((Ctx.blk C s1 H1 a1 c1 f1).sl (i := 0) (by decide +kernel))) (jVar ((Ctx.blk C s1 H1 a1 c1 f1).sl (i := 2) (by decide +kernel)))) (jaCons (jIdx (jVar ((Ctx.blk C s1 H1 a1 c1 f1).sl (i := 1) (by decide +kernel))) (jVar ((Ctx.blk C s1 H1 a1 c1 f1).sl (i := 2) (by decide +kernel)))) (jaNil))) (by rfl) (hlCons (hlCons (fun _ _ _ _ h => hlNil h))))) (jaNil)))))) (jsNil))
      (jsCons (jIfS (jtCmp jIs (jVar (C.sl (i := 1) (by decide +kernel))) (jNon) (by rfl)) (jsOne (jRet (jCmp jIs (jVar (C.sl (i := 0) (by decide +kernel))) (jNon) (by rfl)))) (jsNil))
      (jsCons (jIfS (jtTruth (jCallB jIsinst (C.gb (by decide +kernel) T.b_isinstance (by decide +kernel)) (jaCons (jVar (C.sl (i := 1) (by decide +kernel))) (jaCons (jTyp (C.gb (by decide +kernel) T.b_bool (by decide +kernel))) (jaNil))))) (jsOne (jRet (jIf (jtTruth (jVar (C.sl (i := 1) (by decide +kernel)))) (jCmp jIs (jVar (C.sl (i := 0) (by decide +kernel))) (jBl) (by rfl)) (jCmp jIs (jVar (C.sl (i := 0) (by decide +kernel))) (jBl) (by rfl))))) (jsNil))
      (jsCons (jIfS (jtTruth (jCallB jIsinst (C.gb (by decide +kernel) T.b_isinstance (by decide +kernel)) (jaCons (jVar (C.sl (i := 1) (by decide +kernel))) (jaCons (jTyp (C.gb (by decide +kernel) T.b_int (by decide +kernel))) (jaNil))))) (jsOne (jRet (jAnd (jCallB jIsinst (C.gb (by decide +kernel) T.b_isinstance (by decide +kernel)) (jaCons (jVar (C.sl (i := 0) (by decide +kernel))) (jaCons (jTyp (C.gb (by decide +kernel) T.b_int (by decide +kernel))) (jaNil)))) (jAnd (jNot (jCallB jIsinst (C.gb (by decide +kernel) T.b_isinstance (by decide +kernel)) (jaCons (jVar (C.sl (i := 0) (by decide +kernel))) (jaCons (jTyp (C.gb (by decide +kernel) T.b_bool (by decide +kernel))) (jaNil))))) (jOne (jCmp (jEq C.hu) (jCallTy jIntOf (C.gb (by decide +kernel) T.b_int (by decide +kernel)) (jaCons (jVar (C.sl (i := 0) (by decide +kernel))) (jaNil))) (jVar (C.sl (i := 1) (by decide +kernel))) (by rfl))))))) (jsNil))
      (jsOne (jRet (jAnd (jCallB jIsinst (C.gb (by decide +kernel) T.b_isinstance (by decide +kernel)) (jaCons (jVar (C.sl (i := 0) (by decide +kernel))) (jaCons (jTyp (C.gb (by decide +kernel) T.b_str (by decide +kernel))) (jaNil)))) (jOne (jCmp (jEq C.hu) (jCallTy (jStrOf strDig) (C.gb (by decide +kernel) T.b_str (by decide +kernel)) (jaCons (jVar (C.sl (i := 0) (by decide +kernel))) (jaNil))) (jVar (C.sl (i := 1) (by decide +kernel))) (by rfl)))))))))
set_option maxHeartbeats 4000000 in
theorem d_is_whole (C : Ctx X W ["value"] (defScope st_is_whole) (fun _ => true) k) (hk : 0 ≤ k) (T : Txt X.K X.mg) : JSs X W (defBody st_is_whole) m_is_whole := by
  unfold m_is_whole
  exact jsOne (jRet (jAnd (jCallB jIsinst (C.gb (by decide +kernel) T.b_isinstance (by decide +kernel)) (jaCons (jVar (C.sl (i := 0) (by decide +kernel))) (jaCons (jTyp (C.gb (by decide +kernel) T.b_int (by decide +kernel))) (jaNil)))) (jOne (jNot (jCallB jIsinst (C.gb (by decide +kernel) T.b_isinstance (by decide +kernel)) (jaCons (jVar (C.sl (i := 0) (by decide +kernel))) (jaCons (jTyp (C.gb (by decide +kernel) T.b_bool (by decide +kernel))) (jaNil))))))))
set_option maxHeartbeats 4000000 in
theorem d_fits_whole (C : Ctx X W ["value", "low", "high"] (defScope st_fits_whole) (fun _ => true) k) (hk : 1 ≤ k) (T : Txt X.K X.mg) (h_is_whole : FnX X "is_whole" 1 1 f_is_whole) : JSs X W (defBody st_fits_whole) m_fits_whole := by
  unfold m_fits_whole
  exact jsOne (jRet (jAnd (jCallP2 h_is_whole (C.room.mono (Nat.le_trans (by decide) hk)) C.tk (C.gl (x := "is_whole") (by decide +kernel)) (jaCons (jVar (C.sl (i := 0) (by decide +kernel))) (jaNil)) (by rfl) (hlCons (fun _ _ _ _ h => hlNil h))) (jOne (jChain jLe jLe (jVar (C.sl (i := 1) (by decide +kernel))) (jVar (C.sl (i := 0) (by decide +kernel))) (jVar (C.sl (i := 2) (by decide +kernel)))))))
set_option maxHeartbeats 4000000 in
theorem d_need_gauge (C : Ctx X W ["quarter", "mortar"] (defScope st_need_gauge) (fun _ => true) k) (hk : 2 ≤ k) (T : Txt X.K X.mg) (h_fits_whole : FnX X "fits_whole" 2 3 f_fits_whole) : JSs X W (defBody st_need_gauge) m_need_gauge := by
  unfold m_need_gauge
  exact jsCons (jIfS (jtNot (jtTruth (jCallP2 h_fits_whole (C.room.mono (Nat.le_trans (by decide) hk)) C.tk (C.gl (x := "fits_whole") (by decide +kernel)) (jaCons (jVar (C.sl (i := 0) (by decide +kernel))) (jaCons (jInt) (jaCons (C.jC (by decide +kernel) T.v_QUARTER) (jaNil)))) (by rfl) (hlCons (hlCons (hlCons (fun _ _ _ _ h => hlNil h))))))) (jsOne (jRaise2 C.calm C.tk T.e_InvalidNumber.c (C.gl (x := "InvalidNumber") (by decide +kernel)))) (jsNil))
      (jsOne (jIfS (jtNot (jtTruth (jCallP2 h_fits_whole (C.room.mono (Nat.le_trans (by decide) hk)) C.tk (C.gl (x := "fits_whole") (by decide +kernel)) (jaCons (jVar (C.sl (i := 1) (by decide +kernel))) (jaCons (jInt) (jaCons (jCallB (jMin2 C.calm) (C.gb (by decide +kernel) T.b_min (by decide +kernel)) (jaCons (C.jC (by decide +kernel) T.v_MORTAR) (jaCons (jBin jSub (jVar (C.sl (i := 0) (by decide +kernel))) (jInt)) (jaNil)))) (jaNil)))) (by rfl) (hlCons (hlCons (hlCons (fun _ _ _ _ h => hlNil h))))))) (jsOne (jRaise2 C.calm C.tk T.e_InvalidNumber.c (C.gl (x := "InvalidNumber") (by decide +kernel)))) (jsNil)))
set_option maxHeartbeats 4000000 in
theorem d_need_wide (C : Ctx X W ["value"] (defScope st_need_wide) (fun _ => true) k) (hk : 2 ≤ k) (T : Txt X.K X.mg) (h_fits_whole : FnX X "fits_whole" 2 3 f_fits_whole) : JSs X W (defBody st_need_wide) m_need_wide := by
  unfold m_need_wide
  exact jsOne (jIfS (jtNot (jtTruth (jCallP2 h_fits_whole (C.room.mono (Nat.le_trans (by decide) hk)) C.tk (C.gl (x := "fits_whole") (by decide +kernel)) (jaCons (jVar (C.sl (i := 0) (by decide +kernel))) (jaCons (jInt) (jaCons (C.jC (by decide +kernel) T.v_WIDE) (jaNil)))) (by rfl) (hlCons (hlCons (hlCons (fun _ _ _ _ h => hlNil h))))))) (jsOne (jRaise2 C.calm C.tk T.e_InvalidNumber.c (C.gl (x := "InvalidNumber") (by decide +kernel)))) (jsNil))
set_option maxHeartbeats 4000000 in
theorem d_left_over (C : Ctx X W ["wide", "quarter", "mortar", "many"] (defScope st_left_over) (fun _ => true) k) (hk : 3 ≤ k) (T : Txt X.K X.mg) (h_need_gauge : FnX X "need_gauge" 3 2 f_need_gauge) (h_need_wide : FnX X "need_wide" 3 1 f_need_wide) : JSs X W (defBody st_left_over) m_left_over := by
  unfold m_left_over
  exact jsCons (jExprS (jCallP2 h_need_wide (C.room.mono (Nat.le_trans (by decide) hk)) C.tk (C.gl (x := "need_wide") (by decide +kernel)) (jaCons (jVar (C.sl (i := 0) (by decide +kernel))) (jaNil)) (by rfl) (hlCons (fun _ _ _ _ h => hlNil h))))
      (jsCons (jExprS (jCallP2 h_need_gauge (C.room.mono (Nat.le_trans (by decide) hk)) C.tk (C.gl (x := "need_gauge") (by decide +kernel)) (jaCons (jVar (C.sl (i := 1) (by decide +kernel))) (jaCons (jVar (C.sl (i := 2) (by decide +kernel))) (jaNil))) (by rfl) (hlCons (hlCons (fun _ _ _ _ h => hlNil h)))))
      (jsCons (jSet (C.lc (i := 3) (by decide +kernel)) (jBin jFdiv (jBin jAdd (jVar (C.sl (i := 0) (by decide +kernel))) (jVar (C.sl (i := 2) (by decide +kernel)))) (jVar (C.sl (i := 1) (by decide +kernel)))))
      (jsOne (jRet (jIf (jtCmp (jEq C.hu) (jVar (C.sl (i := 3) (by decide +kernel))) (jInt) (by rfl)) (jVar (C.sl (i := 0) (by decide +kernel))) (jBin jSub (jVar (C.sl (i := 0) (by decide +kernel))) (jBin jSub (jBin jMul (jVar (C.sl (i := 3) (by decide +kernel))) (jVar (C.sl (i := 1) (by decide +kernel)))) (jVar (C.sl (i := 2) (by decide +kernel))))))))))
set_option maxHeartbeats 4000000 in
theorem d_need_units (C : Ctx X W ["value"] (defScope st_need_units) (fun _ => true) k) (hk : 2 ≤ k) (T : Txt X.K X.mg) (h_fits_whole : FnX X "fits_whole" 2 3 f_fits_whole) : JSs X W (defBody st_need_units) m_need_units := by
  unfold m_need_units
  exact jsOne (jIfS (jtNot (jtTruth (jCallP2 h_fits_whole (C.room.mono (Nat.le_trans (by decide) hk)) C.tk (C.gl (x := "fits_whole") (by decide +kernel)) (jaCons (jVar (C.sl (i := 0) (by decide +kernel))) (jaCons (jInt) (jaCons (C.jC (by decide +kernel) T.v_UNITS) (jaNil)))) (by rfl) (hlCons (hlCons (hlCons (fun _ _ _ _ h => hlNil h))))))) (jsOne (jRaise2 C.calm C.tk T.e_InvalidNumber.c (C.gl (x := "InvalidNumber") (by decide +kernel)))) (jsNil))
set_option maxHeartbeats 4000000 in
theorem d_mortar_for (C : Ctx X W ["wide", "quarters", "quarter", "mortar"] (defScope st_mortar_for) (fun _ => true) k) (hk : 3 ≤ k) (T : Txt X.K X.mg) (h_fits_whole : FnX X "fits_whole" 2 3 f_fits_whole) (h_need_units : FnX X "need_units" 3 1 f_need_units) (h_need_wide : FnX X "need_wide" 3 1 f_need_wide) : JSs X W (defBody st_mortar_for) m_mortar_for := by
  unfold m_mortar_for
  exact jsCons (jExprS (jCallP2 h_need_wide (C.room.mono (Nat.le_trans (by decide) hk)) C.tk (C.gl (x := "need_wide") (by decide +kernel)) (jaCons (jVar (C.sl (i := 0) (by decide +kernel))) (jaNil)) (by rfl) (hlCons (fun _ _ _ _ h => hlNil h))))
      (jsCons (jExprS (jCallP2 h_need_units (C.room.mono (Nat.le_trans (by decide) hk)) C.tk (C.gl (x := "need_units") (by decide +kernel)) (jaCons (jVar (C.sl (i := 1) (by decide +kernel))) (jaNil)) (by rfl) (hlCons (fun _ _ _ _ h => hlNil h))))
      (jsCons (jIfS (jtNot (jtTruth (jCallP2 h_fits_whole (C.room.mono (Nat.le_trans (by decide) hk)) C.tk (C.gl (x := "fits_whole") (by decide +kernel)) (jaCons (jVar (C.sl (i := 2) (by decide +kernel))) (jaCons (jInt) (jaCons (C.jC (by decide +kernel) T.v_QUARTER) (jaNil)))) (by rfl) (hlCons (hlCons (hlCons (fun _ _ _ _ h => hlNil h))))))) (jsOne (jRaise2 C.calm C.tk T.e_InvalidNumber.c (C.gl (x := "InvalidNumber") (by decide +kernel)))) (jsNil))
      (jsCons (jSet (C.lc (i := 3) (by decide +kernel)) (jBin jSub (jBin jMul (jVar (C.sl (i := 1) (by decide +kernel))) (jVar (C.sl (i := 2) (by decide +kernel)))) (jVar (C.sl (i := 0) (by decide +kernel)))))
      (jsOne (jRet (jIf (jtChain jLe jLe (jInt) (jVar (C.sl (i := 3) (by decide +kernel))) (jCallB (jMin2 C.calm) (C.gb (by decide +kernel) T.b_min (by decide +kernel)) (jaCons (C.jC (by decide +kernel) T.v_MORTAR) (jaCons (jBin jSub (jVar (C.sl (i := 2) (by decide +kernel))) (jInt)) (jaNil))))) (jVar (C.sl (i := 3) (by decide +kernel))) (jNon)))))))
set_option maxHeartbeats 4000000 in
theorem d_quarters_for (C : Ctx X W ["wide", "quarter", "mortar"] (defScope st_quarters_for) (fun _ => true) k) (hk : 3 ≤ k) (T : Txt X.K X.mg) (h_need_gauge : FnX X "need_gauge" 3 2 f_need_gauge) (h_need_wide : FnX X "need_wide" 3 1 f_need_wide) : JSs X W (defBody st_quarters_for) m_quarters_for := by
  unfold m_quarters_for
  exact jsCons (jExprS (jCallP2 h_need_wide (C.room.mono (Nat.le_trans (by decide) hk)) C.tk (C.gl (x := "need_wide") (by decide +kernel)) (jaCons (jVar (C.sl (i := 0) (by decide +kernel))) (jaNil)) (by rfl) (hlCons (fun _ _ _ _ h => hlNil h))))
      (jsCons (jExprS (jCallP2 h_need_gauge (C.room.mono (Nat.le_trans (by decide) hk)) C.tk (C.gl (x := "need_gauge") (by decide +kernel)) (jaCons (jVar (C.sl (i := 1) (by decide +kernel))) (jaCons (jVar (C.sl (i := 2) (by decide +kernel))) (jaNil))) (by rfl) (hlCons (hlCons (fun _ _ _ _ h => hlNil h)))))
      (jsOne (jRet (jBin jFdiv (jBin jAdd (jVar (C.sl (i := 0) (by decide +kernel))) (jVar (C.sl (i := 2) (by decide +kernel)))) (jVar (C.sl (i := 1) (by decide +kernel)))))))
set_option maxHeartbeats 4000000 in
theorem d__law_cup (C : Ctx X W ["script", "cell"] (defScope st__law_cup) (fun _ => true) k) (hk : 0 ≤ k) (T : Txt X.K X.mg) : JSs X W (defBody st__law_cup) m__law_cup := by
  unfold m__law_cup
  exact jsCons (jSet (C.lc (i := 1) (by decide +kernel)) (jCallB jAbs (C.gb (by decide +kernel) T.b_abs (by decide +kernel)) (jaCons (jIdx (jBin jAdd (jCallTy jListOf (C.gb (by decide +kernel) T.b_list (by decide +kernel)) (jaCons (jVar (C.sl (i := 0) (by decide +kernel))) (jaNil))) (jLst (jaCons (jInt) (jaNil)))) (jInt)) (jaNil))))
      (jsOne (jRet (jLive (jaCons (jIf (jtCmp jGe (jVar (C.sl (i := 1) (by decide +kernel))) (jBin jPow (jInt) (jInt)) (by rfl)) (jBin jFdiv (jVar (C.sl (i := 1) (by decide +kernel))) (jInt)) (jInt)) (jaCons (jBin jAdd (jBin jMod (jCallTy jIntOf (C.gb (by decide +kernel) T.b_int (by decide +kernel)) (jaCons (jBin jAdd (jBin jMul (jVar (C.sl (i := 1) (by decide +kernel))) (jInt)) (jInt)) (jaNil))) (jInt)) (jInt)) (jaNil))))))
set_option maxHeartbeats 4000000 in
theorem d_law (C : Ctx X W ["script", "cup", "turn", "quarter", "mortar", "wide", "many", "left", "size", "length", "good", "told", "own"] (defScope st_law) (fun _ => true) k) (hk : 6 ≤ k) (T : Txt X.K X.mg) (h__law_cup : FnXL X "_law_cup" 1 1 f__law_cup) (h__law_gauge : FnXL X "_law_gauge" 3 1 f__law_gauge) (h__law_roll : FnXL X "_law_roll" 1 2 f__law_roll) (h__law_same : FnX X "_law_same" 6 2 (r__law_same 6)) (h__law_some : FnXL X "_law_some" 2 2 f__law_some) (h_left_over : FnX X "left_over" 4 3 f_left_over) (h_mortar_for : FnX X "mortar_for" 4 3 f_mortar_for) (h_quarters_for : FnX X "quarters_for" 4 3 f_quarters_for) : JSs X W (defBody st_law) m_law := by
  unfold m_law
  exact jsCons (jSet (C.lc (i := 1) (by decide +kernel)) (jCallL2 h__law_cup (C.room.mono (Nat.le_trans (by decide) hk)) C.tk (C.gl (x := "_law_cup") (by decide +kernel)) (jaCons (jVar (C.sl (i := 0) (by decide +kernel))) (jaNil)) (hlCons (fun _ _ _ _ h => hlNil h))))
      (jsCons (jFor C.po C.calm (jiRange1 (C.gb (by decide +kernel) T.b_range (by decide +kernel)) (jaCons (jInt) (jaNil))) (jgVar (C.lc (i := 2) (by decide +kernel)) (fun _ h => by cases h)) (jsCons (jAsg (jCallL2 h__law_gauge (C.room.mono (Nat.le_trans (by decide) hk)) C.tk (C.gl (x := "_law_gauge") (by decide +kernel)) (jaCons (jVar (C.sl (i := 1) (by decide +kernel))) (jaNil)) (hlCons (fun _ _ _ _ h => hlNil h))) (jgTup C.calm (jgsCons (jgVar (C.lc (i := 3) (by decide +kernel)) (fun _ h => by cases h)) (jgsCons (jgVar (C.lc (i := 4) (by decide +kernel)) (fun _ h => by cases h)) (jgsNil)))))
      (jsCons (jSet (C.lc (i := 5) (by decide +kernel)) (jBin jAdd (jInt) (jCallL2 h__law_roll (C.room.mono (Nat.le_trans (by decide) hk)) C.tk (C.gl (x := "_law_roll") (by decide +kernel)) (jaCons (jVar (C.sl (i := 1) (by decide +kernel))) (jaCons (jCallL2 h__law_some (C.room.mono (Nat.le_trans (by decide) hk)) C.tk (C.gl (x := "_law_some") (by decide +kernel)) (jaCons (jVar (C.sl (i := 1) (by decide +kernel))) (jaCons (jLst (jaCons (jBin jAdd (jVar (C.sl (i := 3) (by decide +kernel))) (jInt)) (jaCons (jBin jMul (jInt) (jVar (C.sl (i := 3) (by decide +kernel)))) (jaCons (jBin jMul (jInt) (jVar (C.sl (i := 3) (by decide +kernel)))) (jaNil))))) (jaNil))) (hlCons (hlCons (fun _ _ _ _ h => hlNil h)))) (jaNil))) (hlCons (hlCons (fun _ _ _ _ h => hlNil h))))))
      (jsCons (jSet (C.lc (i := 6) (by decide +kernel)) (jInt))
      (jsCons (jWhile C.po (jtCmp jLe (jBin jSub (jBin jMul (jBin jAdd (jVar (C.sl (i := 6) (by decide +kernel))) (jInt)) (jVar (C.sl (i := 3) (by decide +kernel)))) (jVar (C.sl (i := 4) (by decide +kernel)))) (jVar (C.sl (i := 5) (by decide +kernel))) (by rfl)) (jsOne (jSet (C.lc (i := 6) (by decide +kernel)) (jBin jAdd (jVar (C.sl (i := 6) (by decide +kernel))) (jInt)))))
      (jsCons (jSet (C.lc (i := 7) (by decide +kernel)) (jIf (jtCmp jGt (jVar (C.sl (i := 6) (by decide +kernel))) (jInt) (by rfl)) (jBin jSub (jVar (C.sl (i := 5) (by decide +kernel))) (jBin jSub (jBin jMul (jVar (C.sl (i := 6) (by decide +kernel))) (jVar (C.sl (i := 3) (by decide +kernel)))) (jVar (C.sl (i := 4) (by decide +kernel))))) (jVar (C.sl (i := 5) (by decide +kernel)))))
      (jsCons (jIfS (jtNot (jtTruth (jCallP2 h__law_same (C.room.mono (Nat.le_trans (by decide) hk)) C.tk (C.gl (x := "_law_same") (by decide +kernel)) (jaCons (jTup (jaCons (jCallP2 h_quarters_for (C.room.mono (Nat.le_trans (by decide) hk)) C.tk (C.gl (x := "quarters_for") (by decide +kernel)) (jaCons (jVar (C.sl (i := 5) (by decide +kernel))) (jaCons (jVar (C.sl (i := 3) (by decide +kernel))) (jaCons (jVar (C.sl (i := 4) (by decide +kernel))) (jaNil)))) (by rfl) (hlCons (hlCons (hlCons (fun _ _ _ _ h => hlNil h))))) (jaCons (jCallP2 h_left_over (C.room.mono (Nat.le_trans (by decide) hk)) C.tk (C.gl (x := "left_over") (by decide +kernel)) (jaCons (jVar (C.sl (i := 5) (by decide +kernel))) (jaCons (jVar (C.sl (i := 3) (by decide +kernel))) (jaCons (jVar (C.sl (i := 4) (by decide +kernel))) (jaNil)))) (by rfl) (hlCons (hlCons (hlCons (fun _ _ _ _ h => hlNil h))))) (jaNil)))) (jaCons (jTup (jaCons (jVar (C.sl (i := 6) (by decide +kernel))) (jaCons (jVar (C.sl (i := 7) (by decide +kernel))) (jaNil)))) (jaNil))) (by rfl) (hlCons (hlCons (fun _ _ _ _ h => hlNil h)))))) (jsOne (jRet (jBl))) (jsNil))
      (jsCons (jIfS (jtNot (jtChain jLe jLt (jInt) (jVar (C.sl (i := 7) (by decide +kernel))) (jVar (C.sl (i := 3) (by decide +kernel))))) (jsOne (jRet (jBl))) (jsNil))
      (jsCons (jSet (C.lc (i := 8) (by decide +kernel)) (jBin jAdd (jInt) (jCallL2 h__law_roll (C.room.mono (Nat.le_trans (by decide) hk)) C.tk (C.gl (x := "_law_roll") (by decide +kernel)) (jaCons (jVar (C.sl (i := 1) (by decide +kernel))) (jaCons (jInt) (jaNil))) (hlCons (hlCons (fun _ _ _ _ h => hlNil h))))))
      (jsCons (jSet (C.lc (i := 9) (by decide +kernel)) (jCallB (jMax2 C.calm) (C.gb (by decide +kernel) T.b_max (by decide +kernel)) (jaCons (jInt) (jaCons (jBin jSub (jBin jMul (jVar (C.sl (i := 8) (by decide +kernel))) (jVar (C.sl (i := 3) (by decide +kernel)))) (jCallL2 h__law_roll (C.room.mono (Nat.le_trans (by decide) hk)) C.tk (C.gl (x := "_law_roll") (by decide +kernel)) (jaCons (jVar (C.sl (i := 1) (by decide +kernel))) (jaCons (jInt) (jaNil))) (hlCons (hlCons (fun _ _ _ _ h => hlNil h))))) (jaNil)))))
      (jsCons (jSetLc (own := [("own", 12)]) lst_fin C.calm (C.lc (i := 10) (by decide +kernel)) (C.lcl (by decide +kernel)) (C.sw (by rfl) (by decide +kernel) (by rfl) (by decide +kernel)) (jiRange1 (C.gb (by decide +kernel) T.b_range (by decide +kernel)) (jaCons (jCallB (jMin2 C.calm) (C.gb (by decide +kernel) T.b_min (by decide +kernel)) (jaCons (jInt) (jaCons (jVar (C.sl (i := 3) (by decide +kernel))) (jaNil)))) (jaNil))) (C.bok (by decide +kernel)) (fun s1 H1 a1 c1 f1 => jgVar ((Ctx.blk C s1 H1 a1 c1 f1).lc (i := 12) (by decide +kernel)) (fun _ h => by cases h; decide)) (fun s1 H1 a1 c1 f1 => jtsOne (jtCmp (jEq (Ctx.blk C s1 H1 a1 c1 f1).hu) (jBin jSub (jBin jMul (jVar ((Ctx.blk C s1 H1 a1 c1 f1).sl (i := 8) (by decide +kernel))) (jVar ((Ctx.blk C s1 H1 a1 c1 f1).sl (i := 3) (by decide +kernel)))) (jVar ((Ctx.blk C s1 H1 a1 c1 f1).sl (i := 12) (by decide +kernel)))) (jVar ((Ctx.blk C s1 H1 a1 c1 f1).sl (i := 9) (by decide +kernel))) (by rfl))) (fun s1 H1 a1 c1 f1 => jVar ((Ctx.blk C s1 H1 a1 c1 f1).sl (i := 12) (by decide +kernel))))
      (jsCons (jIfS (jtNot (jtTruth (jCallP2 h__law_same (C.room.mono (Nat.le_trans (by decide) hk)) C.tk (C.gl (x := "_law_same") (by decide +kernel)) (jaCons (jCallP2 h_mortar_for (C.room.mono (Nat.le_trans (by decide) hk)) C.tk (C.gl (x := "mortar_for") (by decide +kernel)) (jaCons (jVar (C.sl (i := 9) (by decide +kernel))) (jaCons (jVar (C.sl (i := 8) (by decide +kernel))) (jaCons (jVar (C.sl (i := 3) (by decide +kernel))) (jaNil)))) (by rfl) (hlCons (hlCons (hlCons (fun _ _ _ _ h => hlNil h))))) (jaCons (jIf (jtCmp (jNe C.hu) (jVar (C.sl (i := 10) (by decide +kernel))) (jLst (jaNil)) (by rfl)) (jIdx (jVar (C.sl (i := 10) (by decide +kernel))) (jInt)) (jNon)) (jaNil))) (by rfl) (hlCons (hlCons (fun _ _ _ _ h => hlNil h)))))) (jsOne (jRet (jBl))) (jsNil))
      (jsOne (jIfS (jwT (jwAnd (jtCmp (jNe C.hu) (jVar (C.sl (i := 10) (by decide +kernel))) (jLst (jaNil)) (by rfl)) (jwAnd1 (jtCmp (jNe C.hu) (jTup (jaCons (jCallP2 h_quarters_for (C.room.mono (Nat.le_trans (by decide) hk)) C.tk (C.gl (x := "quarters_for") (by decide +kernel)) (jaCons (jVar (C.sl (i := 9) (by decide +kernel))) (jaCons (jVar (C.sl (i := 3) (by decide +kernel))) (jaCons (jIdx (jVar (C.sl (i := 10) (by decide +kernel))) (jInt)) (jaNil)))) (by rfl) (hlCons (hlCons (hlCons (fun _ _ _ _ h => hlNil h))))) (jaCons (jCallP2 h_left_over (C.room.mono (Nat.le_trans (by decide) hk)) C.tk (C.gl (x := "left_over") (by decide +kernel)) (jaCons (jVar (C.sl (i := 9) (by decide +kernel))) (jaCons (jVar (C.sl (i := 3) (by decide +kernel))) (jaCons (jIdx (jVar (C.sl (i := 10) (by decide +kernel))) (jInt)) (jaNil)))) (by rfl) (hlCons (hlCons (hlCons (fun _ _ _ _ h => hlNil h))))) (jaNil)))) (jTup (jaCons (jVar (C.sl (i := 8) (by decide +kernel))) (jaCons (jInt) (jaNil)))) (by rfl))))) (jsOne (jRet (jBl))) (jsNil)))))))))))))))
      (jsCons (jSet (C.lc (i := 11) (by decide +kernel)) (jTup (jaCons (jCallP2 h_quarters_for (C.room.mono (Nat.le_trans (by decide) hk)) C.tk (C.gl (x := "quarters_for") (by decide +kernel)) (jaCons (jInt) (jaCons (jInt) (jaCons (jInt) (jaNil)))) (by rfl) (hlCons (hlCons (hlCons (fun _ _ _ _ h => hlNil h))))) (jaCons (jCallP2 h_left_over (C.room.mono (Nat.le_trans (by decide) hk)) C.tk (C.gl (x := "left_over") (by decide +kernel)) (jaCons (jInt) (jaCons (jInt) (jaCons (jInt) (jaNil)))) (by rfl) (hlCons (hlCons (hlCons (fun _ _ _ _ h => hlNil h))))) (jaCons (jCallP2 h_mortar_for (C.room.mono (Nat.le_trans (by decide) hk)) C.tk (C.gl (x := "mortar_for") (by decide +kernel)) (jaCons (jInt) (jaCons (jInt) (jaCons (jInt) (jaNil)))) (by rfl) (hlCons (hlCons (hlCons (fun _ _ _ _ h => hlNil h))))) (jaCons (jCallP2 h_mortar_for (C.room.mono (Nat.le_trans (by decide) hk)) C.tk (C.gl (x := "mortar_for") (by decide +kernel)) (jaCons (jInt) (jaCons (jInt) (jaCons (jInt) (jaNil)))) (by rfl) (hlCons (hlCons (hlCons (fun _ _ _ _ h => hlNil h))))) (jaCons (jCallP2 h_mortar_for (C.room.mono (Nat.le_trans (by decide) hk)) C.tk (C.gl (x := "mortar_for") (by decide +kernel)) (jaCons (jInt) (jaCons (jInt) (jaCons (jInt) (jaNil)))) (by rfl) (hlCons (hlCons (hlCons (fun _ _ _ _ h => hlNil h))))) (jaNil))))))))
      (jsOne (jRet (jCallP2 h__law_same (C.room.mono (Nat.le_trans (by decide) hk)) C.tk (C.gl (x := "_law_same") (by decide +kernel)) (jaCons (jVar (C.sl (i := 11) (by decide +kernel))) (jaCons (jTup (jaCons (jInt) (jaCons (jInt) (jaCons (jInt) (jaCons (jInt) (jaCons (jNon) (jaNil))))))) (jaNil))) (by rfl) (hlCons (hlCons (fun _ _ _ _ h => hlNil h))))))))
end
section
variable {P : Program} {w : World} {K : PySem.W.Frag} {mg : Str → Option Value} {base : Heap}
theorem sc__law_roll : FnScope ["cup", "many", "found", "deep"] ["cup", "many"] (defScope st__law_roll) := ⟨rfl, rfl, rfl, by decide +kernel, rfl, by decide +kernel, by decide +kernel⟩
theorem bd__law_roll : BindOk "_law_roll" st__law_roll ["cup", "many"] := fun _ _ _ _ _ _ us hl => match us, hl with | [_, _], _ => rfl
theorem ok__law_roll (T : Txt K mg) : FnL P w K mg base "_law_roll" 1 2 f__law_roll := okL false (N := ["cup", "many", "found", "deep"]) T.f__law_roll sc__law_roll bd__law_roll (fun X W B => d__law_roll (B.ctx (by decide +kernel)) (Nat.le_refl _) (B.tr (p := Txt) T) )
theorem sc__law_some : FnScope ["cup", "things"] ["cup", "things"] (defScope st__law_some) := ⟨rfl, rfl, rfl, by decide +kernel, rfl, by decide +kernel, by decide +kernel⟩
theorem bd__law_some : BindOk "_law_some" st__law_some ["cup", "things"] := fun _ _ _ _ _ _ us hl => match us, hl with | [_, _], _ => rfl
theorem ok__law_some (T : Txt K mg) : FnL P w K mg base "_law_some" 2 2 f__law_some := okL false (N := ["cup", "things"]) T.f__law_some sc__law_some bd__law_some (fun X W B => d__law_some (B.ctx (by decide +kernel)) (Nat.le_refl _) (B.tr (p := Txt) T) (B.fl (ok__law_roll T)))
theorem sc__law_gauge : FnScope ["cup", "quarter"] ["cup"] (defScope st__law_gauge) := ⟨rfl, rfl, rfl, by decide +kernel, rfl, by decide +kernel, by decide +kernel⟩
theorem bd__law_gauge : BindOk "_law_gauge" st__law_gauge ["cup"] := fun _ _ _ _ _ _ us hl => match us, hl with | [_], _ => rfl
theorem ok__law_gauge (T : Txt K mg) : FnL P w K mg base "_law_gauge" 3 1 f__law_gauge := okL false (N := ["cup", "quarter"]) T.f__law_gauge sc__law_gauge bd__law_gauge (fun X W B => d__law_gauge (B.ctx (by decide +kernel)) (Nat.le_refl _) (B.tr (p := Txt) T) (B.fl (ok__law_roll T)) (B.fl (ok__law_some T)))
theorem sc__law_same : FnScope ["told", "due", "at"] ["told", "due"] (defScope st__law_same) := ⟨rfl, rfl, rfl, by decide +kernel, rfl, by decide +kernel, by decide +kernel⟩
theorem bd__law_same : BindOk "_law_same" st__law_same ["told", "due"] := fun _ _ _ _ _ _ us hl => match us, hl with | [_, _], _ => rfl
theorem ok__law_same (T : Txt K mg) : FnP P w K mg base "_law_same" 6 2 (r__law_same 6) := okRec (k := 0) (N := ["told", "due", "at"]) T.f__law_same sc__law_same bd__law_same (fun j G hj hG X W B => d__law_same (B.ctx (by decide +kernel)) hj (B.tr (p := Txt) T)  (B.fp hG)) 6
theorem sc_is_whole : FnScope ["value"] ["value"] (defScope st_is_whole) := ⟨rfl, rfl, rfl, by decide +kernel, rfl, by decide +kernel, by decide +kernel⟩
theorem bd_is_whole : BindOk "is_whole" st_is_whole ["value"] := fun _ _ _ _ _ _ us hl => match us, hl with | [_], _ => rfl
theorem ok_is_whole (T : Txt K mg) : FnP P w K mg base "is_whole" 1 1 f_is_whole := okP (N := ["value"]) T.f_is_whole sc_is_whole bd_is_whole (fun X W B => d_is_whole (B.ctx (by decide +kernel)) (Nat.le_refl _) (B.tr (p := Txt) T) )
theorem sc_fits_whole : FnScope ["value", "low", "high"] ["value", "low", "high"] (defScope st_fits_whole) := ⟨rfl, rfl, rfl, by decide +kernel, rfl, by decide +kernel, by decide +kernel⟩
theorem bd_fits_whole : BindOk "fits_whole" st_fits_whole ["value", "low", "high"] := fun _ _ _ _ _ _ us hl => match us, hl with | [_, _, _], _ => rfl
theorem ok_fits_whole (T : Txt K mg) : FnP P w K mg base "fits_whole" 2 3 f_fits_whole := okP (N := ["value", "low", "high"]) T.f_fits_whole sc_fits_whole bd_fits_whole (fun X W B => d_fits_whole (B.ctx (by decide +kernel)) (Nat.le_refl _) (B.tr (p := Txt) T) (B.fp (ok_is_whole T)))
theorem sc_need_gauge : FnScope ["quarter", "mortar"] ["quarter", "mortar"] (defScope st_need_gauge) := ⟨rfl, rfl, rfl, by decide +kernel, rfl, by decide +kernel, by decide +kernel⟩
theorem bd_need_gauge : BindOk "need_gauge" st_need_gauge ["quarter", "mortar"] := fun _ _ _ _ _ _ us hl => match us, hl with | [_, _], _ => rfl
theorem ok_need_gauge (T : Txt K mg) : FnP P w K mg base "need_gauge" 3 2 f_need_gauge := okP (N := ["quarter", "mortar"]) T.f_need_gauge sc_need_gauge bd_need_gauge (fun X W B => d_need_gauge (B.ctx (by decide +kernel)) (Nat.le_refl _) (B.tr (p := Txt) T) (B.fp (ok_fits_whole T)))
theorem sc_need_wide : FnScope ["value"] ["value"] (defScope st_need_wide) := ⟨rfl, rfl, rfl, by decide +kernel, rfl, by decide +kernel, by decide +kernel⟩
theorem bd_need_wide : BindOk "need_wide" st_need_wide ["value"] := fun _ _ _ _ _ _ us hl => match us, hl with | [_], _ => rfl
theorem ok_need_wide (T : Txt K mg) : FnP P w K mg base "need_wide" 3 1 f_need_wide := okP (N := ["value"]) T.f_need_wide sc_need_wide bd_need_wide (fun X W B => d_need_wide (B.ctx (by decide +kernel)) (Nat.le_refl _) (B.tr (p := Txt) T) (B.fp (ok_fits_whole T)))
theorem sc_left_over : FnScope ["wide", "quarter", "mortar", "many"] ["wide", "quarter", "mortar"] (defScope st_left_over) := ⟨rfl, rfl, rfl, by decide +kernel, rfl, by decide +kernel, by decide +kernel⟩
theorem bd_left_over : BindOk "left_over" st_left_over ["wide", "quarter", "mortar"] := fun _ _ _ _ _ _ us hl => match us, hl with | [_, _, _], _ => rfl
theorem ok_left_over (T : Txt K mg) : FnP P w K mg base "left_over" 4 3 f_left_over := okP (N := ["wide", "quarter", "mortar", "many"]) T.f_left_over sc_left_over bd_left_over (fun X W B => d_left_over (B.ctx (by decide +kernel)) (Nat.le_refl _) (B.tr (p := Txt) T) (B.fp (ok_need_gauge T)) (B.fp (ok_need_wide T)))
theorem sc_need_units : FnScope ["value"] ["value"] (defScope st_need_units) := ⟨rfl, rfl, rfl, by decide +kernel, rfl, by decide +kernel, by decide +kernel⟩
theorem bd_need_units : BindOk "need_units" st_need_units ["value"] := fun _ _ _ _ _ _ us hl => match us, hl with | [_], _ => rfl
theorem ok_need_units (T : Txt K mg) : FnP P w K mg base "need_units" 3 1 f_need_units := okP (N := ["value"]) T.f_need_units sc_need_units bd_need_units (fun X W B => d_need_units (B.ctx (by decide +kernel)) (Nat.le_refl _) (B.tr (p := Txt) T) (B.fp (ok_fits_whole T)))
theorem sc_mortar_for : FnScope ["wide", "quarters", "quarter", "mortar"] ["wide", "quarters", "quarter"] (defScope st_mortar_for) := ⟨rfl, rfl, rfl, by decide +kernel, rfl, by decide +kernel, by decide +kernel⟩
theorem bd_mortar_for : BindOk "mortar_for" st_mortar_for ["wide", "quarters", "quarter"] := fun _ _ _ _ _ _ us hl => match us, hl with | [_, _, _], _ => rfl
theorem ok_mortar_for (T : Txt K mg) : FnP P w K mg base "mortar_for" 4 3 f_mortar_for := okP (N := ["wide", "quarters", "quarter", "mortar"]) T.f_mortar_for sc_mortar_for bd_mortar_for (fun X W B => d_mortar_for (B.ctx (by decide +kernel)) (Nat.le_refl _) (B.tr (p := Txt) T) (B.fp (ok_fits_whole T)) (B.fp (ok_need_units T)) (B.fp (ok_need_wide T)))
theorem sc_quarters_for : FnScope ["wide", "quarter", "mortar"] ["wide", "quarter", "mortar"] (defScope st_quarters_for) := ⟨rfl, rfl, rfl, by decide +kernel, rfl, by decide +kernel, by decide +kernel⟩
theorem bd_quarters_for : BindOk "quarters_for" st_quarters_for ["wide", "quarter", "mortar"] := fun _ _ _ _ _ _ us hl => match us, hl with | [_, _, _], _ => rfl
theorem ok_quarters_for (T : Txt K mg) : FnP P w K mg base "quarters_for" 4 3 f_quarters_for := okP (N := ["wide", "quarter", "mortar"]) T.f_quarters_for sc_quarters_for bd_quarters_for (fun X W B => d_quarters_for (B.ctx (by decide +kernel)) (Nat.le_refl _) (B.tr (p := Txt) T) (B.fp (ok_need_gauge T)) (B.fp (ok_need_wide T)))
theorem sc__law_cup : FnScope ["script", "cell"] ["script"] (defScope st__law_cup) := ⟨rfl, rfl, rfl, by decide +kernel, rfl, by decide +kernel, by decide +kernel⟩
theorem bd__law_cup : BindOk "_law_cup" st__law_cup ["script"] := fun _ _ _ _ _ _ us hl => match us, hl with | [_], _ => rfl
theorem ok__law_cup (T : Txt K mg) : FnL P w K mg base "_law_cup" 1 1 f__law_cup := okL true (N := ["script", "cell"]) T.f__law_cup sc__law_cup bd__law_cup (fun X W B => d__law_cup (B.ctx (by decide +kernel)) (Nat.le_refl _) (B.tr (p := Txt) T) )
theorem sc_law : FnScope ["script", "cup", "turn", "quarter", "mortar", "wide", "many", "left", "size", "length", "good", "told", "own"] ["script"] (defScope st_law) := ⟨rfl, rfl, rfl, by decide +kernel, rfl, by decide +kernel, by decide +kernel⟩
theorem bd_law : BindOk "law" st_law ["script"] := fun _ _ _ _ _ _ us hl => match us, hl with | [_], _ => rfl
end
theorem body_law (P : Program) (w : World) (K : PySem.W.Frag) (mg : Str → Option Value) (base : Heap) (T : Txt K mg) (X : Cx) (W : WX) (B : BodyCx P w K mg base ["script", "cup", "turn", "quarter", "mortar", "wide", "many", "left", "size", "length", "good", "told", "own"] (defScope st_law) 6 X W) : JSs X W (defBody st_law) m_law :=
  d_law (B.ctx (by decide +kernel)) (Nat.le_refl _) (B.tr (p := Txt) T) (B.fl (ok__law_cup T)) (B.fl (ok__law_gauge T)) (B.fl (ok__law_roll T)) (B.fp (ok__law_same T)) (B.fl (ok__law_some T)) (B.fp (ok_left_over T)) (B.fp (ok_mortar_for T)) (B.fp (ok_quarters_for T))
end Lw
namespace Lw
open PySem L2 DL
/-! ### the cup -/
def CupOk (a b : Int) : Prop := 0 ≤ a ∧ 0 ≤ b ∧ b ≤ 2 ^ 40
abbrev cupO (a b : Int) : LO := .lst [.d (.int a), .d (.int b)]
theorem roll_wp {a b m : Int} {R : List LO} {Q E} (hc : CupOk a b) (hm : 0 < m) (hm2 : m ≤ 2 ^ 60)
    (h : ∀ r a' b', 0 ≤ r → r < m → CupOk a' b' → Q (.d (.int r)) (cupO a' b' :: R)) : WE (f__law_roll [.r 0, .d (.int m)] (cupO a b :: R)) Q E := by
  obtain ⟨ha, hb, hb2⟩ := hc
  unfold f__law_roll m__law_roll
  rw [runL_ap]
  simp (disch := first | omega | (simp; done) | (simp; omega)) [envL, atI_in, ixN_in, setO, fdivD_ii, modD_ii, mulD_ii, cutL_all]
  split
  · exact h _ _ _ (Int.emod_nonneg _ (by omega)) (Int.emod_lt_of_pos _ hm) ⟨Int.ediv_nonneg ha (by omega), hb, hb2⟩
  · exact h _ _ _ (Int.emod_nonneg _ (by omega)) (Int.emod_lt_of_pos _ hm) ⟨ha, Int.emod_nonneg _ (by decide), by omega⟩
theorem some_wp {a b : Int} {xs : List D} {R : List LO} {Q E} (hc : CupOk a b) (hx : 0 < xs.length) (hl : xs.length ≤ 2 ^ 60)
    (h : ∀ x ∈ xs, ∀ a' b', CupOk a' b' → Q (.d x) (cupO a' b' :: R)) : WE (f__law_some [.r 0, .d (.lst xs)] (cupO a b :: R)) Q E := by
  unfold f__law_some m__law_some
  rw [runL_ap]
  simp [envL]
  refine roll_wp hc (by omega) (by omega) fun r a' b' h1 h2 h3 => ?_
  have hr : r.toNat < xs.length := by omega
  simp (disch := first | omega | (simp; done) | (simp; omega)) [atI_in, cutL_all, List.getElem?_eq_getElem hr]
  exact h _ (List.getElem_mem hr) _ _ h3
theorem cup_wp {ns : List Int} {Q E} (hl : ns.length ≤ 63) (hb : ∀ z ∈ ns, PySem.Builtin.Int.intBits z ≤ 1048576)
    (h : ∀ a b, CupOk a b → Q (.r 0) [cupO a b]) : WE (f__law_cup [.d (.scr ns)] []) Q E := by
  obtain ⟨z, c, he, ha, hc, hm⟩ := cell_of hb
  have h5 : ns.length ≤ 16777215 := by omega
  unfold f__law_cup m__law_cup
  rw [runL_ap]
  simp (disch := first | omega | (simp; done) | (simp; omega)) [-absD_i, envL, addD, h5, he, ha, powD, hm, fdivD_ii, modD_ii]
  split <;> refine h _ _ ⟨?_, ?_, ?_⟩ <;> first | omega | exact Int.ediv_nonneg hc (by decide)
/-! ### the same -/
mutual
def okS : Nat → D → Bool
  | _, .non => true
  | _, .bl _ => true
  | _, .int _ => true
  | _, .str _ => true
  | 0, _ => false
  | n + 1, .tup xs => okSs n xs && decide (xs.length ≤ 1000)
  | _, _ => false
def okSs : Nat → List D → Bool
  | _, [] => true
  | n, x :: xs => okS n x && okSs n xs
end
@[simp] theorem okS_n (n) : okS n .non = true := by cases n <;> simp [okS]
@[simp] theorem okS_b (n b) : okS n (.bl b) = true := by cases n <;> simp [okS]
@[simp] theorem okS_i (n b) : okS n (.int b) = true := by cases n <;> simp [okS]
@[simp] theorem okS_s (n b) : okS n (.str b) = true := by cases n <;> simp [okS]
@[simp] theorem okS_t (n xs) : okS (n + 1) (.tup xs) = (okSs n xs && decide (xs.length ≤ 1000)) := by rw [okS]
@[simp] theorem okSs_0 (n) : okSs n [] = true := by rw [okSs]
@[simp] theorem okSs_1 (n x xs) : okSs n (x :: xs) = (okS n x && okSs n xs) := by rw [okSs]
theorem okSs_mem {n : Nat} : ∀ {xs : List D}, okSs n xs = true → ∀ x ∈ xs, okS n x = true
  | x :: xs, h, y, hy => by
    unfold okSs at h
    rw [Bool.and_eq_true] at h
    rcases List.mem_cons.mp hy with rfl | hy
    · exact h.1
    · exact okSs_mem h.2 y hy
theorem same_flat (n : Nat) (d : D) (h : okS 0 d = true) : r__law_same (n + 1) [d, d] = some (.ok (.bl true)) := by
  unfold r__law_same recP m__law_same
  rw [runP_ap]
  cases d with
  | bl b => cases b <;> simp [envOf]
  | _ => first
    | (simp [okS] at h; done)
    | simp [envOf]
theorem same_self : ∀ (n : Nat) (d : D), okS n d = true → r__law_same (n + 1) [d, d] = some (.ok (.bl true)) := by
  intro n
  induction n with
  | zero => exact fun d h => same_flat 0 d h
  | succ n ih =>
    intro d h
    cases d with
    | tup xs =>
      unfold okS at h
      simp only [Bool.and_eq_true, decide_eq_true_eq] at h
      unfold r__law_same
      rw [recP, runP_ap, m__law_same]
      have hr := ih
      unfold r__law_same at hr
      have hc := mLc_range (ms := aCons (mCallB (cb1 lenD) (aCons (mVar 1) (aNil))) (aNil)) (own := [2]) (i := 2) (tt := gYes) (ρ := [some (.d (.tup xs)), some (.d (.tup xs)), none]) (L := []) (te := mCallP (recP 3 m__law_same (n + 1)) (aCons (m2 opIdx (mVar 0) (mVar 2)) (aCons (m2 opIdx (mVar 1) (mVar 2)) (aNil)))) xs.length (fun _ => .bl true) (fun _ => true) (by simp) (by omega) (by omega) (fun k h1 h2 => by
        have hk : k.toNat < xs.length := by omega
        simp (disch := first | omega | (simp; done) | (simp; omega)) [atI_in, List.getElem?_eq_getElem hk, hr _ (okSs_mem h.1 _ (List.getElem_mem hk))])
      simp [envOf, hc, allD, boolsOf_map]
      trace_state
    | _ => exact same_flat _ _ (by simpa [okS] using h)
theorem same6 (d : D) (h : okS 5 d = true) : r__law_same 6 [d, d] = some (.ok (.bl true)) := same_self 5 d h
theorem is_whole_int (v : Int) : f_is_whole [.int v] = some (.ok (.bl true)) := by
  unfold f_is_whole m_is_whole; rw [runP_ap]; simp [envOf]
theorem fits_whole_int (v a b: Int) : f_fits_whole [.int v, .int a, .int b] = some (.ok (.bl (decide (a ≤ v ∧ v ≤ b)))) := by
  unfold f_fits_whole m_fits_whole; rw [runP_ap]
  simp [envOf, is_whole_int]
  split <;> simp [*]
theorem need_gauge_ok {q m : Int} (h1 : 1 ≤ q) (h2 : q ≤ 200) (h3 : 0 ≤ m) (h4 : m ≤ 50) (h5 : m < q) : f_need_gauge [.int q, .int m] = some (.ok .non) := by
  unfold f_need_gauge m_need_gauge; rw [runP_ap]
  simp [envOf, fits_whole_int, c_QUARTER, c_MORTAR, h1, h2, h3]
  split <;> omega
theorem need_wide_ok {w : Int} (h1 : 1 ≤ w) (h2 : w ≤ 100000) : f_need_wide [.int w] = some (.ok .non) := by
  unfold f_need_wide m_need_wide; rw [runP_ap]
  simp [envOf, fits_whole_int, c_WIDE, h1, h2]
theorem need_units_ok {w : Int} (h1 : 1 ≤ w) (h2 : w ≤ 40) : f_need_units [.int w] = some (.ok .non) := by
  unfold f_need_units m_need_units; rw [runP_ap]
  simp [envOf, fits_whole_int, c_UNITS, h1, h2]
theorem quarters_ok {w q m : Int} (hw : 1 ≤ w) (hw2 : w ≤ 100000) (h1 : 1 ≤ q) (h2 : q ≤ 200) (h3 : 0 ≤ m) (h4 : m ≤ 50) (h5 : m < q) : f_quarters_for [.int w, .int q, .int m] = some (.ok (.int ((w + m) / q))) := by
  unfold f_quarters_for m_quarters_for; rw [runP_ap]
  simp (disch := first | omega | (simp; done) | (simp; omega)) [envOf, need_gauge_ok h1 h2 h3 h4 h5, need_wide_ok hw hw2, fdivD_ii]
theorem ediv_of {a q k : Int} (hq : 0 < q) (h1 : k * q ≤ a) (h2 : a < k * q + q) : a / q = k := by
  have e1 : k ≤ a / q := Int.le_ediv_of_mul_le hq h1
  have e2 : a / q < k + 1 := Int.ediv_lt_of_lt_mul hq (by rw [Int.add_mul]; omega)
  omega
theorem le_mul_pos {k q : Int} (h1 : 0 ≤ k) (h2 : 1 ≤ q) : k ≤ k * q := by
  have := Int.mul_le_mul_of_nonneg_left h2 h1
  omega
theorem left_over_ok {w q m : Int} (hw : 1 ≤ w) (hw2 : w ≤ 100000) (h1 : 1 ≤ q) (h2 : q ≤ 200) (h3 : 0 ≤ m) (h4 : m ≤ 50) (h5 : m < q) : f_left_over [.int w, .int q, .int m] = some (.ok (.int (if (w + m) / q = 0 then w else w - ((w + m) / q * q - m)))) := by
  have k0 : 0 ≤ (w + m) / q := Int.ediv_nonneg (by omega) (by omega)
  have k1 : (w + m) / q ≤ w + m := Int.ediv_le_self _ (by omega)
  unfold f_left_over m_left_over; rw [runP_ap]
  simp (disch := first | omega | (simp; done) | (simp; omega)) [envOf, need_gauge_ok h1 h2 h3 h4 h5, need_wide_ok hw hw2, fdivD_ii]
  generalize (w + m) / q = k at *
  simp (disch := first | omega | (simp; done) | (simp; omega)) [mulD_ii]
  split <;> simp
theorem mortar_for_ok {w s q : Int} (hw : 1 ≤ w) (hw2 : w ≤ 100000) (hs : 1 ≤ s) (hs2 : s ≤ 40) (h1 : 1 ≤ q) (h2 : q ≤ 200) : f_mortar_for [.int w, .int s, .int q] = some (.ok (if 0 ≤ s * q - w ∧ s * q - w ≤ 50 ∧ s * q - w ≤ q - 1 then .int (s * q - w) else .non)) := by
  unfold f_mortar_for m_mortar_for; rw [runP_ap]
  simp (disch := first | omega | (simp; done) | (simp; omega)) [envOf, need_units_ok hs hs2, need_wide_ok hw hw2, fits_whole_int, c_QUARTER, c_MORTAR, h1, h2, mulD_ii]
  repeat' split
  all_goals first | rfl | (exfalso; omega)
theorem gauge_wp {a b : Int} {R : List LO} {Q E} (hc : CupOk a b) (h : ∀ q m a' b', CupOk a' b' → 1 ≤ q → q ≤ 200 → 0 ≤ m → m ≤ 50 → m < q → Q (.d (.tup [.int q, .int m])) (cupO a' b' :: R)) : WE (f__law_gauge [.r 0] (cupO a b :: R)) Q E := by
  unfold f__law_gauge m__law_gauge
  rw [runL_ap]
  simp [envL]
  refine some_wp hc (by simp) (by simp) fun x hx a' b' hc => ?_
  simp at hx
  obtain ⟨n, rfl, hn1, hn2⟩ : ∃ n : Int, x = .int n ∧ 1 ≤ n ∧ n ≤ 200 := by
    rcases hx with rfl | rfl | rfl <;> exact ⟨_, rfl, by decide, by decide⟩
  simp
  refine roll_wp hc (by omega) (by omega) fun r a' b' r1 r2 hc => ?_
  simp
  refine roll_wp hc (by split <;> omega) (by split <;> omega) fun m a' b' m1 m2 hc => ?_
  simp [cutL_all]
  exact h _ _ _ _ hc (by omega) (by omega) m1 (by split at m2 <;> omega) (by split at m2 <;> omega)
theorem filt (n : Nat) (p : Int → Bool) (x : Int) (hp : ∀ o, p o = decide (o = x)) : ((List.range n).map (fun (k : Nat) => (k : Int))).filter p = if 0 ≤ x ∧ x < n then [x] else [] := by
  induction n with
  | zero => rw [if_neg (by omega)]; rfl
  | succ n ih =>
    rw [List.range_succ, List.map_append, List.filter_append, ih]
    simp only [List.map_cons, List.map_nil, List.filter_cons, List.filter_nil, hp, decide_eq_true_eq]
    by_cases h : 0 ≤ x ∧ x < n
    · rw [if_pos h, if_neg (by omega), if_pos (by omega)]; rfl
    · rw [if_neg h]
      by_cases h2 : (n : Int) = x
      · rw [if_pos h2, if_pos (by omega), h2]; rfl
      · rw [if_neg h2, if_neg (by omega)]; rfl
def I0 (ns : List Int) : Env' → List LO → Prop := fun ρ L => ∃ a b x2 x3 x4 x5 x6 x7 x8 x9 x10, CupOk a b ∧ ρ = [some (.d (.scr ns)), some (.r 0), x2, x3, x4, x5, x6, x7, x8, x9, x10, none, none] ∧ L = [cupO a b]
def I1 (ns : List Int) (q m w : Int) (x : SV) (x7 x8 x9 x10 : Option SV) (a b : Int) : Nat → Env' → List LO → Prop := fun n ρ L => ∃ k : Int, 0 ≤ k ∧ k * q ≤ w + m ∧ k ≤ w + m ∧ n = (w + m - k).toNat ∧ ρ = [some (.d (.scr ns)), some (.r 0), some x, some (.d (.int q)), some (.d (.int m)), some (.d (.int w)), some (.d (.int k)), x7, x8, x9, x10, none, none] ∧ L = [cupO a b]
theorem law_true (ns : List Int) (h : ns.length ≤ 63) (hb : ∀ z ∈ ns, PySem.Builtin.Int.intBits z ≤ 1048576) : f_law [.scr ns] = some (.ok (.bl true)) := by
  unfold f_law m_law
  rw [runP_ap]
  apply rP_of
  simp [envOf]
  refine cup_wp h hb fun a b hc => ?_
  simp [itRange1, okR]
  refine forL_wp rfl (I0 ns) ?_ _ _ _ ⟨a, b, none, none, none, none, none, none, none, none, none, hc, rfl, rfl⟩ ?_
  · rintro ρ L ⟨a, b, x2, x3, x4, x5, x6, x7, x8, x9, x10, hc, rfl, rfl⟩
    simp (disch := first | (simp; done)) [quarters_ok, left_over_ok, mortar_for_ok, same6]
  · rintro x hx ρ L ⟨a, b, x2, x3, x4, x5, x6, x7, x8, x9, x10, hc, rfl, rfl⟩
    simp
    refine gauge_wp hc fun q m a b hc q1 q2 m1 m2 m3 => ?_
    simp (disch := first | omega | (simp; done) | (simp; omega)) [mulD_ii]
    refine some_wp hc (by simp) (by simp) fun y hy a b hc => ?_
    simp at hy
    obtain ⟨n, rfl, hn1, hn2⟩ : ∃ n : Int, y = .int n ∧ 1 ≤ n ∧ n ≤ 10000 := by
      rcases hy with rfl | rfl | rfl
      · exact ⟨_, rfl, by omega, by omega⟩
      · exact ⟨_, rfl, by omega, by omega⟩
      · exact ⟨_, rfl, by omega, by omega⟩
    clear hy
    simp
    refine roll_wp hc (by omega) (by omega) fun r a b r1 r2 hc => ?_
    simp
    generalize hw : 1 + r = w
    have w1 : 1 ≤ w := by omega
    have w2 : w ≤ 10000 := by omega
    clear hw r1 r2
    refine sWhile_wp (I1 ns q m w x x7 x8 x9 x10 a b) ?_ _ _ _ ⟨0, by omega, by omega, by omega, rfl, rfl, rfl⟩
    rintro n ρ L ⟨k, k0, k1, k2, rfl, rfl, rfl⟩
    simp (disch := first | omega | (simp; done) | (simp; omega)) [mulD_ii]
    split
    · rename_i hk
      have e := le_mul_pos (k := k + 1) (q := q) (by omega) q1
      exact ⟨_, by omega, _, by omega, by omega, by omega, rfl, rfl, rfl⟩
    · rename_i hk
      have hkq : k * q ≤ w + m ∧ w + m < k * q + q := ⟨k1, by rw [Int.add_mul] at hk; omega⟩
      have hd : (w + m) / q = k := ediv_of (by omega) hkq.1 hkq.2
      have hlt : 0 < k ∨ k = 0 := by omega
      rcases hlt with hk1 | rfl
      case' inl =>
        have hk0 : ¬ k = 0 := by omega
        simp (disch := first | omega | (simp; done) | (simp; omega)) [quarters_ok, left_over_ok, hd, same6, hk1, hk0]
        refine ⟨by omega, by omega, ?_⟩
      case' inr =>
        simp (disch := first | omega | (simp; done) | (simp; omega)) [quarters_ok, left_over_ok, hd, same6]
        refine ⟨by omega, by omega, ?_⟩
      all_goals
        refine roll_wp hc (by omega) (by omega) fun s0 a b s1 s2 hc => ?_
        simp
        generalize hs : 1 + s0 = s
        have s3 : 1 ≤ s := by omega
        have s4 : s ≤ 40 := by omega
        have e1 : q ≤ s * q := by have := Int.mul_le_mul_of_nonneg_right s3 (show 0 ≤ q by omega); omega
        have e2 : s * q ≤ 40 * q := Int.mul_le_mul_of_nonneg_right s4 (by omega)
        clear hs s1 s2
        simp (disch := first | omega | (simp; done) | (simp; omega)) [mulD_ii]
        refine roll_wp hc (by omega) (by omega) fun r2 a b r3 r4 hc => ?_
        simp (disch := first | omega | (simp; done) | (simp; omega)) [mulD_ii]
        generalize hl : (if 1 < s * q - r2 then s * q - r2 else 1) = l
        have l1 : 1 ≤ l := by subst hl; split <;> omega
        have l2 : l ≤ s * q := by subst hl; split <;> omega
        clear hl
        refine WE_of (mLc_range (if q < 51 then q else 51) (fun k => .int k) (fun o => decide (o = s * q - l)) (by simp) (by split <;> omega) (by split <;> omega) fun o o1 o2 => ?_) ?_
        · simp (disch := first | omega | (simp; done) | (simp; omega)) [mulD_ii]
          omega
        rw [filt _ _ (s * q - l) fun _ => rfl]
        have hm : f_mortar_for [.int l, .int s, .int q] = some (.ok (if 0 ≤ s * q - l ∧ s * q - l < (if q < 51 then q else 51) then .int (s * q - l) else .non)) := by
          rw [mortar_for_ok l1 (by omega) s3 s4 q1 q2]
          congr 3
          split <;> (apply propext; omega)
        by_cases hg : 0 ≤ s * q - l ∧ s * q - l < (if q < 51 then q else 51)
        · rw [if_pos hg] at hm
          rw [if_pos (by omega)]
          have hd2 : (l + (s * q - l)) / q = s := ediv_of (by omega) (by omega) (by omega)
          have hs0 : ¬ s = 0 := by omega
          simp (disch := first | omega | (simp; done) | (simp; omega)) [hm, same6, quarters_ok, left_over_ok, hd2, hs0, eqD, neD, eqOk, DL.plain, DL.plains, DL.dep, DL.deps, DL.deq, DL.deqs, atI_in]
          exact ⟨by omega, _, _, _, _, _, _, _, _, _, _, _, hc, rfl, rfl⟩
        · rw [if_neg hg] at hm
          rw [if_neg (by omega)]
          simp (disch := first | omega | (simp; done) | (simp; omega)) [hm, same6, quarters_ok, left_over_ok, eqD, neD, eqOk, DL.plain, DL.plains, DL.dep, DL.deps, DL.deq, DL.deqs]
          exact ⟨_, _, _, _, _, _, _, _, _, _, _, hc, rfl, rfl⟩
end Lw
open PySem PySem.W PyProof.Rows DL
set_option maxRecDepth 100000 in
set_option maxHeartbeats 0 in
theorem PySem.Challenge.cw_brickbonds_k88_whole_lengths_that_are_to_holds : PySem.Challenge.rw_brickbonds_k88_whole_lengths_that_are_to.Holds := by
  w_on; o_law; k_head; (case hw => w_witness2)
  k_fill
  refine DL.law_main (l := PySem.Challenge.rw_brickbonds_k88_whole_lengths_that_are_to) (N := ["script", "cup", "turn", "quarter", "mortar", "wide", "many", "left", "size", "length", "good", "told", "own"]) (st := Lw.st_law) (m := Lw.m_law) (T := Lw.Txt) (k := 6) rfl rfl ⟨rfl, by decide, by decide⟩ rfl (fun w h Y => PySem.W.kIn_of Y) Lw.sc_law Lw.bd_law ?T (fun K mg t => t.f_law) (fun w K mg base t X W B => Lw.body_law _ w K mg base t X W B) Lw.law_true
  case T =>
    intro w mg h KX G
    refine' ⟨DL.factB KX G ?b_abs,
      DL.factB KX G ?b_all,
      DL.factB KX G ?b_bool,
      DL.factB KX G ?b_int,
      DL.factB KX G ?b_isinstance,
      DL.factB KX G ?b_len,
      DL.factB KX G ?b_list,
      DL.factB KX G ?b_max,
      DL.factB KX G ?b_min,
      DL.factB KX G ?b_range,
      DL.factB KX G ?b_str,
      DL.factB KX G ?b_tuple,
      DL.factI KX G ?v_MORTAR,
      DL.factI KX G ?v_QUARTER,
      DL.factI KX G ?v_UNITS,
      DL.factI KX G ?v_WIDE,
      DL.factE KX G ?ea_InvalidNumber ?eq_InvalidNumber ?ek_InvalidNumber ?es_InvalidNumber ?et_InvalidNumber,
      DL.factF KX G ?fa__law_roll ?fl__law_roll ?fc__law_roll ?fk__law_roll,
      DL.factF KX G ?fa__law_some ?fl__law_some ?fc__law_some ?fk__law_some,
      DL.factF KX G ?fa__law_gauge ?fl__law_gauge ?fc__law_gauge ?fk__law_gauge,
      DL.factF KX G ?fa__law_same ?fl__law_same ?fc__law_same ?fk__law_same,
      DL.factF KX G ?fa_is_whole ?fl_is_whole ?fc_is_whole ?fk_is_whole,
      DL.factF KX G ?fa_fits_whole ?fl_fits_whole ?fc_fits_whole ?fk_fits_whole,
      DL.factF KX G ?fa_need_gauge ?fl_need_gauge ?fc_need_gauge ?fk_need_gauge,
      DL.factF KX G ?fa_need_wide ?fl_need_wide ?fc_need_wide ?fk_need_wide,
      DL.factF KX G ?fa_left_over ?fl_left_over ?fc_left_over ?fk_left_over,
      DL.factF KX G ?fa_need_units ?fl_need_units ?fc_need_units ?fk_need_units,
      DL.factF KX G ?fa_mortar_for ?fl_mortar_for ?fc_mortar_for ?fk_mortar_for,
      DL.factF KX G ?fa_quarters_for ?fl_quarters_for ?fc_quarters_for ?fk_quarters_for,
      DL.factF KX G ?fa__law_cup ?fl__law_cup ?fc__law_cup ?fk__law_cup,
      DL.factF KX G ?fa_law ?fl_law ?fc_law ?fk_law⟩
    (case b_abs => k_is)
    (case b_all => k_is)
    (case b_bool => k_is)
    (case b_int => k_is)
    (case b_isinstance => k_is)
    (case b_len => k_is)
    (case b_list => k_is)
    (case b_max => k_is)
    (case b_min => k_is)
    (case b_range => k_is)
    (case b_str => k_is)
    (case b_tuple => k_is)
    (case v_MORTAR => k_is)
    (case v_QUARTER => k_is)
    (case v_UNITS => k_is)
    (case v_WIDE => k_is)
    (case ea_InvalidNumber => k_is); (case eq_InvalidNumber => k_exc); (case ek_InvalidNumber => k_is); (case es_InvalidNumber => k_is); (case et_InvalidNumber => k_is)
    (case fa__law_roll => k_is); (case fl__law_roll => k_is); (case fc__law_roll => k_is); (case fk__law_roll => k_is)
    (case fa__law_some => k_is); (case fl__law_some => k_is); (case fc__law_some => k_is); (case fk__law_some => k_is)
    (case fa__law_gauge => k_is); (case fl__law_gauge => k_is); (case fc__law_gauge => k_is); (case fk__law_gauge => k_is)
    (case fa__law_same => k_is); (case fl__law_same => k_is); (case fc__law_same => k_is); (case fk__law_same => k_is)
    (case fa_is_whole => k_is); (case fl_is_whole => k_is); (case fc_is_whole => k_is); (case fk_is_whole => k_is)
    (case fa_fits_whole => k_is); (case fl_fits_whole => k_is); (case fc_fits_whole => k_is); (case fk_fits_whole => k_is)
    (case fa_need_gauge => k_is); (case fl_need_gauge => k_is); (case fc_need_gauge => k_is); (case fk_need_gauge => k_is)
    (case fa_need_wide => k_is); (case fl_need_wide => k_is); (case fc_need_wide => k_is); (case fk_need_wide => k_is)
    (case fa_left_over => k_is); (case fl_left_over => k_is); (case fc_left_over => k_is); (case fk_left_over => k_is)
    (case fa_need_units => k_is); (case fl_need_units => k_is); (case fc_need_units => k_is); (case fk_need_units => k_is)
    (case fa_mortar_for => k_is); (case fl_mortar_for => k_is); (case fc_mortar_for => k_is); (case fk_mortar_for => k_is)
    (case fa_quarters_for => k_is); (case fl_quarters_for => k_is); (case fc_quarters_for => k_is); (case fk_quarters_for => k_is)
    (case fa__law_cup => k_is); (case fl__law_cup => k_is); (case fc__law_cup => k_is); (case fk__law_cup => k_is)
    (case fa_law => k_is); (case fl_law => k_is); (case fc_law => k_is); (case fk_law => k_is)
