import PyProof.Rows.All
import HandS.ForMost
import HandS.ForExc
import HandS.TupSets
import HandS.Wide
import HandS.Deep
import HandS.Conv
import HandS.Flow
import HandS.SetKeys
import HandS.DictTup
import KE.KDictKeyed
import KE.KeyNested
import KE.KSortTupG
import HandS.TupAny
import HandS.TupMul
import HandS.Text
import HandS.WideBits
import HandS.TryOnly
import HandS.CallSlots
import HandS.Defaults
import HandS.WordsExc
import KE.DataCmp
import KE.SortData
import HandS.IsInst
import HandS.Small
import KE.KDictWalk
import HandS.SetBool
import KE.GoesEnum
import HandS.Zip
import HandS.RaiseMore
import HandS.Ends
import HandS.Head0
import HandS.Head1
import HandS.Head2
import HandS.HeadEnd
import HandS.HeadHook1
import HandS.HeadHook2
import PySem.Challenge.RW_twoplaces_k20_members_and_cuts
set_option Elab.async false
set_option linter.all false
set_option maxRecDepth 100000
/-! The values layer: data trees, what they stand for in the abstract heap, partial results. -/
noncomputable section
namespace TP
open PySem PySem.Spec PyProof.Rows L2

/-- data trees -/
inductive D where
  | non | bl (b : Bool) | int (i : Int) | str (x : Str)
  | tup (l : List D) | lst (l : List D) | scr (l : List Int) | dct (l : List (D × D)) | set (l : List D)

/-- an exception of the program's own: its class by name, its fields -/
structure Exn where
  cls : Str
  fs : List (Str × D)

/-- what comes of a computation -/
inductive Out (α : Type) where
  | ok (a : α) | exc (x : Exn) | fail
def Out.bind {α β : Type} : Out α → (α → Out β) → Out β
  | .ok a, k => k a
  | .exc x, _ => .exc x
  | .fail, _ => .fail
@[simp] theorem ok_bind {α β : Type} (a : α) (k : α → Out β) : (Out.ok a).bind k = k a := rfl
@[simp] theorem exc_bind {α β : Type} (x : Exn) (k : α → Out β) : (Out.exc x).bind k = .exc x := rfl
@[simp] theorem fail_bind {α β : Type} (k : α → Out β) : (Out.fail : Out α).bind k = .fail := rfl
def Out.ofO {α : Type} : Option α → Out α
  | some a => .ok a
  | none => .fail
@[simp] theorem ofO_some {α : Type} (a : α) : Out.ofO (some a) = .ok a := rfl
@[simp] theorem ofO_none {α : Type} : Out.ofO (none : Option α) = .fail := rfl

/-! ### keys -/
mutual
/-- what a value is as a key -/
def D.key : D → NestedKey
  | .bl b => .num (if b = true then 1 else 0)
  | .int i => .num i
  | .str x => .text x
  | .tup l => .tup (D.keys l)
  | .non | .lst _ | .scr _ | .dct _ | .set _ => .none
def D.keys : List D → List NestedKey
  | [] => []
  | d :: r => D.key d :: D.keys r
end
mutual
/-- None, bools, numbers, texts, and tuples of these -/
def D.isKey : D → Bool
  | .non | .bl _ | .int _ | .str _ => true
  | .tup l => D.areKeys l
  | .lst _ | .scr _ | .dct _ | .set _ => false
def D.areKeys : List D → Bool
  | [] => true
  | d :: r => D.isKey d && D.areKeys r
end
/-- a dict whose keys are tuples: its entries -/
def DctN (w : World) (a : Addr) (xs : List (NestedKey × Addr × Value)) : HO := .ext fun h => (a == sysModules) = false ∧ xs.length ≤ sizeLine ∧ (xs.map (·.1)).Nodup ∧ ∃ o es ep, h.get? a = some o ∧ o.ExactDict ∧ o.data = .dict es ep ∧
  es.toList = xs.map fun x => ⟨x.1.hash w, .ref x.2.1, x.2.2⟩
/-- a set of tuples: its entries, its table -/
def SetNP (w : World) (a : Addr) (rows : List (Int × Value)) (h : Heap) : Prop := ∃ o es ep t, h.get? a = some o ∧ o.ExactSet ∧ o.data = .set es ep t ∧ es.toList = rows ∧ TabOk t (rows.map (·.1)) ∧
  (w.params.followText "set-order" = true ∨ t.led = true) ∧ rows.length * 5 < t.mask * 3 ∧ rows.length < 64
def SetN (w : World) (a : Addr) (rows : List (Int × Value)) : HO := .ext (SetNP w a rows)

/-! ### data in the abstract heap -/
structure KW where
  prog : Program
  w : World
  K : PySem.W.Frag
abbrev cw (X : Cx) : KW := ⟨X.prog, X.w, X.K⟩
def StrR (x : Str) : Prop := PyData.strOk x = true ∧ x.length ≤ sizeLine
def flatKey : D → Option Key
  | .int i => some (.inl i)
  | .str x => some (.inr x)
  | _ => none
def isTupD : D → Bool
  | .tup _ => true
  | _ => false
mutual
inductive Rep (c : KW) (F : Hp) : V → D → Prop
  | non : Rep c F .non .non
  | bl (b : Bool) : Rep c F (.bl b) (.bl b)
  | int (i : Int) : Rep c F (.int i) (.int i)
  | str (x : Str) : StrR x → Rep c F (.str x) (.str x)
  | tup {a : Addr} {xs : List V} {ds : List D} : SqT c.K F a xs → Reps c F xs ds → Rep c F (.ref a) (.tup ds)
  | lst {a : Addr} {xs : List V} {ds : List D} : F a = some (.lst xs) → Reps c F xs ds → Rep c F (.ref a) (.lst ds)
  | scr {a : Addr} {ns : List Int} : SqL c.K F a (ns.map V.int) → Rep c F (.ref a) (.scr ns)
  | dK {a : Addr} {kvs : List (Key × V)} {ds : List (D × D)} : F a = some (.dK kvs) → KVs c F kvs ds → Rep c F (.ref a) (.dct ds)
  | dN {a : Addr} {xs : List (NestedKey × Addr × Value)} {ds : List (D × D)} : F a = some (DctN c.w a xs) → NVs c F xs ds → Rep c F (.ref a) (.dct ds)
  | setN {a : Addr} {rows : List (Int × Value)} {es ds : List D} : F a = some (SetN c.w a rows) → Rows c F rows es → es.Perm ds → Rep c F (.ref a) (.set ds)
inductive Reps (c : KW) (F : Hp) : List V → List D → Prop
  | nil : Reps c F [] []
  | cons {v : V} {vs : List V} {d : D} {ds : List D} : Rep c F v d → Reps c F vs ds → Reps c F (v :: vs) (d :: ds)
inductive KVs (c : KW) (F : Hp) : List (Key × V) → List (D × D) → Prop
  | nil : KVs c F [] []
  | cons {k : Key} {v : V} {kvs : List (Key × V)} {d e : D} {ds : List (D × D)} : Rep c F (kV k) d → Rep c F v e → KVs c F kvs ds → KVs c F ((k, v) :: kvs) ((d, e) :: ds)
inductive NVs (c : KW) (F : Hp) : List (NestedKey × Addr × Value) → List (D × D) → Prop
  | nil : NVs c F [] []
  | cons {b : Addr} {u : Value} {v : V} {xs : List (NestedKey × Addr × Value)} {d e : D} {ds : List (D × D)} : Rep c F (.ref b) d → d.isKey = true → isTupD d = true → d.key.depth ≤ 8 → RelV v u → Rep c F v e → NVs c F xs ds → NVs c F ((d.key, b, u) :: xs) ((d, e) :: ds)
inductive Rows (c : KW) (F : Hp) : List (Int × Value) → List D → Prop
  | nil : Rows c F [] []
  | cons {u : Value} {v : V} {rows : List (Int × Value)} {d : D} {ds : List D} : RelV v u → Rep c F v d → d.isKey = true → isTupD d = true → d.key.depth ≤ 8 → Rows c F rows ds → Rows c F ((d.key.hash c.w, u) :: rows) (d :: ds)
end

theorem same_sqT {K : PySem.W.Frag} {F F' : Hp} {a : Addr} {xs : List V} (e : Same F F') (h : SqT K F a xs) : SqT K F' a xs := by
  rcases h with (h | ⟨o, h⟩) | h
  · exact Or.inl (Or.inl (e _ _ h))
  · exact Or.inl (Or.inr ⟨o, e _ _ h⟩)
  · exact Or.inr h
mutual
theorem Rep.mono {c : KW} {F F' : Hp} (e : Same F F') : ∀ {v : V} {d : D}, Rep c F v d → Rep c F' v d
  | _, _, .non => .non
  | _, _, .bl _ => .bl _
  | _, _, .int _ => .int _
  | _, _, .str _ o => .str _ o
  | _, _, .tup s r => .tup (same_sqT e s) (Reps.mono e r)
  | _, _, .lst s r => .lst (e _ _ s) (Reps.mono e r)
  | _, _, .scr s => .scr (e.seq s)
  | _, _, .dK s r => .dK (e _ _ s) (KVs.mono e r)
  | _, _, .dN s r => .dN (e _ _ s) (NVs.mono e r)
  | _, _, .setN s r p => .setN (e _ _ s) (Rows.mono e r) p
theorem Reps.mono {c : KW} {F F' : Hp} (e : Same F F') : ∀ {vs : List V} {ds : List D}, Reps c F vs ds → Reps c F' vs ds
  | _, _, .nil => .nil
  | _, _, .cons a b => .cons (Rep.mono e a) (Reps.mono e b)
theorem KVs.mono {c : KW} {F F' : Hp} (e : Same F F') : ∀ {vs : List (Key × V)} {ds : List (D × D)}, KVs c F vs ds → KVs c F' vs ds
  | _, _, .nil => .nil
  | _, _, .cons a b r => .cons (Rep.mono e a) (Rep.mono e b) (KVs.mono e r)
theorem NVs.mono {c : KW} {F F' : Hp} (e : Same F F') : ∀ {vs : List (NestedKey × Addr × Value)} {ds : List (D × D)}, NVs c F vs ds → NVs c F' vs ds
  | _, _, .nil => .nil
  | _, _, .cons a h1 h2 h3 rv b r => .cons (Rep.mono e a) h1 h2 h3 rv (Rep.mono e b) (NVs.mono e r)
theorem Rows.mono {c : KW} {F F' : Hp} (e : Same F F') : ∀ {vs : List (Int × Value)} {ds : List D}, Rows c F vs ds → Rows c F' vs ds
  | _, _, .nil => .nil
  | _, _, .cons rv a h1 h2 h3 r => .cons rv (Rep.mono e a) h1 h2 h3 (Rows.mono e r)
end
theorem Reps.length {c : KW} {F : Hp} : ∀ {vs : List V} {ds : List D}, Reps c F vs ds → vs.length = ds.length
  | _, _, .nil => rfl
  | _, _, .cons _ t => by rw [List.length_cons, List.length_cons, Reps.length t]
theorem Reps.get {c : KW} {F : Hp} : ∀ {vs : List V} {ds : List D} {i : Nat} {d : D}, Reps c F vs ds → ds[i]? = some d → ∃ v, vs[i]? = some v ∧ Rep c F v d
  | _, _, _, _, .nil, h => by simp at h
  | _, _, 0, d, .cons (v := v) a _, h => by simp at h; subst h; exact ⟨v, rfl, a⟩
  | _, _, i + 1, d, .cons _ t, h => by
    obtain ⟨v, h1, h2⟩ := Reps.get (i := i) t (by simpa using h)
    exact ⟨v, by simpa using h1, h2⟩
theorem Reps.get' {c : KW} {F : Hp} : ∀ {vs : List V} {ds : List D} {i : Nat} {v : V}, Reps c F vs ds → vs[i]? = some v → ∃ d, ds[i]? = some d ∧ Rep c F v d
  | _, _, _, _, .nil, h => by simp at h
  | _, _, 0, v, .cons (d := d) a _, h => by simp at h; subst h; exact ⟨d, rfl, a⟩
  | _, _, i + 1, v, .cons _ t, h => by
    obtain ⟨d, h1, h2⟩ := Reps.get' (i := i) t (by simpa using h)
    exact ⟨d, by simpa using h1, h2⟩
theorem Reps.append {c : KW} {F : Hp} : ∀ {vs us : List V} {ds es : List D}, Reps c F vs ds → Reps c F us es → Reps c F (vs ++ us) (ds ++ es)
  | _, _, _, _, .nil, s => s
  | _, _, _, _, .cons a t, s => .cons a (Reps.append t s)
theorem Reps.take {c : KW} {F : Hp} : ∀ {vs : List V} {ds : List D} (n : Nat), Reps c F vs ds → Reps c F (vs.take n) (ds.take n)
  | _, _, 0, _ => .nil
  | _, _, _ + 1, .nil => .nil
  | _, _, n + 1, .cons a t => .cons a (Reps.take n t)
theorem Reps.drop {c : KW} {F : Hp} : ∀ {vs : List V} {ds : List D} (n : Nat), Reps c F vs ds → Reps c F (vs.drop n) (ds.drop n)
  | _, _, 0, r => r
  | _, _, _ + 1, .nil => .nil
  | _, _, n + 1, .cons _ t => Reps.drop n t
theorem Reps.one {c : KW} {F : Hp} {v : V} {d : D} (h : Rep c F v d) : Reps c F [v] [d] := .cons h .nil

/-! ### growing: F what never changes any more, H all that is tracked -/
structure Grow (F H F' H' : Hp) : Prop where
  sub : Same F F'
  same : Same H H'
  into : Same F' H'
  new : ∀ a o, F' a = some o → F a = some o ∨ H a = none
theorem Grow.refl {F H : Hp} (h : Same F H) : Grow F H F H := ⟨Same.refl _, Same.refl _, h, fun _ _ e => .inl e⟩
theorem Grow.trans {F H F1 H1 F2 H2 : Hp} (a : Grow F H F1 H1) (b : Grow F1 H1 F2 H2) : Grow F H F2 H2 :=
  ⟨a.sub.trans b.sub, a.same.trans b.same, b.into, fun c o e => by
    rcases b.new c o e with h | h
    · exact a.new c o h
    · exact .inr (a.same.free h)⟩
/-- a new object that never changes -/
theorem Grow.laid {F H : Hp} {p : Addr} {o : HO} (h : Same F H) (n : H p = none) : Grow F H (upd F p o) (upd H p o) := by
  have nf : F p = none := h.free n
  refine ⟨fun b u e => ?_, fun b u e => ?_, fun b u e => ?_, fun b u e => ?_⟩
  · rw [upd_ne (ne_of_none e nf)]; exact e
  · rw [upd_ne (ne_of_none e n)]; exact e
  · by_cases hb : b = p
    · subst hb; rw [upd_same] at e ⊢; exact e
    · rw [upd_ne hb] at e ⊢; exact h b u e
  · by_cases hb : b = p
    · subst hb; exact .inr n
    · rw [upd_ne hb] at e; exact .inl e
/-- a new object that may change yet -/
theorem Grow.own {F H : Hp} {p : Addr} {o : HO} (h : Same F H) (n : H p = none) : Grow F H F (upd H p o) :=
  ⟨Same.refl _, fun b u e => by rw [upd_ne (ne_of_none e n)]; exact e, fun b u e => by rw [upd_ne (ne_of_none (h b u e) n)]; exact h b u e, fun _ _ e => .inl e⟩

/-! ### what is asked of a result -/
/-- an exception as it lies: its class, its own dict -/
structure XRep (c : KW) (mg : Str → Option Value) (F H : Hp) (cl : Value) (dx : Option Addr) (x : Exn) : Prop where
  ex : ∃ (C d : Addr) (vs : List (Str × V)), mg x.cls = some (.ref C) ∧ cl = .ref C ∧ dx = some d ∧ H d = some (.xd vs) ∧
    Reps c F (vs.map (·.2)) (x.fs.map (·.2)) ∧ vs.map (·.1) = x.fs.map (·.1)

def At {α β : Type} (c : KW) (mg : Str → Option Value) (E : XK) (R : Hp → β → α → Prop) (F H : Hp) (o : Out α) (Q : β → Hp → Prop) : Prop :=
  match o with
  | .ok a => ∀ b F' H', Grow F H F' H' → R F' b a → Q b H'
  | .exc x => ∀ cl dx F' H', Grow F H F' H' → XRep c mg F' H' cl dx x → E cl dx H'
  | .fail => False

section
variable {α β γ δ : Type} {c : KW} {mg : Str → Option Value} {E : XK} {R : Hp → β → α → Prop} {S : Hp → δ → γ → Prop} {F H : Hp}
/-- one after the other -/
theorem At.bind {o : Out α} {k : α → Out γ} {Q : δ → Hp → Prop} (h : At c mg E S F H (o.bind k) Q) :
    At c mg E R F H o fun b H1 => ∃ F1 a, o = .ok a ∧ Grow F H F1 H1 ∧ R F1 b a ∧ At c mg E S F1 H1 (k a) Q := by
  cases o with
  | ok a =>
    intro b F1 H1 g r
    refine ⟨F1, a, rfl, g, r, ?_⟩
    rw [ok_bind] at h
    cases hk : k a with
    | ok c2 => rw [hk] at h; exact fun d F2 H2 g2 r2 => h d F2 H2 (g.trans g2) r2
    | exc x => rw [hk] at h; exact fun cl dx F2 H2 g2 r2 => h cl dx F2 H2 (g.trans g2) r2
    | fail => rw [hk] at h; exact h
  | exc x => exact h
  | fail => exact h
theorem At.mono {o : Out α} {Q Q' : β → Hp → Prop} (h : At c mg E R F H o Q) (q : ∀ b H', Q b H' → Q' b H') : At c mg E R F H o Q' := by
  cases o with
  | ok a => exact fun b F' H' g r => q _ _ (h b F' H' g r)
  | exc x => exact h
  | fail => exact h
/-- an outcome that is known -/
theorem At.ok {o : Out α} {a : α} {b : β} {Q : β → Hp → Prop} (h : At c mg E R F H o Q) (e : o = .ok a) (s : Same F H) (r : R F b a) : Q b H := by
  subst e
  exact h b F H (Grow.refl s) r
end
end TP

end
set_option Elab.async false
set_option linter.all false
set_option maxRecDepth 100000
/-! The values layer: judgements over expressions, operators. -/
noncomputable section
namespace TP
open PySem PySem.Spec PyProof.Rows L2

abbrev PEnv := List (Option D)
def Slots (c : KW) (F : Hp) (ρ : PEnv) (σ : L2.St) : Prop := ∀ (i : Nat) (d : D), ρ[i]? = some (some d) → ∃ v, σ[i]? = some (some v) ∧ Rep c F v d
theorem Slots.mono {c : KW} {F F' : Hp} {ρ : PEnv} {σ : L2.St} (h : Slots c F ρ σ) (e : Same F F') : Slots c F' ρ σ := fun i d q => by
  obtain ⟨v, h1, h2⟩ := h i d q
  exact ⟨v, h1, h2.mono e⟩

abbrev RepB : Hp → Bool → Bool → Prop := fun _ b a => b = a
abbrev RepU : Hp → Unit → Unit → Prop := fun _ _ _ => True

/-- the wish of exceptions at the slots -/
abbrev xsE (E : WX) (σ : L2.St) : XK := fun cl dx H => E cl dx σ H
/-- readings by partial functions of the slots' data -/
def tv (X : Cx) (E : WX) (f : PEnv → Out D) : TE := fun σ H Q => ∃ ρ F, Same F H ∧ Slots (cw X) F ρ σ ∧ At (cw X) X.mg (xsE E σ) (Rep (cw X)) F H (f ρ) Q
def tb (X : Cx) (E : WX) (f : PEnv → Out Bool) : TT := fun σ H Q => ∃ ρ F, Same F H ∧ Slots (cw X) F ρ σ ∧ At (cw X) X.mg (xsE E σ) RepB F H (f ρ) Q
def tvs (X : Cx) (E : WX) (f : PEnv → Out (List D)) : TA := fun σ H Q => ∃ ρ F, Same F H ∧ Slots (cw X) F ρ σ ∧ At (cw X) X.mg (xsE E σ) (Reps (cw X)) F H (f ρ) Q
structure VE (X : Cx) (E : WX) (e : Expr) (f : PEnv → Out D) : Prop where
  pe : PE X e (tv X E f)
structure VT (X : Cx) (E : WX) (e : Expr) (f : PEnv → Out Bool) : Prop where
  pt : PT X e (tb X E f)
structure VA (X : Cx) (E : WX) (es : List Expr) (f : PEnv → Out (List D)) : Prop where
  pa : PA X es (tvs X E f)

theorem pe_weak {X : Cx} {e : Expr} {t t' : TE} (h : PE X e t) (w : ∀ σ H Q, t' σ H Q → t σ H Q) : PE X e t' := ⟨fun pins s σ H Q I q => h.run pins s σ H Q I (w σ H Q q)⟩
theorem pt_weak {X : Cx} {e : Expr} {t t' : TT} (h : PT X e t) (w : ∀ σ H Q, t' σ H Q → t σ H Q) : PT X e t' := ⟨fun pins s σ H Q I q => h.run pins s σ H Q I (w σ H Q q)⟩
theorem pa_weak {X : Cx} {es : List Expr} {t t' : TA} (h : PA X es t) (w : ∀ σ H Q, t' σ H Q → t σ H Q) : PA X es t' := ⟨fun pos pins s σ H Q I q => h.run pos pins s σ H Q I (w σ H Q q)⟩

section
variable {X : Cx} {E : WX} {a b e : Expr} {f g : PEnv → Out D} {pos : Pos}

/-- the step from one part to the next -/
theorem tv_bind {α β : Type} {R : Hp → β → α → Prop} {ρ : PEnv} {σ : L2.St} {F H : Hp} {k : D → Out α} {Q : β → Hp → Prop} {Q' : VK} (s : Same F H) (sl : Slots (cw X) F ρ σ)
    (h : At (cw X) X.mg (xsE E σ) R F H ((f ρ).bind k) Q) (c : ∀ v F1 H1 d, Same F1 H1 → Same F F1 → Slots (cw X) F1 ρ σ → Rep (cw X) F1 v d → At (cw X) X.mg (xsE E σ) R F1 H1 (k d) Q → Q' v H1) : tv X E f σ H Q' :=
  ⟨ρ, F, s, sl, At.mono (At.bind (R := Rep (cw X)) h) fun v H1 ⟨F1, d, _, g, r, q⟩ => c v F1 H1 d g.into g.sub (sl.mono g.sub) r q⟩
theorem tb_bind {α β : Type} {R : Hp → β → α → Prop} {ρ : PEnv} {σ : L2.St} {F H : Hp} {f : PEnv → Out Bool} {k : Bool → Out α} {Q : β → Hp → Prop} {Q' : Bool → Hp → Prop} (s : Same F H) (sl : Slots (cw X) F ρ σ)
    (h : At (cw X) X.mg (xsE E σ) R F H ((f ρ).bind k) Q) (c : ∀ b F1 H1, Same F1 H1 → Same F F1 → Slots (cw X) F1 ρ σ → At (cw X) X.mg (xsE E σ) R F1 H1 (k b) Q → Q' b H1) : tb X E f σ H Q' :=
  ⟨ρ, F, s, sl, At.mono (At.bind (R := RepB) h) fun v H1 ⟨F1, d, _, g, r, q⟩ => by
    have r' : v = d := r
    subst r'
    exact c v F1 H1 g.into g.sub (sl.mono g.sub) q⟩
theorem tvs_bind {α β : Type} {R : Hp → β → α → Prop} {ρ : PEnv} {σ : L2.St} {F H : Hp} {f : PEnv → Out (List D)} {k : List D → Out α} {Q : β → Hp → Prop} {Q' : List V → Hp → Prop} (s : Same F H) (sl : Slots (cw X) F ρ σ)
    (h : At (cw X) X.mg (xsE E σ) R F H ((f ρ).bind k) Q) (c : ∀ vs F1 H1 ds, Same F1 H1 → Same F F1 → Slots (cw X) F1 ρ σ → Reps (cw X) F1 vs ds → At (cw X) X.mg (xsE E σ) R F1 H1 (k ds) Q → Q' vs H1) : tvs X E f σ H Q' :=
  ⟨ρ, F, s, sl, At.mono (At.bind (R := Reps (cw X)) h) fun v H1 ⟨F1, d, _, g, r, q⟩ => c v F1 H1 d g.into g.sub (sl.mono g.sub) r q⟩

/-! ### names and constants -/
def eVar (i : Nat) : PEnv → Out D := fun ρ => Out.ofO (ρ[i]?.join)
def eC (d : D) : PEnv → Out D := fun _ => .ok d
theorem ve_var (i : Nat) {x : Str} (hN : X.N[i]? = some x := by rfl) (hv : Vis X.env.scope x := by first | exact Or.inl rfl | exact Or.inr (Or.inl rfl) | exact Or.inr (Or.inr rfl)) (hd : (x == ("__debug__" : Str)) = false := by decide)
    (hcd : (x == ("__classdict__" : Str)) = false := by decide) : VE X E (.Name x pos) (eVar i) := ⟨pe_weak (pe_var hN hv hd hcd) fun σ H Q ⟨ρ, F, s, sl, h⟩ => by
  unfold eVar at h
  cases q : ρ[i]? with
  | none => rw [q] at h; exact h.elim
  | some o =>
    cases o with
    | none => rw [q] at h; exact h.elim
    | some d =>
      rw [q] at h
      obtain ⟨v, h1, h2⟩ := sl i d q
      exact ⟨v, h1, h v F H (Grow.refl s) h2⟩⟩
theorem At.const {α β : Type} {c : KW} {mg : Str → Option Value} {E : XK} {R : Hp → β → α → Prop} {F H : Hp} {v : β} {d : α} {Q : β → Hp → Prop} (s : Same F H) (h : At c mg E R F H (.ok d) Q) (r : R F v d) : Q v H := h v F H (Grow.refl s) r
theorem ve_int {i : Int} {j : Nat} : VE X E (.Constant (.int i) j pos) (eC (.int i)) := ⟨pe_weak pe_int fun σ H Q ⟨ρ, F, s, sl, h⟩ => At.const s h (.int i)⟩
theorem ve_bl {i : Bool} {j : Nat} : VE X E (.Constant (.bool i) j pos) (eC (.bl i)) := ⟨pe_weak pe_bl fun σ H Q ⟨ρ, F, s, sl, h⟩ => At.const s h (.bl i)⟩
theorem ve_non {j : Nat} : VE X E (.Constant .none j pos) (eC .non) := ⟨pe_weak pe_non fun σ H Q ⟨ρ, F, s, sl, h⟩ => At.const s h .non⟩
theorem ve_str {x : Str} {j : Nat} (hx : (PyData.strOk x && decide (x.length ≤ 16777216)) = true := by decide +kernel) : VE X E (.Constant (.str x) j pos) (eC (.str x)) := ⟨pe_weak pe_str fun σ H Q ⟨ρ, F, s, sl, h⟩ => by
  rw [Bool.and_eq_true] at hx
  exact At.const s h (.str x ⟨hx.1, by rw [sizeLine_eq]; exact of_decide_eq_true hx.2⟩)⟩
/-- a global name that holds a value of the top -/
theorem ve_glob {x : Str} {v : V} {u : Value} {d : D} (hg : Gl X x) (hm : X.mg x = some u) (r : RelV v u) (hr : ∀ F, Rep (cw X) F v d) (hd : (x == ("__debug__" : Str)) = false := by decide) : VE X E (.Name x pos) (eC d) :=
  ⟨pe_weak (pe_glob hg hm r hd) fun σ H Q ⟨ρ, F, s, sl, h⟩ => At.const s h (hr F)⟩

/-! ### operators by values -/
/-- a two-place operation does what g says -/
def OpV (X : Cx) (op : Value → Value → Sem Value) (g : D → D → Out D) : Prop :=
  ∀ E : XK, OpR X op fun x y H Q => ∃ F a b, Same F H ∧ Rep (cw X) F x a ∧ Rep (cw X) F y b ∧ At (cw X) X.mg E (Rep (cw X)) F H (g a b) Q
theorem OpV.of {op : Value → Value → Sem Value} {r : R2} {g : D → D → Out D} (h : OpR X op r)
    (w : ∀ (E : XK) F H x y a b (Q : VK), Same F H → Rep (cw X) F x a → Rep (cw X) F y b → At (cw X) X.mg E (Rep (cw X)) F H (g a b) Q → r x y H Q) : OpV X op g :=
  fun E pins s σ H x y v u Q I rx ry ⟨F, a, b, sm, ra, rb, q⟩ => h pins s σ H x y v u Q I rx ry (w E F H x y a b Q sm ra rb q)
def e2 (g : D → D → Out D) (f f' : PEnv → Out D) : PEnv → Out D := fun ρ => (f ρ).bind fun x => (f' ρ).bind fun y => g x y
/-- a step by values whose wish of exceptions hangs on the slots -/
theorem pe_at {e : Expr} {t : XK → TE} (h : ∀ E : XK, PE X e (t E)) : PE X e fun σ H Q => t (xsE E σ) σ H Q := ⟨fun pins s σ H Q I q => (h (xsE E σ)).run pins s σ H Q I q⟩
theorem pt_at {e : Expr} {t : XK → TT} (h : ∀ E : XK, PT X e (t E)) : PT X e fun σ H Q => t (xsE E σ) σ H Q := ⟨fun pins s σ H Q I q => (h (xsE E σ)).run pins s σ H Q I q⟩
theorem e2_go {h : D → D → Out D} {σ : L2.St} {H : Hp} {Q : VK} (q : tv X E (e2 h f g) σ H Q) :
    tOp (fun x y H Q => ∃ F a b, Same F H ∧ Rep (cw X) F x a ∧ Rep (cw X) F y b ∧ At (cw X) X.mg (xsE E σ) (Rep (cw X)) F H (h a b) Q) (tv X E f) (tv X E g) σ H Q := by
  obtain ⟨ρ, F, s, sl, q⟩ := q
  exact tv_bind s sl q fun v F1 H1 d s1 e1 sl1 r1 q1 => tv_bind s1 sl1 q1 fun u F2 H2 d2 s2 e2 sl2 r2 q2 => ⟨F2, d, d2, s2, r1.mono e2, r2, q2⟩
theorem ve_op {op : Operator} {h : D → D → Out D} (ho : OpV X (binaryOp op) h) (ha : VE X E a f) (hb : VE X E b g) : VE X E (.BinOp a op b pos) (e2 h f g) :=
  ⟨pe_weak (pe_at fun E' => pe_op (ho E') ha.pe hb.pe) fun _ _ _ q => e2_go q⟩
/-- a comparison's answer as data -/
def blD (o : Out Bool) : Out D := o.bind fun b => .ok (.bl b)
def e2B (h : D → D → Out Bool) (f g : PEnv → Out D) : PEnv → Out Bool := fun ρ => (f ρ).bind fun x => (g ρ).bind fun y => h x y
def eB (c : PEnv → Out Bool) : PEnv → Out D := fun ρ => blD (c ρ)
theorem eB_e2 {h : D → D → Out Bool} : eB (e2B h f g) = e2 (fun x y => blD (h x y)) f g := by
  funext ρ
  unfold eB e2B e2 blD
  cases f ρ with
  | ok a => cases g ρ with
    | ok b => rfl
    | exc _ => rfl
    | fail => rfl
  | exc _ => rfl
  | fail => rfl
abbrev CmpV (X : Cx) (op : CmpOp) (h : D → D → Out Bool) : Prop := OpV X (compareOp op) fun x y => blD (h x y)
theorem ve_cmp {op : CmpOp} {h : D → D → Out Bool} (ho : CmpV X op h) (ha : VE X E a f) (hb : VE X E b g) (hm : behindInMarks op b = false) : VE X E (.Compare a [op] [b] pos) (eB (e2B h f g)) :=
  ⟨pe_weak (pe_at fun E' => pe_cmpR (ho E') ha.pe hb.pe hm) fun _ _ _ q => by rw [eB_e2] at q; exact e2_go q⟩
theorem At.blD {E : XK} {c : KW} {mg : Str → Option Value} {F H : Hp} {o : Out Bool} {Q : Bool → Hp → Prop} (h : At c mg E RepB F H o Q) : At c mg E (Rep c) F H (blD o) fun x H' => ∃ k, x = .bl k ∧ Q k H' := by
  cases o with
  | ok b =>
    intro v F' H' g r
    cases r
    exact ⟨b, rfl, h b F' H' g rfl⟩
  | exc x => exact h
  | fail => exact h
theorem vt_cmp {op : CmpOp} {h : D → D → Out Bool} (ho : CmpV X op h) (ha : VE X E a f) (hb : VE X E b g) (hm : behindInMarks op b = false) : VT X E (.Compare a [op] [b] pos) (e2B h f g) :=
  ⟨pt_weak (pt_at fun E' => pt_cmpR (ho E') ha.pe hb.pe hm) fun σ H Q ⟨ρ, F, s, sl, q⟩ => by
    show tOp _ _ _ _ _ _
    refine e2_go ⟨ρ, F, s, sl, ?_⟩
    have e : e2 (fun x y => TP.blD (h x y)) f g ρ = TP.blD (e2B h f g ρ) := congrFun eB_e2.symm ρ
    rw [e]
    exact At.blD q⟩
end
end TP

end
set_option Elab.async false
set_option linter.all false
set_option maxRecDepth 100000
/-! The values layer: tests, displays, calls, subscripts. -/
noncomputable section
namespace TP
open PySem PySem.Spec L2
section
variable {X : Cx} {E : WX} {a b e : Expr} {es : List Expr} {f g : PEnv → Out D} {c d : PEnv → Out Bool} {fs : PEnv → Out (List D)} {pos : Pos}

/-! ### truth -/
def truthB : D → Out Bool
  | .non => .ok false
  | .bl b => .ok b
  | .int i => .ok (i != 0)
  | .str x => .ok ((x.length : Int) != 0)
  | .tup l => .ok (!l.isEmpty)
  | .lst l => .ok (!l.isEmpty)
  | .scr l => .ok (!l.isEmpty)
  | _ => .fail
theorem Reps.isEmpty {c : KW} {F : Hp} {xs : List V} {ds : List D} (r : Reps c F xs ds) : xs.isEmpty = ds.isEmpty := by
  cases r <;> rfl
/-- what the library asks of a value's truth -/
theorem truth_of {E : XK} {c : KW} {mg : Str → Option Value} {α β : Type} {R : Hp → β → α → Prop} {F H : Hp} {v : V} {x : D} {k : Bool → Out α} {Q : β → Hp → Prop} {Q' : Bool → Hp → Prop} (s : Same F H) (r : Rep c F v x)
    (h : At c mg E R F H ((truthB x).bind k) Q) (w : ∀ b, At c mg E R F H (k b) Q → Q' b H) : ∃ b, TruV c.K v H b ∧ Q' b H := by
  cases r with
  | non => exact ⟨false, rfl, w _ h⟩
  | bl b => exact ⟨b, rfl, w _ h⟩
  | int i => exact ⟨_, rfl, w _ h⟩
  | str y hy => exact ⟨_, ⟨hy.2, rfl⟩, w _ h⟩
  | tup q rs => exact ⟨_, .inr (.inl ⟨_, same_sqT s q, by rw [rs.isEmpty]⟩), w _ h⟩
  | lst q rs => exact ⟨_, .inl ⟨_, .inl (.inl (s _ _ q)), by rw [rs.isEmpty]⟩, w _ h⟩
  | scr q => exact ⟨_, .inl ⟨_, s.seq q, by cases ‹List Int› <;> rfl⟩, w _ h⟩
  | _ => exact h.elim
def eT (f : PEnv → Out D) : PEnv → Out Bool := fun ρ => (f ρ).bind truthB
theorem At.bindR {E : XK} {α : Type} {c : KW} {mg : Str → Option Value} {F H : Hp} {o : Out Bool} {Q : Bool → Hp → Prop} (h : At c mg E RepB F H o Q) : At c mg E RepB F H (o.bind fun b => .ok b) Q := by
  cases o with
  | ok b => exact h
  | exc x => exact h
  | fail => exact h
theorem bind_ok {α : Type} (o : Out α) : (o.bind fun b => .ok b) = o := by cases o <;> rfl
theorem vt_truth (ha : VE X E a f) (he : ∀ whole, isTrue a X.env whole = (do let v ← whole; standAt a.pos; holding [v] (truthy v)) := by intro _; rfl) : VT X E a (eT f) :=
  ⟨pt_weak (pt_truth ha.pe he) fun σ H Q ⟨ρ, F, s, sl, q⟩ => tv_bind s sl q fun v F1 H1 x s1 e1 sl1 r1 q1 => by
    rw [← bind_ok (truthB x)] at q1
    exact truth_of s1 r1 q1 fun b qb => At.const s1 qb rfl⟩
/-! ### not, and, or, if else -/
def cNot (c : PEnv → Out Bool) : PEnv → Out Bool := fun ρ => (c ρ).bind fun b => .ok (!b)
theorem vt_not (h : VT X E a c) : VT X E (.UnaryOp .Not a pos) (cNot c) :=
  ⟨pt_weak (pt_not h.pt) fun σ H Q ⟨ρ, F, s, sl, q⟩ => tb_bind s sl q fun b F1 H1 s1 e1 sl1 q1 => At.const s1 q1 rfl⟩
theorem ve_not (h : VT X E a c) (he : PE X (.UnaryOp .Not a pos) (fun σ H Q => tb X E c σ H fun b H1 => Q (.bl (!b)) H1)) : VE X E (.UnaryOp .Not a pos) (eB (cNot c)) :=
  ⟨pe_weak he fun σ H Q ⟨ρ, F, s, sl, q⟩ => by
    have q' : At (cw X) X.mg (xsE E σ) (Rep (cw X)) F H ((c ρ).bind fun b => .ok (.bl (!b))) Q := by
      unfold eB cNot blD at q
      cases hc : c ρ with
      | ok b => rw [hc] at q; exact q
      | exc x => rw [hc] at q; exact q
      | fail => rw [hc] at q; exact q
    exact tb_bind s sl q' fun b F1 H1 s1 e1 sl1 q1 => At.const s1 q1 (.bl _)⟩
def eNot (f : PEnv → Out D) : PEnv → Out D := fun ρ => (f ρ).bind fun x => (truthB x).bind fun b => .ok (.bl (!b))
theorem ve_notT (h : VE X E a f) : VE X E (.UnaryOp .Not a pos) (eNot f) :=
  ⟨pe_weak (pe_notT h.pe) fun σ H Q ⟨ρ, F, s, sl, q⟩ => tv_bind s sl q fun v F1 H1 x s1 e1 sl1 r1 q1 => truth_of s1 r1 q1 fun b qb => At.const s1 qb (.bl _)⟩
structure VW (X : Cx) (E : WX) (e : Expr) (f : PEnv → Out Bool) : Prop where
  pw : PW X e (tb X E f)
theorem VW.vt (h : VW X E e c) : VT X E e c := ⟨h.pw.pt⟩
theorem pw_weak {t t' : TT} (h : PW X e t) (w : ∀ σ H Q, t' σ H Q → t σ H Q) : PW X e t' := ⟨fun wh pins s σ H Q I q => h.run wh pins s σ H Q I (w σ H Q q)⟩
def cAnd (c d : PEnv → Out Bool) : PEnv → Out Bool := fun ρ => (c ρ).bind fun b => if b = true then d ρ else .ok false
def cOr (c d : PEnv → Out Bool) : PEnv → Out Bool := fun ρ => (c ρ).bind fun b => if b = true then .ok true else d ρ
variable {rest : List Expr}
theorem vw_and1 (h : VT X E a c) : VW X E (.BoolOp .And [a] pos) c := ⟨pw_and1 h.pt⟩
theorem vw_or1 (h : VT X E a c) : VW X E (.BoolOp .Or [a] pos) c := ⟨pw_or1 h.pt⟩
theorem vw_and (h : VT X E a c) (h' : VW X E (.BoolOp .And (b :: rest) pos) d) : VW X E (.BoolOp .And (a :: b :: rest) pos) (cAnd c d) :=
  ⟨pw_weak (pw_and h.pt h'.pw) fun σ H Q ⟨ρ, F, s, sl, q⟩ => tb_bind s sl q fun k F1 H1 s1 e1 sl1 q1 => by
    cases k with
    | true => exact ⟨ρ, F1, s1, sl1, q1⟩
    | false => exact At.const s1 q1 rfl⟩
theorem vw_or (h : VT X E a c) (h' : VW X E (.BoolOp .Or (b :: rest) pos) d) : VW X E (.BoolOp .Or (a :: b :: rest) pos) (cOr c d) :=
  ⟨pw_weak (pw_or h.pt h'.pw) fun σ H Q ⟨ρ, F, s, sl, q⟩ => tb_bind s sl q fun k F1 H1 s1 e1 sl1 q1 => by
    cases k with
    | true => exact At.const s1 q1 rfl
    | false => exact ⟨ρ, F1, s1, sl1, q1⟩⟩
/-- x and y, x or y as values, by truth -/
def eAnd (f g : PEnv → Out D) : PEnv → Out D := fun ρ => (f ρ).bind fun x => (truthB x).bind fun b => if b = true then g ρ else .ok x
def eOr (f g : PEnv → Out D) : PEnv → Out D := fun ρ => (f ρ).bind fun x => (truthB x).bind fun b => if b = true then .ok x else g ρ
theorem ve_one {op} (h : VE X E a f) : VE X E (.BoolOp op [a] pos) f := ⟨pe_one h.pe⟩
theorem ve_and (h : VE X E a f) (h' : VE X E (.BoolOp .And (b :: rest) pos) g) : VE X E (.BoolOp .And (a :: b :: rest) pos) (eAnd f g) :=
  ⟨pe_weak (pe_andT h.pe h'.pe) fun σ H Q ⟨ρ, F, s, sl, q⟩ => tv_bind s sl q fun v F1 H1 x s1 e1 sl1 r1 q1 => truth_of (Q' := fun k H => if k = true then tv X E g σ H Q else Q v H) s1 r1 q1 fun k qb => by
    cases k with
    | true => exact ⟨ρ, F1, s1, sl1, qb⟩
    | false => exact At.const s1 qb r1⟩
theorem ve_or (h : VE X E a f) (h' : VE X E (.BoolOp .Or (b :: rest) pos) g) : VE X E (.BoolOp .Or (a :: b :: rest) pos) (eOr f g) :=
  ⟨pe_weak (pe_orT h.pe h'.pe) fun σ H Q ⟨ρ, F, s, sl, q⟩ => tv_bind s sl q fun v F1 H1 x s1 e1 sl1 r1 q1 => truth_of (Q' := fun k H => if k = true then Q v H else tv X E g σ H Q) s1 r1 q1 fun k qb => by
    cases k with
    | true => exact At.const s1 qb r1
    | false => exact ⟨ρ, F1, s1, sl1, qb⟩⟩
def eIf (c : PEnv → Out Bool) (f g : PEnv → Out D) : PEnv → Out D := fun ρ => (c ρ).bind fun b => if b = true then f ρ else g ρ
theorem ve_if {t : Expr} (hc : VT X E t c) (ha : VE X E a f) (hb : VE X E b g) : VE X E (.IfExp t a b pos) (eIf c f g) :=
  ⟨pe_weak (pe_ifExp hc.pt ha.pe hb.pe) fun σ H Q ⟨ρ, F, s, sl, q⟩ => tb_bind s sl q fun k F1 H1 s1 e1 sl1 q1 => by
    cases k with
    | true => exact ⟨ρ, F1, s1, sl1, q1⟩
    | false => exact ⟨ρ, F1, s1, sl1, q1⟩⟩
/-- a op b op' c, b asked once -/
def cChain (h h' : D → D → Out Bool) (f g k : PEnv → Out D) : PEnv → Out Bool := fun ρ => (f ρ).bind fun x => (g ρ).bind fun y => (h x y).bind fun b => if b = true then (k ρ).bind fun z => h' y z else .ok false

/-! ### argument lists, displays -/
def aNil : PEnv → Out (List D) := fun _ => .ok []
def aCons (f : PEnv → Out D) (fs : PEnv → Out (List D)) : PEnv → Out (List D) := fun ρ => (f ρ).bind fun x => (fs ρ).bind fun xs => .ok (x :: xs)
theorem va_nil : VA X E [] aNil := ⟨pa_weak pa_nil fun σ H Q ⟨ρ, F, s, sl, q⟩ => At.const s q .nil⟩
theorem va_cons (h : VE X E e f) (h' : VA X E es fs) (hs : starEach (e :: es) X.env = (false, eval e X.env) :: starEach es X.env := by rfl) : VA X E (e :: es) (aCons f fs) :=
  ⟨pa_weak (pa_cons h.pe h'.pa hs) fun σ H Q ⟨ρ, F, s, sl, q⟩ => tv_bind s sl q fun v F1 H1 x s1 e1 sl1 r1 q1 => tvs_bind s1 sl1 q1 fun us F2 H2 xs s2 e2 sl2 r2 q2 => At.const s2 q2 (.cons (r1.mono e2) r2)⟩
/-- a size that the model carries -/
noncomputable def fitsO : {f : Nat → Bool // ∀ n, f n = decide (n ≤ 16777216)} := Classical.choice ⟨⟨fun n => decide (n ≤ 16777216), fun _ => rfl⟩⟩
def fits (n : Nat) : Bool := fitsO.1 n
theorem fits_eq (n : Nat) : fits n = decide (n ≤ 16777216) := fitsO.2 n
theorem fits_of {n : Nat} (h : n ≤ 16777216) : fits n = true := by rw [fits_eq]; exact decide_eq_true h
theorem fits_line {n : Nat} (h : fits n = true) : n ≤ sizeLine := by rw [sizeLine_eq]; rw [fits_eq] at h; exact of_decide_eq_true h
def mkTup (ds : List D) : Out D := if fits ds.length = true then .ok (.tup ds) else .fail
def mkLst (ds : List D) : Out D := if fits ds.length = true then .ok (.lst ds) else .fail
/-- a new tuple -/
theorem At.newTup {E : XK} {c : KW} {mg : Str → Option Value} {F H : Hp} {xs : List V} {ds : List D} {Q : VK} (s : Same F H) (r : Reps c F xs ds) (h : At c mg E (Rep c) F H (mkTup ds) Q) :
    xs.length ≤ sizeLine ∧ ∀ p, H p = none → Q (.ref p) (upd H p (.tup xs)) := by
  unfold mkTup at h
  by_cases hf : fits ds.length = true
  · rw [if_pos hf] at h
    refine ⟨by rw [r.length]; exact fits_line hf, fun p hp => ?_⟩
    have g := Grow.laid (o := .tup xs) s hp
    exact h _ _ _ g (.tup (SqT.of upd_same) (r.mono g.sub))
  · rw [if_neg hf] at h
    exact h.elim
theorem At.newLst {E : XK} {c : KW} {mg : Str → Option Value} {F H : Hp} {xs : List V} {ds : List D} {Q : VK} (s : Same F H) (r : Reps c F xs ds) (h : At c mg E (Rep c) F H (mkLst ds) Q) :
    xs.length ≤ sizeLine ∧ ∀ p, H p = none → Q (.ref p) (upd H p (.lst xs)) := by
  unfold mkLst at h
  by_cases hf : fits ds.length = true
  · rw [if_pos hf] at h
    refine ⟨by rw [r.length]; exact fits_line hf, fun p hp => ?_⟩
    have g := Grow.laid (o := .lst xs) s hp
    exact h _ _ _ g (.lst upd_same (r.mono g.sub))
  · rw [if_neg hf] at h
    exact h.elim
def eCall (g : List D → Out D) (fs : PEnv → Out (List D)) : PEnv → Out D := fun ρ => (fs ρ).bind g
theorem ve_tup {x1} (h : VA X E es fs) : VE X E (.Tuple es x1 pos) (eCall mkTup fs) :=
  ⟨pe_weak (pe_tup h.pa) fun σ H Q ⟨ρ, F, s, sl, q⟩ => tvs_bind s sl q fun us F1 H1 xs s1 e1 sl1 r1 q1 => At.newTup s1 r1 q1⟩
theorem ve_lst (h : VA X E es fs) : VE X E (.List es pos) (eCall mkLst fs) :=
  ⟨pe_weak (pe_lst h.pa) fun σ H Q ⟨ρ, F, s, sl, q⟩ => tvs_bind s sl q fun us F1 H1 xs s1 e1 sl1 r1 q1 => At.newLst s1 r1 q1⟩

/-! ### calls of built-ins by values -/
def CallV (X : Cx) (f : Value) (g : List D → Out D) : Prop :=
  ∀ E : XK, CallR X f fun xs H Q => ∃ F ds, Same F H ∧ Reps (cw X) F xs ds ∧ At (cw X) X.mg E (Rep (cw X)) F H (g ds) Q
theorem CallV.of {f : Value} {r : List V → Hp → VK → Prop} {g : List D → Out D} (h : CallR X f r)
    (w : ∀ (E : XK) F H xs ds (Q : VK), Same F H → Reps (cw X) F xs ds → At (cw X) X.mg E (Rep (cw X)) F H (g ds) Q → r xs H Q) : CallV X f g :=
  fun E pins s σ H xs us Q I rx ⟨F, ds, sm, ra, q⟩ => h pins s σ H xs us Q I rx (w E F H xs ds Q sm ra q)
theorem tvs_call {r : List D → Out D} {σ : L2.St} {H : Hp} {Q : VK} (q : tv X E (eCall r fs) σ H Q) :
    tvs X E fs σ H fun xs H1 => ∃ F ds, Same F H1 ∧ Reps (cw X) F xs ds ∧ At (cw X) X.mg (xsE E σ) (Rep (cw X)) F H1 (r ds) Q := by
  obtain ⟨ρ, F, s, sl, q⟩ := q
  exact tvs_bind s sl q fun us F1 H1 xs s1 e1 sl1 r1 q1 => ⟨F1, xs, s1, r1, q1⟩
theorem ve_callB {id : String} {x : Str} {p : Pos} {r : List D → Out D} (hc : CallV X (.builtin id) r) (hg : Gl X x) (hm : X.mg x = none) (hv : bootBuiltins x = some (.builtin id)) (ha : VA X E (e :: es) fs) (hn : x ≠ "__name__" := by decide) (hdb : (x == ("__debug__" : Str)) = false := by decide)
    (he : starEach (e :: es) X.env = (false, eval e X.env) :: starEach es X.env := by rfl) (hpl : (backTo pos (starEach es X.env)).any (·.1) = false := by rfl) : VE X E (.Call (.Name x p) (e :: es) [] pos) (eCall r fs) :=
  ⟨pe_weak (pe_at fun E' => pe_callB (hc E') hg hm hv ha.pa hn hdb he hpl) fun σ H Q q => tvs_call q⟩
theorem ve_callTy {T : String} {x : Str} {p : Pos} {r : List D → Out D} (hc : CallV X (.type T) r) (hg : Gl X x) (hm : X.mg x = none) (hv : bootBuiltins x = some (.type T)) (ha : VA X E (e :: es) fs) (hn : x ≠ "__name__" := by decide) (hdb : (x == ("__debug__" : Str)) = false := by decide)
    (he : starEach (e :: es) X.env = (false, eval e X.env) :: starEach es X.env := by rfl) (hpl : (backTo pos (starEach es X.env)).any (·.1) = false := by rfl) : VE X E (.Call (.Name x p) (e :: es) [] pos) (eCall r fs) :=
  ⟨pe_weak (pe_at fun E' => pe_callTy (hc E') hg hm hv ha.pa hn hdb he hpl) fun σ H Q q => tvs_call q⟩
end
end TP

end
set_option Elab.async false
set_option linter.all false
set_option maxRecDepth 100000
/-! The values layer: operators on data. -/
noncomputable section
namespace TP
open PySem PySem.Spec L2

/-! ### heights; data as the library's -/
mutual
def D.ht : D → Nat
  | .non | .bl _ | .int _ | .str _ => 0
  | .tup l | .lst l => D.hts l + 1
  | .scr _ | .dct _ | .set _ => 1000
def D.hts : List D → Nat
  | [] => 0
  | d :: r => max (D.ht d) (D.hts r)
end
mutual
def D.toP : D → PyData
  | .non | .scr _ | .dct _ | .set _ => .none
  | .bl b => .bool b
  | .int i => .int i
  | .str x => .str x
  | .tup l => .tuple (D.toPs l)
  | .lst l => .list (D.toPs l)
def D.toPs : List D → List PyData
  | [] => []
  | d :: r => D.toP d :: D.toPs r
end
/-- == -/
def D.eqv (a b : D) : Bool := PyData.eqv a.toP b.toP
mutual
theorem Rep.dp {c : KW} {H : Hp} : ∀ (d : D) (v : V), Rep c H v d → d.ht ≤ 60 → Dp c.K H v d.toP ∧ d.toP.canLay0 = true ∧ d.toP.depth ≤ d.ht
  | .non, _, h, _ => by cases h; exact ⟨.non, rfl, Nat.le_refl _⟩
  | .bl b, _, h, _ => by cases h; exact ⟨.bl b, rfl, Nat.le_refl _⟩
  | .int i, _, h, _ => by cases h; exact ⟨.int i, rfl, Nat.le_refl _⟩
  | .str x, _, h, _ => by
    cases h with
    | str _ o => exact ⟨.str x, by unfold D.toP PyData.canLay0; exact o.1, Nat.le_refl _⟩
  | .tup l, _, h, hz => by
    cases h with
    | tup q r =>
      have hz' : D.hts l ≤ 60 := by unfold D.ht at hz; omega
      obtain ⟨h1, h2, h3⟩ := Reps.dp l _ r hz'
      exact ⟨.tup q h1, by unfold D.toP PyData.canLay0; exact h2, by unfold D.toP PyData.depth D.ht; omega⟩
  | .lst l, _, h, hz => by
    cases h with
    | lst q r =>
      have hz' : D.hts l ≤ 60 := by unfold D.ht at hz; omega
      obtain ⟨h1, h2, h3⟩ := Reps.dp l _ r hz'
      exact ⟨.lst (SqL.of q) h1, by unfold D.toP PyData.canLay0; exact h2, by unfold D.toP PyData.depth D.ht; omega⟩
  | .scr _, _, _, hz => by unfold D.ht at hz; omega
  | .dct _, _, _, hz => by unfold D.ht at hz; omega
  | .set _, _, _, hz => by unfold D.ht at hz; omega
theorem Reps.dp {c : KW} {H : Hp} : ∀ (ds : List D) (vs : List V), Reps c H vs ds → D.hts ds ≤ 60 → DpAll c.K H vs (D.toPs ds) ∧ PyData.canLayAll0 (D.toPs ds) = true ∧ PyData.depthAll (D.toPs ds) ≤ D.hts ds
  | [], _, h, _ => by cases h; exact ⟨.nil, rfl, Nat.le_refl _⟩
  | d :: r, _, h, hz => by
    cases h with
    | cons a t =>
      unfold D.hts at hz
      obtain ⟨h1, h2, h3⟩ := Rep.dp d _ a (by omega)
      obtain ⟨k1, k2, k3⟩ := Reps.dp r _ t (by omega)
      refine ⟨.cons h1 k1, ?_, ?_⟩
      · unfold D.toPs PyData.canLayAll0; rw [h2, k2]; rfl
      · unfold D.toPs PyData.depthAll D.hts; omega
end
theorem shaped_dp {d : D} (h : d.toP.canLay0 = true) (z : d.toP.depth ≤ d.ht) (hz : d.ht ≤ 60) : SeqAt.shaped d.toP = true := by
  unfold SeqAt.shaped
  rw [h, Bool.true_and]
  exact decide_eq_true (by omega)
theorem toPs_map (l : List D) : D.toPs l = l.map D.toP := by
  induction l with
  | nil => rfl
  | cons d r ih => rw [D.toPs, ih]; rfl

/-- the data that == is for -/
def flat2 (a b : D) : Bool := decide (a.ht ≤ 60) && decide (b.ht ≤ 60)
theorem flat2_l {a b : D} (h : flat2 a b = true) : a.ht ≤ 60 := of_decide_eq_true (Bool.and_eq_true_iff.mp h).1
theorem flat2_r {a b : D} (h : flat2 a b = true) : b.ht ≤ 60 := of_decide_eq_true (Bool.and_eq_true_iff.mp h).2
def eqD (a b : D) : Out Bool := if flat2 a b = true then .ok (D.eqv a b) else .fail
def neD (a b : D) : Out Bool := if flat2 a b = true then .ok (!D.eqv a b) else .fail
def str1 (x : Str) : Option Nat := match x.cps.toList with
  | [c] => some c
  | _ => none
def inStr (x y : Str) : Bool := match str1 x with
  | some c => decide (c ∈ y.cps.toList)
  | none => !(Builtin.Str.occurrences y x 0 y.length 1).isEmpty
def inD : D → D → Out Bool
  | x, .lst ds => if flat2 x (.lst ds) = true then .ok (ds.any fun z => D.eqv z x) else .fail
  | x, .tup ds => if flat2 x (.tup ds) = true then .ok (ds.any fun z => D.eqv z x) else .fail
  | .str x, .str y => .ok (inStr x y)
  | _, _ => .fail
def isNonB : D → Bool
  | .non => true
  | _ => false
def isD (a b : D) : Out Bool := if isNonB b = true then .ok (isNonB a) else .fail
def isNotD (a b : D) : Out Bool := if isNonB b = true then .ok (!isNonB a) else .fail

section
variable {X : Cx}
theorem At.blOk {E : XK} {c : KW} {mg : Str → Option Value} {F H : Hp} {k : Bool} {Q : VK} (s : Same F H) (h : At c mg E (Rep c) F H (TP.blD (Out.ok k)) Q) : Q (V.bl k) H := At.const s h (Rep.bl k)
theorem cmp_eq (hu : X.A.units + 64 < cLine) : CmpV X .Eq eqD := OpV.of (op_eqD hu) fun E F H x y a b Q s ra rb q => by
  unfold eqD at q
  by_cases hf : flat2 a b = true
  · rw [if_pos hf] at q
    obtain ⟨h1, h2, h3⟩ := Rep.dp a x (ra.mono s) (flat2_l hf)
    obtain ⟨k1, k2, k3⟩ := Rep.dp b y (rb.mono s) (flat2_r hf)
    exact ⟨_, _, h1, k1, shaped_dp h2 h3 (flat2_l hf), shaped_dp k2 k3 (flat2_r hf), At.blOk s q⟩
  · rw [if_neg hf] at q; exact q.elim
theorem cmp_ne (hu : X.A.units + 64 < cLine) : CmpV X .NotEq neD := OpV.of (op_neD hu) fun E F H x y a b Q s ra rb q => by
  unfold neD at q
  by_cases hf : flat2 a b = true
  · rw [if_pos hf] at q
    obtain ⟨h1, h2, h3⟩ := Rep.dp a x (ra.mono s) (flat2_l hf)
    obtain ⟨k1, k2, k3⟩ := Rep.dp b y (rb.mono s) (flat2_r hf)
    exact ⟨_, _, h1, k1, shaped_dp h2 h3 (flat2_l hf), shaped_dp k2 k3 (flat2_r hf), At.blOk s q⟩
  · rw [if_neg hf] at q; exact q.elim
theorem isNon_of {c : KW} {F : Hp} {v : V} {d : D} (r : Rep c F v d) : decide (v = .non) = isNonB d := by
  cases r <;> rfl
theorem cmp_is : CmpV X .Is isD := OpV.of op_isN fun E F H x y a b Q s ra rb q => by
  unfold isD at q
  by_cases hb : isNonB b = true
  · rw [if_pos hb, ← isNon_of ra] at q
    refine ⟨?_, At.blOk s q⟩
    cases rb <;> first | rfl | (exact absurd hb Bool.noConfusion)
  · rw [if_neg hb] at q; exact q.elim
theorem cmp_isNot : CmpV X .IsNot isNotD := OpV.of op_notN fun E F H x y a b Q s ra rb q => by
  unfold isNotD at q
  by_cases hb : isNonB b = true
  · rw [if_pos hb, ← isNon_of ra] at q
    refine ⟨?_, At.blOk s q⟩
    cases rb <;> first | rfl | (exact absurd hb Bool.noConfusion)
  · rw [if_neg hb] at q; exact q.elim

/-! ### in -/
def rInT (K : PySem.W.Frag) (k : Bool) : R2 := fun x y H Q => ∃ d ds, Dp K H x d ∧ Dp K H y (.tuple ds) ∧ SeqAt.shaped d = true ∧ SeqAt.shaped (.tuple ds) = true ∧ Q (.bl (k ^^ ds.any fun z => PyData.eqv z d)) H
theorem room_inT {A : Around} {ds : List PyData} {d : PyData} (h : SeqAt.shaped d = true) (hu : A.units + 65 < cLine) : A.units + 1 + min (PyData.depthAll ds) d.depth < cLine := by
  have := SeqAt.depth_of_shaped h
  omega
theorem op_inT (hu : X.A.units + 65 < cLine) : OpR X (compareOp .In) (rInT X.K false) := by
  rintro pins s σ H x y v u Q I rx ry ⟨d, ds, hd, he, sd, se, q⟩
  obtain ⟨as, r1⟩ := Dp.reads I d x v hd rx
  obtain ⟨bs, r2⟩ := Dp.reads I (.tuple ds) y u he ry
  exact SeqAt.in_tuple_reads r2 r1 (SeqAt.canLay_of_shaped se) (SeqAt.canLay_of_shaped sd) (room_inT sd hu) ⟨.bl _, H, I, rfl, by rw [Bool.false_xor] at q; exact q⟩
theorem op_notInT (hu : X.A.units + 65 < cLine) : OpR X (compareOp .NotIn) (rInT X.K true) := by
  rintro pins s σ H x y v u Q I rx ry ⟨d, ds, hd, he, sd, se, q⟩
  obtain ⟨as, r1⟩ := Dp.reads I d x v hd rx
  obtain ⟨bs, r2⟩ := Dp.reads I (.tuple ds) y u he ry
  exact SeqAt.notIn_tuple_reads r2 r1 (SeqAt.canLay_of_shaped se) (SeqAt.canLay_of_shaped sd) (room_inT sd hu) ⟨.bl _, H, I, rfl, by rw [Bool.true_xor] at q; exact q⟩
theorem any_toP (ds : List D) (x : D) : ((D.toPs ds).any fun z => PyData.eqv z x.toP) = ds.any fun z => D.eqv z x := by
  rw [toPs_map, List.any_map]
  rfl
theorem str1_eq {x : Str} {c : Nat} (h : str1 x = some c) : x = ⟨#[c]⟩ := by
  unfold str1 at h
  obtain ⟨⟨l⟩⟩ := x
  dsimp only at h
  cases l with
  | nil => cases h
  | cons a t => cases t with
    | nil => cases h; rfl
    | cons _ _ => cases h
theorem cmp_in (hu : X.A.units + 65 < cLine) : CmpV X .In inD :=
  OpV.of (OpR.or (op_inD hu) (OpR.or (op_inT hu) (OpR.or op_in_sign op_in_str))) fun E F H x y a b Q s ra rb q => by
    have lt : ∀ ds, flat2 a (.lst ds) = true → D.hts ds ≤ 60 := fun ds h => by have := flat2_r h; unfold D.ht at this; omega
    cases rb with
    | lst qb rb' =>
      rename_i ds
      have q' : At (cw X) X.mg E (Rep (cw X)) F H (blD (if flat2 a (.lst ds) = true then .ok (ds.any fun z => D.eqv z a) else .fail)) Q := by
        cases a <;> exact q
      by_cases hf : flat2 a (.lst ds) = true
      · rw [if_pos hf] at q'
        obtain ⟨h1, h2, h3⟩ := Rep.dp a x (ra.mono s) (flat2_l hf)
        obtain ⟨k1, k2, k3⟩ := Rep.dp (.lst ds) _ (Rep.mono s (.lst qb rb')) (flat2_r hf)
        exact .inl ⟨_, D.toPs ds, h1, k1, shaped_dp h2 h3 (flat2_l hf), shaped_dp k2 k3 (flat2_r hf), by rw [any_toP]; exact At.blOk s q'⟩
      · rw [if_neg hf] at q'; exact q'.elim
    | tup qb rb' =>
      rename_i ds
      have q' : At (cw X) X.mg E (Rep (cw X)) F H (blD (if flat2 a (.tup ds) = true then .ok (ds.any fun z => D.eqv z a) else .fail)) Q := by
        cases a <;> exact q
      by_cases hf : flat2 a (.tup ds) = true
      · rw [if_pos hf] at q'
        obtain ⟨h1, h2, h3⟩ := Rep.dp a x (ra.mono s) (flat2_l hf)
        obtain ⟨k1, k2, k3⟩ := Rep.dp (.tup ds) _ (Rep.mono s (.tup qb rb')) (flat2_r hf)
        exact .inr (.inl ⟨_, D.toPs ds, h1, k1, shaped_dp h2 h3 (flat2_l hf), shaped_dp k2 k3 (flat2_r hf), by rw [any_toP, Bool.false_xor]; exact At.blOk s q'⟩)
      · rw [if_neg hf] at q'; exact q'.elim
    | str z hz =>
      cases ra with
      | str w hw =>
        have q' : At (cw X) X.mg E (Rep (cw X)) F H (blD (.ok (inStr w z))) Q := q
        unfold inStr at q'
        cases e : str1 w with
        | some c =>
          rw [e] at q'
          exact .inr (.inr (.inl ⟨c, z, by rw [str1_eq e], rfl, At.blOk s q'⟩))
        | none =>
          rw [e] at q'
          exact .inr (.inr (.inr ⟨w, z, rfl, rfl, At.blOk s q'⟩))
      | _ => exact q.elim
    | _ => cases a <;> exact q.elim
def notD (o : Out Bool) : Out Bool := o.bind fun b => .ok (!b)
theorem cmp_notIn (hu : X.A.units + 65 < cLine) : CmpV X .NotIn fun x y => notD (inD x y) :=
  OpV.of (OpR.or (op_notInD hu) (OpR.or (op_notInT hu) (OpR.or op_notIn_sign op_notIn_str))) fun E F H x y a b Q s ra rb q => by
    cases rb with
    | lst qb rb' =>
      rename_i ds
      have q' : At (cw X) X.mg E (Rep (cw X)) F H (blD (notD (if flat2 a (.lst ds) = true then .ok (ds.any fun z => D.eqv z a) else .fail))) Q := by
        cases a <;> exact q
      by_cases hf : flat2 a (.lst ds) = true
      · rw [if_pos hf] at q'
        obtain ⟨h1, h2, h3⟩ := Rep.dp a x (ra.mono s) (flat2_l hf)
        obtain ⟨k1, k2, k3⟩ := Rep.dp (.lst ds) _ (Rep.mono s (.lst qb rb')) (flat2_r hf)
        exact .inl ⟨_, D.toPs ds, h1, k1, shaped_dp h2 h3 (flat2_l hf), shaped_dp k2 k3 (flat2_r hf), by rw [any_toP]; exact At.blOk s q'⟩
      · rw [if_neg hf] at q'; exact q'.elim
    | tup qb rb' =>
      rename_i ds
      have q' : At (cw X) X.mg E (Rep (cw X)) F H (blD (notD (if flat2 a (.tup ds) = true then .ok (ds.any fun z => D.eqv z a) else .fail))) Q := by
        cases a <;> exact q
      by_cases hf : flat2 a (.tup ds) = true
      · rw [if_pos hf] at q'
        obtain ⟨h1, h2, h3⟩ := Rep.dp a x (ra.mono s) (flat2_l hf)
        obtain ⟨k1, k2, k3⟩ := Rep.dp (.tup ds) _ (Rep.mono s (.tup qb rb')) (flat2_r hf)
        exact .inr (.inl ⟨_, D.toPs ds, h1, k1, shaped_dp h2 h3 (flat2_l hf), shaped_dp k2 k3 (flat2_r hf), by rw [any_toP, Bool.true_xor]; exact At.blOk s q'⟩)
      · rw [if_neg hf] at q'; exact q'.elim
    | str z hz =>
      cases ra with
      | str w hw =>
        have q' : At (cw X) X.mg E (Rep (cw X)) F H (blD (.ok (!inStr w z))) Q := q
        unfold inStr at q'
        cases e : str1 w with
        | some c =>
          rw [e] at q'
          exact .inr (.inr (.inl ⟨c, z, by rw [str1_eq e], rfl, At.blOk s q'⟩))
        | none =>
          rw [e] at q'
          exact .inr (.inr (.inr ⟨w, z, rfl, rfl, At.blOk s q'⟩))
      | _ => exact q.elim
    | _ => cases a <;> exact q.elim
end
end TP

end
set_option Elab.async false
set_option linter.all false
set_option maxRecDepth 100000
/-! The values layer: arithmetic, subscripts, slices, sizes. -/
noncomputable section
namespace TP
open PySem PySem.Spec L2
section
variable {X : Cx} {E : WX} {a b e : Expr} {f g h : PEnv → Out D} {pos : Pos}

theorem At.k {E : XK} {c : KW} {mg : Str → Option Value} {F H : Hp} {v : V} {d : D} {Q : VK} (s : Same F H) (h : At c mg E (Rep c) F H (Out.ok d) Q) (r : Rep c F v d) : Q v H := At.const s h r
theorem strR_append {x y : Str} (hx : StrR x) (hy : StrR y) (hl : x.length + y.length ≤ sizeLine) : StrR (x ++ y) := by
  obtain ⟨hx1, _⟩ := hx
  obtain ⟨hy1, _⟩ := hy
  have e : (x ++ y).cps = x.cps ++ y.cps := rfl
  refine ⟨?_, ?_⟩
  · unfold PyData.strOk at *
    rw [e, Array.all_append, hx1, hy1]; rfl
  · show (x ++ y).cps.size ≤ sizeLine
    rw [e, Array.size_append]
    exact hl
/-! ### + - * // % -/
def addD : D → D → Out D
  | .int i, .int j => .ok (.int (i + j))
  | .str x, .str y => if fits (x.length + y.length) = true then .ok (.str (x ++ y)) else .fail
  | .tup l, .tup m => mkTup (l ++ m)
  | .lst l, .lst m => mkLst (l ++ m)
  | _, _ => .fail
def subD : D → D → Out D
  | .int i, .int j => .ok (.int (i - j))
  | _, _ => .fail
/-- a number below 2 ^ 60000 -/
noncomputable def smallO : {f : Int → Bool // ∀ i, f i = decide (i.natAbs.log2 < 60000)} := Classical.choice ⟨⟨fun i => decide (i.natAbs.log2 < 60000), fun _ => rfl⟩⟩
def small (i : Int) : Bool := smallO.1 i
theorem small_eq (i : Int) : small i = decide (i.natAbs.log2 < 60000) := smallO.2 i
noncomputable def lilO : {f : Int → Bool // ∀ i, f i = decide (-(2 ^ 64) < i ∧ i < 2 ^ 64)} := Classical.choice ⟨⟨fun i => decide (-(2 ^ 64) < i ∧ i < 2 ^ 64), fun _ => rfl⟩⟩
def lil (i : Int) : Bool := lilO.1 i
theorem lil_eq (i : Int) : lil i = decide (-(2 ^ 64) < i ∧ i < 2 ^ 64) := lilO.2 i
def mulD : D → D → Out D
  | .int i, .int j => if small i && small j || (lil i || lil j) then .ok (.int (i * j)) else .fail
  | .lst l, .int k => if decide (0 ≤ k) && decide (k ≤ 1000000) && fits (l.length * k.toNat) then .ok (.lst (List.replicate k.toNat l).flatten) else .fail
  | .tup l, .int k => if decide (k = 1) = true then .ok (.tup l) else if (decide (k = 0) && !l.isEmpty) = true then .ok (.tup []) else if !l.isEmpty && decide (2 ≤ k) && decide (k ≤ 1000) && decide (l.length ≤ 1000) then .ok (.tup (List.replicate k.toNat l).flatten) else .fail
  | _, _ => .fail
def fdivD : D → D → Out D
  | .int i, .int j => if decide (0 < j) && decide (j.natAbs.log2 < 9000) then .ok (.int (i / j)) else .fail
  | _, _ => .fail
def modD : D → D → Out D
  | .int i, .int j => if decide (0 < j) then .ok (.int (i % j)) else .fail
  | _, _ => .fail
def powD : D → D → Out D
  | .int i, .int j => if decide (0 ≤ j) && decide (j ≤ 1000000) && decide (i.natAbs < 2 ^ 64) then .ok (.int (i ^ j.toNat)) else .fail
  | _, _ => .fail
theorem Reps.reps {c : KW} {F : Hp} {xs : List V} {ds : List D} (r : Reps c F xs ds) : ∀ n : Nat, Reps c F (List.replicate n xs).flatten (List.replicate n ds).flatten
  | 0 => .nil
  | n + 1 => by
    rw [List.replicate_succ, List.replicate_succ, List.flatten_cons, List.flatten_cons]
    exact r.append (Reps.reps r n)
/-- an object laid -/
theorem At.lay {E : XK} {c : KW} {mg : Str → Option Value} {F H : Hp} {o : HO} {d : D} {Q : VK} (s : Same F H) (h : At c mg E (Rep c) F H (Out.ok d) Q) (r : ∀ p F', Same F F' → F' p = some o → Rep c F' (.ref p) d) :
    ∀ p, H p = none → Q (.ref p) (upd H p o) := fun p hp => h _ _ _ (Grow.laid s hp) (r p _ (Grow.laid s hp).sub upd_same)
theorem op_addD : OpV X (binaryOp .Add) addD := OpV.of (OpR.or op_add (OpR.or op_add_str (OpR.or op_catA op_cat))) fun E F H x y a b Q s ra rb q => by
  cases ra with
  | int i => cases rb with
    | int j => exact .inl ⟨i, j, rfl, rfl, At.k s q (.int _)⟩
    | _ => exact q.elim
  | str i hi => cases rb with
    | str j hj =>
      have q' : At (cw X) X.mg E (Rep (cw X)) F H (if fits (i.length + j.length) = true then .ok (.str (i ++ j)) else .fail) Q := q
      by_cases hf : fits (i.length + j.length) = true
      · rw [if_pos hf] at q'
        exact .inr (.inl ⟨i, j, rfl, rfl, fits_line hf, At.k s q' (.str _ (strR_append hi hj (fits_line hf)))⟩)
      · rw [if_neg hf] at q'; exact q'.elim
    | _ => exact q.elim
  | tup ha r1 => cases rb with
    | tup hb r2 =>
      rename_i pa xs ds pb ys es
      have q' : At (cw X) X.mg E (Rep (cw X)) F H (mkTup (ds ++ es)) Q := q
      refine .inr (.inr (.inl ⟨pa, pb, xs, ys, rfl, rfl, same_sqT s ha, same_sqT s hb, ?_, fun e0 => ?_, fun _ e0 => ?_, fun _ _ => (At.newTup s (r1.append r2) q').2⟩))
      · have := (At.newTup s (r1.append r2) q').1
        rw [List.length_append] at this
        exact this
      · subst e0; cases r1
        unfold mkTup at q'
        rw [if_pos (by have := (At.newTup s (Reps.append .nil r2) q').1; rw [sizeLine_eq, (Reps.append .nil r2).length] at this; exact fits_of this)] at q'
        exact At.k s q' (.tup hb r2)
      · subst e0; cases r2
        have q2 := q'
        unfold mkTup at q'
        rw [if_pos (by have := (At.newTup s (Reps.append r1 .nil) q2).1; rw [sizeLine_eq, (Reps.append r1 .nil).length] at this; exact fits_of this), List.append_nil] at q'
        exact At.k s q' (.tup ha r1)
    | _ => exact q.elim
  | lst ha r1 => cases rb with
    | lst hb r2 =>
      rename_i pa xs ds pb ys es
      have q' : At (cw X) X.mg E (Rep (cw X)) F H (mkLst (ds ++ es)) Q := q
      have z := At.newLst s (r1.append r2) q'
      rw [List.length_append] at z
      exact .inr (.inr (.inr ⟨pa, pb, xs, ys, rfl, rfl, s _ _ ha, s _ _ hb, z.1, z.2⟩))
    | _ => exact q.elim
  | _ => exact q.elim
theorem op_subD : OpV X (binaryOp .Sub) subD := OpV.of op_sub fun E F H x y a b Q s ra rb q => by
  cases ra with
  | int i => cases rb with
    | int j => exact ⟨i, j, rfl, rfl, At.k s q (.int _)⟩
    | _ => exact q.elim
  | _ => exact q.elim
theorem and2 {p q : Bool} (h : (p && q) = true) : p = true ∧ q = true := Bool.and_eq_true_iff.mp h
theorem and3 {p q r : Bool} (h : (p && q && r) = true) : p = true ∧ q = true ∧ r = true := ⟨(and2 (and2 h).1).1, (and2 (and2 h).1).2, (and2 h).2⟩
set_option maxHeartbeats 4000000 in
theorem tuple_mul1 (l : Addr) (items : Array Value) (n : Nat) (dd : Option Addr) (sl : Array (Option Value)) (u : Tok) :
    Meets (Builtin.«tuple.__mul__» ⟨[.ref l, .int 1 u], []⟩) (fun _ R s => s.heap.get? l = some { cls := .type "tuple", dict := dd, data := .seq items n, slots := sl } ∧ R (.ok (.ret (Value.ref l))) s) :=
  .of_wp fun prog w A R s h => by
    obtain ⟨hp, g, d, tk, os⟩ := s
    obtain ⟨hl, h⟩ := h
    have f1 := AutoSeq1.idx_int
    have c1 : (items.isEmpty || (1 : Int) == 1) = true := by simp
    wp_walk using PyProof.Rows.wpAny_loadPart' hl
    repeat (first
      | (refine PyProof.Rows.wpAny_ite_true (decide_eq_true (by rw [c1])) ?_; wp_walk using PyProof.Rows.wpAny_loadPart' hl)
      | (refine PyProof.Rows.wpAny_ite_true c1 ?_; wp_walk using PyProof.Rows.wpAny_loadPart' hl))
    exact ⟨_, rfl, h⟩
set_option maxHeartbeats 4000000 in
theorem tuple_mul0 (l : Addr) (items : Array Value) (n : Nat) (dd : Option Addr) (sl : Array (Option Value)) (u : Tok) (c : items.isEmpty = false) :
    Meets (Builtin.«tuple.__mul__» ⟨[.ref l, .int 0 u], []⟩) (fun _ R s => s.heap.get? l = some { cls := .type "tuple", dict := dd, data := .seq items n, slots := sl } ∧
      R (.ok (.ret (Value.ref s.heap.objs.size))) { s with heap := s.heap.push { cls := Value.type "tuple", data := Data.seq #[] }, toks := s.toks }) :=
  .of_wp fun prog w A R s h => by
    obtain ⟨hp, g, d, tk, os⟩ := s
    obtain ⟨hl, h⟩ := h
    have f1 := AutoSeq1.idx_int
    wp_walk using PyProof.Rows.wpAny_loadPart' hl
    exact ⟨_, rfl, h⟩
def rRep01 (K : PySem.W.Frag) : R2 := fun x y H Q => ∃ l xs, x = .ref l ∧ SqT K H l xs ∧ ((y = .int 1 ∧ Q (.ref l) H) ∨ (y = .int 0 ∧ xs ≠ [] ∧ ∀ p, H p = none → Q (.ref p) (upd H p (.tup []))))
theorem op_rep01 : OpR X (binaryOp .Mult) (rRep01 X.K) := by
  intro pins s σ H x y v u Q I rx ry h
  obtain ⟨l, xs, rfl, hT, h⟩ := h
  cases rx
  obtain ⟨its, r, ⟨⟨cls, dd, data, sl⟩, ho, hc, n, hd⟩, hs⟩ := I.tuple hT
  simp only at hc hd
  subst hc hd
  rcases h with ⟨rfl, q⟩ | ⟨rfl, hne, q⟩
  · obtain ⟨t, rfl⟩ := ry
    exact wpAny_binaryOp_repeat_ref (T := "tuple") (U := "int") (by decide) ⟨_, ho, rfl⟩ (fun s' => typeIs_int s' 1 t) noFill_tuple_mul PySem.F.fills_int_mul PySem.F.slot_int_rmul repeat_tuple PySem.F.slot_int_index.lookup
      (call_meets PySem.F.slot_int_rmul (typeIs_int s 1 t) PySem.F.entry_int_rmul (PySem.F.args_int_rmul_2 _ _) (int_rmul_tuple 1 t l its.toArray n dd sl)
        ⟨ho, rfl, ⟨_, ho, rfl⟩, call_meets PySem.F.slot_tuple_mul ⟨_, ho, rfl⟩ PySem.F.entry_tuple_mul (PySem.F.args_tuple_mul_2 _ _) (tuple_mul1 l its.toArray n dd sl t) ⟨ho, ⟨.ref l, H, I, rfl, q⟩⟩⟩)
  · obtain ⟨t, rfl⟩ := ry
    have hi : its.toArray.isEmpty = false := by
      cases its with
      | nil => exact absurd (List.eq_nil_of_length_eq_zero r.length) hne
      | cons a b => rfl
    refine wpAny_binaryOp_repeat_ref (T := "tuple") (U := "int") (by decide) ⟨_, ho, rfl⟩ (fun s' => typeIs_int s' 0 t) noFill_tuple_mul PySem.F.fills_int_mul PySem.F.slot_int_rmul repeat_tuple PySem.F.slot_int_index.lookup
      (call_meets PySem.F.slot_int_rmul (typeIs_int s 0 t) PySem.F.entry_int_rmul (PySem.F.args_int_rmul_2 _ _) (int_rmul_tuple 0 t l its.toArray n dd sl)
        ⟨ho, rfl, ⟨_, ho, rfl⟩, call_meets PySem.F.slot_tuple_mul ⟨_, ho, rfl⟩ PySem.F.entry_tuple_mul (PySem.F.args_tuple_mul_2 _ _) (tuple_mul0 l its.toArray n dd sl t hi) ⟨ho, ?_⟩⟩)
    have ok : ObjOk X.prog X.w (upd H s.heap.objs.size (.tup [])) (s.heap.push { cls := Value.type "tuple", data := Data.seq #[] }) s.heap.objs.size (.tup []) := ⟨Nat.zero_le _, [], .nil, ⟨_, Heap.get?_push_size _ rfl, rfl, _, rfl⟩⟩
    exact ⟨.ref s.heap.objs.size, _, I.laid (t' := s.toks) (fun b o e => Heap.get?_push_of_some _ e) (Nat.le_refl _) ok, rfl, q _ (I.hok.fresh (Nat.le_refl _))⟩
theorem op_mulD : OpV X (binaryOp .Mult) mulD := OpV.of (OpR.or (OpR.or op_mulW op_mul) (OpR.or op_rep (OpR.or op_repT op_rep01))) fun E F H x y a b Q s ra rb q => by
  cases ra with
  | int i => cases rb with
    | int j =>
      have q' : At (cw X) X.mg E (Rep (cw X)) F H (if small i && small j || (lil i || lil j) then .ok (.int (i * j)) else .fail) Q := q
      by_cases hf : (small i && small j || (lil i || lil j)) = true
      · rw [if_pos hf] at q'
        rcases Bool.or_eq_true_iff.mp hf with hf | hf
        · have h1 : i.natAbs.log2 < 60000 := by have z := (and2 hf).1; rw [small_eq] at z; exact of_decide_eq_true z
          have h2 : j.natAbs.log2 < 60000 := by have z := (and2 hf).2; rw [small_eq] at z; exact of_decide_eq_true z
          exact .inl (.inl ⟨i, j, rfl, rfl, by unfold CMulW; omega, At.k s q' (.int _)⟩)
        · rw [Bool.or_eq_true_iff, lil_eq, lil_eq] at hf
          exact .inl (.inr ⟨i, j, rfl, rfl, hf.elim (fun z => .inl (of_decide_eq_true z)) (fun z => .inr (of_decide_eq_true z)), At.k s q' (.int _)⟩)
      · rw [if_neg hf] at q'; exact q'.elim
    | _ => exact q.elim
  | lst ha r1 => cases rb with
    | int k =>
      rename_i pa xs ds
      have q' : At (cw X) X.mg E (Rep (cw X)) F H (if decide (0 ≤ k) && decide (k ≤ 1000000) && fits (ds.length * k.toNat) then .ok (.lst (List.replicate k.toNat ds).flatten) else .fail) Q := q
      by_cases hf : (decide (0 ≤ k) && decide (k ≤ 1000000) && fits (ds.length * k.toNat)) = true
      · rw [if_pos hf] at q'
        obtain ⟨h1, h2, h3⟩ := and3 hf
        have h1 := of_decide_eq_true h1
        have h2 := of_decide_eq_true h2
        exact .inr (.inl ⟨pa, k, xs, rfl, rfl, s _ _ ha, by omega, by omega, by rw [r1.length]; exact fits_line h3, At.lay s q' fun p F' e h => .lst h ((r1.reps _).mono e)⟩)
      · rw [if_neg hf] at q'; exact q'.elim
    | _ => exact q.elim
  | tup ha r1 => cases rb with
    | int k =>
      rename_i pa xs ds
      have q' : At (cw X) X.mg E (Rep (cw X)) F H (if decide (k = 1) = true then .ok (.tup ds) else if (decide (k = 0) && !ds.isEmpty) = true then .ok (.tup []) else if !ds.isEmpty && decide (2 ≤ k) && decide (k ≤ 1000) && decide (ds.length ≤ 1000) then .ok (.tup (List.replicate k.toNat ds).flatten) else .fail) Q := q
      by_cases h1 : decide (k = 1) = true
      · rw [if_pos h1] at q'
        have hk := of_decide_eq_true h1
        exact .inr (.inr (.inr ⟨pa, xs, rfl, same_sqT s ha, .inl ⟨by rw [hk], At.k s q' (.tup ha r1)⟩⟩))
      · rw [if_neg h1] at q'
        by_cases h0 : (decide (k = 0) && !ds.isEmpty) = true
        · rw [if_pos h0] at q'
          have hk := of_decide_eq_true (and2 h0).1
          have hn := (and2 h0).2
          exact .inr (.inr (.inr ⟨pa, xs, rfl, same_sqT s ha, .inr ⟨by rw [hk], by rintro rfl; cases r1; simp at hn, At.lay s q' fun p F' e h => .tup (SqT.of h) .nil⟩⟩))
        · rw [if_neg h0] at q'
          by_cases hf : (!ds.isEmpty && decide (2 ≤ k) && decide (k ≤ 1000) && decide (ds.length ≤ 1000)) = true
          · rw [if_pos hf] at q'
            obtain ⟨h123, h4⟩ := and2 hf
            obtain ⟨h1, h2, h3⟩ := and3 h123
            have h2 := of_decide_eq_true h2
            have h3 := of_decide_eq_true h3
            have h4 := of_decide_eq_true h4
            exact .inr (.inr (.inl ⟨pa, k, xs, rfl, rfl, same_sqT s ha, by rintro rfl; cases r1; simp at h1, h2, h3, by rw [r1.length]; exact h4, At.lay s q' fun p F' e h => .tup (SqT.of h) ((r1.reps _).mono e)⟩))
          · rw [if_neg hf] at q'; exact q'.elim
    | _ => exact q.elim
  | _ => exact q.elim
theorem op_fdivD : OpV X (binaryOp .FloorDiv) fdivD := OpV.of op_fdivW fun E F H x y a b Q s ra rb q => by
  cases ra with
  | int i => cases rb with
    | int j =>
      have q' : At (cw X) X.mg E (Rep (cw X)) F H (if decide (0 < j) && decide (j.natAbs.log2 < 9000) then .ok (.int (i / j)) else .fail) Q := q
      by_cases hf : (decide (0 < j) && decide (j.natAbs.log2 < 9000)) = true
      · rw [if_pos hf] at q'
        exact ⟨i, j, rfl, rfl, ⟨of_decide_eq_true (and2 hf).1, of_decide_eq_true (and2 hf).2⟩, At.k s q' (.int _)⟩
      · rw [if_neg hf] at q'; exact q'.elim
    | _ => exact q.elim
  | _ => exact q.elim
theorem op_modD : OpV X (binaryOp .Mod) modD := OpV.of op_mod fun E F H x y a b Q s ra rb q => by
  cases ra with
  | int i => cases rb with
    | int j =>
      have q' : At (cw X) X.mg E (Rep (cw X)) F H (if decide (0 < j) then .ok (.int (i % j)) else .fail) Q := q
      by_cases hf : decide (0 < j) = true
      · rw [if_pos hf] at q'
        exact ⟨i, j, rfl, rfl, of_decide_eq_true hf, At.k s q' (.int _)⟩
      · rw [if_neg hf] at q'; exact q'.elim
    | _ => exact q.elim
  | _ => exact q.elim
theorem op_powD : OpV X (binaryOp .Pow) powD := OpV.of op_pow fun E F H x y a b Q s ra rb q => by
  cases ra with
  | int i => cases rb with
    | int j =>
      have q' : At (cw X) X.mg E (Rep (cw X)) F H (if decide (0 ≤ j) && decide (j ≤ 1000000) && decide (i.natAbs < 2 ^ 64) then .ok (.int (i ^ j.toNat)) else .fail) Q := q
      by_cases hf : (decide (0 ≤ j) && decide (j ≤ 1000000) && decide (i.natAbs < 2 ^ 64)) = true
      · rw [if_pos hf] at q'
        obtain ⟨h1, h2, h3⟩ := and3 hf
        exact ⟨i, j, rfl, rfl, ⟨of_decide_eq_true h1, of_decide_eq_true h2, of_decide_eq_true h3⟩, At.k s q' (.int _)⟩
      · rw [if_neg hf] at q'; exact q'.elim
    | _ => exact q.elim
  | _ => exact q.elim
def negD : D → Out D
  | .int i => .ok (.int (-i))
  | _ => .fail
def e1 (h : D → Out D) (f : PEnv → Out D) : PEnv → Out D := fun ρ => (f ρ).bind h
theorem ve_neg (ha : VE X E a f) : VE X E (.UnaryOp .USub a pos) (e1 negD f) :=
  ⟨pe_weak (pe_un un_neg ha.pe) fun σ H Q ⟨ρ, F, s, sl, q⟩ => tv_bind s sl q fun v F1 H1 x s1 e1 sl1 r1 q1 => by
    cases r1 with
    | int i => exact ⟨i, rfl, At.k s1 q1 (.int _)⟩
    | _ => exact q1.elim⟩

/-! ### < <= > >= of ints -/
def ltI : D → D → Out Bool
  | .int i, .int j => .ok (decide (i < j))
  | _, _ => .fail
def leI : D → D → Out Bool
  | .int i, .int j => .ok (decide (i ≤ j))
  | _, _ => .fail
def gtI (x y : D) : Out Bool := ltI y x
def geI (x y : D) : Out Bool := leI y x
theorem cmp_ltI : CmpV X .Lt ltI := OpV.of op_lt fun E F H x y a b Q s ra rb q => by
  cases ra with
  | int i => cases rb with
    | int j => exact ⟨i, j, rfl, rfl, At.blOk s q⟩
    | _ => exact q.elim
  | _ => exact q.elim
theorem cmp_leI : CmpV X .LtE leI := OpV.of op_le fun E F H x y a b Q s ra rb q => by
  cases ra with
  | int i => cases rb with
    | int j => exact ⟨i, j, rfl, rfl, At.blOk s q⟩
    | _ => exact q.elim
  | _ => exact q.elim
theorem cmp_gtI : CmpV X .Gt gtI := OpV.of op_gt fun E F H x y a b Q s ra rb q => by
  cases ra with
  | int i => cases rb with
    | int j => exact ⟨i, j, rfl, rfl, At.blOk s q⟩
    | _ => exact q.elim
  | _ => cases rb <;> exact q.elim
theorem cmp_geI : CmpV X .GtE geI := OpV.of op_ge fun E F H x y a b Q s ra rb q => by
  cases ra with
  | int i => cases rb with
    | int j => exact ⟨i, j, rfl, rfl, At.blOk s q⟩
    | _ => exact q.elim
  | _ => cases rb <;> exact q.elim

/-! ### x[i] -/
def getD : D → D → Out D
  | .tup l, .int i => Out.ofO (atI l i)
  | .lst l, .int i => Out.ofO (atI l i)
  | .scr l, .int i => Out.ofO ((atI l i).map D.int)
  | .str x, .int i => Out.ofO ((atI x.cps.toList i).map fun c => D.str ⟨#[c]⟩)
  | _, _ => .fail
theorem Reps.atI {c : KW} {F : Hp} {xs : List V} {ds : List D} {i : Int} {d : D} (r : Reps c F xs ds) (h : L2.atI ds i = some d) : ∃ v, L2.atI xs i = some v ∧ Rep c F v d := by
  unfold L2.atI at h ⊢
  rw [r.length]
  cases e : ixN ds.length i with
  | none => rw [e] at h; cases h
  | some j => rw [e] at h; exact r.get h
theorem atI_map {α β : Type} (f : α → β) (l : List α) (i : Int) : L2.atI (l.map f) i = (L2.atI l i).map f := by
  unfold L2.atI
  rw [List.length_map]
  cases ixN l.length i with
  | none => rfl
  | some j => exact List.getElem?_map
theorem str_sign {x : Str} {i : Int} {c : Nat} (hx : StrR x) (h : L2.atI x.cps.toList i = some c) : StrR ⟨#[c]⟩ := by
  obtain ⟨j, _, h2, _⟩ := atI_get h
  have hm : c ∈ x.cps := by
    have := List.mem_of_getElem? h2
    simpa using this
  have h1 := hx.1
  unfold PyData.strOk at h1
  rw [Array.all_eq_true_iff_forall_mem] at h1
  have h3 := h1 c hm
  refine ⟨?_, ?_⟩
  · unfold PyData.strOk
    simpa using h3
  · show 1 ≤ sizeLine
    rw [sizeLine_eq]; decide
theorem get_rIx {E : XK} {F H : Hp} {v u : V} {x y : D} {Q : VK} (r1 : Rep (cw X) F v x) (r2 : Rep (cw X) F u y) (s : Same F H) (q : At (cw X) X.mg E (Rep (cw X)) F H (getD x y) Q) : rIx X.K v u H Q := by
  cases r1 with
  | tup h1 rs =>
    rename_i pa xs ds
    cases r2 with
    | int i =>
      have q' : At (cw X) X.mg E (Rep (cw X)) F H (Out.ofO (L2.atI ds i)) Q := q
      cases e : L2.atI ds i with
      | none => rw [e] at q'; exact q'.elim
      | some d =>
        rw [e] at q'
        obtain ⟨w, h2, h3⟩ := rs.atI e
        exact .inr (.inl ⟨pa, xs, i, w, rfl, rfl, same_sqT s h1, h2, At.k s q' h3⟩)
    | _ => exact q.elim
  | lst h1 rs =>
    rename_i pa xs ds
    cases r2 with
    | int i =>
      have q' : At (cw X) X.mg E (Rep (cw X)) F H (Out.ofO (L2.atI ds i)) Q := q
      cases e : L2.atI ds i with
      | none => rw [e] at q'; exact q'.elim
      | some d =>
        rw [e] at q'
        obtain ⟨w, h2, h3⟩ := rs.atI e
        exact .inl ⟨pa, xs, i, w, rfl, rfl, SqL.of (s _ _ h1), h2, At.k s q' h3⟩
    | _ => exact q.elim
  | scr h1 =>
    rename_i pa ns
    cases r2 with
    | int i =>
      have q' : At (cw X) X.mg E (Rep (cw X)) F H (Out.ofO ((L2.atI ns i).map D.int)) Q := q
      cases e : L2.atI ns i with
      | none => rw [e] at q'; exact q'.elim
      | some n =>
        rw [e] at q'
        exact .inl ⟨pa, _, i, .int n, rfl, rfl, s.seq h1, by rw [atI_map, e]; rfl, At.k s q' (.int _)⟩
    | _ => exact q.elim
  | str z hz =>
    cases r2 with
    | int i =>
      have q' : At (cw X) X.mg E (Rep (cw X)) F H (Out.ofO ((L2.atI z.cps.toList i).map fun c => D.str ⟨#[c]⟩)) Q := q
      cases e : L2.atI z.cps.toList i with
      | none => rw [e] at q'; exact q'.elim
      | some c =>
        rw [e] at q'
        exact .inr (.inr ⟨z, i, c, rfl, rfl, hz.2, e, At.k s q' (.str _ (str_sign hz e))⟩)
    | _ => exact q.elim
  | _ => cases r2 <;> exact q.elim
theorem ve_ix (ha : VE X E a f) (hb : VE X E b g) (hs : PlainIx b := by intro _ _; rfl) : VE X E (.Subscript a b pos) (e2 getD f g) :=
  ⟨pe_weak (pe_ix ix_seq ha.pe hb.pe hs) fun σ H Q ⟨ρ, F, s, sl, q⟩ => tv_bind s sl q fun v F1 H1 x s1 e1 sl1 r1 q1 => tv_bind s1 sl1 q1 fun u F2 H2 y s2 e2 sl2 r2 q2 => get_rIx (r1.mono e2) r2 s2 q2⟩

/-! ### x[i:j] -/
def cutL {α : Type} (l : List α) (lo hi : Option Int) : List α := (l.drop (HT.sIx l.length 0 lo)).take (HT.sIx l.length l.length hi - HT.sIx l.length 0 lo)
def sliceD (lo hi : Option Int) : D → Out D
  | .tup l => .ok (.tup (cutL l lo hi))
  | .lst l => .ok (.lst (cutL l lo hi))
  | .str x => .ok (.str (cutS x lo hi))
  | .scr l => .ok (.lst (cutL (l.map .int) lo hi))
  | _ => .fail
theorem reps_intsE {c : KW} {F : Hp} : ∀ ns : List Int, Reps c F (ns.map V.int) (ns.map D.int)
  | [] => .nil
  | n :: r => .cons (.int n) (reps_intsE r)
def asInt : D → Out (Option Int)
  | .int i => .ok (some i)
  | _ => .fail
/-- an optional part of a slice -/
structure VO (X : Cx) (E : WX) (e : Option Expr) (f : PEnv → Out (Option Int)) : Prop where
  po : PO X e fun σ H Q => ∃ ρ F, Same F H ∧ Slots (cw X) F ρ σ ∧ At (cw X) X.mg (xsE E σ) (fun _ b a => b = a) F H (f ρ) Q
def oNone : PEnv → Out (Option Int) := fun _ => .ok none
def oSome (f : PEnv → Out D) : PEnv → Out (Option Int) := fun ρ => (f ρ).bind asInt
theorem vo_none : VO X E none oNone := ⟨⟨fun pins s σ H Q I ⟨ρ, F, sm, sl, q⟩ => po_none.run pins s σ H Q I (At.const sm q rfl)⟩⟩
theorem vo_some (h : VE X E a f) : VO X E (some a) (oSome f) := ⟨⟨fun pins s σ H Q I ⟨ρ, F, sm, sl, q⟩ => (po_some h.pe).run pins s σ H Q I (tv_bind sm sl q fun v F1 H1 x s1 e1 sl1 r1 q1 => by
  cases r1 with
  | int i => exact ⟨i, rfl, At.const s1 q1 rfl⟩
  | _ => exact q1.elim)⟩⟩
def eSlice (f : PEnv → Out D) (fl fh : PEnv → Out (Option Int)) : PEnv → Out D := fun ρ => (f ρ).bind fun x => (fl ρ).bind fun lo => (fh ρ).bind fun hi => sliceD lo hi x
theorem Reps.cut {c : KW} {F : Hp} {xs : List V} {ds : List D} (r : Reps c F xs ds) (lo hi : Option Int) : Reps c F (cutV xs lo hi) (cutL ds lo hi) := by
  unfold cutV cutL
  rw [r.length]
  exact (r.drop _).take _
theorem mem_cutS {z : Str} {lo hi : Option Int} {c : Nat} (h : c ∈ (cutS z lo hi).cps) : c ∈ z.cps := by
  have h' : c ∈ (z.cps.toList.drop (HT.sIx z.length 0 lo)).take (HT.sIx z.length z.length hi - HT.sIx z.length 0 lo) := by
    have : c ∈ (cutS z lo hi).cps.toList := by simpa using h
    simpa [cutS] using this
  have := List.mem_of_mem_drop (List.mem_of_mem_take h')
  simpa using this
theorem strR_cut {z : Str} (lo hi : Option Int) (hz : StrR z) : StrR (cutS z lo hi) := by
  refine ⟨?_, ?_⟩
  · have h1 := hz.1
    unfold PyData.strOk at h1 ⊢
    rw [Array.all_eq_true_iff_forall_mem] at h1 ⊢
    exact fun c hc => h1 c (mem_cutS hc)
  · refine Nat.le_trans ?_ hz.2
    show (cutS z lo hi).cps.size ≤ z.cps.size
    unfold cutS
    dsimp only
    rw [List.size_toArray, List.length_take, List.length_drop, Array.length_toList]
    omega
theorem sIx_whole {α : Type} {l : List α} {lo hi : Option Int} (h : HT.sIx l.length 0 lo = 0 ∧ HT.sIx l.length l.length hi = l.length) : cutL l lo hi = l := by
  unfold cutL
  rw [h.1, h.2, List.drop_zero, Nat.sub_zero, List.take_length]
theorem ve_slice {lo hi : Option Expr} {fl fh : PEnv → Out (Option Int)} {p2 : Pos} (he : VE X E e f) (hl : VO X E lo fl) (hh : VO X E hi fh) : VE X E (.Subscript e (.Slice lo hi none p2) pos) (eSlice f fl fh) :=
  ⟨pe_weak (pe_slice (SlR.or sl_list (SlR.or sl_tupA sl_str)) he.pe hl.po hh.po) fun σ H Q ⟨ρ, F, s, sl, q⟩ => tv_bind s sl q fun v F1 H1 x s1 e1 sl1 r1 q1 =>
    ⟨ρ, F1, s1, sl1, At.mono (At.bind (R := fun _ b a => b = a) q1) fun l H2 ⟨F2, lo', el, g2, h2, q2⟩ => ⟨ρ, F2, g2.into, sl1.mono g2.sub, At.mono (At.bind (R := fun _ b a => b = a) q2) fun u H3 ⟨F3, hi', eh, g3, h3, q3⟩ => by
      subst h2 h3
      have s3 := g3.into
      have r3 := Rep.mono (g2.sub.trans g3.sub) r1
      cases r3 with
      | lst h1 rs => exact .inl ⟨_, _, rfl, SqL.of (s3 _ _ h1), At.lay s3 q3 fun p F' e h => .lst h ((rs.cut _ _).mono e)⟩
      | scr h1 => exact .inl ⟨_, _, rfl, s3.seq h1, At.lay s3 q3 fun p F' e h => .lst h ((reps_intsE _).cut _ _)⟩
      | tup h1 rs =>
        refine .inr (.inl ⟨_, _, rfl, same_sqT s3 h1, fun hw => ?_, fun _ => At.lay s3 q3 fun p F' e h => .tup (SqT.of h) ((rs.cut _ _).mono e)⟩)
        refine At.k s3 q3 (.tup h1 ?_)
        rw [rs.length] at hw
        rw [sIx_whole hw]
        exact rs
      | str z hz => exact .inr (.inr ⟨z, rfl, hz.2, At.k s3 q3 (.str _ (strR_cut _ _ hz))⟩)
      | _ => exact q3.elim⟩⟩⟩

/-! ### len, int, bool, tuple, list -/
def lenD : List D → Out D
  | [.tup l] => .ok (.int l.length)
  | [.lst l] => .ok (.int l.length)
  | [.scr l] => .ok (.int l.length)
  | [.str x] => .ok (.int x.length)
  | _ => .fail
theorem call_lenV : CallV X (.builtin "len") lenD := CallV.of call_len fun E F H xs ds Q s r q => by
  cases r with
  | nil => exact q.elim
  | cons r1 t => cases t with
    | cons _ _ => cases r1 <;> exact q.elim
    | nil => cases r1 with
      | tup h1 rs => exact ⟨_, _, rfl, .inr ⟨_, same_sqT s h1, rfl⟩, At.k s q (by rw [rs.length]; exact .int _)⟩
      | lst h1 rs => exact ⟨_, _, rfl, .inl ⟨_, SqL.of (s _ _ h1), rfl⟩, At.k s q (by rw [rs.length]; exact .int _)⟩
      | scr h1 => exact ⟨_, _, rfl, .inl ⟨_, s.seq h1, rfl⟩, At.k s q (by rw [List.length_map]; exact .int _)⟩
      | str x hx => exact ⟨_, _, rfl, ⟨hx.2, rfl⟩, At.k s q (.int _)⟩
      | _ => exact q.elim
def intD : List D → Out D
  | [.int i] => .ok (.int i)
  | [.bl b] => .ok (.int (if b = true then 1 else 0))
  | _ => .fail
theorem call_intV : CallV X (.type "int") intD := CallV.of call_int1 fun E F H xs ds Q s r q => by
  cases r with
  | nil => exact q.elim
  | cons r1 t => cases t with
    | cons _ _ => cases r1 <;> exact q.elim
    | nil => cases r1 with
      | int i => exact .inl ⟨i, rfl, At.k s q (.int _)⟩
      | bl b => exact .inr ⟨b, rfl, At.k s q (.int _)⟩
      | _ => exact q.elim
def tupleD : List D → Out D
  | [.tup l] => .ok (.tup l)
  | [.lst l] => .ok (.tup l)
  | _ => .fail
theorem call_tupleV : CallV X (.type "tuple") tupleD := CallV.of call_tuple_of fun E F H xs ds Q s r q => by
  cases r with
  | nil => exact q.elim
  | cons r1 t => cases t with
    | cons _ _ => cases r1 <;> exact q.elim
    | nil => cases r1 with
      | tup h1 rs => exact ⟨_, _, rfl, .inr ⟨same_sqT s h1, At.k s q (.tup h1 rs)⟩⟩
      | lst h1 rs => exact ⟨_, _, rfl, .inl ⟨SqL.of (s _ _ h1), At.lay s q fun p F' e h => .tup (SqT.of h) (rs.mono e)⟩⟩
      | _ => exact q.elim
def listD : List D → Out D
  | [.tup l] => .ok (.lst l)
  | [.lst l] => .ok (.lst l)
  | _ => .fail
theorem call_listV : CallV X (.type "list") listD := CallV.of call_list_of fun E F H xs ds Q s r q => by
  cases r with
  | nil => exact q.elim
  | cons r1 t => cases t with
    | cons _ _ => cases r1 <;> exact q.elim
    | nil => cases r1 with
      | tup h1 rs => exact ⟨_, _, rfl, .inr (same_sqT s h1), At.lay s q fun p F' e h => .lst h (rs.mono e)⟩
      | lst h1 rs => exact ⟨_, _, rfl, .inl (SqL.of (s _ _ h1)), At.lay s q fun p F' e h => .lst h (rs.mono e)⟩
      | _ => exact q.elim
end
end TP

end
set_option Elab.async false
set_option linter.all false
set_option maxRecDepth 100000
/-! The values layer: slots that own, statements. -/
noncomputable section
namespace TP
open PySem PySem.Spec L2

/-! ### what a slot holds -/
inductive Slot where
  | un | val (d : D) | own (d : D) | io (k : Nat) (d : D)
abbrev Env := List Slot
/-- what was handed in at the places that go in and out -/
class IOs where
  io : Nat → Option V
instance (priority := low) noIO : IOs := ⟨fun _ => none⟩
variable [IOs]

mutual
/-- the value v is d; its own objects (that nothing else holds) are at the addresses told -/
inductive Own (c : KW) (F H : Hp) : List Addr → V → D → Prop
  | froz {v : V} {d : D} : Rep c F v d → Own c F H [] v d
  | lst {p : Addr} {xs : List V} {ds : List D} {fp : List Addr} : F p = none → H p = some (.lst xs) → Owns c F H fp xs ds → Own c F H (p :: fp) (.ref p) (.lst ds)
  | dK {p : Addr} {kvs : List (Key × V)} {ds : List (D × D)} {fp : List Addr} : F p = none → H p = some (.dK kvs) → OwnKVs c F H fp kvs ds → Own c F H (p :: fp) (.ref p) (.dct ds)
  | dN {p : Addr} {xs : List (NestedKey × Addr × Value)} {ds : List (D × D)} {fp : List Addr} : F p = none → H p = some (DctN c.w p xs) → OwnNVs c F H fp xs ds → Own c F H (p :: fp) (.ref p) (.dct ds)
  | setN {p : Addr} {rows : List (Int × Value)} {es ds : List D} : F p = none → H p = some (SetN c.w p rows) → Rows c F rows es → es.Perm ds → Own c F H [p] (.ref p) (.set ds)
inductive Owns (c : KW) (F H : Hp) : List Addr → List V → List D → Prop
  | nil : Owns c F H [] [] []
  | cons {v : V} {vs : List V} {d : D} {ds : List D} {fp fq : List Addr} : Own c F H fp v d → Owns c F H fq vs ds → Owns c F H (fp ++ fq) (v :: vs) (d :: ds)
inductive OwnKVs (c : KW) (F H : Hp) : List Addr → List (Key × V) → List (D × D) → Prop
  | nil : OwnKVs c F H [] [] []
  | cons {k : Key} {v : V} {kvs : List (Key × V)} {d e : D} {ds : List (D × D)} {fp fq : List Addr} : Rep c F (kV k) d → Own c F H fp v e → OwnKVs c F H fq kvs ds → OwnKVs c F H (fp ++ fq) ((k, v) :: kvs) ((d, e) :: ds)
inductive OwnNVs (c : KW) (F H : Hp) : List Addr → List (NestedKey × Addr × Value) → List (D × D) → Prop
  | nil : OwnNVs c F H [] [] []
  | cons {b : Addr} {u : Value} {v : V} {xs : List (NestedKey × Addr × Value)} {d e : D} {ds : List (D × D)} {fp fq : List Addr} : Rep c F (.ref b) d → d.isKey = true → isTupD d = true → d.key.depth ≤ 8 → RelV v u → Own c F H fp v e →
      OwnNVs c F H fq xs ds → OwnNVs c F H (fp ++ fq) ((d.key, b, u) :: xs) ((d, e) :: ds)
end

/-- what stands at an own address -/
def OwnHO : Option HO → Prop
  | some (.lst _) => True
  | some (.dK _) => True
  | some (.ext _) => True
  | _ => False
mutual
theorem Own.at {c : KW} {F H : Hp} : ∀ {fp : List Addr} {v : V} {d : D}, Own c F H fp v d → ∀ p ∈ fp, F p = none ∧ OwnHO (H p)
  | _, _, _, .froz _, p, hp => by cases hp
  | _, _, _, .lst h1 h2 r, p, hp => by
    rcases List.mem_cons.mp hp with rfl | hp
    · exact ⟨h1, by rw [h2]; trivial⟩
    · exact r.at p hp
  | _, _, _, .dK h1 h2 r, p, hp => by
    rcases List.mem_cons.mp hp with rfl | hp
    · exact ⟨h1, by rw [h2]; trivial⟩
    · exact r.at p hp
  | _, _, _, .dN h1 h2 r, p, hp => by
    rcases List.mem_cons.mp hp with rfl | hp
    · exact ⟨h1, by rw [h2]; trivial⟩
    · exact r.at p hp
  | _, _, _, .setN h1 h2 _ _, p, hp => by
    rcases List.mem_cons.mp hp with rfl | hp
    · exact ⟨h1, by rw [h2]; trivial⟩
    · cases hp
theorem Owns.at {c : KW} {F H : Hp} : ∀ {fp : List Addr} {v : List V} {d : List D}, Owns c F H fp v d → ∀ p ∈ fp, F p = none ∧ OwnHO (H p)
  | _, _, _, .nil, p, hp => by cases hp
  | _, _, _, .cons a b, p, hp => (List.mem_append.mp hp).elim (a.at p) (b.at p)
theorem OwnKVs.at {c : KW} {F H : Hp} : ∀ {fp : List Addr} {v : List (Key × V)} {d : List (D × D)}, OwnKVs c F H fp v d → ∀ p ∈ fp, F p = none ∧ OwnHO (H p)
  | _, _, _, .nil, p, hp => by cases hp
  | _, _, _, .cons _ a b, p, hp => (List.mem_append.mp hp).elim (a.at p) (b.at p)
theorem OwnNVs.at {c : KW} {F H : Hp} : ∀ {fp : List Addr} {v : List (NestedKey × Addr × Value)} {d : List (D × D)}, OwnNVs c F H fp v d → ∀ p ∈ fp, F p = none ∧ OwnHO (H p)
  | _, _, _, .nil, p, hp => by cases hp
  | _, _, _, .cons _ _ _ _ _ a b, p, hp => (List.mem_append.mp hp).elim (a.at p) (b.at p)
end
mutual
/-- it stands while its own objects stand -/
theorem Own.mono {c : KW} {F H F' H' : Hp} (e : Same F F') : ∀ {fp : List Addr} {v : V} {d : D}, Own c F H fp v d → (∀ p ∈ fp, F' p = none ∧ H' p = H p) → Own c F' H' fp v d
  | _, _, _, .froz r, _ => .froz (r.mono e)
  | _, _, _, .lst h1 h2 r, k => .lst (k _ List.mem_cons_self).1 ((k _ List.mem_cons_self).2.trans h2) (r.mono e fun p hp => k p (List.mem_cons_of_mem _ hp))
  | _, _, _, .dK h1 h2 r, k => .dK (k _ List.mem_cons_self).1 ((k _ List.mem_cons_self).2.trans h2) (r.mono e fun p hp => k p (List.mem_cons_of_mem _ hp))
  | _, _, _, .dN h1 h2 r, k => .dN (k _ List.mem_cons_self).1 ((k _ List.mem_cons_self).2.trans h2) (r.mono e fun p hp => k p (List.mem_cons_of_mem _ hp))
  | _, _, _, .setN h1 h2 r pm, k => .setN (k _ List.mem_cons_self).1 ((k _ List.mem_cons_self).2.trans h2) (r.mono e) pm
theorem Owns.mono {c : KW} {F H F' H' : Hp} (e : Same F F') : ∀ {fp : List Addr} {v : List V} {d : List D}, Owns c F H fp v d → (∀ p ∈ fp, F' p = none ∧ H' p = H p) → Owns c F' H' fp v d
  | _, _, _, .nil, _ => .nil
  | _, _, _, .cons a b, k => .cons (a.mono e fun p hp => k p (List.mem_append_left _ hp)) (b.mono e fun p hp => k p (List.mem_append_right _ hp))
theorem OwnKVs.mono {c : KW} {F H F' H' : Hp} (e : Same F F') : ∀ {fp : List Addr} {v : List (Key × V)} {d : List (D × D)}, OwnKVs c F H fp v d → (∀ p ∈ fp, F' p = none ∧ H' p = H p) → OwnKVs c F' H' fp v d
  | _, _, _, .nil, _ => .nil
  | _, _, _, .cons r a b, k => .cons (r.mono e) (a.mono e fun p hp => k p (List.mem_append_left _ hp)) (b.mono e fun p hp => k p (List.mem_append_right _ hp))
theorem OwnNVs.mono {c : KW} {F H F' H' : Hp} (e : Same F F') : ∀ {fp : List Addr} {v : List (NestedKey × Addr × Value)} {d : List (D × D)}, OwnNVs c F H fp v d → (∀ p ∈ fp, F' p = none ∧ H' p = H p) → OwnNVs c F' H' fp v d
  | _, _, _, .nil, _ => .nil
  | _, _, _, .cons r h1 h2 h3 rv a b, k => .cons (r.mono e) h1 h2 h3 rv (a.mono e fun p hp => k p (List.mem_append_left _ hp)) (b.mono e fun p hp => k p (List.mem_append_right _ hp))
end
/-- the own objects lent: F and what stands at fp -/
def lend (F H : Hp) (fp : List Addr) : Hp := fun a => if a ∈ fp then H a else F a
theorem lend_in {F H : Hp} {fp : List Addr} {a : Addr} (h : a ∈ fp) : lend F H fp a = H a := if_pos h
theorem lend_out {F H : Hp} {fp : List Addr} {a : Addr} (h : a ∉ fp) : lend F H fp a = F a := if_neg h
mutual
theorem Own.lent {c : KW} {F H F' : Hp} (e : Same F F') : ∀ {fp : List Addr} {v : V} {d : D}, Own c F H fp v d → (∀ p ∈ fp, F' p = H p) → Rep c F' v d
  | _, _, _, .froz r, _ => r.mono e
  | _, _, _, .lst _ h2 r, k => .lst ((k _ List.mem_cons_self).trans h2) (r.lent e fun p hp => k p (List.mem_cons_of_mem _ hp))
  | _, _, _, .dK _ h2 r, k => .dK ((k _ List.mem_cons_self).trans h2) (r.lent e fun p hp => k p (List.mem_cons_of_mem _ hp))
  | _, _, _, .dN _ h2 r, k => .dN ((k _ List.mem_cons_self).trans h2) (r.lent e fun p hp => k p (List.mem_cons_of_mem _ hp))
  | _, _, _, .setN _ h2 r pm, k => .setN ((k _ List.mem_cons_self).trans h2) (r.mono e) pm
theorem Owns.lent {c : KW} {F H F' : Hp} (e : Same F F') : ∀ {fp : List Addr} {v : List V} {d : List D}, Owns c F H fp v d → (∀ p ∈ fp, F' p = H p) → Reps c F' v d
  | _, _, _, .nil, _ => .nil
  | _, _, _, .cons a b, k => .cons (a.lent e fun p hp => k p (List.mem_append_left _ hp)) (b.lent e fun p hp => k p (List.mem_append_right _ hp))
theorem OwnKVs.lent {c : KW} {F H F' : Hp} (e : Same F F') : ∀ {fp : List Addr} {v : List (Key × V)} {d : List (D × D)}, OwnKVs c F H fp v d → (∀ p ∈ fp, F' p = H p) → KVs c F' v d
  | _, _, _, .nil, _ => .nil
  | _, _, _, .cons r a b, k => .cons (r.mono e) (a.lent e fun p hp => k p (List.mem_append_left _ hp)) (b.lent e fun p hp => k p (List.mem_append_right _ hp))
theorem OwnNVs.lent {c : KW} {F H F' : Hp} (e : Same F F') : ∀ {fp : List Addr} {v : List (NestedKey × Addr × Value)} {d : List (D × D)}, OwnNVs c F H fp v d → (∀ p ∈ fp, F' p = H p) → NVs c F' v d
  | _, _, _, .nil, _ => .nil
  | _, _, _, .cons r h1 h2 h3 rv a b, k => .cons (r.mono e) h1 h2 h3 rv (a.lent e fun p hp => k p (List.mem_append_left _ hp)) (b.lent e fun p hp => k p (List.mem_append_right _ hp))
end
mutual
/-- what is a key holds no list, dict, set -/
theorem Rep.keyAt {c : KW} {F F' : Hp} (k : ∀ a o, F a = some o → (∀ xs, o = .tup xs → F' a = some o) ∧ (∀ ob u, o = .frz ob u → F' a = some o)) : ∀ {v : V} {d : D}, Rep c F v d → d.isKey = true → Rep c F' v d
  | _, _, .non, _ => .non
  | _, _, .bl _, _ => .bl _
  | _, _, .int _, _ => .int _
  | _, _, .str _ o, _ => .str _ o
  | _, _, .tup s r, h => by
    refine .tup ?_ (Reps.keyAt k r (by unfold D.isKey at h; exact h))
    rcases s with (s | ⟨o, s⟩) | s
    · exact Or.inl (Or.inl ((k _ _ s).1 _ rfl))
    · exact Or.inl (Or.inr ⟨o, (k _ _ s).2 _ _ rfl⟩)
    · exact Or.inr s
  | _, _, .lst _ _, h => by unfold D.isKey at h; cases h
  | _, _, .scr _, h => by unfold D.isKey at h; cases h
  | _, _, .dK _ _, h => by unfold D.isKey at h; cases h
  | _, _, .dN _ _, h => by unfold D.isKey at h; cases h
  | _, _, .setN _ _ _, h => by unfold D.isKey at h; cases h
theorem Reps.keyAt {c : KW} {F F' : Hp} (k : ∀ a o, F a = some o → (∀ xs, o = .tup xs → F' a = some o) ∧ (∀ ob u, o = .frz ob u → F' a = some o)) : ∀ {vs : List V} {ds : List D}, Reps c F vs ds → D.areKeys ds = true → Reps c F' vs ds
  | _, _, .nil, _ => .nil
  | _, _, .cons a b, h => by
    unfold D.areKeys at h
    have h := Bool.and_eq_true_iff.mp h
    exact .cons (Rep.keyAt k a h.1) (Reps.keyAt k b h.2)
end

/-! ### the slots -/
inductive SlotR (c : KW) (F H : Hp) : Slot → Option V → List Addr → Prop
  | un {o : Option V} : SlotR c F H .un o []
  | val {v : V} {d : D} : Rep c F v d → SlotR c F H (.val d) (some v) []
  | own {v : V} {d : D} {fp : List Addr} : fp ≠ [] → Own c F H fp v d → SlotR c F H (.own d) (some v) fp
  | io {k : Nat} {v : V} {d : D} {fp : List Addr} : fp ≠ [] → Own c F H fp v d → IOs.io k = some v → SlotR c F H (.io k d) (some v) fp
inductive SlotsR (c : KW) (F H : Hp) : Env → L2.St → List Addr → Prop
  | nil {σ : L2.St} : SlotsR c F H [] σ []
  | cons {s : Slot} {o : Option V} {ρ : Env} {σ : L2.St} {fp fq : List Addr} : SlotR c F H s o fp → SlotsR c F H ρ σ fq → SlotsR c F H (s :: ρ) (o :: σ) (fp ++ fq)
theorem SlotR.at {c : KW} {F H : Hp} {s : Slot} {o : Option V} {fp : List Addr} (h : SlotR c F H s o fp) : ∀ p ∈ fp, F p = none ∧ OwnHO (H p) := by
  cases h with
  | un => intro p hp; cases hp
  | val _ => intro p hp; cases hp
  | own _ h => exact h.at
  | io _ h _ => exact h.at
theorem SlotsR.at {c : KW} {F H : Hp} : ∀ {ρ : Env} {σ : L2.St} {fp : List Addr}, SlotsR c F H ρ σ fp → ∀ p ∈ fp, F p = none ∧ OwnHO (H p)
  | _, _, _, .nil, p, hp => by cases hp
  | _, _, _, .cons a b, p, hp => (List.mem_append.mp hp).elim (a.at p) (b.at p)
theorem SlotR.mono {c : KW} {F H F' H' : Hp} (e : Same F F') {s : Slot} {o : Option V} {fp : List Addr} (h : SlotR c F H s o fp) (k : ∀ p ∈ fp, F' p = none ∧ H' p = H p) : SlotR c F' H' s o fp := by
  cases h with
  | un => exact .un
  | val r => exact .val (r.mono e)
  | own n r => exact .own n (r.mono e k)
  | io n r q => exact .io n (r.mono e k) q
theorem SlotsR.mono {c : KW} {F H F' H' : Hp} (e : Same F F') : ∀ {ρ : Env} {σ : L2.St} {fp : List Addr}, SlotsR c F H ρ σ fp → (∀ p ∈ fp, F' p = none ∧ H' p = H p) → SlotsR c F' H' ρ σ fp
  | _, _, _, .nil, _ => .nil
  | _, _, _, .cons a b, k => .cons (a.mono e fun p hp => k p (List.mem_append_left _ hp)) (b.mono e fun p hp => k p (List.mem_append_right _ hp))

/-- the state of a body: F0, H0 the entry; F what never changes any more, H all -/
structure ER (c : KW) (F0 H0 F H : Hp) (ρ : Env) (σ : L2.St) : Prop where
  g : Grow F0 H0 F H
  ex : ∃ fp, SlotsR c F H ρ σ fp ∧ fp.Nodup ∧ ∀ p ∈ fp, H0 p = none
theorem grow_own {F H F' H' : Hp} (g : Grow F H F' H') {p : Addr} (h1 : F p = none) (h2 : OwnHO (H p)) : F' p = none ∧ H' p = H p := by
  cases e : H p with
  | none => rw [e] at h2; exact h2.elim
  | some o =>
    refine ⟨?_, g.same p o e⟩
    cases e' : F' p with
    | none => rfl
    | some u =>
      rcases g.new p u e' with z | z
      · rw [h1] at z; cases z
      · rw [e] at z; cases z
theorem ER.mono {c : KW} {F0 H0 F H F' H' : Hp} {ρ : Env} {σ : L2.St} (h : ER c F0 H0 F H ρ σ) (g : Grow F H F' H') : ER c F0 H0 F' H' ρ σ := by
  obtain ⟨g0, fp, hs, hn, hf⟩ := h
  exact ⟨g0.trans g, fp, hs.mono g.sub fun p hp => grow_own g (hs.at p hp).1 (hs.at p hp).2, hn, hf⟩

/-- the slots' data: what is no own; what is lent, too -/
def Slot.plain : Slot → Option D
  | .val d => some d
  | _ => none
def Slot.lent : Slot → Option D
  | .val d => some d
  | .own d => some d
  | .io _ d => some d
  | .un => none
abbrev plain (ρ : Env) : PEnv := ρ.map Slot.plain
abbrev lent (ρ : Env) : PEnv := ρ.map Slot.lent
theorem SlotsR.plain {c : KW} {F H : Hp} : ∀ {ρ : Env} {σ : L2.St} {fp : List Addr}, SlotsR c F H ρ σ fp → Slots c F (TP.plain ρ) σ
  | _, _, _, .nil, i, d, h => by simp at h
  | _, _, _, .cons (s := s) a b, i, d, h => by
    cases i with
    | zero =>
      have h' : s.plain = some d := by simpa using h
      cases a with
      | un => cases h'
      | val r => cases h'; exact ⟨_, rfl, r⟩
      | own _ r => cases h'
      | io _ r _ => cases h'
    | succ i =>
      obtain ⟨v, h1, h2⟩ := b.plain i d (by simpa using h)
      exact ⟨v, by simpa using h1, h2⟩
theorem SlotsR.lent {c : KW} {F H F' : Hp} (e : Same F F') : ∀ {ρ : Env} {σ : L2.St} {fp : List Addr}, SlotsR c F H ρ σ fp → (∀ p ∈ fp, F' p = H p) → Slots c F' (TP.lent ρ) σ
  | _, _, _, .nil, _, i, d, h => by simp at h
  | _, _, _, .cons (s := s) a b, k, i, d, h => by
    cases i with
    | zero =>
      have h' : s.lent = some d := by simpa using h
      cases a with
      | un => cases h'
      | val r => cases h'; exact ⟨_, rfl, r.mono e⟩
      | own _ r => cases h'; exact ⟨_, rfl, r.lent e fun p hp => k p (List.mem_append_left _ hp)⟩
      | io _ r _ => cases h'; exact ⟨_, rfl, r.lent e fun p hp => k p (List.mem_append_left _ hp)⟩
    | succ i =>
      obtain ⟨v, h1, h2⟩ := b.lent e (fun p hp => k p (List.mem_append_right _ hp)) i d (by simpa using h)
      exact ⟨v, by simpa using h1, h2⟩
/-- the own objects taken back -/
def unlend (F : Hp) (fp : List Addr) : Hp := fun a => if a ∈ fp then none else F a
theorem unlend_in {F : Hp} {fp : List Addr} {a : Addr} (h : a ∈ fp) : unlend F fp a = none := if_pos h
theorem unlend_out {F : Hp} {fp : List Addr} {a : Addr} (h : a ∉ fp) : unlend F fp a = F a := if_neg h
theorem lend_sub {F H : Hp} {fp : List Addr} (n : ∀ p ∈ fp, F p = none) : Same F (lend F H fp) := fun a o e => by
  rw [lend_out (fun h => by rw [n a h] at e; cases e)]
  exact e
theorem lend_into {F H : Hp} {fp : List Addr} (s : Same F H) : Same (lend F H fp) H := fun a o e => by
  by_cases h : a ∈ fp
  · rw [lend_in h] at e; exact e
  · rw [lend_out h] at e; exact s a o e
theorem unlend_grow {F H F' H' : Hp} {fp : List Addr} (n : ∀ p ∈ fp, F p = none ∧ OwnHO (H p)) (g : Grow (lend F H fp) H F' H') : Grow F H (unlend F' fp) H' := by
  refine ⟨fun a o e => ?_, g.same, fun a o e => ?_, fun a o e => ?_⟩
  · have h : a ∉ fp := fun h => by rw [(n a h).1] at e; cases e
    rw [unlend_out h]
    exact g.sub a o (by rw [lend_out h]; exact e)
  · by_cases h : a ∈ fp
    · rw [unlend_in h] at e; cases e
    · rw [unlend_out h] at e; exact g.into a o e
  · by_cases h : a ∈ fp
    · rw [unlend_in h] at e; cases e
    · rw [unlend_out h] at e
      rcases g.new a o e with z | z
      · rw [lend_out h] at z; exact .inl z
      · exact .inr z
theorem unlend_rep {c : KW} {F H F' H' : Hp} {fp : List Addr} (n : ∀ p ∈ fp, F p = none ∧ OwnHO (H p)) (g : Grow (lend F H fp) H F' H') {v : V} {d : D} (r : Rep c F' v d) (k : d.isKey = true) : Rep c (unlend F' fp) v d := by
  refine r.keyAt (fun a o e => ?_) k
  have out : (∀ h : a ∈ fp, OwnHO (some o)) := fun h => by
    have h1 := (n a h).2
    cases e1 : H a with
    | none => rw [e1] at h1; exact h1.elim
    | some u =>
      have e2 := g.into a o e
      have e3 := g.same a u e1
      rw [e2] at e3
      cases e3
      rw [e1] at h1
      exact h1
  constructor
  · rintro xs rfl
    rw [unlend_out (fun h => out h)]
    exact e
  · rintro ob u rfl
    rw [unlend_out (fun h => out h)]
    exact e

/-! ### expressions within statements -/
/-- a reading over the owning slots -/
def tE (X : Cx) (E : WX) (f : Env → Out D) : TE := fun σ H Q => ∃ ρ F F0 H0, ER (cw X) F0 H0 F H ρ σ ∧ At (cw X) X.mg (xsE E σ) (Rep (cw X)) F H (f ρ) Q
def tEb (X : Cx) (E : WX) (f : Env → Out Bool) : TT := fun σ H Q => ∃ ρ F F0 H0, ER (cw X) F0 H0 F H ρ σ ∧ At (cw X) X.mg (xsE E σ) RepB F H (f ρ) Q
structure SE (X : Cx) (E : WX) (e : Expr) (f : Env → Out D) : Prop where
  pe : PE X e (tE X E f)
structure ST (X : Cx) (E : WX) (e : Expr) (f : Env → Out Bool) : Prop where
  pt : PT X e (tEb X E f)
/-- with the plain slots alone -/
def pP {α : Type} (f : PEnv → Out α) : Env → Out α := fun ρ => f (plain ρ)
/-- with the own ones lent: what comes is a key (holds none of them) -/
def keyed (d : D) : Out D := if d.isKey = true then .ok d else .fail
def keyX (x : Exn) : Bool := x.fs.all fun p => p.2.isKey
def pL (f : PEnv → Out D) : Env → Out D := fun ρ => match f (lent ρ) with
  | .ok d => keyed d
  | .exc x => if keyX x = true then .exc x else .fail
  | .fail => .fail
def pLb (f : PEnv → Out Bool) : Env → Out Bool := fun ρ => match f (lent ρ) with
  | .ok b => .ok b
  | .exc x => if keyX x = true then .exc x else .fail
  | .fail => .fail
theorem unlend_x {c : KW} {mg : Str → Option Value} {F H F' H' : Hp} {fp : List Addr} (n : ∀ p ∈ fp, F p = none ∧ OwnHO (H p)) (g : Grow (lend F H fp) H F' H') {cl : Value} {dx : Option Addr} {x : Exn} (r : XRep c mg F' H' cl dx x) (k : keyX x = true) :
    XRep c mg (unlend F' fp) H' cl dx x := by
  obtain ⟨C, d, vs, h1, h2, h3, h4, h5, h6⟩ := r.ex
  refine ⟨C, d, vs, h1, h2, h3, h4, ?_, h6⟩
  have all : ∀ (us : List V) (ds : List D), Reps c F' us ds → (∀ d ∈ ds, d.isKey = true) → Reps c (unlend F' fp) us ds := by
    intro us ds r
    induction ds generalizing us with
    | nil => intro _; cases r; exact .nil
    | cons d ds ih =>
      intro hk
      cases r with
      | cons a t => exact .cons (unlend_rep n g a (hk d List.mem_cons_self)) (ih _ t fun d' hd => hk d' (List.mem_cons_of_mem _ hd))
  refine all _ _ h5 fun d hd => ?_
  obtain ⟨p, hp, rfl⟩ := List.mem_map.mp hd
  unfold keyX at k
  rw [List.all_eq_true] at k
  exact k p hp
section
variable {X : Cx} {E : WX} {e : Expr} {f : PEnv → Out D} {c : PEnv → Out Bool}
theorem se_plain (h : VE X E e f) : SE X E e (pP f) := ⟨pe_weak h.pe fun σ H Q ⟨ρ, F, F0, H0, er, q⟩ => by
  obtain ⟨fp, hs, _, _⟩ := er.ex
  exact ⟨plain ρ, F, er.g.into, hs.plain, q⟩⟩
theorem st_plain (h : VT X E e c) : ST X E e (pP c) := ⟨pt_weak h.pt fun σ H Q ⟨ρ, F, F0, H0, er, q⟩ => by
  obtain ⟨fp, hs, _, _⟩ := er.ex
  exact ⟨plain ρ, F, er.g.into, hs.plain, q⟩⟩
theorem se_lent (h : VE X E e f) : SE X E e (pL f) := ⟨pe_weak h.pe fun σ H Q ⟨ρ, F, F0, H0, er, q⟩ => by
  obtain ⟨fp, hs, _, _⟩ := er.ex
  have n := hs.at
  refine ⟨lent ρ, lend F H fp, lend_into er.g.into, hs.lent (lend_sub fun p hp => (n p hp).1) fun p hp => lend_in hp, ?_⟩
  unfold pL at q
  cases hf : f (lent ρ) with
  | ok d =>
    rw [hf] at q
    dsimp only at q
    unfold keyed at q
    by_cases hk : d.isKey = true
    · rw [if_pos hk] at q
      exact fun v F' H' g r => q v _ H' (unlend_grow n g) (unlend_rep n g r hk)
    · rw [if_neg hk] at q; exact q.elim
  | exc x =>
    rw [hf] at q
    dsimp only at q
    by_cases hk : keyX x = true
    · rw [if_pos hk] at q
      exact fun cl dx F' H' g r => q cl dx _ H' (unlend_grow n g) (unlend_x n g r hk)
    · rw [if_neg hk] at q; exact q.elim
  | fail => rw [hf] at q; exact q.elim⟩
theorem st_lent (h : VT X E e c) : ST X E e (pLb c) := ⟨pt_weak h.pt fun σ H Q ⟨ρ, F, F0, H0, er, q⟩ => by
  obtain ⟨fp, hs, _, _⟩ := er.ex
  have n := hs.at
  refine ⟨lent ρ, lend F H fp, lend_into er.g.into, hs.lent (lend_sub fun p hp => (n p hp).1) fun p hp => lend_in hp, ?_⟩
  unfold pLb at q
  cases hf : c (lent ρ) with
  | ok d =>
    rw [hf] at q
    exact fun v F' H' g r => q v _ H' (unlend_grow n g) r
  | exc x =>
    rw [hf] at q
    dsimp only at q
    by_cases hk : keyX x = true
    · rw [if_pos hk] at q
      exact fun cl dx F' H' g r => q cl dx _ H' (unlend_grow n g) (unlend_x n g r hk)
    · rw [if_neg hk] at q; exact q.elim
  | fail => rw [hf] at q; exact q.elim⟩
end
end TP

end
set_option Elab.async false
set_option linter.all false
set_option maxRecDepth 100000
/-! The values layer: statements. -/
noncomputable section
namespace TP
variable [IOs]
open PySem PySem.Spec L2

inductive Res where
  | nx (ρ : Env) | bk (ρ : Env) | ct (ρ : Env) | rt (d : D) | ret (s : Slot) (ρ : Env) | exc (x : Exn) (ρ : Env) | fail
/-- what is wanted of a statement's outcome -/
def Post (X : Cx) (E : WX) (D : Ends) (F0 H0 : Hp) : Res → Prop
  | .nx ρ => ∀ σ F H, ER (cw X) F0 H0 F H ρ σ → D.nx σ H
  | .bk ρ => ∀ σ F H, ER (cw X) F0 H0 F H ρ σ → D.bk σ H
  | .ct ρ => ∀ σ F H, ER (cw X) F0 H0 F H ρ σ → D.ct σ H
  | .rt d => ∀ v F H, Grow F0 H0 F H → Rep (cw X) F v d → D.rt v H
  | .ret s ρ => ∀ v σ F H, ER (cw X) F0 H0 F H (s :: ρ) (some v :: σ) → D.rt v H
  | .exc x ρ => ∀ cl dx σ F H, ER (cw X) F0 H0 F H ρ σ → XRep (cw X) X.mg F H cl dx x → E cl dx σ H
  | .fail => False
def tS (X : Cx) (E : WX) (f : Env → Res) : TS := fun D σ H => ∃ ρ F F0 H0, ER (cw X) F0 H0 F H ρ σ ∧ Post X E D F0 H0 (f ρ)
structure VS (X : Cx) (E : WX) (st : Stmt) (f : Env → Res) : Prop where
  ps : PS X st (tS X E f)
structure VSs (X : Cx) (E : WX) (st : List Stmt) (f : Env → Res) : Prop where
  pss : PSs X st (tS X E f)
theorem ps_weak {X : Cx} {st : Stmt} {t t' : TS} (h : PS X st t) (w : ∀ D σ H, t' D σ H → t D σ H) : PS X st t' := ⟨fun pins s σ H D I q => h.run pins s σ H D I (w D σ H q)⟩
theorem pss_weak {X : Cx} {st : List Stmt} {t t' : TS} (h : PSs X st t) (w : ∀ D σ H, t' D σ H → t D σ H) : PSs X st t' := ⟨fun pins s σ H D I q => h.run pins s σ H D I (w D σ H q)⟩

section
variable {c : KW} {F0 H0 F H : Hp} {ρ : Env} {σ : L2.St}
/-! ### changing one slot -/
theorem SlotsR.split : ∀ {ρ : Env} {σ : L2.St} {fp : List Addr} {i : Nat} {s : Slot}, SlotsR c F H ρ σ fp → ρ[i]? = some s → ∃ fa fi fb o, fp = fa ++ (fi ++ fb) ∧ SlotR c F H s o fi ∧ σ[i]? = some o ∧
    ∀ (F' H' : Hp) (s' : Slot) (o' : Option V) (fn : List Addr), Same F F' → (∀ p, p ∈ fa ∨ p ∈ fb → F' p = none ∧ H' p = H p) → SlotR c F' H' s' o' fn → SlotsR c F' H' (ρ.set i s') (σ.set i o') (fa ++ (fn ++ fb))
  | _, _, _, _, _, .nil, h => by simp at h
  | _, _, _, 0, s, .cons (s := s0) (fp := fp) (fq := fq) a b, h => by
    have e : s0 = s := by simpa using h
    subst e
    exact ⟨[], fp, fq, _, rfl, a, by simp, fun F' H' s' o' fn e k r => by
      show SlotsR c F' H' (s' :: _) (o' :: _) (fn ++ fq)
      exact .cons r (b.mono e fun p hp => k p (.inr hp))⟩
  | _, _, _, i + 1, s, .cons (fp := fp) (fq := fq) a b, h => by
    obtain ⟨fa, fi, fb, o, e, h1, h2, h3⟩ := SlotsR.split (i := i) b (by simpa using h)
    refine ⟨fp ++ fa, fi, fb, o, by rw [e, List.append_assoc], h1, by simpa using h2, fun F' H' s' o' fn e k r => ?_⟩
    rw [List.append_assoc]
    exact .cons (a.mono e fun p hp => k p (.inl (List.mem_append_left _ hp))) (h3 F' H' s' o' fn e (fun p hp => k p (hp.elim (fun z => .inl (List.mem_append_right _ z)) .inr)) r)
theorem SlotsR.out : ∀ {ρ : Env} {σ : L2.St} {fp : List Addr} {i : Nat} {o : Option V}, SlotsR c F H ρ σ fp → ρ[i]? = none → SlotsR c F H ρ (σ.set i o) fp
  | _, _, _, _, _, .nil, _ => .nil
  | _, _, _, 0, _, .cons a b, h => by simp at h
  | _, _, _, i + 1, _, .cons a b, h => .cons a (SlotsR.out (i := i) b (by simpa using h))
theorem nodup_part {fa fi fb fn : List Addr} (h : (fa ++ (fi ++ fb)).Nodup) (hn : fn.Nodup) (hd : ∀ p ∈ fn, p ∉ fa ∧ p ∉ fb) : (fa ++ (fn ++ fb)).Nodup := by
  rw [List.nodup_append] at h ⊢
  obtain ⟨h1, h2, h3⟩ := h
  rw [List.nodup_append] at h2
  refine ⟨h1, ?_, fun a ha b hb => ?_⟩
  · rw [List.nodup_append]
    exact ⟨hn, h2.2.1, fun a ha b hb e => (hd a ha).2 (e ▸ hb)⟩
  · rcases List.mem_append.mp hb with z | z
    · exact fun e => (hd b z).1 (e ▸ ha)
    · exact h3 a ha b (List.mem_append_right _ z)
/-- a slot takes something that is new, or nobody's own -/
theorem ER.put {i : Nat} {s' : Slot} {o' : Option V} {fn : List Addr} {F1 H1 : Hp} (h : ER c F0 H0 F H ρ σ) (g1 : Grow F H F1 H1) (r : SlotR c F1 H1 s' o' fn) (hn : fn.Nodup) (fr : ∀ p ∈ fn, H p = none) :
    ER c F0 H0 F1 H1 (ρ.set i s') (σ.set i o') := by
  obtain ⟨g, fp, hs, nd, hf⟩ := h
  have n := hs.at
  have hs1 := hs.mono g1.sub fun p hp => grow_own g1 (n p hp).1 (n p hp).2
  have out : ∀ p ∈ fn, p ∉ fp := fun p hp z => by
    have y := (n p z).2
    rw [fr p hp] at y
    exact y
  cases e : ρ[i]? with
  | none =>
    have hl : ρ.length ≤ i := List.getElem?_eq_none_iff.mp e
    exact ⟨g.trans g1, fp, by rw [List.set_eq_of_length_le hl]; exact hs1.out e, nd, hf⟩
  | some s =>
    obtain ⟨fa, fi, fb, o, ef, _, _, k⟩ := hs1.split e
    subst ef
    have dd : ∀ p ∈ fn, p ∉ fa ∧ p ∉ fb := fun p hp => ⟨fun z => out p hp (List.mem_append_left _ z), fun z => out p hp (List.mem_append_right _ (List.mem_append_right _ z))⟩
    refine ⟨g.trans g1, _, k F1 H1 s' o' fn (Same.refl _) (fun p hp => ?_) r, nodup_part nd hn dd, fun p hp => ?_⟩
    · have : p ∈ fa ++ (fi ++ fb) := by
        rcases hp with z | z
        · exact List.mem_append_left _ z
        · exact List.mem_append_right _ (List.mem_append_right _ z)
      exact ⟨(hs1.at p this).1, rfl⟩
    · rcases List.mem_append.mp hp with z | z
      · exact hf p (List.mem_append_left _ z)
      · rcases List.mem_append.mp z with z | z
        · exact g.same.free (fr p z)
        · exact hf p (List.mem_append_right _ (List.mem_append_right _ z))
theorem ER.val {i : Nat} {v : V} {d : D} (h : ER c F0 H0 F H ρ σ) (r : Rep c F v d) : ER c F0 H0 F H (ρ.set i (.val d)) (σ.set i (some v)) :=
  h.put (fn := []) (Grow.refl h.g.into) (.val r) List.nodup_nil (fun p hp => by cases hp)
/-- forgetting -/
theorem SlotsR.forget : ∀ {ρ : Env} {σ : L2.St} {fp : List Addr} {i : Nat}, SlotsR c F H ρ σ fp → ∃ fq, SlotsR c F H (ρ.set i .un) σ fq ∧ fq.Sublist fp
  | _, _, _, _, .nil => ⟨[], .nil, List.Sublist.refl _⟩
  | _, _, _, 0, .cons (fp := fp) (fq := fq) a b => ⟨[] ++ fq, .cons .un b, List.sublist_append_right _ _⟩
  | _, _, _, i + 1, .cons a b => by
    obtain ⟨fq, h1, h2⟩ := SlotsR.forget (i := i) b
    exact ⟨_, .cons a h1, List.Sublist.append (List.Sublist.refl _) h2⟩
theorem ER.forget {i : Nat} (h : ER c F0 H0 F H ρ σ) : ER c F0 H0 F H (ρ.set i .un) σ := by
  obtain ⟨g, fp, hs, nd, hf⟩ := h
  obtain ⟨fq, h1, h2⟩ := hs.forget (i := i)
  exact ⟨g, fq, h1, nd.sublist h2, fun p hp => hf p (h2.subset hp)⟩
def kill (ρ : Env) : List Nat → Env
  | [] => ρ
  | i :: r => kill (ρ.set i .un) r
theorem ER.kill : ∀ {vs : List Nat} {ρ : Env}, ER c F0 H0 F H ρ σ → ER c F0 H0 F H (TP.kill ρ vs) σ
  | [], _, h => h
  | _ :: r, _, h => ER.kill (vs := r) h.forget
theorem ER.nil (g : Grow F0 H0 F H) : ER c F0 H0 F H [] σ := ⟨g, [], .nil, List.nodup_nil, fun p hp => by cases hp⟩
/-- the state as the entry of what comes -/
theorem ER.rebase (h : ER c F0 H0 F H ρ σ) : ∃ H1, ER c F H1 F H ρ σ ∧ (∀ F3 H3, Grow F H1 F3 H3 → Grow F0 H0 F3 H3) ∧ ∀ F3 H3 ρ3 σ3, ER c F H1 F3 H3 ρ3 σ3 → ER c F0 H0 F3 H3 ρ3 σ3 := by
  obtain ⟨g, fp, hs, nd, hf⟩ := h
  refine ⟨unlend H fp, ⟨⟨Same.refl _, fun a o e => ?_, g.into, fun a o e => .inl e⟩, fp, hs, nd, fun p hp => unlend_in hp⟩, ?_, ?_⟩
  · by_cases z : a ∈ fp
    · rw [unlend_in z] at e; cases e
    · rw [unlend_out z] at e; exact e
  all_goals
    have key : ∀ F3 H3, Grow F (unlend H fp) F3 H3 → Grow F0 H0 F3 H3 := fun F3 H3 g3 => by
      refine ⟨g.sub.trans g3.sub, fun a o e => ?_, g3.into, fun a o e => ?_⟩
      · have z : a ∉ fp := fun z => by rw [hf a z] at e; cases e
        exact g3.same a o (by rw [unlend_out z]; exact g.same a o e)
      · rcases g3.new a o e with z | z
        · exact g.new a o z
        · by_cases y : a ∈ fp
          · exact .inr (hf a y)
          · rw [unlend_out y] at z
            exact .inr (g.same.free z)
  · exact key
  · rintro F3 H3 ρ3 σ3 ⟨g3, fq, hq, nq, h0⟩
    refine ⟨key F3 H3 g3, fq, hq, nq, fun p hp => ?_⟩
    have z := h0 p hp
    by_cases y : p ∈ fp
    · exact hf p y
    · rw [unlend_out y] at z
      exact g.same.free z
end

section
variable {X : Cx} {E : WX} {e : Expr} {f : Env → Out D} {cnd : Env → Out Bool} {b g : Env → Res} {st : Stmt} {rest body : List Stmt} {pos : Pos}

/-- from an expression's outcome -/
theorem Post.bindE {D : Ends} {F0 H0 F H : Hp} {ρ : Env} {σ : L2.St} {k : TP.D → Res} (er : ER (cw X) F0 H0 F H ρ σ)
    (h : Post X E D F0 H0 (match f ρ with | .ok d => k d | .exc x => .exc x ρ | .fail => .fail)) {Q : VK} (w : ∀ v d F1 H1, f ρ = .ok d → ER (cw X) F0 H0 F1 H1 ρ σ → Rep (cw X) F1 v d → Post X E D F0 H0 (k d) → Q v H1) : tE X E f σ H Q := by
  refine ⟨ρ, F, F0, H0, er, ?_⟩
  cases hf : f ρ with
  | ok d => rw [hf] at h; exact fun v F1 H1 g r => w v d F1 H1 hf (er.mono g) r h
  | exc x => rw [hf] at h; exact fun cl dx F1 H1 g r => h cl dx σ F1 H1 (er.mono g) r
  | fail => rw [hf] at h; exact h
theorem Post.bindT {D : Ends} {F0 H0 F H : Hp} {ρ : Env} {σ : L2.St} {k : Bool → Res} (er : ER (cw X) F0 H0 F H ρ σ)
    (h : Post X E D F0 H0 (match cnd ρ with | .ok d => k d | .exc x => .exc x ρ | .fail => .fail)) {Q : Bool → Hp → Prop} (w : ∀ d F1 H1, cnd ρ = .ok d → ER (cw X) F0 H0 F1 H1 ρ σ → Post X E D F0 H0 (k d) → Q d H1) : tEb X E cnd σ H Q := by
  refine ⟨ρ, F, F0, H0, er, ?_⟩
  cases hf : cnd ρ with
  | ok d =>
    rw [hf] at h
    intro v F1 H1 g r
    have r' : v = d := r
    subst r'
    exact w v F1 H1 hf (er.mono g) h
  | exc x => rw [hf] at h; exact fun cl dx F1 H1 g r => h cl dx σ F1 H1 (er.mono g) r
  | fail => rw [hf] at h; exact h

/-! ### blocks -/
def sNil : Env → Res := fun ρ => .nx ρ
def sSeq (f g : Env → Res) : Env → Res := fun ρ => match f ρ with
  | .nx ρ' => g ρ'
  | r => r
theorem vss_nil : VSs X E [] sNil := ⟨pss_weak pss_nil fun D σ H ⟨ρ, F, F0, H0, er, q⟩ => q σ F H er⟩
theorem vss_cons (h1 : VS X E st b) (h2 : VSs X E rest g) : VSs X E (st :: rest) (sSeq b g) :=
  ⟨pss_weak (pss_cons h1.ps h2.pss) fun D σ H ⟨ρ, F, F0, H0, er, q⟩ => by
    refine ⟨ρ, F, F0, H0, er, ?_⟩
    unfold sSeq at q
    cases hf : b ρ with
    | nx ρ' => rw [hf] at q; exact fun σ' F' H' er' => ⟨ρ', F', F0, H0, er', q⟩
    | bk ρ' => rw [hf] at q; exact q
    | ct ρ' => rw [hf] at q; exact q
    | rt d => rw [hf] at q; exact q
    | ret s ρ' => rw [hf] at q; exact q
    | exc x ρ' => rw [hf] at q; exact q
    | fail => rw [hf] at q; exact q⟩
theorem vss_one (h1 : VS X E st b) : VSs X E [st] b := ⟨pss_one h1.ps⟩
theorem vs_pass : VS X E (.Pass pos) sNil := ⟨ps_weak ps_pass fun D σ H ⟨ρ, F, F0, H0, er, q⟩ => q σ F H er⟩
def sBreak : Env → Res := fun ρ => .bk ρ
def sCont : Env → Res := fun ρ => .ct ρ
theorem vs_break : VS X E (.Break pos) sBreak := ⟨ps_weak ps_break fun D σ H ⟨ρ, F, F0, H0, er, q⟩ => q σ F H er⟩
theorem vs_continue : VS X E (.Continue pos) sCont := ⟨ps_weak ps_continue fun D σ H ⟨ρ, F, F0, H0, er, q⟩ => q σ F H er⟩
/-- what is dead is forgotten -/
def sKill (vs : List Nat) (f : Env → Res) : Env → Res := fun ρ => match f ρ with
  | .nx ρ' => .nx (kill ρ' vs)
  | .ct ρ' => .ct (kill ρ' vs)
  | r => r
theorem post_kill {D : Ends} {F0 H0 : Hp} {vs : List Nat} {r : Res} (q : Post X E D F0 H0 (match r with | .nx ρ' => .nx (kill ρ' vs) | .ct ρ' => .ct (kill ρ' vs) | r => r)) : Post X E D F0 H0 r := by
  cases r with
  | nx ρ => exact fun σ F H er => q σ F H er.kill
  | ct ρ => exact fun σ F H er => q σ F H er.kill
  | bk ρ => exact q
  | rt d => exact q
  | ret s ρ => exact q
  | exc x ρ => exact q
  | fail => exact q
theorem vs_kill (vs : List Nat) (h : VS X E st b) : VS X E st (sKill vs b) := ⟨ps_weak h.ps fun D σ H ⟨ρ, F, F0, H0, er, q⟩ => ⟨ρ, F, F0, H0, er, post_kill q⟩⟩
theorem vss_kill (vs : List Nat) (h : VSs X E body b) : VSs X E body (sKill vs b) := ⟨pss_weak h.pss fun D σ H ⟨ρ, F, F0, H0, er, q⟩ => ⟨ρ, F, F0, H0, er, post_kill q⟩⟩

/-! ### small statements -/
def sExpr (f : Env → Out D) : Env → Res := fun ρ => match f ρ with
  | .ok _ => .nx ρ
  | .exc x => .exc x ρ
  | .fail => .fail
theorem vs_expr (h : SE X E e f) (hs : swapsWith e none pos.line X.env = pure false := by rfl) : VS X E (.Expr e pos) (sExpr f) :=
  ⟨ps_weak (ps_expr h.pe hs) fun D σ H ⟨ρ, F, F0, H0, er, q⟩ => Post.bindE (k := fun _ => .nx ρ) er q fun v d F1 H1 _ er1 r q1 => q1 σ F1 H1 er1⟩
theorem vs_doc {x j pos'} : VS X E (.Expr (.Constant (.str x) j pos) pos') sNil := ⟨ps_weak ps_doc fun D σ H ⟨ρ, F, F0, H0, er, q⟩ => q σ F H er⟩
def sSet (i : Nat) (f : Env → Out D) : Env → Res := fun ρ => match f ρ with
  | .ok d => .nx (ρ.set i (.val d))
  | .exc x => .exc x ρ
  | .fail => .fail
theorem vs_set (i : Nat) {x : Str} {pos' : Pos} (hN : X.N.Nodup) (h : SE X E e f) (hi : X.N[i]? = some x := by rfl) (hx : Loc X.env.scope x := by first | exact Or.inl rfl | exact Or.inr rfl) (hs : swapsWith e (some (.Name x pos')) pos.line X.env = pure false := by rfl)
    (hf : X.fn x = true ∨ X.env.scope.names.lookup x = some .local := by first | exact .inl rfl | exact .inr rfl) : VS X E (.Assign [.Name x pos'] e pos) (sSet i f) :=
  ⟨ps_weak (ps_set hN hi hx h.pe hs hf) fun D σ H ⟨ρ, F, F0, H0, er, q⟩ => Post.bindE (k := fun d => .nx (ρ.set i (.val d))) er q fun v d F1 H1 _ er1 r q1 => q1 _ F1 H1 (er1.val r)⟩
/-- return e: what is own goes along -/
def sRet (f : PEnv → Out D) : Env → Res := fun ρ => match f (lent ρ) with
  | .ok d => .rt d
  | .exc x => if keyX x = true then .exc x ρ else .exc x []
  | .fail => .fail
theorem lend_grow {c : KW} {F0 H0 F H F' H' : Hp} {ρ : Env} {σ : L2.St} {fp : List Addr} (g0 : Grow F0 H0 F H) (hs : SlotsR c F H ρ σ fp) (hf : ∀ p ∈ fp, H0 p = none) (g : Grow (lend F H fp) H F' H') : Grow F0 H0 F' H' := by
  refine ⟨(g0.sub.trans (lend_sub fun p hp => (hs.at p hp).1)).trans g.sub, g0.same.trans g.same, g.into, fun a o e => ?_⟩
  rcases g.new a o e with z | z
  · by_cases y : a ∈ fp
    · exact .inr (hf a y)
    · rw [lend_out y] at z
      exact g0.new a o z
  · exact .inr (g0.same.free z)
theorem vs_ret {f : PEnv → Out D} (h : VE X E e f) : VS X E (.Return (some e) pos) (sRet f) :=
  ⟨ps_weak (ps_ret h.pe) fun D σ H ⟨ρ, F, F0, H0, er, q⟩ => by
    obtain ⟨g0, fp, hs, nd, hf⟩ := er
    have n := hs.at
    refine ⟨lent ρ, lend F H fp, lend_into g0.into, hs.lent (lend_sub fun p hp => (n p hp).1) fun p hp => lend_in hp, ?_⟩
    unfold sRet at q
    cases ho : f (lent ρ) with
    | ok d => rw [ho] at q; exact fun v F1 H1 g r => q v F1 H1 (lend_grow g0 hs hf g) r
    | exc x =>
      rw [ho] at q
      dsimp only at q
      intro cl dx F1 H1 g r
      by_cases hk : keyX x = true
      · rw [if_pos hk] at q
        exact q cl dx σ _ H1 (ER.mono ⟨g0, fp, hs, nd, hf⟩ (unlend_grow n g)) (unlend_x n g r hk)
      · rw [if_neg hk] at q
        exact q cl dx σ F1 H1 (ER.nil (lend_grow g0 hs hf g)) r
    | fail => rw [ho] at q; exact q⟩
def sRetN : Env → Res := fun _ => .rt .non
theorem vs_retN : VS X E (.Return none pos) sRetN := ⟨ps_weak ps_retN fun D σ H ⟨ρ, F, F0, H0, er, q⟩ => q .non F H er.g .non⟩
def sIf (c : Env → Out Bool) (f g : Env → Res) : Env → Res := fun ρ => match c ρ with
  | .ok k => if k = true then f ρ else g ρ
  | .exc x => .exc x ρ
  | .fail => .fail
theorem vs_if {t : Expr} {a d : List Stmt} (hc : ST X E t cnd) (ha : VSs X E a b) (hb : VSs X E d g) : VS X E (.If t a d pos) (sIf cnd b g) :=
  ⟨ps_weak (ps_if hc.pt ha.pss hb.pss) fun D σ H ⟨ρ, F, F0, H0, er, q⟩ => Post.bindT (k := fun k => if k = true then b ρ else g ρ) er q fun k F1 H1 _ er1 q1 => by
    cases k with
    | true => exact ⟨ρ, F1, F0, H0, er1, q1⟩
    | false => exact ⟨ρ, F1, F0, H0, er1, q1⟩⟩

/-! ### targets -/
abbrev TgF := D → Env → Option Env
def tgR (X : Cx) (g : TgF) : TG := fun v σ H Q => ∃ ρ F F0 H0 d, ER (cw X) F0 H0 F H ρ σ ∧ Rep (cw X) F v d ∧ ∃ ρ', g d ρ = some ρ' ∧ ∀ σ', ER (cw X) F0 H0 F H ρ' σ' → Q σ' H
def tgRs (X : Cx) (g : List D → Env → Option Env) : TGs := fun vs σ H Q => ∃ ρ F F0 H0 ds, ER (cw X) F0 H0 F H ρ σ ∧ Reps (cw X) F vs ds ∧ ∃ ρ', g ds ρ = some ρ' ∧ ∀ σ', ER (cw X) F0 H0 F H ρ' σ' → Q σ' H
structure VG (X : Cx) (t : Expr) (g : TgF) : Prop where
  pg : PG X t (tgR X g)
structure VGs (X : Cx) (ts : List Expr) (g : List D → Env → Option Env) : Prop where
  pgs : PGs X ts (tgRs X g)
theorem pg_weak {t : Expr} {g g' : TG} (h : PG X t g) (w : ∀ v σ H Q, g' v σ H Q → g v σ H Q) : PG X t g' := ⟨fun pins s σ H v u Q I r q => h.run pins s σ H v u Q I r (w v σ H Q q)⟩
theorem pgs_weak {t : List Expr} {g g' : TGs} (h : PGs X t g) (w : ∀ v σ H Q, g' v σ H Q → g v σ H Q) : PGs X t g' := ⟨fun pins s σ H v u Q I r q => h.run pins s σ H v u Q I r (w v σ H Q q)⟩
def tgName (i : Nat) : TgF := fun d ρ => some (ρ.set i (.val d))
theorem vg_name (i : Nat) {x : Str} (hN : X.N.Nodup) (hi : X.N[i]? = some x := by rfl) (hx : Loc X.env.scope x := by first | exact Or.inl rfl | exact Or.inr rfl) (hf : X.fn x = true ∨ X.env.scope.names.lookup x = some .local := by first | exact .inl rfl | exact .inr rfl) : VG X (.Name x pos) (tgName i) :=
  ⟨pg_weak (pg_name hN hi hx hf) fun v σ H Q ⟨ρ, F, F0, H0, d, er, r, ρ', e, q⟩ => by cases e; exact q _ (er.val r)⟩
def tgNil : List D → Env → Option Env := fun ds ρ => match ds with
  | [] => some ρ
  | _ => none
def tgCons (g : TgF) (gs : List D → Env → Option Env) : List D → Env → Option Env := fun ds ρ => match ds with
  | d :: r => (g d ρ).bind (gs r)
  | [] => none
theorem vgs_nil : VGs X [] tgNil := ⟨pgs_weak pgs_nil fun v σ H Q ⟨ρ, F, F0, H0, ds, er, r, ρ', e, q⟩ => by
  cases r with
  | nil => cases e; exact ⟨rfl, q σ er⟩
  | cons _ _ => cases e⟩
theorem vgs_cons {t : Expr} {ts : List Expr} {g : TgF} {gs : List D → Env → Option Env} (h1 : VG X t g) (h2 : VGs X ts gs) (hs : (assignEach (t :: ts) X.env).map (·.2) = assign t X.env :: (assignEach ts X.env).map (·.2) := by rfl) : VGs X (t :: ts) (tgCons g gs) :=
  ⟨pgs_weak (pgs_cons h1.pg h2.pgs hs) fun v σ H Q ⟨ρ, F, F0, H0, ds, er, r, ρ', e, q⟩ => by
    cases r with
    | nil => cases e
    | @cons v1 vr d1 dr r1 r2 =>
      have e' : (g d1 ρ).bind (gs dr) = some ρ' := e
      cases hg : g d1 ρ with
      | none => rw [hg] at e'; cases e'
      | some ρ1 =>
        rw [hg] at e'
        exact ⟨v1, vr, rfl, ρ, F, F0, H0, d1, er, r1, ρ1, hg, fun σ1 er1 => ⟨ρ1, F, F0, H0, dr, er1, r2, ρ', e', q⟩⟩⟩
def tgTup (n : Nat) (gs : List D → Env → Option Env) : TgF := fun d ρ => match d with
  | .tup ds => if ds.length = n then gs ds ρ else none
  | .lst ds => if ds.length = n then gs ds ρ else none
  | _ => none
theorem pg_or {t : Expr} {g g' : TG} (h : PG X t g) (h' : PG X t g') : PG X t fun v σ H Q => g v σ H Q ∨ g' v σ H Q := ⟨fun pins s σ H v u Q I r q => q.elim (fun q => h.run pins s σ H v u Q I r q) fun q => h'.run pins s σ H v u Q I r q⟩
theorem vg_tup {es : List Expr} {k n : Nat} {gs : List D → Env → Option Env} (hc : X.calm = true) (h : VGs X es gs) (hn : (assignEach es X.env).length = n := by rfl) (hst : (assignEach es X.env).findIdx? (·.1) = none := by rfl) : VG X (.Tuple es k pos) (tgTup n gs) :=
  ⟨pg_weak (pg_or (pg_tup hc h.pgs hn hst) (pg_lst hc h.pgs hn hst)) fun v σ H Q ⟨ρ, F, F0, H0, d, er, r, ρ', e, q⟩ => by
    cases r with
    | @tup a xs ds hs rs =>
      have e' : (if ds.length = n then gs ds ρ else none) = some ρ' := e
      by_cases hl : ds.length = n
      · rw [if_pos hl] at e'
        exact .inl ⟨a, xs, rfl, same_sqT er.g.into hs, rs.length.trans hl, ρ, F, F0, H0, ds, er, rs, ρ', e', q⟩
      · rw [if_neg hl] at e'; cases e'
    | @lst a xs ds hs rs =>
      have e' : (if ds.length = n then gs ds ρ else none) = some ρ' := e
      by_cases hl : ds.length = n
      · rw [if_pos hl] at e'
        exact .inr ⟨a, xs, rfl, SqL.of (er.g.into _ _ hs), rs.length.trans hl, ρ, F, F0, H0, ds, er, rs, ρ', e', q⟩
      · rw [if_neg hl] at e'; cases e'
    | _ => cases e⟩
/-- target = e -/
def sAsg (g : TgF) (f : Env → Out D) : Env → Res := fun ρ => match f ρ with
  | .ok d => (match g d ρ with
    | some ρ' => .nx ρ'
    | none => .fail)
  | .exc x => .exc x ρ
  | .fail => .fail
theorem vs_asg {tg : Expr} {g : TgF} (he : SE X E e f) (hg : VG X tg g) (hs : swapsWithSole [tg] e pos.line X.env = pure false := by rfl) (hw : swappedStores [tg] e X.env = pure none := by rfl)
    (h1 : (assignEach [tg] X.env).map (·.2) = [assign tg X.env] := by rfl) : VS X E (.Assign [tg] e pos) (sAsg g f) :=
  ⟨ps_weak (ps_asg he.pe hg.pg hs hw h1) fun D σ H ⟨ρ, F, F0, H0, er, q⟩ => Post.bindE (k := fun d => match g d ρ with | some ρ' => .nx ρ' | none => .fail) er q fun v d F1 H1 _ er1 r q1 => by
    cases hg : g d ρ with
    | none => rw [hg] at q1; exact q1.elim
    | some ρ' => rw [hg] at q1; exact ⟨ρ, F1, F0, H0, d, er1, r, ρ', hg, fun σ' er' => q1 σ' F1 H1 er'⟩⟩
/-- a, b = x, y -/
def sPar (i j : Nat) (f : PEnv → Out (List D)) : Env → Res := fun ρ => match f (plain ρ) with
  | .ok [x, y] => .nx ((ρ.set i (.val x)).set j (.val y))
  | .exc x => .exc x ρ
  | _ => .fail
theorem vs_par (i j : Nat) {x y : Str} {a b : Expr} {fs : PEnv → Out (List D)} {px py pt : Pos} {kt k2 pt2} (hc : X.calm = true) (hN : X.N.Nodup) (ha : VA X E [a, b] fs) (hij : i ≠ j := by decide) (hi : X.N[i]? = some x := by rfl) (hj : X.N[j]? = some y := by rfl)
    (hx : X.env.scope.names.lookup x = some .local := by rfl) (hy : X.env.scope.names.lookup y = some .local := by rfl)
    (hw : swappedStores [.Tuple [.Name x px, .Name y py] kt pt] (.Tuple [a, b] k2 pt2) X.env = pure (some [x, y]) := by rfl)
    (hs : swapsWithSole [.Tuple [.Name x px, .Name y py] kt pt] (.Tuple [a, b] k2 pt2) pos.line X.env = pure false := by rfl) :
    VS X E (.Assign [.Tuple [.Name x px, .Name y py] kt pt] (.Tuple [a, b] k2 pt2) pos) (sPar i j fs) :=
  ⟨ps_weak (ps_par hc hN hi hj hij hx hy ha.pa hw hs) fun D σ H ⟨ρ, F, F0, H0, er, q⟩ => by
    obtain ⟨fp, hsl, _, _⟩ := er.ex
    refine ⟨plain ρ, F, er.g.into, hsl.plain, ?_⟩
    unfold sPar at q
    cases ho : fs (plain ρ) with
    | ok ds =>
      rw [ho] at q
      intro vs F1 H1 g r
      match ds, vs, r, q with
      | [], _, _, q => exact q.elim
      | [_], _, _, q => exact q.elim
      | _ :: _ :: _ :: _, _, _, q => exact q.elim
      | [d1, d2], _, .cons r1 (.cons r2 .nil), q => exact ⟨_, _, rfl, q _ F1 H1 (((er.mono g).val r1).val r2)⟩
    | exc x => rw [ho] at q; exact fun cl dx F1 H1 g r => q cl dx σ F1 H1 (er.mono g) r
    | fail => rw [ho] at q; exact q⟩
end
end TP

end
set_option Elab.async false
set_option linter.all false
set_option maxRecDepth 100000
/-! The values layer: what is walked; for, while. -/
noncomputable section
namespace TP
variable [IOs]
open PySem PySem.Spec L2

/-- J yields the items, while what never changes stands -/
structure Yld (c : KW) (F1 : Hp) (J : It) (ds : List D) : Prop where
  go : ∀ i F H, Same F1 F → Same F H → i < ds.length → J.go i H
  stop : ∀ i F H, Same F1 F → Same F H → ds.length ≤ i → J.stop i H
  yld : ∀ i F H x H', Same F1 F → Same F H → J.yld i H x H' → i < ds.length → ∃ d F', ds[i]? = some d ∧ Grow F H F' H' ∧ Rep c F' x d
def tI (X : Cx) (E : WX) (f : PEnv → Out (List D)) : TI := fun σ H R => ∃ ρ F, Same F H ∧ Slots (cw X) F ρ σ ∧ At (cw X) X.mg (xsE E σ) (fun F' J ds => Yld (cw X) F' J ds) F H (f ρ) R
structure VI (X : Cx) (E : WX) (tg iter : Expr) (f : PEnv → Out (List D)) : Prop where
  pi : PI X tg iter (tI X E f)
theorem pi_weak {X : Cx} {tg iter : Expr} {t t' : TI} (h : PI X tg iter t) (w : ∀ σ H R, t' σ H R → t σ H R) : PI X tg iter t' := ⟨fun pins s σ H R I q => h.run pins s σ H R I (w σ H R q)⟩
theorem pi_at {X : Cx} {tg iter : Expr} {t : XK → TI} {E : WX} (h : ∀ E : XK, PI X tg iter (t E)) : PI X tg iter fun σ H R => t (xsE E σ) σ H R := ⟨fun pins s σ H R I q => (h (xsE E σ)).run pins s σ H R I q⟩

section
variable {c : KW}
theorem yld_list {F : Hp} {a : Addr} {xs : List V} {ds : List D} (h : SqL c.K F a xs) (r : Reps c F xs ds) : Yld c F (Itl c.K a) ds where
  go := fun i F1 H s1 s2 hi => by
    obtain ⟨d, hd⟩ : ∃ d, ds[i]? = some d := ⟨ds[i], List.getElem?_eq_getElem hi⟩
    obtain ⟨v, hv, _⟩ := r.get hd
    exact ⟨xs, v, (s1.trans s2).seq h, hv⟩
  stop := fun i F1 H s1 s2 hi => ⟨xs, (s1.trans s2).seq h, by rw [r.length]; exact hi⟩
  yld := fun i F1 H x H' s1 s2 y hi => by
    obtain ⟨rfl, hx⟩ := y
    obtain ⟨d, hd, hr⟩ := r.get' (hx xs ((s1.trans s2).seq h))
    exact ⟨d, F1, hd, Grow.refl s2, hr.mono s1⟩
theorem yld_tup {F : Hp} {a : Addr} {xs : List V} {ds : List D} (h : SqT c.K F a xs) (r : Reps c F xs ds) : Yld c F (Itt c.K a) ds where
  go := fun i F1 H s1 s2 hi => by
    obtain ⟨d, hd⟩ : ∃ d, ds[i]? = some d := ⟨ds[i], List.getElem?_eq_getElem hi⟩
    obtain ⟨v, hv, _⟩ := r.get hd
    exact ⟨xs, v, same_sqT (s1.trans s2) h, hv⟩
  stop := fun i F1 H s1 s2 hi => ⟨xs, same_sqT (s1.trans s2) h, by rw [r.length]; exact hi⟩
  yld := fun i F1 H x H' s1 s2 y hi => by
    obtain ⟨rfl, hx⟩ := y
    obtain ⟨d, hd, hr⟩ := r.get' (hx xs (same_sqT (s1.trans s2) h))
    exact ⟨d, F1, hd, Grow.refl s2, hr.mono s1⟩
def rangeL (lo : Int) (n : Nat) : List D := (List.range n).map fun k => .int (lo + (k : Nat))
theorem yld_range {F : Hp} {lo : Int} {n : Nat} : Yld c F (Itr lo n) (rangeL lo n) where
  go := fun i F1 H s1 s2 hi => by
    have : i < n := by simpa [rangeL] using hi
    exact this
  stop := fun i F1 H s1 s2 hi => by
    have : n ≤ i := by simpa [rangeL] using hi
    exact this
  yld := fun i F1 H x H' s1 s2 y hi => by
    obtain ⟨rfl, rfl⟩ := y
    have hi' : i < n := by simpa [rangeL] using hi
    exact ⟨.int (lo + i), F1, by unfold rangeL; rw [List.getElem?_map, List.getElem?_range hi']; rfl, Grow.refl s2, .int _⟩
def signsL (x : Str) : List D := x.cps.toList.map fun k => .str ⟨#[k]⟩
theorem yld_str {F : Hp} {x : Str} (hx : StrR x) : Yld c F (Its x) (signsL x) where
  go := fun i F1 H s1 s2 hi => by
    have : i < x.cps.size := by simpa [signsL] using hi
    exact this
  stop := fun i F1 H s1 s2 hi => by
    have : x.cps.size ≤ i := by simpa [signsL] using hi
    exact this
  yld := fun i F1 H y H' s1 s2 yy hi => by
    obtain ⟨rfl, k, hk, rfl⟩ := yy
    have hk' : x.cps.toList[i]? = some k := by simpa using hk
    refine ⟨.str ⟨#[k]⟩, F1, by unfold signsL; rw [List.getElem?_map, hk']; rfl, Grow.refl s2, .str _ ?_⟩
    exact str_sign hx (atI_nat hk')
end

section
variable {X : Cx} {E : WX} {tg e : Expr} {es : List Expr} {f : PEnv → Out D} {fs : PEnv → Out (List D)} {fi : PEnv → Out (List D)} {pos : Pos}
/-- what a for over the value yields -/
def itemsD : D → Out (List D)
  | .tup l => .ok l
  | .lst l => .ok l
  | .scr l => .ok (l.map .int)
  | .str x => .ok (signsL x)
  | _ => .fail
def iSeq (f : PEnv → Out D) : PEnv → Out (List D) := fun ρ => (f ρ).bind itemsD
theorem reps_ints {c : KW} {F : Hp} : ∀ ns : List Int, Reps c F (ns.map V.int) (ns.map D.int)
  | [] => .nil
  | n :: r => .cons (.int n) (reps_ints r)
theorem vi_seq (h : VE X E e f) : VI X E tg e (iSeq f) := by
  refine ⟨⟨fun pins s σ H R I ⟨ρ, F, sm, sl, q⟩ => ?_⟩⟩
  have hv := h.pe.run pins s σ H _ I (tv_bind (Q' := fun v H1 => ∃ F1 d, Same F1 H1 ∧ Rep (cw X) F1 v d ∧ At (cw X) X.mg (xsE E σ) (fun F' J ds => Yld (cw X) F' J ds) F1 H1 (itemsD d) R) sm sl q fun v F1 H1 d s1 e1 sl1 r1 q1 => ⟨F1, d, s1, r1, q1⟩)
  refine thn hv fun u s1 ⟨v, H1, I1, ru, F1, d, s1', r1, q1⟩ => ?_
  cases r1 with
  | @tup a xs ds hs rs =>
    cases ru
    obtain ⟨its, rv, p, hz⟩ := I1.tuple (same_sqT s1' hs)
    exact wpAny_pyIter_tuple (show s1.heap.IsTuple a its.toArray from p) (pi_one (tk := s1.toks) I1 _ (turn_tuple a _) ⟨_, Heap.get?_push_size _ rfl, rfl, rfl⟩ (q1 _ _ _ (Grow.refl s1') (yld_tup hs rs)))
  | @lst a xs ds hs rs =>
    cases ru
    obtain ⟨its, rv, p, hz⟩ := I1.list (SqL.of (s1' _ _ hs))
    exact wpAny_pyIter_list p.isList (pi_one (tk := s1.toks) I1 _ (turn_list a _) ⟨_, Heap.get?_push_size _ rfl, rfl, rfl⟩ (q1 _ _ _ (Grow.refl s1') (yld_list (SqL.of hs) rs)))
  | @scr a ns hs =>
    cases ru
    obtain ⟨its, rv, p, hz⟩ := I1.list (s1'.seq hs)
    exact wpAny_pyIter_list p.isList (pi_one (tk := s1.toks) I1 _ (turn_list a _) ⟨_, Heap.get?_push_size _ rfl, rfl, rfl⟩ (q1 _ _ _ (Grow.refl s1') (yld_list hs (reps_ints ns))))
  | str x hx =>
    obtain ⟨t, rfl⟩ := ru
    have q2 := q1 _ _ _ (Grow.refl s1') (yld_str hx)
    cases ha : x.cps.all (· < 128)
    · exact wpAny_pyIter_wide ha (pi_one (tk := s1.toks) I1 _ (turn_str _ x t "str_iterator" (.inr rfl)) ⟨_, Heap.get?_push_size _ rfl, rfl, rfl⟩ q2)
    · exact wpAny_pyIter_ascii ha (pi_one (tk := s1.toks) I1 _ (turn_str _ x t "str_ascii_iterator" (.inl rfl)) ⟨_, Heap.get?_push_size _ rfl, rfl, rfl⟩ q2)
  | _ => exact q1.elim
noncomputable def boundO : {f : Int → Bool // ∀ j, f j = (decide (-(2 ^ 62) ≤ j) && decide (j < 2 ^ 62))} := Classical.choice ⟨⟨fun j => decide (-(2 ^ 62) ≤ j) && decide (j < 2 ^ 62), fun _ => rfl⟩⟩
def bound (j : Int) : Bool := boundO.1 j
theorem bound_eq (j : Int) : bound j = (decide (-(2 ^ 62) ≤ j) && decide (j < 2 ^ 62)) := boundO.2 j
def rangeD1 : List D → Out (List D)
  | [.int j] => if bound j = true then .ok (rangeL 0 j.toNat) else .fail
  | _ => .fail
def rangeD2 : List D → Out (List D)
  | [.int i, .int j] => if bound i && bound j then .ok (rangeL i (j - i).toNat) else .fail
  | _ => .fail
def iArgs (g : List D → Out (List D)) (fs : PEnv → Out (List D)) : PEnv → Out (List D) := fun ρ => (fs ρ).bind g
theorem bound_of {j : Int} (h : bound j = true) : -(2 ^ 62) ≤ j ∧ j < 2 ^ 62 := by rw [bound_eq] at h; exact ⟨of_decide_eq_true (and2 h).1, of_decide_eq_true (and2 h).2⟩
theorem vi_range1 {a : Expr} {p : Pos} (ha : VA X E [a] fs) (hm : X.mg "range" = none) (hg : Gl X "range" := by rfl) (hs : starEach [a] X.env = [(false, eval a X.env)] := by rfl) : VI X E tg (.Call (.Name "range" p) [a] [] pos) (iArgs rangeD1 fs) :=
  ⟨pi_weak (pi_range1 hg hm ha.pa hs) fun σ H R ⟨ρ, F, sm, sl, q⟩ => tvs_bind sm sl q fun us F1 H1 ds s1 e1 sl1 r1 q1 => by
    unfold rangeD1 at q1
    split at q1
    · rename_i j
      cases r1 with
      | cons r2 r3 =>
        cases r2; cases r3
        by_cases hb : bound j = true
        · rw [if_pos hb] at q1
          exact ⟨j, rfl, (bound_of hb).1, (bound_of hb).2, q1 _ _ _ (Grow.refl s1) yld_range⟩
        · rw [if_neg hb] at q1; exact q1.elim
    · exact q1.elim⟩
theorem vi_range2 {a b : Expr} {p : Pos} (ha : VA X E [a, b] fs) (hm : X.mg "range" = none) (hg : Gl X "range" := by rfl) (hs : starEach [a, b] X.env = [(false, eval a X.env), (false, eval b X.env)] := by rfl) (hs2 : starEach [b] X.env = [(false, eval b X.env)] := by rfl) :
    VI X E tg (.Call (.Name "range" p) [a, b] [] pos) (iArgs rangeD2 fs) :=
  ⟨pi_weak (pi_range2 hg hm ha.pa hs hs2) fun σ H R ⟨ρ, F, sm, sl, q⟩ => tvs_bind sm sl q fun us F1 H1 ds s1 e1 sl1 r1 q1 => by
    unfold rangeD2 at q1
    split at q1
    · rename_i i j
      cases r1 with
      | cons r2 r3 =>
        cases r3 with
        | cons r4 r5 =>
        cases r2; cases r4; cases r5
        by_cases hb : (bound i && bound j) = true
        · rw [if_pos hb] at q1
          have b1 := bound_of (and2 hb).1
          have b2 := bound_of (and2 hb).2
          exact ⟨i, j, rfl, ⟨b1.1, b1.2, b2.1, b2.2⟩, q1 _ _ _ (Grow.refl s1) yld_range⟩
        · rw [if_neg hb] at q1; exact q1.elim
    · exact q1.elim⟩
end

/-! ### what a statement walks -/
def tIs (X : Cx) (E : WX) (f : Env → Out (List D)) : TI := fun σ H R => ∃ ρ F F0 H0, ER (cw X) F0 H0 F H ρ σ ∧ At (cw X) X.mg (xsE E σ) (fun F' J ds => Yld (cw X) F' J ds) F H (f ρ) R
structure SI (X : Cx) (E : WX) (tg iter : Expr) (f : Env → Out (List D)) : Prop where
  pi : PI X tg iter (tIs X E f)
section
variable {X : Cx} {E : WX} {tg e : Expr} {fi : PEnv → Out (List D)} {fe : Env → Out (List D)} {g : TgF} {b : Env → Res} {cnd : Env → Out Bool} {body : List Stmt} {pos : Pos}
theorem si_plain (h : VI X E tg e fi) : SI X E tg e (pP fi) := ⟨pi_weak h.pi fun σ H R ⟨ρ, F, F0, H0, er, q⟩ => by
  obtain ⟨fp, hs, _, _⟩ := er.ex
  exact ⟨plain ρ, F, er.g.into, hs.plain, q⟩⟩

/-! ### for -/
def loop (g : TgF) (b : Env → Res) : List D → Env → Res
  | [], ρ => .nx ρ
  | d :: r, ρ => match g d ρ with
    | none => .fail
    | some ρ1 => match b ρ1 with
      | .nx ρ2 => loop g b r ρ2
      | .ct ρ2 => loop g b r ρ2
      | .bk ρ2 => .nx ρ2
      | o => o
def sFor (f : Env → Out (List D)) (g : TgF) (b : Env → Res) : Env → Res := fun ρ => match f ρ with
  | .ok ds => loop g b ds ρ
  | .exc x => .exc x ρ
  | .fail => .fail
theorem vs_for (hp : PassesOwn (model X.prog X.w) X.A X.env X.xe) (hc : X.calm = true) (hi : SI X E tg e fe) (hg : VG X tg g) (hb : VSs X E body b) (hs : ∀ x, foldedSetIterable e X.env x = pure x := by intro _; rfl) : VS X E (.For tg e body [] pos) (sFor fe g b) :=
  ⟨ps_weak (ps_for hp hc hi.pi hg.pg hb.pss hs) fun D σ H ⟨ρ, F, F0, H0, er, q⟩ => by
    refine ⟨ρ, F, F0, H0, er, ?_⟩
    unfold sFor at q
    cases hf : fe ρ with
    | exc x => rw [hf] at q; exact fun cl dx F1 H1 g r => q cl dx σ F1 H1 (er.mono g) r
    | fail => rw [hf] at q; exact q
    | ok ds =>
      rw [hf] at q
      intro J F1 H1 g1 yl
      refine ⟨fun i m σ H => m = ds.length - i ∧ i ≤ ds.length ∧ ∃ ρi F, Same F1 F ∧ ER (cw X) F0 H0 F H ρi σ ∧ Post X E D F0 H0 (loop g b (ds.drop i) ρi), ⟨ds.length, by simp, Nat.zero_le _, ρ, F1, Same.refl _, er.mono g1, by rw [List.drop_zero]; exact q⟩, ?_⟩
      rintro i m σ2 H2 ⟨rfl, hi, ρi, F2, s2, er2, q2⟩
      by_cases hlt : i < ds.length
      · refine .inr ⟨yl.go i F2 H2 s2 er2.g.into hlt, fun σ3 H3 => ∃ ρ3 F3, Same F1 F3 ∧ ER (cw X) F0 H0 F3 H3 ρ3 σ3 ∧ Post X E D F0 H0 (loop g b (ds.drop (i + 1)) ρ3), fun σ3 H3 ⟨ρ3, F3, s3, er3, q3⟩ => ⟨ds.length - (i + 1), by omega, rfl, hlt, ρ3, F3, s3, er3, q3⟩, fun x H3 hy => ?_⟩
        obtain ⟨d, F3, hd, g3, r3⟩ := yl.yld i F2 H2 x H3 s2 er2.g.into hy hlt
        have ed : ds.drop i = d :: ds.drop (i + 1) := by
          obtain ⟨h1, h2⟩ := List.getElem?_eq_some_iff.mp hd
          rw [List.drop_eq_getElem_cons h1, h2]
        rw [ed] at q2
        have er3 := er2.mono g3
        obtain ⟨H1', er4, back1, back2⟩ := er3.rebase
        unfold loop at q2
        cases hg2 : g d ρi with
        | none => rw [hg2] at q2; exact q2.elim
        | some ρ1 =>
          rw [hg2] at q2
          dsimp only at q2
          refine ⟨ρi, F3, F3, H1', d, er4, r3, ρ1, hg2, fun σ4 er5 => ⟨ρ1, F3, F3, H1', er5, ?_⟩⟩
          cases hb2 : b ρ1 with
          | nx ρ2 => rw [hb2] at q2; exact fun σ5 F5 H5 er6 => ⟨ρ2, F5, (s2.trans g3.sub).trans er6.g.sub, back2 _ _ _ _ er6, q2⟩
          | ct ρ2 => rw [hb2] at q2; exact fun σ5 F5 H5 er6 => ⟨ρ2, F5, (s2.trans g3.sub).trans er6.g.sub, back2 _ _ _ _ er6, q2⟩
          | bk ρ2 => rw [hb2] at q2; exact fun σ5 F5 H5 er6 => q2 σ5 F5 H5 (back2 _ _ _ _ er6)
          | rt d2 => rw [hb2] at q2; exact fun v F5 H5 g5 r5 => q2 v F5 H5 (back1 _ _ g5) r5
          | ret s2' ρ2 => rw [hb2] at q2; exact fun v σ5 F5 H5 er6 => q2 v σ5 F5 H5 (back2 _ _ _ _ er6)
          | exc x2 ρ2 => rw [hb2] at q2; exact fun cl dx σ5 F5 H5 er6 r5 => q2 cl dx σ5 F5 H5 (back2 _ _ _ _ er6) r5
          | fail => rw [hb2] at q2; exact q2
      · have ei : i = ds.length := by omega
        subst ei
        rw [List.drop_length] at q2
        exact .inl ⟨yl.stop _ F2 H2 s2 er2.g.into (Nat.le_refl _), q2 σ2 F2 H2 er2⟩⟩

/-! ### while -/
def whileN (c : Env → Out Bool) (b : Env → Res) : Nat → Env → Res
  | 0, _ => .fail
  | n + 1, ρ => match c ρ with
    | .ok k => if k = true then (match b ρ with
      | .nx ρ2 => whileN c b n ρ2
      | .ct ρ2 => whileN c b n ρ2
      | .bk ρ2 => .nx ρ2
      | o => o) else .nx ρ
    | .exc x => .exc x ρ
    | .fail => .fail
open Classical in
/-- what comes of the loop, however often it turns -/
noncomputable def sWhile (c : Env → Out Bool) (b : Env → Res) : Env → Res := fun ρ => if h : ∃ n, whileN c b n ρ ≠ .fail then whileN c b h.choose ρ else .fail
theorem whileN_more {c : Env → Out Bool} {b : Env → Res} : ∀ {n m : Nat} {ρ : Env}, n ≤ m → whileN c b n ρ ≠ .fail → whileN c b m ρ = whileN c b n ρ
  | 0, _, _, _, h => absurd rfl h
  | n + 1, 0, _, h, _ => absurd h (by omega)
  | n + 1, m + 1, ρ, hm, h => by
    unfold whileN at h ⊢
    cases hc : c ρ with
    | exc x => rfl
    | fail => rfl
    | ok k =>
      rw [hc] at h
      dsimp only at h ⊢
      cases k with
      | false => rfl
      | true =>
        rw [if_pos rfl] at h ⊢
        rw [if_pos rfl]
        cases hb : b ρ with
        | nx ρ2 => rw [hb] at h; exact whileN_more (by omega) h
        | ct ρ2 => rw [hb] at h; exact whileN_more (by omega) h
        | bk ρ2 => rfl
        | rt d => rfl
        | ret s ρ2 => rfl
        | exc x ρ2 => rfl
        | fail => rfl
/-- a number of turns that is enough -/
theorem sWhile_of {c : Env → Out Bool} {b : Env → Res} {ρ : Env} {r : Res} (n : Nat) (h : whileN c b n ρ = r) (hr : r ≠ .fail) : sWhile c b ρ = r := by
  have ex : ∃ n, whileN c b n ρ ≠ .fail := ⟨n, by rw [h]; exact hr⟩
  unfold sWhile
  rw [dif_pos ex]
  have h1 := ex.choose_spec
  have e1 := whileN_more (Nat.le_max_left ex.choose n) h1
  have e2 := whileN_more (Nat.le_max_right ex.choose n) (by rw [h]; exact hr)
  rw [← e1, e2, h]
theorem vs_while {t : Expr} (hp : PassesOwn (model X.prog X.w) X.A X.env X.xe) (hc : ST X E t cnd) (hb : VSs X E body b) : VS X E (.While t body [] pos) (sWhile cnd b) :=
  ⟨ps_weak (ps_while hp hc.pt hb.pss) fun D σ H ⟨ρ, F, F0, H0, er, q⟩ => by
    unfold sWhile at q
    by_cases ex : ∃ n, whileN cnd b n ρ ≠ .fail
    · rw [dif_pos ex] at q
      refine ⟨fun m σ H => ∃ ρi F, ER (cw X) F0 H0 F H ρi σ ∧ Post X E D F0 H0 (whileN cnd b m ρi), ⟨ex.choose, ρ, F, er, q⟩, ?_⟩
      rintro m σ1 H1 ⟨ρ1, F1, er1, q1⟩
      cases m with
      | zero => exact q1.elim
      | succ m =>
        unfold whileN at q1
        refine Post.bindT (k := fun k => if k = true then (match b ρ1 with | .nx ρ2 => whileN cnd b m ρ2 | .ct ρ2 => whileN cnd b m ρ2 | .bk ρ2 => .nx ρ2 | o => o) else .nx ρ1) er1 q1 fun k F2 H2 _ er2 q2 => ?_
        cases k with
        | false => exact q2 σ1 F2 H2 er2
        | true =>
          rw [if_pos rfl] at q2 ⊢
          refine ⟨fun σ3 H3 => ∃ ρ3 F3, ER (cw X) F0 H0 F3 H3 ρ3 σ3 ∧ Post X E D F0 H0 (whileN cnd b m ρ3), fun σ3 H3 z => ⟨m, Nat.lt_succ_self _, z⟩, ρ1, F2, F0, H0, er2, ?_⟩
          cases hb2 : b ρ1 with
          | nx ρ2 => rw [hb2] at q2; exact fun σ5 F5 H5 er6 => ⟨ρ2, F5, er6, q2⟩
          | ct ρ2 => rw [hb2] at q2; exact fun σ5 F5 H5 er6 => ⟨ρ2, F5, er6, q2⟩
          | bk ρ2 => rw [hb2] at q2; exact q2
          | rt d2 => rw [hb2] at q2; exact q2
          | ret s2' ρ2 => rw [hb2] at q2; exact q2
          | exc x2 ρ2 => rw [hb2] at q2; exact q2
          | fail => rw [hb2] at q2; exact q2
    · rw [dif_neg ex] at q; exact q.elim⟩
end
end TP

end
set_option Elab.async false
set_option linter.all false
set_option maxRecDepth 100000
/-! The values layer: fresh objects, own slots that change. -/
noncomputable section
namespace TP
variable [IOs]
open PySem PySem.Spec L2

/-! ### fresh objects -/
def AtF (c : KW) (mg : Str → Option Value) (E : XK) (F H : Hp) (o : Out D) (Q : VK) : Prop :=
  match o with
  | .ok d => ∀ v fp F' H', Grow F H F' H' → Own c F' H' fp v d → fp ≠ [] → fp.Nodup → (∀ p ∈ fp, H p = none) → Q v H'
  | .exc x => ∀ cl dx F' H', Grow F H F' H' → XRep c mg F' H' cl dx x → E cl dx H'
  | .fail => False
def tvF (X : Cx) (E : WX) (f : PEnv → Out D) : TE := fun σ H Q => ∃ ρ F, Same F H ∧ Slots (cw X) F ρ σ ∧ AtF (cw X) X.mg (xsE E σ) F H (f ρ) Q
structure VF (X : Cx) (E : WX) (e : Expr) (f : PEnv → Out D) : Prop where
  pe : PE X e (tvF X E f)
/-- what is fresh may be held as never changing -/
theorem AtF.of {c : KW} {mg : Str → Option Value} {E : XK} {F H : Hp} {o : Out D} {Q : VK} (h : At c mg E (Rep c) F H o Q) : AtF c mg E F H o Q := by
  cases o with
  | ok d =>
    intro v fp F' H' g r _ nd fr
    have n := r.at
    refine h v (lend F' H' fp) H' ⟨g.sub.trans (lend_sub fun p hp => (n p hp).1), g.same, lend_into g.into, fun a o e => ?_⟩ (r.lent (lend_sub fun p hp => (n p hp).1) fun p hp => lend_in hp)
    by_cases z : a ∈ fp
    · exact .inr (fr a z)
    · rw [lend_out z] at e; exact g.new a o e
  | exc x => exact h
  | fail => exact h
theorem VF.ve {X : Cx} {E : WX} {e : Expr} {f : PEnv → Out D} (h : VF X E e f) : VE X E e f := ⟨pe_weak h.pe fun σ H Q ⟨ρ, F, s, sl, q⟩ => ⟨ρ, F, s, sl, AtF.of q⟩⟩
/-- a new object without own parts -/
theorem AtF.lay {c : KW} {mg : Str → Option Value} {E : XK} {F H : Hp} {ob : HO} {d : D} {Q : VK} (s : Same F H) (h : AtF c mg E F H (.ok d) Q) (r : ∀ p H', F p = none → H' p = some ob → Own c F H' [p] (.ref p) d) :
    ∀ p, H p = none → Q (.ref p) (upd H p ob) := fun p hp =>
  h (.ref p) [p] F (upd H p ob) (Grow.own s hp) (r p _ (s.free hp) upd_same) (by simp) (by simp) (fun q hq => by rw [List.mem_singleton.mp hq]; exact hp)
theorem owns_reps {c : KW} {F H : Hp} {vs : List V} {ds : List D} (r : Reps c F vs ds) : Owns c F H [] vs ds := by
  induction ds generalizing vs with
  | nil => cases r; exact .nil
  | cons d ds ih => cases r with | cons a t => exact .cons (fp := []) (fq := []) (.froz a) (ih t)

section
variable {X : Cx} {E : WX} {e a b : Expr} {es : List Expr} {f g : PEnv → Out D} {fs : PEnv → Out (List D)} {pos : Pos}
theorem tvs_bindF {ρ : PEnv} {σ : L2.St} {F H : Hp} {k : List D → Out D} {Q : VK} {Q' : List V → Hp → Prop} (s : Same F H) (sl : Slots (cw X) F ρ σ)
    (h : AtF (cw X) X.mg (xsE E σ) F H ((fs ρ).bind k) Q) (c : ∀ vs F1 H1 ds, Same F1 H1 → Reps (cw X) F1 vs ds → AtF (cw X) X.mg (xsE E σ) F1 H1 (k ds) Q → Q' vs H1) : tvs X E fs σ H Q' := by
  refine ⟨ρ, F, s, sl, ?_⟩
  cases hf : fs ρ with
  | ok ds =>
    rw [hf] at h
    have h' : AtF (cw X) X.mg (xsE E σ) F H (k ds) Q := h
    intro vs F1 H1 g r
    refine c vs F1 H1 ds g.into r ?_
    cases hk : k ds with
    | ok d => rw [hk] at h'; exact fun v fp F2 H2 g2 o n nd fr => h' v fp F2 H2 (g.trans g2) o n nd fun p hp => g.same.free (fr p hp)
    | exc x => rw [hk] at h'; exact fun cl dx F2 H2 g2 r => h' cl dx F2 H2 (g.trans g2) r
    | fail => rw [hk] at h'; exact h'
  | exc x => rw [hf] at h; exact h
  | fail => rw [hf] at h; exact h
theorem tv_bindF {ρ : PEnv} {σ : L2.St} {F H : Hp} {k : D → Out D} {Q : VK} {Q' : VK} (s : Same F H) (sl : Slots (cw X) F ρ σ)
    (h : AtF (cw X) X.mg (xsE E σ) F H ((f ρ).bind k) Q) (c : ∀ v F1 H1 d, Same F1 H1 → Same F F1 → Slots (cw X) F1 ρ σ → Rep (cw X) F1 v d → AtF (cw X) X.mg (xsE E σ) F1 H1 (k d) Q → Q' v H1) : tv X E f σ H Q' := by
  refine ⟨ρ, F, s, sl, ?_⟩
  cases hf : f ρ with
  | ok d =>
    rw [hf] at h
    have h' : AtF (cw X) X.mg (xsE E σ) F H (k d) Q := h
    intro vs F1 H1 g r
    refine c vs F1 H1 d g.into g.sub (sl.mono g.sub) r ?_
    cases hk : k d with
    | ok d => rw [hk] at h'; exact fun v fp F2 H2 g2 o n nd fr => h' v fp F2 H2 (g.trans g2) o n nd fun p hp => g.same.free (fr p hp)
    | exc x => rw [hk] at h'; exact fun cl dx F2 H2 g2 r => h' cl dx F2 H2 (g.trans g2) r
    | fail => rw [hk] at h'; exact h'
  | exc x => rw [hf] at h; exact h
  | fail => rw [hf] at h; exact h
/-- a list display, fresh -/
theorem vf_lst (h : VA X E es fs) : VF X E (.List es pos) (eCall mkLst fs) :=
  ⟨pe_weak (pe_lst h.pa) fun σ H Q ⟨ρ, F, s, sl, q⟩ => tvs_bindF s sl q fun us F1 H1 ds s1 r1 q1 => by
    unfold mkLst at q1
    by_cases hf : fits ds.length = true
    · rw [if_pos hf] at q1
      exact ⟨by rw [r1.length]; exact fits_line hf, AtF.lay s1 q1 fun p H' hp h => .lst hp h (owns_reps r1)⟩
    · rw [if_neg hf] at q1; exact q1.elim⟩
/-- xs + ys, list(..), xs[i:j]: fresh lists -/
def catL : D → D → Out D
  | .lst l, .lst m => mkLst (l ++ m)
  | _, _ => .fail
theorem vf_cat (ha : VE X E a f) (hb : VE X E b g) : VF X E (.BinOp a .Add b pos) (e2 catL f g) :=
  ⟨pe_weak (pe_op op_cat ha.pe hb.pe) fun σ H Q ⟨ρ, F, s, sl, q⟩ => tv_bindF s sl q fun v F1 H1 d s1 e1 sl1 r1 q1 => tv_bindF s1 sl1 q1 fun u F2 H2 d2 s2 e2 sl2 r2 q2 => by
    have r1' := r1.mono e2
    cases r1' with
    | @lst pa xs ds h1 rs1 => cases r2 with
      | @lst pb ys es h2 rs2 =>
        have q3 : AtF (cw X) X.mg (xsE E σ) F2 H2 (mkLst (ds ++ es)) Q := q2
        unfold mkLst at q3
        by_cases hf : fits (ds ++ es).length = true
        · rw [if_pos hf] at q3
          have hl := fits_line hf
          rw [List.length_append, ← rs1.length, ← rs2.length] at hl
          exact ⟨pa, pb, xs, ys, rfl, rfl, s2 _ _ h1, s2 _ _ h2, hl, AtF.lay s2 q3 fun p H' hp h => .lst hp h (owns_reps (rs1.append rs2))⟩
        · rw [if_neg hf] at q3; exact q3.elim
      | _ => exact q2.elim
    | _ => cases r2 <;> exact q2.elim⟩
/-- a call of a built-in that makes a new object -/
def CallF (X : Cx) (f : Value) (g : List D → Out D) : Prop :=
  ∀ E : XK, CallR X f fun xs H Q => ∃ F ds, Same F H ∧ Reps (cw X) F xs ds ∧ AtF (cw X) X.mg E F H (g ds) Q
theorem CallF.of {f : Value} {r : List V → Hp → VK → Prop} {g : List D → Out D} (h : CallR X f r)
    (w : ∀ (E : XK) F H xs ds (Q : VK), Same F H → Reps (cw X) F xs ds → AtF (cw X) X.mg E F H (g ds) Q → r xs H Q) : CallF X f g :=
  fun E pins s σ H xs us Q I rx ⟨F, ds, sm, ra, q⟩ => h pins s σ H xs us Q I rx (w E F H xs ds Q sm ra q)
theorem CallF.v {f : Value} {g : List D → Out D} (h : CallF X f g) : CallV X f g := fun E pins s σ H xs us Q I rx ⟨F, ds, sm, ra, q⟩ => h E pins s σ H xs us Q I rx ⟨F, ds, sm, ra, AtF.of q⟩
theorem vf_callB {id : String} {x : Str} {p : Pos} {r : List D → Out D} (hc : CallF X (.builtin id) r) (hg : Gl X x) (hm : X.mg x = none) (hv : bootBuiltins x = some (.builtin id)) (ha : VA X E (e :: es) fs) (hn : x ≠ "__name__" := by decide) (hdb : (x == ("__debug__" : Str)) = false := by decide)
    (he : starEach (e :: es) X.env = (false, eval e X.env) :: starEach es X.env := by rfl) (hpl : (backTo pos (starEach es X.env)).any (·.1) = false := by rfl) : VF X E (.Call (.Name x p) (e :: es) [] pos) (eCall r fs) :=
  ⟨pe_weak (pe_at fun E' => pe_callB (hc E') hg hm hv ha.pa hn hdb he hpl) fun σ H Q ⟨ρ, F, s, sl, q⟩ => tvs_bindF s sl q fun us F1 H1 ds s1 r1 q1 => ⟨F1, ds, s1, r1, q1⟩⟩
theorem vf_callTy {T : String} {x : Str} {p : Pos} {r : List D → Out D} (hc : CallF X (.type T) r) (hg : Gl X x) (hm : X.mg x = none) (hv : bootBuiltins x = some (.type T)) (ha : VA X E (e :: es) fs) (hn : x ≠ "__name__" := by decide) (hdb : (x == ("__debug__" : Str)) = false := by decide)
    (he : starEach (e :: es) X.env = (false, eval e X.env) :: starEach es X.env := by rfl) (hpl : (backTo pos (starEach es X.env)).any (·.1) = false := by rfl) : VF X E (.Call (.Name x p) (e :: es) [] pos) (eCall r fs) :=
  ⟨pe_weak (pe_at fun E' => pe_callTy (hc E') hg hm hv ha.pa hn hdb he hpl) fun σ H Q ⟨ρ, F, s, sl, q⟩ => tvs_bindF s sl q fun us F1 H1 ds s1 r1 q1 => ⟨F1, ds, s1, r1, q1⟩⟩
theorem call_listF : CallF X (.type "list") listD := CallF.of call_list_of fun E F H xs ds Q s r q => by
  cases r with
  | nil => exact q.elim
  | cons r1 t => cases t with
    | cons _ _ => cases r1 <;> exact q.elim
    | nil => cases r1 with
      | tup h1 rs => exact ⟨_, _, rfl, .inr (same_sqT s h1), AtF.lay s q fun p H' hp h => .lst hp h (owns_reps rs)⟩
      | lst h1 rs => exact ⟨_, _, rfl, .inl (SqL.of (s _ _ h1)), AtF.lay s q fun p H' hp h => .lst hp h (owns_reps rs)⟩
      | _ => exact q.elim

/-! ### x = fresh -/
def sOwnP (i : Nat) (f : PEnv → Out D) : Env → Res := fun ρ => match f (plain ρ) with
  | .ok d => .nx (ρ.set i (.own d))
  | .exc x => .exc x ρ
  | .fail => .fail
theorem vs_ownP (i : Nat) {x : Str} {pos' : Pos} (hN : X.N.Nodup) (h : VF X E e f) (hi : X.N[i]? = some x := by rfl) (hx : Loc X.env.scope x := by first | exact Or.inl rfl | exact Or.inr rfl) (hs : swapsWith e (some (.Name x pos')) pos.line X.env = pure false := by rfl)
    (hf : X.fn x = true ∨ X.env.scope.names.lookup x = some .local := by first | exact .inl rfl | exact .inr rfl) : VS X E (.Assign [.Name x pos'] e pos) (sOwnP i f) :=
  ⟨ps_weak (ps_set hN hi hx h.pe hs hf) fun D σ H ⟨ρ, F, F0, H0, er, q⟩ => by
    obtain ⟨fp, hsl, _, _⟩ := er.ex
    refine ⟨plain ρ, F, er.g.into, hsl.plain, ?_⟩
    unfold sOwnP at q
    cases hf : f (plain ρ) with
    | ok d =>
      rw [hf] at q
      intro v fq F1 H1 g o n nd fr
      exact q _ F1 H1 (er.put g (.own n o) nd fr)
    | exc x => rw [hf] at q; exact fun cl dx F1 H1 g r => q cl dx σ F1 H1 (er.mono g) r
    | fail => rw [hf] at q; exact q⟩
/-- the fresh thing's parts are keys -/
def flatOwn : D → Bool
  | .lst l => D.areKeys l
  | .dct l => l.all fun p => p.1.isKey && p.2.isKey
  | .set _ => true
  | _ => false
theorem rows_unlend {F F' H H' : Hp} {fp : List Addr} {c : KW} (n : ∀ p ∈ fp, F p = none ∧ OwnHO (H p)) (g : Grow (lend F H fp) H F' H') : ∀ {rows : List (Int × Value)} {es : List D}, Rows c F' rows es → Rows c (unlend F' fp) rows es
  | _, _, .nil => .nil
  | _, _, .cons rv r k h1 h2 t => .cons rv (unlend_rep n g r k) k h1 h2 (rows_unlend n g t)
theorem key_froz {c : KW} {F H : Hp} {fp : List Addr} {v : V} {d : D} (o : Own c F H fp v d) (k : d.isKey = true) : fp = [] ∧ Rep c F v d := by
  cases o with
  | froz r => exact ⟨rfl, r⟩
  | lst _ _ _ => unfold D.isKey at k; cases k
  | dK _ _ _ => unfold D.isKey at k; cases k
  | dN _ _ _ => unfold D.isKey at k; cases k
  | setN _ _ _ _ => unfold D.isKey at k; cases k
theorem owns_unlend {F F' H H' : Hp} {fp : List Addr} {c : KW} (n : ∀ p ∈ fp, F p = none ∧ OwnHO (H p)) (g : Grow (lend F H fp) H F' H') : ∀ {fq : List Addr} {vs : List V} {ds : List D}, Owns c F' H' fq vs ds → D.areKeys ds = true → fq = [] ∧ Owns c (unlend F' fp) H' [] vs ds
  | _, _, _, .nil, _ => ⟨rfl, .nil⟩
  | _, _, _, .cons a t, k => by
    unfold D.areKeys at k
    have k := Bool.and_eq_true_iff.mp k
    obtain ⟨rfl, r⟩ := key_froz a k.1
    obtain ⟨rfl, t'⟩ := owns_unlend n g t k.2
    exact ⟨rfl, .cons (fp := []) (fq := []) (.froz (unlend_rep n g r k.1)) t'⟩
theorem ownkvs_unlend {F F' H H' : Hp} {fp : List Addr} {c : KW} (n : ∀ p ∈ fp, F p = none ∧ OwnHO (H p)) (g : Grow (lend F H fp) H F' H') : ∀ {fq : List Addr} {vs : List (Key × V)} {ds : List (D × D)}, OwnKVs c F' H' fq vs ds → (ds.all fun p => p.1.isKey && p.2.isKey) = true → fq = [] ∧ OwnKVs c (unlend F' fp) H' [] vs ds
  | _, _, _, .nil, _ => ⟨rfl, .nil⟩
  | _, _, _, .cons rk a t, k => by
    rw [List.all_cons, Bool.and_eq_true, Bool.and_eq_true] at k
    obtain ⟨rfl, r⟩ := key_froz a k.1.2
    obtain ⟨rfl, t'⟩ := ownkvs_unlend n g t k.2
    exact ⟨rfl, .cons (fp := []) (fq := []) (unlend_rep n g rk k.1.1) (.froz (unlend_rep n g r k.1.2)) t'⟩
theorem ownnvs_unlend {F F' H H' : Hp} {fp : List Addr} {c : KW} (n : ∀ p ∈ fp, F p = none ∧ OwnHO (H p)) (g : Grow (lend F H fp) H F' H') : ∀ {fq : List Addr} {vs : List (NestedKey × Addr × Value)} {ds : List (D × D)}, OwnNVs c F' H' fq vs ds → (ds.all fun p => p.1.isKey && p.2.isKey) = true → fq = [] ∧ OwnNVs c (unlend F' fp) H' [] vs ds
  | _, _, _, .nil, _ => ⟨rfl, .nil⟩
  | _, _, _, .cons rk h1 h2 h3 rv a t, k => by
    rw [List.all_cons, Bool.and_eq_true, Bool.and_eq_true] at k
    obtain ⟨rfl, r⟩ := key_froz a k.1.2
    obtain ⟨rfl, t'⟩ := ownnvs_unlend n g t k.2
    exact ⟨rfl, .cons (fp := []) (fq := []) (unlend_rep n g rk k.1.1) h1 h2 h3 rv (.froz (unlend_rep n g r k.1.2)) t'⟩
theorem own_unlend {F F' H H' : Hp} {fp : List Addr} {c : KW} (n : ∀ p ∈ fp, F p = none ∧ OwnHO (H p)) (g : Grow (lend F H fp) H F' H') {fq : List Addr} {v : V} {d : D} (o : Own c F' H' fq v d) (hq : fq ≠ []) (k : flatOwn d = true) (out : ∀ p ∈ fq, p ∉ fp) : Own c (unlend F' fp) H' fq v d := by
  cases o with
  | froz r => exact absurd rfl hq
  | lst h1 h2 r =>
    obtain ⟨rfl, t⟩ := owns_unlend n g r k
    exact .lst (by rw [unlend_out (out _ List.mem_cons_self)]; exact h1) h2 t
  | dK h1 h2 r =>
    obtain ⟨rfl, t⟩ := ownkvs_unlend n g r k
    exact .dK (by rw [unlend_out (out _ List.mem_cons_self)]; exact h1) h2 t
  | dN h1 h2 r =>
    obtain ⟨rfl, t⟩ := ownnvs_unlend n g r k
    exact .dN (by rw [unlend_out (out _ List.mem_cons_self)]; exact h1) h2 t
  | setN h1 h2 r pm => exact .setN (by rw [unlend_out (out _ List.mem_cons_self)]; exact h1) h2 (rows_unlend n g r) pm
def sOwnL (i : Nat) (f : PEnv → Out D) : Env → Res := fun ρ => match f (lent ρ) with
  | .ok d => if flatOwn d = true then .nx (ρ.set i (.own d)) else .fail
  | .exc x => if keyX x = true then .exc x ρ else .fail
  | .fail => .fail
theorem vs_ownL (i : Nat) {x : Str} {pos' : Pos} (hN : X.N.Nodup) (h : VF X E e f) (hi : X.N[i]? = some x := by rfl) (hx : Loc X.env.scope x := by first | exact Or.inl rfl | exact Or.inr rfl) (hs : swapsWith e (some (.Name x pos')) pos.line X.env = pure false := by rfl)
    (hf : X.fn x = true ∨ X.env.scope.names.lookup x = some .local := by first | exact .inl rfl | exact .inr rfl) : VS X E (.Assign [.Name x pos'] e pos) (sOwnL i f) :=
  ⟨ps_weak (ps_set hN hi hx h.pe hs hf) fun D σ H ⟨ρ, F, F0, H0, er, q⟩ => by
    obtain ⟨fp, hsl, _, _⟩ := er.ex
    have n := hsl.at
    refine ⟨lent ρ, lend F H fp, lend_into er.g.into, hsl.lent (lend_sub fun p hp => (n p hp).1) fun p hp => lend_in hp, ?_⟩
    unfold sOwnL at q
    cases hf : f (lent ρ) with
    | ok d =>
      rw [hf] at q
      dsimp only at q
      intro v fq F1 H1 g o nq nd fr
      by_cases hk : flatOwn d = true
      · rw [if_pos hk] at q
        have out : ∀ p ∈ fq, p ∉ fp := fun p hp z => by
          have y := (n p z).2
          rw [fr p hp] at y
          exact y
        exact q _ _ H1 (er.put (unlend_grow n g) (.own nq (own_unlend n g o nq hk out)) nd fr)
      · rw [if_neg hk] at q; exact q.elim
    | exc x =>
      rw [hf] at q
      dsimp only at q
      by_cases hk : keyX x = true
      · rw [if_pos hk] at q
        exact fun cl dx F1 H1 g r => q cl dx σ _ H1 (er.mono (unlend_grow n g)) (unlend_x n g r hk)
      · rw [if_neg hk] at q; exact q.elim
    | fail => rw [hf] at q; exact q⟩
/-- what is own is held as never changing from here on -/
def sFreeze (i : Nat) (f : Env → Res) : Env → Res := fun ρ => match ρ[i]? with
  | some (.own d) => f (ρ.set i (.val d))
  | _ => f ρ
end

/-! ### an own slot changes -/
theorem set_same {σ : L2.St} {i : Nat} {o : Option V} (h : σ[i]? = some o) : σ.set i o = σ := by
  obtain ⟨h1, h2⟩ := List.getElem?_eq_some_iff.mp h
  subst h2
  exact List.set_getElem_self h1
theorem own_root {c : KW} {F H : Hp} {fp : List Addr} {v : V} {d : D} (o : Own c F H fp v d) (h : fp ≠ []) : ∃ p fq, v = .ref p ∧ fp = p :: fq := by
  cases o with
  | froz _ => exact absurd rfl h
  | lst _ _ _ => exact ⟨_, _, rfl, rfl⟩
  | dK _ _ _ => exact ⟨_, _, rfl, rfl⟩
  | dN _ _ _ => exact ⟨_, _, rfl, rfl⟩
  | setN _ _ _ _ => exact ⟨_, _, rfl, rfl⟩
theorem ER.frz {c : KW} {F0 H0 F H : Hp} {ρ : Env} {σ : L2.St} {i : Nat} {d : D} (h : ER c F0 H0 F H ρ σ) (e : ρ[i]? = some (.own d)) : ∃ F', ER c F0 H0 F' H (ρ.set i (.val d)) σ := by
  obtain ⟨g, fp, hs, nd, hf⟩ := h
  obtain ⟨fa, fi, fb, o, ef, h1, h2, k⟩ := hs.split e
  subst ef
  have nn := hs.at
  cases h1 with
  | @own v _ _ ne ow =>
    have n := ow.at
    have nd1 := nd
    rw [List.nodup_append] at nd1
    obtain ⟨_, nd2, nd3⟩ := nd1
    rw [List.nodup_append] at nd2
    have sub := lend_sub (H := H) fun p hp => (n p hp).1
    have g1 : Grow F0 H0 (lend F H fi) H := ⟨g.sub.trans sub, g.same, lend_into g.into, fun a o' e' => by
      by_cases z : a ∈ fi
      · exact .inr (hf a (List.mem_append_right _ (List.mem_append_left _ z)))
      · rw [lend_out z] at e'; exact g.new a o' e'⟩
    have ks := k (lend F H fi) H (.val d) (some v) [] sub (fun p hp => by
      have z : p ∉ fi := fun z => by
        rcases hp with y | y
        · exact nd3 p y p (List.mem_append_left _ z) rfl
        · exact nd2.2.2 p z p y rfl
      have y : p ∈ fa ++ (fi ++ fb) := by
        rcases hp with y | y
        · exact List.mem_append_left _ y
        · exact List.mem_append_right _ (List.mem_append_right _ y)
      exact ⟨by rw [lend_out z]; exact (nn p y).1, rfl⟩) (.val (ow.lent sub fun p hp => lend_in hp))
    rw [set_same h2] at ks
    exact ⟨_, g1, _, ks, nodup_part nd List.nodup_nil (fun p hp => by cases hp), fun p hp => by
      rcases List.mem_append.mp hp with z | z
      · exact hf p (List.mem_append_left _ z)
      · exact hf p (List.mem_append_right _ (List.mem_append_right _ z))⟩
/-- the root of an own slot is written -/
theorem ER.mut {c : KW} {F0 H0 F H : Hp} {ρ : Env} {σ : L2.St} {i : Nat} {d : D} (h : ER c F0 H0 F H ρ σ) (e : ρ[i]? = some (.own d)) :
    ∃ p fq, σ[i]? = some (some (.ref p)) ∧ Own c F H (p :: fq) (.ref p) d ∧ (p :: fq).Nodup ∧ ∀ F1 H1 ob d' fn, Grow F H F1 H1 → Own c F1 (upd H1 p ob) (p :: fn) (.ref p) d' → (p :: fn).Nodup → (∀ q ∈ fn, q ∈ fq ∨ H q = none) →
      ER c F0 H0 F1 (upd H1 p ob) (ρ.set i (.own d')) σ := by
  obtain ⟨g, fp, hs, nd, hf⟩ := h
  obtain ⟨fa, fi, fb, o, ef, h1, h2, k⟩ := hs.split e
  subst ef
  cases h1 with
  | @own v _ _ ne ow =>
    obtain ⟨p, fq, rfl, rfl⟩ := own_root ow ne
    have hp0 : H0 p = none := hf p (List.mem_append_right _ (List.mem_append_left _ List.mem_cons_self))
    have nd1 := nd
    rw [List.nodup_append] at nd1
    obtain ⟨_, nd2, nd3⟩ := nd1
    rw [List.nodup_append] at nd2
    refine ⟨p, fq, h2, ow, nd2.1, fun F1 H1 ob d' fn g1 ow' nd' hq => ?_⟩
    have n := hs.at
    have np := ow.at p List.mem_cons_self
    have np1 := grow_own g1 np.1 np.2
    have g2 : Grow F0 H0 F1 (upd H1 p ob) := by
      have g3 := g.trans g1
      refine ⟨g3.sub, fun a u ea => ?_, fun a u ea => ?_, fun a u ea => ?_⟩
      · rw [upd_ne (fun z => by rw [z, hp0] at ea; cases ea)]
        exact g3.same a u ea
      · rw [upd_ne (fun z => by rw [z, np1.1] at ea; cases ea)]
        exact g3.into a u ea
      · exact g3.new a u ea
    have pa : p ∉ fa := fun z => nd3 p z p (List.mem_append_left _ List.mem_cons_self) rfl
    have pb : p ∉ fb := fun z => nd2.2.2 p List.mem_cons_self p z rfl
    have inn : ∀ q, q ∈ fa ∨ q ∈ fb → q ∈ fa ++ ((p :: fq) ++ fb) := fun q hp => by
      rcases hp with y | y
      · exact List.mem_append_left _ y
      · exact List.mem_append_right _ (List.mem_append_right _ y)
    have ks := k F1 (upd H1 p ob) (.own d') (some (.ref p)) (p :: fn) g1.sub (fun q hq' => by
      have m := n q (inn q hq')
      have m1 := grow_own g1 m.1 m.2
      refine ⟨m1.1, ?_⟩
      rw [upd_ne (fun z => by subst z; exact hq'.elim pa pb)]
      exact m1.2) (.own (by simp) ow')
    rw [set_same h2] at ks
    have dis : ∀ q ∈ p :: fn, q ∉ fa ∧ q ∉ fb := fun q hq' => by
      rcases List.mem_cons.mp hq' with rfl | hq'
      · exact ⟨pa, pb⟩
      · rcases hq q hq' with z | z
        · exact ⟨fun y => nd3 q y q (List.mem_append_left _ (List.mem_cons_of_mem _ z)) rfl, fun y => nd2.2.2 q (List.mem_cons_of_mem _ z) q y rfl⟩
        · have no : ∀ y : q ∈ fa ∨ q ∈ fb, False := fun y => by
            have m := (n q (inn q y)).2
            rw [z] at m
            exact m
          exact ⟨fun y => no (.inl y), fun y => no (.inr y)⟩
    refine ⟨g2, _, ks, nodup_part nd nd' dis, fun q hq' => ?_⟩
    rcases List.mem_append.mp hq' with z | z
    · exact hf q (List.mem_append_left _ z)
    · rcases List.mem_append.mp z with z | z
      · rcases List.mem_cons.mp z with rfl | z
        · exact hp0
        · rcases hq q z with y | y
          · exact hf q (List.mem_append_right _ (List.mem_append_left _ (List.mem_cons_of_mem _ y)))
          · exact g.same.free y
      · exact hf q (List.mem_append_right _ (List.mem_append_right _ z))
section
variable {X : Cx} {E : WX} {e : Expr} {f : Env → Out D} {b : Env → Res} {st : Stmt} {body : List Stmt} {pos : Pos}
theorem vs_freeze (i : Nat) (h : VS X E st b) : VS X E st (sFreeze i b) := ⟨⟨fun pins s σ H D I ⟨ρ, F, F0, H0, er, q⟩ => by
  unfold sFreeze at q
  split at q
  · rename_i d he
    obtain ⟨F', er'⟩ := er.frz he
    exact h.ps.run pins s σ H D I ⟨_, F', F0, H0, er', q⟩
  · exact h.ps.run pins s σ H D I ⟨ρ, F, F0, H0, er, q⟩⟩⟩
theorem owns_push {c : KW} {F H : Hp} {v : V} {d : D} (r : Rep c F v d) : ∀ {fp : List Addr} {vs : List V} {ds : List D}, Owns c F H fp vs ds → Owns c F H fp (vs ++ [v]) (ds ++ [d])
  | _, _, _, .nil => .cons (fp := []) (fq := []) (.froz r) .nil
  | _, _, _, .cons a t => .cons a (owns_push r t)
theorem Owns.length {c : KW} {F H : Hp} : ∀ {fp : List Addr} {vs : List V} {ds : List D}, Owns c F H fp vs ds → vs.length = ds.length
  | _, _, _, .nil => rfl
  | _, _, _, .cons _ t => by rw [List.length_cons, List.length_cons, t.length]
/-- xs.append(e) -/
def sAppend (i : Nat) (f : Env → Out D) : Env → Res := fun ρ => match ρ[i]? with
  | some (.own (.lst l)) => (match f ρ with
    | .ok d => if fits (l.length + 1) = true then .nx (ρ.set i (.own (.lst (l ++ [d])))) else .fail
    | .exc x => .exc x ρ
    | .fail => .fail)
  | _ => .fail
theorem vs_append (i : Nat) {x : Str} {px apos cpos : Pos} (h : SE X E e f) (hN : X.N[i]? = some x := by rfl) (hv : Vis X.env.scope x := by first | exact Or.inl rfl | exact Or.inr (Or.inl rfl) | exact Or.inr (Or.inr rfl)) (hd : (x == ("__debug__" : Str)) = false := by decide)
    (hcd : (x == ("__classdict__" : Str)) = false := by decide)
    (hbase : attributeBase (.Name x px) "append" X.env (eval (.Name x px) X.env) = eval (.Name x px) X.env := by rfl)
    (hfew : ((backTo cpos (starEach (e :: []) X.env)).all (fun x => !x.1) && (backToKw cpos (keywordEach [] X.env)).all (fun x => x.1.isSome)
      && decide ((e :: ([] : List Expr)).length + ([] : List Keyword).length + (if ([] : List Keyword).isEmpty then 0 else 1) < 30)) = true := by rfl)
    (hline : (apos.endLine == cpos.line) = true := by rfl) (hs : starEach (e :: []) X.env = (false, eval e X.env) :: starEach [] X.env := by rfl) (hplain : (backTo cpos (starEach [] X.env)).any (·.1) = false := by rfl)
    (hsw : swapsWith (.Call (.Attribute (.Name x px) "append" apos) [e] [] cpos) none pos.line X.env = pure false := by rfl) :
    VS X E (.Expr (.Call (.Attribute (.Name x px) "append" apos) [e] [] cpos) pos) (sAppend i f) :=
  ⟨ps_weak (ps_expr (pe_bm PySem.F.plainAttrs_list PySem.F.slot_list_append PySem.F.type_list_append mt_append (pe_var hN hv hd hcd) (pa_cons h.pe pa_nil hs) hbase hfew hline hs hplain) hsw) fun D σ H ⟨ρ, F, F0, H0, er, q⟩ => by
    unfold sAppend at q
    split at q
    · rename_i l he
      obtain ⟨p, fq, hσ, ow, nd, k⟩ := er.mut he
      cases ow with
      | @lst _ xs _ _ hp1 hp2 os =>
        refine ⟨.ref p, hσ, .inl ⟨rfl, xs, SqL.of hp2⟩, ?_⟩
        refine Post.bindE (k := fun d => if fits (l.length + 1) = true then .nx (ρ.set i (.own (.lst (l ++ [d])))) else .fail) er q fun v d F1 H1 _ er1 r q1 => ?_
        obtain ⟨p', fq', hσ', ow', nd', k'⟩ := er1.mut he
        rw [hσ] at hσ'
        cases hσ'
        cases ow' with
        | @lst _ xs' _ _ hp1' hp2' os' =>
          by_cases hf : fits (l.length + 1) = true
          · rw [if_pos hf] at q1
            have hl := fits_line hf
            refine ⟨p, xs', v, rfl, rfl, hp2', by rw [os'.length]; omega, ?_⟩
            have hin : ∀ q ∈ fq', F1 q = none ∧ (upd H1 p (.lst (xs' ++ [v]))) q = H1 q := fun q hq => by
              refine ⟨(os'.at q hq).1, upd_ne ?_⟩
              rintro rfl
              exact (List.nodup_cons.mp nd').1 hq
            exact q1 σ F1 _ (k' F1 H1 _ _ fq' (Grow.refl er1.g.into) (.lst hp1' upd_same (owns_push r (os'.mono (Same.refl _) hin))) nd' fun q hq => .inl hq)
          · rw [if_neg hf] at q1; exact q1.elim
    · exact q.elim⟩

/-! ### xs[k] = e of an own list -/
theorem owns_set {c : KW} {F H : Hp} {v : V} {d : D} (r : Rep c F v d) : ∀ {fp : List Addr} {vs : List V} {ds : List D} {j : Nat}, Owns c F H fp vs ds → ∃ fq, Owns c F H fq (vs.set j v) (ds.set j d) ∧ fq.Sublist fp
  | _, _, _, _, .nil => ⟨[], .nil, List.Sublist.refl _⟩
  | _, _, _, 0, .cons (fp := fp) (fq := fq) a t => ⟨[] ++ fq, .cons (.froz r) t, List.sublist_append_right _ _⟩
  | _, _, _, j + 1, .cons a t => by
    obtain ⟨fq, h1, h2⟩ := owns_set r (j := j) t
    exact ⟨_, .cons a h1, List.Sublist.append (List.Sublist.refl _) h2⟩
def sSetItem (i : Nat) (fk f : Env → Out D) : Env → Res := fun ρ => match f ρ with
  | .ok d => (match ρ[i]? with
    | some (.own (.lst l)) => (match fk ρ with
      | .ok (.int k) => (match ixN l.length k with
        | some j => .nx (ρ.set i (.own (.lst (l.set j d))))
        | none => .fail)
      | .exc x => .exc x ρ
      | _ => .fail)
    | _ => .fail)
  | .exc x => .exc x ρ
  | .fail => .fail
theorem vs_setItem (i : Nat) {x : Str} {px spos : Pos} {ke : Expr} {fk : Env → Out D} (h : SE X E e f) (hk : SE X E ke fk) (hN : X.N[i]? = some x := by rfl) (hv : Vis X.env.scope x := by first | exact Or.inl rfl | exact Or.inr (Or.inl rfl) | exact Or.inr (Or.inr rfl))
    (hd : (x == ("__debug__" : Str)) = false := by decide) (hcd : (x == ("__classdict__" : Str)) = false := by decide)
    (hs : swapsWithSole [.Subscript (.Name x px) ke spos] e pos.line X.env = pure false := by rfl) (hw : swappedStores [.Subscript (.Name x px) ke spos] e X.env = pure none := by rfl)
    (h1 : (assignEach [.Subscript (.Name x px) ke spos] X.env).map (·.2) = [assign (.Subscript (.Name x px) ke spos) X.env] := by rfl)
    (hass : ∀ v, assign (.Subscript (.Name x px) ke spos) X.env v = (do
      let ov ← holding [v] (eval (.Name x px) X.env)
      let iv ← holding [v, ov] (eval ke X.env)
      standAt spos
      holding [v, ov, iv] (setItem ov iv v)
      release [v, ov, iv] []) := by intro _; rfl) :
    VS X E (.Assign [.Subscript (.Name x px) ke spos] e pos) (sSetItem i fk f) :=
  ⟨ps_weak (ps_asg h.pe (pg_sub (pe_var hN hv hd hcd) hk.pe set_list hass) hs hw h1) fun D σ H ⟨ρ, F, F0, H0, er, q⟩ => by
    refine Post.bindE (k := fun d => match ρ[i]? with
      | some (.own (.lst l)) => (match fk ρ with
        | .ok (.int k) => (match ixN l.length k with
          | some j => .nx (ρ.set i (.own (.lst (l.set j d))))
          | none => .fail)
        | .exc x => .exc x ρ
        | _ => .fail)
      | _ => .fail) er q fun v d F1 H1 _ er1 r q1 => ?_
    try dsimp only at q1
    split at q1
    · rename_i l he
      obtain ⟨p, fq, hσ, ow, nd, k⟩ := er1.mut he
      refine ⟨.ref p, hσ, ?_⟩
      -- the index is asked while v is held
      obtain ⟨H1', erb, back1, back2⟩ := er1.rebase
      have q2 : Post X E D F1 H1' (match fk ρ with
        | .ok (.int k) => (match ixN l.length k with
          | some j => .nx (ρ.set i (.own (.lst (l.set j d))))
          | none => .fail)
        | .exc x => .exc x ρ
        | _ => .fail) := by
        split at q1
        · split at q1
          · exact fun σ' F' H' e' => q1 σ' F' H' (back2 _ _ _ _ e')
          · exact q1
        · exact fun cl dx σ' F' H' e' r' => q1 cl dx σ' F' H' (back2 _ _ _ _ e') r'
        · exact q1
      have q3 : Post X E D F1 H1' (match fk ρ with
        | .ok dk => (match dk with
          | .int k => (match ixN l.length k with
            | some j => .nx (ρ.set i (.own (.lst (l.set j d))))
            | none => .fail)
          | _ => .fail)
        | .exc x => .exc x ρ
        | .fail => .fail) := by
        cases hfk : fk ρ with
        | ok dk => rw [hfk] at q2; cases dk <;> exact q2
        | exc x => rw [hfk] at q2; exact q2
        | fail => rw [hfk] at q2; exact q2
      refine Post.bindE (k := fun dk => match dk with
          | .int k => (match ixN l.length k with
            | some j => .nx (ρ.set i (.own (.lst (l.set j d))))
            | none => .fail)
          | _ => .fail) erb q3 fun u dk F2 H2 _ er2 r2 q4 => ?_
      cases dk with
      | int kk =>
        cases r2
        try dsimp only at q4
        split at q4
        · rename_i j hj
          obtain ⟨p', fq', hσ', ow', nd', k'⟩ := er2.mut he
          rw [hσ] at hσ'
          cases hσ'
          cases ow' with
          | @lst _ xs' _ _ hp1' hp2' os' =>
            refine ⟨p, xs', kk, j, rfl, rfl, hp2', by rw [os'.length]; exact hj, ?_⟩
            obtain ⟨fr, hfr, hsub⟩ := owns_set (j := j) (r.mono er2.g.sub) os'
            have hin : ∀ q ∈ fr, F2 q = none ∧ (upd H2 p (.lst (xs'.set j v))) q = H2 q := fun q hq => by
              refine ⟨(hfr.at q hq).1, upd_ne ?_⟩
              rintro rfl
              exact (List.nodup_cons.mp nd').1 (hsub.subset hq)
            exact q4 σ F2 _ (k' F2 H2 _ _ fr (Grow.refl er2.g.into) (.lst hp1' upd_same (hfr.mono (Same.refl _) hin)) (nd'.sublist (List.Sublist.cons_cons _ hsub)) fun q hq => .inl (hsub.subset hq))
        · exact q4.elim
      | _ => exact q4.elim
    · exact q1.elim⟩
end
end TP

end
set_option Elab.async false
set_option linter.all false
set_option maxRecDepth 100000
/-! The values layer: defs and their calls, comprehensions. -/
noncomputable section
namespace TP
variable [IOs]
open PySem PySem.Spec L2

/-! ### what a def promises -/
def spP (c : KW) (mg : Str → Option Value) (n : Nat) (g : List D → Out D) : Sp := fun vs H Q E => vs.length = n ∧ ∃ F ds, Same F H ∧ Reps c F vs ds ∧ At c mg E (Rep c) F H (g ds) Q
def startE (n : Nat) (ds : List D) : Env := ds.map Slot.val ++ List.replicate (n - ds.length) Slot.un
def semOf (n : Nat) (b : Env → Res) : List D → Out D := fun ds => match b (startE n ds) with
  | .rt d => .ok d
  | .nx _ => .ok .non
  | .exc x _ => .exc x
  | _ => .fail
abbrev WE0 (E : XK) : WX := fun cl dx _ H => E cl dx H
theorem slots_start {c : KW} {F H : Hp} : ∀ {vs : List V} {ds : List D} (m n : Nat), Reps c F vs ds → SlotsR c F H (ds.map Slot.val ++ List.replicate m Slot.un) (vs.map some ++ List.replicate m none) []
  | _, _, m, n, .nil => by
    induction m with
    | zero => exact .nil
    | succ m ih => exact .cons (fp := []) (fq := []) .un ih
  | _, _, m, n, .cons a t => .cons (fp := []) (fq := []) (.val a) (slots_start m n t)
section
variable {P : Program} {w : World} {K : PySem.W.Frag} {mg : Str → Option Value} {base : Heap}
abbrev cxV (P : Program) (w : World) (K : PySem.W.Frag) (mg : Str → Option Value) (base : Heap) (N : List Str) (qual : Str) (sc : Scope) (f : Addr) (cdv : Value) (A : Around) (outer : List PySem.Env) (s : Shared) (H : Hp) (E : XK) : Cx :=
  cxOf (L2.CX P w) P w K mg base N qual sc f cdv A outer s H E
/-- a def as the top has made it, without defaults -/
abbrev FnP (K : PySem.W.Frag) (x : Str) (st : Stmt) (f : Addr) (fd : FuncData) : Prop := FunD K x x (defArgs st) (defBody st) (defScope st) [] [] f fd
/-- a def by its body -/
theorem fn_okG {x qual : Str} {args : Arguments} {body : List Stmt} {scope : Scope} {dvs : List V} {kws : List (Str × V)} {f : Addr} {fd : FuncData} {N ps : List Str} {k n : Nat} {b : Env → Res} {g : List D → Out D} (F : FunD K x qual args body scope dvs kws f fd) (S : FnScope N ps scope) (hn : n = ps.length) (hg : g = semOf N.length b)
    (hb : ∀ [IOs] (cdv : Value) (A : Around) (outer : List PySem.Env) (s : Shared) (H : Hp) (E : XK), Room k (A.deeper (PyProof.Rows.envOfC qual scope s.heap.objs.size f cdv)) → VSs (cxV P w K mg base N qual scope f cdv A outer s H E) (WE0 E) body b) :
    FnOk P w K mg base (L2.CX P w) (k + 1) f fd ps (spP ⟨P, w, K⟩ mg n g) := by
  subst hn hg
  refine F.ok S (fun vs H Q E h => h.1) (fun cdv A outer s H vs Q E hr h => ?_)
  obtain ⟨hl, F1, ds, sm, rs, q⟩ := h
  refine ⟨_, (hb cdv A outer s H E hr).pss, startE N.length ds, F1, F1, H, ⟨Grow.refl sm, [], ?_, List.nodup_nil, fun p hp => by cases hp⟩, ?_⟩
  · unfold startE L2.start
    rw [rs.length]
    exact slots_start _ 0 rs
  · unfold semOf at q
    cases hb2 : b (startE N.length ds) with
    | nx ρ => rw [hb2] at q; exact fun σ F2 H2 er => q .non F2 H2 er.g .non
    | rt d => rw [hb2] at q; exact q
    | exc x ρ => rw [hb2] at q; exact fun cl dx σ F2 H2 er r => q cl dx F2 H2 er.g r
    | bk ρ => rw [hb2] at q; exact q.elim
    | ct ρ => rw [hb2] at q; exact q.elim
    | ret s ρ => rw [hb2] at q; exact q.elim
    | fail => rw [hb2] at q; exact q.elim
/-- a promise by another function that agrees -/
theorem fnok_sem {CX : CXT} {k n : Nat} {f : Addr} {fd : FuncData} {ps : List Str} {c : KW} {g g' : List D → Out D} (F : FnOk P w K mg base CX k f fd ps (spP c mg n g)) (h : ∀ ds, g' ds ≠ .fail → g ds = g' ds) : FnOk P w K mg base CX k f fd ps (spP c mg n g') :=
  F.imp fun vs H Q E ⟨hl, F1, ds, sm, rs, q⟩ => ⟨hl, F1, ds, sm, rs, by
    rw [h ds (fun z => by rw [z] at q; exact q)]
    exact q⟩
end

section
variable {X : Cx} {E : WX} {e : Expr} {es : List Expr} {fs : PEnv → Out (List D)} {pos p : Pos} {x : Str}
abbrev PassV (X : Cx) (E : WX) : Prop := ∀ σ, PassesAt (L2.CX X.prog X.w) X σ (xsE E σ)
theorem pass_takes (tk : Takes X E) : PassV X E := fun σ => passAt tk σ
abbrev XE0 : WX := fun _ _ _ _ => False
theorem pass_none : PassV X XE0 := fun σ _ _ _ _ _ _ h => by
  obtain ⟨_, _, _, _, _, _, _, _, _, _, _, _, z⟩ := h
  exact z.elim
/-- f(a, ..) -/
theorem ve_call {k n : Nat} {f : Addr} {fd : FuncData} {ps : List Str} {g : List D → Out D} (F : FnOk X.prog X.w X.K X.mg X.base (L2.CX X.prog X.w) k f fd ps (spP (cw X) X.mg n g)) (hr : Room k X.A) (hm : X.mg x = some (.ref f)) (hk : PySem.W.keepIn X.K (.ref f) = true)
    (hb : Binds X.K fd ps []) (hx : PassV X E) (ha : VA X E (e :: es) fs) (hn : ∀ ρ ds, fs ρ = .ok ds → ds.length = n) (hg : Gl X x := by rfl) (hdb : (x == ("__debug__" : Str)) = false := by decide)
    (he : starEach (e :: es) X.env = (false, eval e X.env) :: starEach es X.env := by rfl) (hpl : (backTo pos (starEach es X.env)).any (·.1) = false := by rfl) : VE X E (.Call (.Name x p) (e :: es) [] pos) (eCall g fs) :=
  ⟨pe_weak (pe_callSD F hr hg hm hk hb .nil hx ha.pa hdb he hpl) fun σ H Q ⟨ρ, F, s, sl, q⟩ => by
    refine ⟨ρ, F, s, sl, ?_⟩
    unfold eCall at q
    cases hf : fs ρ with
    | ok ds =>
      rw [hf] at q
      intro us F1 H1 g1 r1
      refine ⟨by rw [List.append_nil, r1.length]; exact hn ρ ds hf, F1, ds, g1.into, by rw [List.append_nil]; exact r1, ?_⟩
      have q' : At (cw X) X.mg (xsE E σ) (Rep (cw X)) F H (g ds) Q := q
      cases hk : g ds with
      | ok d => rw [hk] at q'; exact fun v F2 H2 g2 r2 => q' v F2 H2 (g1.trans g2) r2
      | exc z => rw [hk] at q'; exact fun cl dx F2 H2 g2 r2 => q' cl dx F2 H2 (g1.trans g2) r2
      | fail => rw [hk] at q'; exact q'
    | exc z => rw [hf] at q; exact q
    | fail => rw [hf] at q; exact q⟩
theorem args_len : ∀ {f : PEnv → Out D} {fs : PEnv → Out (List D)} {n : Nat}, (∀ ρ ds, fs ρ = .ok ds → ds.length = n) → ∀ ρ ds, aCons f fs ρ = .ok ds → ds.length = n + 1 := by
  intro f fs n h ρ ds e
  unfold aCons at e
  cases hf : f ρ with
  | ok d =>
    rw [hf] at e
    cases hs : fs ρ with
    | ok ds' =>
      rw [hs] at e
      have e' : Out.ok (d :: ds') = Out.ok ds := e
      injection e' with e'
      subst e'
      rw [List.length_cons, h ρ ds' hs]
    | exc _ => rw [hs] at e; cases e
    | fail => rw [hs] at e; cases e
  | exc _ => rw [hf] at e; cases e
  | fail => rw [hf] at e; cases e
theorem args_nil : ∀ (ρ : PEnv) ds, aNil ρ = .ok ds → ds.length = 0 := by
  intro ρ ds e
  cases e
  rfl
end

/-! ### targets of comprehensions -/
abbrev PgF := D → PEnv → Option PEnv
/-- the slots but those at ts are as they were -/
def ButAt (ts : List Nat) (σ σ' : L2.St) : Prop := σ'.length = σ.length ∧ ∀ i, i ∉ ts → σ'[i]? = σ[i]?
def pgR (X : Cx) (ts : List Nat) (g : PgF) : TG := fun v σ H Q => ∃ ρ F d, Same F H ∧ Slots (cw X) F ρ σ ∧ Rep (cw X) F v d ∧ ∃ ρ', g d ρ = some ρ' ∧ ∀ σ', Slots (cw X) F ρ' σ' → ButAt ts σ σ' → Q σ' H
def pgRs (X : Cx) (ts : List Nat) (g : List D → PEnv → Option PEnv) : TGs := fun vs σ H Q => ∃ ρ F ds, Same F H ∧ Slots (cw X) F ρ σ ∧ Reps (cw X) F vs ds ∧ ∃ ρ', g ds ρ = some ρ' ∧ ∀ σ', Slots (cw X) F ρ' σ' → ButAt ts σ σ' → Q σ' H
structure VP (X : Cx) (ts : List Nat) (t : Expr) (g : PgF) : Prop where
  pg : PG X t (pgR X ts g)
structure VPs (X : Cx) (ts : List Nat) (es : List Expr) (g : List D → PEnv → Option PEnv) : Prop where
  pgs : PGs X es (pgRs X ts g)
theorem Slots.set {c : KW} {F : Hp} {ρ : PEnv} {σ : L2.St} {i : Nat} {v : V} {d : D} (h : Slots c F ρ σ) (r : Rep c F v d) (hi : i < σ.length) : Slots c F (ρ.set i (some d)) (σ.set i (some v)) := fun j e q => by
  by_cases hj : j = i
  · subst hj
    by_cases hl : j < ρ.length
    · rw [List.getElem?_set_self hl] at q
      cases q
      exact ⟨v, List.getElem?_set_self hi, r⟩
    · rw [List.getElem?_eq_none (by simpa using hl)] at q; cases q
  · rw [List.getElem?_set_ne (Ne.symm hj)] at q
    obtain ⟨u, h1, h2⟩ := h j e q
    exact ⟨u, by rw [List.getElem?_set_ne (Ne.symm hj)]; exact h1, h2⟩
theorem ButAt.set {σ : L2.St} {i : Nat} {v : V} : ButAt [i] σ (σ.set i (some v)) := ⟨by simp, fun j hj => List.getElem?_set_ne (fun z => hj (by simp [z]))⟩
section
variable {X : Cx} {pos : Pos} {ts : List Nat}
def pgName (i : Nat) : PgF := fun d ρ => some (ρ.set i (some d))
theorem vp_name (i : Nat) {x : Str} (hN : X.N.Nodup) (hi : X.N[i]? = some x := by rfl) (hx : Loc X.env.scope x := by first | exact Or.inl rfl | exact Or.inr rfl) (hf : X.fn x = true ∨ X.env.scope.names.lookup x = some .local := by first | exact .inl rfl | exact .inr rfl) : VP X [i] (.Name x pos) (pgName i) :=
  ⟨⟨fun pins s σ H v u Q I r ⟨ρ, F, d, sm, sl, rd, ρ', e, q⟩ => by
    cases e
    have hl : i < σ.length := by rw [I.len]; exact (List.getElem?_eq_some_iff.mp hi).1
    exact (pg_name hN hi hx hf).run pins s σ H v u Q I r (q _ (sl.set rd hl) ButAt.set)⟩⟩
def pgNil : List D → PEnv → Option PEnv := fun ds ρ => match ds with
  | [] => some ρ
  | _ => none
def pgCons (g : PgF) (gs : List D → PEnv → Option PEnv) : List D → PEnv → Option PEnv := fun ds ρ => match ds with
  | d :: r => (g d ρ).bind (gs r)
  | [] => none
theorem ButAt.refl {σ : L2.St} : ButAt [] σ σ := ⟨rfl, fun _ _ => rfl⟩
theorem ButAt.trans {ts us : List Nat} {σ σ' σ2 : L2.St} (a : ButAt ts σ σ') (b : ButAt us σ' σ2) : ButAt (ts ++ us) σ σ2 :=
  ⟨b.1.trans a.1, fun i hi => (b.2 i fun z => hi (List.mem_append_right _ z)).trans (a.2 i fun z => hi (List.mem_append_left _ z))⟩
theorem vps_nil : VPs X [] [] pgNil := ⟨pgs_weak pgs_nil fun v σ H Q ⟨ρ, F, ds, sm, sl, r, ρ', e, q⟩ => by
  cases r with
  | nil => cases e; exact ⟨rfl, q σ sl .refl⟩
  | cons _ _ => cases e⟩
theorem vps_cons {t : Expr} {es : List Expr} {us : List Nat} {g : PgF} {gs : List D → PEnv → Option PEnv} (h1 : VP X ts t g) (h2 : VPs X us es gs) (hs : (assignEach (t :: es) X.env).map (·.2) = assign t X.env :: (assignEach es X.env).map (·.2) := by rfl) : VPs X (ts ++ us) (t :: es) (pgCons g gs) :=
  ⟨pgs_weak (pgs_cons h1.pg h2.pgs hs) fun v σ H Q ⟨ρ, F, ds, sm, sl, r, ρ', e, q⟩ => by
    cases r with
    | nil => cases e
    | @cons v1 vr d1 dr r1 r2 =>
      have e' : (g d1 ρ).bind (gs dr) = some ρ' := e
      cases hg : g d1 ρ with
      | none => rw [hg] at e'; cases e'
      | some ρ1 =>
        rw [hg] at e'
        exact ⟨v1, vr, rfl, ρ, F, d1, sm, sl, r1, ρ1, hg, fun σ1 sl1 b1 => ⟨ρ1, F, dr, sm, sl1, r2, ρ', e', fun σ2 sl2 b2 => q σ2 sl2 (b1.trans b2)⟩⟩⟩
def pgTup (n : Nat) (gs : List D → PEnv → Option PEnv) : PgF := fun d ρ => match d with
  | .tup ds => if ds.length = n then gs ds ρ else none
  | .lst ds => if ds.length = n then gs ds ρ else none
  | _ => none
theorem vp_tup {es : List Expr} {k n : Nat} {gs : List D → PEnv → Option PEnv} (hc : X.calm = true) (h : VPs X ts es gs) (hn : (assignEach es X.env).length = n := by rfl) (hst : (assignEach es X.env).findIdx? (·.1) = none := by rfl) : VP X ts (.Tuple es k pos) (pgTup n gs) :=
  ⟨pg_weak (pg_or (pg_tup hc h.pgs hn hst) (pg_lst hc h.pgs hn hst)) fun v σ H Q ⟨ρ, F, d, sm, sl, r, ρ', e, q⟩ => by
    cases r with
    | @tup a xs ds hs rs =>
      have e' : (if ds.length = n then gs ds ρ else none) = some ρ' := e
      by_cases hl : ds.length = n
      · rw [if_pos hl] at e'
        exact .inl ⟨a, xs, rfl, same_sqT sm hs, rs.length.trans hl, ρ, F, ds, sm, sl, rs, ρ', e', q⟩
      · rw [if_neg hl] at e'; cases e'
    | @lst a xs ds hs rs =>
      have e' : (if ds.length = n then gs ds ρ else none) = some ρ' := e
      by_cases hl : ds.length = n
      · rw [if_pos hl] at e'
        exact .inr ⟨a, xs, rfl, SqL.of (sm _ _ hs), rs.length.trans hl, ρ, F, ds, sm, sl, rs, ρ', e', q⟩
      · rw [if_neg hl] at e'; cases e'
    | _ => cases e⟩
end

/-! ### list comprehensions -/
def wipeP (ρ : PEnv) : List Nat → PEnv
  | [] => ρ
  | v :: vs => (wipeP ρ vs).set v none
theorem slots_wipe {c : KW} {F : Hp} {ρ : PEnv} {σ : L2.St} (h : Slots c F ρ σ) : ∀ vs, Slots c F (wipeP ρ vs) (wipe σ vs)
  | [] => h
  | v :: vs => fun i d q => by
    unfold wipeP at q
    by_cases hv : v = i
    · subst hv
      by_cases hl : v < (wipeP ρ vs).length
      · rw [List.getElem?_set_self hl] at q; cases q
      · rw [List.getElem?_eq_none (by simpa using hl)] at q; cases q
    · rw [List.getElem?_set_ne hv] at q
      obtain ⟨u, h1, h2⟩ := slots_wipe h vs i d q
      exact ⟨u, by unfold wipe; rw [List.getElem?_set_ne hv]; exact h1, h2⟩
theorem wipe_but {ts : List Nat} {σ σ' : L2.St} {vs : List Nat} (b : ButAt ts (wipe σ vs) σ') (hs : ∀ i ∈ ts, i ∈ vs) : wipe σ' vs = wipe σ vs := by
  have hl : σ'.length = σ.length := b.1.trans (wipe_length σ vs)
  refine List.ext_getElem? fun i => ?_
  by_cases hi : i ∈ vs
  · have gone : ∀ (τ : L2.St), (wipe τ vs)[i]? = if i < τ.length then some none else none := by
      intro τ
      clear b hs
      induction vs with
      | nil => cases hi
      | cons v vs ih =>
        unfold wipe
        by_cases hv : v = i
        · subst hv
          by_cases hl : v < (wipe τ vs).length
          · rw [List.getElem?_set_self hl]
            rw [wipe_length] at hl
            rw [if_pos hl]
          · rw [wipe_length] at hl
            rw [if_neg hl, List.getElem?_eq_none (by simpa [wipe_length] using hl)]
        · rw [List.getElem?_set_ne hv]
          exact ih ((List.mem_cons.mp hi).resolve_left fun z => hv z.symm)
    rw [gone σ', gone σ, hl]
  · rw [wipe_out hi]
    exact b.2 i fun z => hi (hs i z)
/-- element by element -/
def compL (g : PgF) (c : PEnv → Out Bool) (f : PEnv → Out D) (ρ : PEnv) : List D → Out (List D)
  | [] => .ok []
  | d :: r => match g d ρ with
    | none => .fail
    | some ρ1 => match c ρ1 with
      | .ok true => (match f ρ1 with
        | .ok y => (compL g c f ρ r).bind fun ys => .ok (y :: ys)
        | _ => .fail)
      | .ok false => compL g c f ρ r
      | _ => .fail
def eComp (vs : List Nat) (fi : PEnv → Out (List D)) (g : PgF) (c : PEnv → Out Bool) (f : PEnv → Out D) : PEnv → Out D := fun ρ => (fi ρ).bind fun ds => (compL g c f (wipeP ρ vs) ds).bind fun ys => if fits ds.length = true then .ok (.lst ys) else .fail
/-- a clause's tests -/
structure VTs (X : Cx) (E : WX) (ifs : List Expr) (f : PEnv → Out Bool) : Prop where
  pts : PTs X ifs (tb X E f)
def cYes : PEnv → Out Bool := fun _ => .ok true
theorem vts_nil {X : Cx} {E : WX} : VTs X E [] cYes := ⟨⟨fun pins s σ H Q I ⟨ρ, F, sm, sl, q⟩ => pts_nil.run pins s σ H Q I (At.const sm q rfl)⟩⟩
theorem vts_one {X : Cx} {E : WX} {t : Expr} {c : PEnv → Out Bool} (h : VT X E t c) : VTs X E [t] c := ⟨pts_one h.pt⟩
end TP

end
set_option Elab.async false
set_option linter.all false
set_option maxRecDepth 100000
/-! The values layer: list comprehensions. -/
noncomputable section
namespace TP
variable [IOs]
open PySem PySem.Spec L2
theorem grow_upd {F H F' H' : Hp} {p : Addr} {o : HO} (g : Grow F H F' H') (h1 : H p = none) (h2 : F' p = none) : Grow F H F' (upd H' p o) :=
  ⟨g.sub, fun a u e => by rw [upd_ne (fun z => by rw [z, h1] at e; cases e)]; exact g.same a u e, fun a u e => by rw [upd_ne (fun z => by rw [z, h2] at e; cases e)]; exact g.into a u e, g.new⟩
section
variable {X : Cx} {E : WX} {elt tg iter tg1 iter1 : Expr} {ifs ifs1 : List Expr} {scope : Scope} {own : List (Str × Nat)} {pos : Pos} {ts : List Nat} {fi : PEnv → Out (List D)} {g : PgF} {c : PEnv → Out Bool} {f : PEnv → Out D}
theorem own_grow {F H F' H' : Hp} (g : Grow F H F' H') {p : Addr} {xs : List V} (h1 : F p = none) (h2 : H p = some (.lst xs)) : F' p = none ∧ H' p = some (.lst xs) := by
  obtain ⟨a, b⟩ := grow_own g h1 (by rw [h2]; trivial)
  exact ⟨a, b.trans h2⟩
theorem lc_go {own : List (Str × Nat)} (hts : ∀ i ∈ ts, i ∈ own.map (·.2)) (σ : L2.St) (H : Hp) (Q : VK) (h : tvF X E (eComp (own.map (·.2)) fi g c f) σ H Q) : tLc (tI X E fi) (pgR X ts g) (tb X XE0 c) (tv X XE0 f) (own.map (·.2)) σ H Q := by
  obtain ⟨ρ, F, s, sl, q⟩ := h
  refine ⟨ρ, F, s, sl, ?_⟩
  unfold eComp at q
  cases hfi : fi ρ with
  | exc x => rw [hfi] at q; exact q
  | fail => rw [hfi] at q; exact q
  | ok ds =>
    rw [hfi] at q
    have q1 : AtF (cw X) X.mg (xsE E σ) F H ((compL g c f (wipeP ρ (own.map (·.2))) ds).bind fun ys => if fits ds.length = true then .ok (.lst ys) else .fail) Q := q
    clear q
    intro J F1 H1 g1 yl Dd hD
    have xfree : ∀ (l : List D) x, compL g c f (wipeP ρ (own.map (·.2))) l ≠ .exc x := by
      intro l x
      induction l with
      | nil => intro z; cases z
      | cons d r ih =>
        unfold compL
        cases g d (wipeP ρ (own.map (·.2))) with
        | none => intro z; cases z
        | some ρ1 =>
          dsimp only
          cases c ρ1 with
          | exc _ => intro z; cases z
          | fail => intro z; cases z
          | ok b =>
            cases b with
            | false => exact ih
            | true =>
              dsimp only
              cases f ρ1 with
              | exc _ => intro z; cases z
              | fail => intro z; cases z
              | ok y =>
                dsimp only
                intro z
                cases hr : compL g c f (wipeP ρ (own.map (·.2))) r with
                | ok _ => rw [hr] at z; cases z
                | exc _ => exact ih (by rw [hr] at z; rw [hr]; exact z)
                | fail => rw [hr] at z; cases z
    cases hcl : compL g c f (wipeP ρ (own.map (·.2))) ds with
    | exc x => exact absurd hcl (xfree ds x)
    | fail => rw [hcl] at q1; exact q1.elim
    | ok ys =>
      rw [hcl] at q1
      have q2 : AtF (cw X) X.mg (xsE E σ) F H (if fits ds.length = true then .ok (.lst ys) else .fail) Q := q1
      by_cases hf : fits ds.length = true
      · rw [if_pos hf] at q2
        have hline := fits_line hf
        have fD : F1 Dd = none := g1.into.free hD
        refine ⟨fun i m H2 => m = ds.length - i ∧ i ≤ ds.length ∧ ∃ F2 acc as, Grow F1 H1 F2 H2 ∧ F2 Dd = none ∧ H2 Dd = some (.lst acc) ∧ Reps (cw X) F2 acc as ∧ acc.length ≤ i ∧ ∃ rest, compL g c f (wipeP ρ (own.map (·.2))) (ds.drop i) = .ok rest ∧ as ++ rest = ys,
          ⟨ds.length, by simp, Nat.zero_le _, F1, [], [], Grow.own g1.into hD, fD, upd_same, .nil, Nat.le_refl _, ys, by rw [List.drop_zero]; exact hcl, rfl⟩, ?_⟩
        rintro i m H2 ⟨rfl, hi2, F2, acc, as, g2, fD2, hD2, ra, hl, rest, hrest, hys⟩
        by_cases hlt : i < ds.length
        · refine .inr ⟨yl.go i F2 H2 g2.sub g2.into hlt, fun H3 => ∃ F2 acc as, Grow F1 H1 F2 H3 ∧ F2 Dd = none ∧ H3 Dd = some (.lst acc) ∧ Reps (cw X) F2 acc as ∧ acc.length ≤ i + 1 ∧ ∃ rest, compL g c f (wipeP ρ (own.map (·.2))) (ds.drop (i + 1)) = .ok rest ∧ as ++ rest = ys,
            fun H3 z => ⟨ds.length - (i + 1), by omega, rfl, hlt, z⟩, fun x H3 hy => ?_⟩
          obtain ⟨d, F3, hd, g3, r3⟩ := yl.yld i F2 H2 x H3 g2.sub g2.into hy hlt
          obtain ⟨fD3, hD3⟩ := own_grow g3 fD2 hD2
          have ed : ds.drop i = d :: ds.drop (i + 1) := by
            obtain ⟨h1, h2⟩ := List.getElem?_eq_some_iff.mp hd
            rw [List.drop_eq_getElem_cons h1, h2]
          rw [ed] at hrest
          unfold compL at hrest
          cases hg2 : g d (wipeP ρ (own.map (·.2))) with
          | none => rw [hg2] at hrest; cases hrest
          | some ρ1 =>
            rw [hg2] at hrest
            dsimp only at hrest
            refine ⟨wipeP ρ (own.map (·.2)), F3, d, g3.into, slots_wipe (sl.mono ((g1.sub.trans g2.sub).trans g3.sub)) _, r3, ρ1, hg2, fun σ2 sl2 b2 => ⟨wipe_but b2 hts, ρ1, F3, g3.into, sl2, ?_⟩⟩
            cases hc2 : c ρ1 with
            | exc _ => rw [hc2] at hrest; cases hrest
            | fail => rw [hc2] at hrest; cases hrest
            | ok bb =>
              rw [hc2] at hrest
              intro b F4 H4 g4 eb
              have eb : b = bb := eb
              subst eb
              obtain ⟨fD4, hD4⟩ := own_grow g4 fD3 hD3
              have g24 := (g2.trans g3).trans g4
              cases b with
              | false =>
                rw [if_neg Bool.false_ne_true]
                exact ⟨F4, acc, as, g24, fD4, hD4, ra.mono (g3.sub.trans g4.sub), by omega, rest, hrest, hys⟩
              | true =>
                rw [if_pos rfl]
                dsimp only at hrest
                refine ⟨ρ1, F4, g4.into, sl2.mono g4.sub, ?_⟩
                cases hf2 : f ρ1 with
                | exc _ => rw [hf2] at hrest; cases hrest
                | fail => rw [hf2] at hrest; cases hrest
                | ok y =>
                  rw [hf2] at hrest
                  dsimp only at hrest
                  intro v F5 H5 g5 r5
                  obtain ⟨fD5, hD5⟩ := own_grow g5 fD4 hD4
                  cases hr : compL g c f (wipeP ρ (own.map (·.2))) (ds.drop (i + 1)) with
                  | exc _ => rw [hr] at hrest; cases hrest
                  | fail => rw [hr] at hrest; cases hrest
                  | ok rest2 =>
                    rw [hr] at hrest
                    have e3 : Out.ok (y :: rest2) = Out.ok rest := hrest
                    injection e3 with e3
                    refine ⟨acc, hD5, by rw [sizeLine_eq] at hline ⊢; omega, F5, acc ++ [v], as ++ [y], grow_upd (g24.trans g5) hD fD5, fD5, upd_same, (ra.mono ((g3.sub.trans g4.sub).trans g5.sub)).append (.one r5), by rw [List.length_append, List.length_singleton]; omega, rest2, rfl, ?_⟩
                    rw [List.append_assoc, ← hys, ← e3]
                    rfl
        · have ei : i = ds.length := by omega
          subst ei
          rw [List.drop_length] at hrest
          cases hrest
          rw [List.append_nil] at hys
          subst hys
          exact .inl ⟨yl.stop _ F2 H2 g2.sub g2.into (Nat.le_refl _), q2 (.ref Dd) [Dd] F2 H2 (g1.trans g2) (.lst fD2 hD2 (owns_reps ra)) (by simp) (by simp) fun p hp => by rw [List.mem_singleton.mp hp]; exact g1.same.free hD⟩
      · rw [if_neg hf] at q2; exact q2.elim
theorem vf_lc (hc : X.calm = true) (hN : X.N.Nodup) (ok : BlkOk X.N X.env.scope scope own) (hi : VI X E tg iter fi)
    (hg : ∀ (s : Shared) (H : Hp) (C : Addr) (cl : List (Str × Addr)) (fp : List Addr), VP (X.blk s H scope (compEnvC scope cl C X.env) fp) ts tg g)
    (ht : ∀ (s : Shared) (H : Hp) (C : Addr) (cl : List (Str × Addr)) (fp : List Addr), VTs (X.blk s H scope (compEnvC scope cl C X.env) fp) XE0 ifs c)
    (he : ∀ (s : Shared) (H : Hp) (C : Addr) (cl : List (Str × Addr)) (fp : List Addr), VE (X.blk s H scope (compEnvC scope cl C X.env) fp) XE0 elt f)
    (hts : ∀ i ∈ ts, i ∈ own.map (·.2)) (hs : ∀ x, foldedSetIterable iter X.env x = pure x := by intro _; rfl) :
    VF X E (.ListComp elt [⟨tg, iter, ifs, 0⟩] scope pos) (eComp (own.map (·.2)) fi g c f) :=
  ⟨pe_weak (pe_lc (g := pgR X ts g) (tt := tb X XE0 c) (te := tv X XE0 f) hc hN hi.pi ok (fun s H C cl fp => (hg s H C cl fp).pg) (fun s H C cl fp => (ht s H C cl fp).pts) (fun s H C cl fp => (he s H C cl fp).pe) hs) (lc_go hts)⟩
end
end TP

end
set_option Elab.async false
set_option linter.all false
set_option maxRecDepth 100000
/-! The values layer: order of data, chains, bool, isinstance, sorted. -/
noncomputable section
namespace TP
variable [IOs]
open PySem PySem.Spec L2
theorem room65 {k : Nat} {A : Around} (h : Room k A) : A.units + 65 < cLine := by have := h.un; omega
section
variable {X : Cx} {E : WX} {a b d e : Expr} {f g k : PEnv → Out D} {pos : Pos}

/-! ### < <= > >= of data -/
def D.alk (x y : D) : Bool := PySem.W.alike x.toP y.toP
def D.lt (x y : D) : Bool := PySem.W.dataLt x.toP y.toP
/-- what can be compared -/
def comp2 (x y : D) : Bool := decide (x.ht ≤ 60) && decide (y.ht ≤ 60) && !isNonB x && D.alk x y
def ltD (x y : D) : Out Bool := if comp2 x y = true then .ok (D.lt x y) else .fail
def gtD (x y : D) : Out Bool := if comp2 x y = true then .ok (D.lt y x) else .fail
def leD (x y : D) : Out Bool := if comp2 x y = true then .ok (!D.lt y x) else .fail
def geD (x y : D) : Out Bool := if comp2 x y = true then .ok (!D.lt x y) else .fail
theorem isNon_toP {x : D} (h : isNonB x = false) (hz : x.ht ≤ 60) : x.toP ≠ .none := by
  cases x with
  | non => cases h
  | scr _ => unfold D.ht at hz; omega
  | dct _ => unfold D.ht at hz; omega
  | set _ => unfold D.ht at hz; omega
  | _ => unfold D.toP; exact fun z => nomatch z
theorem op_data {op : CmpOp} {h : D → D → Out Bool} {r : PyData → PyData → Bool} (hu : X.A.units + 65 < cLine) (hh : ∀ x y, h x y = if comp2 x y = true then .ok (r x.toP y.toP) else .fail)
    (go : ∀ {E : Value → Shared → Prop} {Q : Value → Shared → Prop} {s : Shared} {u v : Value} {da db : PyData} {as bs : List Addr}, Reads s.heap u da as → Reads s.heap v db bs → PySem.W.alike da db = true → da ≠ .none → X.A.units + min da.depth db.depth < cLine → Q (.bool (r da db)) s → wpAny (model X.prog X.w) X.A (compareOp op u v) Q E s) : CmpV X op h := by
  rintro E pins s σ H x y v u Q I rx ry ⟨F, a, b, sm, ra, rb, q⟩
  have q : At (cw X) X.mg E (Rep (cw X)) F H (blD (h a b)) Q := q
  rw [hh] at q
  by_cases hf : comp2 a b = true
  · rw [if_pos hf] at q
    obtain ⟨c12, c4⟩ := and2 hf
    obtain ⟨c1, c2, c3⟩ := and3 c12
    have c1 := of_decide_eq_true c1
    have c2 := of_decide_eq_true c2
    obtain ⟨h1, h2, h3⟩ := Rep.dp a x (ra.mono sm) c1
    obtain ⟨k1, k2, k3⟩ := Rep.dp b y (rb.mono sm) c2
    obtain ⟨as, r1⟩ := Dp.reads I _ x v h1 rx
    obtain ⟨bs, r2⟩ := Dp.reads I _ y u k1 ry
    exact go r1 r2 c4 (isNon_toP (by simpa using c3) c1) (by have := Nat.min_le_left a.toP.depth b.toP.depth; omega) ⟨.bl _, H, I, rfl, At.blOk sm q⟩
  · rw [if_neg hf] at q; exact q.elim
theorem cmp_lt (hu : X.A.units + 65 < cLine) : CmpV X .Lt ltD := op_data (r := fun x y => PySem.W.dataLt x y) hu (fun _ _ => rfl) fun h1 h2 h3 h4 h5 q => PySem.W.lt_data h1 h2 h3 h4 h5 q
theorem cmp_gt (hu : X.A.units + 65 < cLine) : CmpV X .Gt gtD := op_data (r := fun x y => PySem.W.dataLt y x) hu (fun _ _ => rfl) fun h1 h2 h3 h4 h5 q => PySem.W.gt_data h1 h2 h3 h4 h5 q
theorem cmp_le (hu : X.A.units + 65 < cLine) : CmpV X .LtE leD := op_data (r := fun x y => !PySem.W.dataLt y x) hu (fun _ _ => rfl) fun h1 h2 h3 h4 h5 q => PySem.W.le_data h1 h2 h3 h4 h5 q
theorem cmp_ge (hu : X.A.units + 65 < cLine) : CmpV X .GtE geD := op_data (r := fun x y => !PySem.W.dataLt x y) hu (fun _ _ => rfl) fun h1 h2 h3 h4 h5 q => PySem.W.ge_data h1 h2 h3 h4 h5 q
theorem lt_ints (i j : Int) : D.lt (.int i) (.int j) = decide (i < j) := PySem.W.dataLt_int i j
theorem ltD_int (i j : Int) : ltD (.int i) (.int j) = .ok (decide (i < j)) := by
  unfold ltD
  rw [if_pos (by simp [comp2, D.ht, isNonB, D.alk, D.toP, PySem.W.alike]), lt_ints]
theorem gtD_int (i j : Int) : gtD (.int i) (.int j) = .ok (decide (j < i)) := by
  unfold gtD
  rw [if_pos (by simp [comp2, D.ht, isNonB, D.alk, D.toP, PySem.W.alike]), lt_ints]
theorem leD_int (i j : Int) : leD (.int i) (.int j) = .ok (decide (i ≤ j)) := by
  unfold leD
  rw [if_pos (by simp [comp2, D.ht, isNonB, D.alk, D.toP, PySem.W.alike]), lt_ints]
  congr 1
  by_cases h : i ≤ j
  · simp [h]
  · simp [h]; omega
theorem geD_int (i j : Int) : geD (.int i) (.int j) = .ok (decide (j ≤ i)) := by
  unfold geD
  rw [if_pos (by simp [comp2, D.ht, isNonB, D.alk, D.toP, PySem.W.alike]), lt_ints]
  congr 1
  by_cases h : j ≤ i
  · simp [h]
  · simp [h]; omega
/-- a op b op' c -/
theorem ve_chain {op op' : CmpOp} {h h' : D → D → Out Bool} (ho : CmpV X op h) (ho' : CmpV X op' h') (ha : VE X E a f) (hb : VE X E b g) (hc : VE X E d k) (hm : lastMarks [op, op'] [b, d] = false := by with_unfolding_all rfl) :
    VE X E (.Compare a [op, op'] [b, d] pos) (eB (cChain h h' f g k)) :=
  ⟨pe_weak (pe_at fun E' => pe_chain (ho E') (ho' E') ha.pe hb.pe hc.pe hm) fun σ H Q ⟨ρ, F, s, sl, q⟩ => by
    have e : eB (cChain h h' f g k) ρ = (f ρ).bind fun x => (g ρ).bind fun y => (blD (h x y)).bind fun z => match z with
        | .bl b => if b = true then (k ρ).bind fun w => blD (h' y w) else .ok (.bl false)
        | _ => .fail := by
      unfold eB cChain TP.blD
      cases f ρ with
      | ok x =>
        cases g ρ with
        | ok y =>
          simp only [ok_bind]
          generalize h x y = o
          cases o with
          | ok b =>
            cases b with
            | true =>
              cases k ρ with
              | ok z => simp
              | _ => simp
            | false => simp
          | _ => simp
        | _ => simp
      | _ => simp
    rw [e] at q
    refine tv_bind s sl q fun v F1 H1 x s1 e1 sl1 r1 q1 => tv_bind s1 sl1 q1 fun u F2 H2 y s2 e2 sl2 r2 q2 => ⟨F2, x, y, s2, r1.mono e2, r2, At.mono (At.bind (R := Rep (cw X)) q2) ?_⟩
    rintro z H3 ⟨F3, w, ez, g3, r3, q3⟩
    have ez : TP.blD (h x y) = Out.ok w := ez
    cases hxy : h x y with
    | ok b =>
      rw [hxy] at ez
      cases ez
      cases r3
      refine ⟨b, rfl, ?_⟩
      cases b with
      | true => exact tv_bind g3.into (sl2.mono g3.sub) q3 fun w F4 H4 z s4 e4 sl4 r4 q4 => ⟨F4, y, z, s4, (r2.mono g3.sub).mono e4, r4, q4⟩
      | false => exact At.const g3.into q3 (.bl false)
    | exc _ => rw [hxy] at ez; cases ez
    | fail => rw [hxy] at ez; cases ez⟩

/-! ### bool -/
theorem bool_tuple (l : Addr) (items : Array Value) (hfit : (items.size : Int) < 2 ^ 63) : Meets (Builtin.«bool.__new__» ⟨[.type "bool", .ref l], []⟩) (fun _ R s => PyProof.Rows.IsTup s.heap l items ∧ R (.ok (.ret (.bool (!items.isEmpty)))) { s with toks := s.toks + 1 + 1 }) :=
  Meets.of_wp fun prog w A R s hs => by
    obtain ⟨hl, hs⟩ := hs
    obtain ⟨hp, g, d, tk, os⟩ := s
    have f1 := PySem.F.conv_sub_bool
    repeat (any_goals (first | assumption | (with_reducible refine PyProof.Rows.truthy_tuple hl hfit ?_) | wp_step))
    all_goals first | exact ⟨_, rfl, hs⟩ | exact hs | skip
theorem call_boolT : CallR X (.type "bool") (fun xs H Q => ∃ (a : Addr) (zs : List V), xs = [.ref a] ∧ SqT X.K H a zs ∧ Q (.bl (!zs.isEmpty)) H) := by
  intro pins s σ H xs us Q I r h
  obtain ⟨a, zs, rfl, hq, q⟩ := h
  obtain rfl := Vals.ref1 r
  obtain ⟨its, rv, pl, hz⟩ := I.tuple hq
  have hl := line63
  have hlen := rv.length
  refine call_bool_1 (bool_tuple a its.toArray (by simp only [List.size_toArray]; omega)) ⟨pl, rfl, ?_⟩
  exact ⟨.bl (!zs.isEmpty), H, I.tok _, by rw [isEmpty_of rv]; rfl, q⟩
def boolD : List D → Out D
  | [.bl b] => .ok (.bl b)
  | [.int i] => .ok (.bl (i != 0))
  | [.lst l] => .ok (.bl (!l.isEmpty))
  | [.tup l] => .ok (.bl (!l.isEmpty))
  | _ => .fail
theorem call_boolV : CallV X (.type "bool") boolD := by
  rintro E pins s σ H xs us Q I rx ⟨F, ds, sm, rs, q⟩
  cases rs with
  | nil => exact q.elim
  | @cons v vs d ds r t =>
    cases t with
    | cons _ _ => cases d <;> exact q.elim
    | nil =>
      cases r with
      | bl b => exact call_bool1 pins s σ H _ us Q I rx (.inr ⟨b, rfl, At.k sm q (.bl _)⟩)
      | int i => exact call_bool1 pins s σ H _ us Q I rx (.inl ⟨i, rfl, At.k sm q (.bl _)⟩)
      | @tup a xs ds h rs => exact call_boolT pins s σ H _ us Q I rx ⟨a, xs, rfl, same_sqT sm h, by rw [rs.isEmpty]; exact At.k sm q (.bl _)⟩
      | @lst a xs ds h rs => exact call_boolL pins s σ H _ us Q I rx ⟨a, xs, rfl, SqL.of (sm _ _ h), by rw [rs.isEmpty]; exact At.k sm q (.bl _)⟩
      | _ => exact q.elim

/-! ### isinstance -/
def D.ty : D → String
  | .non => "NoneType"
  | .bl _ => "bool"
  | .int _ => "int"
  | .str _ => "str"
  | .tup _ => "tuple"
  | .lst _ => "list"
  | .scr _ => "list"
  | .dct _ => "dict"
  | .set _ => "set"
def isiB (T : String) (d : D) : Bool := d.ty == T || (T == "int" && d.ty == "bool")
def isiD (T : String) : D → Out D := fun d => .ok (.bl (isiB T d))
theorem kit_all : ∀ T ∈ ["str", "int", "bool", "tuple", "list", "dict", "set"], ∀ t ∈ ["NoneType", "bool", "int", "str", "tuple", "list", "dict", "set"], kitB t T = some (t == T || (T == "int" && t == "bool")) := by decide +kernel
theorem ty_mem (d : D) : d.ty ∈ ["NoneType", "bool", "int", "str", "tuple", "list", "dict", "set"] := by cases d <;> simp [D.ty]
theorem kit_rep {pins : List (Addr × Obj)} {σ : L2.St} {H : Hp} {s : Shared} {x : V} {u : Value} {d : D} (I : Inv X pins σ H s) (rx : RelV x u) (r : Rep (cw X) H x d) : ∃ P : Heap → Prop, PySem.W.KitX X.K u (.type d.ty) P ∧ P s.heap ∧ u ≠ .builtin "__main__.__loader__#opaque" := by
  cases r with
  | non => exact kit_of I rx (.base .non)
  | bl b => exact kit_of I rx (.base (.bl b))
  | int i => exact kit_of I rx (.base (.int i))
  | str x _ => exact kit_of I rx (.base (.str x))
  | tup h _ =>
    cases rx
    obtain ⟨its, _, ⟨o, h1, h2, _⟩, _⟩ := I.tuple h
    exact ⟨_, PySem.W.kitx_tuple, ⟨o, h1, h2⟩, fun z => nomatch z⟩
  | lst h _ =>
    cases rx
    obtain ⟨its, _, h1, _⟩ := I.list (SqL.of h)
    obtain ⟨o, h1, h2, _⟩ := h1.isList
    exact ⟨_, PySem.W.kitx_list, ⟨o, h1, h2⟩, fun z => nomatch z⟩
  | scr h =>
    cases rx
    obtain ⟨its, _, h1, _⟩ := I.list h
    obtain ⟨o, h1, h2, _⟩ := h1.isList
    exact ⟨_, PySem.W.kitx_list, ⟨o, h1, h2⟩, fun z => nomatch z⟩
  | dK h _ => exact kit_of I rx (.base (.dK h))
  | dN h _ =>
    cases rx
    obtain ⟨_, _, _, o, es, ep, h1, h2, _⟩ := (I.hok _ _ h).1
    exact ⟨_, PySem.W.kitx_dict, ⟨o, h1, h2.1⟩, fun z => nomatch z⟩
  | setN h _ _ =>
    cases rx
    obtain ⟨o, es, ep, t, h1, h2, _⟩ := (I.hok _ _ h).1
    exact ⟨_, PySem.W.kitx_set, ⟨o, h1, h2.1⟩, fun z => nomatch z⟩
def rIsiV (X : Cx) (E : XK) (T : String) : List V → Hp → VK → Prop := fun xs H Q => ∃ x F d, xs = [x, .ty T] ∧ Same F H ∧ Rep (cw X) F x d ∧ At (cw X) X.mg E (Rep (cw X)) F H (isiD T d) Q
theorem call_isiV {T : String} (E : XK) (hT : T ∈ ["str", "int", "bool", "tuple", "list", "dict", "set"]) : CallR X (.builtin "isinstance") (rIsiV X E T) := by
  rintro pins s σ H xs us Q I r ⟨x, F, d, rfl, sm, rd, q⟩
  obtain ⟨u1, u2, rfl, r1, r2⟩ := vals2 r
  cases r2
  obtain ⟨P, Z, p, hx⟩ := kit_rep I r1 (rd.mono sm)
  exact PySem.W.kia_one Z I.kIn p (kit_ty (kit_all T hT d.ty (ty_mem d))) hx fun tk => ⟨.bl (isiB T d), H, I.tok tk, rfl, At.k sm q (.bl _)⟩
theorem ve_isi {T : String} {x : Str} {p p2 : Pos} (hg : Gl X "isinstance") (hm : X.mg "isinstance" = none) (hg2 : Gl X x) (hm2 : X.mg x = none) (hT : T ∈ ["str", "int", "bool", "tuple", "list", "dict", "set"]) (hv2 : bootBuiltins x = some (.type T)) (ha : VE X E a f)
    (hn : x ≠ "__name__" := by decide) (hd : (x == ("__debug__" : Str)) = false := by decide)
    (hs : starEach [a, .Name x p2] X.env = (false, eval a X.env) :: starEach [.Name x p2] X.env := by rfl) (hs2 : starEach [.Name x p2] X.env = (false, eval (.Name x p2) X.env) :: starEach [] X.env := by rfl)
    (hpl : (backTo pos (starEach [.Name x p2] X.env)).any (·.1) = false := by rfl) : VE X E (.Call (.Name "isinstance" p) [a, .Name x p2] [] pos) (e1 (isiD T) f) :=
  ⟨pe_weak (pe_at fun E' => pe_callB (call_isiV E' hT) hg hm PyProof.Rows.boot_isinstance (pa_cons ha.pe (pa_cons (pe_bltn (v := .ty T) hg2 hm2 hv2 rfl hn hd) pa_nil hs2) hs) (by decide) (by decide) hs hpl) fun σ H Q ⟨ρ, F, s, sl, q⟩ =>
    tv_bind s sl q fun v F1 H1 d s1 e1 sl1 r1 q1 => ⟨v, F1, d, rfl, s1, r1, q1⟩⟩
end
end TP

end
set_option Elab.async false
set_option linter.all false
set_option maxRecDepth 100000
/-! The values layer: dicts, pop. -/
noncomputable section
namespace TP
variable [IOs]
open PySem PySem.Spec L2

/-! ### keys in the heap -/
section
variable {X : Cx} {pins : List (Addr × Obj)} {σ : L2.St} {H : Hp} {s : Shared}
mutual
theorem Rep.nested (I : Inv X pins σ H s) : ∀ {v : V} {u : Value} {d : D}, Rep (cw X) H v d → RelV v u → d.isKey = true → NestedIs s.heap d.key u
  | _, _, _, .non, r, _ => by cases r; exact .none
  | _, _, _, .bl b, r, _ => by cases r; exact .bool rfl
  | _, _, _, .int i, r, _ => by obtain ⟨t, rfl⟩ := r; exact .int i t
  | _, _, _, .str x _, r, _ => by obtain ⟨t, rfl⟩ := r; exact .text x t
  | _, _, _, .tup q rs, r, h => by
    cases r
    obtain ⟨its, rv, ⟨o, h1, h2, n, h3⟩, _⟩ := I.tuple q
    exact .tup h1 h2 h3 (by simpa using Reps.nested I rs rv (by unfold D.isKey at h; exact h))
  | _, _, _, .lst _ _, _, h => by unfold D.isKey at h; cases h
  | _, _, _, .scr _, _, h => by unfold D.isKey at h; cases h
  | _, _, _, .dK _ _, _, h => by unfold D.isKey at h; cases h
  | _, _, _, .dN _ _, _, h => by unfold D.isKey at h; cases h
  | _, _, _, .setN _ _ _, _, h => by unfold D.isKey at h; cases h
theorem Reps.nested (I : Inv X pins σ H s) : ∀ {vs : List V} {us : List Value} {ds : List D}, Reps (cw X) H vs ds → Vals vs us → D.areKeys ds = true → NestedAll s.heap (D.keys ds) us
  | _, _, _, .nil, r, _ => by cases r; exact .nil
  | _, _, _, .cons a t, r, h => by
    cases r with
    | cons r1 r2 =>
      unfold D.areKeys at h
      have h := and2 h
      exact .cons (Rep.nested I a r1 h.1) (Reps.nested I t r2 h.2)
end
end

/-! ### looking up, putting -/
def dkeyEq (a b : D) : Bool := NestedKey.beq a.key b.key
def dlook (ds : List (D × D)) (k : D) : Option D := (ds.find? fun p => dkeyEq p.1 k).map (·.2)
def dputL (ds : List (D × D)) (k v : D) : List (D × D) := if (ds.any fun p => dkeyEq p.1 k) = true then ds.map (fun p => if dkeyEq p.1 k = true then (p.1, v) else p) else ds ++ [(k, v)]
/-- tuples as keys -/
def tupKey (d : D) : Bool := isTupD d && d.isKey && decide (d.key.depth ≤ 8)
def flatK (d : D) : Bool := (flatKey d).isSome
/-- the key goes with the dict's keys -/
def keyFits (ds : List (D × D)) (k : D) : Bool := if isTupD k = true then tupKey k && ds.all (fun p => isTupD p.1) else flatK k && ds.all (fun p => flatK p.1)
theorem rep_kV {c : KW} {F : Hp} {k : Key} {d : D} (r : Rep c F (kV k) d) : flatKey d = some k := by
  cases k with
  | inl i => cases r; rfl
  | inr x => cases r; rfl
theorem flat_rep {c : KW} {F : Hp} {v : V} {d : D} {k : Key} (r : Rep c F v d) (h : flatKey d = some k) : v = kV k := by
  cases r <;> first | (cases h; rfl) | cases h
theorem flat_eq {a b : D} {i j : Key} (ha : flatKey a = some i) (hb : flatKey b = some j) : dkeyEq a b = decide (i = j) := by
  unfold dkeyEq
  cases a <;> first | cases ha | skip
  all_goals cases b <;> first | cases hb | skip
  all_goals simp [D.key, NestedKey.beq]
theorem KVs.look {c : KW} {F : Hp} {k : Key} {d : D} (hk : flatKey d = some k) : ∀ {kvs : List (Key × V)} {ds : List (D × D)}, KVs c F kvs ds → (valV kvs k = none ∧ dlook ds d = none) ∨ ∃ v e, valV kvs k = some v ∧ dlook ds d = some e ∧ Rep c F v e
  | _, _, .nil => .inl ⟨rfl, rfl⟩
  | _, _, .cons (k := k') (v := v) (d := d') (e := e) r1 r2 t => by
    have e1 := flat_eq (rep_kV r1) hk
    unfold valV dlook
    rw [List.find?_cons, List.find?_cons]
    by_cases h : k' = k
    · have e2 : dkeyEq d' d = true := by rw [e1]; exact decide_eq_true h
      simp only [h, decide_true, e2]
      exact .inr ⟨v, e, rfl, rfl, r2⟩
    · have e2 : dkeyEq d' d = false := by rw [e1]; exact decide_eq_false h
      simp only [h, decide_false, e2]
      exact KVs.look hk t
theorem NVs.look {c : KW} {F : Hp} {d : D} : ∀ {xs : List (NestedKey × Addr × Value)} {ds : List (D × D)}, NVs c F xs ds → (atKey xs d.key = none ∧ dlook ds d = none) ∨ ∃ b u v e, atKey xs d.key = some (b, u) ∧ dlook ds d = some e ∧ RelV v u ∧ Rep c F v e
  | _, _, .nil => .inl ⟨rfl, rfl⟩
  | _, _, .cons (b := b) (u := u) (v := v) (d := d') (e := e) r1 h1 h2 h3 rv r2 t => by
    unfold atKey dlook
    rw [List.find?_cons, List.find?_cons]
    have e1 : decide (d'.key = d.key) = dkeyEq d' d := NestedKey.decide_eq _ _
    simp only [e1]
    cases dkeyEq d' d with
    | true => exact .inr ⟨b, u, v, e, rfl, rfl, rv, r2⟩
    | false => exact NVs.look t
theorem KVs.length {c : KW} {F : Hp} : ∀ {kvs : List (Key × V)} {ds : List (D × D)}, KVs c F kvs ds → kvs.length = ds.length
  | _, _, .nil => rfl
  | _, _, .cons _ _ t => by rw [List.length_cons, List.length_cons, KVs.length t]
theorem NVs.length {c : KW} {F : Hp} : ∀ {kvs : List (NestedKey × Addr × Value)} {ds : List (D × D)}, NVs c F kvs ds → kvs.length = ds.length
  | _, _, .nil => rfl
  | _, _, .cons _ _ _ _ _ _ t => by rw [List.length_cons, List.length_cons, NVs.length t]

/-! ### the dict's object, by its keys -/
section
variable {X : Cx} {pins : List (Addr × Obj)} {σ : L2.St} {H F : Hp} {s : Shared} {a : Addr}
/-- an empty dict is one of any kind -/
theorem dK_nil {P : Program} {w : World} {h : Heap} (d : h.DictOf (mixKind P w) a []) : h.DictOfH (nestedKind P w) a [] := by
  obtain ⟨o, es, ep, h1, h2, h3, h4, h5, h6, h7⟩ := d
  have e0 : es.toList = [] := by
    first
      | (cases h5; rfl)
      | (generalize es.toList = l at h5; cases h5; rfl)
  exact ⟨o, es, ep, h1, h2, h3, by rw [e0]; rfl, fun x hx => absurd hx (by simp), List.nodup_nil⟩
theorem NVs.keys (I : Inv X pins σ H s) (sm : Same F H) : ∀ {xs : List (NestedKey × Addr × Value)} {ds : List (D × D)}, NVs (cw X) F xs ds → ∀ x ∈ xs, (nestedKind X.prog X.w).is s.heap x.1 x.2.1
  | _, _, .nil, x, hx => by cases hx
  | _, _, .cons r h1 h2 h3 rv r2 t, x, hx => by
    rcases List.mem_cons.mp hx with rfl | hx
    · exact ⟨(r.mono sm).nested I rfl h1, h3⟩
    · exact NVs.keys I sm t x hx
theorem dN_of (I : Inv X pins σ H s) (sm : Same F H) {xs : List (NestedKey × Addr × Value)} {ds : List (D × D)} (e : H a = some (DctN X.w a xs)) (r : NVs (cw X) F xs ds) : (a == sysModules) = false ∧ xs.length ≤ sizeLine ∧ s.heap.DictOfH (nestedKind X.prog X.w) a xs := by
  obtain ⟨h1, h2, h3, o, es, ep, h4, h5, h6, h7⟩ := (I.hok _ _ e).1
  exact ⟨h1, h2, o, es, ep, h4, h5, h6, h7, NVs.keys I sm r, h3⟩
theorem dctN_new {P : Program} {w : World} {H' : Hp} {h : Heap} {xs : List (NestedKey × Addr × Value)} (h1 : (a == sysModules) = false) (h2 : xs.length ≤ sizeLine) (d : h.DictOfH (nestedKind P w) a xs) : ObjOk P w H' h a (DctN w a xs) := by
  obtain ⟨o, es, ep, h4, h5, h6, h7, _, h3⟩ := d
  refine ⟨⟨h1, h2, h3, o, es, ep, h4, h5, h6, h7⟩, ⟨o, h4⟩, fun g1 g2 p k => ?_⟩
  obtain ⟨k1, k2, k3, o', es', ep', k4, k5⟩ := p
  exact ⟨k1, k2, k3, o', es', ep', k o' k4, k5⟩
end

/-! ### d[k] -/
def dgetD : D → D → Out D
  | .dct ds, k => if keyFits ds k = true then Out.ofO (dlook ds k) else .fail
  | _, _ => .fail
def getX : D → D → Out D
  | .dct ds, k => dgetD (.dct ds) k
  | a, b => getD a b
section
variable {X : Cx} {E : WX} {a b e : Expr} {f g : PEnv → Out D} {pos : Pos}
theorem tail_dict {prog : Program} {w : World} {A : Around} {E : Value → Shared → Prop} {s : Shared} {value slice : Expr} {o i : Value} {Q : Value → Shared → Prop} (hT : s.TypeIs o "dict") (h : wpAny (model prog w) A (getItem o i) Q E s)
    (hs : subscripted slice false o i = operate [o, i] (getItem o i)) : wpAny (model prog w) A (PyProof.Rows.subscriptTail value slice o i) Q E s := by
  unfold PyProof.Rows.subscriptTail
  refine wpAny_bind ?_
  rw [getitemInPython_of_ne hT.not_modules]
  refine wpAny_bind (wpAny_specialOf hT PySem.F.slot_dict_getitem.lookup ?_)
  have fin : wpAny (model prog w) A (subscripted slice false o i) (fun r s₃ => wpAny (model prog w) A (letTemporaryGo value o r >>= fun _ => pure r) Q E s₃) E s := by
    rw [hs]
    exact wpAny_operating (wpAny_mono h (fun r s₃ h₃ => wpAny_bind (wpAny_letTemporaryGo (wpAny_pure h₃))) fun _ _ x => x)
  first
    | exact wpAny_pure (wpAny_bind fin)
    | exact wpAny_bind (wpAny_pure (wpAny_bind fin))
    | exact wpAny_bind fin
theorem room_in1 {A : Around} {P : Program} {w : World} (hu : A.units + 65 < cLine) : (nestedKind P w).room A.in1 := by
  show A.units + 1 + 8 < cLine
  omega
def rDget (X : Cx) (E : XK) : R2 := fun x y H Q => ∃ F d k, Same F H ∧ Rep (cw X) F x d ∧ Rep (cw X) F y k ∧ At (cw X) X.mg E (Rep (cw X)) F H (dgetD d k) Q
theorem tupKey_of {ds : List (D × D)} {k : D} (h : keyFits ds k = true) (hk : isTupD k = true) : k.isKey = true ∧ k.key.depth ≤ 8 ∧ ∀ p ∈ ds, isTupD p.1 = true := by
  unfold keyFits at h
  rw [if_pos hk] at h
  have h := and2 h
  have h1 := and3 h.1
  exact ⟨h1.2.1, of_decide_eq_true h1.2.2, fun p hp => List.all_eq_true.mp h.2 p hp⟩
theorem flatK_of {ds : List (D × D)} {k : D} (h : keyFits ds k = true) (hk : ¬ isTupD k = true) : (∃ i, flatKey k = some i) ∧ ∀ p ∈ ds, flatK p.1 = true := by
  unfold keyFits at h
  rw [if_neg hk] at h
  have h := and2 h
  exact ⟨Option.isSome_iff_exists.mp h.1, fun p hp => List.all_eq_true.mp h.2 p hp⟩
/-- a flat key's dict is of flat keys, a tuple's of tuples -/
theorem kvs_tup {c : KW} {F : Hp} {kvs : List (Key × V)} {ds : List (D × D)} (r : KVs c F kvs ds) (h : ∀ p ∈ ds, isTupD p.1 = true) : kvs = [] ∧ ds = [] := by
  cases r with
  | nil => exact ⟨rfl, rfl⟩
  | @cons k v kvs d e ds r1 _ _ =>
    have h1 : isTupD d = true := h (d, e) List.mem_cons_self
    have e1 := rep_kV r1
    cases d <;> first | exact absurd h1 Bool.noConfusion | cases e1
theorem nvs_flat {c : KW} {F : Hp} {xs : List (NestedKey × Addr × Value)} {ds : List (D × D)} (r : NVs c F xs ds) (h : ∀ p ∈ ds, flatK p.1 = true) : xs = [] ∧ ds = [] := by
  cases r with
  | nil => exact ⟨rfl, rfl⟩
  | @cons b u v xs d e ds _ _ h2 _ _ _ _ =>
    have h1 : flatK d = true := h (d, e) List.mem_cons_self
    cases d <;> first | exact absurd h2 Bool.noConfusion | exact absurd h1 Bool.noConfusion
theorem tupRef {c : KW} {F : Hp} {v : V} {d : D} (r : Rep c F v d) (h : isTupD d = true) : ∃ b, v = .ref b := by
  cases r <;> first | exact ⟨_, rfl⟩ | exact absurd h Bool.noConfusion
theorem ix_dict (E : XK) (hu : X.A.units + 65 < cLine) : IxR X (rDget X E) := by
  rintro value slice pins s σ H x y v u Q I rx ry ⟨F, d, k, sm, rd, rk, q⟩ hs
  cases rd with
  | @dK a kvs ds h r =>
    have q : At (cw X) X.mg E (Rep (cw X)) F H (if keyFits ds k = true then Out.ofO (dlook ds k) else .fail) Q := q
    by_cases hf : keyFits ds k = true
    · rw [if_pos hf] at q
      by_cases ht : isTupD k = true
      · obtain ⟨rfl, rfl⟩ := kvs_tup r (tupKey_of hf ht).2.2
        exact q.elim
      · obtain ⟨⟨i, hi⟩, _⟩ := flatK_of hf ht
        obtain rfl := flat_rep rk hi
        rcases r.look hi with ⟨h1, h2⟩ | ⟨v', e, h1, h2, h3⟩
        · rw [h2] at q; exact q.elim
        · rw [h2] at q
          cases rx
          have g : DGet H a (kV i) (some v') := h1 ▸ DGet.k (sm _ _ h)
          exact tail_dict (dict_typeIs I g) (d_getItem (by omega) I g ry fun w' s3 I3 rw' => ⟨v', H, I3, rw', At.k sm q h3⟩) hs
    · rw [if_neg hf] at q; exact q.elim
  | @dN a xs ds h r =>
    have q : At (cw X) X.mg E (Rep (cw X)) F H (if keyFits ds k = true then Out.ofO (dlook ds k) else .fail) Q := q
    by_cases hf : keyFits ds k = true
    · rw [if_pos hf] at q
      by_cases ht : isTupD k = true
      · obtain ⟨hk1, hk2, hk3⟩ := tupKey_of hf ht
        rcases r.look (d := k) with ⟨h1, h2⟩ | ⟨b, u', v', e, h1, h2, rv, h3⟩
        · rw [h2] at q; exact q.elim
        · rw [h2] at q
          cases rx
          obtain ⟨c, rfl⟩ := tupRef rk ht
          cases ry
          obtain ⟨z1, z2, dd⟩ := dN_of I sm (sm _ _ h) r
          exact tail_dict dd.typeIs (wpAny_getItem_heap (room_in1 hu) ⟨(rk.mono sm).nested I rfl hk1, hk2⟩ dd h1 ⟨v', H, I.tok _, rv, At.k sm q h3⟩) hs
      · obtain ⟨rfl, rfl⟩ := nvs_flat r (flatK_of hf ht).2
        exact q.elim
    · rw [if_neg hf] at q; exact q.elim
  | _ => cases k <;> exact q.elim
theorem ve_ixX (hu : X.A.units + 65 < cLine) (ha : VE X E a f) (hb : VE X E b g) (hs : PlainIx b := by intro _ _; rfl) : VE X E (.Subscript a b pos) (e2 getX f g) :=
  ⟨pe_weak (pe_at fun E' => pe_ix (IxR.or ix_seq (ix_dict E' hu)) ha.pe hb.pe hs) fun σ H Q ⟨ρ, F, s, sl, q⟩ => tv_bind s sl q fun v F1 H1 x s1 e1 sl1 r1 q1 => tv_bind s1 sl1 q1 fun u F2 H2 y s2 e2 sl2 r2 q2 => by
    by_cases hd : ∃ ds, x = .dct ds
    · obtain ⟨ds, rfl⟩ := hd
      exact .inr ⟨F2, .dct ds, y, s2, r1.mono e2, r2, q2⟩
    · refine .inl (get_rIx (r1.mono e2) r2 s2 (E := xsE E σ) ?_)
      cases x <;> first | exact absurd ⟨_, rfl⟩ hd | exact q2⟩
end

/-! ### {} -/
section
variable {X : Cx} {E : WX} {pos : Pos}
theorem vf_dnew : VF X E (.Dict [] [] pos) (eC (.dct [])) :=
  ⟨pe_weak pe_dnewK fun σ H Q ⟨ρ, F, s, sl, q⟩ => AtF.lay s q fun p H' hp h => .dK hp h .nil⟩
end

/-! ### d[k] = v -/
theorem putK_head {κ : Type} [DecidableEq κ] (k' k : κ) (v' v : V) (t : List (κ × V)) : putK ((k', v') :: t) k v = (if k' = k then (k', v) else (k', v')) :: (if k' = k then t.map (fun kv => if kv.1 = k then (kv.1, v) else kv) else putK t k v) := by
  unfold putK
  by_cases h : k' = k
  · simp [h]
  · simp only [List.any_cons, h, decide_false, Bool.false_or, if_false, List.map_cons, List.cons_append]
    split <;> rfl
theorem dputL_head (d e k v : D) (t : List (D × D)) : dputL ((d, e) :: t) k v = (if dkeyEq d k = true then (d, v) else (d, e)) :: (if dkeyEq d k = true then t.map (fun p => if dkeyEq p.1 k = true then (p.1, v) else p) else dputL t k v) := by
  unfold dputL
  cases h : dkeyEq d k with
  | true => simp [h]
  | false =>
    simp only [List.any_cons, h, Bool.false_or, List.map_cons, Bool.false_eq_true, if_false, List.cons_append]
    split <;> rfl
section
variable {c : KW} {F H : Hp}
theorem ownkvs_map {k : Key} {dk : D} {v : V} {e : D} (hk : flatKey dk = some k) (r : Rep c F v e) : ∀ {fp : List Addr} {kvs : List (Key × V)} {ds : List (D × D)}, OwnKVs c F H fp kvs ds →
    ∃ fq, OwnKVs c F H fq (kvs.map fun kv => if kv.1 = k then (kv.1, v) else kv) (ds.map fun p => if dkeyEq p.1 dk = true then (p.1, e) else p) ∧ fq.Sublist fp
  | _, _, _, .nil => ⟨[], .nil, List.Sublist.refl _⟩
  | _, _, _, .cons (k := k') (fp := fp) (d := d') r1 a t => by
    obtain ⟨fq, h1, h2⟩ := ownkvs_map hk r t
    have e1 := flat_eq (rep_kV r1) hk
    rw [List.map_cons, List.map_cons]
    by_cases h : k' = k
    · have e2 : dkeyEq d' dk = true := by rw [e1]; exact decide_eq_true h
      simp only [h, e2, if_true]
      subst h
      exact ⟨[] ++ fq, .cons r1 (.froz r) h1, (h2.trans (List.sublist_append_right _ _))⟩
    · have e2 : dkeyEq d' dk = false := by rw [e1]; exact decide_eq_false h
      simp only [h, e2, if_false, Bool.false_eq_true]
      exact ⟨fp ++ fq, .cons r1 a h1, List.Sublist.append (List.Sublist.refl _) h2⟩
theorem ownkvs_put {k : Key} {dk : D} {v : V} {e : D} (hk : flatKey dk = some k) (rk : Rep c F (kV k) dk) (r : Rep c F v e) : ∀ {fp : List Addr} {kvs : List (Key × V)} {ds : List (D × D)}, OwnKVs c F H fp kvs ds →
    ∃ fq, OwnKVs c F H fq (putK kvs k v) (dputL ds dk e) ∧ fq.Sublist fp
  | _, _, _, .nil => ⟨[], .cons (fp := []) (fq := []) rk (.froz r) .nil, List.Sublist.refl _⟩
  | _, _, _, .cons (k := k') (fp := fp) (d := d') r1 a t => by
    have e1 := flat_eq (rep_kV r1) hk
    rw [putK_head, dputL_head]
    by_cases h : k' = k
    · have e2 : dkeyEq d' dk = true := by rw [e1]; exact decide_eq_true h
      obtain ⟨fq, h1, h2⟩ := ownkvs_map hk r t
      simp only [h, e2, if_true]
      subst h
      exact ⟨[] ++ fq, .cons r1 (.froz r) h1, (h2.trans (List.sublist_append_right _ _))⟩
    · have e2 : dkeyEq d' dk = false := by rw [e1]; exact decide_eq_false h
      obtain ⟨fq, h1, h2⟩ := ownkvs_put hk rk r t
      simp only [h, e2, if_false, Bool.false_eq_true]
      exact ⟨fp ++ fq, .cons r1 a h1, List.Sublist.append (List.Sublist.refl _) h2⟩
theorem storedH_head {k' k : NestedKey} {b' b : Addr} {u' u : Value} {t : List (NestedKey × Addr × Value)} : storedH ((k', b', u') :: t) k b u = if k' = k then (k', b', u) :: t.map (putAt k u) else (k', b', u') :: storedH t k b u := by
  unfold storedH atKey
  rw [List.find?_cons]
  by_cases h : k' = k
  · simp [h, putAt]
  · simp only [h, decide_false]
    split <;> simp [putAt, h]
theorem ownnvs_map {dk : D} {u : Value} {v : V} {e : D} (rv : RelV v u) (r : Rep c F v e) : ∀ {fp : List Addr} {xs : List (NestedKey × Addr × Value)} {ds : List (D × D)}, OwnNVs c F H fp xs ds →
    ∃ fq, OwnNVs c F H fq (xs.map (putAt dk.key u)) (ds.map fun p => if dkeyEq p.1 dk = true then (p.1, e) else p) ∧ fq.Sublist fp
  | _, _, _, .nil => ⟨[], .nil, List.Sublist.refl _⟩
  | _, _, _, .cons (fp := fp) (d := d') r1 q1 q2 q3 rv1 a t => by
    obtain ⟨fq, h1, h2⟩ := ownnvs_map (dk := dk) rv r t
    have e1 : decide (d'.key = dk.key) = dkeyEq d' dk := NestedKey.decide_eq _ _
    rw [List.map_cons, List.map_cons]
    by_cases h : d'.key = dk.key
    · have e2 : dkeyEq d' dk = true := by rw [← e1]; exact decide_eq_true h
      simp only [putAt, h, e2, if_true]
      rw [← h]
      have h1' : OwnNVs c F H fq _ _ := h1
      rw [← h] at h1'
      exact ⟨[] ++ fq, .cons r1 q1 q2 q3 rv (.froz r) h1', (h2.trans (List.sublist_append_right _ _))⟩
    · have e2 : dkeyEq d' dk = false := by rw [← e1]; exact decide_eq_false h
      simp only [putAt, h, e2, if_false, Bool.false_eq_true]
      exact ⟨fp ++ fq, .cons r1 q1 q2 q3 rv1 a h1, List.Sublist.append (List.Sublist.refl _) h2⟩
theorem ownnvs_put {dk : D} {b : Addr} {u : Value} {v : V} {e : D} (rk : Rep c F (.ref b) dk) (k1 : dk.isKey = true) (k2 : isTupD dk = true) (k3 : dk.key.depth ≤ 8) (rv : RelV v u) (r : Rep c F v e) : ∀ {fp : List Addr} {xs : List (NestedKey × Addr × Value)} {ds : List (D × D)}, OwnNVs c F H fp xs ds →
    ∃ fq, OwnNVs c F H fq (storedH xs dk.key b u) (dputL ds dk e) ∧ fq.Sublist fp
  | _, _, _, .nil => ⟨[], .cons (fp := []) (fq := []) rk k1 k2 k3 rv (.froz r) .nil, List.Sublist.refl _⟩
  | _, _, _, .cons (fp := fp) (d := d') r1 q1 q2 q3 rv1 a t => by
    have e1 : decide (d'.key = dk.key) = dkeyEq d' dk := NestedKey.decide_eq _ _
    rw [storedH_head, dputL_head]
    by_cases h : d'.key = dk.key
    · have e2 : dkeyEq d' dk = true := by rw [← e1]; exact decide_eq_true h
      obtain ⟨fq, h1, h2⟩ := ownnvs_map (dk := dk) rv r t
      simp only [e2, if_true]
      rw [if_pos h]
      exact ⟨[] ++ fq, .cons r1 q1 q2 q3 rv (.froz r) h1, (h2.trans (List.sublist_append_right _ _))⟩
    · have e2 : dkeyEq d' dk = false := by rw [← e1]; exact decide_eq_false h
      obtain ⟨fq, h1, h2⟩ := ownnvs_put rk k1 k2 k3 rv r t
      simp only [e2, if_false, Bool.false_eq_true]
      rw [if_neg h]
      exact ⟨fp ++ fq, .cons r1 q1 q2 q3 rv1 a h1, List.Sublist.append (List.Sublist.refl _) h2⟩
theorem OwnKVs.length : ∀ {fp : List Addr} {kvs : List (Key × V)} {ds : List (D × D)}, OwnKVs c F H fp kvs ds → kvs.length = ds.length
  | _, _, _, .nil => rfl
  | _, _, _, .cons _ _ t => by rw [List.length_cons, List.length_cons, OwnKVs.length t]
theorem OwnNVs.length : ∀ {fp : List Addr} {kvs : List (NestedKey × Addr × Value)} {ds : List (D × D)}, OwnNVs c F H fp kvs ds → kvs.length = ds.length
  | _, _, _, .nil => rfl
  | _, _, _, .cons _ _ _ _ _ _ t => by rw [List.length_cons, List.length_cons, OwnNVs.length t]
theorem ownkvs_tup {fp : List Addr} {kvs : List (Key × V)} {ds : List (D × D)} (r : OwnKVs c F H fp kvs ds) (h : ∀ p ∈ ds, isTupD p.1 = true) : kvs = [] ∧ ds = [] := by
  cases r with
  | nil => exact ⟨rfl, rfl⟩
  | @cons k v kvs d e ds _ _ r1 _ _ =>
    have h1 : isTupD d = true := h (d, e) List.mem_cons_self
    have e1 := rep_kV r1
    cases d <;> first | exact absurd h1 Bool.noConfusion | cases e1
theorem ownnvs_flat {fp : List Addr} {xs : List (NestedKey × Addr × Value)} {ds : List (D × D)} (r : OwnNVs c F H fp xs ds) (h : ∀ p ∈ ds, flatK p.1 = true) : xs = [] ∧ ds = [] := by
  cases r with
  | nil => exact ⟨rfl, rfl⟩
  | @cons b u v xs d e ds _ _ _ _ h2 _ _ _ _ =>
    have h1 : flatK d = true := h (d, e) List.mem_cons_self
    cases d <;> first | exact absurd h2 Bool.noConfusion | exact absurd h1 Bool.noConfusion
end
section
variable {X : Cx} {pins : List (Addr × Obj)} {σ : L2.St} {H F : Hp} {s : Shared} {a : Addr}
theorem OwnNVs.keys (I : Inv X pins σ H s) (sm : Same F H) : ∀ {fp : List Addr} {xs : List (NestedKey × Addr × Value)} {ds : List (D × D)}, OwnNVs (cw X) F H fp xs ds → ∀ x ∈ xs, (nestedKind X.prog X.w).is s.heap x.1 x.2.1
  | _, _, _, .nil, x, hx => by cases hx
  | _, _, _, .cons r h1 h2 h3 rv r2 t, x, hx => by
    rcases List.mem_cons.mp hx with rfl | hx
    · exact ⟨(r.mono sm).nested I rfl h1, h3⟩
    · exact OwnNVs.keys I sm t x hx
/-- a store into a dict: by a flat key; by a tuple -/
def rPutV (X : Cx) : TSet := fun o i v H Q => rSetD o i v H Q ∨
  (∃ (p b : Addr) (k : D) (F : Hp) (xs : List (NestedKey × Addr × Value)), o = .ref p ∧ i = .ref b ∧ Same F H ∧ Rep (cw X) F (.ref b) k ∧ k.isKey = true ∧ k.key.depth ≤ 8 ∧ xs.length < sizeLine ∧
    ((H p = some (.dK []) ∧ xs = []) ∨ (H p = some (DctN X.w p xs) ∧ ∃ fp ds, OwnNVs (cw X) F H fp xs ds)) ∧ (∀ u, RelV v u → Q (upd H p (DctN X.w p (storedH xs k.key b u))))) ∨
  ∃ (p : Addr) (k : Key), o = .ref p ∧ i = kV k ∧ H p = some (DctN X.w p []) ∧ Q (upd H p (.dK [(k, v)]))
theorem nN_nil {P : Program} {w : World} {h : Heap} (d : h.DictOfH (nestedKind P w) a []) : h.DictOf (mixKind P w) a [] := by
  obtain ⟨o, es, ep, h1, h2, h3, h4, h5, h6⟩ := d
  have e0 : es = #[] := by
    cases es
    cases h4
    rfl
  subst e0
  exact ⟨o, #[], ep, h1, h2, h3, by intro e he; simp at he, .nil, List.nodup_nil⟩
theorem storedH_len (xs : List (NestedKey × Addr × Value)) (k : NestedKey) (b : Addr) (u : Value) : (storedH xs k b u).length ≤ xs.length + 1 := by
  unfold storedH
  split <;> simp
theorem set_dictX (hu : X.A.units + 65 < cLine) : PSet X (fun o i v H Q => rSetL o i v H Q ∨ rPutV X o i v H Q) := by
  intro pins s σ H o i v ov iv u Q I ro ri rv h
  rcases h with h | h | ⟨p, b, k, F, xs, rfl, rfl, sm, rk, k1, k3, hl, hp, q⟩ | ⟨p, k, rfl, rfl, hp, q⟩
  · exact set_list pins s σ H o i v ov iv u Q I ro ri rv h
  · exact set_dict (by omega) pins s σ H o i v ov iv u Q I ro ri rv h
  · cases ro
    cases ri
    have hkey : (nestedKind X.prog X.w).is s.heap k.key b := ⟨(rk.mono sm).nested I rfl k1, k3⟩
    have hm : (p == sysModules) = false ∧ s.heap.DictOfH (nestedKind X.prog X.w) p xs ∧ Mut (H p) := by
      rcases hp with ⟨hp, rfl⟩ | ⟨hp, fp, ds, r⟩
      · obtain ⟨_, z, vs, rel, dd⟩ := dk_of I.hok hp
        cases rel
        exact ⟨z, dK_nil dd, by rw [hp]; trivial⟩
      · obtain ⟨h1, h2, h3, o, es, ep, h4, h5, h6, h7⟩ := (I.hok _ _ hp).1
        exact ⟨h1, ⟨o, es, ep, h4, h5, h6, h7, OwnNVs.keys I sm r, h3⟩, by rw [hp]; trivial⟩
    refine wpAny_setItem_heap (hsz := by omega) (room_in1 hu) hkey hm.2.1 fun h' dd' hs => ?_
    have hl2 := storedH_len xs k.key b u
    refine ⟨_, I.write (x := p) (e := p) (t' := s.toks + (nestedKind X.prog X.w).draws k.key) hm.2.2 (.inl rfl) (fun c q hb z => (hs.2 c hb).trans z) ?_ (dctN_new hm.1 (by omega) dd'), q u rv⟩
    obtain ⟨o, _, _, e, _⟩ := dd'
    exact ⟨o, e⟩
  · cases ro
    obtain ⟨h1, _, _, o, es, ep, h4, h5, h6, h7⟩ := (I.hok _ _ hp).1
    have dd : s.heap.DictOf (mixKind X.prog X.w) p [] := nN_nil ⟨o, es, ep, h4, h5, h6, h7, fun x hx => absurd hx (by simp), List.nodup_nil⟩
    refine wpAny_setItem_pairs (hsz := Nat.zero_le _) (kV_is ri) dd fun h' dd' hs => ?_
    refine ⟨_, I.write (x := p) (e := p) (t' := _) (by rw [hp]; trivial) (.inl rfl) (fun c q hb z => (hs.2 c hb).trans z) ?_ (dk_new (kvs := [(k, v)]) (by show 1 ≤ sizeLine; rw [sizeLine_eq]; decide) h1 (.cons ⟨rfl, rv⟩ .nil) dd'), q⟩
    obtain ⟨o, _, _, e, _⟩ := dd'
    exact ⟨o, e⟩
end

/-! ### xs[k] = e of an own list, an own dict -/
def sPutItem (i : Nat) (fk f : Env → Out D) : Env → Res := fun ρ => match f ρ with
  | .ok d => (match ρ[i]? with
    | some (.own (.dct l)) => (match fk ρ with
      | .ok k => if keyFits l k && fits (l.length + 1) then .nx (ρ.set i (.own (.dct (dputL l k d)))) else .fail
      | .exc x => .exc x ρ
      | .fail => .fail)
    | _ => sSetItem i fk (fun _ => .ok d) ρ)
  | .exc x => .exc x ρ
  | .fail => .fail
section
variable {X : Cx} {E : WX} {e ke : Expr} {f fk : Env → Out D} {pos px spos : Pos}
theorem setItem_go {i : Nat} {t : TSet} {D : Ends} {F0 H0 F1 H1 : Hp} {ρ : Env} {σ : L2.St} {v : V} {d : TP.D} (ht : ∀ o i v H Q, rSetL o i v H Q → t o i v H Q) (er1 : ER (cw X) F0 H0 F1 H1 ρ σ) (r : Rep (cw X) F1 v d) (q1 : Post X E D F0 H0 (sSetItem i fk (fun _ => .ok d) ρ)) :
    ∃ o, σ[i]? = some (some o) ∧ tE X E fk σ H1 fun iv H2 => t o iv v H2 fun H3 => D.nx σ H3 := by
  unfold sSetItem at q1
  try dsimp only at q1
  split at q1
  · rename_i l he
    obtain ⟨p, fq, hσ, ow, nd, k⟩ := er1.mut he
    refine ⟨.ref p, hσ, ?_⟩
    -- the index is asked while v is held
    obtain ⟨H1', erb, back1, back2⟩ := er1.rebase
    have q2 : Post X E D F1 H1' (match fk ρ with
      | .ok (.int k) => (match ixN l.length k with
        | some j => .nx (ρ.set i (.own (.lst (l.set j d))))
        | none => .fail)
      | .exc x => .exc x ρ
      | _ => .fail) := by
      cases hfk : fk ρ with
      | ok dk =>
        rw [hfk] at q1
        cases dk with
        | int kk =>
          dsimp only at q1 ⊢
          cases hix : ixN l.length kk with
          | some j => rw [hix] at q1; exact fun σ' F' H' e' => q1 σ' F' H' (back2 _ _ _ _ e')
          | none => rw [hix] at q1; exact q1
        | _ => exact q1
      | exc x => rw [hfk] at q1; exact fun cl dx σ' F' H' e' r' => q1 cl dx σ' F' H' (back2 _ _ _ _ e') r'
      | fail => rw [hfk] at q1; exact q1
    have q3 : Post X E D F1 H1' (match fk ρ with
      | .ok dk => (match dk with
        | .int k => (match ixN l.length k with
          | some j => .nx (ρ.set i (.own (.lst (l.set j d))))
          | none => .fail)
        | _ => .fail)
      | .exc x => .exc x ρ
      | .fail => .fail) := by
      cases hfk : fk ρ with
      | ok dk => rw [hfk] at q2; cases dk <;> exact q2
      | exc x => rw [hfk] at q2; exact q2
      | fail => rw [hfk] at q2; exact q2
    refine Post.bindE (k := fun dk => match dk with
        | .int k => (match ixN l.length k with
          | some j => .nx (ρ.set i (.own (.lst (l.set j d))))
          | none => .fail)
        | _ => .fail) erb q3 fun u dk F2 H2 _ er2 r2 q4 => ?_
    cases dk with
    | int kk =>
      cases r2
      try dsimp only at q4
      split at q4
      · rename_i j hj
        obtain ⟨p', fq', hσ', ow', nd', k'⟩ := er2.mut he
        rw [hσ] at hσ'
        cases hσ'
        cases ow' with
        | @lst _ xs' _ _ hp1' hp2' os' =>
          refine ht _ _ _ _ _ ⟨p, xs', kk, j, rfl, rfl, hp2', by rw [os'.length]; exact hj, ?_⟩
          obtain ⟨fr, hfr, hsub⟩ := owns_set (j := j) (r.mono er2.g.sub) os'
          have hin : ∀ q ∈ fr, F2 q = none ∧ (upd H2 p (.lst (xs'.set j v))) q = H2 q := fun q hq => by
            refine ⟨(hfr.at q hq).1, upd_ne ?_⟩
            rintro rfl
            exact (List.nodup_cons.mp nd').1 (hsub.subset hq)
          exact q4 σ F2 _ (k' F2 H2 _ _ fr (Grow.refl er2.g.into) (.lst hp1' upd_same (hfr.mono (Same.refl _) hin)) (nd'.sublist (List.Sublist.cons_cons _ hsub)) fun q hq => .inl (hsub.subset hq))
      · exact q4.elim
    | _ => exact q4.elim
  · exact q1.elim
theorem putItem_go {i : Nat} {D : Ends} {F0 H0 F1 H1 : Hp} {ρ : Env} {σ : L2.St} {v : V} {d : TP.D} {l : List (TP.D × TP.D)} (er1 : ER (cw X) F0 H0 F1 H1 ρ σ) (r : Rep (cw X) F1 v d) (he : ρ[i]? = some (.own (.dct l)))
    (q1 : Post X E D F0 H0 (match fk ρ with
      | .ok k => if keyFits l k && fits (l.length + 1) then .nx (ρ.set i (.own (.dct (dputL l k d)))) else .fail
      | .exc x => .exc x ρ
      | .fail => .fail)) : ∃ o, σ[i]? = some (some o) ∧ tE X E fk σ H1 fun iv H2 => (rSetL o iv v H2 (fun H3 => D.nx σ H3) ∨ rPutV X o iv v H2 fun H3 => D.nx σ H3) := by
  obtain ⟨p, fq, hσ, ow, nd, k⟩ := er1.mut he
  refine ⟨.ref p, hσ, ?_⟩
  obtain ⟨H1', erb, back1, back2⟩ := er1.rebase
  have q2 : Post X E D F1 H1' (match fk ρ with
      | .ok k => if keyFits l k && fits (l.length + 1) then .nx (ρ.set i (.own (.dct (dputL l k d)))) else .fail
      | .exc x => .exc x ρ
      | .fail => .fail) := by
    cases hfk : fk ρ with
    | ok dk =>
      rw [hfk] at q1
      dsimp only at q1 ⊢
      split
      · rename_i hc
        rw [if_pos hc] at q1
        exact fun σ' F' H' e' => q1 σ' F' H' (back2 _ _ _ _ e')
      · rename_i hc
        rw [if_neg hc] at q1
        exact q1
    | exc x =>
      rw [hfk] at q1
      exact fun cl dx σ' F' H' e' r' => q1 cl dx σ' F' H' (back2 _ _ _ _ e') r'
    | fail => rw [hfk] at q1; exact q1
  refine Post.bindE (k := fun k => if keyFits l k && fits (l.length + 1) then .nx (ρ.set i (.own (.dct (dputL l k d)))) else .fail) erb q2 fun u dk F2 H2 _ er2 r2 q4 => ?_
  by_cases hc : (keyFits l dk && fits (l.length + 1)) = true
  · rw [if_pos hc] at q4
    obtain ⟨hf, hl⟩ := and2 hc
    have hl := fits_line hl
    obtain ⟨p', fq', hσ', ow', nd', k'⟩ := er2.mut he
    rw [hσ] at hσ'
    cases hσ'
    have rv := r.mono er2.g.sub
    cases ow' with
    | @dK _ kvs _ _ hp1 hp2 os =>
      by_cases ht : isTupD dk = true
      · obtain ⟨a1, a2, a3⟩ := tupKey_of hf ht
        obtain ⟨rfl, rfl⟩ := ownkvs_tup os a3
        cases os
        obtain ⟨b, rfl⟩ := tupRef r2 ht
        refine .inr (.inr (.inl ⟨p, b, dk, F2, [], rfl, rfl, er2.g.into, r2, a1, a2, by rw [sizeLine_eq]; decide, .inl ⟨hp2, rfl⟩, fun uv ru => ?_⟩))
        exact q4 σ F2 _ (k' F2 H2 _ _ [] (Grow.refl er2.g.into) (.dN hp1 upd_same (.cons (fp := []) (fq := []) r2 a1 ht a2 ru (.froz rv) .nil)) nd' fun q hq => by cases hq)
      · obtain ⟨⟨kk, hk⟩, _⟩ := flatK_of hf ht
        obtain rfl := flat_rep r2 hk
        obtain ⟨fr, h1, hsub⟩ := ownkvs_put hk r2 rv os
        refine .inr (.inl ⟨p, _, rfl, DPut.k hp2 (by rw [os.length]; omega), ?_⟩)
        have hin : ∀ q ∈ fr, F2 q = none ∧ (upd H2 p (.dK (putK kvs kk v))) q = H2 q := fun q hq => by
          refine ⟨(h1.at q hq).1, upd_ne ?_⟩
          rintro rfl
          exact (List.nodup_cons.mp nd').1 (hsub.subset hq)
        exact q4 σ F2 _ (k' F2 H2 _ _ fr (Grow.refl er2.g.into) (.dK hp1 upd_same (h1.mono (Same.refl _) hin)) (nd'.sublist (List.Sublist.cons_cons _ hsub)) fun q hq => .inl (hsub.subset hq))
    | @dN _ xs _ _ hp1 hp2 os =>
      by_cases ht : isTupD dk = true
      · obtain ⟨a1, a2, a3⟩ := tupKey_of hf ht
        obtain ⟨b, rfl⟩ := tupRef r2 ht
        refine .inr (.inr (.inl ⟨p, b, dk, F2, xs, rfl, rfl, er2.g.into, r2, a1, a2, by rw [os.length]; omega, .inr ⟨hp2, _, _, os⟩, fun uv ru => ?_⟩))
        obtain ⟨fr, h1, hsub⟩ := ownnvs_put r2 a1 ht a2 ru rv os
        have hin : ∀ q ∈ fr, F2 q = none ∧ (upd H2 p (DctN X.w p (storedH xs dk.key b uv))) q = H2 q := fun q hq => by
          refine ⟨(h1.at q hq).1, upd_ne ?_⟩
          rintro rfl
          exact (List.nodup_cons.mp nd').1 (hsub.subset hq)
        exact q4 σ F2 _ (k' F2 H2 _ _ fr (Grow.refl er2.g.into) (.dN hp1 upd_same (h1.mono (Same.refl _) hin)) (nd'.sublist (List.Sublist.cons_cons _ hsub)) fun q hq => .inl (hsub.subset hq))
      · obtain ⟨rfl, rfl⟩ := ownnvs_flat os (flatK_of hf ht).2
        cases os
        obtain ⟨⟨kk, hk⟩, _⟩ := flatK_of hf ht
        obtain rfl := flat_rep r2 hk
        refine .inr (.inr (.inr ⟨p, kk, rfl, rfl, hp2, ?_⟩))
        exact q4 σ F2 _ (k' F2 H2 _ _ [] (Grow.refl er2.g.into) (.dK hp1 upd_same (.cons (fp := []) (fq := []) r2 (.froz rv) .nil)) nd' fun q hq => by cases hq)
  · rw [if_neg hc] at q4; exact q4.elim
theorem vs_putItem (i : Nat) {x : Str} (hu : X.A.units + 65 < cLine) (h : SE X E e f) (hk : SE X E ke fk) (hN : X.N[i]? = some x := by rfl) (hv : Vis X.env.scope x := by first | exact Or.inl rfl | exact Or.inr (Or.inl rfl) | exact Or.inr (Or.inr rfl))
    (hd : (x == ("__debug__" : Str)) = false := by decide) (hcd : (x == ("__classdict__" : Str)) = false := by decide)
    (hs : swapsWithSole [.Subscript (.Name x px) ke spos] e pos.line X.env = pure false := by rfl) (hw : swappedStores [.Subscript (.Name x px) ke spos] e X.env = pure none := by rfl)
    (h1 : (assignEach [.Subscript (.Name x px) ke spos] X.env).map (·.2) = [assign (.Subscript (.Name x px) ke spos) X.env] := by rfl)
    (hass : ∀ v, assign (.Subscript (.Name x px) ke spos) X.env v = (do
      let ov ← holding [v] (eval (.Name x px) X.env)
      let iv ← holding [v, ov] (eval ke X.env)
      standAt spos
      holding [v, ov, iv] (setItem ov iv v)
      release [v, ov, iv] []) := by intro _; rfl) :
    VS X E (.Assign [.Subscript (.Name x px) ke spos] e pos) (sPutItem i fk f) :=
  ⟨ps_weak (ps_asg h.pe (pg_sub (pe_var hN hv hd hcd) hk.pe (set_dictX hu) hass) hs hw h1) fun D σ H ⟨ρ, F, F0, H0, er, q⟩ => by
    refine Post.bindE (k := fun d => match ρ[i]? with
      | some (.own (.dct l)) => (match fk ρ with
        | .ok k => if keyFits l k && fits (l.length + 1) then .nx (ρ.set i (.own (.dct (dputL l k d)))) else .fail
        | .exc x => .exc x ρ
        | .fail => .fail)
      | _ => sSetItem i fk (fun _ => .ok d) ρ) er q fun v d F1 H1 _ er1 r q1 => ?_
    try dsimp only at q1
    split at q1
    · rename_i l he
      exact putItem_go er1 r he q1
    · exact setItem_go (t := fun o i v H Q => rSetL o i v H Q ∨ rPutV X o i v H Q) (fun o i v H Q h => Or.inl h) er1 r q1⟩
end

/-! ### k in d -/
def inX : D → D → Out Bool
  | k, .dct ds => if keyFits ds k = true then .ok (dlook ds k).isSome else .fail
  | a, b => inD a b
def rInD (X : Cx) (E : XK) (neg : Bool) : R2 := fun y x H Q => ∃ F k ds, Same F H ∧ Rep (cw X) F y k ∧ Rep (cw X) F x (.dct ds) ∧ keyFits ds k = true ∧ Q (.bl (neg ^^ (dlook ds k).isSome)) H
section
variable {X : Cx}
theorem in_dict (E : XK) (neg : Bool) (hu : X.A.units + 65 < cLine) : OpR X (compareOp (if neg = true then .NotIn else .In)) (rInD X E neg) := by
  rintro pins s σ H y x u v Q I ry rx ⟨F, k, ds, sm, rk, rd, hf, q⟩
  have fin : ∀ (t : Nat) (b : Bool), b = (dlook ds k).isSome → EP X pins σ Q (.bool (neg ^^ b)) { s with toks := t } := fun t b e => ⟨.bl (neg ^^ b), H, I.tok t, rfl, by rw [e]; exact q⟩
  by_cases ht : isTupD k = true
  · obtain ⟨hk1, hk2, hk3⟩ := tupKey_of hf ht
    obtain ⟨c, rfl⟩ := tupRef rk ht
    cases ry
    have key : ∃ a xs, x = .ref a ∧ (a == sysModules) = false ∧ s.heap.DictOfH (nestedKind X.prog X.w) a xs ∧ (atKey xs k.key).isSome = (dlook ds k).isSome := by
      cases rd with
      | @dK a kvs _ h r =>
        obtain ⟨rfl, rfl⟩ := kvs_tup r hk3
        obtain ⟨_, z, vs, rel, dd⟩ := dk_of I.hok (sm _ _ h)
        cases rel
        exact ⟨a, [], rfl, z, dK_nil dd, rfl⟩
      | @dN a xs _ h r =>
        obtain ⟨z1, z2, dd⟩ := dN_of I sm (sm _ _ h) r
        refine ⟨a, xs, rfl, z1, dd, ?_⟩
        rcases r.look (d := k) with ⟨h1, h2⟩ | ⟨b, u', v', e, h1, h2, rv, h3⟩
        · rw [h1, h2]; rfl
        · rw [h1, h2]; rfl
    obtain ⟨a, xs, rfl, hd, dd, e⟩ := key
    cases rx
    cases neg with
    | false => exact wpAny_in_heap (room_in1 hu) ⟨(rk.mono sm).nested I rfl hk1, hk2⟩ hd dd (by simpa using fin _ _ e)
    | true => exact PyProof.Rows.wpAny_notIn_heap (room_in1 hu) ⟨(rk.mono sm).nested I rfl hk1, hk2⟩ hd dd (by simpa using fin _ _ e)
  · obtain ⟨⟨i, hi⟩, hk3⟩ := flatK_of hf ht
    obtain rfl := flat_rep rk hi
    have key : ∃ a vs, x = .ref a ∧ (a == sysModules) = false ∧ s.heap.DictOf (mixKind X.prog X.w) a vs ∧ (valueAt vs i).isSome = (dlook ds k).isSome := by
      cases rd with
      | @dK a kvs _ h r =>
        obtain ⟨_, z, vs, rel, dd⟩ := dk_of I.hok (sm _ _ h)
        refine ⟨a, vs, rfl, z, dd, ?_⟩
        rw [← (rel.val i).isSome_eq]
        rcases r.look hi with ⟨h1, h2⟩ | ⟨v', e, h1, h2, h3⟩
        · rw [h1, h2]; rfl
        · rw [h1, h2]; rfl
      | @dN a xs _ h r =>
        obtain ⟨rfl, rfl⟩ := nvs_flat r hk3
        obtain ⟨z1, z2, dd⟩ := dN_of I sm (sm _ _ h) r
        exact ⟨a, [], rfl, z1, nN_nil dd, rfl⟩
    obtain ⟨a, vs, rfl, hd, dd, e⟩ := key
    cases rx
    cases neg with
    | false => exact wpAny_in_of (kV_is ry) hd dd.mapOf (by simpa using fin _ _ e)
    | true => exact wpAny_notIn_of (kV_is ry) hd dd.mapOf (by simpa using fin _ _ e)
theorem cmp_inX (hu : X.A.units + 65 < cLine) : CmpV X .In inX := by
  intro E
  have h1 : OpR X (compareOp .In) (rInD X E false) := in_dict E false hu
  refine fun pins s σ H x y v u Q I rx ry ⟨F, a, b, sm, ra, rb, q⟩ => ?_
  by_cases hd : ∃ ds, b = .dct ds
  · obtain ⟨ds, rfl⟩ := hd
    have q : At (cw X) X.mg E (Rep (cw X)) F H (blD (if keyFits ds a = true then .ok (dlook ds a).isSome else .fail)) Q := by cases a <;> exact q
    by_cases hf : keyFits ds a = true
    · rw [if_pos hf] at q
      exact h1 pins s σ H x y v u Q I rx ry ⟨F, a, ds, sm, ra, rb, hf, by rw [Bool.false_xor]; exact At.blOk sm q⟩
    · rw [if_neg hf] at q; exact q.elim
  · have q : At (cw X) X.mg E (Rep (cw X)) F H (blD (inD a b)) Q := by cases b <;> first | exact absurd ⟨_, rfl⟩ hd | (cases a <;> exact q)
    exact cmp_in hu E pins s σ H x y v u Q I rx ry ⟨F, a, b, sm, ra, rb, q⟩
theorem cmp_notInX (hu : X.A.units + 65 < cLine) : CmpV X .NotIn fun x y => notD (inX x y) := by
  intro E
  have h1 : OpR X (compareOp .NotIn) (rInD X E true) := in_dict E true hu
  refine fun pins s σ H x y v u Q I rx ry ⟨F, a, b, sm, ra, rb, q⟩ => ?_
  by_cases hd : ∃ ds, b = .dct ds
  · obtain ⟨ds, rfl⟩ := hd
    have q : At (cw X) X.mg E (Rep (cw X)) F H (blD (notD (if keyFits ds a = true then .ok (dlook ds a).isSome else .fail))) Q := by cases a <;> exact q
    by_cases hf : keyFits ds a = true
    · rw [if_pos hf] at q
      exact h1 pins s σ H x y v u Q I rx ry ⟨F, a, ds, sm, ra, rb, hf, by rw [Bool.true_xor]; exact At.blOk sm q⟩
    · rw [if_neg hf] at q; exact q.elim
  · have q : At (cw X) X.mg E (Rep (cw X)) F H (blD (notD (inD a b))) Q := by cases b <;> first | exact absurd ⟨_, rfl⟩ hd | (cases a <;> exact q)
    exact cmp_notIn hu E pins s σ H x y v u Q I rx ry ⟨F, a, b, sm, ra, rb, q⟩
end
end TP

end
set_option Elab.async false
set_option linter.all false
set_option maxRecDepth 100000
/-! The values layer: sorted. -/
noncomputable section
namespace TP
variable [IOs]
open PySem PySem.Spec L2 PySem.W
open PyProof.Rows (seqObj itemOrd listOrd)

/-! ### the order -/
def leB (x y : D) : Bool := !D.lt y x
theorem leB_eq : (dataLe false D.toP : D → D → Bool) = leB := by
  funext x y
  rfl
/-- what can be sorted -/
def allTup (ds : List D) : Bool := ds.all fun d => match d with
  | .tup (_ :: _) => true
  | _ => false
def noTup (ds : List D) : Bool := ds.all fun d => !isTupD d && !isNonB d
def sortable (ds : List D) : Bool := ds.all (fun d => decide (d.ht ≤ 60)) && (ds.all fun x => ds.all fun y => D.alk x y) && (allTup ds || noTup ds) && fits ds.length
theorem and4 {p q r t : Bool} (h : (p && q && r && t) = true) : p = true ∧ q = true ∧ r = true ∧ t = true := ⟨(and3 (and2 h).1).1, (and3 (and2 h).1).2.1, (and3 (and2 h).1).2.2, (and2 h).2⟩
theorem allAlike_of {ds : List D} (h : (ds.all fun x => ds.all fun y => D.alk x y) = true) : AllAlike (ds.map D.toP) := by
  intro d hd d' hd'
  obtain ⟨b, hb, rfl⟩ := List.mem_map.mp hd
  obtain ⟨b', hb', rfl⟩ := List.mem_map.mp hd'
  exact List.all_eq_true.mp (List.all_eq_true.mp h b hb) b' hb'
theorem sortable_of {ds : List D} (hz : ds.all (fun d => decide (d.ht ≤ 60)) = true) (h : (allTup ds || noTup ds) = true) : Sortable (ds.map D.toP) := by
  rcases Bool.or_eq_true_iff.mp h with h | h
  · refine .inl fun d hd => ?_
    obtain ⟨b, hb, rfl⟩ := List.mem_map.mp hd
    have q := List.all_eq_true.mp h b hb
    cases b with
    | tup l =>
      cases l with
      | nil => cases q
      | cons x r => exact ⟨x.toP, D.toPs r, by rw [D.toP, D.toPs]⟩
    | _ => cases q
  · refine .inr fun d hd => ?_
    obtain ⟨b, hb, rfl⟩ := List.mem_map.mp hd
    have q := List.all_eq_true.mp h b hb
    have z := of_decide_eq_true (List.all_eq_true.mp hz b hb)
    cases b with
    | non => exact absurd q Bool.noConfusion
    | tup l => exact absurd q Bool.noConfusion
    | scr _ => unfold D.ht at z; omega
    | dct _ => unfold D.ht at z; omega
    | set _ => unfold D.ht at z; omega
    | _ => exact ⟨fun e => (by rw [D.toP] at e; cases e), fun xs e => (by rw [D.toP] at e; cases e)⟩

mutual
theorem toP_depth : ∀ d : D, d.ht ≤ 60 → d.toP.depth ≤ d.ht
  | .non, _ => Nat.le_refl _
  | .bl _, _ => Nat.le_refl _
  | .int _, _ => Nat.le_refl _
  | .str _, _ => Nat.le_refl _
  | .tup l, h => by
    unfold D.ht at h
    have := toPs_depth l (by omega)
    rw [D.toP, PyData.depth, D.ht]
    omega
  | .lst l, h => by
    unfold D.ht at h
    have := toPs_depth l (by omega)
    rw [D.toP, PyData.depth, D.ht]
    omega
  | .scr _, h => by unfold D.ht at h; omega
  | .dct _, h => by unfold D.ht at h; omega
  | .set _, h => by unfold D.ht at h; omega
theorem toPs_depth : ∀ l : List D, D.hts l ≤ 60 → PyData.depthAll (D.toPs l) ≤ D.hts l
  | [], _ => Nat.le_refl _
  | d :: r, h => by
    unfold D.hts at h
    have h1 := toP_depth d (by omega)
    have h2 := toPs_depth r (by omega)
    rw [D.toPs, PyData.depthAll, D.hts]
    omega
end

/-! ### the same order of any arrangement -/
mutual
/-- a datum back from the library's -/
theorem toP_inj : ∀ (a b : D), a.ht ≤ 60 → b.ht ≤ 60 → a.toP = b.toP → a = b
  | .non, b, _, hb, e => by cases b <;> first | rfl | (exfalso; unfold D.ht at hb; omega) | (rw [D.toP, D.toP] at e; cases e)
  | .bl x, b, _, hb, e => by cases b <;> first | (rw [D.toP, D.toP] at e; cases e; rfl) | (rw [D.toP, D.toP] at e; cases e)
  | .int x, b, _, hb, e => by cases b <;> first | (rw [D.toP, D.toP] at e; cases e; rfl) | (rw [D.toP, D.toP] at e; cases e)
  | .str x, b, _, hb, e => by cases b <;> first | (rw [D.toP, D.toP] at e; cases e; rfl) | (rw [D.toP, D.toP] at e; cases e)
  | .tup x, b, ha, hb, e => by
    cases b with
    | tup y =>
      rw [D.toP, D.toP] at e
      injection e with e
      unfold D.ht at ha hb
      rw [toPs_inj x y (by omega) (by omega) e]
    | _ => rw [D.toP, D.toP] at e; cases e
  | .lst x, b, ha, hb, e => by
    cases b with
    | lst y =>
      rw [D.toP, D.toP] at e
      injection e with e
      unfold D.ht at ha hb
      rw [toPs_inj x y (by omega) (by omega) e]
    | _ => rw [D.toP, D.toP] at e; cases e
  | .scr _, _, ha, _, _ => by unfold D.ht at ha; omega
  | .dct _, _, ha, _, _ => by unfold D.ht at ha; omega
  | .set _, _, ha, _, _ => by unfold D.ht at ha; omega
theorem toPs_inj : ∀ (a b : List D), D.hts a ≤ 60 → D.hts b ≤ 60 → D.toPs a = D.toPs b → a = b
  | [], [], _, _, _ => rfl
  | [], _ :: _, _, _, e => by rw [D.toPs, D.toPs] at e; cases e
  | _ :: _, [], _, _, e => by rw [D.toPs, D.toPs] at e; cases e
  | x :: xs, y :: ys, ha, hb, e => by
    rw [D.toPs, D.toPs] at e
    injection e with e1 e2
    unfold D.hts at ha hb
    rw [toP_inj x y (by omega) (by omega) e1, toPs_inj xs ys (by omega) (by omega) e2]
end
mutual
theorem alike_eqv : ∀ (x y : PyData), alike x y = true → PyData.eqv x y = true → x = y
  | .none, y, h, e => by cases y <;> first | rfl | (simp [alike] at h)
  | .bool a, y, h, e => by
    cases y with
    | bool b => simp [PyData.eqv] at e; rw [e]
    | _ => simp [alike] at h
  | .int a, y, h, e => by
    cases y with
    | int b => simp [PyData.eqv] at e; rw [e]
    | _ => simp [alike] at h
  | .str a, y, h, e => by
    cases y with
    | str b => simp [PyData.eqv] at e; rw [e]
    | _ => simp [alike] at h
  | .list a, y, h, e => by
    cases y with
    | list b =>
      have h' : alikeAll a b = true := by simpa [alike] using h
      have e' : PyData.eqvAll a b = true := by simpa [PyData.eqv] using e
      rw [alikeAll_eqv a b h' e']
    | _ => simp [alike] at h
  | .tuple a, y, h, e => by
    cases y with
    | tuple b =>
      have h' : alikeAll a b = true := by simpa [alike] using h
      have e' : PyData.eqvAll a b = true := by simpa [PyData.eqv] using e
      rw [alikeAll_eqv a b h' e']
    | _ => simp [alike] at h
  | .dict a, y, h, e => by cases y <;> simp [alike] at h
theorem alikeAll_eqv : ∀ (x y : List PyData), alikeAll x y = true → PyData.eqvAll x y = true → x = y
  | [], [], _, _ => rfl
  | [], _ :: _, _, e => by simp [PyData.eqvAll] at e
  | _ :: _, [], _, e => by simp [PyData.eqvAll] at e
  | a :: as, b :: bs, h, e => by
    obtain ⟨h1, h2⟩ := alike_all_cons h
    rw [eqv_all_cons] at e
    obtain ⟨e1, e2⟩ := and2 e
    rw [alike_eqv a b h1 e1, alikeAll_eqv as bs h2 e2]
end
theorem toks_same {x y : PyData} (h : alike x y = true) (e : keyToks x = keyToks y) : x = y := by
  cases q : PyData.eqv x y with
  | true => exact alike_eqv x y h q
  | false =>
    exfalso
    have t1 := (toks_eqv x y h).2 q [.inl 0] [.inl 1]
    have t2 := (toks_eqv x y h).2 q [.inl 1] [.inl 0]
    rw [e, lex_pre] at t1 t2
    rw [← t2] at t1
    revert t1
    decide
theorem leB_total : ∀ a b : D, leB a b = true ∨ leB b a = true := by
  intro a b
  unfold leB D.lt dataLt
  cases h : PyProof.Rows.lexLt itemOrd (keyToks b.toP) (keyToks a.toP) with
  | false => exact .inl rfl
  | true =>
    right
    cases h2 : PyProof.Rows.lexLt itemOrd (keyToks a.toP) (keyToks b.toP) with
    | false => rfl
    | true =>
      have := (listOrd itemOrd).trans _ _ _ h h2
      rw [(listOrd itemOrd).irrefl] at this
      cases this
theorem leB_trans : ∀ a b c : D, leB a b = true → leB b c = true → leB a c = true := by
  intro a b c h1 h2
  unfold leB D.lt dataLt at *
  cases h : PyProof.Rows.lexLt itemOrd (keyToks c.toP) (keyToks a.toP) with
  | false => rfl
  | true =>
    rcases (listOrd itemOrd).negTrans (keyToks c.toP) (keyToks b.toP) (keyToks a.toP) h with z | z
    · have z' : PyProof.Rows.lexLt itemOrd (keyToks c.toP) (keyToks b.toP) = true := z
      rw [z'] at h2; cases h2
    · have z' : PyProof.Rows.lexLt itemOrd (keyToks b.toP) (keyToks a.toP) = true := z
      rw [z'] at h1; cases h1
theorem leB_anti {a b : D} (ha : a.ht ≤ 60) (hb : b.ht ≤ 60) (h : D.alk a b = true) (h1 : leB a b = true) (h2 : leB b a = true) : a = b := by
  unfold leB D.lt dataLt at *
  have e1 : PyProof.Rows.lexLt itemOrd (keyToks b.toP) (keyToks a.toP) = false := by simpa using h1
  have e2 : PyProof.Rows.lexLt itemOrd (keyToks a.toP) (keyToks b.toP) = false := by simpa using h2
  exact toP_inj a b ha hb (toks_same h ((listOrd itemOrd).total _ _ e2 e1))
theorem sort_perm {as bs : List D} (p : as.Perm bs) (hz : ∀ d ∈ as, d.ht ≤ 60) (ha : ∀ x ∈ as, ∀ y ∈ as, D.alk x y = true) : as.mergeSort leB = bs.mergeSort leB := by
  have s1 := List.pairwise_mergeSort leB_trans (fun a b => by rcases leB_total a b with h | h <;> simp [h]) as
  have s2 := List.pairwise_mergeSort leB_trans (fun a b => by rcases leB_total a b with h | h <;> simp [h]) bs
  have q : (as.mergeSort leB).Perm (bs.mergeSort leB) := ((List.mergeSort_perm as leB).trans p).trans (List.mergeSort_perm bs leB).symm
  refine List.Perm.eq_of_pairwise (le := fun a b => leB a b = true) (fun a b h1 h2 l1 l2 => ?_) s1 s2 q
  have m1 : a ∈ as := (List.mergeSort_perm as leB).mem_iff.mp h1
  have m2 : b ∈ as := p.mem_iff.mpr ((List.mergeSort_perm bs leB).mem_iff.mp h2)
  exact leB_anti (hz _ m1) (hz _ m2) (ha _ m1 _ m2) l1 l2

/-! ### collecting a dict's keys -/
section
variable {P : Program} {w : World} {A : Around} {E : Value → Shared → Prop} {s : Shared}
theorem same_not_self {p q : Addr} (h : p ≠ q) : Builtin.List.listSameRef (.ref p) (.ref q) = false := by simp [Builtin.List.listSameRef, h]
theorem collect_dict {a : Addr} {es : Array DictEntry} {ep : Nat} {Q : List Value → Shared → Prop} (hh : A.handled = none) (hd : (a == sysModules) = false) (hm : s.heap.DictRaw a es ep) (hn : es.size ≤ sizeLine)
    (hQ : ∀ s', (∀ b o, s.heap.get? b = some o → s'.heap.get? b = some o) → s.heap.objs.size ≤ s'.heap.objs.size → s'.gens = s.gens → s'.os = s.os → Q (es.toList.map (·.key)) s') : wpAny (model P w) A (collect (.ref a)) Q E s := by
  obtain ⟨oa, hoa, hxa, hda⟩ := id hm
  have la : a < s.heap.objs.size := Heap.lt_size hoa
  generalize hL : s.heap.objs.size = L at la
  unfold collect
  refine wpAny_bind (wpAny_runValue (codeAny_builtin F.entry_proto_collect ?_))
  rw [Around.under_plainId F.plain_proto_collect _]
  show wpAny _ A.in1 (newList [] >>= fun l => again (.builtin "list.__iadd__" ⟨[l, .ref a], []⟩)) _ _ s
  refine wpAny_bind (wpAny_newObj_type ?_)
  refine wpAny_pure ⟨plainId_quiet F.plain_list_iadd _, codeAny_builtin F.entry_list_iadd ?_⟩
  rw [Around.under_plainId F.plain_list_iadd _]
  generalize hs1 : ({ s with heap := s.heap.push { cls := .type "list", data := .seq ([] : List Value).toArray } } : Shared) = s1
  have k1 : ∀ b u, s.heap.get? b = some u → s1.heap.get? b = some u := fun b u e => by rw [← hs1]; exact Heap.get?_push_of_some _ e
  have hS : s1.heap.get? L = some { cls := .type "list", data := .seq ([] : List Value).toArray } := by
    rw [← hs1, ← hL]
    exact Heap.get?_push_size _ rfl
  have z1 : s1.heap.objs.size = L + 1 := by rw [← hs1, ← hL]; exact PyProof.Rows.size_push' _ _
  have hm1 : s1.heap.DictRaw a es ep := hm.at fun o e => k1 a o e
  rw [hL]
  show wpAny _ A.in1 (Builtin.List.listExtendWith (.ref L) (.ref a) (.ref L)) _ _ s1
  unfold Builtin.List.listExtendWith
  have hT1 : s1.TypeIs (.ref a) "dict" := hm1.typeIs
  refine wpAny_bind (wpAny_typeOf hT1 ?_)
  have h2 : (Value.type "dict" == Value.type "list") = false := by decide
  have h3 : (Value.type "dict" == Value.type "tuple") = false := by decide
  simp only [same_not_self (Nat.ne_of_gt la), h2, h3, Bool.or_false, Bool.false_eq_true, if_false]
  refine wpAny_bind (wpAny_pyIter_dict_raw hd hm1 ?_)
  rw [z1]
  generalize hs2 : ({ s1 with heap := s1.heap.push { cls := .type "dict_keyiterator", data := .fields #[.ref a, .int 0 0, .int es.size 0, .int ep 0] } } : Shared) = s2
  have k2 : ∀ b u, s1.heap.get? b = some u → s2.heap.get? b = some u := fun b u e => by rw [← hs2]; exact Heap.get?_push_of_some _ e
  have hI : s2.heap.get? (L + 1) = some { cls := .type "dict_keyiterator", data := .fields #[.ref a, .int 0 0, .int es.size 0, .int ep 0] } := by
    rw [← hs2, ← z1]
    exact Heap.get?_push_size _ rfl
  have hT2 : s2.TypeIs (.ref a) "dict" := (hm1.at fun o e => k2 a o e).typeIs
  refine wpAny_bind (wpAny_holding ?_)
  unfold Builtin.List.listLengthHint
  refine wpAny_bind (wpAny_specialOf hT2 F.slot_dict_len.lookup ?_)
  (generalize hid : ("dict.__len__" : String) = id0; (fail_if_success (clear hid id0)); wp_delta; rw [show splitId id0 = some ("dict", "__len__") from by subst hid; decide +kernel]; subst hid)
  refine wpAny_bind (wpAny_isInstance (b := true) hT2 isSubtype_dict_dict ?_)
  show wpAny _ A.in1 (typeOf (.ref a) >>= _) _ _ _
  refine wpAny_bind (wpAny_typeOf hT2 ?_)
  refine wpAny_pure ?_
  show wpAny _ A.in1 (rule "list.extend.makes-room" >>= fun _ => Builtin.List.listTouch (.ref L) >>= fun _ => again (.builtin "list.extend.loop" ⟨[.ref L, .ref (L + 1), .ref L], []⟩)) _ _ _
  refine wpAny_bind (wpAny_rule ?_)
  have hS2 := k2 _ _ hS
  refine wpAny_bind ?_
  show wpAny _ A.in1 (updateSeq L (·.push .none) >>= fun _ => updateSeq L (·.pop)) _ _ _
  refine wpAny_bind (wpAny_updateSeq hS2 rfl ?_)
  have hS3 := Heap.get?_update_self (Obj.mapSeq (·.push Value.none)) hS2 rfl
  refine wpAny_updateSeq hS3 rfl ?_
  have hS4 := Heap.get?_update_self (Obj.mapSeq (·.pop)) hS3 rfl
  generalize hh4 : (s2.heap.update L (Obj.mapSeq (·.push Value.none))).update L (Obj.mapSeq (·.pop)) = h4 at hS4 ⊢
  have oth : ∀ b u, b ≠ L → s2.heap.get? b = some u → h4.get? b = some u := fun b u hb e => by
    rw [← hh4]
    exact (Heap.get?_update_other _ _ (Ne.symm hb)).trans ((Heap.get?_update_other _ _ (Ne.symm hb)).trans e)
  have W := (Walks.rawKeys (prog := P) (w := w) (A := A.in1) hh (L + 1) a (Nat.ne_of_lt (Nat.lt_succ_of_lt la)) es ep).toS
  have st0 : h4.IsKeyIter (L + 1) a 0 es.size ep ∧ h4.DictRaw a es ep :=
    ⟨⟨_, oth _ _ (Nat.succ_ne_self L) hI, rfl, rfl⟩, (hm1.at fun o e => k2 a o e).at fun o e => oth a o (Nat.ne_of_lt la) e⟩
  refine wpAny_pure ⟨plainId_quiet F.plain_extend_loop _, codeAny_extend_loopS W hn L (fun z => by
    rcases List.mem_cons.mp z with z | z
    · exact absurd z (Nat.ne_of_lt (Nat.lt_succ_self L))
    · exact absurd (List.mem_singleton.mp z) (Nat.ne_of_gt la)) (.ref L) es.size 0 { s2 with heap := h4 } _ _ rfl (Nat.zero_le _) st0 hS4 (ItemsOf.nil _) fun s' acc' c' hmv hS' hacc => ?_⟩
  show wpAny _ A (load L >>= _) _ _ s'
  refine wpAny_bind (wpAny_load hS' ?_)
  have eo : acc'.toList = es.toList.map (·.key) := by
    have hsz := hacc.1
    refine List.ext_getElem (by rw [Array.length_toList, hsz, List.length_map, Array.length_toList]) fun i h1 h2 => ?_
    have hi : i < es.size := by rw [← hsz]; simpa using h1
    obtain ⟨_, e⟩ := hacc.2 i acc'[i] (by simp [hsz, hi])
    simp [e]
  refine wpAny_pure ?_
  show Q acc'.toList s'
  rw [eo]
  refine hQ s' (fun b u e => ?_) (Nat.le_of_lt (by rw [hL]; exact Heap.lt_size hS')) (by rw [hmv.gens, ← hs2, ← hs1]) (by rw [hmv.os, ← hs2, ← hs1])
  have hbl : b < L := by rw [← hL]; exact Heap.lt_size e
  refine hmv.heap b u (fun z => ?_) (oth b u (Nat.ne_of_lt hbl) (k2 b u (k1 b u e)))
  rcases List.mem_cons.mp z with z | z
  · exact absurd z (Nat.ne_of_lt hbl)
  · exact absurd (List.mem_singleton.mp z) (Nat.ne_of_lt (Nat.lt_succ_of_lt hbl))
end

section
variable {P : Program} {w : World} {A : Around} {E : Value → Shared → Prop} {s : Shared}
theorem collect_two {it : Addr} {T : String} {o : Obj} {its : List Value} {n : Nat} {Q : List Value → Shared → Prop} (hT : T = "list" ∨ T = "tuple") (ho : s.heap.get? it = some o) (hc : o.cls = .type T) (hd : o.data = .seq its.toArray n) (hsz : its.length ≤ sizeLine)
    (hQ : ∀ h', (∀ b u, s.heap.get? b = some u → h'.get? b = some u) → s.heap.objs.size ≤ h'.objs.size → Q its { s with heap := h' }) : wpAny (model P w) A (collect (.ref it)) Q E s := by
  generalize hL : s.heap.objs.size = L at hQ
  unfold collect
  refine wpAny_bind (wpAny_runValue (codeAny_builtin F.entry_proto_collect ?_))
  rw [Around.under_plainId F.plain_proto_collect _]
  show wpAny _ A.in1 (newList [] >>= fun l => again (.builtin "list.__iadd__" ⟨[l, .ref it], []⟩)) _ _ s
  refine wpAny_bind (wpAny_newObj_type ?_)
  refine wpAny_pure ⟨plainId_quiet F.plain_list_iadd _, codeAny_builtin F.entry_list_iadd ?_⟩
  rw [Around.under_plainId F.plain_list_iadd _, hL]
  generalize hs1 : s.heap.push { cls := .type "list", data := .seq ([] : List Value).toArray } = h1
  have k1 : ∀ b u, s.heap.get? b = some u → h1.get? b = some u := fun b u e => by rw [← hs1]; exact Heap.get?_push_of_some _ e
  have hS : h1.get? L = some { cls := .type "list", data := .seq #[] 0 } := by
    rw [← hs1, ← hL]
    exact Heap.get?_push_size _ rfl
  have z1 : h1.objs.size = L + 1 := by rw [← hs1, ← hL]; exact PyProof.Rows.size_push' _ _
  have hS2 := Heap.get?_update_self (Obj.mapSeq (· ++ its.toArray)) hS rfl
  show wpAny _ A.in1 (Builtin.List.listExtendWith (.ref L) (.ref it) (.ref L)) _ _ { s with heap := h1 }
  have fin' : wpAny (model P w) A (match Value.ref L with
      | Value.ref a => do
        match (← load a).data with
          | Data.seq xs _ => pure xs.toList
          | _ => unsupported "internal:collect"
      | _ => unsupported "internal:collect") Q E { s with heap := h1.update L (Obj.mapSeq (· ++ its.toArray)) } := by
    show wpAny _ A (load L >>= _) _ _ _
    refine wpAny_bind (wpAny_load hS2 ?_)
    refine wpAny_pure ?_
    have e : ((#[] : Array Value) ++ its.toArray).toList = its := by simp
    show Q ((#[] : Array Value) ++ its.toArray).toList _
    rw [e]
    refine hQ _ (fun b u hb => ?_) (by rw [Heap.size_update, z1]; exact Nat.le_succ _)
    exact (Heap.get?_update_other _ _ (Nat.ne_of_gt (by rw [← hL]; exact Heap.lt_size hb))).trans (k1 b u hb)
  refine wpAny_mono (wpAny_extend_seq (hsz := by simpa using hsz) (A := A) (R := fun r s' => r = .ok (.ret (.ref L)) ∧ s' = { s with heap := h1.update L (Obj.mapSeq (· ++ its.toArray)) })
    (s := { s with heap := h1 }) L it (.ref L) 0 hT hS (k1 _ _ ho) hc hd ⟨rfl, rfl⟩) (fun fin s' h => ?_) (fun e s' h => ?_)
  · cases fin with
    | done f =>
      obtain ⟨e, rfl⟩ := h
      cases e
      exact fin'
    | again c' => exact ⟨h.1, codeAny_mono h.2 fun r s'' hr => by obtain ⟨rfl, rfl⟩ := hr; exact fin'⟩
  · exact absurd h.1 (by simp)
end

/-! ### sorted -/
section
variable {P : Program} {w : World} {A : Around} {E : Value → Shared → Prop} {s : Shared}
theorem sorted_any {arg : Value} {R : Value → D → Prop} {Q : Value → Shared → Prop} (hcol : ∀ Q' : List Value → Shared → Prop, (∀ s1 vs ds, (∀ b o, s.heap.get? b = some o → s1.heap.get? b = some o) → s.heap.objs.size ≤ s1.heap.objs.size → s1.gens = s.gens → s1.os = s.os →
      EachIs (fun v d => ∃ as, Reads s1.heap v (D.toP d) as) vs ds → EachIs R vs ds → sortable ds = true → (∀ p s2 (out : List Value) c, (∀ b o, s.heap.get? b = some o → s2.heap.get? b = some o) → s2.gens = s.gens → s2.os = s.os → s.heap.objs.size ≤ p → s2.heap.get? p = some (seqObj "list" out.toArray c) →
        out.length = ds.length → EachIs R out (ds.mergeSort leB) → Q (.ref p) s2) → Q' vs s1) → wpAny (model P w) A.in1 (collect arg) Q' E s) (hu : A.units + 65 < cLine) :
    wpAny (model P w) A (call (.builtin "sorted") [arg]) Q E s := by
  refine Calls.call_function_entry PyProof.Rows.kind_sorted PyProof.Rows.plain_sorted PyProof.Rows.entry_sorted (PyProof.Rows.args_sorted1 _) ?_
  unfold Builtin.«sorted»
  refine wpAny_bind (m := checkCount "sorted" 1 1 _) (wpAny_pure ?_)
  refine wpAny_bind (hcol _ fun s1 vs ds k1 z1 g1 o1 er eR hs q => ?_)
  obtain ⟨h1, h2, h3, h4⟩ := and4 hs
  have hl := fits_line h4
  have hvl : vs.length = ds.length := er.length
  refine wpAny_bind (PySem.wpAny_newList ?_ (by rw [hvl]; exact hl))
  have hoL : (s1.heap.push (seqObj "list" vs.toArray 0)).get? s1.heap.objs.size = some (seqObj "list" vs.toArray 0) := Heap.get?_push_size _ rfl
  generalize hH : s1.heap.push (seqObj "list" vs.toArray 0) = h1' at hoL ⊢
  generalize hp : s1.heap.objs.size = p at hoL ⊢
  have kH : ∀ b o, s1.heap.get? b = some o → h1'.get? b = some o ∧ b ≠ p := fun b o e => ⟨by rw [← hH]; exact Heap.get?_push_of_some _ e, by rw [← hp]; exact Nat.ne_of_lt (Heap.lt_size e)⟩
  have er' : EachIs (fun v d => ∃ as, Reads (sortingHeap h1' p vs) v (D.toP d) as) vs ds := er.mono fun v d ⟨as, r⟩ => ⟨as, PyProof.Rows.Reads.keeps (fun b o e => sortingHeap_old (kH b o e).2 (kH b o e).1) r⟩
  have hal := allAlike_of h2
  have hz : ∀ d ∈ ds, d.ht ≤ 60 := fun d hd => of_decide_eq_true (List.all_eq_true.mp h1 d hd)
  have hd : ∀ v d, d ∈ ds → ∀ as, Reads (sortingHeap h1' p vs) v (D.toP d) as → d.toP.depth ≤ 60 := fun v d hd _ _ => Nat.le_trans (toP_depth d (hz d hd)) (hz d hd)
  refine wpAny_bind (wpAny_holding (wpAny_call_entry F.slot_list_sort ⟨_, hoL, rfl⟩ F.entry_list_sort (list_sort_vals (κ := dataKind (sortingHeap h1' p vs) (ds.map D.toP)) hoL
    (SortsAt.data (s := { s1 with heap := sortingHeap h1' p vs }) (each_map (R := fun v d => ∃ as, Reads (sortingHeap h1' p vs) v d as) D.toP er') hal (sortable_of h1 h3) (fun d hd => ?_)) (by rw [hvl]; exact hl) ⟨.none, rfl, ?_⟩) (PyProof.Rows.args_list_sort _)))
  · obtain ⟨b, hb, rfl⟩ := List.mem_map.mp hd
    have := toP_depth b (hz b hb)
    have := hz b hb
    simp only [Around.in1_units]
    omega
  · have eo : EachIs R (sortVals (dataKind (sortingHeap h1' p vs) (ds.map D.toP)) false vs vs) (ds.mergeSort (dataLe false D.toP)) := sortVals_data (enc := D.toP) false eR er' hal
    rw [leB_eq] at eo
    obtain ⟨c, hc⟩ := PyProof.Rows.sortedHeap_at (vs := vs) (out := (sortVals (dataKind (sortingHeap h1' p vs) (ds.map D.toP)) false vs vs).toArray) hoL
    refine wpAny_pure ⟨_, rfl, q p _ _ c (fun b o e => ?_) g1 o1 (by rw [← hp]; exact z1) hc ?_ eo⟩
    · obtain ⟨e2, ne⟩ := kH b o (k1 b o e)
      have hlt := Heap.lt_size (k1 b o e)
      exact PyProof.Rows.sortedHeap_old ne (by rw [← hH, PyProof.Rows.size_push']; exact Nat.lt_succ_of_lt hlt) |>.trans e2
    · rw [eo.length]
      exact List.length_mergeSort ds
end

/-! ### by values -/
def sortItems : D → Out (List D)
  | .tup l => .ok l
  | .lst l => .ok l
  | .scr l => .ok (l.map .int)
  | .dct l => .ok (l.map (·.1))
  | .set l => .ok l
  | _ => .fail
def sortedD : List D → Out D
  | [x] => (sortItems x).bind fun ds => if sortable ds = true then .ok (.lst (ds.mergeSort leB)) else .fail
  | _ => .fail
section
variable {X : Cx} {pins : List (Addr × Obj)} {σ : L2.St} {H F : Hp} {s : Shared}
/-- the values stand for data -/
def RelD (X : Cx) (F : Hp) (u : Value) (d : D) : Prop := ∃ v, RelV v u ∧ Rep (cw X) F v d
theorem relD_vals : ∀ {vs : List V} {us : List Value} {ds : List D}, Reps (cw X) F vs ds → Vals vs us → EachIs (RelD X F) us ds
  | _, _, _, .nil, r => by cases r; exact .nil
  | _, _, _, .cons a t, r => by
    cases r with
    | cons r1 r2 => exact .cons ⟨_, r1, a⟩ (relD_vals t r2)
theorem relD_back : ∀ {us : List Value} {ds : List D}, EachIs (RelD X F) us ds → ∃ vs, Vals vs us ∧ Reps (cw X) F vs ds
  | _, _, .nil => ⟨[], .nil, .nil⟩
  | _, _, .cons ⟨v, r, a⟩ t => by
    obtain ⟨vs, h1, h2⟩ := relD_back t
    exact ⟨v :: vs, .cons r h1, .cons a h2⟩
theorem relD_reads (I : Inv X pins σ H s) (sm : Same F H) {us : List Value} {ds : List D} (hz : ∀ d ∈ ds, d.ht ≤ 60) (e : EachIs (RelD X F) us ds) {h' : Heap} (k : ∀ b o, s.heap.get? b = some o → h'.get? b = some o) : EachIs (fun v d => ∃ as, Reads h' v (D.toP d) as) us ds :=
  (each_mem e).mono fun u d ⟨⟨v, r, a⟩, hd⟩ => by
    obtain ⟨h1, _, _⟩ := Rep.dp d v (a.mono sm) (hz d hd)
    obtain ⟨as, r1⟩ := Dp.reads I _ v u h1 r
    exact ⟨as, PyProof.Rows.Reads.keeps k r1⟩
theorem kvs_keys {kvs : List (Key × V)} {ds : List (D × D)} (r : KVs (cw X) F kvs ds) : Reps (cw X) F (kvs.map fun p => kV p.1) (ds.map (·.1)) := by
  induction ds generalizing kvs with
  | nil => cases r; exact .nil
  | cons d ds ih => cases r with | cons a _ t => exact .cons a (ih t)
theorem nvs_keys {xs : List (NestedKey × Addr × Value)} {ds : List (D × D)} (r : NVs (cw X) F xs ds) : Reps (cw X) F (xs.map fun p => V.ref p.2.1) (ds.map (·.1)) := by
  induction ds generalizing xs with
  | nil => cases r; exact .nil
  | cons d ds ih => cases r with | cons a _ _ _ _ _ t => exact .cons a (ih t)
/-- a dict as it lies: its entries, in their order -/
theorem dct_raw (I : Inv X pins σ H s) (sm : Same F H) {v : V} {u : Value} {ds : List (D × D)} (r : Rep (cw X) F v (.dct ds)) (ru : RelV v u) : ∃ a es ep vs us ws wu, v = .ref a ∧ u = .ref a ∧ (a == sysModules) = false ∧ s.heap.DictRaw a es ep ∧ es.size ≤ sizeLine ∧
    es.toList.map (·.key) = us ∧ Vals vs us ∧ Reps (cw X) F vs (ds.map (·.1)) ∧ es.toList.map (·.val) = wu ∧ Vals ws wu ∧ Reps (cw X) F ws (ds.map (·.2)) := by
  cases r with
  | @dK a kvs _ h r =>
    cases ru
    obtain ⟨z, hd, vs, rel, o, es, ep, h1, h2, h3, h4, h5, h6⟩ := dk_of I.hok (sm _ _ h)
    have hl : es.size = kvs.length := by
      have q := h5.length
      rw [rel.length, ← q, Array.length_toList]
    refine ⟨a, es, ep, kvs.map fun p => kV p.1, _, kvs.map (·.2), _, rfl, rfl, hd, ⟨o, h1, h2, h3⟩, by rw [hl]; exact z, rfl, ?_, kvs_keys r, rfl, ?_, ?_⟩
    · clear h3 h4 r hl h6
      generalize es.toList = l at h5
      clear h1 h2 z h hd
      induction rel generalizing l with
      | nil => cases h5; exact .nil
      | @cons p q ps qs hpq t ih =>
        cases h5 with
        | @cons e kv es' kvs' k1 k2 k3 =>
          refine .cons (show RelV (kV p.1) e.key from ?_) (ih _ k3)
          rw [hpq.1]
          cases hq : q.1 with
          | inl i =>
            rw [hq] at k1
            exact Value.isInt_shape k1
          | inr x =>
            rw [hq] at k1
            exact Value.isStrOf_shape k1
    · clear h3 h4 r hl h6
      generalize es.toList = l at h5
      clear h1 h2 z h hd
      induction rel generalizing l with
      | nil => cases h5; exact .nil
      | @cons p q ps qs hpq t ih =>
        cases h5 with
        | @cons e kv es' kvs' k1 k2 k3 =>
          refine .cons (show RelV p.2 e.val from ?_) (ih _ k3)
          rw [k2]
          exact hpq.2
    · clear h5 h4 rel z h hl
      induction ds generalizing kvs with
      | nil => cases r; exact .nil
      | cons d ds ih => cases r with | cons _ b t => exact .cons b (ih t)
  | @dN a xs _ h r =>
    cases ru
    obtain ⟨hd, z, hnd, o, es, ep, h1, h2, h3, h4⟩ := (I.hok _ _ (sm _ _ h)).1
    have hl : es.size = xs.length := by rw [← Array.length_toList, h4, List.length_map]
    refine ⟨a, es, ep, xs.map fun p => V.ref p.2.1, xs.map fun p => Value.ref p.2.1, ?_⟩
    obtain ⟨ws, hw1, hw2⟩ : ∃ ws, Vals ws (xs.map fun p => p.2.2) ∧ Reps (cw X) F ws (ds.map (·.2)) := by
      clear h4 hl hnd z h
      induction ds generalizing xs with
      | nil => cases r; exact ⟨[], .nil, .nil⟩
      | cons d ds ih =>
        cases r with
        | cons _ _ _ _ rv b t =>
          obtain ⟨ws, q1, q2⟩ := ih t
          exact ⟨_ :: ws, .cons rv q1, .cons b q2⟩
    refine ⟨ws, xs.map fun p => p.2.2, rfl, rfl, hd, ⟨o, h1, h2, h3⟩, by rw [hl]; exact z, ?_, ?_, nvs_keys r, ?_, hw1, hw2⟩
    · rw [h4, List.map_map]; rfl
    · clear h4 hl hnd z h r hw1 hw2
      induction xs with
      | nil => exact .nil
      | cons x xs ih => exact .cons rfl ih
    · rw [h4, List.map_map]; rfl
/-- what sorted gives, laid -/
theorem sorted_lay {E : XK} {Q : VK} {ds : List D} (I : Inv X pins σ H s) (sm : Same F H) (q : AtF (cw X) X.mg E F H (.ok (.lst (ds.mergeSort leB))) Q) (hl : ds.length ≤ sizeLine) :
    ∀ p s2 (out : List Value) c, (∀ b o, s.heap.get? b = some o → s2.heap.get? b = some o) → s2.gens = s.gens → s2.os = s.os → s.heap.objs.size ≤ p → s2.heap.get? p = some (seqObj "list" out.toArray c) → out.length = ds.length → EachIs (RelD X F) out (ds.mergeSort leB) → EP X pins σ Q (.ref p) s2 := by
  intro p s2 out c k g o hp hg hlen he
  obtain ⟨vs, hv, hr⟩ := relD_back he
  have hn : H p = none := I.hok.fresh hp
  have hvl : vs.length ≤ sizeLine := by rw [hv.length, hlen]; exact hl
  have J : Inv X pins σ (upd H p (.lst vs)) { s with heap := s2.heap, gens := s2.gens, drawn := s2.drawn, toks := s2.toks } :=
    I.call (ch := []) (Un.laid k hp hn) (I.hok.laid k hp ⟨hvl, out, c, hv, hg⟩) (by rw [g]; exact I.bare) (fun _ z => nomatch z)
  have e : s2 = { s with heap := s2.heap, gens := s2.gens, drawn := s2.drawn, toks := s2.toks } := by
    cases s2
    cases s
    cases o
    rfl
  rw [e]
  exact ⟨.ref p, _, J, rfl, AtF.lay sm q (fun p H' hp h => .lst hp h (owns_reps hr)) p hn⟩
theorem call_sortedF (hc : X.calm = true) (hu : X.A.units + 65 < cLine)
    (hset : ∀ (pins : List (Addr × Obj)) (s : Shared) (σ : L2.St) (H F : Hp) (v : V) (u : Value) (ds : List D) (E : XK) (Q : VK), Inv X pins σ H s → Same F H → Rep (cw X) F v (.set ds) → RelV v u → sortable ds = true → AtF (cw X) X.mg E F H (.ok (.lst (ds.mergeSort leB))) Q → wpAny (model X.prog X.w) X.A (call (.builtin "sorted") [u]) (EP X pins σ Q) X.xe s) : CallF X (.builtin "sorted") sortedD := by
  rintro E pins s σ H xs us Q I rx ⟨F, ds, sm, rs, q⟩
  cases rs with
  | nil => exact q.elim
  | @cons v vs d ds r t =>
    cases t with
    | cons _ _ => exact q.elim
    | nil =>
      cases rx with
      | @cons _ u _ _ r1 r2 =>
      cases r2
      have q : AtF (cw X) X.mg E F H ((sortItems d).bind fun ds => if sortable ds = true then .ok (.lst (ds.mergeSort leB)) else .fail) Q := q
      -- a row of items that lies in the heap
      have seq : ∀ (a : Addr) (vs : List V) (ds : List D) (T : String) (its : List Value), (T = "list" ∨ T = "tuple") → u = .ref a → Vals vs its → (∃ o, s.heap.get? a = some o ∧ o.cls = .type T ∧ ∃ n, o.data = .seq its.toArray n) → Reps (cw X) F vs ds → vs.length ≤ sizeLine →
          AtF (cw X) X.mg E F H (if sortable ds = true then .ok (.lst (ds.mergeSort leB)) else .fail) Q → wpAny (model X.prog X.w) X.A (call (.builtin "sorted") [u]) (EP X pins σ Q) X.xe s := by
        rintro a vs ds T its hT rfl rv ⟨o, h1, h2, n, h3⟩ rd hz q
        by_cases hs : sortable ds = true
        · rw [if_pos hs] at q
          have h4 := and4 hs
          refine sorted_any (R := RelD X F) (fun Q' hq => collect_two hT h1 h2 h3 (by rw [← rv.length]; exact hz) fun h' k z => ?_) hu
          exact hq _ its ds k z rfl rfl (relD_reads I sm (fun d hd => of_decide_eq_true (List.all_eq_true.mp h4.1 d hd)) (relD_vals rd rv) k) (relD_vals rd rv) hs (sorted_lay I sm q (fits_line h4.2.2.2))
        · rw [if_neg hs] at q; exact q.elim
      cases d with
      | tup l =>
        cases r with
        | @tup a xs _ h rd =>
          obtain ⟨its, rv, ⟨o, h1, h2, n, h3⟩, hz⟩ := I.tuple (same_sqT sm h)
          exact seq a xs l "tuple" its (.inr rfl) r1 rv ⟨o, h1, h2, n, h3⟩ rd hz q
      | lst l =>
        cases r with
        | @lst a xs _ h rd =>
          obtain ⟨its, rv, p, hz⟩ := I.list (SqL.of (sm _ _ h))
          obtain ⟨o, h1, h2, n, h3⟩ := p.isList
          exact seq a xs l "list" its (.inl rfl) r1 rv ⟨o, h1, h2, n, h3⟩ rd hz q
      | scr l =>
        cases r with
        | @scr a _ h =>
          obtain ⟨its, rv, p, hz⟩ := I.list (sm.seq h)
          obtain ⟨o, h1, h2, n, h3⟩ := p.isList
          exact seq a _ (l.map .int) "list" its (.inl rfl) r1 rv ⟨o, h1, h2, n, h3⟩ (reps_ints l) hz q
      | dct l =>
        have q : AtF (cw X) X.mg E F H (if sortable (l.map (·.1)) = true then .ok (.lst ((l.map (·.1)).mergeSort leB)) else .fail) Q := q
        by_cases hs : sortable (l.map (·.1)) = true
        · rw [if_pos hs] at q
          have h4 := and4 hs
          obtain ⟨a, es, ep, vs, us, ws, wu, rfl, rfl, hd, raw, hz, e1, rv, rd, _⟩ := dct_raw I sm r r1
          refine sorted_any (R := RelD X F) (fun Q' hq => collect_dict (I.ok.hd hc) hd raw hz fun s' k z g o => ?_) hu
          rw [e1]
          exact hq _ us _ k z g o (relD_reads I sm (fun d hd => of_decide_eq_true (List.all_eq_true.mp h4.1 d hd)) (relD_vals rd rv) k) (relD_vals rd rv) hs (sorted_lay I sm q (fits_line h4.2.2.2))
        · rw [if_neg hs] at q; exact q.elim
      | set l =>
        have q : AtF (cw X) X.mg E F H (if sortable l = true then .ok (.lst (l.mergeSort leB)) else .fail) Q := q
        by_cases hs : sortable l = true
        · rw [if_pos hs] at q
          exact hset pins s σ H F v u l E Q I sm r r1 hs q
        · rw [if_neg hs] at q; exact q.elim
      | _ => exact q.elim
end
end TP

end
set_option Elab.async false
set_option linter.all false
set_option maxRecDepth 100000
/-! The values layer: sets of tuples of any data that are keys. -/
noncomputable section
namespace TP
variable [IOs]
open PySem PySem.Spec L2

section
variable {P : Program} {w : World} {A : Around} {E : Value → Shared → Prop} {s : Shared}
/-- the tuple at b is the key k -/
abbrev KAt (P : Program) (w : World) (h : Heap) (k : NestedKey) (b : Addr) : Prop := (nestedKind P w).is h k b

/-! ### small questions -/
/-- no part is of a class statement -/
def PlainAt (P : Program) (w : World) (n : Nat) (s : Shared) (v : Value) : Prop := ∀ (A : Around) (E : Value → Shared → Prop) (Q : Bool → Shared → Prop), Q false s → wpAny (model P w) A (ofAClassStatement n v) Q E s
theorem plain_tuple {n : Nat} {a : Addr} {o : Obj} {vs : Array Value} {m : Nat} (ho : s.heap.get? a = some o) (hc : o.cls = .type "tuple") (hd : o.data = .seq vs m) (hq : ∀ v ∈ vs.toList, PlainAt P w n s v) : PlainAt P w (n + 1) s (.ref a) := by
  intro A E Q h
  have hT : s.TypeIs (.ref a) "tuple" := ⟨o, ho, hc⟩
  unfold ofAClassStatement
  refine wpAny_bind (wpAny_typeOf hT ?_)
  dsimp only
  have e : (("tuple" : String) == "tuple") = true := by decide
  simp only [e, if_true, Bool.not_true, Bool.false_eq_true, if_false]
  try refine wpAny_bind (wpAny_pure ?_)
  try simp only [Bool.not_true, Bool.false_eq_true, if_false]
  show wpAny _ _ (seqItems? (.ref a) >>= _) _ _ s
  refine wpAny_bind (wpAny_seqItems ho hd ?_)
  dsimp only
  refine wpAny_bind ?_
  show wpAny _ _ (forIn vs _ _) _ _ s
  rw [← Array.forIn_toList]
  refine wpAny_forIn_list _ (fun rest r s' => r.1 = none ∧ s' = s ∧ ∀ v ∈ rest, PlainAt P w n s v) _ ?_ ?_ _ _ ⟨rfl, rfl, hq⟩
  · rintro v rest r s' ⟨hr, rfl, hall⟩
    refine wpAny_bind (hall v List.mem_cons_self _ _ _ ?_)
    simp only [Bool.false_eq_true, if_false]
    exact wpAny_pure ⟨rfl, rfl, fun u hu' => hall u (List.mem_cons_of_mem _ hu')⟩
  · rintro ⟨r1, r2⟩ s' ⟨hr, rfl, _⟩
    simp only at hr
    subst hr
    exact wpAny_pure h
theorem plain_flat {n : Nat} {v : Value} (h : ∀ a, v ≠ .ref a) : PlainAt P w n s v := by
  intro A E Q q
  have e : ofAClassStatement n v = pure false := by
    cases v <;> first | exact absurd rfl (h _) | (cases n <;> rfl)
  rw [e]
  exact wpAny_pure q
mutual
theorem plain_key : ∀ (k : NestedKey) (v : Value) (n : Nat) (s : Shared), NestedIs s.heap k v → k.depth ≤ n → PlainAt P w n s v
  | .none, _, n, s, x, _ => by cases x; exact plain_flat fun a e => nomatch e
  | .num i, _, n, s, x, _ => by cases x <;> exact plain_flat fun a e => nomatch e
  | .text y, _, n, s, x, _ => by cases x; exact plain_flat fun a e => nomatch e
  | .tup ks, _, n, s, x, hn => by
    cases x with
    | tup hg hc hd hk =>
      simp only [NestedKey.depth] at hn
      cases n with
      | zero => omega
      | succ n => exact plain_tuple hg hc hd (plain_keys ks _ n s hk (by omega))
theorem plain_keys : ∀ (ks : List NestedKey) (vs : List Value) (n : Nat) (s : Shared), NestedAll s.heap ks vs → NestedKey.depthAll ks ≤ n → ∀ v ∈ vs, PlainAt P w n s v
  | [], _, n, s, x, _, v, hv => by cases x; cases hv
  | k :: ks, _, n, s, x, hn, v, hv => by
    cases x with
    | cons x1 x2 =>
      simp only [NestedKey.depthAll] at hn
      rcases List.mem_cons.mp hv with e | hv
      · rw [e]; exact plain_key k _ n s x1 (by omega)
      · exact plain_keys ks _ n s x2 (by omega) v hv
end
/-- whether a hash goes by value is answered, whichever way -/
def AnyAt (P : Program) (w : World) (n : Nat) (s : Shared) (v : Value) : Prop := ∀ (A : Around) (E : Value → Shared → Prop) (Q : Bool → Shared → Prop), (∀ b, Q b s) → wpAny (model P w) A (hashByValue n v) Q E s
theorem any_tuple {n : Nat} {a : Addr} {o : Obj} {vs : Array Value} {m : Nat} (ho : s.heap.get? a = some o) (hc : o.cls = .type "tuple") (hd : o.data = .seq vs m) (hq : ∀ v ∈ vs.toList, AnyAt P w n s v) : AnyAt P w (n + 1) s (.ref a) := by
  intro A E Q h
  have hT : s.TypeIs (.ref a) "tuple" := ⟨o, ho, hc⟩
  unfold hashByValue
  refine wpAny_bind (wpAny_specialOf hT F.slot_tuple_hash.lookup ?_)
  show wpAny _ _ (seqItems? (.ref a) >>= _) _ _ s
  refine wpAny_bind (wpAny_seqItems ho hd ?_)
  refine wpAny_bind ?_
  show wpAny _ _ (forIn vs _ _) _ _ s
  rw [← Array.forIn_toList]
  refine wpAny_forIn_list _ (fun rest r s' => s' = s ∧ ∀ v ∈ rest, AnyAt P w n s v) _ ?_ ?_ _ _ ⟨rfl, hq⟩
  · rintro v rest r s' ⟨rfl, hall⟩
    refine wpAny_bind (hall v List.mem_cons_self _ _ _ fun b => ?_)
    cases b with
    | true =>
      simp only [Bool.not_true, Bool.false_eq_true, if_false]
      exact wpAny_pure ⟨rfl, fun u hu' => hall u (List.mem_cons_of_mem _ hu')⟩
    | false =>
      simp only [Bool.not_false, if_true]
      exact wpAny_pure (wpAny_pure (h false))
  · rintro ⟨r1, r2⟩ s' ⟨rfl, _⟩
    cases r1 with
    | none => exact wpAny_pure (h true)
    | some b => exact wpAny_pure (h b)
theorem any_flat {n : Nat} {v : Value} {b : Bool} (h : hashByValue n v = pure b) : AnyAt P w n s v := by
  intro A E Q q
  rw [h]
  exact wpAny_pure (q b)
mutual
theorem any_key : ∀ (k : NestedKey) (v : Value) (n : Nat) (s : Shared), NestedIs s.heap k v → k.depth ≤ n → AnyAt P w n s v
  | .none, _, n, s, x, _ => by cases x; exact any_flat (b := true) (by cases n <;> rfl)
  | .num i, _, n, s, x, _ => by cases x <;> exact any_flat (b := true) (by cases n <;> rfl)
  | .text y, _, n, s, x, _ => by cases x; exact any_flat (b := false) (by cases n <;> rfl)
  | .tup ks, _, n, s, x, hn => by
    cases x with
    | tup hg hc hd hk =>
      simp only [NestedKey.depth] at hn
      cases n with
      | zero => omega
      | succ n => exact any_tuple hg hc hd (any_keys ks _ n s hk (by omega))
theorem any_keys : ∀ (ks : List NestedKey) (vs : List Value) (n : Nat) (s : Shared), NestedAll s.heap ks vs → NestedKey.depthAll ks ≤ n → ∀ v ∈ vs, AnyAt P w n s v
  | [], _, n, s, x, _, v, hv => by cases x; cases hv
  | k :: ks, _, n, s, x, hn, v, hv => by
    cases x with
    | cons x1 x2 =>
      simp only [NestedKey.depthAll] at hn
      rcases List.mem_cons.mp hv with e | hv
      · rw [e]; exact any_key k _ n s x1 (by omega)
      · exact any_keys ks _ n s x2 (by omega) v hv
end
/-- a search among such keys shows nothing -/
theorem seen_key {k : NestedKey} {b : Addr} {Q : Bool → Shared → Prop} (hk : KAt P w s.heap k b) {ys : List Value} (hy : ∀ y ∈ ys, ∃ k' c, y = Value.ref c ∧ KAt P w s.heap k' c) (h : Q false s) : wpAny (model P w) A (searchCouldBeSeen (.ref b) ys) Q E s := by
  unfold searchCouldBeSeen
  refine wpAny_bind ?_
  refine wpAny_forIn_list _ (fun rest r s' => r.1 = none ∧ s' = s ∧ ∀ y ∈ rest, ∃ k' c, y = Value.ref c ∧ KAt P w s.heap k' c) _ ?_ ?_ _ _ ⟨rfl, rfl, hy⟩
  · rintro v rest r s' ⟨hr, rfl, hall⟩
    obtain ⟨k', c, rfl, hc⟩ := hall v List.mem_cons_self
    have more : ∀ y ∈ rest, ∃ k' c, y = Value.ref c ∧ KAt P w s'.heap k' c := fun u hu' => hall u (List.mem_cons_of_mem _ hu')
    dsimp only
    by_cases hv : (b == c || (carriedByValue (.ref b) && carriedByValue (.ref c))) = true
    · exact wp_if_pos hv (wpAny_pure ⟨rfl, rfl, more⟩)
    · refine wp_if_neg hv ?_
      refine wpAny_bind ((nestedKind P w).quiet hk ?_)
      simp only [Bool.not_true, Bool.false_eq_true, if_false]
      refine wpAny_bind ((nestedKind P w).quiet hc ?_)
      simp only [Bool.not_true, Bool.false_eq_true, if_false]
      refine wpAny_bind (plain_key k _ 8 _ hk.1 hk.2 _ _ _ ?_)
      simp only [Bool.false_eq_true, if_false]
      refine wpAny_bind (plain_key k' _ 8 _ hc.1 hc.2 _ _ _ ?_)
      simp only [Bool.false_eq_true, if_false]
      exact wpAny_pure ⟨rfl, rfl, more⟩
  · rintro ⟨r1, r2⟩ s' ⟨hr, rfl, _⟩
    simp only at hr
    subst hr
    exact wpAny_pure h
end

/-! ### the set -/
section
variable {P : Program} {w : World} {A : Around} {E : Value → Shared → Prop} {s : Shared}
abbrev KL := List (NestedKey × Addr)
def rowsN (w : World) (L : KL) : List (Int × Value) := L.map fun p => (p.1.hash w, Value.ref p.2)
def hashN (w : World) (L : KL) : List Int := L.map fun p => p.1.hash w
structure SetX (P : Program) (w : World) (h : Heap) (a : Addr) (L : KL) (es : Array (Int × Value)) (ep : Nat) (t : SetTable) : Prop where
  ob : ∃ o, h.get? a = some o ∧ o.ExactSet ∧ o.data = .set es ep t
  rows : es.toList = rowsN w L
  tab : TabOk t (hashN w L)
  key : ∀ p ∈ L, KAt P w h p.1 p.2
  led : w.params.followText "set-order" = true ∨ t.led = true
  room : L.length * 5 < t.mask * 3
  few : L.length < 64
theorem hashN_len (L : KL) : (hashN w L).length = L.length := List.length_map _
variable {a : Addr} {L : KL} {es : Array (Int × Value)} {ep : Nat} {t : SetTable}
theorem rowsN_size (h : es.toList = rowsN w L) : es.size = L.length := by
  have h := congrArg List.length h
  rwa [Array.length_toList, rowsN, List.length_map] at h
theorem SetX.place (R : SetX P w s.heap a L es ep t) : t.place.size = L.length := R.tab.sz.trans (hashN_len L)
theorem SetX.fits (R : SetX P w s.heap a L es ep t) : t.fits es.size = true := by
  have h1 := R.place
  have h2 := rowsN_size R.rows
  have h3 := R.room
  unfold SetTable.fits SetTable.fill
  rw [R.tab.dm, Bool.and_eq_true, beq_iff_eq, decide_eq_true_eq, h1, h2]
  exact ⟨rfl, by show L.length + 0 ≤ t.mask; omega⟩
theorem rowsN_at (h : es.toList = rowsN w L) {i : Nat} {p : NestedKey × Addr} (e : L[i]? = some p) : es[i]? = some (p.1.hash w, Value.ref p.2) := by
  rw [← Array.getElem?_toList, h, rowsN, List.getElem?_map, e]; rfl
theorem nodummy : ∀ (m n : Nat) (p : SetTable.Probe), p.dummy = none → (nth m p n).dummy = none
  | m, 0, p, h => h
  | m, n + 1, p, h => nodummy m n (adv m p) (by unfold adv; split <;> exact h)
/-- the way's first state -/
abbrev st0 (m : Nat) (h : Int) : SetTable.Probe := runAt m (SetTable.bits h % (m + 1)) (SetTable.bits h)
theorem way_from (m : Nat) (h : Int) (c q : Nat) : (nth m (nth m (st0 m h) c) q).j = way m h (c + q) := congrArg SetTable.Probe.j (nth_add m c (st0 m h) q).symm
/-- THE SEARCH, from the c-th step on; K is the first free step -/
theorem searchN_from (R : SetX P w s.heap a L es ep t) {x : Addr} {k : NestedKey} {adding : Bool} (hx : KAt P w s.heap k x) (hu : A.units + 8 < cLine) {K : Nat} (hKf : K < 10 * SetTable.turns t.mask) (hK : way t.mask (k.hash w) K ∉ t.place.toList)
    (hKb : ∀ c, c < K → way t.mask (k.hash w) c ∈ t.place.toList) {Q : SetFound → Shared → Prop} (hin : ∀ r, k ∈ L.map (·.1) → Q (.there r) s) (hout : k ∉ L.map (·.1) → Q (.free (way t.mask (k.hash w) K) false) s) :
    ∀ (f c : Nat) (stand : Option SetTable.Probe), stand.getD (t.probeStart (k.hash w)) = nth t.mask (st0 t.mask (k.hash w)) c → c ≤ K → K - c < f →
      (∀ (i : Nat) p, L[i]? = some p → p.1 = k → ∃ c', c ≤ c' ∧ c' < K ∧ t.place.toList[i]? = some (way t.mask (k.hash w) c')) → wpAny (model P w) A (setSearchFrom a (.ref x) (k.hash w) adding f stand) Q E s := by
  intro f
  induction f with
  | zero => intro c stand _ _ hf _; exact absurd hf (Nat.not_lt_zero _)
  | succ f ih =>
    intro c stand hst hc hf hre
    obtain ⟨o, ho, hex, hd⟩ := R.ob
    generalize hH : k.hash w = hv at *
    rw [setSearchFrom_succ]
    refine wpAny_bind (wpAny_setState_of ho hd R.fits ?_)
    dsimp only
    have gw : ¬ t.gaveWay = true := by
      unfold SetTable.gaveWay
      rw [mask_odd R.tab.mok]
      decide
    refine wp_if_neg gw ?_
    try refine wpAny_bind (wpAny_pure ?_)
    have spec := go_spec t R.tab.ris R.tab.dm (fun i => (es[i]?.map (·.1)).getD 0) hv (10 * SetTable.turns t.mask) (K - c) (nth t.mask (st0 t.mask hv) c) (nodummy _ _ _ rfl) (by omega)
      (fun q hq => by rw [way_from]; exact hKb (c + q) (by omega)) (by rw [way_from, Nat.add_sub_of_le hc]; exact hK)
    have hashAt : ∀ (i : Nat) p, L[i]? = some p → (fun i => (es[i]?.map (·.1)).getD 0) i = p.1.hash w := fun i p hp => by
      show (es[i]?.map (·.1)).getD 0 = _
      rw [rowsN_at R.rows hp]; rfl
    rcases spec with ⟨q, i, hq, hi, hh, hno, hpr⟩ | ⟨hno, hpr⟩
    · -- one with this hash
      have hpr' : t.probe (fun i => (es[i]?.map (·.1)).getD 0) hv (stand.getD (t.probeStart hv)) = some (.candidate (way t.mask hv (c + q)) i (nth t.mask (st0 t.mask hv) (c + (q + 1)))) := by
        rw [hst, ← way_from, nth_add t.mask c (st0 t.mask hv) (q + 1)]
        exact hpr
      rw [hpr']
      dsimp only
      rw [way_from] at hi
      have hil : i < L.length := by
        rw [← R.place, ← Array.length_toList]
        exact (List.getElem?_eq_some_iff.mp hi).1
      obtain ⟨p, hp⟩ : ∃ p, L[i]? = some p := ⟨_, List.getElem?_eq_getElem hil⟩
      have hmem : p ∈ L := List.mem_of_getElem? hp
      have rest : wpAny (model P w) A (searchRest a (.ref x) hv adding f es t (way t.mask hv (c + q)) i (nth t.mask (st0 t.mask hv) (c + (q + 1)))) Q E s := by
        unfold searchRest
        rw [rowsN_at R.rows hp]
        dsimp only
        refine wpAny_bind (wpAny_holding ((nestedKind P w).eqBool hu (R.key p hmem) hx ?_))
        refine wpAny_bind (wpAny_setState_of ho hd R.fits ?_)
        dsimp only
        have hsl : t.slot (way t.mask hv (c + q)) = .live i := slot_live R.tab.ris hi
        by_cases hkk : p.1 = k
        · have hm : k ∈ L.map (·.1) := List.mem_map.mpr ⟨p, hmem, hkk⟩
          cases adding with
          | true => exact wp_if_pos (by simp [hkk]) (wpAny_pure (hin none hm))
          | false =>
            refine wp_if_neg (by simp) ?_
            try refine wpAny_bind (wpAny_pure ?_)
            rw [sameMem]
            dsimp only
            simp only [if_true, hsl, rowsN_at R.rows hp]
            refine wpAny_bind (wpAny_isSame_ref_self (wpAny_bind (wpAny_pure ?_)))
            simp only [if_true]
            exact wp_if_pos (by simp [hkk]) (wpAny_pure (hin (some i) hm))
        · refine wp_if_neg (by simp [hkk]) ?_
          try refine wpAny_bind (wpAny_pure ?_)
          rw [sameMem]
          dsimp only
          simp only [if_true, hsl, rowsN_at R.rows hp]
          refine wpAny_bind (wpAny_isSame_ref_self (wpAny_bind (wpAny_pure ?_)))
          simp only [if_true]
          refine wp_if_neg (by simp [hkk]) ?_
          refine ih (c + (q + 1)) _ rfl (by omega) (by omega) fun i0 p0 h0 hk0 => ?_
          obtain ⟨c', a1, a2, a3⟩ := hre i0 p0 h0 hk0
          refine ⟨c', ?_, a2, a3⟩
          rcases Nat.lt_trichotomy c' (c + q) with z | z | z
          · exfalso
            refine hno (c' - c) i0 (by omega) (by rw [way_from, Nat.add_sub_of_le a1]; exact a3) ?_
            exact (hashAt i0 p0 h0).trans (by rw [hk0, hH])
          · exfalso
            rw [z] at a3
            have s0 := slot_live R.tab.ris a3
            rw [hsl] at s0
            injection s0 with s0
            rw [← s0, hp] at h0
            exact hkk ((congrArg Prod.fst (Option.some.inj h0)).trans hk0)
          · omega
      by_cases hl : t.led = true
      · refine wp_if_neg (by simp [hl]) ?_
        try refine wpAny_bind (wpAny_pure ?_)
        exact rest
      · refine wp_if_pos (by simp [hl]) ?_
        refine wpAny_bind (seen_key hx (fun y hy => ?_) ?_)
        · obtain ⟨e, he, ee⟩ := List.mem_map.mp hy
          have he2 : e ∈ es.toList := by
            have he1 : e ∈ es ∧ e.1 = hv := by simpa using he
            simpa using he1.1
          rw [R.rows] at he2
          obtain ⟨p2, hp2, e2⟩ := List.mem_map.mp he2
          exact ⟨p2.1, p2.2, by rw [← ee, ← e2], R.key p2 hp2⟩
        · refine wp_if_neg (by decide) ?_
          try refine wpAny_bind (wpAny_pure ?_)
          exact rest
    · -- none
      have hpr' : t.probe (fun i => (es[i]?.map (·.1)).getD 0) hv (stand.getD (t.probeStart hv)) = some (.empty (way t.mask hv K) none) := by
        have e2 : way t.mask hv K = (nth t.mask (nth t.mask (st0 t.mask hv) c) (K - c)).j := by rw [way_from, Nat.add_sub_of_le hc]
        rw [hst, e2]
        exact hpr
      rw [hpr']
      dsimp only
      refine wpAny_pure (hout fun hm => ?_)
      obtain ⟨p0, h0, hk0⟩ := List.mem_map.mp hm
      obtain ⟨i0, hi0, e0⟩ := List.getElem_of_mem h0
      have h00 : L[i0]? = some p0 := by rw [List.getElem?_eq_getElem hi0, e0]
      obtain ⟨c', a1, a2, a3⟩ := hre i0 p0 h00 hk0
      refine hno (c' - c) i0 (by omega) (by rw [way_from, Nat.add_sub_of_le a1]; exact a3) ?_
      exact (hashAt i0 p0 h00).trans (by rw [hk0, hH])
theorem searchN (R : SetX P w s.heap a L es ep t) {x : Addr} {k : NestedKey} {adding : Bool} (hx : KAt P w s.heap k x) (hu : A.units + 8 < cLine) {Q : SetFound → Shared → Prop} (hin : ∀ r, k ∈ L.map (·.1) → Q (.there r) s)
    (hout : ∀ K, k ∉ L.map (·.1) → way t.mask (k.hash w) K ∉ t.place.toList → (∀ c, c < K → way t.mask (k.hash w) c ∈ t.place.toList) → Q (.free (way t.mask (k.hash w) K) false) s) : wpAny (model P w) A (setSearch a (.ref x) (k.hash w) adding) Q E s := by
  have hroom := R.room
  obtain ⟨K, hKf, hK, hKb⟩ := R.tab.first (by rw [hashN_len]; omega) (k.hash w)
  have hbig : K < 100000 := by
    have : 10 * SetTable.turns t.mask ≤ 1420 := by
      unfold SetTable.turns
      rcases R.tab.mok with e | e | e <;> omega
    omega
  unfold setSearch
  refine searchN_from R hx hu hKf hK hKb hin (fun hn => hout K hn hK hKb) 100000 0 none rfl (Nat.zero_le _) (by omega) fun i p hp hk => ?_
  have hi : (hashN w L)[i]? = some (k.hash w) := by rw [hashN, List.getElem?_map, hp, ← hk]; rfl
  have hil : i < t.place.toList.length := by
    rw [Array.length_toList, R.place]
    exact (List.getElem?_eq_some_iff.mp hp).1
  have hj := List.getElem?_eq_getElem hil
  obtain ⟨c, hc, e⟩ := R.tab.before hK hi hj
  exact ⟨c, Nat.zero_le _, hc, by rw [hj, e]⟩

/-! ### one more -/
theorem keyAt_same {h h' : Heap} {k : NestedKey} {a b : Addr} {o : Obj} {es : Array (Int × Value)} {ep : Nat} {t : SetTable} (hb : KAt P w h k b) (ho : h.get? a = some o) (hd : o.data = .set es ep t) (hs : Heap.SameBut a h h') : KAt P w h' k b :=
  ⟨NestedIs.at (fun c u vs n hc hu => (hs.2 c fun e => by
    subst e
    rw [ho] at hc
    cases hc
    rw [hd] at hu
    cases hu).trans hc) k _ hb.1, hb.2⟩
theorem keyAt_keep {h h' : Heap} {k : NestedKey} {b : Addr} (x : KAt P w h k b) (hk : ∀ c o, h.get? c = some o → h'.get? c = some o) : KAt P w h' k b := ⟨NestedIs.at (fun c u vs n hc _ => hk c u hc) k _ x.1, x.2⟩
theorem rows_order (L : KL) (es : Array (Int × Value)) (order : Array Nat) (hr : es.toList = rowsN w L) (hp : order.toList.Perm (List.range L.length)) :
    ∃ L2, (order.filterMap (es[·]?)).toList = rowsN w L2 ∧ L2.Perm L ∧ hashN w L2 = order.toList.map fun i => (es.map (·.1)).getD i 0 := by
  have ent : ∀ i (h : i < L.length), es[i]? = some ((L[i]).1.hash w, Value.ref (L[i]).2) := fun i h => rowsN_at hr (List.getElem?_eq_getElem h)
  refine ⟨order.toList.filterMap (fun i => L[i]?), ?_, ?_, ?_⟩
  · have key : ∀ l : List Nat, (∀ i ∈ l, i < L.length) → l.filterMap (fun i => es[i]?) = rowsN w (l.filterMap fun i => L[i]?) := by
      intro l hl
      induction l with
      | nil => rfl
      | cons i l ih =>
        have hi := hl i List.mem_cons_self
        rw [List.filterMap_cons_some (ent i hi), List.filterMap_cons_some (List.getElem?_eq_getElem hi), ih fun j hj => hl j (List.mem_cons_of_mem _ hj)]
        rfl
    have := key order.toList fun i hi => List.mem_range.mp (hp.mem_iff.mp hi)
    first
      | (rw [Array.toList_filterMap]; exact this)
      | simpa using this
  · have h1 : (order.toList.filterMap (fun i => L[i]?)).Perm ((List.range L.length).filterMap fun i => L[i]?) := hp.filterMap _
    have h2 : ∀ M : KL, (List.range M.length).filterMap (fun i => M[i]?) = M := by
      intro M
      have part : ∀ n, n ≤ M.length → (List.range n).filterMap (fun i => M[i]?) = M.take n := by
        intro n
        induction n with
        | zero => intro _; rfl
        | succ n ih =>
          intro hn
          have hlt : n < M.length := hn
          have one : [n].filterMap (fun i => M[i]?) = [M[n]] := by rw [List.filterMap_cons_some (List.getElem?_eq_getElem hlt)]; rfl
          rw [List.range_succ, List.filterMap_append, ih (by omega), one, List.take_succ, List.getElem?_eq_getElem hlt]
          rfl
      rw [part M.length (Nat.le_refl _), List.take_length]
    rw [h2] at h1
    exact h1
  · have key : ∀ l : List Nat, (∀ i ∈ l, i < L.length) → hashN w (l.filterMap fun i => L[i]?) = l.map fun i => (es.map (·.1)).getD i 0 := by
      intro l hl
      induction l with
      | nil => rfl
      | cons i l ih =>
        have hi := hl i List.mem_cons_self
        have e5 : (es.map (·.1))[i]? = some ((L[i]).1.hash w) := by rw [Array.getElem?_map, ent i hi]; rfl
        rw [List.filterMap_cons_some (List.getElem?_eq_getElem hi), List.map_cons, ← ih fun j hj => hl j (List.mem_cons_of_mem _ hj), Array.getD_eq_getD_getElem?, e5]
        rfl
    exact key order.toList fun i hi => List.mem_range.mp (hp.mem_iff.mp hi)
/-- the table laid anew, larger -/
theorem relayN {a : Addr} {L : KL} {es : Array (Int × Value)} {ep : Nat} {t : SetTable} {o : Obj} (ho : s.heap.get? a = some o) (hex : o.ExactSet) (hd : o.data = .set es ep t) (hrows : es.toList = rowsN w L) (hsz : t.place.size = es.size) (hdm : t.dummies = #[]) (hfl : es.size ≤ t.mask)
    (key : ∀ p ∈ L, KAt P w s.heap p.1 p.2) (ld : w.params.followText "set-order" = true ∨ t.led = true) (few : L.length < 64) {wanted M : Nat} (hw : SetTable.sizeAbove wanted - 1 = M) (hM : MaskOk M) (hw2 : SetTable.sizeAbove wanted ≤ 128)
    (hn : L.length * 5 < M * 3) {Q : Unit → Shared → Prop} (hQ : ∀ h' L' es' ep' t', Heap.SameBut a s.heap h' → SetX P w h' a L' es' ep' t' → L'.Perm L → Q () { s with heap := h' }) : wpAny (model P w) A (setRelay a wanted) Q E s := by
  have hsl := rowsN_size hrows
  have hfits : t.fits es.size = true := by
    unfold SetTable.fits SetTable.fill
    rw [hdm, Bool.and_eq_true, beq_iff_eq, decide_eq_true_eq, hsz]
    exact ⟨rfl, by show es.size + 0 ≤ t.mask; omega⟩
  obtain ⟨t', order, e, hp, T, em, el, ep', ed⟩ := relaid_ok t (hs := es.map (·.1)) (wanted := wanted) hw hM (by rw [Array.size_map, hsl]; omega)
  rw [Array.size_map, hsl] at hp
  obtain ⟨L2, r1, r2, r3⟩ := rows_order L es order hrows hp
  rw [← r3] at T
  have hs2 : (order.filterMap (es[·]?)).size = es.size := by rw [rowsN_size r1, r2.length_eq, hsl]
  rw [setRelay_eq]
  refine wpAny_bind (wpAny_setState_of ho hd hfits ?_)
  dsimp only
  refine wp_if_neg (by rw [sizeLine_eq]; omega) ?_
  try refine wpAny_bind (wpAny_pure ?_)
  rw [e]
  dsimp only
  refine wpAny_bind ?_
  refine wp_if_neg (by rw [hs2]; simp) ?_
  try refine wpAny_bind (wpAny_pure ?_)
  refine wpAny_pure ?_
  dsimp only
  refine wpAny_storeSet_of ho hd ?_ (by rw [hs2, hsl, sizeLine_eq]; omega)
  have sb : Heap.SameBut a s.heap (s.heap.update a (Obj.putSet (order.filterMap (es[·]?)) t')) := Heap.SameBut.update ..
  refine hQ _ L2 _ (ep + 1) t' sb ⟨⟨_, store_at ho hd, ⟨hex.1, hex.2.1, hex.2.2⟩, rfl⟩, r1, T, fun p hpm => keyAt_same (key p (r2.mem_iff.mp hpm)) ho hd sb, by rw [el]; exact ld, ?_, by rw [r2.length_eq]; exact few⟩ r2
  rw [r2.length_eq, em]
  exact hn
theorem insert_perm {α : Type} (L : List α) (p : Nat) (x : α) : (L.take p ++ x :: L.drop p).Perm (x :: L) := by
  have h : (L.take p ++ x :: L.drop p).Perm (x :: (L.take p ++ L.drop p)) := List.perm_middle
  rwa [List.take_append_drop] at h
/-- a table whose hashes' kind is another -/
theorem tab_plain {t : SetTable} {hs : List Int} (T : TabOk t hs) : TabOk { t with plain := false } hs := ⟨T.ris, T.dm, T.sz, T.mok, T.bd, T.reach⟩
/-- ADDING -/
theorem addN {a : Addr} {L : KL} {es : Array (Int × Value)} {ep : Nat} {t : SetTable} (R : SetX P w s.heap a L es ep t) {x : Addr} {k : NestedKey} (hx : KAt P w s.heap k x) (hu : A.units + 8 < cLine) (hfew : L.length + 1 < 64) {Q : Bool → Shared → Prop}
    (hQ : ∀ b h' L' es' ep' t', Heap.SameBut a s.heap h' → SetX P w h' a L' es' ep' t' → (k ∈ L.map (·.1) → L' = L) → (k ∉ L.map (·.1) → L'.Perm ((k, x) :: L)) → Q b { s with heap := h' }) : wpAny (model P w) A (setAddHashed a (.ref x) (k.hash w)) Q E s := by
  obtain ⟨o, ho, hex, hd⟩ := R.ob
  have hsl := rowsN_size R.rows
  have hroom := R.room
  unfold setAddHashed
  refine wpAny_holding ?_
  rw [show (100000 : Nat) = 99999 + 1 from rfl, setAddHashedIn_succ]
  refine wpAny_bind (wpAny_setState_of ho hd R.fits ?_)
  dsimp only
  refine wp_if_neg (by simp [byScan, Value.scannable]) ?_
  try refine wpAny_bind (wpAny_pure ?_)
  refine wpAny_bind (searchN R hx hu (fun r hm => ?_) fun K hm hK hb => ?_)
  · dsimp only
    exact wpAny_pure (hQ false s.heap L es ep t (Heap.SameBut.refl a s.heap) R (fun _ => rfl) fun z => absurd hm z)
  · dsimp only
    refine wpAny_bind (wpAny_setState_of ho hd R.fits ?_)
    dsimp only
    obtain ⟨q1, q2, q3, q4, q5, q6, q7, q8, q9⟩ := R.tab.put hK hb
    generalize hpt : t.put (way t.mask (k.hash w) K) = pt at q1 q3 q4 q5 q6 q7 q8 q9 ⊢
    obtain ⟨t1, p⟩ := pt
    dsimp only at q1 q3 q4 q5 q6 q7 q8 q9 ⊢
    subst q1
    -- the table behind it, whichever kind its hashes are of
    have go : ∀ t2 : SetTable, t2.place = t1.place → t2.dummies = t1.dummies → t2.mask = t1.mask → t2.led = t1.led → wpAny (model P w) A (do
        storeSet a (SetTable.insertAt es (SetTable.below t.place (way t.mask (k.hash w) K)) (k.hash w, Value.ref x)) t2
        if !false && t2.tooFull then setRelay a (SetTable.grown (es.size + 1))
        return true) Q E s := by
      intro t2 e1 e2 e3 e4
      have T2 : TabOk t2 _ := ⟨by rw [e1]; exact q3.ris, by rw [e2]; exact q3.dm, by rw [e1]; exact q3.sz, by rw [e3]; exact q3.mok, by rw [e1, e3]; exact q3.bd, by rw [e1, e3]; exact q3.reach⟩
      have f2 : t2.fill = (hashN w L).length + 1 := by
        rw [← q9]
        unfold SetTable.fill
        rw [e1, e2]
      have hin : (SetTable.insertAt es (SetTable.below t.place (way t.mask (k.hash w) K)) (k.hash w, Value.ref x)).toList = rowsN w (L.take (SetTable.below t.place (way t.mask (k.hash w) K)) ++ (k, x) :: L.drop (SetTable.below t.place (way t.mask (k.hash w) K))) := by
        rw [SetTable.toList_insertAt, R.rows]
        unfold rowsN
        rw [List.map_append, List.map_cons, List.map_take, List.map_drop]
      generalize hpp : SetTable.below t.place (way t.mask (k.hash w) K) = p at q2 T2 hin ⊢
      have pm := insert_perm L p (k, x)
      have hhs : hashN w (L.take p ++ (k, x) :: L.drop p) = (hashN w L).take p ++ k.hash w :: (hashN w L).drop p := by
        unfold hashN
        rw [List.map_append, List.map_cons, List.map_take, List.map_drop]
      rw [← hhs] at T2
      generalize SetTable.insertAt es p (k.hash w, Value.ref x) = es1 at hin ⊢
      generalize L.take p ++ (k, x) :: L.drop p = L1 at pm T2 hin
      have hlen : L1.length = L.length + 1 := pm.length_eq
      have hes : es1.size = L.length + 1 := (rowsN_size hin).trans hlen
      refine wpAny_bind (wpAny_storeSet_of ho hd ?_ (by rw [hes, sizeLine_eq]; omega))
      have sb : Heap.SameBut a s.heap (s.heap.update a (Obj.putSet es1 t2)) := Heap.SameBut.update ..
      have ho1 := store_at (es' := es1) (t' := t2) ho hd
      generalize s.heap.update a (Obj.putSet es1 t2) = h1 at sb ho1 ⊢
      have key1 : ∀ p ∈ L1, KAt P w h1 p.1 p.2 := fun p hp => by
        rcases List.mem_cons.mp (pm.mem_iff.mp hp) with e | hp
        · rw [e]; exact keyAt_same hx ho hd sb
        · exact keyAt_same (R.key p hp) ho hd sb
      have ld1 : w.params.followText "set-order" = true ∨ t2.led = true := by rw [e4, q5]; exact R.led
      have m2 : t2.mask = t.mask := e3.trans q4
      rw [hashN_len] at f2
      by_cases hf : t2.tooFull = true
      · first
          | (refine wpAny_bind ?_; refine wp_if_pos (by simp [hf]) ?_)
          | (refine wp_if_pos (by simp [hf]) ?_; refine wpAny_bind ?_)
        have hfull : (L.length + 1) * 5 ≥ t2.mask * 3 := by
          have h := hf
          unfold SetTable.tooFull at h
          rwa [decide_eq_true_eq, f2] at h
        rw [hsl]
        have hsz1 : t2.place.size = es1.size := by rw [T2.sz, hashN_len, hlen, hes]
        have two : (t.mask = 7 ∧ L.length = 4) ∨ (t.mask = 31 ∧ L.length = 18) := by
          rcases R.tab.mok with e | e | e
          · rw [m2, e] at hfull; rw [e] at hroom; exact .inl ⟨e, by omega⟩
          · rw [m2, e] at hfull; rw [e] at hroom; exact .inr ⟨e, by omega⟩
          · exfalso; rw [m2, e] at hfull; omega
        have re : ∀ M, SetTable.sizeAbove (SetTable.grown (L.length + 1)) - 1 = M → MaskOk M → SetTable.sizeAbove (SetTable.grown (L.length + 1)) ≤ 128 → (L.length + 1) * 5 < M * 3 →
            wpAny (model P w) A (setRelay a (SetTable.grown (L.length + 1))) (fun _ s' => wpAny (model P w) A (pure true) Q E s') E { s with heap := h1 } := fun M z1 z2 z3 z4 => by
          refine relayN (s := { s with heap := h1 }) ho1 ⟨hex.1, hex.2.1, hex.2.2⟩ rfl hin hsz1 T2.dm (by rw [hes, m2]; rcases two with ⟨y1, y2⟩ | ⟨y1, y2⟩ <;> omega) key1 ld1 (by rw [hlen]; exact hfew) z1 z2 z3 (by rw [hlen]; exact z4) ?_
          intro h2 L2 es2 ep2 t2' sb2 R2 pm2
          exact wpAny_pure (hQ true h2 L2 es2 ep2 t2' (sb.trans sb2) R2 (fun z => absurd z hm) fun _ => pm2.trans pm)
        rcases two with ⟨_, y2⟩ | ⟨_, y2⟩
        · exact re 31 (by rw [y2, size_20]) (.inr (.inl rfl)) (by rw [y2, size_20]; decide) (by omega)
        · exact re 127 (by rw [y2, size_76]) (.inr (.inr rfl)) (by rw [y2, size_76]; decide) (by omega)
      · first
          | refine wp_if_neg (by simp [hf]) ?_
          | (refine wpAny_bind ?_; refine wp_if_neg (by simp [hf]) ?_; refine wpAny_pure ?_)
        refine wpAny_pure (hQ true h1 L1 es1 (ep + 1) t2 sb ⟨⟨_, ho1, ⟨hex.1, hex.2.1, hex.2.2⟩, rfl⟩, hin, T2, key1, ld1, ?_, by rw [hlen]; exact hfew⟩ (fun z => absurd z hm) fun _ => pm)
        have h := hf
        unfold SetTable.tooFull at h
        rw [decide_eq_true_eq, f2] at h
        rw [hlen]
        omega
    have fin : ∀ b : Bool, wpAny (model P w) A (do
        let t := if b then t1 else { t1 with plain := false }
        storeSet a (SetTable.insertAt es (SetTable.below t.place (way t.mask (k.hash w) K)) (k.hash w, Value.ref x)) t
        if !false && t.tooFull then setRelay a (SetTable.grown (es.size + 1))
        return true) Q E s → True := fun _ _ => trivial
    by_cases hpl : t1.plain = true
    · first
        | (refine wpAny_bind ?_; refine wp_if_pos hpl ?_; refine any_key k _ 8 _ hx.1 hx.2 _ _ _ fun b => ?_)
        | refine wp_if_pos hpl (wpAny_bind (any_key k _ 8 _ hx.1 hx.2 _ _ _ fun b => ?_))
      cases b with
      | true =>
        simp only [if_true]
        exact go t1 rfl rfl rfl rfl
      | false =>
        simp only [Bool.false_eq_true, if_false]
        exact go { t1 with plain := false } rfl rfl rfl rfl
    · first
        | (refine wpAny_bind ?_; refine wp_if_neg hpl ?_; refine wpAny_pure ?_)
        | refine wp_if_neg hpl (wpAny_bind (wpAny_pure ?_))
      simp only [if_true]
      exact go t1 rfl rfl rfl rfl
/-- as a tracked thing -/
theorem SetX.np {h : Heap} {a : Addr} {L : KL} {es : Array (Int × Value)} {ep : Nat} {t : SetTable} (R : SetX P w h a L es ep t) : SetNP w a (rowsN w L) h := by
  obtain ⟨o, h1, h2, h3⟩ := R.ob
  have e : (rowsN w L).map (·.1) = hashN w L := by unfold rowsN hashN; rw [List.map_map]; rfl
  have el : (rowsN w L).length = L.length := List.length_map _
  exact ⟨o, es, ep, t, h1, h2, h3, R.rows, by rw [e]; exact R.tab, R.led, by rw [el]; exact R.room, by rw [el]; exact R.few⟩
theorem setX_of {h : Heap} {a : Addr} {L : KL} (R : SetNP w a (rowsN w L) h) (key : ∀ p ∈ L, KAt P w h p.1 p.2) : ∃ es ep t, SetX P w h a L es ep t := by
  obtain ⟨o, es, ep, t, h1, h2, h3, h4, h5, h6, h7, h8⟩ := R
  have e : (rowsN w L).map (·.1) = hashN w L := by unfold rowsN hashN; rw [List.map_map]; rfl
  have el : (rowsN w L).length = L.length := List.length_map _
  rw [e] at h5
  rw [el] at h7 h8
  exact ⟨es, ep, t, ⟨o, h1, h2, h3⟩, h4, h5, key, h6, h7, h8⟩
theorem setNP_at {h h' : Heap} {a : Addr} {rows : List (Int × Value)} (R : SetNP w a rows h) (k : ∀ o, h.get? a = some o → h'.get? a = some o) : SetNP w a rows h' := by
  obtain ⟨o, es, ep, t, h1, h2⟩ := R
  exact ⟨o, es, ep, t, k o h1, h2⟩
theorem setN_new {H : Hp} {h : Heap} {a : Addr} {rows : List (Int × Value)} (R : SetNP w a rows h) : ObjOk P w H h a (SetN w a rows) := by
  obtain ⟨o, es, ep, t, h1, h2⟩ := id R
  exact ⟨R, ⟨o, h1⟩, fun g1 g2 p k => setNP_at p k⟩
theorem setNP_fresh {h : Heap} {a : Addr} (ho : h.get? a = some { cls := .type "set", dict := none, data := .set #[] 0 (.fresh 0 0 (!w.params.followText "set-order")) }) : SetNP w a [] h := by
  refine ⟨_, #[], 0, _, ho, ⟨rfl, rfl, rfl⟩, rfl, rfl, ⟨List.Pairwise.nil, rfl, rfl, .inl rfl, fun x hx => (by cases hx), fun i h j hi => (by simp at hi)⟩, ?_, ?_, by decide⟩
  · show _ ∨ (!w.params.followText "set-order") = true
    cases w.params.followText "set-order"
    · exact .inr rfl
    · exact .inl rfl
  · show 0 * 5 < 7 * 3
    decide
end
end TP

end
set_option Elab.async false
set_option linter.all false
set_option maxRecDepth 100000
/-! The values layer: set(xs), set.add, sorted(set). -/
noncomputable section
namespace TP
variable [IOs]
open PySem PySem.Spec L2

section
variable {P : Program} {w : World} {A : Around} {E : Value → Shared → Prop} {s : Shared}
/-- what is known of the set at S when i items are in, and that one more can be put in -/
structure Grows (P : Program) (w : World) (U : Nat) (h0 : Heap) (S : Addr) (items : Array Value) (J : Nat → Heap → Prop) : Prop where
  at_ : ∀ i h h', J i h → (∀ o, h.get? S = some o → h'.get? S = some o) → J i h'
  step : ∀ (A : Around) (E : Value → Shared → Prop) (s : Shared) (i : Nat) (v : Value) (Q : Bool → Shared → Prop), A.units ≤ U → J i s.heap → items[i]? = some v → (∀ b o, h0.get? b = some o → s.heap.get? b = some o) →
    (∀ b h' tk, Heap.SameBut S s.heap h' → J (i + 1) h' → s.toks ≤ tk → Q b { s with heap := h', toks := tk }) → wpAny (model P w) A (setAdd S v) Q E s
/-- set.update's loop -/
theorem update_grows {I : Addr} {fp wr : List Addr} {G : Array GenState → Array GenState → Prop} {n : Nat} {Pv : Nat → Value → Prop} {St : Nat → Shared → Prop} {R : Result → Shared → Prop} {U : Nat} {h0 : Heap} {S : Addr} {items : Array Value} {J : Nat → Heap → Prop}
    (W : WalksS P w A.in1 I fp wr G n Pv St) (g : Grows P w U h0 S items J) (hSf : S ∉ fp) (hval : ∀ i v, Pv i v → items[i]? = some v) (hS0 : h0.get? S = none) (hw0 : ∀ b ∈ wr, h0.get? b = none) (hu : A.in1.units ≤ U) :
    ∀ (k i : Nat) (s : Shared), n - i = k → i ≤ n → St i s → (∀ b o, h0.get? b = some o → s.heap.get? b = some o) → J i s.heap →
      (∀ s', Moved (S :: wr) G s s' → J n s'.heap → (∀ b o, h0.get? b = some o → s'.heap.get? b = some o) → R (.ok (.ret .none)) s') → codeAny (model P w) A (.builtin "set.update.loop" ⟨[.ref S, .ref I], []⟩) R s := by
  have hSw : S ∉ wr := fun h => hSf (W.sub _ h)
  have inS : ∀ b ∈ wr, b ∈ S :: wr := fun b hb => List.mem_cons_of_mem _ hb
  have keeps : ∀ {s s' : Shared}, Moved wr G s s' → (∀ b o, h0.get? b = some o → s.heap.get? b = some o) → ∀ b o, h0.get? b = some o → s'.heap.get? b = some o := fun hm hk b o e =>
    hm.heap b o (fun hb => by rw [hw0 b hb] at e; cases e) (hk b o e)
  intro k
  induction k with
  | zero =>
    intro i s hk hi hst hkp hJ hR
    obtain rfl : i = n := by omega
    refine codeAny_builtin PyProof.Rows.F.entry_set_update_loop ?_
    rw [Around.under_plainId PyProof.Rows.F.plain_set_update_loop _]
    show wpAny _ A.in1 (pyNext (.ref I) >>= _) _ _ s
    refine wpAny_bind (W.done s _ _ hst fun s' hm => ?_)
    show wpAny _ A.in1 (ret Value.none) _ _ s'
    exact wpAny_pure (hR s' (hm.mono inS) (g.at_ _ _ _ hJ fun o e => hm.heap S o hSw e) (keeps hm hkp))
  | succ k ih =>
    intro i s hk hi hst hkp hJ hR
    have hlt : i < n := by omega
    refine codeAny_builtin PyProof.Rows.F.entry_set_update_loop ?_
    rw [Around.under_plainId PyProof.Rows.F.plain_set_update_loop _]
    show wpAny _ A.in1 (pyNext (.ref I) >>= _) _ _ s
    refine wpAny_bind (W.item i s _ _ hlt hst fun v s' hP hst' hm => ?_)
    have hkp' := keeps hm hkp
    have hJ' := g.at_ _ _ _ hJ fun o e => hm.heap S o hSw e
    show wpAny _ A.in1 (holding [v] (setAdd S v) >>= _) _ _ s'
    refine wpAny_bind (wpAny_holding (g.step _ _ s' i v _ hu hJ' (hval i v hP) hkp' fun b h' tk sb hJ2 ht => ?_))
    have hkp2 : ∀ b o, h0.get? b = some o → h'.get? b = some o := fun b o e => (sb.2 b (fun z => by rw [z, hS0] at e; cases e)).trans (hkp' b o e)
    refine wpAny_pure ⟨plainId_quiet PyProof.Rows.F.plain_set_update_loop _, ih (i + 1) _ (by omega) hlt (W.frame _ s' _ _ hst' ht fun c hc o e => ?_) hkp2 hJ2 fun s2 hm2 hJ3 hkp3 => ?_⟩
    · rw [sb.2 c (fun h : c = S => hSf (h ▸ hc))]; exact e
    · refine hR s2 (Moved.trans W.gtrans ((hm.mono inS).then_heap ht fun c o hc e => ?_) hm2) hJ3 hkp3
      rw [sb.2 c (fun h : c = S => hc (by rw [h]; exact List.mem_cons_self))]; exact e
/-- the object of a new set -/
abbrev setObj0 (w : World) : Obj := { cls := .type "set", dict := none, data := .set #[] 0 (.fresh 0 0 (!w.params.followText "set-order")) }
set_option maxHeartbeats 3200000 in
/-- set(xs), xs a list -/
theorem set_grows {l : Addr} {items : Array Value} {J : Nat → Heap → Prop} {Q : Value → Shared → Prop} (hh : A.handled = none) (hl : s.heap.IsList l items) (g : Grows P w (A.units + 3) s.heap s.heap.objs.size items J)
    (hJ : ∀ h, h.get? s.heap.objs.size = some (setObj0 w) → J 0 h) (h : ∀ (h' : Heap) (tk : Nat), J items.size h' → (∀ b o, s.heap.get? b = some o → h'.get? b = some o) → Q (.ref s.heap.objs.size) { s with heap := h', toks := tk }) :
    wpAny (model P w) A (call (.type "set") [.ref l]) Q E s := by
  obtain ⟨c, tl, hmro⟩ := F.called_set.mro
  have hmade := F.called_set.made
  have hsub := F.called_set.sub
  refine wpAny_call (codeAny_of_tree ?_)
  show wpAny _ _ (callAny (.type "set") _) _ _ _
  refine wpAny_pure ⟨Code.quiet_builtin _ (by decide +kernel), codeAny_builtin F.entry_type_call ?_⟩
  rw [Around.under_plain (weight_type_call_type "set" [.ref l] []) rfl]
  have n1 := F.called_set.notType
  have n2 := F.called_set.canCreate
  have hct := F.typeCall_set_1 (.ref l)
  repeat (any_goals (first | assumption | wp_step))
  refine codeAny_mono (code_set_led1 (.ref l) (E := E) (Q₁ := fun obj s₁ => obj = .ref s.heap.objs.size ∧ s₁ = { s with heap := s.heap.push (setObj0 w) }) ⟨rfl, rfl⟩) fun r s₁ hr => ?_
  cases r with
  | error e => exact hr
  | ok fl =>
    cases fl with
    | ret obj =>
      obtain ⟨rfl, rfl⟩ := hr
      have hS : (s.heap.push (setObj0 w)).get? s.heap.objs.size = some (setObj0 w) := Heap.get?_push_size _ rfl
      have hT : Shared.TypeIs { s with heap := s.heap.push (setObj0 w) } (.ref s.heap.objs.size) "set" := ⟨_, hS, rfl⟩
      have hli := F.called_set.init.lookup
      have hbi := F.called_set.init.bind (.ref s.heap.objs.size)
      repeat (any_goals (first | assumption | wp_step))
      refine codeAny_mono (codeAny_call_builtin (R := wants (fun r s₂ => r = .none ∧ ∃ h' tk, s₂ = { s with heap := h', toks := tk } ∧ J items.size h' ∧ (∀ b o, s.heap.get? b = some o → h'.get? b = some o)) E)
        F.called_set.init.plain F.entry_set_init (check_set_init_1 hT ?_)) fun r₂ s₂ hr₂ => ?_
      · obtain ⟨ol, hol, hcl, nl, hdl⟩ := hl
        obtain ⟨ocls, odict, odata, oslots⟩ := ol
        simp only at hcl hdl
        subst hcl; subst hdl
        have hol' : (s.heap.push (setObj0 w)).get? l = some { cls := .type "list", dict := odict, data := .seq items nl, slots := oslots } := Heap.get?_push_of_some _ hol
        have hsls := F.sub_list_set
        have hslf := F.sub_list_frozenset
        have hne : (Value.type "list" == Value.type "dict") = false := by decide
        have hl1 : (s.heap.push (setObj0 w)).IsList l items := ⟨_, hol', rfl, nl, rfl⟩
        unfold Builtin.«set.__init__» noKeywords Builtin.Frozenset.updateFrom
        generalize hPI : pyIter = PI
        wp_walk
        subst hPI
        refine wpAny_pyIter_list hl1 ?_
        refine wpAny_bind (wpAny_runValue ?_)
        have hlS : l < s.heap.objs.size := Heap.lt_size hol
        have hh3 : A.in1.in1.in1.handled = none := by simp [hh]
        have hneI : l ≠ (s.heap.push (setObj0 w)).objs.size := by
          rw [Heap.size_push]; exact Nat.ne_of_lt (Nat.lt_succ_of_lt hlS)
        have hSf : s.heap.objs.size ∉ [(s.heap.push (setObj0 w)).objs.size, l] := by
          rw [Heap.size_push]; simp only [List.mem_cons, List.mem_singleton, List.not_mem_nil, or_false, not_or]
          exact ⟨Nat.ne_of_lt (Nat.lt_succ_self _), Nat.ne_of_gt hlS⟩
        have none_of : ∀ b, s.heap.objs.size ≤ b → s.heap.get? b = none := fun b hb => by
          cases q : s.heap.get? b with
          | none => rfl
          | some o => exact absurd (Nat.lt_of_lt_of_le (Heap.lt_size q) hb) (Nat.lt_irrefl _)
        refine update_grows (W := (Walks.list hh3 _ l hneI items).toS) g hSf (fun i v hv => hv) (none_of _ (Nat.le_refl _)) (fun b hb => none_of b (by
            rw [List.mem_singleton.mp hb, Heap.size_push]
            exact Nat.le_succ _)) (by simp) (items.size - 0) 0 _ (by omega) (Nat.zero_le _)
          ⟨⟨_, Heap.get?_push_size _ rfl, rfl, rfl⟩, (hl1.push _)⟩ (fun b o e => Heap.get?_push_of_some _ (Heap.get?_push_of_some _ e)) (hJ _ (Heap.get?_push_of_some _ hS)) ?hR
        case hR =>
          intro s' hm hJ' hkp
          obtain ⟨h', g2, d', tk', os'⟩ := s'
          have eg : g2 = s.gens := hm.gens
          have ed : d' = s.drawn := hm.drawn
          have eo : os' = s.os := hm.os
          subst eg; subst ed; subst eo
          show wpAny _ _ _ _ _ _
          refine wpAny_pure ?_
          show wpAny _ _ (ret Value.none) _ _ _
          exact wpAny_pure ⟨rfl, h', tk', rfl, hJ', hkp⟩
      · cases r₂ with
        | error e => exact hr₂
        | ok fl₂ =>
          cases fl₂ with
          | ret r =>
            obtain ⟨rfl, h', tk, rfl, hJ', hk'⟩ := hr₂
            repeat (any_goals (first | assumption | wp_step))
            exact h _ _ hJ' hk'
          | _ => exact hr₂.elim
    | _ => exact hr.elim
end
end TP

end
set_option Elab.async false
set_option linter.all false
set_option maxRecDepth 100000
/-! The values layer: sets by values. -/
noncomputable section
namespace TP
variable [IOs]
open PySem PySem.Spec L2

/-! ### first of each -/
def insK (acc : List D) (d : D) : List D := if acc.any (fun x => dkeyEq x d) = true then acc else acc ++ [d]
def dedupK (ds : List D) : List D := ds.foldl insK []
theorem dedup_next (ds : List D) (d : D) : dedupK (ds ++ [d]) = insK (dedupK ds) d := by
  unfold dedupK
  rw [List.foldl_append]
  rfl
theorem insK_len (acc : List D) (d : D) : (insK acc d).length ≤ acc.length + 1 := by
  unfold insK
  split <;> simp
theorem dedup_len (ds : List D) : (dedupK ds).length ≤ ds.length := by
  have key : ∀ (l acc : List D), (l.foldl insK acc).length ≤ acc.length + l.length := by
    intro l
    induction l with
    | nil => intro acc; simp
    | cons d l ih =>
      intro acc
      have h1 := ih (insK acc d)
      have h2 := insK_len acc d
      rw [List.foldl_cons, List.length_cons]
      omega
  have h := key ds []
  unfold dedupK
  simpa using h

/-! ### keys with their data -/
inductive KD (c : KW) (F : Hp) : KL → List D → Prop
  | nil : KD c F [] []
  | cons {b : Addr} {d : D} {L : KL} {ds : List D} : Rep c F (.ref b) d → d.isKey = true → isTupD d = true → d.key.depth ≤ 8 → KD c F L ds → KD c F ((d.key, b) :: L) (d :: ds)
theorem KD.mono {c : KW} {F F' : Hp} (e : Same F F') : ∀ {L : KL} {ds : List D}, KD c F L ds → KD c F' L ds
  | _, _, .nil => .nil
  | _, _, .cons r a b d t => .cons (r.mono e) a b d (KD.mono e t)
theorem KD.rows {c : KW} {F : Hp} : ∀ {L : KL} {ds : List D}, KD c F L ds → Rows c F (rowsN c.w L) ds
  | _, _, .nil => .nil
  | _, _, .cons r a b d t => .cons (v := .ref _) rfl r a b d (KD.rows t)
theorem rows_KD {c : KW} {F : Hp} : ∀ {rows : List (Int × Value)} {ds : List D}, Rows c F rows ds → ∃ L, rows = rowsN c.w L ∧ KD c F L ds
  | _, _, .nil => ⟨[], rfl, .nil⟩
  | _, _, .cons rv r a b d t => by
    obtain ⟨L, h1, h2⟩ := rows_KD t
    obtain ⟨p, rfl⟩ := tupRef r b
    cases rv
    exact ⟨(_, p) :: L, by rw [h1]; rfl, .cons r a b d h2⟩
theorem KD.keys {X : Cx} {pins : List (Addr × Obj)} {σ : L2.St} {H F : Hp} {s : Shared} (I : Inv X pins σ H s) (sm : Same F H) : ∀ {L : KL} {ds : List D}, KD (cw X) F L ds → ∀ p ∈ L, KAt X.prog X.w s.heap p.1 p.2
  | _, _, .nil, p, hp => by cases hp
  | _, _, .cons r a b d t, p, hp => by
    rcases List.mem_cons.mp hp with rfl | hp
    · exact ⟨(r.mono sm).nested I rfl a, d⟩
    · exact KD.keys I sm t p hp
theorem KD.perm {c : KW} {F : Hp} {L' L : KL} (p : L'.Perm L) : ∀ {ds : List D}, KD c F L ds → ∃ ds', KD c F L' ds' ∧ ds'.Perm ds := by
  induction p with
  | nil => intro ds h; exact ⟨ds, h, List.Perm.refl _⟩
  | cons x _ ih =>
    intro ds h
    cases h with
    | cons r a b d t =>
      obtain ⟨ds', h1, h2⟩ := ih t
      exact ⟨_ :: ds', .cons r a b d h1, h2.cons _⟩
  | swap x y l =>
    intro ds h
    cases h with
    | cons r a b d t => cases t with
      | cons r2 a2 b2 d2 t2 => exact ⟨_, .cons r2 a2 b2 d2 (.cons r a b d t2), List.Perm.swap _ _ _⟩
  | trans _ _ ih1 ih2 =>
    intro ds h
    obtain ⟨d1, h1, h2⟩ := ih2 h
    obtain ⟨d2, h3, h4⟩ := ih1 h1
    exact ⟨d2, h3, h4.trans h2⟩
theorem KD.mem {c : KW} {F : Hp} {d : D} : ∀ {L : KL} {ds : List D}, KD c F L ds → (d.key ∈ L.map (·.1) ↔ (ds.any fun x => dkeyEq x d) = true)
  | _, _, .nil => by simp
  | _, _, .cons (d := d') r a b q t => by
    have ih := KD.mem (d := d) t
    rw [List.map_cons, List.mem_cons, ih, List.any_cons, Bool.or_eq_true]
    have e : dkeyEq d' d = true ↔ d'.key = d.key := by
      unfold dkeyEq
      rw [← NestedKey.decide_eq, decide_eq_true_eq]
    rw [e, eq_comm]
theorem any_perm {α : Type} {l m : List α} (p : l.Perm m) (f : α → Bool) : l.any f = m.any f := by
  rw [Bool.eq_iff_iff, List.any_eq_true, List.any_eq_true]
  exact ⟨fun ⟨x, h, e⟩ => ⟨x, p.mem_iff.mp h, e⟩, fun ⟨x, h, e⟩ => ⟨x, p.mem_iff.mpr h, e⟩⟩
/-- the set at a is of these -/
def IsSetN (c : KW) (F : Hp) (a : Addr) (h : Heap) (ds : List D) : Prop := ∃ L es, SetNP c.w a (rowsN c.w L) h ∧ KD c F L es ∧ es.Perm ds

theorem vals_get' : ∀ {vs : List V} {us : List Value} {i : Nat} {u : Value}, Vals vs us → us[i]? = some u → ∃ v, vs[i]? = some v ∧ RelV v u
  | _, _, _, _, .nil, h => by simp at h
  | _, _, 0, u, .cons r t, h => by
    simp at h
    subst h
    exact ⟨_, rfl, r⟩
  | _, _, i + 1, u, .cons r t, h => by
    obtain ⟨v, h1, h2⟩ := vals_get' (i := i) t (by simpa using h)
    exact ⟨v, by simpa using h1, h2⟩
/-! ### one more, by values -/
section
variable {X : Cx} {pins : List (Addr × Obj)} {σ : L2.St} {H F : Hp} {s : Shared} {A : Around} {E : Value → Shared → Prop}
/-- setAdd of a tuple: from the heap h0 of an earlier state, kept -/
theorem setAdd_keys {h0 : Heap} {S b : Addr} {ds : List D} {d : D} {Q : Bool → Shared → Prop} (hkey : ∀ L es, KD (cw X) F L es → ∀ p ∈ L, KAt X.prog X.w s.heap p.1 p.2) (hd : Rep (cw X) F (.ref b) d) (k1 : d.isKey = true) (k2 : isTupD d = true) (k3 : d.key.depth ≤ 8) (hu : A.units + 20 < cLine)
    (hs : IsSetN (cw X) F S s.heap ds) (hf : ds.length + 1 < 64) (h : ∀ b h' tk, Heap.SameBut S s.heap h' → IsSetN (cw X) F S h' (insK ds d) → s.toks ≤ tk → Q b { s with heap := h', toks := tk }) : wpAny (model X.prog X.w) A (setAdd S (.ref b)) Q E s := by
  obtain ⟨L, es, np, kd, pm⟩ := hs
  have hb : KAt X.prog X.w s.heap d.key b := hkey _ _ (.cons hd k1 k2 k3 .nil) _ List.mem_cons_self
  obtain ⟨es0, ep, t, R⟩ := setX_of np (hkey L es kd)
  have hlen : L.length = ds.length := by
    rw [← pm.length_eq]
    clear np R pm hb hkey hd
    induction kd with
    | nil => rfl
    | cons _ _ _ _ _ ih => rw [List.length_cons, List.length_cons, ih]
  unfold setAdd
  refine wpAny_holding ?_
  refine wpAny_bind ((nestedKind X.prog X.w).pyHash (by show A.units + 8 < cLine; omega) hb ?_)
  refine addN (s := { s with toks := s.toks + d.key.draws }) R hb (by omega) (by omega) fun bb h' L' es' ep' t' sb R' c1 c2 => h bb h' _ sb ?_ (Nat.le_add_right _ _)
  have me := kd.mem (d := d)
  rw [any_perm pm] at me
  unfold insK
  by_cases hm : d.key ∈ L.map (·.1)
  · rw [if_pos (me.mp hm)]
    have e := c1 hm
    subst e
    exact ⟨_, es, R'.np, kd, pm⟩
  · rw [if_neg (fun z => hm (me.mpr z))]
    obtain ⟨ds', h1, h2⟩ := KD.perm (c2 hm) (.cons hd k1 k2 k3 kd)
    exact ⟨L', ds', R'.np, h1, h2.trans ((pm.cons d).trans (List.perm_append_singleton d ds).symm)⟩
theorem KD.keysK (I : Inv X pins σ H s) (sm : Same F H) {h' : Heap} (k : ∀ b o, s.heap.get? b = some o → h'.get? b = some o) : ∀ L es, KD (cw X) F L es → ∀ p ∈ L, KAt X.prog X.w h' p.1 p.2 := fun L es kd p hp => keyAt_keep (kd.keys I sm p hp) k

/-! ### set(xs) -/
/-- tuples that are keys, few -/
def tupSet (ds : List D) : Bool := ds.all tupKey && decide (ds.length < 63)
def setD : List D → Out D
  | [.lst ds] => if tupSet ds = true then .ok (.set (dedupK ds)) else .fail
  | _ => .fail
theorem tupKey_all {ds : List D} (h : tupSet ds = true) : (∀ d ∈ ds, isTupD d = true ∧ d.isKey = true ∧ d.key.depth ≤ 8) ∧ ds.length < 63 := by
  have h := and2 h
  refine ⟨fun d hd => ?_, of_decide_eq_true h.2⟩
  have h1 := and3 (List.all_eq_true.mp h.1 d hd)
  exact ⟨h1.1, h1.2.1, of_decide_eq_true h1.2.2⟩
theorem grows_keys (I : Inv X pins σ H s) (sm : Same F H) {xs : List V} {its : List Value} {ds : List D} (hx : Reps (cw X) F xs ds) (rv : Vals xs its) (hk : tupSet ds = true) (S : Addr) {U : Nat} (hU : U + 20 < cLine) :
    Grows X.prog X.w U s.heap S its.toArray (fun i h => IsSetN (cw X) F S h (dedupK (ds.take i))) where
  at_ := fun i h h' ⟨L, es, np, kd, pm⟩ k => ⟨L, es, setNP_at np k, kd, pm⟩
  step := fun A E s' i v Q hu hJ hv hkp hQ => by
    obtain ⟨k1, k2⟩ := tupKey_all hk
    have hv' : its[i]? = some v := by simpa using hv
    obtain ⟨x, hx1, rx⟩ := vals_get' rv hv'
    obtain ⟨d, hd1, rd⟩ := hx.get' hx1
    have hm : d ∈ ds := List.mem_of_getElem? hd1
    obtain ⟨q1, q2, q3⟩ := k1 d hm
    obtain ⟨b, rfl⟩ := tupRef rd q1
    cases rx
    have hl := dedup_len (ds.take i)
    have hi : i < ds.length := (List.getElem?_eq_some_iff.mp hd1).1
    rw [List.length_take] at hl
    refine setAdd_keys (h0 := s.heap) (KD.keysK I sm hkp) rd q2 q1 q3 (by omega) hJ (by omega) fun bb h' tk sb hs ht => hQ bb h' tk sb ?_ ht
    rw [← dedup_next] at hs
    rwa [List.take_succ, hd1]
theorem call_setF (hc : X.calm = true) (hu : X.A.units + 65 < cLine) : CallF X (.type "set") setD := by
  rintro E pins s σ H xs us Q I rx ⟨F, ds, sm, rs, q⟩
  cases rs with
  | nil => exact q.elim
  | @cons v vs d ds r t =>
    cases t with
    | cons _ _ => cases d <;> exact q.elim
    | nil =>
      cases rx with
      | @cons _ u _ _ r1 r2 =>
      cases r2
      cases r with
      | @lst a xs ds h rd =>
        cases r1
        have q : AtF (cw X) X.mg E F H (if tupSet ds = true then .ok (.set (dedupK ds)) else .fail) Q := q
        by_cases hk : tupSet ds = true
        · rw [if_pos hk] at q
          obtain ⟨its, rv, p, hz⟩ := I.list (SqL.of (sm _ _ h))
          have hf := I.hok.fresh (Nat.le_refl s.heap.objs.size)
          refine set_grows (I.ok.hd hc) p.isList (grows_keys I sm rd rv hk s.heap.objs.size (U := X.A.units + 3) (by omega)) (fun h' e => ⟨[], [], setNP_fresh e, .nil, List.Perm.refl _⟩) fun h' tk hJ k => ?_
          have e : its.toArray.size = ds.length := by rw [List.size_toArray, ← rv.length, rd.length]
          rw [e, List.take_length] at hJ
          obtain ⟨L, es, np, kd, pm⟩ := hJ
          exact ⟨.ref s.heap.objs.size, upd H s.heap.objs.size (SetN X.w s.heap.objs.size (rowsN X.w L)), I.laid (t' := tk) k (Nat.le_refl _) (setN_new np), rfl, q (.ref _) [s.heap.objs.size] F _ (Grow.own sm hf) (.setN (sm.free hf) upd_same kd.rows pm) (by simp) (by simp) (fun p hp => by rw [List.mem_singleton.mp hp]; exact hf)⟩
        · rw [if_neg hk] at q; exact q.elim
      | _ => exact q.elim
/-! ### sorted(set) -/
theorem each_perm {R : Value → D → Prop} {us' us : List Value} (p : us'.Perm us) : ∀ {ds : List D}, PySem.W.EachIs R us ds → ∃ ds', PySem.W.EachIs R us' ds' ∧ ds'.Perm ds := by
  induction p with
  | nil => intro ds h; exact ⟨ds, h, List.Perm.refl _⟩
  | cons x _ ih =>
    intro ds h
    cases h with
    | cons r t =>
      obtain ⟨d1, h1, h2⟩ := ih t
      exact ⟨_ :: d1, .cons r h1, h2.cons _⟩
  | swap x y l =>
    intro ds h
    cases h with
    | cons r t => cases t with
      | cons r2 t2 => exact ⟨_, .cons r2 (.cons r t2), List.Perm.swap _ _ _⟩
  | trans _ _ ih1 ih2 =>
    intro ds h
    obtain ⟨d1, h1, h2⟩ := ih2 h
    obtain ⟨d2, h3, h4⟩ := ih1 h1
    exact ⟨d2, h3, h4.trans h2⟩
theorem all_perm {α : Type} {l m : List α} (p : l.Perm m) (f : α → Bool) : l.all f = m.all f := by
  rw [Bool.eq_iff_iff, List.all_eq_true, List.all_eq_true]
  exact ⟨fun h x hx => h x (p.mem_iff.mpr hx), fun h x hx => h x (p.mem_iff.mp hx)⟩
theorem sortable_perm {l m : List D} (p : l.Perm m) (h : sortable m = true) : sortable l = true := by
  unfold sortable allTup noTup at *
  rw [all_perm p, all_perm p (fun x => l.all fun y => D.alk x y), all_perm p, all_perm p (fun d => !isTupD d && !isNonB d), p.length_eq]
  have e : (fun x => l.all fun y => D.alk x y) = fun x => m.all fun y => D.alk x y := by
    funext x
    exact all_perm p _
  rw [e]
  exact h
theorem sorted_setN (hc : X.calm = true) (hu : X.A.units + 65 < cLine) : ∀ (pins : List (Addr × Obj)) (s : Shared) (σ : L2.St) (H F : Hp) (v : V) (u : Value) (ds : List D) (E : XK) (Q : VK), Inv X pins σ H s → Same F H → Rep (cw X) F v (.set ds) → RelV v u → sortable ds = true → AtF (cw X) X.mg E F H (.ok (.lst (ds.mergeSort leB))) Q →
    wpAny (model X.prog X.w) X.A (call (.builtin "sorted") [u]) (EP X pins σ Q) X.xe s := by
  intro pins s σ H F v u ds E Q I sm r ru hs q
  cases r with
  | @setN a rows es _ h rs pm =>
    cases ru
    obtain ⟨L, rfl, kd⟩ := rows_KD rs
    obtain ⟨es0, ep, t, R⟩ := setX_of (P := X.prog) (I.hok _ _ (sm _ _ h)).1 (kd.keys I sm)
    obtain ⟨o, ho, hex, hd⟩ := R.ob
    have hvals : PySem.W.EachIs (RelD X F) (es0.toList.map (·.2)) es := by
      rw [R.rows]
      clear R h pm hs hd rs q
      induction kd with
      | nil => exact .nil
      | cons r _ _ _ _ ih => exact .cons ⟨.ref _, rfl, r⟩ ih
    refine sorted_any (R := RelD X F) (fun Q' hq => collect_set (I.ok.hd hc) ⟨o, ho, hex.1, hd⟩ R.fits (by have h1 := rowsN_size R.rows; have h2 := R.few; rw [h1]; exact Nat.lt_trans h2 (by decide)) R.tab.ris R.led fun s1 out k1 z1 g1 o1 pm1 => ?_) hu
    obtain ⟨ds', e1, p1⟩ := each_perm pm1 hvals
    have pd := p1.trans pm
    have hs' := sortable_perm pd hs
    have h4 := and4 hs'
    have hz : ∀ d ∈ ds', d.ht ≤ 60 := fun d hd => of_decide_eq_true (List.all_eq_true.mp h4.1 d hd)
    have hal : ∀ x ∈ ds', ∀ y ∈ ds', D.alk x y = true := fun x hx y hy => List.all_eq_true.mp (List.all_eq_true.mp h4.2.1 x hx) y hy
    rw [← sort_perm pd hz hal] at q
    exact hq _ out ds' k1 z1 g1 o1 (relD_reads I sm hz e1 k1) e1 hs' (sorted_lay I sm q (fits_line h4.2.2.2))
theorem call_sortedX (hc : X.calm = true) (hu : X.A.units + 65 < cLine) : CallF X (.builtin "sorted") sortedD := call_sortedF hc hu (sorted_setN hc hu)
theorem call_setV (hc : X.calm = true) (hu : X.A.units + 65 < cLine) : CallV X (.type "set") setD := (call_setF hc hu).v
end
end TP

end
set_option Elab.async false
set_option linter.all false
set_option maxRecDepth 100000
/-! The values layer: set comprehensions. -/
noncomputable section
namespace TP
variable [IOs]
open PySem PySem.Spec PyProof.Rows L2 PpSet

section
variable {X : Cx}
/-- set.add of a tuple, on a set that is being filled -/
theorem addS_ok {pins : List (Addr × Obj)} {σ : L2.St} {H F : Hp} {s : Shared} {E : Value → Shared → Prop} {S b : Addr} {ds : List D} {d : D} {L : KL} {es : List D} {Q : Value → Shared → Prop} (I : Inv X pins σ H s) (sm : Same F H) (hu : X.A.units + 65 < cLine) (hd : Rep (cw X) F (.ref b) d) (hk : tupKey d = true)
    (hS : H S = some (SetN X.w S (rowsN X.w L))) (kd : KD (cw X) F L es) (pm : es.Perm ds) (hf : ds.length + 1 < 64)
    (h : ∀ L' es' s', KD (cw X) F L' es' → es'.Perm (insK ds d) → Inv X pins σ (upd H S (SetN X.w S (rowsN X.w L'))) s' → Q .none s') : wpAny (model X.prog X.w) X.A (call (.builtin "set.add") [.ref S, .ref b]) Q E s := by
  have hk := and3 hk
  have np : SetNP X.w S (rowsN X.w L) s.heap := (I.hok _ _ hS).1
  obtain ⟨o, es0, ep, t, ho, hex, _⟩ := id np
  have hT : s.TypeIs (.ref S) "set" := ⟨o, ho, hex.1⟩
  refine wpAny_call_entry PySem.F.slot_set_add hT PySem.F.entry_set_add ?_ (PySem.F.args_set_add_2 _ _)
  unfold Builtin.«set.add» Builtin.Frozenset.oneOther
  simp only [List.isEmpty_nil, bind_assoc]
  unfold Builtin.Frozenset.addrOf
  refine wpAny_bind (wpAny_pure ?_)
  try dsimp only
  refine wpAny_bind (wpAny_pure ?_)
  try dsimp only
  refine wpAny_bind (setAdd_keys (X := X) (h0 := s.heap) (KD.keysK I sm fun _ _ e => e) hd hk.2.1 hk.1 (of_decide_eq_true hk.2.2) (by show X.A.units + 1 + 20 < cLine; omega) ⟨L, es, np, kd, pm⟩ hf fun bb h' tk sb ⟨L', es', np', kd', pm'⟩ ht => ?_)
  show wpAny _ _ (ret Value.none) _ _ _
  obtain ⟨o', _, _, _, ho', _⟩ := id np'
  exact wpAny_pure ⟨_, rfl, h L' es' _ kd' pm' (I.write (x := S) (e := S) (t' := tk) (by rw [hS]; trivial) (.inl rfl) (fun c u hc hu => (sb.2 c hc).trans hu) ⟨o', ho'⟩ (setN_new np'))⟩
/-- what is asked ahead of a set.add -/
def addWish (X : Cx) (S : Addr) (Nx : Hp → Prop) : V → Hp → Prop := fun y H => ∃ (b : Addr) (F : Hp) (ds : List D) (d : D) (L : KL) (es : List D), y = .ref b ∧ Same F H ∧ Rep (cw X) F (.ref b) d ∧ tupKey d = true ∧ H S = some (SetN X.w S (rowsN X.w L)) ∧ KD (cw X) F L es ∧ es.Perm ds ∧ ds.length + 1 < 64 ∧
  ∀ L' es', KD (cw X) F L' es' → es'.Perm (insK ds d) → Nx (upd H S (SetN X.w S (rowsN X.w L')))
def tSN (X : Cx) (wi : TI) (g : TG) (tt : TT) (te : TE) (vs : List Nat) : TE := fun σ H Q => wi σ H fun J H1 => ∀ S, H1 S = none → ∃ W : Nat → Nat → Hp → Prop, (∃ m, W 0 m (upd H1 S (SetN X.w S []))) ∧ ∀ i m H, W i m H →
  (J.stop i H ∧ Q (.ref S) H) ∨ (J.go i H ∧ ∃ Nx : Hp → Prop, (∀ H', Nx H' → ∃ m', m' < m ∧ W (i + 1) m' H') ∧ ∀ x H', J.yld i H x H' → g x (wipe σ vs) H' fun σ2 H2 => wipe σ2 vs = wipe σ vs ∧ tt σ2 H2 fun b H3 => if b = true then te σ2 H3 fun y H4 => addWish X S Nx y H4 else Nx H3)
variable {elt tg iter : Expr} {ifs : List Expr} {scope : Scope} {own : List (PySem.Str × Nat)} {pos : Pos} {wi : TI} {g : TG} {tt : TT} {te : TE}
theorem sn_core {pins : List (Addr × Obj)} {s : Shared} {σ : L2.St} {H : Hp} {Q : VK} {pos' : Pos} {use : Option (Value → Sem Unit)} {Qf : Value → Shared → Prop} (hc : X.calm = true) (hu : X.A.units + 65 < cLine) (hN : X.N.Nodup) (I : Inv X pins σ H s) (hi : PI X tg iter wi) (ok : BlkOk X.N X.env.scope scope own)
    (hg : ∀ (s : Shared) (H : Hp) (C : Addr) (cl : List (PySem.Str × Addr)) (fp : List Addr), PG (X.blk s H scope (compEnvC scope cl C X.env) fp) tg g) (ht : ∀ (s : Shared) (H : Hp) (C : Addr) (cl : List (PySem.Str × Addr)) (fp : List Addr), PTs (X.blk s H scope (compEnvC scope cl C X.env) fp) ifs tt)
    (he : ∀ (s : Shared) (H : Hp) (C : Addr) (cl : List (PySem.Str × Addr)) (fp : List Addr), PE (X.blk s H scope (compEnvC scope cl C X.env) fp) elt te) (hs : ∀ x, foldedSetIterable iter X.env x = pure x) (h : tSN X wi g tt te (own.map (·.2)) σ H Q)
    (fin : ∀ S C s' m H', Inv X pins σ H' s' → Q (.ref S) H' → s'.heap.Ns C m → FpOk X pins H' C → compPost (model X.prog X.w) X.A X.xe use Qf (.ref S) C (.ok .next) s') :
    wpAny (model X.prog X.w) X.A (comprehension (.SetComp elt [⟨tg, iter, ifs, 0⟩] scope pos) scope X.env pos' (newSet (.type "set")) false (eval iter X.env) use) Qf X.xe s := by
  have frees : ∀ y ∈ scope.names, y.2 = .free → ∃ c, X.env.cells.lookup y.1 = some c := fun y hy e => (ok.free y hy e).elim (fun k => I.ok.has _ (.inl k)) fun k => I.ok.has _ (.inr k)
  refine wpAny_comprehension_free (use := use) rfl hs (closure_ok frees) ok.kind (fun y hy e => by rw [ok.uniq y hy, e]) (thn (hi.run pins s σ H _ I h) fun xv s1 hx => thn hx fun itv s2 h2 => ?_)
  obtain ⟨it, fp, tn, J, H2, e, I2, T, st2, f2, q⟩ := h2
  subst e
  refine newSet_ok (newEnv_comp ?_)
  generalize hSz : s2.heap.objs.size = S
  have nS : H2 S = none := I2.hok.fresh (Nat.le_of_eq hSz)
  obtain ⟨W, ⟨m0, w0⟩, turn⟩ := q S nS
  generalize hs3 : ({ s2 with heap := s2.heap.push { cls := .type "set", dict := none, data := .set #[] 0 (.fresh 0 0 (!X.w.params.followText "set-order")) } } : Shared) = s3
  have h3 : s3.heap = s2.heap.push { cls := .type "set", dict := none, data := .set #[] 0 (.fresh 0 0 (!X.w.params.followText "set-order")) } := by rw [← hs3]
  have I3 : Inv X pins σ (upd H2 S (SetN X.w S [])) s3 := by
    rw [← hs3]
    refine I2.laid (t' := s2.toks) (fun b o e => Heap.get?_push_of_some _ e) (Nat.le_of_eq hSz) (setN_new (setNP_fresh ?_))
    rw [← hSz]
    exact Heap.get?_push_size _ rfl
  have below : ∀ b ∈ fp, b < s2.heap.objs.size := fun b hb => let ⟨o, e, _⟩ := T.obj _ _ st2 b hb; Heap.lt_size e
  have f3 : ∀ b ∈ fp, FpOk X pins (upd H2 S (SetN X.w S [])) b ∧ b < s3.heap.objs.size := fun b hb => by
    have hlt := below b hb
    refine ⟨⟨(upd_ne (by rw [← hSz]; exact Nat.ne_of_lt hlt)).trans (f2 b hb).1, (f2 b hb).2⟩, ?_⟩
    rw [h3, Heap.size_push]
    exact Nat.lt_succ_of_lt hlt
  have st3 : tn 0 s3.heap := T.keep _ _ _ st2 fun b _ o e => by rw [h3]; exact Heap.get?_push_of_some _ e
  have I4 := block_start I3 ok hN f3
  have pg := hg s3 (upd H2 S (SetN X.w S [])) s3.heap.objs.size (cellsFrom (s3.heap.objs.size + 1) scope.names (cloFrom X.env.cells scope.names [])) fp
  have pt := ht s3 (upd H2 S (SetN X.w S [])) s3.heap.objs.size (cellsFrom (s3.heap.objs.size + 1) scope.names (cloFrom X.env.cells scope.names [])) fp
  have pe := he s3 (upd H2 S (SetN X.w S [])) s3.heap.objs.size (cellsFrom (s3.heap.objs.size + 1) scope.names (cloFrom X.env.cells scope.names [])) fp
  show codeAny _ _ (.compStart (.SetComp elt [⟨tg, iter, ifs, 0⟩] scope pos) 0 (.ref it) (.ref S) (compEnvC scope (cellsFrom (s3.heap.objs.size + 1) scope.names (cloFrom X.env.cells scope.names [])) s3.heap.objs.size X.env)) (compPost (model X.prog X.w) X.A X.xe use Qf (.ref S) s3.heap.objs.size)
    { s3 with heap := pushCells (s3.heap.push { cls := .type "dict", data := .dict #[] }) scope.names }
  have nfp : ∀ b ∈ fp, (upd H2 S (SetN X.w S [])) b = none := fun b hb => (f3 b hb).1.1
  generalize hce : compEnvC scope (cellsFrom (s3.heap.objs.size + 1) scope.names (cloFrom X.env.cells scope.names [])) s3.heap.objs.size X.env = ce at I4 pg pt pe ⊢
  have cL : ce.locals = s3.heap.objs.size := by rw [← hce]; rfl
  generalize hH3 : upd H2 S (SetN X.w S []) = H3 at I3 I4 pg pt pe w0 nfp f3
  generalize hs4 : ({ s3 with heap := pushCells (s3.heap.push { cls := .type "dict", data := .dict #[] }) scope.names } : Shared) = s4 at I4 ⊢
  have st4 : tn 0 s4.heap := T.keep _ _ _ st3 fun b _ o e => by rw [← hs4]; exact pushCells_keeps _ _ _ _ (Heap.get?_push_of_some _ e)
  have fpAt : ∀ {σ' : L2.St} {H' : Hp} {s' : Shared}, Inv (X.blk s3 H3 scope ce fp) [] σ' H' s' → (∀ b ∈ fp, H' b = none) → ∀ b ∈ fp, FpOk (X.blk s3 H3 scope ce fp) [] H' b := fun {σ' H' s'} I' hn b hb =>
    ⟨hn b hb, (I'.ok.exf b hb).1, I'.ok.exfs b hb, .inl hb, fun x c e => (I'.ok.exf b hb).2 x c e, fun p hp => absurd (show p ∈ ([] : List (Addr × Obj)) ++ [] from hp) (by simp)⟩
  have run : codeAny (model X.prog X.w) X.A (.compLoop (.SetComp elt [⟨tg, iter, ifs, 0⟩] scope pos) 0 (.ref it) (.ref S) ce) (compPost (model X.prog X.w) X.A X.xe use Qf (.ref S) s3.heap.objs.size) s4 := by
    refine compLoopS_any (fun n s' => ∃ i H', Inv (X.blk s3 H3 scope ce fp) [] (wipe σ (own.map (·.2))) H' s' ∧ tn i s'.heap ∧ (∀ b ∈ fp, H' b = none) ∧ W i n H') ?_ m0 ⟨0, H3, I4, st4, nfp, w0⟩
    rintro n s5 ⟨i, H5, I5, st5, n5, w5⟩
    rcases turn i n H5 w5 with ⟨stop, qq⟩ | ⟨go, Nx, hNx, step⟩
    · refine thnF (T.done (X.blk s3 H3 scope ce fp) rfl rfl rfl hc i [] s5 _ H5 (fun _ _ => False) I5 (fpAt I5 n5) st5 stop) fun r s6 ⟨hr, I6⟩ => ?_
      subst hr
      have I7 : Inv X pins σ H5 s6 := I3.call' (ch := fp) I6.os I6.base I6.hok I6.bare fun b hb => ⟨(f3 b hb).1.2.2.2.1, (f3 b hb).1.2.1, (f3 b hb).1.2.2.2.2.1, (f3 b hb).1.2.2.2.2.2⟩
      have nC : H5 s3.heap.objs.size = none := by
        have z : H5 ce.locals = none := I6.free
        rwa [cL] at z
      obtain ⟨m, hn, _⟩ := I6.loc
      have hn : s6.heap.Ns ce.locals m := hn
      rw [cL] at hn
      exact fin S s3.heap.objs.size s6 m H5 I7 qq hn (I3.fpOk (Nat.le_refl _) nC)
    · refine thnF (T.item (X.blk s3 H3 scope ce fp) rfl rfl rfl hc i [] s5 _ H5 (fun _ _ => False) I5 (fpAt I5 n5) st5 go) fun r s6 ⟨u, hr, h6⟩ => ?_
      subst hr
      refine thnF h6 fun _ s7 ⟨x, H7, I7, r7, y7, st7, n7⟩ => ?_
      have I7' := I7.pinned (fpAt I7 n7) (T.obj _ _ st7)
      refine thnF (pg.run _ s7 _ H7 x u _ I7' r7 (step x H7 y7)) fun _ s8 ⟨σ8, H8, I8, hw8, q8⟩ => ?_
      refine thnF (pt.run _ s8 σ8 H8 _ I8 q8) fun b s9 ⟨H9, I9, q9⟩ => ?_
      have next : ∀ {s' : Shared} {H' : Hp}, Inv (X.blk s3 H3 scope ce fp) ([] ++ pinsAt fp s7.heap) σ8 H' s' → Nx H' → ∃ m, m < n ∧ ∃ i H', Inv (X.blk s3 H3 scope ce fp) [] (wipe σ (own.map (·.2))) H' s' ∧ tn i s'.heap ∧ (∀ b ∈ fp, H' b = none) ∧ W i m H' := fun {s' H'} I' nx => by
        obtain ⟨m', hm, w'⟩ := hNx H' nx
        have pin' : ∀ b ∈ fp, ∀ o, s7.heap.get? b = some o → s'.heap.get? b = some o ∧ H' b = none := fun b hb o e =>
          let z := I'.pin (b, o) (List.mem_append_right _ (List.mem_append_right _ (mem_pinsAt hb e)))
          ⟨z.1, z.2.1⟩
        have hl : (wipe σ (own.map (·.2))).length = σ8.length := by rw [← hw8, wipe_length]
        refine ⟨m', hm, i + 1, H', (I'.unpinned (pins := [])).weak hl (fun j v e => (wipe_some (by rw [hw8]; exact e)).1), T.keep _ _ _ st7 fun b hb o e => (pin' b hb o e).1, fun b hb => ?_, w'⟩
        obtain ⟨o, e, _⟩ := T.obj _ _ st7 b hb
        exact (pin' b hb o e).2
      cases b with
      | false =>
        simp only [Bool.false_eq_true, if_false] at q9 ⊢
        exact next I9 q9
      | true =>
        simp only [if_true] at q9 ⊢
        refine thnF (pe.run _ s9 σ8 H9 _ I9 q9) fun z s10 ⟨yv, H10, I10, r10, b1, F, ds, d, L, es, ey, sm, rd, hk, hS, kd, pm, hf, nx⟩ => ?_
        subst ey
        cases (show z = Value.ref b1 from r10)
        exact addS_ok (X := X.blk s3 H3 scope ce fp) I10 sm hu rd hk hS kd pm hf fun L' es' s11 kd' pm' I11 => next I11 (nx L' es' kd' pm')
  exact codeAny_compStart_set run (T.self X.A 0 _ _ _ st4 run)
theorem pe_sn (hc : X.calm = true) (hu : X.A.units + 65 < cLine) (hN : X.N.Nodup) (hi : PI X tg iter wi) (ok : BlkOk X.N X.env.scope scope own)
    (hg : ∀ (s : Shared) (H : Hp) (C : Addr) (cl : List (PySem.Str × Addr)) (fp : List Addr), PG (X.blk s H scope (compEnvC scope cl C X.env) fp) tg g) (ht : ∀ (s : Shared) (H : Hp) (C : Addr) (cl : List (PySem.Str × Addr)) (fp : List Addr), PTs (X.blk s H scope (compEnvC scope cl C X.env) fp) ifs tt)
    (he : ∀ (s : Shared) (H : Hp) (C : Addr) (cl : List (PySem.Str × Addr)) (fp : List Addr), PE (X.blk s H scope (compEnvC scope cl C X.env) fp) elt te) (hs : ∀ x, foldedSetIterable iter X.env x = pure x := by intro _; rfl) :
    PE X (.SetComp elt [⟨tg, iter, ifs, 0⟩] scope pos) (tSN X wi g tt te (own.map (·.2))) := by
  refine ⟨fun pins s σ H Q I h => ?_⟩
  rw [eval_SetComp]
  refine sn_core hc hu hN I hi ok hg ht he hs h fun S C s' m H' I' q hn f => ⟨m, hn, fun h'' sb => ?_⟩
  obtain ⟨f0, f1, f2, f3, f4, f5⟩ := f
  exact ⟨.ref S, H', I'.turned (t' := s'.toks) (fun b o hb e => (sb.2 b hb).trans e) f0 f1 f3 f4 f5, rfl, q⟩

/-! ### by values -/
def eSetComp (vs : List Nat) (fi : PEnv → Out (List D)) (g : PgF) (c : PEnv → Out Bool) (f : PEnv → Out D) : PEnv → Out D := fun ρ => (fi ρ).bind fun ds => (compL g c f (wipeP ρ vs) ds).bind fun ys => if tupSet ys = true then .ok (.set (dedupK ys)) else .fail
theorem compL_ok (g : PgF) (c : PEnv → Out Bool) (f : PEnv → Out D) (ρ : PEnv) : ∀ (l : List D) x, compL g c f ρ l ≠ .exc x
  | [], x => fun z => nomatch z
  | d :: r, x => by
    unfold compL
    cases g d ρ with
    | none => exact fun z => nomatch z
    | some ρ1 =>
      dsimp only
      cases c ρ1 with
      | exc _ => exact fun z => nomatch z
      | fail => exact fun z => nomatch z
      | ok b =>
        cases b with
        | false => exact compL_ok g c f ρ r x
        | true =>
          dsimp only
          cases f ρ1 with
          | exc _ => exact fun z => nomatch z
          | fail => exact fun z => nomatch z
          | ok y =>
            dsimp only
            intro z
            cases hr : compL g c f ρ r with
            | ok _ => rw [hr] at z; cases z
            | exc _ => exact compL_ok g c f ρ r _ hr
            | fail => rw [hr] at z; cases z
theorem own_keep {F H F' H' : Hp} (g : Grow F H F' H') {p : Addr} {φ : Heap → Prop} (h1 : F p = none) (h2 : H p = some (.ext φ)) : F' p = none ∧ H' p = some (.ext φ) := by
  obtain ⟨a, b⟩ := grow_own g h1 (by rw [h2]; trivial)
  exact ⟨a, b.trans h2⟩
theorem dedup_append (xs ys : List D) : dedupK (xs ++ ys) = ys.foldl insK (dedupK xs) := List.foldl_append
variable {E : WX} {ts : List Nat} {fi : PEnv → Out (List D)} {pg : PgF} {c : PEnv → Out Bool} {f : PEnv → Out D}
theorem vf_sc (hc : X.calm = true) (hN : X.N.Nodup) (ok : BlkOk X.N X.env.scope scope own) (hu : X.A.units + 65 < cLine) (hi : VI X E tg iter fi)
    (hg : ∀ (s : Shared) (H : Hp) (C : Addr) (cl : List (Str × Addr)) (fp : List Addr), VP (X.blk s H scope (compEnvC scope cl C X.env) fp) ts tg pg)
    (ht : ∀ (s : Shared) (H : Hp) (C : Addr) (cl : List (Str × Addr)) (fp : List Addr), VTs (X.blk s H scope (compEnvC scope cl C X.env) fp) XE0 ifs c)
    (he : ∀ (s : Shared) (H : Hp) (C : Addr) (cl : List (Str × Addr)) (fp : List Addr), VE (X.blk s H scope (compEnvC scope cl C X.env) fp) XE0 elt f)
    (hts : ∀ i ∈ ts, i ∈ own.map (·.2)) (hs : ∀ x, foldedSetIterable iter X.env x = pure x := by intro _; rfl) :
    VF X E (.SetComp elt [⟨tg, iter, ifs, 0⟩] scope pos) (eSetComp (own.map (·.2)) fi pg c f) :=
  ⟨pe_weak (pe_sn (g := pgR X ts pg) (tt := tb X XE0 c) (te := tv X XE0 f) hc hu hN hi.pi ok (fun s H C cl fp => (hg s H C cl fp).pg) (fun s H C cl fp => (ht s H C cl fp).pts) (fun s H C cl fp => (he s H C cl fp).pe) hs) fun σ H Q ⟨ρ, F, s, sl, q⟩ => by
    refine ⟨ρ, F, s, sl, ?_⟩
    unfold eSetComp at q
    cases hfi : fi ρ with
    | exc x => rw [hfi] at q; exact q
    | fail => rw [hfi] at q; exact q
    | ok ds =>
      rw [hfi] at q
      have q1 : AtF (cw X) X.mg (xsE E σ) F H ((compL pg c f (wipeP ρ (own.map (·.2))) ds).bind fun ys => if tupSet ys = true then .ok (.set (dedupK ys)) else .fail) Q := q
      clear q
      intro J F1 H1 g1 yl S hS
      cases hcl : compL pg c f (wipeP ρ (own.map (·.2))) ds with
      | exc x => exact absurd hcl (compL_ok _ _ _ _ ds x)
      | fail => rw [hcl] at q1; exact q1.elim
      | ok ys =>
        rw [hcl] at q1
        have q2 : AtF (cw X) X.mg (xsE E σ) F H (if tupSet ys = true then .ok (.set (dedupK ys)) else .fail) Q := q1
        by_cases hf : tupSet ys = true
        · rw [if_pos hf] at q2
          obtain ⟨keysY, lenY⟩ := tupKey_all hf
          have fS : F1 S = none := g1.into.free hS
          refine ⟨fun i m H2 => m = ds.length - i ∧ i ≤ ds.length ∧ ∃ F2 L es got, Grow F1 H1 F2 H2 ∧ F2 S = none ∧ H2 S = some (SetN X.w S (rowsN X.w L)) ∧ KD (cw X) F2 L es ∧ es.Perm (dedupK got) ∧ ∃ rest, compL pg c f (wipeP ρ (own.map (·.2))) (ds.drop i) = .ok rest ∧ got ++ rest = ys,
            ⟨ds.length, by simp, Nat.zero_le _, F1, [], [], [], Grow.own g1.into hS, fS, upd_same, .nil, List.Perm.refl _, ys, by rw [List.drop_zero]; exact hcl, rfl⟩, ?_⟩
          rintro i m H2 ⟨rfl, hi2, F2, L, es, got, g2, fS2, hS2, kd, pm, rest, hrest, hys⟩
          by_cases hlt : i < ds.length
          · refine .inr ⟨yl.go i F2 H2 g2.sub g2.into hlt, fun H3 => ∃ F2 L es got, Grow F1 H1 F2 H3 ∧ F2 S = none ∧ H3 S = some (SetN X.w S (rowsN X.w L)) ∧ KD (cw X) F2 L es ∧ es.Perm (dedupK got) ∧ ∃ rest, compL pg c f (wipeP ρ (own.map (·.2))) (ds.drop (i + 1)) = .ok rest ∧ got ++ rest = ys,
              fun H3 z => ⟨ds.length - (i + 1), by omega, rfl, hlt, z⟩, fun x H3 hy => ?_⟩
            obtain ⟨d, F3, hd, g3, r3⟩ := yl.yld i F2 H2 x H3 g2.sub g2.into hy hlt
            obtain ⟨fS3, hS3⟩ := own_keep g3 fS2 hS2
            have ed : ds.drop i = d :: ds.drop (i + 1) := by
              obtain ⟨h1, h2⟩ := List.getElem?_eq_some_iff.mp hd
              rw [List.drop_eq_getElem_cons h1, h2]
            rw [ed] at hrest
            unfold compL at hrest
            cases hg2 : pg d (wipeP ρ (own.map (·.2))) with
            | none => rw [hg2] at hrest; cases hrest
            | some ρ1 =>
              rw [hg2] at hrest
              dsimp only at hrest
              refine ⟨wipeP ρ (own.map (·.2)), F3, d, g3.into, slots_wipe (sl.mono ((g1.sub.trans g2.sub).trans g3.sub)) _, r3, ρ1, hg2, fun σ2 sl2 b2 => ⟨wipe_but b2 hts, ρ1, F3, g3.into, sl2, ?_⟩⟩
              cases hc2 : c ρ1 with
              | exc _ => rw [hc2] at hrest; cases hrest
              | fail => rw [hc2] at hrest; cases hrest
              | ok bb =>
                rw [hc2] at hrest
                intro b F4 H4 g4 eb
                have eb : b = bb := eb
                subst eb
                obtain ⟨fS4, hS4⟩ := own_keep g4 fS3 hS3
                have g24 := (g2.trans g3).trans g4
                cases b with
                | false =>
                  rw [if_neg Bool.false_ne_true]
                  exact ⟨F4, L, es, got, g24, fS4, hS4, kd.mono (g3.sub.trans g4.sub), pm, rest, hrest, hys⟩
                | true =>
                  rw [if_pos rfl]
                  dsimp only at hrest
                  refine ⟨ρ1, F4, g4.into, sl2.mono g4.sub, ?_⟩
                  cases hf2 : f ρ1 with
                  | exc _ => rw [hf2] at hrest; cases hrest
                  | fail => rw [hf2] at hrest; cases hrest
                  | ok y =>
                    rw [hf2] at hrest
                    dsimp only at hrest
                    intro v F5 H5 g5 r5
                    obtain ⟨fS5, hS5⟩ := own_keep g5 fS4 hS4
                    cases hr : compL pg c f (wipeP ρ (own.map (·.2))) (ds.drop (i + 1)) with
                    | exc _ => rw [hr] at hrest; cases hrest
                    | fail => rw [hr] at hrest; cases hrest
                    | ok rest2 =>
                      rw [hr] at hrest
                      have e3 : Out.ok (y :: rest2) = Out.ok rest := hrest
                      injection e3 with e3
                      have hy : y ∈ ys := by rw [← hys, ← e3]; simp
                      obtain ⟨z1, z2, z3⟩ := keysY y hy
                      obtain ⟨b1, rfl⟩ := tupRef r5 z1
                      have gl : got.length ≤ ys.length := by rw [← hys, List.length_append]; omega
                      have dl := dedup_len got
                      refine ⟨b1, F5, dedupK got, y, L, es, rfl, g5.into, r5, ?_, hS5, kd.mono ((g3.sub.trans g4.sub).trans g5.sub), pm, by omega, fun L' es' kd' pm' => ?_⟩
                      · unfold tupKey
                        rw [z1, z2, Bool.true_and, Bool.true_and]
                        exact decide_eq_true z3
                      · refine ⟨F5, L', es', got ++ [y], grow_upd (g24.trans g5) hS fS5, fS5, upd_same, kd', by rw [dedup_next]; exact pm', rest2, rfl, ?_⟩
                        rw [List.append_assoc, ← hys, ← e3]
                        rfl
          · have ei : i = ds.length := by omega
            subst ei
            rw [List.drop_length] at hrest
            cases hrest
            rw [List.append_nil] at hys
            subst hys
            exact .inl ⟨yl.stop _ F2 H2 g2.sub g2.into (Nat.le_refl _), q2 (.ref S) [S] F2 H2 (g1.trans g2) (.setN fS2 hS2 kd.rows pm) (by simp) (by simp) fun p hp => by rw [List.mem_singleton.mp hp]; exact g1.same.free hS⟩
        · rw [if_neg hf] at q2; exact q2.elim⟩
end
end TP

end
set_option Elab.async false
set_option linter.all false
set_option maxRecDepth 100000
/-! The values layer: pop, comprehensions to a local, ranges over what is lent. -/
noncomputable section
namespace TP
variable [IOs]
open PySem PySem.Spec L2

/-! ### assignments of fresh things, by what they read -/
structure VAs (X : Cx) (E : WX) (st : Stmt) (i : Nat) (f : PEnv → Out D) : Prop where
  ps : PS X st (tAsg (tvF X E f) (gName i))
section
variable {X : Cx} {E : WX} {st : Stmt} {i : Nat} {f : PEnv → Out D}
theorem VAs.ownP (h : VAs X E st i f) : VS X E st (sOwnP i f) := ⟨ps_weak h.ps fun D σ H ⟨ρ, F, F0, H0, er, q⟩ => by
  obtain ⟨fp, hsl, _, _⟩ := er.ex
  refine ⟨plain ρ, F, er.g.into, hsl.plain, ?_⟩
  unfold sOwnP at q
  cases hf : f (plain ρ) with
  | ok d =>
    rw [hf] at q
    intro v fq F1 H1 g o n nd fr
    exact q _ F1 H1 (er.put g (.own n o) nd fr)
  | exc x => rw [hf] at q; exact fun cl dx F1 H1 g r => q cl dx σ F1 H1 (er.mono g) r
  | fail => rw [hf] at q; exact q⟩
theorem VAs.ownL (h : VAs X E st i f) : VS X E st (sOwnL i f) := ⟨ps_weak h.ps fun D σ H ⟨ρ, F, F0, H0, er, q⟩ => by
  obtain ⟨fp, hsl, _, _⟩ := er.ex
  have n := hsl.at
  refine ⟨lent ρ, lend F H fp, lend_into er.g.into, hsl.lent (lend_sub fun p hp => (n p hp).1) fun p hp => lend_in hp, ?_⟩
  unfold sOwnL at q
  cases hf : f (lent ρ) with
  | ok d =>
    rw [hf] at q
    dsimp only at q
    intro v fq F1 H1 g o nq nd fr
    by_cases hk : flatOwn d = true
    · rw [if_pos hk] at q
      have out : ∀ p ∈ fq, p ∉ fp := fun p hp z => by
        have y := (n p z).2
        rw [fr p hp] at y
        exact y
      exact q _ _ H1 (er.put (unlend_grow n g) (.own nq (own_unlend n g o nq hk out)) nd fr)
    · rw [if_neg hk] at q; exact q.elim
  | exc x =>
    rw [hf] at q
    dsimp only at q
    by_cases hk : keyX x = true
    · rw [if_pos hk] at q
      exact fun cl dx F1 H1 g r => q cl dx σ _ H1 (er.mono (unlend_grow n g)) (unlend_x n g r hk)
    · rw [if_neg hk] at q; exact q.elim
  | fail => rw [hf] at q; exact q⟩
theorem VAs.setP (h : VAs X E st i f) : VS X E st (sSet i (pP f)) := ⟨ps_weak h.ps fun D σ H ⟨ρ, F, F0, H0, er, q⟩ => by
  obtain ⟨fp, hsl, _, _⟩ := er.ex
  refine ⟨plain ρ, F, er.g.into, hsl.plain, AtF.of ?_⟩
  unfold sSet pP at q
  cases hf : f (plain ρ) with
  | ok d =>
    rw [hf] at q
    intro v F1 H1 g r
    exact q _ F1 H1 ((er.mono g).val r)
  | exc x => rw [hf] at q; exact fun cl dx F1 H1 g r => q cl dx σ F1 H1 (er.mono g) r
  | fail => rw [hf] at q; exact q⟩
variable {elt tg iter : Expr} {ifs : List Expr} {scope : Scope} {own : List (Str × Nat)} {pos spos py : Pos} {ts : List Nat} {fi : PEnv → Out (List D)} {g : PgF} {c : PEnv → Out Bool}
theorem vas_lc (i : Nat) {y : Str} (hc : X.calm = true) (hN : X.N.Nodup) (ok : BlkOk X.N X.env.scope scope own) (hi : VI X E tg iter fi)
    (hg : ∀ (s : Shared) (H : Hp) (C : Addr) (cl : List (Str × Addr)) (fp : List Addr), VP (X.blk s H scope (compEnvC scope cl C X.env) fp) ts tg g)
    (ht : ∀ (s : Shared) (H : Hp) (C : Addr) (cl : List (Str × Addr)) (fp : List Addr), VTs (X.blk s H scope (compEnvC scope cl C X.env) fp) XE0 ifs c)
    (he : ∀ (s : Shared) (H : Hp) (C : Addr) (cl : List (Str × Addr)) (fp : List Addr), VE (X.blk s H scope (compEnvC scope cl C X.env) fp) XE0 elt f)
    (hts : ∀ i ∈ ts, i ∈ own.map (·.2)) (hy : X.N[i]? = some y := by rfl) (hyl : X.env.scope.names.lookup y = some .local := by rfl)
    (hsw : swapsWith (.ListComp elt [⟨tg, iter, ifs, 0⟩] scope pos) (some (.Name y py)) spos.line X.env = pure true := by rfl) (hs : ∀ x, foldedSetIterable iter X.env x = pure x := by intro _; rfl) :
    VAs X E (.Assign [.Name y py] (.ListComp elt [⟨tg, iter, ifs, 0⟩] scope pos) spos) i (eComp (own.map (·.2)) fi g c f) :=
  ⟨ps_weak (ps_setLc (g := pgR X ts g) (tt := tb X XE0 c) (te := tv X XE0 f) hc hN hy hyl hsw hi.pi ok (fun s H C cl fp => (hg s H C cl fp).pg) (fun s H C cl fp => (ht s H C cl fp).pts) (fun s H C cl fp => (he s H C cl fp).pe) hs) fun D σ H q => lc_go hts σ H _ q⟩
end

/-! ### range over what is lent -/
def pLr (g : List D → Out (List D)) (fs : PEnv → Out (List D)) : Env → Out (List D) := fun ρ => match fs (lent ρ) with
  | .ok ds => g ds
  | .exc x => if keyX x = true then .exc x else .fail
  | .fail => .fail
section
variable {X : Cx} {E : WX} {tg : Expr} {fs : PEnv → Out (List D)} {pos : Pos}
/-- arguments asked with the own slots lent; what comes of them are numbers -/
theorem lent_args {g : List D → Out (List D)} {σ : L2.St} {H : Hp} {R : It → Hp → Prop} {Q : List V → Hp → Prop} (h : tIs X E (pLr g fs) σ H R) (w : ∀ us F1 H1 ds (l : List D), Reps (cw X) F1 us ds → g ds = .ok l → (∀ J, (∀ F', Yld (cw X) F' J l) → R J H1) → Q us H1) (hg : ∀ ds x, g ds ≠ .exc x) :
    tvs X E fs σ H Q := by
  obtain ⟨ρ, F, F0, H0, er, q⟩ := h
  obtain ⟨fp, hs, _, _⟩ := er.ex
  have n := hs.at
  refine ⟨lent ρ, lend F H fp, lend_into er.g.into, hs.lent (lend_sub fun p hp => (n p hp).1) fun p hp => lend_in hp, ?_⟩
  unfold pLr at q
  cases hf : fs (lent ρ) with
  | ok ds =>
    rw [hf] at q
    intro us F1 H1 g1 r1
    cases hd : g ds with
    | ok l =>
      have q : At (cw X) X.mg (xsE E σ) (fun F' J ds => Yld (cw X) F' J ds) F H (g ds) R := q
      rw [hd] at q
      exact w us F1 H1 ds l r1 hd fun J hJ => q J _ H1 (unlend_grow n g1) (hJ _)
    | exc x => exact absurd hd (hg ds x)
    | fail =>
      have q : At (cw X) X.mg (xsE E σ) (fun F' J ds => Yld (cw X) F' J ds) F H (g ds) R := q
      rw [hd] at q
      exact q.elim
  | exc x =>
    rw [hf] at q
    dsimp only at q
    by_cases hk : keyX x = true
    · rw [if_pos hk] at q
      exact fun cl dx F' H' g r => q cl dx _ H' (unlend_grow n g) (unlend_x n g r hk)
    · rw [if_neg hk] at q; exact q.elim
  | fail => rw [hf] at q; exact q
theorem rangeD1_ok (ds : List D) (x : Exn) : rangeD1 ds ≠ .exc x := by
  unfold rangeD1
  split
  · split <;> exact fun z => nomatch z
  · exact fun z => nomatch z
theorem rangeD2_ok (ds : List D) (x : Exn) : rangeD2 ds ≠ .exc x := by
  unfold rangeD2
  split
  · split <;> exact fun z => nomatch z
  · exact fun z => nomatch z
theorem si_range1L {a : Expr} {p : Pos} (ha : VA X E [a] fs) (hm : X.mg "range" = none) (hg : Gl X "range" := by rfl) (hs : starEach [a] X.env = [(false, eval a X.env)] := by rfl) : SI X E tg (.Call (.Name "range" p) [a] [] pos) (pLr rangeD1 fs) :=
  ⟨pi_weak (pi_range1 hg hm ha.pa hs) fun σ H R h => lent_args h (fun us F1 H1 ds l r1 e q1 => by
    unfold rangeD1 at e
    split at e
    · rename_i j
      cases r1 with
      | cons r2 r3 =>
        cases r2; cases r3
        by_cases hb : bound j = true
        · rw [if_pos hb] at e
          cases e
          exact ⟨j, rfl, (bound_of hb).1, (bound_of hb).2, q1 _ fun F' => yld_range⟩
        · rw [if_neg hb] at e; cases e
    · cases e) rangeD1_ok⟩
theorem si_range2L {a b : Expr} {p : Pos} (ha : VA X E [a, b] fs) (hm : X.mg "range" = none) (hg : Gl X "range" := by rfl) (hs : starEach [a, b] X.env = [(false, eval a X.env), (false, eval b X.env)] := by rfl) (hs2 : starEach [b] X.env = [(false, eval b X.env)] := by rfl) :
    SI X E tg (.Call (.Name "range" p) [a, b] [] pos) (pLr rangeD2 fs) :=
  ⟨pi_weak (pi_range2 hg hm ha.pa hs hs2) fun σ H R h => lent_args h (fun us F1 H1 ds l r1 e q1 => by
    unfold rangeD2 at e
    split at e
    · rename_i i j
      cases r1 with
      | cons r2 r3 =>
        cases r3 with
        | cons r4 r5 =>
        cases r2; cases r4; cases r5
        by_cases hb : (bound i && bound j) = true
        · rw [if_pos hb] at e
          cases e
          have b1 := bound_of (and2 hb).1
          have b2 := bound_of (and2 hb).2
          exact ⟨i, j, rfl, ⟨b1.1, b1.2, b2.1, b2.2⟩, q1 _ fun F' => yld_range⟩
        · rw [if_neg hb] at e; cases e
    · cases e) rangeD2_ok⟩
end

/-! ### x, y = xs.pop() -/
def rootFlat : D → Bool
  | .lst _ | .dct _ | .set _ => false
  | _ => true
theorem own_flat {c : KW} {F H : Hp} {fp : List Addr} {v : V} {d : D} (o : Own c F H fp v d) (h : rootFlat d = true) : fp = [] ∧ Rep c F v d := by
  cases o with
  | froz r => exact ⟨rfl, r⟩
  | lst _ _ _ => cases h
  | dK _ _ _ => cases h
  | dN _ _ _ => cases h
  | setN _ _ _ _ => cases h
theorem owns_last {c : KW} {F H : Hp} {d : D} (hd : rootFlat d = true) : ∀ {fp : List Addr} {vs : List V} {ds : List D}, Owns c F H fp vs (ds ++ [d]) → ∃ us v, vs = us ++ [v] ∧ Owns c F H fp us ds ∧ Rep c F v d
  | _, _, [], h => by
    cases h with
    | cons a t =>
      cases t
      obtain ⟨rfl, r⟩ := own_flat a hd
      exact ⟨[], _, rfl, .nil, r⟩
  | _, _, x :: ds, h => by
    cases h with
    | cons a t =>
      obtain ⟨us, v, rfl, h1, h2⟩ := owns_last hd t
      exact ⟨_ :: us, v, rfl, .cons a h1, h2⟩
def sPop (i : Nat) (g : TgF) : Env → Res := fun ρ => match ρ[i]? with
  | some (.own (.lst l)) => (match l.getLast? with
    | some d => if rootFlat d = true then (match g d (ρ.set i (.own (.lst l.dropLast))) with
      | some ρ' => .nx ρ'
      | none => .fail) else .fail
    | none => .fail)
  | _ => .fail
theorem vs_pop {X : Cx} {E : WX} (i : Nat) {x : Str} {tg : Expr} {g : TgF} {px apos cpos pos : Pos} (hg : VG X tg g) (hN : X.N[i]? = some x := by rfl) (hv : Vis X.env.scope x := by first | exact Or.inl rfl | exact Or.inr (Or.inl rfl) | exact Or.inr (Or.inr rfl)) (hd : (x == ("__debug__" : Str)) = false := by decide)
    (hcd : (x == ("__classdict__" : Str)) = false := by decide) (hbase : attributeBase (.Name x px) "pop" X.env (eval (.Name x px) X.env) = eval (.Name x px) X.env := by rfl) (hline : (apos.endLine == cpos.line) = true := by rfl)
    (hs : swapsWithSole [tg] (.Call (.Attribute (.Name x px) "pop" apos) [] [] cpos) pos.line X.env = pure false := by rfl) (hw : swappedStores [tg] (.Call (.Attribute (.Name x px) "pop" apos) [] [] cpos) X.env = pure none := by rfl)
    (h1 : (assignEach [tg] X.env).map (·.2) = [assign tg X.env] := by rfl) : VS X E (.Assign [tg] (.Call (.Attribute (.Name x px) "pop" apos) [] [] cpos) pos) (sPop i g) :=
  ⟨ps_weak (ps_asg (pe_bm0 PySem.F.plainAttrs_list PySem.F.slot_list_pop PySem.F.type_list_pop mt_pop (pe_var hN hv hd hcd) hbase hline) hg.pg hs hw h1) fun D σ H ⟨ρ, F, F0, H0, er, q⟩ => by
    unfold sPop at q
    split at q
    · rename_i l he
      split at q
      · rename_i d hl
        split at q
        · rename_i hf
          obtain ⟨p, fq, hσ, ow, nd, k⟩ := er.mut he
          have el : l = l.dropLast ++ [d] := by
            obtain ⟨l', rfl⟩ : ∃ l', l = l' ++ [d] := List.getLast?_eq_some_iff.mp hl
            simp
          cases ow with
          | @lst _ xs _ _ hp1 hp2 os =>
            rw [el] at os
            obtain ⟨us, v, rfl, os', r⟩ := owns_last hf os
            refine ⟨.ref p, hσ, .inl ⟨rfl, us ++ [v], SqL.of hp2⟩, p, us ++ [v], v, rfl, rfl, hp2, by simp, ?_⟩
            have hin : ∀ q ∈ fq, F q = none ∧ (upd H p (.lst (us ++ [v]).dropLast)) q = H q := fun q hq => by
              refine ⟨(os'.at q hq).1, upd_ne ?_⟩
              rintro rfl
              exact (List.nodup_cons.mp nd).1 hq
            have er1 := k F H (.lst (us ++ [v]).dropLast) (.lst l.dropLast) fq (Grow.refl er.g.into) (.lst hp1 upd_same (by rw [List.dropLast_concat] at hin ⊢; exact os'.mono (Same.refl _) hin)) nd fun q hq => .inl hq
            split at q
            · rename_i ρ' hg2
              exact ⟨_, F, F0, H0, d, er1, r, ρ', hg2, fun σ' er' => q σ' F _ er'⟩
            · exact q.elim
        · exact q.elim
      · exact q.elim
    · exact q.elim⟩
end TP

end
set_option Elab.async false
set_option linter.all false
set_option maxRecDepth 100000
/-! The values layer: enumerate and zip over tuples and lists. -/
noncomputable section
namespace TP
variable [IOs]
open PySem PySem.Spec PyProof.Rows L2

set_option maxHeartbeats 1000000 in
theorem meets_enum1 {v : Value} {o : Obj} {H : Heap → Prop} (B : Begins v o H) :
    Meets (Builtin.«enumerate.__new__» ⟨[.type "enumerate", v], []⟩) (fun _ R s => H s.heap ∧
      R (.ok (.ret (.ref (s.heap.push o).objs.size))) { s with heap := (s.heap.push o).push { cls := .type "enumerate", data := .fields #[.none, .bool false, .ref s.heap.objs.size, rawInt 0, .none, .none] } }) :=
  .of_wp fun prog w A R s h => by
    obtain ⟨hp, g, d, tk, os⟩ := s; obtain ⟨h1, h⟩ := h
    have hsub := sub_enumerate
    have q1 : ∀ {A' : Around} {E : Value → Shared → Prop} {Q : Value → Shared → Prop}, Q (.ref hp.objs.size) ⟨hp.push o, g, d, tk, os⟩ → wpAny (model prog w) A' (pyIter v) Q E ⟨hp, g, d, tk, os⟩ :=
      fun q => B.iter prog w _ _ ⟨hp, g, d, tk, os⟩ _ h1 q
    wp_walk using q1
    refine wpAny_stack_any fun st => wpAny_pure ?_
    split
    · rename_i c _ _ _ _ _
      cases (c == Value.type "enumerate")
      · wp_walk using q1
        exact ⟨_, rfl, h⟩
      · wp_walk using q1
        exact ⟨_, rfl, h⟩
    · wp_walk using q1
      exact ⟨_, rfl, h⟩
section
variable {prog : Program} {w : World} {A : Around} {E : Value → Shared → Prop} {s : Shared}
theorem enum_begins1 {v : Value} {o : Obj} {H : Heap → Prop} {Q : Value → Shared → Prop} (B : Begins v o H) (h1 : H s.heap)
    (h : ∀ h', IsEnum h' (s.heap.objs.size + 1) s.heap.objs.size 0 .none → h'.get? s.heap.objs.size = some o → h'.objs.size = s.heap.objs.size + 2 →
      (∀ b o, s.heap.get? b = some o → h'.get? b = some o) → Q (.ref (s.heap.objs.size + 1)) { s with heap := h' }) :
    wpAny (model prog w) A (call (.type "enumerate") [v]) Q E s := by
  refine callType_new F.called_enumerate (by decide) (F.typeCall_enumerate_1 _) (F.newCall_enumerate_1 _) (fun obj => F.args_object_init_2 obj _) F.entry_enumerate_new
    (meets_enum1 B) ⟨h1, ?_⟩
  have hz : (s.heap.push o).objs.size = s.heap.objs.size + 1 := Heap.size_push ..
  show _ ∧ _
  rw [hz]
  have he : IsEnum ((s.heap.push o).push { cls := .type "enumerate", data := .fields #[.none, .bool false, .ref s.heap.objs.size, rawInt 0, .none, .none] }) (s.heap.objs.size + 1) s.heap.objs.size 0 .none := by
    have := Heap.get?_push_size (s.heap.push o) (o := { cls := .type "enumerate", data := .fields #[.none, .bool false, .ref s.heap.objs.size, rawInt 0, .none, .none] }) rfl
    rw [hz] at this; exact this
  refine ⟨⟨_, he, rfl⟩, h _ he (Heap.get?_push_of_some _ (Heap.get?_push_size _ B.free)) (by rw [Heap.size_push, hz]) fun b o x => Heap.get?_push_of_some _ (Heap.get?_push_of_some _ x)⟩
end
/-- the tuple at a, each item in a new pair with its number -/
def IteT (K : PySem.W.Frag) (a : Addr) : It :=
  ⟨fun i H => ∃ (xs : List V) (x : V), SqT K H a xs ∧ xs[i]? = some x, fun i H v H' => ∃ T x, v = .ref T ∧ H T = none ∧ H' = upd H T (.tup [.int (i : Nat), x]) ∧ ∀ xs, SqT K H a xs → xs[i]? = some x, fun i H => ∃ xs : List V, SqT K H a xs ∧ xs.length ≤ i⟩
theorem turn_enumT {P : Program} {w : World} {K : PySem.W.Frag} {elts : List Expr} {kk : Nat} {tpos : Pos} (a e it : Addr) :
    Turn P w K (.Tuple elts kk tpos) (IteT K a) [e, it] e (fun i h => (∃ old, IsEnum h e it ((i : Nat) : Int) old) ∧ h.IsTupleIter it a i ∧ e ≠ it) where
  mem := by simp
  obj := fun i h st b hb => by
    obtain ⟨⟨old, he⟩, ⟨o, ho, hc, hd⟩, _⟩ := st
    have e' : b = e ∨ b = it := by simpa using hb
    rcases e' with z | z
    · rw [z]; exact ⟨_, he, fun v q => nomatch q⟩
    · rw [z]; exact ⟨o, ho, fun v q => by rw [hd] at q; cases q⟩
  keep := fun i h h' st k => let ⟨⟨old, he⟩, hi, hne⟩ := st; ⟨⟨old, k e (by simp) _ he⟩, hi.at fun o q => k it (by simp) o q, hne⟩
  item := by
    intro X hP hw hK hc i pins s σ H E I hf st hg
    subst hP hw hK
    obtain ⟨⟨old, he⟩, hit, hne⟩ := st
    obtain ⟨xs, x, hq, hx⟩ := hg
    obtain ⟨its, rv, p, hz⟩ := I.tuple hq
    obtain ⟨u, hu, ru⟩ := rv.get hx
    have hel : e < s.heap.objs.size := Heap.lt_size he
    have hil : it < s.heap.objs.size := by obtain ⟨_, q, _⟩ := hit; exact Heap.lt_size q
    obtain ⟨f0, f1, f2, f3, f4, f5⟩ := hf it (by simp)
    obtain ⟨g0, g1, g2, g3, g4, g5⟩ := hf e (by simp)
    have hpt : s.heap.IsTuple a its.toArray := p
    have hai : a ≠ it := by
      intro z
      obtain ⟨o, ho, hc1, _⟩ := hit
      obtain ⟨o2, ho2, hc2, _⟩ := hpt
      rw [z, ho] at ho2
      cases ho2
      rw [hc1] at hc2
      exact absurd hc2 (by decide)
    have hae : e ∉ [it, a] := by
      intro z
      rcases List.mem_cons.mp z with z | z
      · exact hne z
      · have z := List.mem_singleton.mp z
        obtain ⟨o2, ho2, hc2, _⟩ := hpt
        rw [← z] at ho2
        have he2 : s.heap.get? e = some _ := he
        rw [he2] at ho2
        cases ho2
        exact absurd (show Value.type "enumerate" = Value.type "tuple" from hc2) (by decide)
    have D : Draws X.prog X.w X.A.in1 it [it, a] its.toArray.size (fun i v => its.toArray[i]? = some v) (fun i h => h.IsTupleIter it a i ∧ h.IsTuple a its.toArray) := Draws.tuple (by rw [show X.A.in1.handled = X.A.handled from rfl]; exact I.ok.hd hc) it a hai its.toArray
    have hlt : i < its.toArray.size := by
      have := (List.getElem?_eq_some_iff.mp hu).1
      simpa using this
    refine wpAny_pyNext_enum_itemD D he ⟨hit, hpt⟩ hlt hne hae fun x' h' tk hP ho hit' hT hsz hk => ?_
    have ex : x' = u := by
      have h1 : its.toArray[i]? = some x' := hP
      rw [List.getElem?_toArray, hu] at h1
      cases h1; rfl
    subst ex
    refine ⟨_, rfl, wpAny_letOwnedTupleGo_enum (s := { s with heap := h', toks := tk + 1 }) ho fun h'' he' sb => ?_⟩
    have hT2 : h''.get? s.heap.objs.size = some { cls := .type "tuple", data := .seq #[.int i tk, x'] } := (sb.2 _ (Nat.ne_of_gt hel)).trans hT
    have new : ObjOk X.prog X.w (upd H s.heap.objs.size (.tup [.int (i : Nat), x])) h'' s.heap.objs.size (.tup [.int (i : Nat), x]) :=
      ⟨by show 2 ≤ sizeLine; decide, [.int i tk, x'], .cons ⟨_, rfl⟩ (.cons ru .nil), ⟨_, hT2, rfl, _, rfl⟩⟩
    have I1 : Inv X pins σ (upd H s.heap.objs.size (.tup [.int (i : Nat), x])) { s with heap := h'', toks := tk + 1 } :=
      I.turnedNew (ch := [e, it]) (fun b ob hb q => (sb.2 b (fun z => hb (by simp [z]))).trans (hk b ob (fun z => hb (by simp [z])) (fun z => hb (by simp [z])) q)) hf (Nat.le_refl _) new
    refine ⟨.ref s.heap.objs.size, _, I1, rfl, ⟨_, x, rfl, I.hok.fresh (Nat.le_refl _), rfl, fun ys hy => by rw [I.tuple_inj hy hq]; exact hx⟩, ⟨⟨x', ?_⟩, hit'.1.at fun o q => (sb.2 it (Ne.symm hne)).trans q, hne⟩, fun b hb => ?_⟩
    · have e1 : ((i + 1 : Nat) : Int) = (i : Int) + 1 := by omega
      rw [e1]; exact he'
    · have hb' : b < s.heap.objs.size := by
        have e' : b = e ∨ b = it := by simpa using hb
        rcases e' with z | z
        · rw [z]; exact hel
        · rw [z]; exact hil
      rw [upd_ne (Nat.ne_of_lt hb')]
      exact (hf b hb).1
  done := by
    intro X hP hw hK hc i pins s σ H E I hf st hg
    subst hP hw hK
    obtain ⟨⟨old, he⟩, hit, hne⟩ := st
    obtain ⟨xs, hq, hx⟩ := hg
    obtain ⟨its, rv, p, hz⟩ := I.tuple hq
    obtain ⟨f0, f1, f2, f3, f4, f5⟩ := hf it (by simp)
    have hl := rv.length
    have hh : X.A.handled = none := I.ok.hd hc
    have hT : s.TypeIs (.ref e) "enumerate" := ⟨_, he, rfl⟩
    unfold pyNext
    refine wpAny_bind (wpAny_attempt (wpAny_callSpecial?_slot (name := Str.ofString "__next__") hT F.slot_enumerate_next
      (wpAny_call_entry F.slot_enumerate_next hT F.entry_enumerate_next ?_ (F.args_enumerate_next_1 _))))
    show wpAny _ _ (field (.ref e) 2 >>= _) _ _ _
    refine wpAny_bind (wpAny_field he rfl (x := .ref it) rfl ?_)
    refine wpAny_bind (wpAny_nextOf_tuple_end hh hit (show s.heap.IsTuple a its.toArray from p) (by simp; omega) fun h' x he' hx' => ?_)
    obtain ⟨o, ho, hc⟩ := hx'
    refine wpAny_bind (wpAny_isInstance (T := "StopIteration") (b := true) ⟨o, ho, hc⟩ isSubtype_stop ?_)
    exact wpAny_pure ⟨rfl, I.turned (t' := s.toks) (fun b o hb q => he' b o hb q) f0 f1 f3 f4 f5⟩
  self := fun A i s Q E st h => let ⟨⟨_, he⟩, _⟩ := st; wpAny_pyIter_enum he h
def enumL (ds : List D) : List D := ds.zipIdx.map fun p => .tup [.int (p.2 : Nat), p.1]
theorem enumL_get {ds : List D} {i : Nat} {d : D} (h : ds[i]? = some d) : (enumL ds)[i]? = some (.tup [.int (i : Nat), d]) := by
  unfold enumL
  rw [List.getElem?_map, List.getElem?_zipIdx, h]
  simp
theorem enumL_len (ds : List D) : (enumL ds).length = ds.length := by simp [enumL]
theorem yld_enumT {c : KW} {F : Hp} {a : Addr} {xs : List V} {ds : List D} (h : SqT c.K F a xs) (r : Reps c F xs ds) : Yld c F (IteT c.K a) (enumL ds) where
  go := fun i F1 H s1 s2 hi => by
    rw [enumL_len] at hi
    obtain ⟨d, hd⟩ : ∃ d, ds[i]? = some d := ⟨ds[i], List.getElem?_eq_getElem hi⟩
    obtain ⟨v, hv, _⟩ := r.get hd
    exact ⟨xs, v, same_sqT (s1.trans s2) h, hv⟩
  stop := fun i F1 H s1 s2 hi => ⟨xs, same_sqT (s1.trans s2) h, by rw [r.length]; rw [enumL_len] at hi; exact hi⟩
  yld := fun i F1 H x H' s1 s2 y hi => by
    obtain ⟨T, z, rfl, nT, rfl, hx⟩ := y
    obtain ⟨d, hd, hr⟩ := r.get' (hx xs (same_sqT (s1.trans s2) h))
    have g := Grow.laid (o := .tup [.int (i : Nat), z]) s2 nT
    exact ⟨_, _, enumL_get hd, g, .tup (SqT.of upd_same) (.cons (.int _) (.cons ((hr.mono s1).mono g.sub) .nil))⟩
theorem yld_enum {c : KW} {F : Hp} {a : Addr} {xs : List V} {ds : List D} (h : SqL c.K F a xs) (r : Reps c F xs ds) : Yld c F (Ite c.K a) (enumL ds) where
  go := fun i F1 H s1 s2 hi => by
    rw [enumL_len] at hi
    obtain ⟨d, hd⟩ : ∃ d, ds[i]? = some d := ⟨ds[i], List.getElem?_eq_getElem hi⟩
    obtain ⟨v, hv, _⟩ := r.get hd
    exact ⟨xs, v, (s1.trans s2).seq h, hv⟩
  stop := fun i F1 H s1 s2 hi => ⟨xs, (s1.trans s2).seq h, by rw [r.length]; rw [enumL_len] at hi; exact hi⟩
  yld := fun i F1 H x H' s1 s2 y hi => by
    obtain ⟨T, z, rfl, nT, rfl, hx⟩ := y
    obtain ⟨d, hd, hr⟩ := r.get' (hx xs ((s1.trans s2).seq h))
    have g := Grow.laid (o := .tup [.int (i : Nat), z]) s2 nT
    exact ⟨_, _, enumL_get hd, g, .tup (SqT.of upd_same) (.cons (.int _) (.cons ((hr.mono s1).mono g.sub) .nil))⟩
def zipL (ds es : List D) : List D := (ds.zip es).map fun p => .tup [p.1, p.2]
theorem zipL_get {ds es : List D} {i : Nat} {d e : D} (h : ds[i]? = some d) (k : es[i]? = some e) : (zipL ds es)[i]? = some (.tup [d, e]) := by
  unfold zipL
  rw [List.getElem?_map, (List.getElem?_zip_eq_some (z := (d, e))).mpr ⟨h, k⟩]
  rfl
theorem zipL_len (ds es : List D) : (zipL ds es).length = min ds.length es.length := by simp [zipL]
theorem yld_zip {c : KW} {F : Hp} {a b : Addr} {xs ys : List V} {ds es : List D} (h : SqL c.K F a xs) (r : Reps c F xs ds) (h' : SqL c.K F b ys) (r' : Reps c F ys es) : Yld c F (Itz c.K a b) (zipL ds es) where
  go := fun i F1 H s1 s2 hi => by
    rw [zipL_len] at hi
    obtain ⟨d, hd⟩ : ∃ d, ds[i]? = some d := ⟨ds[i]'(by omega), List.getElem?_eq_getElem _⟩
    obtain ⟨e, he⟩ : ∃ d, es[i]? = some d := ⟨es[i]'(by omega), List.getElem?_eq_getElem _⟩
    obtain ⟨v, hv, _⟩ := r.get hd
    obtain ⟨u, hu, _⟩ := r'.get he
    exact ⟨xs, ys, v, u, (s1.trans s2).seq h, (s1.trans s2).seq h', hv, hu⟩
  stop := fun i F1 H s1 s2 hi => ⟨xs, ys, (s1.trans s2).seq h, (s1.trans s2).seq h', by rw [r.length, r'.length]; rw [zipL_len] at hi; omega⟩
  yld := fun i F1 H x H' s1 s2 y hi => by
    obtain ⟨T, z, z', rfl, nT, rfl, hx, hy⟩ := y
    obtain ⟨d, hd, hr⟩ := r.get' (hx xs ((s1.trans s2).seq h))
    obtain ⟨e, he, hs⟩ := r'.get' (hy ys ((s1.trans s2).seq h'))
    have g := Grow.laid (o := .tup [z, z']) s2 nT
    exact ⟨_, _, zipL_get hd he, g, .tup (SqT.of upd_same) (.cons ((hr.mono s1).mono g.sub) (.cons ((hs.mono s1).mono g.sub) .nil))⟩
theorem yld_zipT {c : KW} {F : Hp} {a b : Addr} {xs ys : List V} {ds es : List D} (h : SqT c.K F a xs) (r : Reps c F xs ds) (h' : SqT c.K F b ys) (r' : Reps c F ys es) : Yld c F (RZ.ItzT c.K a b) (zipL ds es) where
  go := fun i F1 H s1 s2 hi => by
    rw [zipL_len] at hi
    obtain ⟨d, hd⟩ : ∃ d, ds[i]? = some d := ⟨ds[i]'(by omega), List.getElem?_eq_getElem _⟩
    obtain ⟨e, he⟩ : ∃ d, es[i]? = some d := ⟨es[i]'(by omega), List.getElem?_eq_getElem _⟩
    obtain ⟨v, hv, _⟩ := r.get hd
    obtain ⟨u, hu, _⟩ := r'.get he
    exact ⟨xs, ys, v, u, same_sqT (s1.trans s2) h, same_sqT (s1.trans s2) h', hv, hu⟩
  stop := fun i F1 H s1 s2 hi => ⟨xs, ys, same_sqT (s1.trans s2) h, same_sqT (s1.trans s2) h', by rw [r.length, r'.length]; rw [zipL_len] at hi; omega⟩
  yld := fun i F1 H x H' s1 s2 y hi => by
    obtain ⟨T, z, z', rfl, nT, rfl, hx, hy⟩ := y
    obtain ⟨d, hd, hr⟩ := r.get' (hx xs (same_sqT (s1.trans s2) h))
    obtain ⟨e, he, hs⟩ := r'.get' (hy ys (same_sqT (s1.trans s2) h'))
    have g := Grow.laid (o := .tup [z, z']) s2 nT
    exact ⟨_, _, zipL_get hd he, g, .tup (SqT.of upd_same) (.cons ((hr.mono s1).mono g.sub) (.cons ((hs.mono s1).mono g.sub) .nil))⟩
section
variable {X : Cx} {E : WX} {e e2 : Expr} {es : List Expr} {f : PEnv → Out D} {fs : PEnv → Out (List D)} {pos p tpos : Pos} {elts : List Expr} {kk : Nat}
def enumD : List D → Out (List D)
  | [.tup l] => .ok (enumL l)
  | [.lst l] => .ok (enumL l)
  | _ => .fail
def zipD : List D → Out (List D)
  | [.tup l, .tup m] => .ok (zipL l m)
  | [.lst l, .lst m] => .ok (zipL l m)
  | _ => .fail
theorem vi_enum (ha : VA X E [e] fs) (hm : X.mg "enumerate" = none) (hg : Gl X "enumerate" := by rfl) (hs : starEach [e] X.env = [(false, eval e X.env)] := by rfl) :
    VI X E (.Tuple elts kk tpos) (.Call (.Name "enumerate" p) [e] [] pos) (iArgs enumD fs) := by
  refine ⟨⟨fun pins s σ H R I ⟨ρ, F, sm, sl, q⟩ => ?_⟩⟩
  refine Call_ (ld_blt I hg hm boot_enumerate (PyProof.Rows.callWith_type1 (thn (ha.pa.run pos pins s σ H _ I (tvs_bind (Q' := fun vs H1 => ∃ F1 ds, Same F1 H1 ∧ Reps (cw X) F1 vs ds ∧ At (cw X) X.mg (xsE E σ) (fun F' J ds => Yld (cw X) F' J ds) F1 H1 (enumD ds) R) sm sl q fun v F1 H1 d s1 e1 sl1 r1 q1 => ⟨F1, d, s1, r1, q1⟩)) fun us s1 ⟨vs, H1, I1, r1, F1, ds, s1', rs, q1⟩ => ?_) hs rfl))
  unfold enumD at q1
  have fpok : ∀ b ∈ [s1.heap.objs.size + 1, s1.heap.objs.size], s1.heap.objs.size ≤ b := fun b hb => by
    have e' : b = s1.heap.objs.size + 1 ∨ b = s1.heap.objs.size := by simpa using hb
    rcases e' with z | z
    · rw [z]; exact Nat.le_add_right _ _
    · rw [z]; exact Nat.le_refl _
  split at q1
  · rename_i l
    cases rs with
    | cons r2 r3 =>
    cases r3
    cases r1 with
    | cons r rr =>
    cases rr
    cases r2 with
    | @tup a xs _ hs2 rs2 =>
    cases r
    obtain ⟨its, rv, p', hz⟩ := I1.tuple (same_sqT s1' hs2)
    refine enum_begins1 (begins_tuple a its.toArray) p' fun h' he hit hsz hk => wpAny_pyIter_enum he ?_
    have I2 : Inv X pins σ H1 { s1 with heap := h' } := I1.kept (t' := s1.toks) hk
    exact ⟨s1.heap.objs.size + 1, [s1.heap.objs.size + 1, s1.heap.objs.size], _, _, H1, rfl, I2, turn_enumT a (s1.heap.objs.size + 1) s1.heap.objs.size, ⟨⟨.none, he⟩, ⟨_, hit, rfl, rfl⟩, Nat.succ_ne_self _⟩, fun b hb => I1.fpOk (fpok b hb) (I1.hok.fresh (fpok b hb)), q1 _ _ _ (Grow.refl s1') (yld_enumT hs2 rs2)⟩
  · rename_i l
    cases rs with
    | cons r2 r3 =>
    cases r3
    cases r1 with
    | cons r rr =>
    cases rr
    cases r2 with
    | @lst a xs _ hs2 rs2 =>
    cases r
    obtain ⟨its, rv, p', hz⟩ := I1.list (SqL.of (s1' _ _ hs2))
    refine call_enumerate_list p'.isList fun h' he hit hsz hk => wpAny_pyIter_enum he ?_
    have I2 : Inv X pins σ H1 { s1 with heap := h' } := I1.kept (t' := s1.toks) hk
    exact ⟨s1.heap.objs.size + 1, [s1.heap.objs.size + 1, s1.heap.objs.size], _, _, H1, rfl, I2, turn_enum a (s1.heap.objs.size + 1) s1.heap.objs.size, ⟨⟨.none, he⟩, hit, Nat.succ_ne_self _⟩, fun b hb => I1.fpOk (fpok b hb) (I1.hok.fresh (fpok b hb)), q1 _ _ _ (Grow.refl s1') (yld_enum (SqL.of hs2) rs2)⟩
  · exact q1.elim
theorem vi_zip (ha : VA X E [e, e2] fs) (hm : X.mg "zip" = none) (hg : Gl X "zip" := by rfl) (hs : starEach [e, e2] X.env = (false, eval e X.env) :: starEach [e2] X.env := by rfl) (hpl : (backTo pos (starEach [e2] X.env)).any (·.1) = false := by rfl) :
    VI X E (.Tuple elts kk tpos) (.Call (.Name "zip" p) [e, e2] [] pos) (iArgs zipD fs) :=
  ⟨pi_weak (RZ.pi_zipA hg hm ha.pa hs hpl) fun σ H R ⟨ρ, F, sm, sl, q⟩ => tvs_bind sm sl q fun us F1 H1 ds s1 e1 sl1 r1 q1 => by
    unfold zipD at q1
    split at q1
    · rename_i l m
      cases r1 with
      | cons r2 r3 =>
      cases r3 with
      | cons r4 r5 =>
      cases r5
      cases r2 with
      | tup h1 k1 =>
      cases r4 with
      | tup h2 k2 => exact ⟨_, _, _, _, rfl, .inr ⟨same_sqT s1 h1, same_sqT s1 h2, q1 _ _ _ (Grow.refl s1) (yld_zipT h1 k1 h2 k2)⟩⟩
    · rename_i l m
      cases r1 with
      | cons r2 r3 =>
      cases r3 with
      | cons r4 r5 =>
      cases r5
      cases r2 with
      | lst h1 k1 =>
      cases r4 with
      | lst h2 k2 => exact ⟨_, _, _, _, rfl, .inl ⟨s1.seq (SqL.of h1), s1.seq (SqL.of h2), q1 _ _ _ (Grow.refl s1) (yld_zip (SqL.of h1) k1 (SqL.of h2) k2)⟩⟩
    · exact q1.elim⟩
end
end TP

end
set_option Elab.async false
set_option linter.all false
set_option maxRecDepth 100000
/-! The values layer: comprehensions with two fors. -/
noncomputable section
namespace TP
variable [IOs]
open PySem PySem.Spec L2
/-- element by element, two fors -/
def comp2L (g : PgF) (c : PEnv → Out Bool) (fi1 : PEnv → Out (List D)) (vs1 : List Nat) (g1 : PgF) (c1 : PEnv → Out Bool) (f : PEnv → Out D) (ρ : PEnv) : List D → Out (List D)
  | [] => .ok []
  | d :: r => match g d ρ with
    | none => .fail
    | some ρ1 => match c ρ1 with
      | .ok true => (match fi1 ρ1 with
        | .ok es => (compL g1 c1 f (wipeP ρ1 vs1) es).bind fun ys => (comp2L g c fi1 vs1 g1 c1 f ρ r).bind fun zs => .ok (ys ++ zs)
        | _ => .fail)
      | .ok false => comp2L g c fi1 vs1 g1 c1 f ρ r
      | _ => .fail
def eComp2 (vs vs1 : List Nat) (fi : PEnv → Out (List D)) (g : PgF) (c : PEnv → Out Bool) (fi1 : PEnv → Out (List D)) (g1 : PgF) (c1 : PEnv → Out Bool) (f : PEnv → Out D) : PEnv → Out D :=
  fun ρ => (fi ρ).bind fun ds => (comp2L g c fi1 vs1 g1 c1 f (wipeP ρ vs) ds).bind fun ys => if fits ys.length = true then .ok (.lst ys) else .fail
theorem compL_noexc (g : PgF) (c : PEnv → Out Bool) (f : PEnv → Out D) (ρ : PEnv) : ∀ (l : List D) x, compL g c f ρ l ≠ .exc x := by
  intro l x
  induction l with
  | nil => intro z; cases z
  | cons d r ih =>
    unfold compL
    cases g d ρ with
    | none => intro z; cases z
    | some ρ1 =>
      dsimp only
      cases c ρ1 with
      | exc _ => intro z; cases z
      | fail => intro z; cases z
      | ok b =>
        cases b with
        | false => exact ih
        | true =>
          dsimp only
          cases f ρ1 with
          | exc _ => intro z; cases z
          | fail => intro z; cases z
          | ok y =>
            dsimp only
            intro z
            cases hr : compL g c f ρ r with
            | ok _ => rw [hr] at z; cases z
            | exc _ => exact ih (by rw [hr] at z; rw [hr]; exact z)
            | fail => rw [hr] at z; cases z
theorem comp2L_noexc (g : PgF) (c : PEnv → Out Bool) (fi1 : PEnv → Out (List D)) (vs1 : List Nat) (g1 : PgF) (c1 : PEnv → Out Bool) (f : PEnv → Out D) (ρ : PEnv) : ∀ (l : List D) x, comp2L g c fi1 vs1 g1 c1 f ρ l ≠ .exc x := by
  intro l x
  induction l with
  | nil => intro z; cases z
  | cons d r ih =>
    unfold comp2L
    cases g d ρ with
    | none => intro z; cases z
    | some ρ1 =>
      dsimp only
      cases c ρ1 with
      | exc _ => intro z; cases z
      | fail => intro z; cases z
      | ok b =>
        cases b with
        | false => exact ih
        | true =>
          dsimp only
          cases fi1 ρ1 with
          | exc _ => intro z; cases z
          | fail => intro z; cases z
          | ok es =>
            dsimp only
            intro z
            cases hr1 : compL g1 c1 f (wipeP ρ1 vs1) es with
            | exc _ => exact compL_noexc _ _ _ _ _ _ hr1
            | fail => rw [hr1] at z; cases z
            | ok ys =>
              rw [hr1, ok_bind] at z
              cases hr : comp2L g c fi1 vs1 g1 c1 f ρ r with
              | ok _ => rw [hr] at z; cases z
              | exc _ => exact ih (by rw [hr] at z; rw [hr]; exact z)
              | fail => rw [hr] at z; cases z
section
variable {X : Cx} {E : WX} {elt tg iter tg1 iter1 : Expr} {ifs ifs1 : List Expr} {scope : Scope} {own : List (Str × Nat)} {pos : Pos} {ts ts1 vs1 : List Nat} {fi fi1 : PEnv → Out (List D)} {g g1 : PgF} {c c1 : PEnv → Out Bool} {f : PEnv → Out D}
theorem drop_get {α : Type} {ds : List α} {i : Nat} {d : α} (hd : ds[i]? = some d) : ds.drop i = d :: ds.drop (i + 1) := by
  obtain ⟨h1, h2⟩ := List.getElem?_eq_some_iff.mp hd
  rw [List.drop_eq_getElem_cons h1, h2]
theorem lc2_go {own : List (Str × Nat)} (hts : ∀ i ∈ ts, i ∈ own.map (·.2)) (hts1 : ∀ i ∈ ts1, i ∈ vs1) (σ : L2.St) (H : Hp) (Q : VK) (h : tvF X E (eComp2 (own.map (·.2)) vs1 fi g c fi1 g1 c1 f) σ H Q) :
    tLc2 (tI X E fi) (pgR X ts g) (tb X XE0 c) (tI X XE0 fi1) (pgR X ts1 g1) (tb X XE0 c1) (tv X XE0 f) (own.map (·.2)) vs1 σ H Q := by
  obtain ⟨ρ, F, s, sl, q⟩ := h
  refine ⟨ρ, F, s, sl, ?_⟩
  unfold eComp2 at q
  cases hfi : fi ρ with
  | exc x => rw [hfi] at q; exact q
  | fail => rw [hfi] at q; exact q
  | ok ds =>
    rw [hfi, ok_bind] at q
    intro J F1 H1 gr1 yl Dd hD
    cases hcl : comp2L g c fi1 vs1 g1 c1 f (wipeP ρ (own.map (·.2))) ds with
    | exc x => exact absurd hcl (comp2L_noexc _ _ _ _ _ _ _ _ ds x)
    | fail => rw [hcl] at q; exact q.elim
    | ok ys =>
      rw [hcl, ok_bind] at q
      by_cases hf : fits ys.length = true
      · rw [if_pos hf] at q
        have hline := fits_line hf
        have fD : F1 Dd = none := gr1.into.free hD
        refine ⟨fun i m H2 => m = ds.length - i ∧ i ≤ ds.length ∧ ∃ F2 acc as, Grow F1 H1 F2 H2 ∧ F2 Dd = none ∧ H2 Dd = some (.lst acc) ∧ Reps (cw X) F2 acc as ∧ ∃ rest, comp2L g c fi1 vs1 g1 c1 f (wipeP ρ (own.map (·.2))) (ds.drop i) = .ok rest ∧ as ++ rest = ys,
          ⟨ds.length, by simp, Nat.zero_le _, F1, [], [], Grow.own gr1.into hD, fD, upd_same, .nil, ys, by rw [List.drop_zero]; exact hcl, rfl⟩, ?_⟩
        rintro i m H2 ⟨rfl, hi2, F2, acc, as, g2, fD2, hD2, ra, rest, hrest, hys⟩
        by_cases hlt : i < ds.length
        · refine .inr ⟨yl.go i F2 H2 g2.sub g2.into hlt, fun H3 => ∃ F2 acc as, Grow F1 H1 F2 H3 ∧ F2 Dd = none ∧ H3 Dd = some (.lst acc) ∧ Reps (cw X) F2 acc as ∧ ∃ rest, comp2L g c fi1 vs1 g1 c1 f (wipeP ρ (own.map (·.2))) (ds.drop (i + 1)) = .ok rest ∧ as ++ rest = ys,
            fun H3 z => ⟨ds.length - (i + 1), by omega, rfl, hlt, z⟩, fun x H3 hy => ?_⟩
          obtain ⟨d, F3, hd, g3, r3⟩ := yl.yld i F2 H2 x H3 g2.sub g2.into hy hlt
          obtain ⟨fD3, hD3⟩ := own_grow g3 fD2 hD2
          rw [drop_get hd] at hrest
          unfold comp2L at hrest
          cases hg2 : g d (wipeP ρ (own.map (·.2))) with
          | none => rw [hg2] at hrest; cases hrest
          | some ρ1 =>
            rw [hg2] at hrest
            dsimp only at hrest
            refine ⟨wipeP ρ (own.map (·.2)), F3, d, g3.into, slots_wipe (sl.mono ((gr1.sub.trans g2.sub).trans g3.sub)) _, r3, ρ1, hg2, fun σ2 sl2 b2 => ⟨wipe_but b2 hts, ρ1, F3, g3.into, sl2, ?_⟩⟩
            cases hc2 : c ρ1 with
            | exc _ => rw [hc2] at hrest; cases hrest
            | fail => rw [hc2] at hrest; cases hrest
            | ok bb =>
              rw [hc2] at hrest
              intro b F4 H4 g4 eb
              have eb : b = bb := eb
              subst eb
              obtain ⟨fD4, hD4⟩ := own_grow g4 fD3 hD3
              have g24 := (g2.trans g3).trans g4
              cases b with
              | false =>
                rw [if_neg Bool.false_ne_true]
                exact ⟨F4, acc, as, g24, fD4, hD4, ra.mono (g3.sub.trans g4.sub), rest, hrest, hys⟩
              | true =>
                rw [if_pos rfl]
                dsimp only at hrest
                refine ⟨ρ1, F4, g4.into, sl2.mono g4.sub, ?_⟩
                cases hf2 : fi1 ρ1 with
                | exc _ => rw [hf2] at hrest; cases hrest
                | fail => rw [hf2] at hrest; cases hrest
                | ok es =>
                  rw [hf2] at hrest
                  dsimp only at hrest
                  cases hin : compL g1 c1 f (wipeP ρ1 vs1) es with
                  | exc _ => exact absurd hin (compL_noexc _ _ _ _ _ _)
                  | fail => rw [hin] at hrest; cases hrest
                  | ok ins =>
                    rw [hin, ok_bind] at hrest
                    cases hr : comp2L g c fi1 vs1 g1 c1 f (wipeP ρ (own.map (·.2))) (ds.drop (i + 1)) with
                    | exc _ => rw [hr] at hrest; cases hrest
                    | fail => rw [hr] at hrest; cases hrest
                    | ok rest2 =>
                      rw [hr, ok_bind] at hrest
                      injection hrest with hrest
                      subst hrest
                      intro J1 F5 H5 g5 yl1
                      obtain ⟨fD5, hD5⟩ := own_grow g5 fD4 hD4
                      have g25 := g24.trans g5
                      refine ⟨fun j k H6 => k = es.length - j ∧ j ≤ es.length ∧ ∃ F6 acc as, Grow F1 H1 F6 H6 ∧ Same F5 F6 ∧ F6 Dd = none ∧ H6 Dd = some (.lst acc) ∧ Reps (cw X) F6 acc as ∧ ∃ r1, compL g1 c1 f (wipeP ρ1 vs1) (es.drop j) = .ok r1 ∧ as ++ (r1 ++ rest2) = ys,
                        ⟨es.length, by simp, Nat.zero_le _, F5, acc, as, g25, Same.refl _, fD5, hD5, ra.mono ((g3.sub.trans g4.sub).trans g5.sub), ins, by rw [List.drop_zero]; exact hin, hys⟩, ?_⟩
                      rintro j k H6 ⟨rfl, hj2, F6, acc, as, g6, sF, fD6, hD6, ra, r1, hr1, hys⟩
                      by_cases hjl : j < es.length
                      · refine .inr ⟨yl1.go j F6 H6 sF g6.into hjl, fun H7 => ∃ F6 acc as, Grow F1 H1 F6 H7 ∧ Same F5 F6 ∧ F6 Dd = none ∧ H7 Dd = some (.lst acc) ∧ Reps (cw X) F6 acc as ∧ ∃ r1, compL g1 c1 f (wipeP ρ1 vs1) (es.drop (j + 1)) = .ok r1 ∧ as ++ (r1 ++ rest2) = ys,
                          fun H7 z => ⟨es.length - (j + 1), by omega, rfl, hjl, z⟩, fun x H7 hy => ?_⟩
                        obtain ⟨e, F7, he, g7, r7⟩ := yl1.yld j F6 H6 x H7 sF g6.into hy hjl
                        obtain ⟨fD7, hD7⟩ := own_grow g7 fD6 hD6
                        rw [drop_get he] at hr1
                        unfold compL at hr1
                        cases hg3 : g1 e (wipeP ρ1 vs1) with
                        | none => rw [hg3] at hr1; cases hr1
                        | some ρ2 =>
                          rw [hg3] at hr1
                          dsimp only at hr1
                          refine ⟨wipeP ρ1 vs1, F7, e, g7.into, slots_wipe (sl2.mono (((g4.sub.trans g5.sub).trans sF).trans g7.sub)) _, r7, ρ2, hg3, fun σ3 sl3 b3 => ⟨wipe_but b3 hts1, ρ2, F7, g7.into, sl3, ?_⟩⟩
                          cases hc3 : c1 ρ2 with
                          | exc _ => rw [hc3] at hr1; cases hr1
                          | fail => rw [hc3] at hr1; cases hr1
                          | ok bb =>
                            rw [hc3] at hr1
                            intro b F8 H8 g8 eb
                            have eb : b = bb := eb
                            subst eb
                            obtain ⟨fD8, hD8⟩ := own_grow g8 fD7 hD7
                            have g68 := (g6.trans g7).trans g8
                            cases b with
                            | false =>
                              rw [if_neg Bool.false_ne_true]
                              exact ⟨F8, acc, as, g68, (sF.trans g7.sub).trans g8.sub, fD8, hD8, ra.mono (g7.sub.trans g8.sub), r1, hr1, hys⟩
                            | true =>
                              rw [if_pos rfl]
                              dsimp only at hr1
                              refine ⟨ρ2, F8, g8.into, sl3.mono g8.sub, ?_⟩
                              cases hf3 : f ρ2 with
                              | exc _ => rw [hf3] at hr1; cases hr1
                              | fail => rw [hf3] at hr1; cases hr1
                              | ok y =>
                                rw [hf3] at hr1
                                dsimp only at hr1
                                intro v F9 H9 g9 r9
                                obtain ⟨fD9, hD9⟩ := own_grow g9 fD8 hD8
                                cases hrr : compL g1 c1 f (wipeP ρ1 vs1) (es.drop (j + 1)) with
                                | exc _ => rw [hrr] at hr1; cases hr1
                                | fail => rw [hrr] at hr1; cases hr1
                                | ok r2 =>
                                  rw [hrr, ok_bind] at hr1
                                  injection hr1 with hr1
                                  subst hr1
                                  have hal : acc.length < ys.length := by
                                    rw [← hys, ra.length]
                                    simp
                                  refine ⟨acc, hD9, by rw [sizeLine_eq] at hline ⊢; omega, F9, acc ++ [v], as ++ [y], grow_upd (g68.trans g9) hD fD9, ((sF.trans g7.sub).trans g8.sub).trans g9.sub, fD9, upd_same, (ra.mono ((g7.sub.trans g8.sub).trans g9.sub)).append (.one r9), r2, rfl, ?_⟩
                                  rw [List.append_assoc, ← hys]
                                  rfl
                      · have ej : j = es.length := by omega
                        subst ej
                        rw [List.drop_length] at hr1
                        cases hr1
                        exact .inl ⟨yl1.stop _ F6 H6 sF g6.into (Nat.le_refl _), F6, acc, as, g6, fD6, hD6, ra, rest2, rfl, hys⟩
        · have ei : i = ds.length := by omega
          subst ei
          rw [List.drop_length] at hrest
          cases hrest
          rw [List.append_nil] at hys
          subst hys
          exact .inl ⟨yl.stop _ F2 H2 g2.sub g2.into (Nat.le_refl _), q (.ref Dd) [Dd] F2 H2 (gr1.trans g2) (.lst fD2 hD2 (owns_reps ra)) (by simp) (by simp) fun p hp => by rw [List.mem_singleton.mp hp]; exact gr1.same.free hD⟩
      · rw [if_neg hf] at q; exact q.elim
theorem vf_lc2 (hc : X.calm = true) (hN : X.N.Nodup) (ok : BlkOk X.N X.env.scope scope own) (hv : ∀ i ∈ vs1, i ∈ own.map (·.2)) (hi : VI X E tg iter fi)
    (hg : ∀ (s : Shared) (H : Hp) (C : Addr) (cl : List (Str × Addr)) (fp : List Addr), VP (X.blk s H scope (compEnvC scope cl C X.env) fp) ts tg g)
    (ht : ∀ (s : Shared) (H : Hp) (C : Addr) (cl : List (Str × Addr)) (fp : List Addr), VTs (X.blk s H scope (compEnvC scope cl C X.env) fp) XE0 ifs c)
    (hi1 : ∀ (s : Shared) (H : Hp) (C : Addr) (cl : List (Str × Addr)) (fp : List Addr), VI (X.blk s H scope (compEnvC scope cl C X.env) fp) XE0 tg1 iter1 fi1)
    (hg1 : ∀ (s : Shared) (H : Hp) (C : Addr) (cl : List (Str × Addr)) (fp : List Addr), VP (X.blk s H scope (compEnvC scope cl C X.env) fp) ts1 tg1 g1)
    (ht1 : ∀ (s : Shared) (H : Hp) (C : Addr) (cl : List (Str × Addr)) (fp : List Addr), VTs (X.blk s H scope (compEnvC scope cl C X.env) fp) XE0 ifs1 c1)
    (he : ∀ (s : Shared) (H : Hp) (C : Addr) (cl : List (Str × Addr)) (fp : List Addr), VE (X.blk s H scope (compEnvC scope cl C X.env) fp) XE0 elt f)
    (hts : ∀ i ∈ ts, i ∈ own.map (·.2)) (hts1 : ∀ i ∈ ts1, i ∈ vs1) (hs : ∀ x, foldedSetIterable iter X.env x = pure x := by intro _; rfl) (hs1 : ∀ env x, foldedSetIterable iter1 env x = pure x := by intro _ _; rfl) :
    VF X E (.ListComp elt [⟨tg, iter, ifs, 0⟩, ⟨tg1, iter1, ifs1, 0⟩] scope pos) (eComp2 (own.map (·.2)) vs1 fi g c fi1 g1 c1 f) :=
  ⟨pe_weak (pe_lc2 (g := pgR X ts g) (tt := tb X XE0 c) (wi1 := tI X XE0 fi1) (g1 := pgR X ts1 g1) (tt1 := tb X XE0 c1) (te := tv X XE0 f) hc hN hi.pi ok hv (fun s H C cl fp => (hg s H C cl fp).pg) (fun s H C cl fp => (ht s H C cl fp).pts)
    (fun s H C cl fp => (hi1 s H C cl fp).pi) (fun s H C cl fp => (hg1 s H C cl fp).pg) (fun s H C cl fp => (ht1 s H C cl fp).pts) (fun s H C cl fp => (he s H C cl fp).pe) hs hs1) (lc2_go hts hts1)⟩
end
end TP

end
set_option Elab.async false
set_option linter.all false
set_option maxRecDepth 100000
/-! The values layer: max, min, sum, all, any; extend; a, b = fresh, fresh; dict.get. -/
noncomputable section
namespace TP
variable [IOs]
open PySem PySem.Spec PyProof.Rows L2

/-! ### max, min, sum, all, any -/
def intsOf : List D → Option (List Int)
  | [] => some []
  | .int i :: r => (intsOf r).map (i :: ·)
  | _ => none
theorem intsOf_map (ns : List Int) : intsOf (ns.map .int) = some ns := by
  induction ns with
  | nil => rfl
  | cons n r ih => rw [List.map_cons, intsOf, ih]; rfl
theorem intsOf_eq : ∀ {l : List D} {ns : List Int}, intsOf l = some ns → l = ns.map .int
  | [], ns, h => by cases h; rfl
  | .int i :: r, ns, h => by
    unfold intsOf at h
    cases hr : intsOf r with
    | none => rw [hr] at h; cases h
    | some m => rw [hr] at h; cases h; rw [List.map_cons, intsOf_eq hr]
  | .non :: _, _, h => by cases h
  | .bl _ :: _, _, h => by cases h
  | .str _ :: _, _, h => by cases h
  | .tup _ :: _, _, h => by cases h
  | .lst _ :: _, _, h => by cases h
  | .scr _ :: _, _, h => by cases h
  | .dct _ :: _, _, h => by cases h
  | .set _ :: _, _, h => by cases h
def boolsOf : List D → Option (List Bool)
  | [] => some []
  | .bl i :: r => (boolsOf r).map (i :: ·)
  | _ => none
theorem boolsOf_map (ns : List Bool) : boolsOf (ns.map .bl) = some ns := by
  induction ns with
  | nil => rfl
  | cons n r ih => rw [List.map_cons, boolsOf, ih]; rfl
theorem boolsOf_eq : ∀ {l : List D} {ns : List Bool}, boolsOf l = some ns → l = ns.map .bl
  | [], ns, h => by cases h; rfl
  | .bl i :: r, ns, h => by
    unfold boolsOf at h
    cases hr : boolsOf r with
    | none => rw [hr] at h; cases h
    | some m => rw [hr] at h; cases h; rw [List.map_cons, boolsOf_eq hr]
  | .non :: _, _, h => by cases h
  | .int _ :: _, _, h => by cases h
  | .str _ :: _, _, h => by cases h
  | .tup _ :: _, _, h => by cases h
  | .lst _ :: _, _, h => by cases h
  | .scr _ :: _, _, h => by cases h
  | .dct _ :: _, _, h => by cases h
  | .set _ :: _, _, h => by cases h
theorem reps_intsV {c : KW} {F : Hp} : ∀ {ns : List Int} {xs : List V}, Reps c F xs (ns.map .int) → xs = ns.map V.int
  | [], _, .nil => rfl
  | n :: r, _, .cons (.int _) t => by rw [reps_intsV t]; rfl
theorem reps_boolsV {c : KW} {F : Hp} : ∀ {ns : List Bool} {xs : List V}, Reps c F xs (ns.map .bl) → xs = ns.map V.bl
  | [], _, .nil => rfl
  | n :: r, _, .cons (.bl _) t => by rw [reps_boolsV t]; rfl
/-- the greatest, the least -/
def maxI : Int → List Int → Int
  | m, [] => m
  | m, x :: r => maxI (if x > m then x else m) r
def minI : Int → List Int → Int
  | m, [] => m
  | m, x :: r => minI (if x < m then x else m) r
theorem maxI_ok : ∀ (m : Int) (l : List Int), maxI m l ∈ m :: l ∧ ∀ y ∈ m :: l, y ≤ maxI m l
  | m, [] => ⟨by simp [maxI], by simp [maxI]⟩
  | m, x :: r => by
    obtain ⟨h1, h2⟩ := maxI_ok (if x > m then x else m) r
    unfold maxI
    constructor
    · by_cases h : x > m
      · rw [if_pos h] at h1 ⊢
        exact List.mem_cons_of_mem _ h1
      · rw [if_neg h] at h1 ⊢
        rcases List.mem_cons.mp h1 with z | z
        · rw [z]; exact List.mem_cons_self
        · exact List.mem_cons_of_mem _ (List.mem_cons_of_mem _ z)
    · intro y hy
      have hb := h2 (if x > m then x else m) List.mem_cons_self
      rcases List.mem_cons.mp hy with rfl | hy
      · refine Int.le_trans ?_ hb
        split <;> omega
      · rcases List.mem_cons.mp hy with rfl | hy
        · refine Int.le_trans ?_ hb
          split <;> omega
        · exact h2 y (List.mem_cons_of_mem _ hy)
theorem minI_ok : ∀ (m : Int) (l : List Int), minI m l ∈ m :: l ∧ ∀ y ∈ m :: l, minI m l ≤ y
  | m, [] => ⟨by simp [minI], by simp [minI]⟩
  | m, x :: r => by
    obtain ⟨h1, h2⟩ := minI_ok (if x < m then x else m) r
    unfold minI
    constructor
    · by_cases h : x < m
      · rw [if_pos h] at h1 ⊢
        exact List.mem_cons_of_mem _ h1
      · rw [if_neg h] at h1 ⊢
        rcases List.mem_cons.mp h1 with z | z
        · rw [z]; exact List.mem_cons_self
        · exact List.mem_cons_of_mem _ (List.mem_cons_of_mem _ z)
    · intro y hy
      have hb := h2 (if x < m then x else m) List.mem_cons_self
      rcases List.mem_cons.mp hy with rfl | hy
      · refine Int.le_trans hb ?_
        split <;> omega
      · rcases List.mem_cons.mp hy with rfl | hy
        · refine Int.le_trans hb ?_
          split <;> omega
        · exact h2 y (List.mem_cons_of_mem _ hy)
def maxD : List D → Out D
  | [.int i, .int j] => .ok (.int (if j > i then j else i))
  | [.lst l] => (match intsOf l with | some (n :: r) => .ok (.int (maxI n r)) | _ => .fail)
  | _ => .fail
def minD : List D → Out D
  | [.int i, .int j] => .ok (.int (if j < i then j else i))
  | [.lst l] => (match intsOf l with | some (n :: r) => .ok (.int (minI n r)) | _ => .fail)
  | _ => .fail
def sumD : List D → Out D
  | [.lst l] => (match intsOf l with | some ns => .ok (.int ns.sum) | _ => .fail)
  | _ => .fail
def allD : List D → Out D
  | [.lst l] => (match boolsOf l with | some bs => .ok (.bl (bs.all id)) | _ => .fail)
  | _ => .fail
def anyD : List D → Out D
  | [.lst l] => (match boolsOf l with | some bs => .ok (.bl (bs.any id)) | _ => .fail)
  | _ => .fail
section
variable {X : Cx}
theorem callR_or {f : Value} {r r' : List V → Hp → VK → Prop} (h : CallR X f r) (h' : CallR X f r') : CallR X f fun xs H Q => r xs H Q ∨ r' xs H Q :=
  fun pins s σ H xs us Q I rx q => q.elim (fun q => h pins s σ H xs us Q I rx q) fun q => h' pins s σ H xs us Q I rx q
theorem call_maxV (hc : X.calm = true) : CallV X (.builtin "max") maxD := CallV.of (callR_or (call_max2 hc) (cr_max hc)) fun E F H xs ds Q s r q => by
  unfold maxD at q
  split at q
  · rename_i i j
    cases r with
    | cons r1 r2 => cases r2 with
      | cons r3 r4 => cases r1; cases r3; cases r4; exact .inl ⟨i, j, rfl, At.k s q (.int _)⟩
  · rename_i l
    split at q
    · rename_i n rr hl
      obtain rfl := intsOf_eq hl
      cases r with
      | cons r1 r2 =>
        cases r2
        cases r1 with
        | @lst a us _ h k =>
          obtain rfl := reps_intsV k
          refine .inr ⟨a, n :: rr, rfl, SqL.of (s _ _ h), by simp, fun m h1 h2 => ?_⟩
          obtain ⟨k1, k2⟩ := maxI_ok n rr
          have e : m = maxI n rr := Int.le_antisymm (k2 m h1) (h2 _ k1)
          rw [e]
          exact At.k s q (.int _)
    · exact q.elim
  · exact q.elim
theorem call_minV (hc : X.calm = true) : CallV X (.builtin "min") minD := CallV.of (callR_or (call_min2 hc) (cr_min hc)) fun E F H xs ds Q s r q => by
  unfold minD at q
  split at q
  · rename_i i j
    cases r with
    | cons r1 r2 => cases r2 with
      | cons r3 r4 => cases r1; cases r3; cases r4; exact .inl ⟨i, j, rfl, At.k s q (.int _)⟩
  · rename_i l
    split at q
    · rename_i n rr hl
      obtain rfl := intsOf_eq hl
      cases r with
      | cons r1 r2 =>
        cases r2
        cases r1 with
        | @lst a us _ h k =>
          obtain rfl := reps_intsV k
          refine .inr ⟨a, n :: rr, rfl, SqL.of (s _ _ h), by simp, fun m h1 h2 => ?_⟩
          obtain ⟨k1, k2⟩ := minI_ok n rr
          have e : m = minI n rr := Int.le_antisymm (h2 _ k1) (k2 m h1)
          rw [e]
          exact At.k s q (.int _)
    · exact q.elim
  · exact q.elim
theorem call_sumV (hc : X.calm = true) : CallV X (.builtin "sum") sumD := CallV.of (cr_sum hc) fun E F H xs ds Q s r q => by
  unfold sumD at q
  split at q
  · rename_i l
    split at q
    · rename_i ns hl
      obtain rfl := intsOf_eq hl
      cases r with
      | cons r1 r2 =>
        cases r2
        cases r1 with
        | @lst a us _ h k =>
          obtain rfl := reps_intsV k
          exact ⟨a, ns, rfl, SqL.of (s _ _ h), At.k s q (.int _)⟩
    · exact q.elim
  · exact q.elim
theorem call_allV (hc : X.calm = true) : CallV X (.builtin "all") allD := CallV.of (cr_all hc) fun E F H xs ds Q s r q => by
  unfold allD at q
  split at q
  · rename_i l
    split at q
    · rename_i ns hl
      obtain rfl := boolsOf_eq hl
      cases r with
      | cons r1 r2 =>
        cases r2
        cases r1 with
        | @lst a us _ h k =>
          obtain rfl := reps_boolsV k
          exact ⟨a, ns, rfl, SqL.of (s _ _ h), At.k s q (.bl _)⟩
    · exact q.elim
  · exact q.elim
theorem call_anyV (hc : X.calm = true) : CallV X (.builtin "any") anyD := CallV.of (cr_any hc) fun E F H xs ds Q s r q => by
  unfold anyD at q
  split at q
  · rename_i l
    split at q
    · rename_i ns hl
      obtain rfl := boolsOf_eq hl
      cases r with
      | cons r1 r2 =>
        cases r2
        cases r1 with
        | @lst a us _ h k =>
          obtain rfl := reps_boolsV k
          exact ⟨a, ns, rfl, SqL.of (s _ _ h), At.k s q (.bl _)⟩
    · exact q.elim
  · exact q.elim
end

/-! ### xs.extend(e) -/
def sExtend (i : Nat) (f : Env → Out D) : Env → Res := fun ρ => match ρ[i]? with
  | some (.own (.lst l)) => (match f ρ with
    | .ok (.lst m) => if fits (l.length + m.length) = true then .nx (ρ.set i (.own (.lst (l ++ m)))) else .fail
    | .exc x => .exc x ρ
    | _ => .fail)
  | _ => .fail
section
variable {X : Cx} {E : WX} {e a b : Expr} {f : Env → Out D} {pos : Pos}
theorem owns_app {c : KW} {F H : Hp} {us : List V} {es : List D} (r : Reps c F us es) : ∀ {fp : List Addr} {vs : List V} {ds : List D}, Owns c F H fp vs ds → Owns c F H fp (vs ++ us) (ds ++ es)
  | _, _, _, .nil => owns_reps r
  | _, _, _, .cons a t => by
    rw [List.cons_append, List.cons_append]
    exact .cons a (owns_app r t)
theorem vs_extend (i : Nat) {x : Str} {px apos cpos : Pos} (h : SE X E e f) (hN : X.N[i]? = some x := by rfl) (hv : Vis X.env.scope x := by first | exact Or.inl rfl | exact Or.inr (Or.inl rfl) | exact Or.inr (Or.inr rfl)) (hd : (x == ("__debug__" : Str)) = false := by decide)
    (hcd : (x == ("__classdict__" : Str)) = false := by decide)
    (hbase : attributeBase (.Name x px) "extend" X.env (eval (.Name x px) X.env) = eval (.Name x px) X.env := by rfl)
    (hfew : ((backTo cpos (starEach (e :: []) X.env)).all (fun x => !x.1) && (backToKw cpos (keywordEach [] X.env)).all (fun x => x.1.isSome)
      && decide ((e :: ([] : List Expr)).length + ([] : List Keyword).length + (if ([] : List Keyword).isEmpty then 0 else 1) < 30)) = true := by rfl)
    (hline : (apos.endLine == cpos.line) = true := by rfl) (hs : starEach (e :: []) X.env = (false, eval e X.env) :: starEach [] X.env := by rfl) (hplain : (backTo cpos (starEach [] X.env)).any (·.1) = false := by rfl)
    (hsw : swapsWith (.Call (.Attribute (.Name x px) "extend" apos) [e] [] cpos) none pos.line X.env = pure false := by rfl) :
    VS X E (.Expr (.Call (.Attribute (.Name x px) "extend" apos) [e] [] cpos) pos) (sExtend i f) :=
  ⟨ps_weak (ps_expr (pe_bm PySem.F.plainAttrs_list PySem.F.slot_list_extend PySem.F.type_list_extend mt_extend (pe_var hN hv hd hcd) (pa_cons h.pe pa_nil hs) hbase hfew hline hs hplain) hsw) fun D σ H ⟨ρ, F, F0, H0, er, q⟩ => by
    unfold sExtend at q
    split at q
    · rename_i l he
      obtain ⟨p, fq, hσ, ow, nd, k⟩ := er.mut he
      cases ow with
      | @lst _ xs _ _ hp1 hp2 os =>
        refine ⟨.ref p, hσ, .inl ⟨rfl, xs, SqL.of hp2⟩, ?_⟩
        have q' : Post X E D F0 H0 (match f ρ with
          | .ok d => (match d with
            | .lst m => if fits (l.length + m.length) = true then .nx (ρ.set i (.own (.lst (l ++ m)))) else .fail
            | _ => .fail)
          | .exc x => .exc x ρ
          | .fail => .fail) := by
          cases hf : f ρ with
          | ok d => rw [hf] at q; cases d <;> exact q
          | exc x => rw [hf] at q; exact q
          | fail => rw [hf] at q; exact q
        refine Post.bindE (k := fun d => match d with
            | .lst m => if fits (l.length + m.length) = true then .nx (ρ.set i (.own (.lst (l ++ m)))) else .fail
            | _ => .fail) er q' fun v d F1 H1 _ er1 r q1 => ?_
        obtain ⟨p', fq', hσ', ow', nd', k'⟩ := er1.mut he
        rw [hσ] at hσ'
        cases hσ'
        cases ow' with
        | @lst _ xs' _ _ hp1' hp2' os' =>
          cases r with
          | @lst b zs m hb rb =>
            have q2 : Post X E D F0 H0 (if fits (l.length + m.length) = true then .nx (ρ.set i (.own (.lst (l ++ m)))) else .fail) := q1
            by_cases hf : fits (l.length + m.length) = true
            · rw [if_pos hf] at q2
              have hl := fits_line hf
              refine ⟨p, b, xs', zs, rfl, rfl, hp2', er1.g.into _ _ hb, by rw [os'.length, rb.length]; omega, ?_⟩
              have hin : ∀ q ∈ fq', F1 q = none ∧ (upd H1 p (.lst (xs' ++ zs))) q = H1 q := fun q hq => by
                refine ⟨(os'.at q hq).1, upd_ne ?_⟩
                rintro rfl
                exact (List.nodup_cons.mp nd').1 hq
              exact q2 σ F1 _ (k' F1 H1 _ _ fq' (Grow.refl er1.g.into) (.lst hp1' upd_same (owns_app rb (os'.mono (Same.refl _) hin))) nd' fun q hq => .inl hq)
            · rw [if_neg hf] at q2; exact q2.elim
          | _ => exact q1.elim
    · exact q.elim⟩

/-! ### a, b = x, y, each plain or fresh -/
def mkS (b : Bool) (d : D) : Slot := if b = true then .own d else .val d
structure VB (X : Cx) (E : WX) (b : Bool) (e : Expr) (f : PEnv → Out D) : Prop where
  ve : b = false → VE X E e f
  vf : b = true → VF X E e f
theorem vb_val {f : PEnv → Out D} (h : VE X E e f) : VB X E false e f := ⟨fun _ => h, fun z => nomatch z⟩
theorem vb_own {f : PEnv → Out D} (h : VF X E e f) : VB X E true e f := ⟨fun z => (nomatch z), fun _ => h⟩
/-- what is wanted of an outcome that goes to a slot -/
def AtB (b : Bool) (c : KW) (mg : Str → Option Value) (E : XK) (F H : Hp) (o : Out D) (Q : VK) : Prop :=
  match o with
  | .ok d => ∀ v fp F' H', Grow F H F' H' → SlotR c F' H' (mkS b d) (some v) fp → fp.Nodup → (∀ p ∈ fp, H p = none) → Q v H'
  | .exc x => ∀ cl dx F' H', Grow F H F' H' → XRep c mg F' H' cl dx x → E cl dx H'
  | .fail => False
def tvB (b : Bool) (X : Cx) (E : WX) (f : PEnv → Out D) : TE := fun σ H Q => ∃ ρ F, Same F H ∧ Slots (cw X) F ρ σ ∧ AtB b (cw X) X.mg (xsE E σ) F H (f ρ) Q
theorem VB.pe {b : Bool} {f : PEnv → Out D} (h : VB X E b e f) : PE X e (tvB b X E f) := by
  cases b with
  | false =>
    refine pe_weak (h.ve rfl).pe fun σ H Q ⟨ρ, F, sm, sl, q⟩ => ⟨ρ, F, sm, sl, ?_⟩
    cases hf : f ρ with
    | ok d => rw [hf] at q; exact fun v F' H' g r => q v [] F' H' g (.val r) List.nodup_nil (fun p hp => by cases hp)
    | exc x => rw [hf] at q; exact q
    | fail => rw [hf] at q; exact q
  | true =>
    refine pe_weak (h.vf rfl).pe fun σ H Q ⟨ρ, F, sm, sl, q⟩ => ⟨ρ, F, sm, sl, ?_⟩
    cases hf : f ρ with
    | ok d => rw [hf] at q; exact fun v fp F' H' g r n nd fr => q v fp F' H' g (.own n r) nd fr
    | exc x => rw [hf] at q; exact q
    | fail => rw [hf] at q; exact q
def sParF (i j : Nat) (bi bj : Bool) (f g : PEnv → Out D) : Env → Res := fun ρ => match f (plain ρ) with
  | .ok x => (match g (plain ρ) with
    | .ok y => .nx ((ρ.set i (mkS bi x)).set j (mkS bj y))
    | .exc z => .exc z ρ
    | .fail => .fail)
  | .exc z => .exc z ρ
  | .fail => .fail
theorem vs_parF (i j : Nat) {bi bj : Bool} {x y : Str} {f g : PEnv → Out D} {px py pt : Pos} {kt k2 pt2} (hc : X.calm = true) (hN : X.N.Nodup) (ha : VB X E bi a f) (hb : VB X E bj b g) (hij : i ≠ j := by decide) (hi : X.N[i]? = some x := by rfl) (hj : X.N[j]? = some y := by rfl)
    (hx : X.env.scope.names.lookup x = some .local := by rfl) (hy : X.env.scope.names.lookup y = some .local := by rfl)
    (hs1 : starEach [a, b] X.env = (false, eval a X.env) :: starEach [b] X.env := by rfl) (hs2 : starEach [b] X.env = (false, eval b X.env) :: starEach [] X.env := by rfl)
    (hw : swappedStores [.Tuple [.Name x px, .Name y py] kt pt] (.Tuple [a, b] k2 pt2) X.env = pure (some [x, y]) := by rfl)
    (hs : swapsWithSole [.Tuple [.Name x px, .Name y py] kt pt] (.Tuple [a, b] k2 pt2) pos.line X.env = pure false := by rfl) :
    VS X E (.Assign [.Tuple [.Name x px, .Name y py] kt pt] (.Tuple [a, b] k2 pt2) pos) (sParF i j bi bj f g) :=
  ⟨ps_weak (ps_par hc hN hi hj hij hx hy (pa_cons ha.pe (pa_cons hb.pe pa_nil hs2) hs1) hw hs) fun D σ H ⟨ρ, F, F0, H0, er, q⟩ => by
    obtain ⟨fp, hsl, _, _⟩ := er.ex
    refine ⟨plain ρ, F, er.g.into, hsl.plain, ?_⟩
    unfold sParF at q
    cases hf : f (plain ρ) with
    | ok d =>
      rw [hf] at q
      dsimp only at q
      intro v fq F1 H1 g1 r1 nd1 fr1
      have er1 := er.put (i := i) g1 r1 nd1 fr1
      obtain ⟨fp1, hsl1, _, _⟩ := (er.mono g1).ex
      refine ⟨plain ρ, F1, g1.into, hsl1.plain, ?_⟩
      cases hg : g (plain ρ) with
      | ok d2 =>
        rw [hg] at q
        intro u fq2 F2 H2 g2 r2 nd2 fr2
        exact ⟨v, u, rfl, q _ F2 H2 (er1.put (i := j) g2 r2 nd2 fr2)⟩
      | exc z => rw [hg] at q; exact fun cl dx F2 H2 g2 r => q cl dx σ F2 H2 ((er.mono g1).mono g2) r
      | fail => rw [hg] at q; exact q
    | exc z => rw [hf] at q; exact fun cl dx F1 H1 g r => q cl dx σ F1 H1 (er.mono g) r
    | fail => rw [hf] at q; exact q⟩

/-! ### what is fresh, read with the own ones lent, as a value -/
def pLF (f : PEnv → Out D) : Env → Out D := fun ρ => match f (lent ρ) with
  | .ok d => if flatOwn d = true then .ok d else .fail
  | .exc x => if keyX x = true then .exc x else .fail
  | .fail => .fail
theorem se_fresh {f : PEnv → Out D} (h : VF X E e f) : SE X E e (pLF f) := ⟨pe_weak h.pe fun σ H Q ⟨ρ, F, F0, H0, er, q⟩ => by
  obtain ⟨fp, hsl, _, _⟩ := er.ex
  have n := hsl.at
  refine ⟨lent ρ, lend F H fp, lend_into er.g.into, hsl.lent (lend_sub fun p hp => (n p hp).1) fun p hp => lend_in hp, ?_⟩
  unfold pLF at q
  cases hf : f (lent ρ) with
  | ok d =>
    rw [hf] at q
    dsimp only at q
    intro v fq F1 H1 g o nq nd fr
    by_cases hk : flatOwn d = true
    · rw [if_pos hk] at q
      have out : ∀ p ∈ fq, p ∉ fp := fun p hp z => by
        have y := (n p z).2
        rw [fr p hp] at y
        exact y
      have q2 : AtF (cw X) X.mg (xsE E σ) F H (.ok d) Q := AtF.of q
      exact q2 v fq _ H1 (unlend_grow n g) (own_unlend n g o nq hk out) nq nd fr
    · rw [if_neg hk] at q; exact q.elim
  | exc x =>
    rw [hf] at q
    dsimp only at q
    by_cases hk : keyX x = true
    · rw [if_pos hk] at q
      exact fun cl dx F1 H1 g r => q cl dx _ H1 (unlend_grow n g) (unlend_x n g r hk)
    · rw [if_neg hk] at q; exact q.elim
  | fail => rw [hf] at q; exact q⟩

/-! ### d.get(k, x) -/
def dget2D (d k x : D) : Out D := match d with
  | .dct ds => if keyFits ds k = true then .ok ((dlook ds k).getD x) else .fail
  | _ => .fail
def e3 (r : D → D → D → Out D) (f g h : PEnv → Out D) : PEnv → Out D := fun ρ => (f ρ).bind fun x => (g ρ).bind fun y => (h ρ).bind fun z => r x y z
theorem dict_is {pins : List (Addr × Obj)} {σ : L2.St} {H F : Hp} {s : Shared} {v : V} {u : Value} {ds : List (D × D)} (I : Inv X pins σ H s) (sm : Same F H) (r : Rep (cw X) F v (.dct ds)) (rv : RelV v u) :
    ∃ a, v = .ref a ∧ u = .ref a ∧ s.TypeIs (.ref a) "dict" ∧ (∀ b, Value.ref a = .ref b → ∃ ob, s.heap.get? b = some ob ∧ ob.dict = none) ∧ (a == sysModules) = false := by
  cases r with
  | @dK a kvs _ h r =>
    cases rv
    exact ⟨a, rfl, rfl, isD_at I (.inl ⟨kvs, .inl (sm _ _ h)⟩)⟩
  | @dN a xs _ h r =>
    cases rv
    obtain ⟨z1, z2, dd⟩ := dN_of I sm (sm _ _ h) r
    refine ⟨a, rfl, rfl, dd.typeIs, fun b q => ?_, z1⟩
    cases q
    obtain ⟨o, es, ep, h1, h2, h3, _⟩ := dd
    exact ⟨o, h1, h2.2.1⟩
theorem get_dict {pins : List (Addr × Obj)} {σ : L2.St} {H F : Hp} {s : Shared} {v y z : V} {u uy uz : Value} {ds : List (D × D)} {k x : D} {Q : VK} {E' : XK} (hu : X.A.units + 65 < cLine) (I : Inv X pins σ H s) (sm : Same F H) (r : Rep (cw X) F v (.dct ds)) (rv : RelV v u)
    (rk : Rep (cw X) F y k) (ry : RelV y uy) (rx : Rep (cw X) F z x) (rz : RelV z uz) (q : At (cw X) X.mg E' (Rep (cw X)) F H (dget2D (.dct ds) k x) Q) : wpAny (model X.prog X.w) X.A (call (.builtin "dict.get") [u, uy, uz]) (EP X pins σ Q) X.xe s := by
  have q : At (cw X) X.mg E' (Rep (cw X)) F H (if keyFits ds k = true then .ok ((dlook ds k).getD x) else .fail) Q := q
  by_cases hf : keyFits ds k = true
  · rw [if_pos hf] at q
    by_cases ht : isTupD k = true
    · obtain ⟨hk1, hk2, hk3⟩ := tupKey_of hf ht
      obtain ⟨c, rfl⟩ := tupRef rk ht
      cases ry
      cases r with
      | @dK a kvs _ h r =>
        obtain ⟨rfl, rfl⟩ := kvs_tup r hk3
        cases rv
        obtain ⟨_, hd, vs, rel, dd⟩ := dk_of I.hok (sm _ _ h)
        cases rel
        have d2 := dK_nil dd
        exact call_meetsIn PySem.F.slot_dict_get d2.typeIs PySem.F.entry_dict_get (PySem.F.args_dict_get_3 _ _ _) (meetsH_dict_get_default (nestedKind X.prog X.w) a c hd uz) ⟨room_in1 hu, k.key, [], ⟨(rk.mono sm).nested I rfl hk1, hk2⟩, d2, ⟨z, H, I.tok _, rz, At.k sm q rx⟩⟩
      | @dN a xs _ h r =>
        cases rv
        obtain ⟨z1, z2, dd⟩ := dN_of I sm (sm _ _ h) r
        refine call_meetsIn PySem.F.slot_dict_get dd.typeIs PySem.F.entry_dict_get (PySem.F.args_dict_get_3 _ _ _) (meetsH_dict_get_default (nestedKind X.prog X.w) a c z1 uz) ⟨room_in1 hu, k.key, xs, ⟨(rk.mono sm).nested I rfl hk1, hk2⟩, dd, ?_⟩
        rcases r.look (d := k) with ⟨h1, h2⟩ | ⟨b, u', v', e, h1, h2, rv', h3⟩
        · rw [h1]
          rw [h2] at q
          exact ⟨z, H, I.tok _, rz, At.k sm q rx⟩
        · rw [h1]
          rw [h2] at q
          exact ⟨v', H, I.tok _, rv', At.k sm q h3⟩
    · obtain ⟨⟨i, hi⟩, hk3⟩ := flatK_of hf ht
      obtain rfl := flat_rep rk hi
      cases r with
      | @dK a kvs _ h r =>
        cases rv
        have g : DGet H a (kV i) (valV kvs i) := DGet.k (sm _ _ h)
        refine d_get2 (by omega) I g ry rz fun w' s4 I4 rw' => ⟨_, H, I4, rw', ?_⟩
        rcases r.look hi with ⟨h1, h2⟩ | ⟨v', e, h1, h2, h3⟩
        · rw [h1]
          rw [h2] at q
          exact At.k sm q rx
        · rw [h1]
          rw [h2] at q
          exact At.k sm q h3
      | @dN a xs _ h r =>
        obtain ⟨rfl, rfl⟩ := nvs_flat r hk3
        cases rv
        obtain ⟨z1, z2, dd⟩ := dN_of I sm (sm _ _ h) r
        have d2 := nN_nil dd
        exact call_meetsIn PySem.F.slot_dict_get d2.typeIs PySem.F.entry_dict_get (PySem.F.args_dict_get_3 _ _ _) (meets_dict_get_default (mixKind X.prog X.w) a (kV_is ry) z1 uz) ⟨_, d2.mapOf, ⟨z, H, I.tok _, rz, At.k sm q rx⟩⟩
  · rw [if_neg hf] at q; exact q.elim
/-- d.get(k, x): the dict is looked at first -/
def eGet2 (f g h : PEnv → Out D) : PEnv → Out D := fun ρ => (f ρ).bind fun d => match d with
  | .dct ds => (g ρ).bind fun y => (h ρ).bind fun z => dget2D (.dct ds) y z
  | _ => .fail
theorem ve_dget2 {o e e' : Expr} {f g h : PEnv → Out D} {apos cpos : Pos} (hu : X.A.units + 65 < cLine) (ho : VE X E o f) (he : VE X E e g) (he' : VE X E e' h) (m : M2 X o "get" apos e e' cpos := by exact ⟨rfl, rfl, rfl, rfl⟩) :
    VE X E (.Call (.Attribute o "get" apos) [e, e'] [] cpos) (eGet2 f g h) := by
  refine ⟨⟨fun pins s σ H Q I ⟨ρ, F, sm, sl, q⟩ => ?_⟩⟩
  have hv := ho.pe.run pins s σ H _ I (tv_bind (Q' := fun v H1 => ∃ F1 d, Same F1 H1 ∧ Slots (cw X) F1 ρ σ ∧ Rep (cw X) F1 v d ∧ At (cw X) X.mg (xsE E σ) (Rep (cw X)) F1 H1 (match d with
    | .dct ds => (g ρ).bind fun y => (h ρ).bind fun z => dget2D (.dct ds) y z
    | _ => .fail) Q) sm sl q fun v F1 H1 d s1 e1 sl1 r1 q1 => ⟨F1, d, s1, sl1, r1, q1⟩)
  refine wpAny_Call_method m.base m.few m.line PySem.F.plainAttrs_dict PySem.F.slot_dict_get PySem.F.type_dict_get (thn hv fun u s1 ⟨x, H1, I1, rx, F1, d, s1', sl1, r1, q1⟩ => ?_)
  cases d with
  | dct ds =>
    obtain ⟨a, rfl, rfl, t1, t2, t3⟩ := dict_is I1 s1' r1 rx
    refine ⟨t1, t2, ?_⟩
    rw [m.trees]
    have q1 : At (cw X) X.mg (xsE E σ) (Rep (cw X)) F1 H1 ((g ρ).bind fun y => (h ρ).bind fun z => dget2D (.dct ds) y z) Q := q1
    refine Calls.callWith_builtin rfl (Calls.evalArgs_plain (Calls.spliced_cons (thn (he.pe.run pins s1 σ H1 _ I1 (tv_bind (Q' := fun v H2 => ∃ F2 y, Same F2 H2 ∧ Same F1 F2 ∧ Slots (cw X) F2 ρ σ ∧ Rep (cw X) F2 v y ∧ At (cw X) X.mg (xsE E σ) (Rep (cw X)) F2 H2 ((h ρ).bind fun z => dget2D (.dct ds) y z) Q) s1' sl1 q1 fun v F2 H2 y s2 e2 sl2 r2 q2 => ⟨F2, y, s2, e2, sl2, r2, q2⟩)) fun iv s2 ⟨y, H2, I2, ry, F2, k, s2', e2, sl2, r2, q2⟩ =>
      Calls.spliced_cons (thn (he'.pe.run pins s2 σ H2 _ I2 (tv_bind (Q' := fun v H3 => ∃ F3 z, Same F3 H3 ∧ Same F2 F3 ∧ Rep (cw X) F3 v z ∧ At (cw X) X.mg (xsE E σ) (Rep (cw X)) F3 H3 (dget2D (.dct ds) k z) Q) s2' sl2 q2 fun v F3 H3 z s3 e3 sl3 r3 q3 => ⟨F3, z, s3, e3, r3, q3⟩)) fun fv s3 ⟨z, H3, I3, rz, F3, x, s3', e3, r3, q3⟩ => Calls.spliced_nil ?_))))
    exact get_dict hu I3 s3' ((r1.mono e2).mono e3) rfl (r2.mono e3) ry r3 rz q3
  | _ => exact q1.elim
end
end TP

end
set_option Elab.async false
set_option linter.all false
set_option maxRecDepth 100000
/-! The values layer: isinstance of two types, shifts, abs, x += e, keywords. -/
noncomputable section
namespace TP
variable [IOs]
open PySem PySem.Spec L2

/-! ### isinstance(x, (T, U)) -/
def isi2D (T U : String) : D → Out D := fun d => .ok (.bl (isiB T d || isiB U d))
section
variable {X : Cx} {E : WX} {a b e : Expr} {f g : PEnv → Out D} {pos : Pos}
def rIsi2 (X : Cx) (E : XK) (T U : String) : List V → Hp → VK → Prop := fun xs H Q => ∃ x tp F d, xs = [x, .ref tp] ∧ H tp = some (.tup [.ty T, .ty U]) ∧ Same F H ∧ Rep (cw X) F x d ∧ At (cw X) X.mg E (Rep (cw X)) F H (isi2D T U d) Q
theorem call_isi2 {T U : String} (E : XK) (hT : T ∈ ["str", "int", "bool", "tuple", "list", "dict", "set"]) (hU : U ∈ ["str", "int", "bool", "tuple", "list", "dict", "set"]) : CallR X (.builtin "isinstance") (rIsi2 X E T U) := by
  rintro pins s σ H xs us Q I r ⟨x, tp, F, d, rfl, hT2, sm, rd, q⟩
  obtain ⟨u1, u2, rfl, r1, r2⟩ := vals2 r
  cases (show u2 = Value.ref tp from r2)
  obtain ⟨P, Z, p, hx⟩ := kit_rep I r1 (rd.mono sm)
  obtain ⟨_, its, rv, o, h1, h2, n, h3⟩ := (show ObjOk X.prog X.w H s.heap tp (.tup [.ty T, .ty U]) from I.hok tp _ hT2)
  cases rv with
  | cons v1 vr =>
    cases vr with
    | cons v2 vr2 =>
      cases vr2
      cases v1
      cases v2
      obtain ⟨oc, od, dt, sl⟩ := o
      simp only at h2 h3
      subst h2 h3
      have e1 := kit_ty (K := X.K) (kit_all T hT d.ty (ty_mem d))
      have e2 := kit_ty (K := X.K) (kit_all U hU d.ty (ty_mem d))
      have e : PySem.W.kitAny X.K (.type d.ty) [.type T, .type U] = some (isiB T d || isiB U d) := by
        unfold isiB
        refine kitAny_cons e1 (fun hf => ?_) (fun ht => by rw [ht]; rfl)
        rw [hf, Bool.false_or]
        exact kitAny_cons e2 (fun hf2 => by rw [hf2]; rfl) (fun ht => ht)
      exact PySem.W.kia_tup Z I.kIn p h1 e hx fun tk => ⟨.bl _, H, I.tok tk, rfl, At.k sm q (.bl _)⟩
theorem ve_isi2 {T U : String} {x y : Str} {p p2 p3 p4 : Pos} {k : Nat} (hg : Gl X "isinstance") (hm : X.mg "isinstance" = none) (hg2 : Gl X x) (hm2 : X.mg x = none) (hg3 : Gl X y) (hm3 : X.mg y = none)
    (hT : T ∈ ["str", "int", "bool", "tuple", "list", "dict", "set"]) (hU : U ∈ ["str", "int", "bool", "tuple", "list", "dict", "set"]) (hv2 : bootBuiltins x = some (.type T)) (hv3 : bootBuiltins y = some (.type U)) (ha : VE X E a f)
    (hn : x ≠ "__name__" := by decide) (hd : (x == ("__debug__" : Str)) = false := by decide) (hn3 : y ≠ "__name__" := by decide) (hd3 : (y == ("__debug__" : Str)) = false := by decide)
    (hs : starEach [a, .Tuple [.Name x p2, .Name y p3] k p4] X.env = (false, eval a X.env) :: starEach [.Tuple [.Name x p2, .Name y p3] k p4] X.env := by rfl) (hs2 : starEach [.Tuple [.Name x p2, .Name y p3] k p4] X.env = (false, eval (.Tuple [.Name x p2, .Name y p3] k p4) X.env) :: starEach [] X.env := by rfl)
    (hs3 : starEach [.Name x p2, .Name y p3] X.env = (false, eval (.Name x p2) X.env) :: starEach [.Name y p3] X.env := by rfl) (hs4 : starEach [.Name y p3] X.env = (false, eval (.Name y p3) X.env) :: starEach [] X.env := by rfl)
    (hpl : (backTo pos (starEach [.Tuple [.Name x p2, .Name y p3] k p4] X.env)).any (·.1) = false := by rfl) : VE X E (.Call (.Name "isinstance" p) [a, .Tuple [.Name x p2, .Name y p3] k p4] [] pos) (e1 (isi2D T U) f) :=
  ⟨pe_weak (pe_at (E := E) fun E' => pe_callB (call_isi2 E' hT hU) hg hm PyProof.Rows.boot_isinstance (pa_cons ha.pe (pa_cons (pe_tup (pa_cons (pe_bltn (v := .ty T) hg2 hm2 hv2 rfl hn hd) (pa_cons (pe_bltn (v := .ty U) hg3 hm3 hv3 rfl hn3 hd3) pa_nil hs4) hs3)) pa_nil hs2) hs) (by decide) (by decide) hs hpl) fun σ H Q ⟨ρ, F, s, sl, q⟩ =>
    tv_bind s sl q fun v F1 H1 d s1 e1 sl1 r1 q1 => ⟨by show 2 ≤ sizeLine; decide, fun p hp => by
      have gr := Grow.laid (o := .tup [.ty T, .ty U]) s1 hp
      refine ⟨v, p, _, d, rfl, upd_same, gr.into, r1.mono gr.sub, ?_⟩
      unfold isi2D at q1 ⊢
      exact fun b F2 H2 g2 r2 => q1 b F2 H2 (gr.trans g2) r2⟩⟩

/-! ### shifts, abs -/
def shlD : D → D → Out D
  | .int i, .int j => if decide (0 ≤ j) && decide (j ≤ 1000000) && decide (i.natAbs < 2 ^ 64) then .ok (.int (i * 2 ^ j.toNat)) else .fail
  | _, _ => .fail
theorem op_shlD : OpV X (binaryOp .LShift) shlD := OpV.of op_shl fun E F H x y a b Q s ra rb q => by
  cases ra with
  | int i => cases rb with
    | int j =>
      have q' : At (cw X) X.mg E (Rep (cw X)) F H (if decide (0 ≤ j) && decide (j ≤ 1000000) && decide (i.natAbs < 2 ^ 64) then .ok (.int (i * 2 ^ j.toNat)) else .fail) Q := q
      by_cases hf : (decide (0 ≤ j) && decide (j ≤ 1000000) && decide (i.natAbs < 2 ^ 64)) = true
      · rw [if_pos hf] at q'
        obtain ⟨h1, h2, h3⟩ := and3 hf
        exact ⟨i, j, rfl, rfl, ⟨of_decide_eq_true h1, of_decide_eq_true h2, of_decide_eq_true h3⟩, At.k s q' (.int _)⟩
      · rw [if_neg hf] at q'; exact q'.elim
    | _ => exact q.elim
  | _ => exact q.elim
def absD : List D → Out D
  | [.int i] => .ok (.int (if i < 0 then -i else i))
  | _ => .fail
theorem call_absV : CallV X (.builtin "abs") absD := CallV.of call_abs fun E F H xs ds Q s r q => by
  unfold absD at q
  split at q
  · rename_i i
    cases r with
    | cons r1 r2 => cases r1; cases r2; exact ⟨i, rfl, At.k s q (.int _)⟩
  · exact q.elim

/-! ### str -/
def strX (i : Int) : Str := Str.ofString (toString i)
def strD : List D → Out D
  | [.int i] => if (decide (i.natAbs.log2 < 1920) && PyData.strOk (strX i) && decide ((strX i).length ≤ 16777216)) = true then .ok (.str (strX i)) else .fail
  | [.str x] => .ok (.str x)
  | _ => .fail
theorem call_strV : CallV X (.type "str") strD := CallV.of (callR_or call_str_int SkE.call_str_str) fun E F H xs ds Q s r q => by
  unfold strD at q
  split at q
  · rename_i i
    by_cases h : (decide (i.natAbs.log2 < 1920) && PyData.strOk (strX i) && decide ((strX i).length ≤ 16777216)) = true
    · rw [if_pos h] at q
      obtain ⟨h1, h2, h3⟩ := and3 h
      cases r with
      | cons r1 r2 => cases r1; cases r2; exact .inl ⟨i, rfl, of_decide_eq_true h1, At.k s q (.str _ ⟨h2, by rw [sizeLine_eq]; exact of_decide_eq_true h3⟩)⟩
    · rw [if_neg h] at q; exact q.elim
  · rename_i x
    cases r with
    | cons r1 r2 => cases r2; cases r1 with | str _ hx => exact .inr ⟨x, rfl, At.k s q (.str x hx)⟩
  · exact q.elim

/-! ### x += e of numbers -/
def iaddD : D → D → Out D
  | .int i, .int j => .ok (.int (i + j))
  | _, _ => .fail
def isubD : D → D → Out D
  | .int i, .int j => .ok (.int (i - j))
  | _, _ => .fail
theorem iop_addD : OpV X (inplaceOp .Add) iaddD := OpV.of iop_add fun E F H x y a b Q s ra rb q => by
  cases ra with
  | int i => cases rb with
    | int j => exact ⟨i, j, rfl, rfl, At.k s q (.int _)⟩
    | _ => exact q.elim
  | _ => exact q.elim
theorem iop_subD : OpV X (inplaceOp .Sub) isubD := OpV.of iop_sub fun E F H x y a b Q s ra rb q => by
  cases ra with
  | int i => cases rb with
    | int j => exact ⟨i, j, rfl, rfl, At.k s q (.int _)⟩
    | _ => exact q.elim
  | _ => exact q.elim
def sAug (i : Nat) (h : D → D → Out D) (f : Env → Out D) : Env → Res := fun ρ => match ρ[i]? with
  | some (.val x) => (match f ρ with
    | .ok y => (match h x y with
      | .ok z => .nx (ρ.set i (.val z))
      | .exc w => .exc w ρ
      | .fail => .fail)
    | .exc w => .exc w ρ
    | .fail => .fail)
  | _ => .fail
theorem SlotsR.valAt {c : KW} {F H : Hp} {ρ : Env} {σ : L2.St} {fp : List Addr} {i : Nat} {d : D} (h : SlotsR c F H ρ σ fp) (e : ρ[i]? = some (.val d)) : ∃ v, σ[i]? = some (some v) ∧ Rep c F v d := by
  have hp : (TP.plain ρ)[i]? = some (some d) := by rw [List.getElem?_map, e]; rfl
  exact h.plain i d hp
theorem vs_aug (i : Nat) {op : Operator} {h : D → D → Out D} {x : Str} {px : Pos} {f : Env → Out D} (hN : X.N.Nodup) (ho : OpV X (inplaceOp op) h) (he : SE X E e f) (hi : X.N[i]? = some x := by rfl) (hx : Loc X.env.scope x := by first | exact Or.inl rfl | exact Or.inr rfl)
    (hf : X.fn x = true ∨ X.env.scope.names.lookup x = some .local := by first | exact .inl rfl | exact .inr rfl) : VS X E (.AugAssign (.Name x px) op e pos) (sAug i h f) := by
  refine ⟨⟨fun pins s σ H D I ⟨ρ, F, F0, H0, er, q⟩ => ?_⟩⟩
  unfold sAug at q
  split at q
  · rename_i d hd
    obtain ⟨fp, hs, _, _⟩ := er.ex
    obtain ⟨v, hv, rv⟩ := hs.valAt hd
    have ip : PIp X op (fun x y H Q => ∃ F a b, Same F H ∧ Rep (cw X) F x a ∧ Rep (cw X) F y b ∧ At (cw X) X.mg (xsE E σ) (Rep (cw X)) F H (h a b) Q) := fun pins s σ' H x y v u Q I rx ry q => ho (xsE E σ) pins s σ' H x y v u Q I rx ry q
    refine (ps_aug hN hi hx he.pe ip hf).run pins s σ H D I ⟨v, hv, Post.bindE (k := fun y => match h d y with | .ok z => .nx (ρ.set i (.val z)) | .exc w => .exc w ρ | .fail => .fail) er q fun u y F1 H1 _ er1 r q1 => ?_⟩
    obtain ⟨fp1, hs1, _, _⟩ := er1.ex
    obtain ⟨v1, hv1, rv1⟩ := hs1.valAt hd
    rw [hv] at hv1
    cases hv1
    refine ⟨F1, d, y, er1.g.into, rv1, r, ?_⟩
    cases hh : h d y with
    | ok z => rw [hh] at q1; exact fun w F2 H2 g2 r2 => q1 _ F2 H2 ((er1.mono g2).val r2)
    | exc z => rw [hh] at q1; exact fun cl dx F2 H2 g2 r2 => q1 cl dx σ F2 H2 (er1.mono g2) r2
    | fail => rw [hh] at q1; exact q1
  · exact q.elim
end

/-! ### for x in xs, xs an own list -/
/-- no slot has this tag -/
def tagOk (K : Nat) : Slot → Bool
  | .io k _ => k != K
  | _ => true
def tagsFree (K : Nat) (ρ : Env) : Bool := ρ.all (tagOk K)
/-- one tag more -/
def withIO (I : IOs) (K : Nat) (v : V) : IOs := ⟨fun k => if k = K then some v else I.io k⟩
theorem tags_cons {K : Nat} {s : Slot} {ρ : Env} (h : tagsFree K (s :: ρ) = true) : tagOk K s = true ∧ tagsFree K ρ = true := by
  unfold tagsFree at h
  rw [List.all_cons, Bool.and_eq_true] at h
  exact h
theorem SlotR.tag {I : IOs} {K : Nat} {w : V} {c : KW} {F H : Hp} {s : Slot} {o : Option V} {fp : List Addr} (h : @SlotR I c F H s o fp) (k : tagOk K s = true) : @SlotR (withIO I K w) c F H s o fp := by
  cases h with
  | un => exact @SlotR.un (withIO I K w) _ _ _ _
  | val r => exact @SlotR.val (withIO I K w) _ _ _ _ _ r
  | own n r => exact @SlotR.own (withIO I K w) _ _ _ _ _ _ n r
  | @io k' v d fp n r q =>
    refine @SlotR.io (withIO I K w) _ _ _ _ _ _ _ n r ?_
    have hk : k' ≠ K := by simpa [tagOk] using k
    show (if k' = K then some w else I.io k') = some v
    rw [if_neg hk]; exact q
theorem SlotR.untag {I : IOs} {K : Nat} {w : V} {c : KW} {F H : Hp} {s : Slot} {o : Option V} {fp : List Addr} (h : @SlotR (withIO I K w) c F H s o fp) (k : tagOk K s = true) : @SlotR I c F H s o fp := by
  cases h with
  | un => exact @SlotR.un I _ _ _ _
  | val r => exact @SlotR.val I _ _ _ _ _ r
  | own n r => exact @SlotR.own I _ _ _ _ _ _ n r
  | @io k' v d fp n r q =>
    refine @SlotR.io I _ _ _ _ _ _ _ n r ?_
    have hk : k' ≠ K := by simpa [tagOk] using k
    have q' : (if k' = K then some w else I.io k') = some v := q
    rw [if_neg hk] at q'; exact q'
theorem SlotsR.tagAll {I : IOs} {K : Nat} {w : V} {c : KW} {F H : Hp} {ρ : Env} {σ : L2.St} {fp : List Addr} (h : @SlotsR I c F H ρ σ fp) : tagsFree K ρ = true → @SlotsR (withIO I K w) c F H ρ σ fp := by
  induction h with
  | nil => intro _; exact @SlotsR.nil (withIO I K w) _ _ _ _
  | cons a b ih => intro ht; exact @SlotsR.cons (withIO I K w) _ _ _ _ _ _ _ _ _ (a.tag (tags_cons ht).1) (ih (tags_cons ht).2)
theorem SlotsR.untagAll {I : IOs} {K : Nat} {w : V} {c : KW} {F H : Hp} {ρ : Env} {σ : L2.St} {fp : List Addr} (h : @SlotsR (withIO I K w) c F H ρ σ fp) : tagsFree K ρ = true → @SlotsR I c F H ρ σ fp := by
  induction h with
  | nil => intro _; exact @SlotsR.nil I _ _ _ _
  | cons a b ih => intro ht; exact @SlotsR.cons I _ _ _ _ _ _ _ _ _ (a.untag (tags_cons ht).1) (ih (tags_cons ht).2)
theorem SlotsR.tag {I : IOs} {K : Nat} {w : V} {c : KW} {F H : Hp} {ρ : Env} {σ : L2.St} {fp : List Addr} {d : D} (h : @SlotsR I c F H ρ σ fp) : ∀ i : Nat, tagsFree K ρ = true → ρ[i]? = some (.own d) → σ[i]? = some (some w) → @SlotsR (withIO I K w) c F H (ρ.set i (.io K d)) σ fp := by
  induction h with
  | nil => intro i _ h; simp at h
  | @cons s o ρ σ fp fq a b ih =>
    intro i ht h hw
    cases i with
    | zero =>
      have e : s = .own d := by simpa using h
      subst e
      have hw' : o = some w := by simpa using hw
      subst hw'
      cases a with
      | own n r =>
        refine @SlotsR.cons (withIO I K w) _ _ _ _ _ _ _ _ _ (@SlotR.io (withIO I K w) _ _ _ _ _ _ _ n r ?_) (b.tagAll (tags_cons ht).2)
        show (if K = K then some w else I.io K) = some w
        rw [if_pos rfl]
    | succ i => exact @SlotsR.cons (withIO I K w) _ _ _ _ _ _ _ _ _ (a.tag (tags_cons ht).1) (ih i (tags_cons ht).2 (by simpa using h) (by simpa using hw))
theorem SlotsR.untag {I : IOs} {K : Nat} {w : V} {c : KW} {F H : Hp} {ρ : Env} {σ : L2.St} {fp : List Addr} {d : D} (h : @SlotsR (withIO I K w) c F H ρ σ fp) : ∀ i : Nat, ρ[i]? = some (.io K d) → tagsFree K (ρ.set i .un) = true → @SlotsR I c F H (ρ.set i (.own d)) σ fp ∧ σ[i]? = some (some w) := by
  induction h with
  | nil => intro i h; simp at h
  | @cons s o ρ σ fp fq a b ih =>
    intro i h ht
    cases i with
    | zero =>
      have e : s = .io K d := by simpa using h
      subst e
      cases a with
      | io n r q =>
        have q' : (if K = K then some w else I.io K) = some _ := q
        rw [if_pos rfl] at q'
        cases q'
        exact ⟨@SlotsR.cons I _ _ _ _ _ _ _ _ _ (@SlotR.own I _ _ _ _ _ _ n r) (b.untagAll (tags_cons ht).2), by simp⟩
    | succ i =>
      obtain ⟨h1, h2⟩ := ih i (by simpa using h) (tags_cons ht).2
      exact ⟨@SlotsR.cons I _ _ _ _ _ _ _ _ _ (a.untag (tags_cons ht).1) h1, by simpa using h2⟩
theorem ER.tag {I : IOs} {K : Nat} {w : V} {c : KW} {F0 H0 F H : Hp} {ρ : Env} {σ : L2.St} {i : Nat} {d : D} (h : @ER I c F0 H0 F H ρ σ) (ht : tagsFree K ρ = true) (e : ρ[i]? = some (.own d)) (hw : σ[i]? = some (some w)) : @ER (withIO I K w) c F0 H0 F H (ρ.set i (.io K d)) σ := by
  obtain ⟨g, fp, hs, nd, hf⟩ := h
  exact @ER.mk (withIO I K w) _ _ _ _ _ _ _ g ⟨fp, hs.tag i ht e hw, nd, hf⟩
theorem ER.untag {I : IOs} {K : Nat} {w : V} {c : KW} {F0 H0 F H : Hp} {ρ : Env} {σ : L2.St} {i : Nat} {d : D} (h : @ER (withIO I K w) c F0 H0 F H ρ σ) (e : ρ[i]? = some (.io K d)) (ht : tagsFree K (ρ.set i .un) = true) : @ER I c F0 H0 F H (ρ.set i (.own d)) σ := by
  obtain ⟨g, fp, hs, nd, hf⟩ := h
  exact @ER.mk I _ _ _ _ _ _ _ g ⟨fp, (hs.untag i e ht).1, nd, hf⟩
/-- the tag taken back -/
def untagE (K i : Nat) (ρ : Env) : Option Env := match ρ[i]? with
  | some (.io k d) => if (decide (k = K) && tagsFree K (ρ.set i .un)) = true then some (ρ.set i (.own d)) else none
  | _ => none
def untagR (K i : Nat) : Res → Res
  | .nx ρ => (match untagE K i ρ with | some ρ' => .nx ρ' | none => .fail)
  | .rt d => .rt d
  | .exc x _ => .exc x []
  | _ => .fail
def loopOwn (K i : Nat) (t : TgF) (b : Env → Res) : Nat → Nat → Env → Res
  | k, 0, ρ => match ρ[i]? with
    | some (.io k' (.lst l)) => if (decide (k' = K) && decide (l.length ≤ k)) = true then .nx ρ else .fail
    | _ => .fail
  | k, m + 1, ρ => match ρ[i]? with
    | some (.io k' (.lst l)) => (match l[k]? with
      | some d => if (rootFlat d && decide (k' = K)) = true then (match t d ρ with
        | none => .fail
        | some ρ1 => match b ρ1 with
          | .nx ρ2 => loopOwn K i t b (k + 1) m ρ2
          | .ct ρ2 => loopOwn K i t b (k + 1) m ρ2
          | .bk ρ2 => .nx ρ2
          | o => o) else .fail
      | none => .fail)
    | _ => .fail
def sForOwn (i : Nat) (t : TgF) (b : Env → Res) : Env → Res := fun ρ => match ρ[i]? with
  | some (.own (.lst l)) => if tagsFree (1000 + i) ρ = true then untagR (1000 + i) i (loopOwn (1000 + i) i t b 0 l.length (ρ.set i (.io (1000 + i) (.lst l)))) else .fail
  | _ => .fail
theorem owns_get {c : KW} {F H : Hp} : ∀ {fp : List Addr} {vs : List V} {ds : List D} {k : Nat} {d : D}, Owns c F H fp vs ds → ds[k]? = some d → rootFlat d = true → ∃ v, vs[k]? = some v ∧ Rep c F v d
  | _, _, _, _, _, .nil, h, _ => by simp at h
  | _, _, _, 0, d, .cons (v := v) a _, h, hf => by
    simp at h
    subst h
    exact ⟨v, rfl, (own_flat a hf).2⟩
  | _, _, _, k + 1, d, .cons _ t, h, hf => by
    obtain ⟨v, h1, h2⟩ := owns_get (k := k) t (by simpa using h) hf
    exact ⟨v, by simpa using h1, h2⟩
theorem ER.ioAt {I : IOs} {c : KW} {F0 H0 F H : Hp} {ρ : Env} {σ : L2.St} {i k : Nat} {l : List D} (h : @ER I c F0 H0 F H ρ σ) (e : ρ[i]? = some (.io k (.lst l))) : ∃ v fp, I.io k = some v ∧ fp ≠ [] ∧ Own c F H fp v (.lst l) := by
  obtain ⟨g, fp, hs, nd, hf⟩ := h
  obtain ⟨fa, fi, fb, o, ef, h1, h2, k3⟩ := hs.split e
  cases h1 with
  | io n r q => exact ⟨_, _, q, n, r⟩
section
variable {X : Cx} {E : WX} {tg : Expr} {g : TgF} {b : Env → Res} {body : List Stmt} {pos px : Pos}
theorem vs_forOwn (i : Nat) {x : Str} (hp : PassesOwn (model X.prog X.w) X.A X.env X.xe) (hc : X.calm = true) (hg : ∀ [IOs], VG X tg g) (hb : ∀ [IOs], VSs X E body b) (hN : X.N[i]? = some x := by rfl) (hv : Vis X.env.scope x := by first | exact Or.inl rfl | exact Or.inr (Or.inl rfl) | exact Or.inr (Or.inr rfl))
    (hd : (x == ("__debug__" : Str)) = false := by decide) (hcd : (x == ("__classdict__" : Str)) = false := by decide) (hs : ∀ y, foldedSetIterable (.Name x px) X.env y = pure y := by intro _; rfl) : VS X E (.For tg (.Name x px) body [] pos) (sForOwn i g b) := by
  rename_i I0
  refine ⟨⟨fun pins s σ H D I ⟨ρ, F, F0, H0, er, q⟩ => ?_⟩⟩
  unfold sForOwn at q
  split at q
  · rename_i l he
    obtain ⟨p, fq, hσ, ow, nd, k⟩ := er.mut he
    by_cases ht : tagsFree (1000 + i) ρ = true
    · rw [if_pos ht] at q
      have er1 := er.tag ht he hσ
      cases ow with
      | @lst _ xs _ _ hp1 hp2 os =>
        have hgI := @VG.pg (withIO I0 (1000 + i) (.ref p)) _ _ _ (@hg (withIO I0 (1000 + i) (.ref p)))
        have hbI := @VSs.pss (withIO I0 (1000 + i) (.ref p)) _ _ _ _ (@hb (withIO I0 (1000 + i) (.ref p)))
        refine (ps_for hp hc (pi_list (pe_var hN hv hd hcd)) hgI hbI hs).run pins s σ H D I ⟨.ref p, hσ, p, rfl, ⟨xs, SqL.of hp2⟩, ?_⟩
        refine ⟨fun k m σ2 H => ∃ ρ2 F, @ER (withIO I0 (1000 + i) (.ref p)) (cw X) F0 H0 F H ρ2 σ2 ∧ Post X E D F0 H0 (untagR (1000 + i) i (loopOwn (1000 + i) i g b k m ρ2)), ⟨l.length, _, F, er1, q⟩, ?_⟩
        rintro j m σ2 H2 ⟨ρ2, F2, er2, q2⟩
        have fin : ∀ (ρ3 : Env) σ3 F3 H3, @ER (withIO I0 (1000 + i) (.ref p)) (cw X) F0 H0 F3 H3 ρ3 σ3 → Post X E D F0 H0 (untagR (1000 + i) i (.nx ρ3)) → D.nx σ3 H3 := by
          intro ρ3 σ3 F3 H3 er3 q3
          have q3' : Post X E D F0 H0 (match untagE (1000 + i) i ρ3 with | some ρ' => .nx ρ' | none => .fail) := q3
          cases hu : untagE (1000 + i) i ρ3 with
          | none => rw [hu] at q3'; exact q3'.elim
          | some ρ4 =>
            rw [hu] at q3'
            unfold untagE at hu
            split at hu
            · rename_i k' d' he3
              split at hu
              · rename_i hk
                cases hu
                have hk1 := of_decide_eq_true (and2 hk).1
                subst hk1
                exact q3' σ3 F3 H3 (er3.untag he3 (and2 hk).2)
              · cases hu
            · cases hu
        cases m with
        | zero =>
          unfold loopOwn at q2
          split at q2
          · rename_i k' l2 he2
            split at q2
            · rename_i hk
              have hk1 := of_decide_eq_true (and2 hk).1
              subst hk1
              obtain ⟨v, fp2, hv2, hne2, ow2⟩ := er2.ioAt he2
              have hv3 : (if 1000 + i = 1000 + i then some (V.ref p) else I0.io (1000 + i)) = some v := hv2
              rw [if_pos rfl] at hv3
              cases hv3
              cases ow2 with
              | froz _ => exact absurd rfl hne2
              | @lst _ xs2 _ _ h1 h2 os2 =>
                exact .inl ⟨⟨xs2, SqL.of h2, by rw [os2.length]; exact of_decide_eq_true (and2 hk).2⟩, fin ρ2 σ2 F2 H2 er2 q2⟩
            · exact q2.elim
          · exact q2.elim
        | succ m =>
          unfold loopOwn at q2
          split at q2
          · rename_i k' l2 he2
            split at q2
            · rename_i d hd2
              split at q2
              · rename_i hk
                have hk1 := of_decide_eq_true (and2 hk).2
                subst hk1
                obtain ⟨v, fp2, hv2, hne2, ow2⟩ := er2.ioAt he2
                have hv3 : (if 1000 + i = 1000 + i then some (V.ref p) else I0.io (1000 + i)) = some v := hv2
                rw [if_pos rfl] at hv3
                cases hv3
                cases ow2 with
                | froz _ => exact absurd rfl hne2
                | @lst _ xs2 _ _ h1 h2 os2 =>
                  obtain ⟨v, hv4, rv⟩ := owns_get os2 hd2 (and2 hk).1
                  refine .inr ⟨⟨xs2, v, SqL.of h2, hv4⟩, fun σ3 H3 => ∃ ρ3 F3, @ER (withIO I0 (1000 + i) (.ref p)) (cw X) F0 H0 F3 H3 ρ3 σ3 ∧ Post X E D F0 H0 (untagR (1000 + i) i (loopOwn (1000 + i) i g b (j + 1) m ρ3)), fun σ3 H3 z => ⟨m, Nat.lt_succ_self _, z⟩, fun x H3 hy => ?_⟩
                  obtain ⟨rfl, hx⟩ := hy
                  have hx2 := hx xs2 (SqL.of h2)
                  rw [hv4] at hx2
                  cases hx2
                  cases hg2 : g d ρ2 with
                  | none => rw [hg2] at q2; exact q2.elim
                  | some ρ1 =>
                    rw [hg2] at q2
                    dsimp only at q2
                    refine ⟨ρ2, F2, F0, H0, d, er2, rv, ρ1, hg2, fun σ4 er4 => ⟨ρ1, F2, F0, H0, er4, ?_⟩⟩
                    cases hb2 : b ρ1 with
                    | nx ρ3 => rw [hb2] at q2; exact fun σ5 F5 H5 er6 => ⟨ρ3, F5, er6, q2⟩
                    | ct ρ3 => rw [hb2] at q2; exact fun σ5 F5 H5 er6 => ⟨ρ3, F5, er6, q2⟩
                    | bk ρ3 => rw [hb2] at q2; exact fun σ5 F5 H5 er6 => fin ρ3 σ5 F5 H5 er6 q2
                    | rt d2 => rw [hb2] at q2; exact q2
                    | ret s2' ρ3 => rw [hb2] at q2; exact q2.elim
                    | exc x2 ρ3 => rw [hb2] at q2; exact fun cl dx σ5 F5 H5 er6 r5 => q2 cl dx σ5 F5 H5 (ER.nil (@ER.g (withIO I0 (1000 + i) (.ref p)) _ _ _ _ _ _ _ er6)) r5
                    | fail => rw [hb2] at q2; exact q2
              · exact q2.elim
            · exact q2.elim
          · exact q2.elim
    · rw [if_neg ht] at q; exact q.elim
  · exact q.elim
end

/-! ### f(a, .., k = b, ..) -/
def pickL {α : Type} (ord : List Nat) (l : List α) : List α := ord.filterMap fun i => l[i]?
section
variable {X : Cx} {E : WX} {e : Expr} {es : List Expr} {fs ks : PEnv → Out (List D)} {pos p : Pos} {x : Str} {kws : List Keyword}
theorem Vals.app {vs zs : List V} {us ws : List Value} (a : Vals vs us) (b : Vals zs ws) : Vals (vs ++ zs) (us ++ ws) := a.append b
theorem Vals.at {vs : List V} {us : List Value} (h : Vals vs us) : ∀ i : Nat, (vs[i]? = none ∧ us[i]? = none) ∨ ∃ v u, vs[i]? = some v ∧ us[i]? = some u ∧ RelV v u := by
  induction h with
  | nil => intro i; exact .inl ⟨by simp, by simp⟩
  | cons a t ih =>
    intro i
    cases i with
    | zero => exact .inr ⟨_, _, rfl, rfl, a⟩
    | succ i => simpa using ih i
theorem Vals.pick {vs : List V} {us : List Value} (h : Vals vs us) : ∀ ord : List Nat, Vals (pickL ord vs) (pickL ord us)
  | [] => .nil
  | i :: r => by
    unfold pickL
    rw [List.filterMap_cons, List.filterMap_cons]
    rcases TP.Vals.at h i with ⟨h1, h2⟩ | ⟨v, u, h1, h2, h3⟩
    · rw [h1, h2]; exact Vals.pick h r
    · rw [h1, h2]; exact .cons h3 (Vals.pick h r)
theorem Reps.pick {c : KW} {F : Hp} {vs : List V} {ds : List D} (h : Reps c F vs ds) : ∀ ord : List Nat, Reps c F (pickL ord vs) (pickL ord ds)
  | [] => .nil
  | i :: r => by
    unfold pickL
    rw [List.filterMap_cons, List.filterMap_cons]
    cases hd : ds[i]? with
    | none =>
      have : vs[i]? = none := by
        rw [List.getElem?_eq_none_iff] at hd ⊢
        rw [h.length]; exact hd
      rw [this]
      exact Reps.pick h r
    | some d =>
      obtain ⟨v, h1, h2⟩ := h.get hd
      rw [h1]
      exact .cons h2 (Reps.pick h r)
theorem kbn_of {K : PySem.W.Frag} {x qual : Str} {params : Arguments} {body : List Stmt} {scope : Scope} {kws : List (Str × V)} {f : Addr} {fd : FuncData} {ps ks : List Str} {n : Nat} {ord : List Nat} (F : FunD K x qual params body scope [] kws f fd)
    (h : ∀ (kV doc pm : Value) (an : Option Addr) (cdv ct : Value) (us ws : List Value), us.length = n → ws.length = ks.length → bindArgs (PySem.W.fnOf x qual params body scope .none kV doc pm an cdv ct) ⟨us, ks.zip ws⟩ = pure (ps.zip (pickL ord (us ++ ws)))) :
    KBn K fd ps n ks (fun us ws => pickL ord (us ++ ws)) (fun vs zs => pickL ord (vs ++ zs)) where
  to := fun s us ws _ l1 l2 => by
    obtain ⟨oc, od, dV, kV, doc, pm, an, cdv, ct, osl, rfl, lk, hcd, hD, hK⟩ := F.ex
    rcases hD with ⟨_, rfl⟩ | ⟨e, _⟩
    · exact .of_eq (h kV doc pm an cdv ct us ws l1 l2)
    · exact absurd rfl e
  rel := fun r1 r2 => TP.Vals.pick (r1.append r2) ord
/-- values behind keywords -/
structure VKw (X : Cx) (E : WX) (kws : List Keyword) (f : PEnv → Out (List D)) : Prop where
  pk : PK X kws (tvs X E f)
theorem pk_weak {X : Cx} {es : List Keyword} {t t' : TA} (h : PK X es t) (w : ∀ σ H Q, t' σ H Q → t σ H Q) : PK X es t' := ⟨fun pos pins s σ H Q I q => h.run pos pins s σ H Q I (w σ H Q q)⟩
theorem vk_nil : VKw X E [] aNil := ⟨pk_weak pk_nil fun σ H Q ⟨ρ, F, s, sl, q⟩ => At.const s q .nil⟩
theorem vk_cons {nm : Option Str} {kp : Pos} {f : PEnv → Out D} (h : VE X E e f) (h' : VKw X E kws ks) : VKw X E (⟨nm, e, kp⟩ :: kws) (aCons f ks) :=
  ⟨pk_weak (pk_cons h.pe h'.pk) fun σ H Q ⟨ρ, F, s, sl, q⟩ => tv_bind s sl q fun v F1 H1 x s1 e1 sl1 r1 q1 => tvs_bind s1 sl1 q1 fun us F2 H2 xs s2 e2 sl2 r2 q2 => At.const s2 q2 (.cons (r1.mono e2) r2)⟩
def kwD (n m : Nat) (ord : List Nat) (g : List D → Out D) (xs ys : List D) : Out D := if (decide (xs.length = n) && decide (ys.length = m)) = true then g (pickL ord (xs ++ ys)) else .fail
def eCallK (n m : Nat) (ord : List Nat) (g : List D → Out D) (fs ks : PEnv → Out (List D)) : PEnv → Out D := fun ρ => (fs ρ).bind fun xs => (ks ρ).bind fun ys => kwD n m ord g xs ys
theorem run_fnK {CX : CXT} {k n : Nat} {f : Addr} {fd : FuncData} {ps kn : List Str} {sp : Sp} {E : WX} {g : List Value → List Value → List Value} {gV : List V → List V → List V} {pins : List (Addr × Obj)} {σ : L2.St} {H : Hp} {s : Shared} {Q : VK} {us ws : List Value} {vs zs : List V}
    (F : FnOk X.prog X.w X.K X.mg X.base CX k f fd ps sp) (hr : Room k X.A) (hb : KBn X.K fd ps n kn g gV) (hx : PassesAt CX X σ (xsE E σ)) (I : Inv X pins σ H s) (r : Vals vs us) (rz : Vals zs ws) (l1 : vs.length = n) (l2 : zs.length = kn.length) (h : sp (gV vs zs) H Q (xsE E σ)) :
    wpAny (model X.prog X.w) X.A (call (.ref f) us (kn.zip ws)) (EP X pins σ Q) X.xe s := by
  have r2 := hb.rel r rz
  refine wpAny_call (codeAny_mono (F.run X.A X.stack s H ⟨us, kn.zip ws⟩ (g us ws) (gV vs zs) Q (xsE E σ) hr I.env0 (hb.to s us ws I.kIn (r.length.symm.trans l1) (rz.length.symm.trans l2)) r2 h) fun r s' hq => ?_)
  cases r with
  | error e => exact hx pins H s e s' I hq
  | ok fl =>
    cases fl with
    | ret u => exact I.after hq
    | next => exact False.elim hq
    | brk => exact False.elim hq
    | cont => exact False.elim hq
variable {k n m : Nat} {f : Addr} {fd : FuncData} {ps kn : List Str} {g : List D → Out D} {ord : List Nat}
theorem call_kw (F : FnOk X.prog X.w X.K X.mg X.base (L2.CX X.prog X.w) k f fd ps (spP (cw X) X.mg m g)) (hr : Room k X.A) (hb : KBn X.K fd ps n kn (fun us ws => pickL ord (us ++ ws)) (fun vs zs => pickL ord (vs ++ zs))) (hx : PassV X E)
    {pins : List (Addr × Obj)} {σ : L2.St} {F2 H2 : Hp} {s : Shared} {Q : VK} {us ws : List Value} {vs zs : List V} {xs ys : List D} (I : Inv X pins σ H2 s) (r : Vals vs us) (rz : Vals zs ws) (r1 : Reps (cw X) F2 vs xs) (r2 : Reps (cw X) F2 zs ys) (sm : Same F2 H2)
    (hm : ∀ l : List D, l.length = n + kn.length → (pickL ord l).length = m) (q : At (cw X) X.mg (xsE E σ) (Rep (cw X)) F2 H2 (kwD n kn.length ord g xs ys) Q) :
    wpAny (model X.prog X.w) X.A (call (.ref f) us (kn.zip ws)) (EP X pins σ Q) X.xe s := by
  unfold kwD at q
  by_cases hl : (decide (xs.length = n) && decide (ys.length = kn.length)) = true
  · rw [if_pos hl] at q
    have hn := of_decide_eq_true (and2 hl).1
    have hk := of_decide_eq_true (and2 hl).2
    refine run_fnK (E := E) F hr hb (hx σ) I r rz (r1.length.trans hn) (r2.length.trans hk) ⟨?_, F2, _, sm, (r1.append r2).pick ord, q⟩
    rw [((r1.append r2).pick ord).length]
    exact hm _ (by rw [List.length_append]; omega)
  · rw [if_neg hl] at q; exact q.elim
theorem ve_callK (F : FnOk X.prog X.w X.K X.mg X.base (L2.CX X.prog X.w) k f fd ps (spP (cw X) X.mg m g)) (hr : Room k X.A) (hmg : X.mg x = some (.ref f)) (hkp : PySem.W.keepIn X.K (.ref f) = true)
    (hb : KBn X.K fd ps n kn (fun us ws => pickL ord (us ++ ws)) (fun vs zs => pickL ord (vs ++ zs))) (hx : PassV X E) (ha : VA X E (e :: es) fs) (hkw : VKw X E kws ks)
    (hm : ∀ l : List D, l.length = n + kn.length → (pickL ord l).length = m) (hg : Gl X x := by rfl) (hall : (backToKw pos (keywordEach kws X.env)).all (·.1.isSome) = true := by rfl) (hks : (backToKw pos (keywordEach kws X.env)).filterMap (·.1) = kn := by rfl)
    (hdb : (x == ("__debug__" : Str)) = false := by decide) (he : starEach (e :: es) X.env = (false, eval e X.env) :: starEach es X.env := by rfl)
    (hpl : ((backTo pos (starEach (e :: es) X.env)).any (·.1) || (backToKw pos (keywordEach kws X.env)).any (·.1.isNone)) = false := by rfl) : VE X E (.Call (.Name x p) (e :: es) kws pos) (eCallK n kn.length ord g fs ks) := by
  refine ⟨⟨fun pins s σ H Q I ⟨ρ, F0, sm, sl, q⟩ => ?_⟩⟩
  refine wpAny_Call_Name_kw (ld_glob I hg hmg ?_ hdb)
  refine PySem.W.callWith_KW (h₀ := X.base) I.ok.mod.kin hkp hall (thn (ha.pa.run pos pins s σ H _ I (tvs_bind (Q' := fun vs H1 => ∃ F1 xs, Same F1 H1 ∧ Slots (cw X) F1 ρ σ ∧ Reps (cw X) F1 vs xs ∧ At (cw X) X.mg (xsE E σ) (Rep (cw X)) F1 H1 ((ks ρ).bind fun ys => kwD n kn.length ord g xs ys) Q) sm sl q fun v F1 H1 d s1 e1 sl1 r1 q1 => ⟨F1, d, s1, sl1, r1, q1⟩)) fun us s1 ⟨vs, H1, I1, r, F1, xs, s1', sl1, rs, q1⟩ => ?_) hpl he
  refine thn (hkw.pk.run pos pins s1 σ H1 _ I1 (tvs_bind (Q' := fun zs H2 => ∃ F2 ys, Same F2 H2 ∧ Same F1 F2 ∧ Reps (cw X) F2 zs ys ∧ At (cw X) X.mg (xsE E σ) (Rep (cw X)) F2 H2 (kwD n kn.length ord g xs ys) Q) s1' sl1 q1 fun v F2 H2 d s2 e2 sl2 r2 q2 => ⟨F2, d, s2, e2, r2, q2⟩)) fun ws s2 ⟨zs, H2, I2, rz, F2, ys, s2', e2, rs2, q2⟩ => ⟨I2.kIn, ?_⟩
  rw [hks]
  exact call_kw F hr hb hx I2 r rz (rs.mono e2) rs2 s2' hm q2
theorem ve_callK0 (F : FnOk X.prog X.w X.K X.mg X.base (L2.CX X.prog X.w) k f fd ps (spP (cw X) X.mg m g)) (hr : Room k X.A) (hmg : X.mg x = some (.ref f)) (hkp : PySem.W.keepIn X.K (.ref f) = true)
    (hb : KBn X.K fd ps 0 kn (fun us ws => pickL ord (us ++ ws)) (fun vs zs => pickL ord (vs ++ zs))) (hx : PassV X E) (hkw : VKw X E kws ks)
    (hm : ∀ l : List D, l.length = 0 + kn.length → (pickL ord l).length = m) (hg : Gl X x := by rfl) (hall : (backToKw pos (keywordEach kws X.env)).all (·.1.isSome) = true := by rfl) (hks : (backToKw pos (keywordEach kws X.env)).filterMap (·.1) = kn := by rfl)
    (hdb : (x == ("__debug__" : Str)) = false := by decide)
    (hpl : ((backTo pos (starEach [] X.env)).any (·.1) || (backToKw pos (keywordEach kws X.env)).any (·.1.isNone)) = false := by rfl) : VE X E (.Call (.Name x p) [] kws pos) (eCallK 0 kn.length ord g aNil ks) := by
  refine ⟨⟨fun pins s σ H Q I ⟨ρ, F0, sm, sl, q⟩ => ?_⟩⟩
  refine wpAny_Call_Name_kw (ld_glob I hg hmg ?_ hdb)
  refine PySem.W.callWith_KW0 (h₀ := X.base) I.ok.mod.kin hkp hall ?_ hpl
  have q : At (cw X) X.mg (xsE E σ) (Rep (cw X)) F0 H ((ks ρ).bind fun ys => kwD 0 kn.length ord g [] ys) Q := q
  refine thn (hkw.pk.run pos pins s σ H _ I (tvs_bind (Q' := fun zs H2 => ∃ F2 ys, Same F2 H2 ∧ Same F0 F2 ∧ Reps (cw X) F2 zs ys ∧ At (cw X) X.mg (xsE E σ) (Rep (cw X)) F2 H2 (kwD 0 kn.length ord g [] ys) Q) sm sl q fun v F2 H2 d s2 e2 sl2 r2 q2 => ⟨F2, d, s2, e2, r2, q2⟩)) fun ws s2 ⟨zs, H2, I2, rz, F2, ys, s2', e2, rs2, q2⟩ => ⟨I2.kIn, ?_⟩
  rw [hks]
  exact call_kw F hr hb hx (vs := []) (us := []) (xs := []) I2 .nil rz .nil rs2 s2' hm q2
end
end TP

end
noncomputable section

end
set_option Elab.async false
set_option linter.all false
set_option maxRecDepth 100000
/-! The values layer: a law's end. -/
noncomputable section
namespace TP
open PySem PySem.Spec L2
/-- what law(script) promises -/
def spLawV (K : PySem.W.Frag) : Sp := fun vs H Q _ => ∃ (a : Addr) (ns : List Int), vs = [.ref a] ∧ SqL K H a (ns.map V.int) ∧ ns.length ≤ 63 ∧ ∀ H', Q (.bl true) H'
theorem ok_end {P : Program} {w : World} {K : PySem.W.Frag} {mg : Str → Option Value} {base : Heap} {k : Nat} {f : Addr} {fd : FuncData} {g : List D → Out D} (F : FnOk P w K mg base (L2.CX P w) k f fd ["script"] (spP ⟨P, w, K⟩ mg 1 g))
    (hlaw : ∀ ns : List Int, ns.length ≤ 63 → g [.scr ns] = .ok (.bl true)) : FnOk P w K mg base CX0 k f fd ["script"] (spLawV K) := by
  have key : ∀ vs H Q E, spLawV K vs H Q E → spP ⟨P, w, K⟩ mg 1 g vs H Q fun _ _ _ => False := fun vs H Q E ⟨a, ns, e, hS, hl, q⟩ => by
    subst e
    refine ⟨rfl, H, [.scr ns], Same.refl _, .one (.scr hS), ?_⟩
    rw [hlaw ns hl]
    intro v F' H' g r
    cases r
    exact q H'
  refine ⟨fun vs H Q E h => F.len _ _ _ _ (key vs H Q E h), fun A outer s H args us vs Q E hr he hb hv hs => codeAny_mono (F.run A outer s H args us vs Q (fun _ _ _ => False) hr he hb hv (key vs H Q E hs)) fun r s' h => ?_⟩
  cases r with
  | ok fl => cases fl <;> first | exact h | exact h.elim
  | error e =>
    obtain ⟨_, _, _, _, _, _, _, _, _, _, _, _, z⟩ := h
    exact z.elim
end TP

end
set_option Elab.async false
set_option linter.all false
set_option maxRecDepth 100000
/-! The values layer: evaluation, facts of data. -/
noncomputable section
namespace TP
open PySem PySem.Spec L2

/-! ### a body's end -/
def fin : Res → Out D
  | .rt d => .ok d
  | .nx _ => .ok .non
  | .exc x _ => .exc x
  | _ => .fail
theorem sem_fin (n : Nat) (b : Env → Res) (ds : List D) : semOf n b ds = fin (b (startE n ds)) := by
  unfold semOf fin
  cases b (startE n ds) <;> rfl
theorem fin_ret1 (f : PEnv → Out D) (ρ : Env) : fin (sRet f ρ) = f (lent ρ) := by
  unfold sRet
  cases f (lent ρ) with
  | ok d => rfl
  | exc x => dsimp only; split <;> rfl
  | fail => rfl
theorem fin_ret (f : PEnv → Out D) (g : Env → Res) (ρ : Env) : fin (sSeq (sRet f) g ρ) = f (lent ρ) := by
  unfold sSeq sRet
  cases f (lent ρ) with
  | ok d => rfl
  | exc x => dsimp only; by_cases h : keyX x = true <;> simp only [h, if_true, if_false, Bool.false_eq_true] <;> rfl
  | fail => rfl
theorem fin_set (i : Nat) (f : Env → Out D) (g : Env → Res) (ρ : Env) : fin (sSeq (sSet i f) g ρ) = (f ρ).bind fun d => fin (g (ρ.set i (.val d))) := by
  unfold sSeq sSet
  cases f ρ <;> rfl
theorem fin_ownP (i : Nat) (f : PEnv → Out D) (g : Env → Res) (ρ : Env) : fin (sSeq (sOwnP i f) g ρ) = (f (plain ρ)).bind fun d => fin (g (ρ.set i (.own d))) := by
  unfold sSeq sOwnP
  cases f (plain ρ) <;> rfl
theorem fin_ownL {i : Nat} {f : PEnv → Out D} {g : Env → Res} {ρ : Env} {d : D} (h : f (lent ρ) = .ok d) (k : flatOwn d = true) : fin (sSeq (sOwnL i f) g ρ) = fin (g (ρ.set i (.own d))) := by
  unfold sSeq sOwnL
  rw [h]
  dsimp only
  rw [if_pos k]
theorem fin_par (i j : Nat) (f : PEnv → Out (List D)) (g : Env → Res) (ρ : Env) : fin (sSeq (sPar i j f) g ρ) = (f (plain ρ)).bind fun l => match l with | [x, y] => fin (g ((ρ.set i (.val x)).set j (.val y))) | _ => .fail := by
  unfold sSeq sPar
  cases f (plain ρ) with
  | ok l => match l with
    | [] => rfl
    | [_] => rfl
    | [_, _] => rfl
    | _ :: _ :: _ :: _ => rfl
  | exc x => rfl
  | fail => rfl
theorem fin_kill (vs : List Nat) (f g : Env → Res) (ρ : Env) : fin (sSeq (sKill vs f) g ρ) = fin (sSeq f (fun ρ' => g (kill ρ' vs)) ρ) := by
  unfold sSeq sKill
  cases f ρ <;> rfl
theorem fin_if (c : Env → Out Bool) (a b g : Env → Res) (ρ : Env) : fin (sSeq (sIf c a b) g ρ) = (c ρ).bind fun k => if k = true then fin (sSeq a g ρ) else fin (sSeq b g ρ) := by
  unfold sSeq sIf
  cases c ρ with
  | ok k => cases k <;> rfl
  | exc x => rfl
  | fail => rfl
theorem fin_if1 (c : Env → Out Bool) (a b : Env → Res) (ρ : Env) : fin (sIf c a b ρ) = (c ρ).bind fun k => if k = true then fin (a ρ) else fin (b ρ) := by
  unfold sIf
  cases c ρ with
  | ok k => cases k <;> rfl
  | exc x => rfl
  | fail => rfl
theorem seq_seq (a b c : Env → Res) : sSeq (sSeq a b) c = sSeq a (sSeq b c) := by
  funext ρ
  unfold sSeq
  cases a ρ <;> rfl
theorem seq_nil (g : Env → Res) : sSeq sNil g = g := rfl
theorem fin_sNil (ρ : Env) : fin (sNil ρ) = .ok .non := rfl
theorem fin_asg (t : TgF) (f : Env → Out D) (g : Env → Res) (ρ : Env) : fin (sSeq (sAsg t f) g ρ) = (f ρ).bind fun d => match t d ρ with | some ρ' => fin (g ρ') | none => .fail := by
  unfold sSeq sAsg
  cases f ρ with
  | ok d => dsimp only; rw [ok_bind]; cases t d ρ <;> rfl
  | exc x => rfl
  | fail => rfl
theorem fin_expr (f : Env → Out D) (g : Env → Res) (ρ : Env) : fin (sSeq (sExpr f) g ρ) = (f ρ).bind fun _ => fin (g ρ) := by
  unfold sSeq sExpr
  cases f ρ <;> rfl
theorem fin_for (f : Env → Out (List D)) (t : TgF) (b g : Env → Res) (ρ : Env) : fin (sSeq (sFor f t b) g ρ) = (f ρ).bind fun ds => fin (sSeq (loop t b ds) g ρ) := by
  unfold sSeq sFor
  cases f ρ <;> rfl
theorem fin_loop_nil (t : TgF) (b g : Env → Res) (ρ : Env) : fin (sSeq (loop t b []) g ρ) = fin (g ρ) := rfl
/-- a block that goes on -/
theorem seq_nx {f g : Env → Res} {ρ ρ' : Env} (h : f ρ = .nx ρ') : sSeq f g ρ = g ρ' := by
  unfold sSeq
  rw [h]
/-- a loop that goes through, by an invariant -/
theorem loop_inv {t : TgF} {b : Env → Res} (P : Nat → Env → Prop) : ∀ (ds : List D) (i : Nat) (ρ : Env), P i ρ → (∀ j d ρ, ds[j]? = some d → P (i + j) ρ → ∃ ρ1 ρ2, t d ρ = some ρ1 ∧ (b ρ1 = .nx ρ2 ∨ b ρ1 = .ct ρ2) ∧ P (i + j + 1) ρ2) →
    ∃ ρ', loop t b ds ρ = .nx ρ' ∧ P (i + ds.length) ρ'
  | [], i, ρ, h, _ => ⟨ρ, rfl, h⟩
  | d :: ds, i, ρ, h, st => by
    obtain ⟨ρ1, ρ2, h1, h2, h3⟩ := st 0 d ρ rfl h
    obtain ⟨ρ', e, q⟩ := loop_inv P ds (i + 1) ρ2 h3 fun j d ρ hj hp => by
      have z := st (j + 1) d ρ (by simpa using hj) (by rw [show i + (j + 1) = i + 1 + j by omega]; exact hp)
      rw [show i + (j + 1) + 1 = i + 1 + j + 1 by omega] at z
      exact z
    refine ⟨ρ', ?_, by rw [List.length_cons, show i + (ds.length + 1) = i + 1 + ds.length by omega]; exact q⟩
    unfold loop
    rw [h1]
    dsimp only
    rcases h2 with h2 | h2 <;> rw [h2] <;> exact e
theorem fin_loop {t : TgF} {b g : Env → Res} {ds : List D} {ρ ρ' : Env} (h : loop t b ds ρ = .nx ρ') : fin (sSeq (loop t b ds) g ρ) = fin (g ρ') := by rw [seq_nx h]
theorem rangeL_get (lo : Int) (n j : Nat) (d : D) (h : (rangeL lo n)[j]? = some d) : j < n ∧ d = .int (lo + (j : Nat)) := by
  unfold rangeL at h
  rw [List.getElem?_map] at h
  by_cases hj : j < n
  · rw [List.getElem?_range hj] at h
    exact ⟨hj, by cases h; rfl⟩
  · rw [List.getElem?_eq_none (by simpa using hj)] at h
    cases h
theorem rangeL_len (lo : Int) (n : Nat) : (rangeL lo n).length = n := by unfold rangeL; simp

/-! ### the words, applied -/
section
variable (ρ : PEnv) (τ : Env) (f g h : PEnv → Out D) (c d : PEnv → Out Bool) (fs : PEnv → Out (List D)) (i : Nat)
theorem ap_eVar : eVar i ρ = Out.ofO (ρ[i]?.join) := rfl
theorem ap_eC (x : D) : eC x ρ = .ok x := rfl
theorem ap_aNil : aNil ρ = .ok [] := rfl
theorem ap_aCons : aCons f fs ρ = (f ρ).bind fun x => (fs ρ).bind fun xs => .ok (x :: xs) := rfl
theorem ap_eCall (r : List D → Out D) : eCall r fs ρ = (fs ρ).bind r := rfl
theorem ap_e2 (r : D → D → Out D) : e2 r f g ρ = (f ρ).bind fun x => (g ρ).bind fun y => r x y := rfl
theorem ap_e1 (r : D → Out D) : e1 r f ρ = (f ρ).bind r := rfl
theorem ap_e2B (r : D → D → Out Bool) : e2B r f g ρ = (f ρ).bind fun x => (g ρ).bind fun y => r x y := rfl
theorem ap_eB : eB c ρ = (c ρ).bind fun b => .ok (.bl b) := rfl
theorem ap_eT : eT f ρ = (f ρ).bind truthB := rfl
theorem ap_eNot : eNot f ρ = (f ρ).bind fun x => (truthB x).bind fun b => .ok (.bl (!b)) := rfl
theorem ap_eAnd : eAnd f g ρ = (f ρ).bind fun x => (truthB x).bind fun b => if b = true then g ρ else .ok x := rfl
theorem ap_eOr : eOr f g ρ = (f ρ).bind fun x => (truthB x).bind fun b => if b = true then .ok x else g ρ := rfl
theorem ap_eIf : eIf c f g ρ = (c ρ).bind fun b => if b = true then f ρ else g ρ := rfl
theorem ap_cNot : cNot c ρ = (c ρ).bind fun b => .ok (!b) := rfl
theorem ap_cAnd : cAnd c d ρ = (c ρ).bind fun b => if b = true then d ρ else .ok false := rfl
theorem ap_cOr : cOr c d ρ = (c ρ).bind fun b => if b = true then .ok true else d ρ := rfl
theorem ap_cYes : cYes ρ = .ok true := rfl
theorem ap_cChain (r s : D → D → Out Bool) : cChain r s f g h ρ = (f ρ).bind fun x => (g ρ).bind fun y => (r x y).bind fun b => if b = true then (h ρ).bind fun z => s y z else .ok false := rfl
theorem ap_iSeq : iSeq f ρ = (f ρ).bind itemsD := rfl
theorem ap_iArgs (r : List D → Out (List D)) : iArgs r fs ρ = (fs ρ).bind r := rfl
theorem ap_oNone : oNone ρ = .ok none := rfl
theorem ap_pP {α : Type} (k : PEnv → Out α) : pP k τ = k (plain τ) := rfl
theorem ap_pL : pL f τ = match f (lent τ) with | .ok d => keyed d | .exc x => if keyX x = true then .exc x else .fail | .fail => .fail := rfl
theorem ap_pLb : pLb c τ = match c (lent τ) with | .ok b => .ok b | .exc x => if keyX x = true then .exc x else .fail | .fail => .fail := rfl
theorem ap_pLr (r : List D → Out (List D)) : pLr r fs τ = match fs (lent τ) with | .ok ds => r ds | .exc x => if keyX x = true then .exc x else .fail | .fail => .fail := rfl
theorem ap_tgName (x : D) : tgName i x τ = some (τ.set i (.val x)) := rfl
theorem ap_pgName (x : D) : pgName i x ρ = some (ρ.set i (some x)) := rfl
theorem ap_tgTup (n : Nat) (k : List D → Env → Option Env) (l : List D) : tgTup n k (.tup l) τ = if l.length = n then k l τ else none := rfl
theorem ap_tgTupL (n : Nat) (k : List D → Env → Option Env) (l : List D) : tgTup n k (.lst l) τ = if l.length = n then k l τ else none := rfl
theorem ap_pgTup (n : Nat) (k : List D → PEnv → Option PEnv) (l : List D) : pgTup n k (.tup l) ρ = if l.length = n then k l ρ else none := rfl
theorem ap_tgNil : tgNil [] τ = some τ := rfl
theorem ap_pgNil : pgNil [] ρ = some ρ := rfl
theorem ap_tgCons (t : TgF) (k : List D → Env → Option Env) (x : D) (l : List D) : tgCons t k (x :: l) τ = (t x τ).bind (k l) := rfl
theorem ap_pgCons (t : PgF) (k : List D → PEnv → Option PEnv) (x : D) (l : List D) : pgCons t k (x :: l) ρ = (t x ρ).bind (k l) := rfl
variable (b b' : Env → Res) (k : Env → Out D) (kb : Env → Out Bool)
theorem ap_sSeq : sSeq b b' τ = match b τ with | .nx ρ' => b' ρ' | r => r := rfl
theorem ap_sNil : sNil τ = .nx τ := rfl
theorem ap_sSet : sSet i k τ = match k τ with | .ok d => .nx (τ.set i (.val d)) | .exc x => .exc x τ | .fail => .fail := rfl
theorem ap_sIf : sIf kb b b' τ = match kb τ with | .ok q => if q = true then b τ else b' τ | .exc x => .exc x τ | .fail => .fail := rfl
theorem ap_sKill (vs : List Nat) : sKill vs b τ = match b τ with | .nx ρ' => .nx (kill ρ' vs) | .ct ρ' => .ct (kill ρ' vs) | r => r := rfl
theorem ap_sAsg (t : TgF) : sAsg t k τ = match k τ with | .ok d => (match t d τ with | some ρ' => .nx ρ' | none => .fail) | .exc x => .exc x τ | .fail => .fail := rfl
theorem ap_sExpr : sExpr k τ = match k τ with | .ok _ => .nx τ | .exc x => .exc x τ | .fail => .fail := rfl
theorem ap_sOwnP : sOwnP i f τ = match f (plain τ) with | .ok d => .nx (τ.set i (.own d)) | .exc x => .exc x τ | .fail => .fail := rfl
theorem ap_sRet : sRet f τ = match f (lent τ) with | .ok d => .rt d | .exc x => if keyX x = true then .exc x τ else .exc x [] | .fail => .fail := rfl
theorem ap_sAppend : sAppend i k τ = match τ[i]? with | some (.own (.lst l)) => (match k τ with | .ok d => if fits (l.length + 1) = true then .nx (τ.set i (.own (.lst (l ++ [d])))) else .fail | .exc x => .exc x τ | .fail => .fail) | _ => .fail := rfl
theorem ap_sPop (t : TgF) : sPop i t τ = match τ[i]? with | some (.own (.lst l)) => (match l.getLast? with | some d => if rootFlat d = true then (match t d (τ.set i (.own (.lst l.dropLast))) with | some ρ' => .nx ρ' | none => .fail) else .fail | none => .fail) | _ => .fail := rfl
theorem ap_sPar (j : Nat) : sPar i j fs τ = match fs (plain τ) with | .ok [x, y] => .nx ((τ.set i (.val x)).set j (.val y)) | .exc x => .exc x τ | _ => .fail := rfl
theorem ap_sPut (fk : Env → Out D) : sPutItem i fk k τ = match k τ with | .ok d => (match τ[i]? with | some (.own (.dct l)) => (match fk τ with | .ok k => if keyFits l k && fits (l.length + 1) then .nx (τ.set i (.own (.dct (dputL l k d)))) else .fail | .exc x => .exc x τ | .fail => .fail) | _ => sSetItem i fk (fun _ => .ok d) τ) | .exc x => .exc x τ | .fail => .fail := rfl
theorem ap_sFor (fi : Env → Out (List D)) (t : TgF) : sFor fi t b τ = match fi τ with | .ok ds => loop t b ds τ | .exc x => .exc x τ | .fail => .fail := rfl
theorem ap_sRetN : sRetN τ = .rt .non := rfl
theorem ap_sBreak : sBreak τ = .bk τ := rfl
theorem ap_sCont : sCont τ = .ct τ := rfl
theorem ap_freeze_val {x : D} (e : τ[i]? = some (.own x)) : sFreeze i b τ = b (τ.set i (.val x)) := by
  unfold sFreeze
  rw [e]
theorem seq_freeze {x : D} (e : τ[i]? = some (.own x)) : sSeq (sFreeze i b) b' τ = sSeq b b' (τ.set i (.val x)) := by
  unfold sSeq
  rw [ap_freeze_val _ _ _ e]
end
end TP

end
set_option Elab.async false
set_option linter.all false
set_option maxRecDepth 100000
/-! The values layer: facts of data: texts, pairs, triples; sorting, first of each; comprehensions as maps. -/
noncomputable section
namespace TP
open PySem PySem.Spec L2
theorem ob_assoc {α β γ : Type} (o : Out α) (f : α → Out β) (g : β → Out γ) : (o.bind f).bind g = o.bind fun x => (f x).bind g := by cases o <;> rfl
/-! ### comprehensions -/
theorem comp_map {g : PgF} {c : PEnv → Out Bool} {f : PEnv → Out D} {ρ : PEnv} {α : Type} (en : α → D) (p : α → Bool) (h : α → D) : ∀ l : List α, (∀ a ∈ l, ∃ ρ1, g (en a) ρ = some ρ1 ∧ c ρ1 = .ok (p a) ∧ (p a = true → f ρ1 = .ok (h a))) → compL g c f ρ (l.map en) = .ok ((l.filter p).map h)
  | [], _ => rfl
  | a :: l, H => by
    obtain ⟨ρ1, h1, h2, h3⟩ := H a List.mem_cons_self
    have ih := comp_map en p h l fun b hb => H b (List.mem_cons_of_mem _ hb)
    rw [List.map_cons]
    unfold compL
    rw [h1]
    dsimp only
    rw [h2]
    cases hp : p a with
    | true =>
      dsimp only
      rw [h3 hp]
      dsimp only
      rw [ih, ok_bind, List.filter_cons_of_pos hp, List.map_cons]
    | false =>
      dsimp only
      rw [ih, List.filter_cons_of_neg (by simp [hp])]

/-! ### pairs and triples of texts -/
abbrev S2 := Str × Str
abbrev S3 := Str × Str × Str
def en2 (p : S2) : D := .tup [.str p.1, .str p.2]
def en3 (p : S3) : D := .tup [.str p.1, .str p.2.1, .str p.2.2]
theorem eqv_str (x y : Str) : D.eqv (.str x) (.str y) = decide (x = y) := by
  unfold D.eqv
  rw [D.toP, D.toP]
  by_cases h : x = y <;> simp [PyData.eqv, h]
theorem eqv_en2 (p q : S2) : D.eqv (en2 p) (en2 q) = decide (p = q) := by
  obtain ⟨a, b⟩ := p
  obtain ⟨c, d⟩ := q
  unfold D.eqv en2
  simp only [D.toP, D.toPs, PyData.eqv, PyData.eqvAll, Prod.mk.injEq, Bool.and_true]
  by_cases h1 : a = c <;> by_cases h2 : b = d <;> simp [h1, h2]
theorem eqv_en3 (p q : S3) : D.eqv (en3 p) (en3 q) = decide (p = q) := by
  obtain ⟨a, b, c⟩ := p
  obtain ⟨d, e, f⟩ := q
  unfold D.eqv en3
  simp only [D.toP, D.toPs, PyData.eqv, PyData.eqvAll, Prod.mk.injEq, Bool.and_true]
  by_cases h1 : a = d <;> by_cases h2 : b = e <;> by_cases h3 : c = f <;> simp [h1, h2, h3]
theorem key_en2 (p q : S2) : dkeyEq (en2 p) (en2 q) = decide (p = q) := by
  obtain ⟨a, b⟩ := p
  obtain ⟨c, d⟩ := q
  unfold dkeyEq en2
  simp only [D.key, D.keys, NestedKey.beq, NestedKey.beqAll, Prod.mk.injEq, Bool.and_true]
  by_cases h1 : a = c <;> by_cases h2 : b = d <;> simp [h1, h2]
theorem key_en3 (p q : S3) : dkeyEq (en3 p) (en3 q) = decide (p = q) := by
  obtain ⟨a, b, c⟩ := p
  obtain ⟨d, e, f⟩ := q
  unfold dkeyEq en3
  simp only [D.key, D.keys, NestedKey.beq, NestedKey.beqAll, Prod.mk.injEq, Bool.and_true]
  by_cases h1 : a = d <;> by_cases h2 : b = e <;> by_cases h3 : c = f <;> simp [h1, h2, h3]
theorem ht_en2 (p : S2) : (en2 p).ht = 1 := by simp [en2, D.ht, D.hts]
theorem ht_en3 (p : S3) : (en3 p).ht = 1 := by simp [en3, D.ht, D.hts]
theorem tk_en2 (p : S2) : tupKey (en2 p) = true := by
  simp [tupKey, en2, isTupD, D.isKey, D.areKeys, D.key, D.keys, NestedKey.depth, NestedKey.depthAll]
theorem tk_en3 (p : S3) : tupKey (en3 p) = true := by
  simp [tupKey, en3, isTupD, D.isKey, D.areKeys, D.key, D.keys, NestedKey.depth, NestedKey.depthAll]
theorem alk_en2 (p q : S2) : D.alk (en2 p) (en2 q) = true := by
  simp [D.alk, en2, D.toP, D.toPs, PySem.W.alike, PySem.W.alikeAll]
theorem alk_en3 (p q : S3) : D.alk (en3 p) (en3 q) = true := by
  simp [D.alk, en3, D.toP, D.toPs, PySem.W.alike, PySem.W.alikeAll]

/-! ### any kind of keys: what is wanted of an encoding -/
structure Enc {α : Type} [DecidableEq α] (en : α → D) : Prop where
  eqv : ∀ p q, D.eqv (en p) (en q) = decide (p = q)
  key : ∀ p q, dkeyEq (en p) (en q) = decide (p = q)
  ht : ∀ p, (en p).ht ≤ 30
  tk : ∀ p, tupKey (en p) = true
  alk : ∀ p q, D.alk (en p) (en q) = true
  ne : ∀ p, ∃ x r, en p = .tup (x :: r)
theorem enc2 : Enc en2 := ⟨eqv_en2, key_en2, fun p => by rw [ht_en2]; omega, tk_en2, alk_en2, fun p => ⟨_, _, rfl⟩⟩
theorem enc3 : Enc en3 := ⟨eqv_en3, key_en3, fun p => by rw [ht_en3]; omega, tk_en3, alk_en3, fun p => ⟨_, _, rfl⟩⟩
section
variable {α : Type} [DecidableEq α] {en : α → D}
theorem Enc.inj (h : Enc en) {p q : α} (e : en p = en q) : p = q := by
  have h1 := h.eqv p q
  have h2 := h.eqv q q
  rw [e] at h1
  rw [h1] at h2
  simpa using h2
/-- the first of each -/
def dd (l : List α) : List α := l.foldl (fun acc x => if x ∈ acc then acc else acc ++ [x]) []
theorem dd_next (l : List α) (x : α) : dd (l ++ [x]) = if x ∈ dd l then dd l else dd l ++ [x] := by
  unfold dd
  rw [List.foldl_append]
  rfl
theorem dd_dedup (h : Enc en) (l : List α) : dedupK (l.map en) = (dd l).map en := by
  have key : ∀ (l acc : List α), (l.map en).foldl insK (acc.map en) = (l.foldl (fun acc x => if x ∈ acc then acc else acc ++ [x]) acc).map en := by
    intro l
    induction l with
    | nil => intro acc; rfl
    | cons x l ih =>
      intro acc
      rw [List.map_cons, List.foldl_cons, List.foldl_cons, ← ih]
      congr 1
      unfold insK
      have e : ((acc.map en).any fun y => dkeyEq y (en x)) = decide (x ∈ acc) := by
        rw [List.any_map]
        simp only [Function.comp_def, h.key]
        induction acc with
        | nil => rfl
        | cons y t ih2 =>
          rw [List.any_cons, ih2]
          by_cases hx : y = x
          · simp [hx]
          · simp [hx, Ne.symm hx]
      rw [e]
      by_cases hx : x ∈ acc <;> simp [hx]
  exact key l []
theorem dd_mem (l : List α) (x : α) : x ∈ dd l ↔ x ∈ l := by
  have key : ∀ (l acc : List α), x ∈ l.foldl (fun acc x => if x ∈ acc then acc else acc ++ [x]) acc ↔ x ∈ acc ∨ x ∈ l := by
    intro l
    induction l with
    | nil => intro acc; simp
    | cons y l ih =>
      intro acc
      rw [List.foldl_cons, ih]
      by_cases hy : y ∈ acc
      · simp only [hy, if_true, List.mem_cons]
        constructor
        · rintro (h | h)
          · exact .inl h
          · exact .inr (.inr h)
        · rintro (h | rfl | h)
          · exact .inl h
          · exact .inl hy
          · exact .inr h
      · simp only [hy, if_false, List.mem_append, List.mem_cons, List.not_mem_nil, or_false]
        rw [or_assoc]
  have h := key l []
  unfold dd
  simpa using h
theorem dd_nodup (l : List α) : (dd l).Nodup := by
  have key : ∀ (l acc : List α), acc.Nodup → (l.foldl (fun acc x => if x ∈ acc then acc else acc ++ [x]) acc).Nodup := by
    intro l
    induction l with
    | nil => intro acc h; exact h
    | cons y l ih =>
      intro acc h
      rw [List.foldl_cons]
      refine ih _ ?_
      by_cases hy : y ∈ acc
      · simp only [hy, if_true]; exact h
      · simp only [hy, if_false]
        rw [List.nodup_append]
        exact ⟨h, by simp, fun a ha b hb => by rw [List.mem_singleton.mp hb]; exact fun e => hy (e ▸ ha)⟩
  exact key l [] List.nodup_nil
/-- sorted -/
def srt (en : α → D) (l : List α) : List α := l.mergeSort fun p q => leB (en p) (en q)
theorem srt_map (l : List α) : (l.map en).mergeSort leB = (srt en l).map en := (List.map_mergeSort (f := en) (r := fun p q => leB (en p) (en q)) (s := leB) fun a _ b _ => rfl).symm
theorem srt_perm (l : List α) : (srt en l).Perm l := List.mergeSort_perm _ _
theorem srt_mem (l : List α) (x : α) : x ∈ srt en l ↔ x ∈ l := (srt_perm l).mem_iff
theorem srt_len (l : List α) : (srt en l).length = l.length := (srt_perm l).length_eq
theorem srt_sorted (l : List α) : (srt en l).Pairwise fun p q => leB (en p) (en q) = true :=
  List.pairwise_mergeSort (le := fun p q => leB (en p) (en q)) (fun a b c => leB_trans (en a) (en b) (en c)) (fun a b => by rcases leB_total (en a) (en b) with h | h <;> simp [h]) l
theorem srt_uniq (h : Enc en) {l m : List α} (hs : m.Pairwise fun p q => leB (en p) (en q) = true) (p : m.Perm l) : m = srt en l := by
  refine List.Perm.eq_of_pairwise (le := fun p q => leB (en p) (en q) = true) (fun a b _ _ h1 h2 => h.inj (leB_anti (Nat.le_trans (h.ht a) (by omega)) (Nat.le_trans (h.ht b) (by omega)) (h.alk a b) h1 h2)) hs (srt_sorted l) (p.trans (srt_perm l).symm)
/-- two lists of the same members, sorted without doubles -/
theorem srt_dd_congr (h : Enc en) {l m : List α} (hm : ∀ x, x ∈ l ↔ x ∈ m) : srt en (dd l) = srt en (dd m) :=
  srt_uniq h (srt_sorted _) ((srt_perm _).trans ((List.perm_ext_iff_of_nodup (dd_nodup l) (dd_nodup m)).mpr fun x => by rw [dd_mem, dd_mem]; exact hm x))
theorem srt_dd_filter (h : Enc en) (l : List α) (p : α → Bool) : (srt en (dd l)).filter p = srt en (dd (l.filter p)) := by
  refine srt_uniq h ((srt_sorted _).filter _) (((srt_perm _).filter _).trans ?_)
  refine (List.perm_ext_iff_of_nodup ((dd_nodup l).filter _) (dd_nodup _)).mpr fun x => ?_
  rw [List.mem_filter, dd_mem, dd_mem, List.mem_filter]
theorem sortable_enc (h : Enc en) (l : List α) (hl : l.length ≤ 16777216) : sortable (l.map en) = true := by
  unfold sortable
  have h1 : (l.map en).all (fun d => decide (d.ht ≤ 60)) = true := by
    rw [List.all_map, List.all_eq_true]
    intro x _
    exact decide_eq_true (Nat.le_trans (h.ht x) (by omega))
  have h2 : ((l.map en).all fun x => (l.map en).all fun y => D.alk x y) = true := by
    rw [List.all_map, List.all_eq_true]
    intro x _
    show ((l.map en).all fun y => D.alk (en x) y) = true
    rw [List.all_map, List.all_eq_true]
    intro y _
    exact h.alk x y
  have h3 : allTup (l.map en) = true := by
    unfold allTup
    rw [List.all_map, List.all_eq_true]
    intro x _
    obtain ⟨y, r, e⟩ := h.ne x
    show (match en x with | .tup (_ :: _) => true | _ => false) = true
    rw [e]
  rw [h1, h2, h3]
  simp [fits_eq, hl]
theorem sorted_enc (h : Enc en) (l : List α) (hl : l.length ≤ 16777216) : sortedD [.lst (l.map en)] = .ok (.lst ((srt en l).map en)) := by
  show ((sortItems (D.lst (l.map en))).bind fun ds => if sortable ds = true then Out.ok (D.lst (ds.mergeSort leB)) else .fail) = _
  unfold sortItems
  rw [ok_bind, if_pos (sortable_enc h l hl), srt_map]
theorem sorted_encT (h : Enc en) (l : List α) (hl : l.length ≤ 16777216) : sortedD [.tup (l.map en)] = .ok (.lst ((srt en l).map en)) := by
  show ((sortItems (D.tup (l.map en))).bind fun ds => if sortable ds = true then Out.ok (D.lst (ds.mergeSort leB)) else .fail) = _
  unfold sortItems
  rw [ok_bind, if_pos (sortable_enc h l hl), srt_map]
theorem sorted_encS (h : Enc en) (l : List α) (hl : l.length ≤ 16777216) : sortedD [.set (l.map en)] = .ok (.lst ((srt en l).map en)) := by
  show ((sortItems (D.set (l.map en))).bind fun ds => if sortable ds = true then Out.ok (D.lst (ds.mergeSort leB)) else .fail) = _
  unfold sortItems
  rw [ok_bind, if_pos (sortable_enc h l hl), srt_map]
theorem tupSet_enc (h : Enc en) (l : List α) (hl : l.length < 63) : tupSet (l.map en) = true := by
  unfold tupSet
  rw [Bool.and_eq_true]
  refine ⟨?_, by simpa using hl⟩
  rw [List.all_map, List.all_eq_true]
  intro x _
  exact h.tk x
theorem hts_enc (h : Enc en) : ∀ l : List α, D.hts (l.map en) ≤ 30
  | [] => by simp [D.hts]
  | x :: l => by
    rw [List.map_cons, D.hts]
    have := h.ht x
    have := hts_enc h l
    omega
theorem any_enc (h : Enc en) (l : List α) (x : α) : ((l.map en).any fun z => D.eqv z (en x)) = decide (x ∈ l) := by
  induction l with
  | nil => rfl
  | cons y t ih =>
    rw [List.map_cons, List.any_cons, ih, h.eqv]
    by_cases hx : y = x
    · simp [hx]
    · simp [hx, Ne.symm hx]
theorem inX_encT (h : Enc en) (l : List α) (x : α) [d : Decidable (x ∈ l)] : inX (en x) (.tup (l.map en)) = .ok (decide (x ∈ l)) := by
  have e : inX (en x) (.tup (l.map en)) = inD (en x) (.tup (l.map en)) := by obtain ⟨y, r, e⟩ := h.ne x; rw [e]; rfl
  have hz : flat2 (en x) (.tup (l.map en)) = true := by
    unfold flat2
    have := h.ht x
    have := hts_enc h l
    rw [D.ht.eq_def (.tup (l.map en))]
    simp; omega
  rw [e]
  obtain ⟨y, r, e2⟩ := h.ne x
  have e3 : inD (en x) (.tup (l.map en)) = if flat2 (en x) (.tup (l.map en)) = true then .ok ((l.map en).any fun z => D.eqv z (en x)) else .fail := by rw [e2]; rfl
  rw [e3, if_pos hz, any_enc h]
  congr 1
  rw [decide_eq_decide]
theorem inX_encL (h : Enc en) (l : List α) (x : α) [d : Decidable (x ∈ l)] : inX (en x) (.lst (l.map en)) = .ok (decide (x ∈ l)) := by
  have e : inX (en x) (.lst (l.map en)) = inD (en x) (.lst (l.map en)) := by obtain ⟨y, r, e⟩ := h.ne x; rw [e]; rfl
  have hz : flat2 (en x) (.lst (l.map en)) = true := by
    unfold flat2
    have := h.ht x
    have := hts_enc h l
    rw [D.ht.eq_def (.lst (l.map en))]
    simp; omega
  rw [e]
  obtain ⟨y, r, e2⟩ := h.ne x
  have e3 : inD (en x) (.lst (l.map en)) = if flat2 (en x) (.lst (l.map en)) = true then .ok ((l.map en).any fun z => D.eqv z (en x)) else .fail := by rw [e2]; rfl
  rw [e3, if_pos hz, any_enc h]
  congr 1
  rw [decide_eq_decide]
end
theorem any_str (l : List Str) (x : Str) : ((l.map D.str).any fun z => D.eqv z (.str x)) = decide (x ∈ l) := by
  induction l with
  | nil => rfl
  | cons y t ih =>
    rw [List.map_cons, List.any_cons, ih, eqv_str]
    by_cases hx : y = x
    · simp [hx]
    · simp [hx, Ne.symm hx]
theorem hts_str : ∀ l : List Str, D.hts (l.map D.str) = 0
  | [] => rfl
  | x :: l => by rw [List.map_cons, D.hts, hts_str l]; rfl
theorem inX_strT (l : List Str) (x : Str) : inX (.str x) (.tup (l.map .str)) = .ok (decide (x ∈ l)) := by
  show (if flat2 (.str x) (.tup (l.map .str)) = true then Out.ok ((l.map D.str).any fun z => D.eqv z (.str x)) else Out.fail) = _
  have hz : flat2 (.str x) (.tup (l.map .str)) = true := by
    unfold flat2
    have e := hts_str l
    simp [D.ht, e]
  rw [if_pos hz, any_str]
end TP

end
set_option Elab.async false
set_option linter.all false
set_option maxRecDepth 100000
/-! Lemmas of data that name no program: numbers, lists, names, dicts, cuts. -/
noncomputable section
namespace TP
open PySem L2
/-- the slots that a deal's steps of these kinds name -/
def slotsB (T : List S3) (ks : List Str) : List S2 := (T.filter fun t => decide (t.1 ∈ ks)).map (·.2)
theorem slotsB_len (T : List S3) (ks : List Str) : (slotsB T ks).length ≤ T.length := by
  unfold slotsB
  rw [List.length_map]
  exact List.length_filter_le _ _
theorem dd_len (l : List S2) : (dd l).length ≤ l.length := by
  have := dedup_len (l.map en2)
  rw [dd_dedup enc2] at this
  simpa using this
theorem at0 (t : S3) : getX (en3 t) (.int 0) = .ok (.str t.1) := rfl
theorem sl1 (t : S3) : sliceD (some 1) none (en3 t) = .ok (en2 t.2) := rfl
/-- the slots, ascending, each once -/
def S (T : List S3) (ks : List Str) : List S2 := srt en2 (dd (slotsB T ks))
theorem S_len (T : List S3) (ks : List Str) : (S T ks).length ≤ T.length := by
  have h1 := slotsB_len T ks
  have h2 := dd_len (slotsB T ks)
  unfold S
  rw [srt_len]
  omega
theorem S_mem (T : List S3) (ks : List Str) (p : S2) : p ∈ S T ks ↔ p ∈ slotsB T ks := by
  unfold S
  rw [srt_mem, dd_mem]
/-- those of the one that stand in the other -/
def both (A B : List S2) : List S2 := A.filter fun p => decide (p ∈ B)
/-- what both sides say -/
def past (T U : List S3) : List S2 := srt en2 (dd (both (slotsB T ["read"]) (slotsB U ["write", "add"])))
def wrote (T U : List S3) : List S2 := srt en2 (dd (both (slotsB T ["write"]) (slotsB U ["write"])))
theorem both_S (T U : List S3) (ks js : List Str) : both (S T ks) (S U js) = srt en2 (dd (both (slotsB T ks) (slotsB U js))) := by
  unfold both
  have e : (fun p => decide (p ∈ S U js)) = fun p => decide (p ∈ slotsB U js) := by
    funext p
    rw [decide_eq_decide]
    exact S_mem U js p
  rw [e]
  exact srt_dd_filter enc2 _ _
theorem isE {α : Type} (f : α → D) (l : List α) : (l.map f).isEmpty = l.isEmpty := by cases l <;> rfl
theorem inL (B : List S2) (p : S2) : inX (en2 p) (.lst (B.map en2)) = .ok (decide (p ∈ B)) := inX_encL enc2 B p
theorem both_len (A B : List S2) : (both A B).length ≤ A.length := List.length_filter_le _ _
/-! ### the same -/
mutual
def wt : TP.D → Nat
  | .tup l => wts l + 1
  | _ => 1
def wts : List TP.D → Nat
  | [] => 0
  | d :: r => wt d + wts r
end
theorem wts_app (a b : List TP.D) : wts (a ++ b) = wts a + wts b := by
  induction a with
  | nil => simp [wts]
  | cons d r ih => rw [List.cons_append, wts, wts, ih]; omega
theorem wt_pos (d : TP.D) : 1 ≤ wt d := by cases d <;> simp [wt]
theorem wts_len (l : List TP.D) : l.length ≤ wts l := by
  induction l with
  | nil => simp [wts]
  | cons d r ih => rw [wts, List.length_cons]; have := wt_pos d; omega
abbrev pair (d : TP.D) : TP.D := .tup [d, d]
theorem getLast_pair (ds : List TP.D) (d : TP.D) : ((ds ++ [d]).map pair).getLast? = some (pair d) := by simp
theorem dropLast_pair (ds : List TP.D) (d : TP.D) : ((ds ++ [d]).map pair).dropLast = ds.map pair := by simp
theorem ne_bl (x : Bool) : neD (.bl x) (.bl x) = .ok false := by simp [neD, flat2, D.ht, D.eqv, D.toP, PyData.eqv]
theorem ne_int (x : Int) : neD (.int x) (.int x) = .ok false := by simp [neD, flat2, D.ht, D.eqv, D.toP, PyData.eqv]
theorem ne_str (x : Str) : neD (.str x) (.str x) = .ok false := by simp [neD, flat2, D.ht, D.eqv, D.toP, PyData.eqv]
theorem i_bb (x : Bool) : isiB "bool" (.bl x) = true := by simp [isiB, D.ty]
theorem i_bi (x : Int) : isiB "bool" (.int x) = false := by simp [isiB, D.ty]
theorem i_bs (x : Str) : isiB "bool" (.str x) = false := by simp [isiB, D.ty]
theorem i_bt (x : List TP.D) : isiB "bool" (.tup x) = false := by simp [isiB, D.ty]
theorem i_si (x : Int) : isiB "str" (.int x) = false := by simp [isiB, D.ty]
theorem i_ss (x : Str) : isiB "str" (.str x) = true := by simp [isiB, D.ty]
theorem i_st (x : List TP.D) : isiB "str" (.tup x) = false := by simp [isiB, D.ty]
theorem i_ii (x : Int) : isiB "int" (.int x) = true := by simp [isiB, D.ty]
theorem i_it (x : List TP.D) : isiB "int" (.tup x) = false := by simp [isiB, D.ty]
theorem i_tt (x : List TP.D) : isiB "tuple" (.tup x) = true := by simp [isiB, D.ty]
theorem len_tup (l : List TP.D) : lenD [.tup l] = .ok (.int l.length) := rfl
theorem len_lst (l : List TP.D) : lenD [.lst l] = .ok (.int l.length) := rfl
theorem getX_nat (l : List TP.D) (k : Nat) (d : TP.D) (h : l[k]? = some d) : getX (.tup l) (.int (k : Nat)) = .ok d := by
  show Out.ofO (atI l (k : Nat)) = .ok d
  rw [atI_nat h]
  rfl
theorem rd1 (n : Nat) (h : n ≤ 1000000) : rangeD1 [.int (n : Nat)] = .ok (rangeL 0 n) := by
  show (if bound (n : Nat) = true then Out.ok (rangeL 0 ((n : Nat) : Int).toNat) else .fail) = _
  rw [if_pos]
  · rfl
  · rw [bound_eq]
    rw [Bool.and_eq_true]
    exact ⟨decide_eq_true (by omega), decide_eq_true (by omega)⟩
theorem keys_mem {l : List TP.D} (h : D.areKeys l = true) : ∀ d ∈ l, d.isKey = true := by
  induction l with
  | nil => intro d hd; cases hd
  | cons x r ih =>
    unfold D.areKeys at h
    have h := and2 h
    intro d hd
    rcases List.mem_cons.mp hd with rfl | hd
    · exact h.1
    · exact ih h.2 d hd
theorem keys_en2 (l : List S2) : D.areKeys (l.map en2) = true := by
  induction l with
  | nil => rfl
  | cons p r ih =>
    rw [List.map_cons, D.areKeys, ih]
    rfl
theorem wts_en2 (l : List S2) : wts (l.map en2) = 3 * l.length := by
  induction l with
  | nil => rfl
  | cons p r ih =>
    rw [List.map_cons, wts, ih, List.length_cons]
    have : wt (en2 p) = 3 := by simp [en2, wt, wts]
    omega
theorem past_len (T U : List S3) : (past T U).length ≤ T.length := by
  unfold past
  rw [srt_len]
  have h1 := dd_len (both (slotsB T ["read"]) (slotsB U ["write", "add"]))
  have h2 := both_len (slotsB T ["read"]) (slotsB U ["write", "add"])
  have h3 := slotsB_len T ["read"]
  omega
theorem wrote_len (T U : List S3) : (wrote T U).length ≤ T.length := by
  unfold wrote
  rw [srt_len]
  have h1 := dd_len (both (slotsB T ["write"]) (slotsB U ["write"]))
  have h2 := both_len (slotsB T ["write"]) (slotsB U ["write"])
  have h3 := slotsB_len T ["write"]
  omega
theorem lenT {α : Type} (f : α → TP.D) (l : List α) : lenD [.tup (l.map f)] = .ok (.int l.length) := by
  show Out.ok (D.int ((l.map f).length : Nat)) = _
  rw [List.length_map]
theorem more_than (a b c : Nat) : decide ((0 : Int) < (a : Int) + (b : Int) + (c : Int)) = (!decide (a = 0) || (!decide (b = 0) || !decide (c = 0))) := by
  by_cases ha : a = 0 <;> by_cases hb : b = 0 <;> by_cases hc : c = 0 <;> simp [ha, hb, hc] <;> omega
theorem empty_len {α : Type} (l : List α) : l.isEmpty = decide (l.length = 0) := by cases l <;> simp
/-! ### the draws -/
theorem small_of {i : Int} (n : Nat) (hn : n ≤ 60000) (h : i.natAbs < 2 ^ n) : small i = true := by
  rw [small_eq]
  refine decide_eq_true ?_
  by_cases h0 : i.natAbs = 0
  · rw [h0]; decide
  · exact Nat.lt_of_lt_of_le ((Nat.log2_lt h0).mpr h) hn
theorem ten_two (n : Nat) : 10 ^ n ≤ 2 ^ (4 * n) := by
  rw [Nat.pow_mul]
  exact Nat.pow_le_pow_left (by decide) n
theorem mul_ok {i j : Int} (n m : Nat) (hn : n ≤ 60000) (hm : m ≤ 60000) (h : i.natAbs < 2 ^ n) (k : j.natAbs < 2 ^ m) : mulD (.int i) (.int j) = .ok (.int (i * j)) := by
  show (if small i && small j || (lil i || lil j) then Out.ok (D.int (i * j)) else .fail) = _
  rw [small_of n hn h, small_of m hm k]
  rfl
theorem mulL_ok {i j : Int} (h : -(2 ^ 64) < i ∧ i < 2 ^ 64) : mulD (.int i) (.int j) = .ok (.int (i * j)) := by
  show (if small i && small j || (lil i || lil j) then Out.ok (D.int (i * j)) else .fail) = _
  rw [if_pos]
  rw [lil_eq, decide_eq_true h, Bool.true_or, Bool.or_true]
theorem mod_ok {i j : Int} (h : 0 < j) : modD (.int i) (.int j) = .ok (.int (i % j)) := by
  show (if decide (0 < j) then Out.ok (D.int (i % j)) else .fail) = _
  rw [if_pos (decide_eq_true h)]
theorem div_ok {i : Int} (h : True) : fdivD (.int i) (.int 10039) = .ok (.int (i / 10039)) := rfl
theorem div_ok2 {i : Int} (h : True) : fdivD (.int i) (.int 16384) = .ok (.int (i / 16384)) := rfl
theorem int_ok (i : Int) : intD [.int i] = .ok (.int i) := rfl
theorem add_ok (i j : Int) : addD (.int i) (.int j) = .ok (.int (i + j)) := rfl
theorem neg_ok (i : Int) : negD (.int i) = .ok (.int (-i)) := rfl
theorem pow60 : powD (.int 10) (.int 60) = .ok (.int (10 ^ 60)) := rfl
theorem pow18 : powD (.int 10) (.int 18) = .ok (.int (10 ^ 18)) := rfl
theorem len_scr (l : List Int) : lenD [.scr l] = .ok (.int l.length) := rfl
theorem getX_scr (l : List Int) (i : Int) (h : 0 ≤ i) (k : i < l.length) : ∃ n, getX (.scr l) (.int i) = .ok (.int n) := by
  have hk : i.toNat < l.length := by omega
  refine ⟨l[i.toNat], ?_⟩
  show Out.ofO ((atI l i).map D.int) = _
  have e : i = (i.toNat : Int) := by omega
  have q : atI l ((i.toNat : Nat) : Int) = some l[i.toNat] := atI_nat (List.getElem?_eq_getElem hk)
  rw [← e] at q
  rw [q]
  rfl
/-- the first number -/
theorem cell_ok (ns : List Int) (salt : Int) (hs : 0 ≤ salt) : ∃ c : Int, ((if decide ((0 : Int) < (ns.length : Int)) = true then (((modD (.int salt) (.int ns.length)).bind fun y => getX (.scr ns) y).bind fun x => Out.ok [x]).bind intD else .ok (.int salt)) : Out TP.D) = .ok (.int c) := by
  by_cases h : (0 : Int) < (ns.length : Int)
  · rw [if_pos (decide_eq_true h), mod_ok h, ok_bind]
    obtain ⟨n, e⟩ := getX_scr ns (salt % ns.length) (Int.emod_nonneg _ (by omega)) (Int.emod_lt_of_pos _ h)
    exact ⟨n, by rw [e]; rfl⟩
  · exact ⟨salt, by rw [if_neg (by simpa using h)]⟩
/-- small draws -/
def Draws (n : Nat) (ds : List Int) : Prop := ds.length = n ∧ ∀ d ∈ ds, 0 ≤ d
/-! ### the names -/
theorem getX_lst (l : List TP.D) (i : Int) (h : 0 ≤ i) (k : i < l.length) : ∃ d, l[i.toNat]? = some d ∧ getX (.lst l) (.int i) = .ok d := by
  have hk : i.toNat < l.length := by omega
  refine ⟨l[i.toNat], List.getElem?_eq_getElem hk, ?_⟩
  show Out.ofO (atI l i) = _
  have e : i = (i.toNat : Int) := by omega
  have q : atI l ((i.toNat : Nat) : Int) = some l[i.toNat] := atI_nat (List.getElem?_eq_getElem hk)
  rw [← e] at q
  rw [q]
  rfl
theorem getX_ints (l : List Int) (i : Int) (h : 0 ≤ i) (k : i < l.length) : ∃ n, l[i.toNat]? = some n ∧ getX (.lst (l.map .int)) (.int i) = .ok (.int n) := by
  obtain ⟨d, h1, h2⟩ := getX_lst (l.map .int) i h (by rw [List.length_map]; exact k)
  rw [List.getElem?_map] at h1
  cases hn : l[i.toNat]? with
  | none => rw [hn] at h1; cases h1
  | some n => rw [hn] at h1; cases h1; exact ⟨n, rfl, h2⟩
theorem getX_strs (l : List Str) (i : Int) (h : 0 ≤ i) (k : i < l.length) : ∃ x, l[i.toNat]? = some x ∧ getX (.lst (l.map .str)) (.int i) = .ok (.str x) := by
  obtain ⟨d, h1, h2⟩ := getX_lst (l.map .str) i h (by rw [List.length_map]; exact k)
  rw [List.getElem?_map] at h1
  cases hn : l[i.toNat]? with
  | none => rw [hn] at h1; cases h1
  | some n => rw [hn] at h1; cases h1; exact ⟨n, rfl, h2⟩
theorem getX_sign (x : Str) (i : Int) (h : 0 ≤ i) (k : i < x.cps.toList.length) : ∃ c, x.cps.toList[i.toNat]? = some c ∧ getX (.str x) (.int i) = .ok (.str ⟨#[c]⟩) := by
  have hk : i.toNat < x.cps.toList.length := by omega
  refine ⟨x.cps.toList[i.toNat], List.getElem?_eq_getElem hk, ?_⟩
  show Out.ofO ((atI x.cps.toList i).map fun c => D.str ⟨#[c]⟩) = _
  have e : i = (i.toNat : Int) := by omega
  have q : atI x.cps.toList ((i.toNat : Nat) : Int) = some x.cps.toList[i.toNat] := atI_nat (List.getElem?_eq_getElem hk)
  rw [← e] at q
  rw [q]
  rfl
theorem add_str (x y : Str) (h : x.length + y.length ≤ 16777216) : addD (.str x) (.str y) = .ok (.str (x ++ y)) := by
  show (if fits (x.length + y.length) = true then Out.ok (D.str (x ++ y)) else .fail) = _
  rw [if_pos (fits_of h)]
/-- what the names begin with -/
def signsC : Str := "ABCDEFGHIJKLMNOPQRSTUVWXYZ"
def sufC : List Str := ["", "", "1", "b", "Z9", "stock00", "x"]
def signsR : Str := "abcdefghijklmnopqrstuvwxyz0123456789"
def sufR : List Str := ["", "", "", "7", "q", "zz99999"]
/-- names whose first signs stand at first + k step -/
def Names (signs : Str) (m first step : Int) (xs : List Str) : Prop := ∀ k x, xs[k]? = some x → x.length ≤ 100 ∧ ∃ c, signs.cps.toList[((first + (k : Nat) * step) % m).toNat]? = some c ∧ x.cps[0]? = some c
theorem sufC_len : ∀ x ∈ sufC, x.length ≤ 50 := by decide +kernel
theorem sufR_len : ∀ x ∈ sufR, x.length ≤ 50 := by decide +kernel
def stepsC : List Int := [1, 5, 7, 11, 15, 19]
def stepsR : List Int := [1, 5, 7, 11, 13, 17]
theorem stepsC_ok : ∀ s ∈ stepsC, 0 ≤ s ∧ s ≤ 1000 ∧ 0 < s ∧ s < 26 := by decide
theorem stepsR_ok : ∀ s ∈ stepsR, 0 ≤ s ∧ s ≤ 1000 ∧ 0 < s ∧ s < 26 := by decide
/-- the first two names differ -/
theorem names_ne {signs : Str} {m first step : Int} {xs : List Str} (h : Names signs m first step xs) (hn : (signs.cps.toList).Nodup) (hm : (signs.cps.toList.length : Int) = m) (s0 : 0 < step) (s1 : step < m) {x y : Str} (h0 : xs[0]? = some x) (h1 : xs[1]? = some y) : x ≠ y := by
  rintro rfl
  obtain ⟨_, c, c1, c2⟩ := h 0 x h0
  obtain ⟨_, d, d1, d2⟩ := h 1 x h1
  rw [c2] at d2
  cases d2
  have q0 := Int.emod_nonneg (first + ((0 : Nat) : Int) * step) (show m ≠ 0 by omega)
  have q1 := Int.emod_lt_of_pos (first + ((0 : Nat) : Int) * step) (show 0 < m by omega)
  have r0 := Int.emod_nonneg (first + ((1 : Nat) : Int) * step) (show m ≠ 0 by omega)
  have r1 := Int.emod_lt_of_pos (first + ((1 : Nat) : Int) * step) (show 0 < m by omega)
  have e : ((first + ((0 : Nat) : Int) * step) % m).toNat = ((first + ((1 : Nat) : Int) * step) % m).toNat :=
    (List.getElem?_inj (List.getElem?_eq_some_iff.mp c1).1 hn).mp (c1.trans d1.symm)
  have e2 : (first + ((0 : Nat) : Int) * step) % m = (first + ((1 : Nat) : Int) * step) % m := by omega
  have e3 := Int.emod_emod_of_dvd
  have e4 : ((first + ((1 : Nat) : Int) * step) - (first + ((0 : Nat) : Int) * step)) % m = 0 := by
    rw [Int.sub_emod, e2, Int.sub_self, Int.zero_emod]
  have e5 : (first + ((1 : Nat) : Int) * step) - (first + ((0 : Nat) : Int) * step) = step := by simp; omega
  rw [e5, Int.emod_eq_of_lt (by omega) s1] at e4
  omega
/-! ### a dict of texts -/
def AllStr (ds : List (TP.D × TP.D)) : Prop := ∀ p ∈ ds, ∃ a b : Str, p = (.str a, .str b)
def Has (ds : List (TP.D × TP.D)) (c : Str) : Prop := ∃ v : Str, dlook ds (.str c) = some (.str v)
theorem keq_str (a b : Str) : dkeyEq (.str a) (.str b) = decide (a = b) := by
  unfold dkeyEq
  rw [D.key, D.key, NestedKey.beq]
theorem fits_str {ds : List (TP.D × TP.D)} (h : AllStr ds) (c : Str) : keyFits ds (.str c) = true := by
  unfold keyFits
  rw [if_neg (show ¬ isTupD (D.str c) = true from Bool.noConfusion), Bool.and_eq_true]
  refine ⟨rfl, List.all_eq_true.mpr fun p hp => ?_⟩
  obtain ⟨a, b, rfl⟩ := h p hp
  rfl
theorem put_str {ds : List (TP.D × TP.D)} (h : AllStr ds) (c v : Str) : AllStr (dputL ds (.str c) (.str v)) := by
  intro p hp
  unfold dputL at hp
  split at hp
  · obtain ⟨q, hq, rfl⟩ := List.mem_map.mp hp
    obtain ⟨a, b, rfl⟩ := h q hq
    split
    · exact ⟨a, v, rfl⟩
    · exact ⟨a, b, rfl⟩
  · rcases List.mem_append.mp hp with hp | hp
    · exact h p hp
    · rw [List.mem_singleton.mp hp]
      exact ⟨c, v, rfl⟩
theorem put_len (ds : List (TP.D × TP.D)) (k v : TP.D) : (dputL ds k v).length ≤ ds.length + 1 := by
  unfold dputL
  split <;> simp
theorem put_self {ds : List (TP.D × TP.D)} (h : AllStr ds) (c v : Str) : Has (dputL ds (.str c) (.str v)) c := by
  induction ds with
  | nil => exact ⟨v, by unfold dputL dlook; simp [keq_str]⟩
  | cons p t ih =>
    obtain ⟨a, b, rfl⟩ := h p List.mem_cons_self
    rw [dputL_head]
    by_cases e : a = c
    · refine ⟨v, ?_⟩
      simp only [keq_str, e, decide_true, if_true]
      unfold dlook
      rw [List.find?_cons]
      simp [keq_str]
    · obtain ⟨w, hw⟩ := ih fun q hq => h q (List.mem_cons_of_mem _ hq)
      refine ⟨w, ?_⟩
      simp only [keq_str, e, decide_false, Bool.false_eq_true, if_false]
      unfold dlook at hw ⊢
      rw [List.find?_cons]
      simp only [keq_str, e, decide_false]
      exact hw
theorem put_other {ds : List (TP.D × TP.D)} (h : AllStr ds) (c v c' : Str) (hc : Has ds c') : Has (dputL ds (.str c) (.str v)) c' := by
  by_cases e0 : c = c'
  · subst e0
    exact put_self h c v
  · induction ds with
    | nil => obtain ⟨w, hw⟩ := hc; cases hw
    | cons p t ih =>
      obtain ⟨a, b, rfl⟩ := h p List.mem_cons_self
      rw [dputL_head]
      obtain ⟨w, hw⟩ := hc
      unfold dlook at hw
      rw [List.find?_cons] at hw
      by_cases e : a = c
      · subst e
        simp only [keq_str, decide_true, if_true, e0, decide_false] at hw ⊢
        refine ⟨w, ?_⟩
        unfold dlook
        rw [List.find?_cons]
        simp only [keq_str, e0, decide_false]
        have key : ∀ l : List (TP.D × TP.D), AllStr l → (l.map fun p => if dkeyEq p.1 (.str a) = true then (p.1, D.str v) else p).find? (fun p => dkeyEq p.1 (.str c')) = l.find? fun p => dkeyEq p.1 (.str c') := by
          intro l hl
          induction l with
          | nil => rfl
          | cons q r ih2 =>
            obtain ⟨a2, b2, rfl⟩ := hl q List.mem_cons_self
            rw [List.map_cons, List.find?_cons, List.find?_cons, ih2 fun x hx => hl x (List.mem_cons_of_mem _ hx)]
            by_cases e2 : a2 = a
            · subst e2
              simp [keq_str, e0]
            · simp [keq_str, e2]
        rw [key t fun q hq => h q (List.mem_cons_of_mem _ hq)]
        exact hw
      · simp only [keq_str, e, decide_false, Bool.false_eq_true, if_false]
        by_cases e2 : a = c'
        · refine ⟨b, ?_⟩
          unfold dlook
          rw [List.find?_cons]
          simp [keq_str, e2]
        · simp only [keq_str, e2, decide_false] at hw
          obtain ⟨w2, hw2⟩ := ih (fun q hq => h q (List.mem_cons_of_mem _ hq)) ⟨w, hw⟩
          refine ⟨w2, ?_⟩
          unfold dlook at hw2 ⊢
          rw [List.find?_cons]
          simp only [keq_str, e2, decide_false]
          exact hw2
theorem get_str {ds : List (TP.D × TP.D)} (h : AllStr ds) {c : Str} (hc : Has ds c) : ∃ v : Str, getX (.dct ds) (.str c) = .ok (.str v) := by
  obtain ⟨v, hv⟩ := hc
  refine ⟨v, ?_⟩
  show (if keyFits ds (.str c) = true then Out.ofO (dlook ds (.str c)) else .fail) = _
  rw [if_pos (fits_str h c), hv]
  rfl
/-! ### a dict of triples -/
abbrev tt (t : S3) : TP.D × TP.D := (en3 t, .bl true)
theorem fits3 (T : List S3) (t : S3) : keyFits (T.map tt) (en3 t) = true := by
  unfold keyFits
  rw [if_pos (show isTupD (en3 t) = true from rfl), tk_en3, Bool.true_and, List.all_map, List.all_eq_true]
  intro x _
  rfl
theorem put3 (T : List S3) (t : S3) : dputL (T.map tt) (en3 t) (.bl true) = (if t ∈ T then T else T ++ [t]).map tt := by
  unfold dputL
  have e : ((T.map tt).any fun p => dkeyEq p.1 (en3 t)) = decide (t ∈ T) := by
    rw [List.any_map]
    simp only [Function.comp_def, key_en3]
    induction T with
    | nil => rfl
    | cons y r ih =>
      rw [List.any_cons, ih]
      by_cases hx : y = t
      · simp [hx]
      · simp [hx, Ne.symm hx]
  rw [e]
  by_cases h : t ∈ T
  · simp only [h, decide_true, if_true]
    rw [List.map_map]
    refine List.map_congr_left fun x _ => ?_
    show (if dkeyEq (en3 x) (en3 t) = true then (en3 x, D.bl true) else (en3 x, D.bl true)) = _
    split <;> rfl
  · simp [h]
theorem sorted3 (T : List S3) (h : T.length ≤ 1000) : sortedD [.dct (T.map tt)] = .ok (.lst ((srt en3 T).map en3)) := by
  show ((sortItems (D.dct (T.map tt))).bind fun ds => if sortable ds = true then Out.ok (D.lst (ds.mergeSort leB)) else .fail) = _
  have e : (T.map tt).map (·.1) = T.map en3 := by rw [List.map_map]; rfl
  have e2 : sortItems (D.dct (T.map tt)) = .ok (T.map en3) := congrArg Out.ok e
  rw [e2, ok_bind, if_pos (sortable_enc enc3 T (by omega)), srt_map]
theorem eq_int (i j : Int) : eqD (.int i) (.int j) = .ok (decide (i = j)) := by
  unfold eqD
  rw [if_pos (by simp [flat2, D.ht])]
  unfold D.eqv
  rw [D.toP, D.toP]
  by_cases h : i = j <;> simp [PyData.eqv, h]
theorem lenL {α : Type} (f : α → TP.D) (l : List α) : lenD [.lst (l.map f)] = .ok (.int l.length) := by
  show Out.ok (D.int ((l.map f).length : Nat)) = _
  rw [List.length_map]
/-! ### the law -/
theorem cut_from {α : Type} (l : List α) (k : Nat) : cutL l (some (k : Int)) none = l.drop k := by
  unfold cutL
  rw [HT.sIx_nat, HT.sIx_none]
  rcases Nat.le_total k l.length with h | h
  · rw [Nat.min_eq_left h]
    exact List.take_of_length_le (by simp)
  · rw [Nat.min_eq_right h, List.drop_length, List.drop_eq_nil_of_le h]
    simp
theorem cut_to {α : Type} (l : List α) (k : Nat) : cutL l none (some (k : Int)) = l.take k := by
  unfold cutL
  rw [HT.sIx_nat, HT.sIx_none, List.drop_zero, Nat.sub_zero]
  rcases Nat.le_total k l.length with h | h
  · rw [Nat.min_eq_left h]
  · rw [Nat.min_eq_right h, List.take_length, List.take_of_length_le h]
theorem sl_from (l : List TP.D) (k : Nat) : sliceD (some (k : Int)) none (.lst l) = .ok (.lst (l.drop k)) := by
  show Out.ok (D.lst (cutL l (some (k : Int)) none)) = _
  rw [cut_from]
theorem sl_to (l : List TP.D) (k : Nat) : sliceD none (some (k : Int)) (.lst l) = .ok (.lst (l.take k)) := by
  show Out.ok (D.lst (cutL l none (some (k : Int)))) = _
  rw [cut_to]
def kindsL : List Str := ["write", "write", "add"]
theorem keys3 (T : List S3) : D.areKeys (T.map en3) = true := by
  induction T with
  | nil => rfl
  | cons p r ih =>
    rw [List.map_cons, D.areKeys, ih]
    rfl
theorem keyed3 (T : List S3) : keyed (.tup (T.map en3)) = .ok (.tup (T.map en3)) := by
  unfold keyed
  rw [if_pos (by unfold D.isKey; exact keys3 T)]
/-- the deals -/
abbrev enT (T : List S3) : TP.D := .tup (T.map en3)
/-! ### the known pairs -/
theorem mem_slots (T : List S3) (ks : List Str) (s : S2) : s ∈ slotsB T ks ↔ ∃ k, k ∈ ks ∧ (k, s) ∈ T := by
  unfold slotsB
  rw [List.mem_map]
  constructor
  · rintro ⟨t, ht, rfl⟩
    rw [List.mem_filter] at ht
    exact ⟨t.1, of_decide_eq_true ht.2, ht.1⟩
  · rintro ⟨k, hk, ht⟩
    exact ⟨(k, s), List.mem_filter.mpr ⟨ht, decide_eq_true hk⟩, rfl⟩
theorem mem_both (A B : List S2) (s : S2) : s ∈ both A B ↔ s ∈ A ∧ s ∈ B := by
  unfold both
  rw [List.mem_filter, decide_eq_true_eq]
/-- a reading that nobody changes may stand beside -/
theorem beside {T : List S3} {p q more : S3} (hT : ∀ t, t ∈ T ↔ t = p ∨ t = more) (hm : more.1 = "read") (hq : more.2 ∉ slotsB [q] ["write", "add"]) : past T [q] = past [p] [q] ∧ wrote T [q] = wrote [p] [q] ∧ past [q] T = past [q] [p] := by
  have rw' : ¬ ("read" : Str) ∈ (["write"] : List Str) := by decide
  have ra : ¬ ("read" : Str) ∈ (["write", "add"] : List Str) := by decide
  have no : ∀ (ks : List Str) (s : S2), ¬ ("read" : Str) ∈ ks → (s ∈ slotsB T ks ↔ s ∈ slotsB [p] ks) := fun ks s hk => by
    rw [mem_slots, mem_slots]
    refine exists_congr fun k => and_congr_right fun hkk => ?_
    rw [hT, List.mem_singleton]
    refine ⟨fun h => h.elim id fun h => ?_, Or.inl⟩
    rw [← h] at hm
    have hm' : k = "read" := hm
    exact absurd (hm' ▸ hkk) hk
  refine ⟨srt_dd_congr enc2 fun s => ?_, srt_dd_congr enc2 fun s => ?_, srt_dd_congr enc2 fun s => ?_⟩
  · rw [mem_both, mem_both]
    refine and_congr_left fun hs => ?_
    rw [mem_slots, mem_slots]
    refine exists_congr fun k => and_congr_right fun hkk => ?_
    rw [hT, List.mem_singleton]
    refine ⟨fun h => h.elim id fun h => ?_, Or.inl⟩
    rw [← h] at hq
    exact absurd hs hq
  · rw [mem_both, mem_both, no _ s rw']
  · rw [mem_both, mem_both, no _ s ra]

theorem srt_nil : srt en2 (dd ([] : List S2)) = [] := by
  have e : dd ([] : List S2) = [] := rfl
  rw [e]
  unfold srt
  simp
theorem srt_one (s : S2) : srt en2 (dd [s]) = [s] := by
  have e : dd [s] = [s] := by simp [dd]
  rw [e]
  unfold srt
  simp
theorem slots1 (k : Str) (s : S2) (ks : List Str) : slotsB [(k, s)] ks = if k ∈ ks then [s] else [] := by
  unfold slotsB
  by_cases h : k ∈ ks <;> simp [h]
theorem both_nil (B : List S2) : both [] B = [] := rfl
theorem both_none (A : List S2) : both A [] = [] := by unfold both; simp
theorem both_one (s t : S2) : both [s] [t] = if s = t then [s] else [] := by
  unfold both
  by_cases h : s = t <;> simp [h]
end TP

end
set_option Elab.async false
set_option linter.all false
set_option maxRecDepth 100000
/-! Names drawn from signs, deals drawn from names. -/
noncomputable section
namespace TP
open PySem L2
/-- names: the sign at first + k step, then a suffix -/
def NamesS (signs : Str) (suf : List Str) (m first step : Int) (xs : List Str) : Prop := ∀ k x, xs[k]? = some x → ∃ c y, x = (⟨#[c]⟩ : Str) ++ y ∧ y ∈ suf ∧ signs.cps.toList[((first + (k : Nat) * step) % m).toNat]? = some c
theorem cps_app (x y : Str) : (x ++ y).cps = x.cps ++ y.cps := rfl
theorem head_sign (c : Nat) (y : Str) : ((⟨#[c]⟩ : Str) ++ y).cps[0]? = some c := by
  rw [cps_app, Array.getElem?_append_left (by show 0 < 1; decide)]
  rfl
theorem NamesS.push {signs : Str} {suf : List Str} {m first step : Int} {xs : List Str} {c : Nat} {y : Str} (h : NamesS signs suf m first step xs) (hy : y ∈ suf) (hc : signs.cps.toList[((first + (xs.length : Nat) * step) % m).toNat]? = some c) : NamesS signs suf m first step (xs ++ [(⟨#[c]⟩ : Str) ++ y]) := by
  intro k x hx
  rcases Nat.lt_or_ge k xs.length with hk | hk
  · rw [List.getElem?_append_left hk] at hx
    exact h k x hx
  · rw [List.getElem?_append_right hk] at hx
    have hj : k = xs.length := by
      have := (List.getElem?_eq_some_iff.mp hx).1
      simp at this
      omega
    subst hj
    rw [Nat.sub_self] at hx
    cases hx
    exact ⟨c, y, rfl, hy, hc⟩
theorem sufC_len8 : ∀ x ∈ sufC, x.length ≤ 7 := by decide +kernel
theorem sufR_len8 : ∀ x ∈ sufR, x.length ≤ 7 := by decide +kernel
theorem NamesS.ne {signs : Str} {suf : List Str} {m first step : Int} {xs : List Str} (h : NamesS signs suf m first step xs) (hn : (signs.cps.toList).Nodup) (hm : 0 < m) (hml : (signs.cps.toList.length : Int) = m) {i j : Nat} (hij : i < j) (hd : ((j - i : Nat) * step) % m ≠ 0) {x y : Str} (h0 : xs[i]? = some x) (h1 : xs[j]? = some y) : x ≠ y := by
  rintro rfl
  obtain ⟨c, u, e1, _, c1⟩ := h i x h0
  obtain ⟨d, v, e2, _, d1⟩ := h j x h1
  have z1 := head_sign c u
  have z2 := head_sign d v
  rw [← e1] at z1
  rw [← e2, z1] at z2
  cases z2
  have q0 := Int.emod_nonneg (first + (i : Int) * step) (show m ≠ 0 by omega)
  have q1 := Int.emod_lt_of_pos (first + (i : Int) * step) hm
  have r0 := Int.emod_nonneg (first + (j : Int) * step) (show m ≠ 0 by omega)
  have r1 := Int.emod_lt_of_pos (first + (j : Int) * step) hm
  have e : ((first + (i : Int) * step) % m).toNat = ((first + (j : Int) * step) % m).toNat :=
    (List.getElem?_inj (List.getElem?_eq_some_iff.mp c1).1 hn).mp (c1.trans d1.symm)
  have e3 : (first + (i : Int) * step) % m = (first + (j : Int) * step) % m := by omega
  have e4 : ((first + (j : Int) * step) - (first + (i : Int) * step)) % m = 0 := by
    rw [Int.sub_emod, e3, Int.sub_self, Int.zero_emod]
  have e5 : (first + (j : Int) * step) - (first + (i : Int) * step) = ((j - i : Nat) : Int) * step := by
    rw [show ((j - i : Nat) : Int) = (j : Int) - (i : Int) by omega, Int.sub_mul]
    omega
  rw [e5] at e4
  exact hd e4
theorem stepsC_co : ∀ s ∈ stepsC, ∀ d : Nat, 0 < d → d < 10 → ((d : Nat) * s) % 26 ≠ 0 := by
  intro s hs d h1 h2
  simp only [stepsC, List.mem_cons, List.not_mem_nil, or_false] at hs
  rcases hs with rfl | rfl | rfl | rfl | rfl | rfl <;> omega
theorem stepsR_co : ∀ s ∈ stepsR, ∀ d : Nat, 0 < d → d < 10 → ((d : Nat) * s) % 36 ≠ 0 := by
  intro s hs d h1 h2
  simp only [stepsR, List.mem_cons, List.not_mem_nil, or_false] at hs
  rcases hs with rfl | rfl | rfl | rfl | rfl | rfl <;> omega
theorem signsC_nd : (signsC.cps.toList).Nodup := by decide +kernel
theorem signsR_nd : (signsR.cps.toList).Nodup := by decide +kernel
theorem signsC_len : (signsC.cps.toList.length : Int) = 26 := by decide +kernel
theorem signsR_len : (signsR.cps.toList.length : Int) = 36 := by decide +kernel
/-- drawn columns, rows -/
def ColsOf (xs : List Str) : Prop := ∃ first step, step ∈ stepsC ∧ NamesS signsC sufC 26 first step xs
def RowsOf (xs : List Str) : Prop := ∃ first step, step ∈ stepsR ∧ NamesS signsR sufR 36 first step xs
theorem ColsOf.ne {xs : List Str} (h : ColsOf xs) {i j : Nat} (hij : i < j) (hj : j < 10) {x y : Str} (h0 : xs[i]? = some x) (h1 : xs[j]? = some y) : x ≠ y := by
  obtain ⟨f, s, hs, hn⟩ := h
  exact hn.ne signsC_nd (by decide) signsC_len hij (stepsC_co s hs _ (by omega) (by omega)) h0 h1
theorem RowsOf.ne {xs : List Str} (h : RowsOf xs) {i j : Nat} (hij : i < j) (hj : j < 10) {x y : Str} (h0 : xs[i]? = some x) (h1 : xs[j]? = some y) : x ≠ y := by
  obtain ⟨f, s, hs, hn⟩ := h
  exact hn.ne signsR_nd (by decide) signsR_len hij (stepsR_co s hs _ (by omega) (by omega)) h0 h1
theorem ColsOf.form {xs : List Str} (h : ColsOf xs) {x : Str} (hx : x ∈ xs) : ∃ c y, x = (⟨#[c]⟩ : Str) ++ y ∧ y ∈ sufC ∧ c ∈ signsC.cps.toList := by
  obtain ⟨f, s, hs, hn⟩ := h
  obtain ⟨k, hk⟩ := List.mem_iff_getElem?.mp hx
  obtain ⟨c, y, h1, h2, h3⟩ := hn k x hk
  exact ⟨c, y, h1, h2, List.mem_of_getElem? h3⟩
theorem RowsOf.form {xs : List Str} (h : RowsOf xs) {x : Str} (hx : x ∈ xs) : ∃ c y, x = (⟨#[c]⟩ : Str) ++ y ∧ y ∈ sufR ∧ c ∈ signsR.cps.toList := by
  obtain ⟨f, s, hs, hn⟩ := h
  obtain ⟨k, hk⟩ := List.mem_iff_getElem?.mp hx
  obtain ⟨c, y, h1, h2, h3⟩ := hn k x hk
  exact ⟨c, y, h1, h2, List.mem_of_getElem? h3⟩
theorem sign_len (c : Nat) (y : Str) : ((⟨#[c]⟩ : Str) ++ y).length = 1 + y.length := by
  show ((⟨#[c]⟩ : Str) ++ y).cps.size = 1 + y.cps.size
  rw [cps_app, Array.size_append]
  rfl
theorem ColsOf.len {xs : List Str} (h : ColsOf xs) {x : Str} (hx : x ∈ xs) : x.length ≤ 8 := by
  obtain ⟨c, y, rfl, h2, _⟩ := h.form hx
  rw [sign_len]
  have := sufC_len8 y h2
  omega
theorem RowsOf.len {xs : List Str} (h : RowsOf xs) {x : Str} (hx : x ∈ xs) : x.length ≤ 8 := by
  obtain ⟨c, y, rfl, h2, _⟩ := h.form hx
  rw [sign_len]
  have := sufR_len8 y h2
  omega

/-! ### dicts of texts, as lists of pairs -/
abbrev ss (p : Str × Str) : D × D := (.str p.1, .str p.2)
/-- a put -/
def putS (l : List (Str × Str)) (c v : Str) : List (Str × Str) := if (l.any fun p => decide (p.1 = c)) = true then l.map (fun p => if p.1 = c then (p.1, v) else p) else l ++ [(c, v)]
def lookS (l : List (Str × Str)) (c : Str) : Option Str := (l.find? fun p => decide (p.1 = c)).map (·.2)
theorem put_ss (l : List (Str × Str)) (c v : Str) : dputL (l.map ss) (.str c) (.str v) = (putS l c v).map ss := by
  unfold dputL putS
  rw [List.any_map]
  have e : (fun p : D × D => dkeyEq p.1 (.str c)) ∘ ss = fun p => decide (p.1 = c) := by funext p; exact keq_str p.1 c
  rw [e]
  by_cases h : (l.any fun p => decide (p.1 = c)) = true
  · rw [if_pos h, if_pos h, List.map_map, List.map_map]
    refine List.map_congr_left fun p _ => ?_
    show (if dkeyEq (.str p.1) (.str c) = true then _ else _) = _
    rw [keq_str]
    by_cases hp : p.1 = c
    · simp [hp]
    · simp [hp]
  · rw [if_neg h, if_neg h]
    simp
theorem look_ss (l : List (Str × Str)) (c : Str) : dlook (l.map ss) (.str c) = (lookS l c).map .str := by
  unfold dlook lookS
  rw [List.find?_map]
  have e : (fun p : D × D => dkeyEq p.1 (.str c)) ∘ ss = fun p => decide (p.1 = c) := by funext p; exact keq_str p.1 c
  rw [e]
  cases l.find? fun p => decide (p.1 = c) <;> rfl
theorem fits_ss (l : List (Str × Str)) (c : Str) : keyFits (l.map ss) (.str c) = true :=
  fits_str (fun p hp => by obtain ⟨q, _, rfl⟩ := List.mem_map.mp hp; exact ⟨q.1, q.2, rfl⟩) c
theorem get_ss {l : List (Str × Str)} {c v : Str} (h : lookS l c = some v) : getX (.dct (l.map ss)) (.str c) = .ok (.str v) := by
  show (if keyFits (l.map ss) (.str c) = true then Out.ofO (dlook (l.map ss) (.str c)) else .fail) = _
  rw [if_pos (fits_ss l c), look_ss, h]
  rfl
theorem look_put_same (l : List (Str × Str)) (c v : Str) : lookS (putS l c v) c = some v := by
  unfold putS lookS
  by_cases h : (l.any fun p => decide (p.1 = c)) = true
  · rw [if_pos h, List.find?_map]
    have e : (fun p : Str × Str => decide (p.1 = c)) ∘ (fun p => if p.1 = c then (p.1, v) else p) = fun p => decide (p.1 = c) := by
      funext p
      by_cases hp : p.1 = c <;> simp [hp]
    rw [e]
    cases hf : l.find? fun p => decide (p.1 = c) with
    | none =>
      rw [List.find?_eq_none] at hf
      rw [List.any_eq_true] at h
      obtain ⟨p, hp, hq⟩ := h
      exact absurd hq (hf p hp)
    | some p =>
      have := List.find?_some hf
      simp at this
      simp [this]
  · rw [if_neg h, List.find?_append]
    have : l.find? (fun p => decide (p.1 = c)) = none := by
      rw [List.find?_eq_none]
      intro p hp hq
      exact h (List.any_eq_true.mpr ⟨p, hp, hq⟩)
    rw [this]
    simp
theorem look_put_other (l : List (Str × Str)) (c v : Str) {c' : Str} (hc : c ≠ c') : lookS (putS l c v) c' = lookS l c' := by
  unfold putS lookS
  by_cases h : (l.any fun p => decide (p.1 = c)) = true
  · rw [if_pos h, List.find?_map]
    have e : (fun p : Str × Str => decide (p.1 = c')) ∘ (fun p => if p.1 = c then (p.1, v) else p) = fun p => decide (p.1 = c') := by
      funext p
      by_cases hp : p.1 = c <;> simp [hp]
    rw [e]
    cases hf : l.find? fun p => decide (p.1 = c') with
    | none => rfl
    | some p =>
      have := List.find?_some hf
      simp at this
      simp [this, Ne.symm hc]
  · rw [if_neg h, List.find?_append]
    cases l.find? fun p => decide (p.1 = c') with
    | none => simp [hc]
    | some p => rfl
theorem putS_len (l : List (Str × Str)) (c v : Str) : (putS l c v).length ≤ l.length + 1 := by
  unfold putS
  split <;> simp

/-- a drawn deal -/
structure DealOf (cols rows : List Str) (kd : List (Str × Str)) (most : Nat) (T : List S3) : Prop where
  pos : 0 < T.length
  len : T.length ≤ most
  nd : T.Nodup
  srt : T.Pairwise fun p q => leB (en3 p) (en3 q) = true
  mem : ∀ t ∈ T, t.2.1 ∈ cols ∧ t.2.2 ∈ rows ∧ (t.1 = "read" ∨ lookS kd t.2.1 = some t.1)
end TP

end
set_option Elab.async false
set_option linter.all false
set_option maxRecDepth 100000
/-! Lots. -/
noncomputable section
namespace TP
open PySem L2
abbrev Deal := List S3
abbrev Sess := List Deal
abbrev Lot := List Sess
abbrev enSs (s : Sess) : D := .tup (s.map enT)
abbrev enL (L : Lot) : D := .tup (L.map enSs)
theorem keysT (s : Sess) : D.areKeys (s.map enT) = true := by
  induction s with
  | nil => rfl
  | cons p r ih =>
    rw [List.map_cons, D.areKeys, ih, Bool.and_true]
    unfold D.isKey
    exact keys3 p
theorem keysS (L : Lot) : D.areKeys (L.map enSs) = true := by
  induction L with
  | nil => rfl
  | cons p r ih =>
    rw [List.map_cons, D.areKeys, ih, Bool.and_true]
    unfold D.isKey
    exact keysT p
theorem keyedS (s : Sess) : keyed (enSs s) = .ok (enSs s) := by
  unfold keyed
  rw [if_pos (by unfold D.isKey; exact keysT s)]
theorem keyedL (L : Lot) : keyed (enL L) = .ok (enL L) := by
  unfold keyed
  rw [if_pos (by unfold D.isKey; exact keysS L)]
/-- how many deals -/
def dealsN (L : Lot) : Nat := (L.map List.length).sum
structure LotOf (sessions deals most : Nat) (L : Lot) : Prop where
  len : L.length = sessions
  sess : ∀ s ∈ L, 0 < s.length ∧ s.length ≤ 3
  many : dealsN L ≤ deals
  from_ : ∃ cols rows kd, ColsOf cols ∧ RowsOf rows ∧ cols.length = 3 ∧ rows.length = 3 ∧ (∀ c v, lookS kd c = some v → v = "write" ∨ v = "add") ∧ ∀ s ∈ L, ∀ d ∈ s, DealOf cols rows kd most d
theorem DealOf.wide {cols rows cols' rows' : List Str} {kd : List (Str × Str)} {most : Nat} {T : List S3} (h : DealOf cols rows kd most T) (hc : ∀ c ∈ cols, c ∈ cols') (hr : ∀ c ∈ rows, c ∈ rows') : DealOf cols' rows' kd most T :=
  ⟨h.pos, h.len, h.nd, h.srt, fun t ht => ⟨hc _ (h.mem t ht).1, hr _ (h.mem t ht).2.1, (h.mem t ht).2.2⟩⟩
theorem max_min (m l : Int) : (if (if l < m then l else m) > 1 then (if l < m then l else m) else 1) = max 1 (min m l) := by
  by_cases h : l < m
  · rw [if_pos h, Int.min_eq_right (by omega)]
    split <;> omega
  · rw [if_neg h, Int.min_eq_left (by omega)]
    split <;> omega
theorem max2 (i j : Int) : maxD [.int i, .int j] = .ok (.int (max i j)) := by
  show Out.ok (D.int (if j > i then j else i)) = _
  congr 2
  split <;> omega
theorem min2 (i j : Int) : minD [.int i, .int j] = .ok (.int (min i j)) := by
  show Out.ok (D.int (if j < i then j else i)) = _
  congr 2
  split <;> omega
theorem sub_ok (i j : Int) : subD (.int i) (.int j) = .ok (.int (i - j)) := rfl
def kindsW : List Str := ["write", "write", "add"]
theorem kindsW_ok : ∀ v ∈ kindsW, v = "write" ∨ v = "add" := by decide
theorem tup_lst (l : List D) : tupleD [.lst l] = .ok (.tup l) := rfl
theorem lookS_mem {l : List (Str × Str)} {c v : Str} (h : lookS l c = some v) : (c, v) ∈ l := by
  unfold lookS at h
  cases hf : l.find? fun p => decide (p.1 = c) with
  | none => rw [hf] at h; cases h
  | some p =>
    rw [hf] at h
    cases h
    have h1 := List.find?_some hf
    simp at h1
    have h2 := List.mem_of_find?_eq_some hf
    rw [← h1]
    exact h2
theorem putS_vals {l : List (Str × Str)} {c v : Str} {P : Str → Prop} (hv : P v) (h : ∀ p ∈ l, P p.2) : ∀ p ∈ putS l c v, P p.2 := by
  intro p hp
  unfold putS at hp
  split at hp
  · obtain ⟨q, hq, rfl⟩ := List.mem_map.mp hp
    split
    · exact hv
    · exact h q hq
  · rcases List.mem_append.mp hp with hp | hp
    · exact h p hp
    · rw [List.mem_singleton.mp hp]; exact hv
end TP

end
set_option Elab.async false
set_option linter.all false
set_option maxRecDepth 100000
/-! Codes of data: texts, ints, tuples of these, as keys and in order; loops by prefixes; two fors. -/
noncomputable section
namespace TP
open PySem L2
/-- a code of values that are keys and are ordered -/
structure EncA {α : Type} [DecidableEq α] (en : α → D) (n : Nat) : Prop where
  eqv : ∀ p q, D.eqv (en p) (en q) = decide (p = q)
  key : ∀ p q, dkeyEq (en p) (en q) = decide (p = q)
  ht : ∀ p, (en p).ht ≤ n
  ik : ∀ p, (en p).isKey = true
  dp : ∀ p, (en p).key.depth ≤ n
  alk : ∀ p q, D.alk (en p) (en q) = true
theorem encA_str : EncA D.str 0 where
  eqv := eqv_str
  key := keq_str
  ht := fun p => by simp [D.ht]
  ik := fun p => rfl
  dp := fun p => by simp [D.key, NestedKey.depth]
  alk := fun p q => by simp [D.alk, D.toP, PySem.W.alike]
theorem eqv_int (i j : Int) : D.eqv (.int i) (.int j) = decide (i = j) := by
  unfold D.eqv
  rw [D.toP, D.toP]
  by_cases h : i = j <;> simp [PyData.eqv, h]
theorem encA_int : EncA D.int 0 where
  eqv := eqv_int
  key := fun p q => by unfold dkeyEq; rw [D.key, D.key, NestedKey.beq]
  ht := fun p => by simp [D.ht]
  ik := fun p => rfl
  dp := fun p => by simp [D.key, NestedKey.depth]
  alk := fun p q => by simp [D.alk, D.toP, PySem.W.alike]
/-- a tuple of codes -/
theorem eqv_tup (x y : D) (l m : List D) : D.eqv (.tup (x :: l)) (.tup (y :: m)) = (D.eqv x y && D.eqv (.tup l) (.tup m)) := by
  simp [D.eqv, D.toP, D.toPs, PyData.eqv, PyData.eqvAll]
theorem key_tup (x y : D) (l m : List D) : dkeyEq (.tup (x :: l)) (.tup (y :: m)) = (dkeyEq x y && dkeyEq (.tup l) (.tup m)) := by
  simp [dkeyEq, D.key, D.keys, NestedKey.beq, NestedKey.beqAll]
theorem alk_tup (x y : D) (l m : List D) : D.alk (.tup (x :: l)) (.tup (y :: m)) = (D.alk x y && D.alk (.tup l) (.tup m)) := by
  simp [D.alk, D.toP, D.toPs, PySem.W.alike, PySem.W.alikeAll]
theorem eqv_nil : D.eqv (.tup []) (.tup []) = true := by simp [D.eqv, D.toP, D.toPs, PyData.eqv, PyData.eqvAll]
theorem key_nil : dkeyEq (.tup []) (.tup []) = true := by simp [dkeyEq, D.key, D.keys, NestedKey.beq, NestedKey.beqAll]
theorem alk_nil (l : List D) : D.alk (.tup []) (.tup l) = true := by simp [D.alk, D.toP, D.toPs, PySem.W.alike, PySem.W.alikeAll]
theorem alk_nil' (l : List D) : D.alk (.tup l) (.tup []) = true := by cases l <;> simp [D.alk, D.toP, D.toPs, PySem.W.alike, PySem.W.alikeAll]
theorem ht_tup (l : List D) : (D.tup l).ht = D.hts l + 1 := by rw [D.ht]
theorem hts_cons (x : D) (l : List D) : D.hts (x :: l) = max x.ht (D.hts l) := by rw [D.hts]
theorem hts_nil : D.hts [] = 0 := rfl
def dpts (l : List D) : Nat := NestedKey.depthAll (D.keys l)
theorem dp_tup (l : List D) : (D.tup l).key.depth = dpts l + 1 := by rw [D.key, NestedKey.depth, dpts]
theorem dpts_cons (x : D) (l : List D) : dpts (x :: l) = max x.key.depth (dpts l) := by rw [dpts, D.keys, NestedKey.depthAll, ← dpts]
theorem dpts_nil : dpts [] = 0 := rfl
theorem ik_tup (l : List D) : (D.tup l).isKey = D.areKeys l := by rw [D.isKey]
theorem aks_cons (x : D) (l : List D) : D.areKeys (x :: l) = (x.isKey && D.areKeys l) := by rw [D.areKeys]
theorem aks_nil : D.areKeys [] = true := rfl
section
variable {α β γ δ ε : Type} [DecidableEq α] [DecidableEq β] [DecidableEq γ] [DecidableEq δ] [DecidableEq ε] {ea : α → D} {eb : β → D} {ec : γ → D} {ed : δ → D} {ee : ε → D} {n : Nat}
theorem dec_and {p q : Prop} [Decidable p] [Decidable q] : (decide p && decide q) = decide (p ∧ q) := by by_cases p <;> by_cases q <;> simp_all
theorem EncA.pair (ha : EncA ea n) (hb : EncA eb n) : EncA (fun p : α × β => .tup [ea p.1, eb p.2]) (n + 1) where
  eqv := fun p q => by
    rw [eqv_tup, eqv_tup, eqv_nil, ha.eqv, hb.eqv, Bool.and_true, dec_and, decide_eq_decide, Prod.ext_iff]
  key := fun p q => by
    rw [key_tup, key_tup, key_nil, ha.key, hb.key, Bool.and_true, dec_and, decide_eq_decide, Prod.ext_iff]
  ht := fun p => by
    have := ha.ht p.1; have := hb.ht p.2
    rw [ht_tup, hts_cons, hts_cons, hts_nil]; omega
  ik := fun p => by rw [ik_tup, aks_cons, aks_cons, aks_nil, ha.ik, hb.ik]; rfl
  dp := fun p => by
    have := ha.dp p.1; have := hb.dp p.2
    rw [dp_tup, dpts_cons, dpts_cons, dpts_nil]; omega
  alk := fun p q => by rw [alk_tup, alk_tup, alk_nil, ha.alk, hb.alk]; rfl
theorem EncA.triple (ha : EncA ea n) (hb : EncA eb n) (hc : EncA ec n) : EncA (fun p : α × β × γ => .tup [ea p.1, eb p.2.1, ec p.2.2]) (n + 1) where
  eqv := fun p q => by
    rw [eqv_tup, eqv_tup, eqv_tup, eqv_nil, ha.eqv, hb.eqv, hc.eqv, Bool.and_true, dec_and, dec_and, decide_eq_decide, Prod.ext_iff, Prod.ext_iff]
  key := fun p q => by
    rw [key_tup, key_tup, key_tup, key_nil, ha.key, hb.key, hc.key, Bool.and_true, dec_and, dec_and, decide_eq_decide, Prod.ext_iff, Prod.ext_iff]
  ht := fun p => by
    have := ha.ht p.1; have := hb.ht p.2.1; have := hc.ht p.2.2
    rw [ht_tup, hts_cons, hts_cons, hts_cons, hts_nil]; omega
  ik := fun p => by rw [ik_tup, aks_cons, aks_cons, aks_cons, aks_nil, ha.ik, hb.ik, hc.ik]; rfl
  dp := fun p => by
    have := ha.dp p.1; have := hb.dp p.2.1; have := hc.dp p.2.2
    rw [dp_tup, dpts_cons, dpts_cons, dpts_cons, dpts_nil]; omega
  alk := fun p q => by rw [alk_tup, alk_tup, alk_tup, alk_nil, ha.alk, hb.alk, hc.alk]; rfl
theorem EncA.four (ha : EncA ea n) (hb : EncA eb n) (hc : EncA ec n) (hd : EncA ed n) : EncA (fun p : α × β × γ × δ => .tup [ea p.1, eb p.2.1, ec p.2.2.1, ed p.2.2.2]) (n + 1) where
  eqv := fun p q => by
    rw [eqv_tup, eqv_tup, eqv_tup, eqv_tup, eqv_nil, ha.eqv, hb.eqv, hc.eqv, hd.eqv, Bool.and_true, dec_and, dec_and, dec_and, decide_eq_decide, Prod.ext_iff, Prod.ext_iff, Prod.ext_iff]
  key := fun p q => by
    rw [key_tup, key_tup, key_tup, key_tup, key_nil, ha.key, hb.key, hc.key, hd.key, Bool.and_true, dec_and, dec_and, dec_and, decide_eq_decide, Prod.ext_iff, Prod.ext_iff, Prod.ext_iff]
  ht := fun p => by
    have := ha.ht p.1; have := hb.ht p.2.1; have := hc.ht p.2.2.1; have := hd.ht p.2.2.2
    rw [ht_tup, hts_cons, hts_cons, hts_cons, hts_cons, hts_nil]; omega
  ik := fun p => by rw [ik_tup, aks_cons, aks_cons, aks_cons, aks_cons, aks_nil, ha.ik, hb.ik, hc.ik, hd.ik]; rfl
  dp := fun p => by
    have := ha.dp p.1; have := hb.dp p.2.1; have := hc.dp p.2.2.1; have := hd.dp p.2.2.2
    rw [dp_tup, dpts_cons, dpts_cons, dpts_cons, dpts_cons, dpts_nil]; omega
  alk := fun p q => by rw [alk_tup, alk_tup, alk_tup, alk_tup, alk_nil, ha.alk, hb.alk, hc.alk, hd.alk]; rfl
theorem EncA.five (ha : EncA ea n) (hb : EncA eb n) (hc : EncA ec n) (hd : EncA ed n) (he : EncA ee n) : EncA (fun p : α × β × γ × δ × ε => .tup [ea p.1, eb p.2.1, ec p.2.2.1, ed p.2.2.2.1, ee p.2.2.2.2]) (n + 1) where
  eqv := fun p q => by
    rw [eqv_tup, eqv_tup, eqv_tup, eqv_tup, eqv_tup, eqv_nil, ha.eqv, hb.eqv, hc.eqv, hd.eqv, he.eqv, Bool.and_true, dec_and, dec_and, dec_and, dec_and, decide_eq_decide, Prod.ext_iff, Prod.ext_iff, Prod.ext_iff, Prod.ext_iff]
  key := fun p q => by
    rw [key_tup, key_tup, key_tup, key_tup, key_tup, key_nil, ha.key, hb.key, hc.key, hd.key, he.key, Bool.and_true, dec_and, dec_and, dec_and, dec_and, decide_eq_decide, Prod.ext_iff, Prod.ext_iff, Prod.ext_iff, Prod.ext_iff]
  ht := fun p => by
    have := ha.ht p.1; have := hb.ht p.2.1; have := hc.ht p.2.2.1; have := hd.ht p.2.2.2.1; have := he.ht p.2.2.2.2
    rw [ht_tup, hts_cons, hts_cons, hts_cons, hts_cons, hts_cons, hts_nil]; omega
  ik := fun p => by rw [ik_tup, aks_cons, aks_cons, aks_cons, aks_cons, aks_cons, aks_nil, ha.ik, hb.ik, hc.ik, hd.ik, he.ik]; rfl
  dp := fun p => by
    have := ha.dp p.1; have := hb.dp p.2.1; have := hc.dp p.2.2.1; have := hd.dp p.2.2.2.1; have := he.dp p.2.2.2.2
    rw [dp_tup, dpts_cons, dpts_cons, dpts_cons, dpts_cons, dpts_cons, dpts_nil]; omega
  alk := fun p q => by rw [alk_tup, alk_tup, alk_tup, alk_tup, alk_tup, alk_nil, ha.alk, hb.alk, hc.alk, hd.alk, he.alk]; rfl
theorem EncA.up {m : Nat} (ha : EncA ea n) (h : n ≤ m) : EncA ea m := ⟨ha.eqv, ha.key, fun p => Nat.le_trans (ha.ht p) h, ha.ik, fun p => Nat.le_trans (ha.dp p) h, ha.alk⟩
/-- a code whose values are tuples with something in them -/
theorem EncA.enc (ha : EncA ea n) (hn : n ≤ 8) (ne : ∀ p, ∃ x r, ea p = .tup (x :: r)) : Enc ea where
  eqv := ha.eqv
  key := ha.key
  ht := fun p => Nat.le_trans (ha.ht p) (by omega)
  tk := fun p => by
    obtain ⟨x, r, e⟩ := ne p
    have h1 := ha.ik p
    have h2 := ha.dp p
    unfold tupKey
    rw [h1]
    have h3 : isTupD (ea p) = true := by rw [e]; rfl
    rw [h3]
    simp
    omega
  alk := ha.alk
  ne := ne
theorem EncA.list (ha : EncA ea n) : EncA (fun l : List α => .tup (l.map ea)) (n + 1) where
  eqv := fun p => by
    induction p with
    | nil =>
      intro q
      cases q with
      | nil => simp [eqv_nil]
      | cons y q => simp [D.eqv, D.toP, D.toPs, PyData.eqv, PyData.eqvAll]
    | cons x p ih =>
      intro q
      cases q with
      | nil => simp [D.eqv, D.toP, D.toPs, PyData.eqv, PyData.eqvAll]
      | cons y q =>
        have ih := ih q
        rw [List.map_cons, List.map_cons, eqv_tup, ha.eqv, ih, dec_and, decide_eq_decide, List.cons.injEq]
  key := fun p => by
    induction p with
    | nil =>
      intro q
      cases q with
      | nil => simp [key_nil]
      | cons y q => simp [dkeyEq, D.key, D.keys, NestedKey.beq, NestedKey.beqAll]
    | cons x p ih =>
      intro q
      cases q with
      | nil => simp [dkeyEq, D.key, D.keys, NestedKey.beq, NestedKey.beqAll]
      | cons y q =>
        have ih := ih q
        rw [List.map_cons, List.map_cons, key_tup, ha.key, ih, dec_and, decide_eq_decide, List.cons.injEq]
  ht := fun p => by
    rw [ht_tup]
    have : D.hts (p.map ea) ≤ n := by
      induction p with
      | nil => simp [hts_nil]
      | cons x p ih => rw [List.map_cons, hts_cons]; have := ha.ht x; omega
    omega
  ik := fun p => by
    rw [ik_tup]
    induction p with
    | nil => rfl
    | cons x p ih => rw [List.map_cons, aks_cons, ha.ik, ih]; rfl
  dp := fun p => by
    rw [dp_tup]
    have : dpts (p.map ea) ≤ n := by
      induction p with
      | nil => simp [dpts_nil]
      | cons x p ih => rw [List.map_cons, dpts_cons]; have := ha.dp x; omega
    omega
  alk := fun p => by
    induction p with
    | nil => intro q; exact alk_nil _
    | cons x p ih =>
      intro q
      cases q with
      | nil => exact alk_nil' _
      | cons y q => rw [List.map_cons, List.map_cons, alk_tup, ha.alk, ih q]; rfl
end

/-! ### pairs, triples of ints -/
abbrev I2 := Int × Int
abbrev I3 := Int × Int × Int
def enI2 (p : I2) : D := .tup [.int p.1, .int p.2]
def enI3 (p : I3) : D := .tup [.int p.1, .int p.2.1, .int p.2.2]
theorem encA_I2 : EncA enI2 1 := encA_int.pair encA_int
theorem encA_I3 : EncA enI3 1 := encA_int.triple encA_int encA_int
theorem encI2 : Enc enI2 := encA_I2.enc (by decide) fun p => ⟨_, _, rfl⟩
theorem encI3 : Enc enI3 := encA_I3.enc (by decide) fun p => ⟨_, _, rfl⟩
theorem encA_2 : EncA en2 1 := encA_str.pair encA_str
theorem encA_3 : EncA en3 1 := encA_str.triple encA_str encA_str
theorem encA_T : EncA enT 2 := encA_3.list
theorem encA_keys {α : Type} [DecidableEq α] {en : α → D} {n : Nat} (h : EncA en n) (l : List α) : D.areKeys (l.map en) = true := by
  have := h.list.ik l
  rwa [ik_tup] at this
theorem keyed_of {d : D} (h : d.isKey = true) : keyed d = .ok d := by unfold keyed; rw [if_pos h]
theorem eqD_of {α : Type} [DecidableEq α] {en : α → D} {n : Nat} (h : EncA en n) (hn : n ≤ 60) (p q : α) : eqD (en p) (en q) = .ok (decide (p = q)) := by
  unfold eqD
  have h1 := h.ht p
  have h2 := h.ht q
  rw [if_pos (by unfold flat2; rw [decide_eq_true (by omega), decide_eq_true (by omega)]; rfl), h.eqv]
theorem neD_of {α : Type} [DecidableEq α] {en : α → D} {n : Nat} (h : EncA en n) (hn : n ≤ 60) (p q : α) : neD (en p) (en q) = .ok (decide (p ≠ q)) := by
  unfold neD
  have h1 := h.ht p
  have h2 := h.ht q
  rw [if_pos (by unfold flat2; rw [decide_eq_true (by omega), decide_eq_true (by omega)]; rfl), h.eqv]
  by_cases e : p = q <;> simp [e]

/-! ### loops by prefixes -/
theorem loop_over {α : Type} {t : TgF} {b : Env → Res} (en : α → D) (envOf : List α → Env) : ∀ (l pre : List α),
    (∀ (p : List α) (a : α) (post : List α), pre ++ l = p ++ a :: post → ∃ ρ1, t (en a) (envOf p) = some ρ1 ∧ (b ρ1 = .nx (envOf (p ++ [a])) ∨ b ρ1 = .ct (envOf (p ++ [a])))) →
    loop t b (l.map en) (envOf pre) = .nx (envOf (pre ++ l))
  | [], pre, _ => by rw [List.append_nil]; rfl
  | a :: l, pre, h => by
    obtain ⟨ρ1, h1, h2⟩ := h pre a l rfl
    have ih := loop_over en envOf l (pre ++ [a]) fun p x post e => h p x post (by rw [← e]; simp)
    rw [List.map_cons]
    unfold loop
    rw [h1]
    dsimp only
    have e : pre ++ a :: l = pre ++ [a] ++ l := by simp
    rw [e, ← ih]
    rcases h2 with h2 | h2 <;> rw [h2]
theorem rangeL_map (n : Nat) : rangeL 0 n = (List.range n).map fun k => D.int (0 + (k : Nat)) := rfl
/-- over range(n): the prefix is range(k) -/
theorem loop_upto {t : TgF} {b : Env → Res} (n : Nat) (envOf : Nat → Env) (h : ∀ k, k < n → ∃ ρ1, t (.int (0 + (k : Nat))) (envOf k) = some ρ1 ∧ (b ρ1 = .nx (envOf (k + 1)) ∨ b ρ1 = .ct (envOf (k + 1)))) :
    loop t b (rangeL 0 n) (envOf 0) = .nx (envOf n) := by
  obtain ⟨ρ', e, q⟩ := loop_inv (t := t) (b := b) (fun i ρ => i ≤ n ∧ ρ = envOf i) (rangeL 0 n) 0 (envOf 0) ⟨by omega, rfl⟩ (by
    rintro j x ρ hj ⟨hi, rfl⟩
    obtain ⟨hj1, rfl⟩ := rangeL_get _ _ _ _ hj
    obtain ⟨ρ1, h1, h2⟩ := h (0 + j) (by omega)
    rw [Nat.zero_add] at h1 h2 ⊢
    rcases h2 with h2 | h2
    · exact ⟨ρ1, _, h1, .inl h2, by omega, rfl⟩
    · exact ⟨ρ1, _, h1, .inr h2, by omega, rfl⟩)
  rw [e, q.2, rangeL_len, Nat.zero_add]

/-! ### two fors -/
theorem comp2_map {g : PgF} {c : PEnv → Out Bool} {fi1 : PEnv → Out (List D)} {vs1 : List Nat} {g1 : PgF} {c1 : PEnv → Out Bool} {f : PEnv → Out D} {ρ : PEnv} {α β : Type} (en : α → D) (p : α → Bool) (m : α → List β) (en1 : β → D) (p1 : α → β → Bool) (h : α → β → D) :
    ∀ l : List α, (∀ a ∈ l, ∃ ρ1, g (en a) ρ = some ρ1 ∧ c ρ1 = .ok (p a) ∧ (p a = true → fi1 ρ1 = .ok ((m a).map en1) ∧ ∀ b ∈ m a, ∃ ρ2, g1 (en1 b) (wipeP ρ1 vs1) = some ρ2 ∧ c1 ρ2 = .ok (p1 a b) ∧ (p1 a b = true → f ρ2 = .ok (h a b)))) →
    comp2L g c fi1 vs1 g1 c1 f ρ (l.map en) = .ok ((l.filter p).flatMap fun a => ((m a).filter (p1 a)).map (h a))
  | [], _ => rfl
  | a :: l, H => by
    obtain ⟨ρ1, h1, h2, h3⟩ := H a List.mem_cons_self
    have ih := comp2_map en p m en1 p1 h l fun b hb => H b (List.mem_cons_of_mem _ hb)
    rw [List.map_cons]
    unfold comp2L
    rw [h1]
    dsimp only
    rw [h2]
    cases hp : p a with
    | true =>
      obtain ⟨k1, k2⟩ := h3 hp
      dsimp only
      rw [k1]
      dsimp only
      rw [comp_map en1 (p1 a) (h a) (m a) k2, ok_bind, ih, ok_bind, List.filter_cons_of_pos hp, List.flatMap_cons]
    | false =>
      dsimp only
      rw [ih, List.filter_cons_of_neg (by simp [hp])]
theorem enumL_map {α : Type} (en : α → D) (l : List α) : enumL (l.map en) = l.zipIdx.map fun p => .tup [.int (p.2 : Nat), en p.1] := by
  unfold enumL
  rw [List.zipIdx_map, List.map_map]
  rfl
theorem zipL_map {α β : Type} (en : α → D) (en' : β → D) (l : List α) (m : List β) : zipL (l.map en) (m.map en') = (l.zip m).map fun p => .tup [en p.1, en' p.2] := by
  unfold zipL
  rw [List.zip_map, List.map_map]
  rfl
theorem zipIdx_range {α : Type} (d : α) (l : List α) : l.zipIdx = (List.range l.length).map fun i => (l.getD i d, i) := by
  refine List.ext_getElem? fun i => ?_
  rw [List.getElem?_zipIdx, List.getElem?_map]
  by_cases h : i < l.length
  · rw [List.getElem?_range h, List.getElem?_eq_getElem h]
    simp [List.getD, List.getElem?_eq_getElem h]
  · rw [List.getElem?_eq_none (by omega), List.getElem?_eq_none (by simpa using h)]
    rfl
end TP

end
set_option Elab.async false
set_option linter.all false
set_option maxRecDepth 100000
/-! The deals and the steps of a lot. -/
noncomputable section
namespace TP
open PySem L2
/-- the deals with their places -/
def dealsX (L : Lot) : List (I2 × Deal) := L.zipIdx.flatMap fun p => p.1.zipIdx.map fun q => (((p.2 : Int), (q.2 : Int)), q.1)
def dealsOf (L : Lot) : List I2 := (dealsX L).map (·.1)
theorem mem_dealsX {L : Lot} {x : I2 × Deal} : x ∈ dealsX L ↔ ∃ (s d : Nat) (ss : Sess), L[s]? = some ss ∧ ss[d]? = some x.2 ∧ x.1 = ((s : Int), (d : Int)) := by
  unfold dealsX
  rw [List.mem_flatMap]
  constructor
  · rintro ⟨⟨ss, s⟩, h1, h2⟩
    rw [List.mem_map] at h2
    obtain ⟨⟨d, k⟩, h3, rfl⟩ := h2
    rw [List.mem_zipIdx_iff_getElem?] at h1 h3
    exact ⟨s, k, ss, h1, h3, rfl⟩
  · rintro ⟨s, d, ss, h1, h2, h3⟩
    refine ⟨(ss, s), List.mem_zipIdx_iff_getElem?.mpr h1, List.mem_map.mpr ⟨(x.2, d), List.mem_zipIdx_iff_getElem?.mpr h2, ?_⟩⟩
    obtain ⟨p, q⟩ := x
    simp only at h3
    rw [h3]
theorem getX_tupM {α : Type} {en : α → D} {l : List α} {k : Nat} {a : α} (h : l[k]? = some a) : getX (.tup (l.map en)) (.int (k : Nat)) = .ok (en a) :=
  getX_nat _ _ _ (by rw [List.getElem?_map, h]; rfl)
theorem getX_lstN {l : List D} {k : Nat} {d : D} (h : l[k]? = some d) : getX (.lst l) (.int (k : Nat)) = .ok d := by
  show Out.ofO (atI l (k : Nat)) = .ok d
  rw [atI_nat h]
  rfl
theorem getX_lstM {α : Type} {en : α → D} {l : List α} {k : Nat} {a : α} (h : l[k]? = some a) : getX (.lst (l.map en)) (.int (k : Nat)) = .ok (en a) :=
  getX_lstN (by rw [List.getElem?_map, h]; rfl)
/-- lot[s][d] -/
theorem at_deal {L : Lot} {x : I2 × Deal} (h : x ∈ dealsX L) : ((getX (enL L) (.int x.1.1)).bind fun y => getX y (.int x.1.2)) = .ok (enT x.2) := by
  obtain ⟨s, d, ss, h1, h2, h3⟩ := mem_dealsX.mp h
  rw [h3, show enL L = .tup (L.map enSs) from rfl, getX_tupM h1, ok_bind]
  exact getX_tupM h2
/-- the steps with their places -/
def stepsOf (L : Lot) : List (I3 × S3) := (dealsX L).flatMap fun x => x.2.zipIdx.map fun t => ((x.1.1, x.1.2, (t.2 : Int)), t.1)
def enSt (x : I3 × S3) : D := .tup [enI3 x.1, en3 x.2]
theorem mem_stepsOf {L : Lot} {y : I3 × S3} : y ∈ stepsOf L ↔ ∃ (x : I2 × Deal) (t : Nat), x ∈ dealsX L ∧ x.2[t]? = some y.2 ∧ y.1 = (x.1.1, x.1.2, (t : Int)) := by
  unfold stepsOf
  rw [List.mem_flatMap]
  constructor
  · rintro ⟨x, h1, h2⟩
    rw [List.mem_map] at h2
    obtain ⟨⟨d, k⟩, h3, rfl⟩ := h2
    exact ⟨x, k, h1, List.mem_zipIdx_iff_getElem?.mp h3, rfl⟩
  · rintro ⟨x, t, h1, h2, h3⟩
    refine ⟨x, h1, List.mem_map.mpr ⟨(y.2, t), List.mem_zipIdx_iff_getElem?.mpr h2, ?_⟩⟩
    obtain ⟨p, q⟩ := y
    simp only at h3
    rw [h3]
theorem dealsX_len (L : Lot) : (dealsX L).length = dealsN L := by
  unfold dealsX dealsN
  rw [List.length_flatMap]
  have : (L.zipIdx.map fun a => (a.1.zipIdx.map fun q => (((a.2 : Int), (q.2 : Int)), q.1)).length) = L.map List.length := by
    have e : (fun a : Sess × Nat => (a.1.zipIdx.map fun q => (((a.2 : Int), (q.2 : Int)), q.1)).length) = List.length ∘ Prod.fst := by
      funext a
      simp
    rw [e, ← List.map_map, List.zipIdx_map_fst]
  rw [this]
theorem sum_le_mul {l : List Nat} {m : Nat} (h : ∀ x ∈ l, x ≤ m) : l.sum ≤ l.length * m := by
  induction l with
  | nil => simp
  | cons a r ih =>
    have h1 := h a List.mem_cons_self
    have h2 := ih fun x hx => h x (List.mem_cons_of_mem _ hx)
    rw [List.sum_cons, List.length_cons, Nat.add_mul]
    omega
theorem stepsOf_len {L : Lot} {m : Nat} (h : ∀ s ∈ L, ∀ d ∈ s, d.length ≤ m) : (stepsOf L).length ≤ dealsN L * m := by
  unfold stepsOf
  rw [List.length_flatMap, ← dealsX_len]
  refine Nat.le_trans (sum_le_mul (m := m) fun x hx => ?_) (by rw [List.length_map]; exact Nat.le_refl _)
  obtain ⟨y, hy, rfl⟩ := List.mem_map.mp hx
  obtain ⟨s, d, ss, h1, h2, _⟩ := mem_dealsX.mp hy
  rw [List.length_map, List.length_zipIdx]
  exact h ss (List.mem_of_getElem? h1) _ (List.mem_of_getElem? h2)
/-- the slots of the steps; the places of a slot's steps -/
def slotsAll (L : Lot) : List S2 := (stepsOf L).map fun y => y.2.2
def usersAll (L : Lot) (k : S2) : List I2 := ((stepsOf L).filter fun y => decide (y.2.2 = k)).map fun y => (y.1.1, y.1.2.1)
theorem slotsAll_len {L : Lot} {m : Nat} (h : ∀ s ∈ L, ∀ d ∈ s, d.length ≤ m) : (slotsAll L).length ≤ dealsN L * m := by unfold slotsAll; rw [List.length_map]; exact stepsOf_len h
theorem usersAll_len {L : Lot} {m : Nat} (h : ∀ s ∈ L, ∀ d ∈ s, d.length ≤ m) (k : S2) : (usersAll L k).length ≤ dealsN L * m := by
  unfold usersAll
  rw [List.length_map]
  exact Nat.le_trans (List.length_filter_le _ _) (stepsOf_len h)
theorem dd_len' {α : Type} [DecidableEq α] (l : List α) : (dd l).length ≤ l.length := by
  have key : ∀ (l acc : List α), (l.foldl (fun acc x => if x ∈ acc then acc else acc ++ [x]) acc).length ≤ acc.length + l.length := by
    intro l
    induction l with
    | nil => intro acc; simp
    | cons x l ih =>
      intro acc
      rw [List.foldl_cons]
      refine Nat.le_trans (ih _) ?_
      split <;> simp <;> omega
  have := key l []
  simpa [dd] using this
def readsAll (L : Lot) : List I3 := ((stepsOf L).filter fun y => decide (y.2.1 = ("read" : Str))).map (·.1)
/-- sets of codes -/
theorem set_enc {α : Type} [DecidableEq α] {en : α → D} (h : Enc en) (l : List α) (hl : l.length < 63) : setD [.lst (l.map en)] = .ok (.set ((dd l).map en)) := by
  show (if tupSet (l.map en) = true then Out.ok (D.set (dedupK (l.map en))) else .fail) = _
  rw [if_pos (tupSet_enc h l hl), dd_dedup h]
theorem seteq {α : Type} [DecidableEq α] {en : α → D} (h : Enc en) (l : List α) (hl : l.length < 63) : (if tupSet (l.map en) = true then Out.ok (D.set (dedupK (l.map en))) else .fail) = .ok (.set ((dd l).map en)) := by
  rw [if_pos (tupSet_enc h l hl), dd_dedup h]
theorem same_keys {α : Type} [DecidableEq α] {en : α → D} {n : Nat} (h : EncA en n) (l : List α) : D.isKey (.tup (l.map en)) = true := by rw [ik_tup]; exact encA_keys h l
theorem wts_map {α : Type} {en : α → D} {m : Nat} (h : ∀ a, wt (en a) ≤ m) (l : List α) : wts (l.map en) ≤ m * l.length := by
  induction l with
  | nil => simp [wts]
  | cons a r ih =>
    rw [List.map_cons, wts, List.length_cons, Nat.mul_add]
    have := h a
    omega
theorem wt_tup (l : List D) : wt (.tup l) = wts l + 1 := by rw [wt]
theorem wt_I2 (p : I2) : wt (enI2 p) ≤ 3 := by simp [enI2, wt, wts]
theorem wt_I3 (p : I3) : wt (enI3 p) ≤ 4 := by simp [enI3, wt, wts]
theorem wt_2 (p : S2) : wt (en2 p) ≤ 3 := by simp [en2, wt, wts]
theorem wt_3 (p : S3) : wt (en3 p) ≤ 4 := by simp [en3, wt, wts]
theorem ap_sExtend (i : Nat) (k : Env → Out D) (τ : Env) : sExtend i k τ = match τ[i]? with | some (.own (.lst l)) => (match k τ with | .ok (.lst m) => if fits (l.length + m.length) = true then .nx (τ.set i (.own (.lst (l ++ m)))) else .fail | .exc x => .exc x τ | _ => .fail) | _ => .fail := rfl
theorem ap_eGet2 (f g h : PEnv → Out D) (ρ : PEnv) : eGet2 f g h ρ = (f ρ).bind fun d => match d with | .dct ds => (g ρ).bind fun y => (h ρ).bind fun z => dget2D (.dct ds) y z | _ => .fail := rfl
theorem ap_pLF (f : PEnv → Out D) (τ : Env) : pLF f τ = match f (lent τ) with | .ok d => if flatOwn d = true then .ok d else .fail | .exc x => if keyX x = true then .exc x else .fail | .fail => .fail := rfl
theorem ap_sParF (i j : Nat) (bi bj : Bool) (f g : PEnv → Out D) (τ : Env) : sParF i j bi bj f g τ = match f (plain τ) with | .ok x => (match g (plain τ) with | .ok y => .nx ((τ.set i (mkS bi x)).set j (mkS bj y)) | .exc z => .exc z τ | .fail => .fail) | .exc z => .exc z τ | .fail => .fail := rfl
theorem fin_parF (i j : Nat) (bi bj : Bool) (f g : PEnv → Out D) (k : Env → Res) (ρ : Env) : fin (sSeq (sParF i j bi bj f g) k ρ) = (f (plain ρ)).bind fun x => (g (plain ρ)).bind fun y => fin (k ((ρ.set i (mkS bi x)).set j (mkS bj y))) := by
  unfold sSeq sParF
  cases f (plain ρ) with
  | ok x => cases g (plain ρ) <;> rfl
  | exc _ => rfl
  | fail => rfl
end TP

end
set_option Elab.async false
set_option linter.all false
set_option maxRecDepth 100000
/-! Dicts as an ordered list of keys and a function. -/
noncomputable section
namespace TP
open PySem L2
structure EncK {κ : Type} [DecidableEq κ] (ek : κ → D) : Prop where
  key : ∀ p q, dkeyEq (ek p) (ek q) = decide (p = q)
  fit : ∀ (ks : List κ) (f : κ → D) (k : κ), keyFits (ks.map fun k => (ek k, f k)) (ek k) = true
section
variable {κ : Type} [DecidableEq κ] {ek : κ → D}
theorem Enc.k (h : Enc ek) : EncK ek where
  key := h.key
  fit := fun ks f k => by
    unfold keyFits
    have e : isTupD (ek k) = true := by obtain ⟨x, r, e⟩ := h.ne k; rw [e]; rfl
    rw [if_pos e, h.tk k, Bool.true_and, List.all_map, List.all_eq_true]
    intro x _
    obtain ⟨y, r, e⟩ := h.ne x
    show isTupD (ek x) = true
    rw [e]; rfl
theorem encK_str : EncK D.str where
  key := keq_str
  fit := fun ks f k => by
    unfold keyFits
    rw [if_neg (show ¬ isTupD (D.str k) = true from Bool.noConfusion), Bool.and_eq_true]
    refine ⟨rfl, ?_⟩
    rw [List.all_map, List.all_eq_true]
    intro x _
    rfl
theorem encK_int : EncK D.int where
  key := encA_int.key
  fit := fun ks f k => by
    unfold keyFits
    rw [if_neg (show ¬ isTupD (D.int k) = true from Bool.noConfusion), Bool.and_eq_true]
    refine ⟨rfl, ?_⟩
    rw [List.all_map, List.all_eq_true]
    intro x _
    rfl
/-- the dict -/
def dctK (ek : κ → D) (ks : List κ) (f : κ → D) : List (D × D) := ks.map fun k => (ek k, f k)
theorem EncK.fits (h : EncK ek) (ks : List κ) (f : κ → D) (k : κ) : keyFits (dctK ek ks f) (ek k) = true := h.fit ks f k
theorem dctK_len (ks : List κ) (f : κ → D) : (dctK ek ks f).length = ks.length := by simp [dctK]
theorem dctK_fst (ks : List κ) (f : κ → D) : (dctK ek ks f).map (·.1) = ks.map ek := by simp [dctK]
theorem dctK_congr {ks : List κ} {f g : κ → D} (h : ∀ k ∈ ks, f k = g k) : dctK ek ks f = dctK ek ks g := List.map_congr_left fun k hk => by rw [h k hk]
theorem look_dctK (h : EncK ek) (ks : List κ) (f : κ → D) (k : κ) [Decidable (k ∈ ks)] : dlook (dctK ek ks f) (ek k) = if k ∈ ks then some (f k) else none := by
  unfold dlook dctK
  rw [List.find?_map]
  have e : (fun p : D × D => dkeyEq p.1 (ek k)) ∘ (fun k => (ek k, f k)) = fun k' => decide (k' = k) := by funext x; exact h.key x k
  rw [e]
  by_cases hk : k ∈ ks
  · rw [if_pos hk]
    cases hf : ks.find? fun k' => decide (k' = k) with
    | none => rw [List.find?_eq_none] at hf; exact absurd (decide_eq_true rfl) (hf k hk)
    | some x =>
      have := List.find?_some hf
      simp at this
      rw [this]; rfl
  · rw [if_neg hk]
    have : ks.find? (fun k' => decide (k' = k)) = none := by
      rw [List.find?_eq_none]
      intro x hx hq
      have := of_decide_eq_true hq
      exact hk (this ▸ hx)
    rw [this]; rfl
theorem any_dctK (h : EncK ek) (ks : List κ) (f : κ → D) (k : κ) [Decidable (k ∈ ks)] : ((dctK ek ks f).any fun p => dkeyEq p.1 (ek k)) = decide (k ∈ ks) := by
  unfold dctK
  rw [List.any_map]
  have e : (fun p : D × D => dkeyEq p.1 (ek k)) ∘ (fun k => (ek k, f k)) = fun k' => decide (k' = k) := by funext x; exact h.key x k
  rw [e, Bool.eq_iff_iff, List.any_eq_true, decide_eq_true_eq]
  constructor
  · rintro ⟨x, hx, hq⟩; exact (of_decide_eq_true hq) ▸ hx
  · intro hk; exact ⟨k, hk, decide_eq_true rfl⟩
theorem put_dctK (h : EncK ek) (ks : List κ) (f : κ → D) (k : κ) (v : D) [Decidable (k ∈ ks)] : dputL (dctK ek ks f) (ek k) v = dctK ek (if k ∈ ks then ks else ks ++ [k]) (fun k' => if k' = k then v else f k') := by
  unfold dputL
  rw [any_dctK h]
  by_cases hk : k ∈ ks
  · simp only [hk, decide_true, if_true]
    unfold dctK
    rw [List.map_map]
    refine List.map_congr_left fun x _ => ?_
    show (if dkeyEq (ek x) (ek k) = true then (ek x, v) else (ek x, f x)) = _
    rw [h.key]
    by_cases e : x = k <;> simp [e]
  · simp only [hk, decide_false, Bool.false_eq_true, if_false]
    unfold dctK
    rw [List.map_append]
    have e : ks.map (fun x => (ek x, f x)) = ks.map fun x => (ek x, if x = k then v else f x) := List.map_congr_left fun x hx => by rw [if_neg (fun z : x = k => hk (z ▸ hx))]
    rw [e]
    simp
theorem get_dctK (h : EncK ek) {ks : List κ} {f : κ → D} {k : κ} (hk : k ∈ ks) : getX (.dct (dctK ek ks f)) (ek k) = .ok (f k) := by
  show (if keyFits (dctK ek ks f) (ek k) = true then Out.ofO (dlook (dctK ek ks f) (ek k)) else .fail) = _
  rw [if_pos (h.fits ks f k)]
  haveI : Decidable (k ∈ ks) := .isTrue hk
  rw [look_dctK h, if_pos hk]
  rfl
theorem get2_dctK (h : EncK ek) (ks : List κ) (f : κ → D) (k : κ) (x : D) [Decidable (k ∈ ks)] : dget2D (.dct (dctK ek ks f)) (ek k) x = .ok (if k ∈ ks then f k else x) := by
  show (if keyFits (dctK ek ks f) (ek k) = true then Out.ok ((dlook (dctK ek ks f) (ek k)).getD x) else .fail) = _
  rw [if_pos (h.fits ks f k), look_dctK h]
  by_cases hk : k ∈ ks <;> simp [hk]
theorem in_dctK (h : EncK ek) (ks : List κ) (f : κ → D) (k : κ) [Decidable (k ∈ ks)] : inX (ek k) (.dct (dctK ek ks f)) = .ok (decide (k ∈ ks)) := by
  have e : inX (ek k) (.dct (dctK ek ks f)) = if keyFits (dctK ek ks f) (ek k) = true then .ok (dlook (dctK ek ks f) (ek k)).isSome else .fail := by
    cases hk : ek k <;> rfl
  rw [e, if_pos (h.fits ks f k), look_dctK h]
  by_cases hk : k ∈ ks <;> simp [hk]
theorem sorted_dctK (h : Enc ek) (ks : List κ) (f : κ → D) (hl : ks.length ≤ 16777216) : sortedD [.dct (dctK ek ks f)] = .ok (.lst ((srt ek ks).map ek)) := by
  show ((sortItems (D.dct (dctK ek ks f))).bind fun ds => if sortable ds = true then Out.ok (D.lst (ds.mergeSort leB)) else .fail) = _
  have e2 : sortItems (D.dct (dctK ek ks f)) = .ok (ks.map ek) := congrArg Out.ok (dctK_fst ks f)
  rw [e2, ok_bind, if_pos (sortable_enc h ks hl), srt_map]

/-! ### d[k] = d.get(k, []) + [v] -/
variable {α β : Type} (kf : α → κ) (vf : α → β)
def grp (l : List α) (k : κ) : List β := (l.filter fun a => decide (kf a = k)).map vf
theorem grp_none {l : List α} {k : κ} (h : k ∉ dd (l.map kf)) : grp kf vf l k = [] := by
  unfold grp
  rw [List.filter_eq_nil_iff.mpr fun a ha hq => h ((dd_mem _ _).mpr (List.mem_map.mpr ⟨a, ha, of_decide_eq_true hq⟩))]
  rfl
theorem grp_next (l : List α) (a : α) (k : κ) : grp kf vf (l ++ [a]) k = if k = kf a then grp kf vf l k ++ [vf a] else grp kf vf l k := by
  unfold grp
  rw [List.filter_append, List.map_append]
  by_cases e : k = kf a
  · simp [e]
  · simp [e, Ne.symm e]
theorem dd_snoc (l : List κ) (k : κ) [Decidable (k ∈ dd l)] : dd (l ++ [k]) = if k ∈ dd l then dd l else dd l ++ [k] := by
  rw [dd_next]
  by_cases h : k ∈ dd l <;> simp only [h, if_true, if_false]
end
end TP

end
set_option Elab.async false
set_option linter.all false
set_option maxRecDepth 100000
/-! The order of tuples. -/
noncomputable section
namespace TP
open PySem L2 PyProof.Rows
theorem lt_tup {x y : D} (h : D.alk x y = true) (l m : List D) : D.lt (.tup (x :: l)) (.tup (y :: m)) = if D.eqv x y = true then D.lt (.tup l) (.tup m) else D.lt x y := by
  obtain ⟨a1, a2⟩ := PySem.W.toks_eqv x.toP y.toP h
  unfold D.lt PySem.W.dataLt
  rw [D.toP, D.toP, D.toPs, D.toPs, D.toP, D.toP]
  simp only [PySem.W.keyToks]
  rw [PySem.W.toks_all_cons, PySem.W.toks_all_cons, lex_self (O := itemOrd)]
  by_cases e : D.eqv x y = true
  · rw [if_pos e, a1 e, PySem.W.lex_pre]
  · rw [if_neg e]
    have := a2 (by simpa [D.eqv] using e) (PySem.W.keyToksAll (D.toPs l)) (PySem.W.keyToksAll (D.toPs m))
    exact this
theorem lt_nil (l : List D) : D.lt (.tup l) (.tup []) = false := by
  unfold D.lt PySem.W.dataLt
  rw [D.toP, D.toP]
  cases l with
  | nil => rw [D.toPs]; simp only [PySem.W.keyToks, PySem.W.keyToksAll]; rfl
  | cons x l =>
    rw [D.toPs, D.toPs]
    simp only [PySem.W.keyToks, PySem.W.keyToksAll]
    rw [lex_diff (O := itemOrd) (by simp)]
    rfl
theorem lt_nil' (x : D) (l : List D) : D.lt (.tup []) (.tup (x :: l)) = true := by
  unfold D.lt PySem.W.dataLt
  rw [D.toP, D.toP, D.toPs, D.toPs]
  simp only [PySem.W.keyToks, PySem.W.keyToksAll]
  rw [lex_diff (O := itemOrd) (by simp)]
  rfl
theorem rw_lt : D.lt (.str "read") (.str "write") = true := by decide +kernel
theorem ar_lt : D.lt (.str "add") (.str "read") = true := by decide +kernel
theorem aw_lt : D.lt (.str "add") (.str "write") = true := by decide +kernel
theorem wr_lt : D.lt (.str "write") (.str "read") = false := by decide +kernel
theorem ra_lt : D.lt (.str "read") (.str "add") = false := by decide +kernel
theorem wa_lt : D.lt (.str "write") (.str "add") = false := by decide +kernel
theorem leB_head {a b : Str} (l m : List D) (h : a ≠ b) (k : D.lt (.str b) (.str a) = false) : leB (.tup (.str a :: l)) (.tup (.str b :: m)) = true := by
  unfold leB
  rw [lt_tup (encA_str.alk b a), eqv_str, if_neg (by simpa using Ne.symm h), k]
  rfl
theorem leB_int {a b : Int} (l m : List D) (h : a < b) : leB (.tup (.int a :: l)) (.tup (.int b :: m)) = true := by
  unfold leB
  rw [lt_tup (encA_int.alk b a), eqv_int, if_neg (by simp; omega), lt_ints]
  simp; omega
/-- two in their sequence -/
theorem srt_two {α : Type} [DecidableEq α] {en : α → D} (h : Enc en) {a b : α} (k : leB (en a) (en b) = true) : srt en [a, b] = [a, b] :=
  (srt_uniq h (by simp [k]) (List.Perm.refl _)).symm
theorem srt_swap {α : Type} [DecidableEq α] {en : α → D} (h : Enc en) {a b : α} (k : leB (en a) (en b) = true) : srt en [b, a] = [a, b] :=
  (srt_uniq h (by simp [k]) (List.Perm.swap b a [])).symm
end TP

end
set_option Elab.async false
set_option linter.all false
set_option maxRecDepth 100000
/-! Own lists walked and kept; quotients; lookups. -/
noncomputable section
namespace TP
open PySem L2
theorem divN_ok {i : Int} (j : Int) (h : 0 < j) (k : j < 2 ^ 64) : fdivD (.int i) (.int j) = .ok (.int (i / j)) := by
  show (if (decide ((0 : Int) < j) && decide (j.natAbs.log2 < 9000)) = true then Out.ok (D.int (i / j)) else .fail) = _
  rw [if_pos]
  rw [Bool.and_eq_true]
  refine ⟨decide_eq_true h, decide_eq_true ?_⟩
  have : j.natAbs.log2 < 64 := (Nat.log2_lt (by omega)).mpr (by omega)
  omega
theorem keyed_int (i : Int) : keyed (.int i) = .ok (.int i) := rfl
theorem loopOwn_inv {K i : Nat} {t : TgF} {b : Env → Res} {l : List D} (P : Env → Prop)
    (h : ∀ d ∈ l, ∀ ρ, P ρ → rootFlat d = true ∧ ρ[i]? = some (.io K (.lst l)) ∧ ∃ ρ1 ρ2, t d ρ = some ρ1 ∧ (b ρ1 = .nx ρ2 ∨ b ρ1 = .ct ρ2) ∧ P ρ2)
    (hP : ∀ ρ, P ρ → ρ[i]? = some (.io K (.lst l))) : ∀ (m k : Nat) (ρ : Env), k + m = l.length → P ρ → ∃ ρ', loopOwn K i t b k m ρ = .nx ρ' ∧ P ρ'
  | 0, k, ρ, hk, p => by
    refine ⟨ρ, ?_, p⟩
    unfold loopOwn
    rw [hP ρ p]
    dsimp only
    rw [if_pos (by rw [decide_eq_true rfl, decide_eq_true (show l.length ≤ k by omega)]; rfl)]
  | m + 1, k, ρ, hk, p => by
    have hk2 : k < l.length := by omega
    have hd : l[k]? = some l[k] := List.getElem?_eq_getElem hk2
    obtain ⟨h1, h2, ρ1, ρ2, h3, h4, h5⟩ := h l[k] (List.getElem_mem hk2) ρ p
    obtain ⟨ρ', e, q⟩ := loopOwn_inv P h hP m (k + 1) ρ2 (by omega) h5
    refine ⟨ρ', ?_, q⟩
    unfold loopOwn
    rw [h2]
    dsimp only
    rw [hd]
    dsimp only
    rw [if_pos (by rw [h1, decide_eq_true rfl]; rfl), h3]
    dsimp only
    rcases h4 with h4 | h4 <;> rw [h4] <;> exact e
theorem forOwn_inv {i : Nat} {t : TgF} {b : Env → Res} {l : List D} {ρ : Env} (P : Env → Prop) (hi : ρ[i]? = some (.own (.lst l))) (ht : tagsFree (1000 + i) ρ = true)
    (h0 : P (ρ.set i (.io (1000 + i) (.lst l))))
    (h : ∀ d ∈ l, ∀ ρ, P ρ → rootFlat d = true ∧ ρ[i]? = some (.io (1000 + i) (.lst l)) ∧ ∃ ρ1 ρ2, t d ρ = some ρ1 ∧ (b ρ1 = .nx ρ2 ∨ b ρ1 = .ct ρ2) ∧ P ρ2)
    (hP : ∀ ρ, P ρ → ρ[i]? = some (.io (1000 + i) (.lst l)) ∧ tagsFree (1000 + i) (ρ.set i .un) = true) : ∃ ρ', sForOwn i t b ρ = .nx (ρ'.set i (.own (.lst l))) ∧ P ρ' := by
  obtain ⟨ρ', e, q⟩ := loopOwn_inv P h (fun ρ p => (hP ρ p).1) l.length 0 _ (Nat.zero_add _) h0
  refine ⟨ρ', ?_, q⟩
  obtain ⟨h1, h2⟩ := hP ρ' q
  unfold sForOwn
  rw [hi]
  dsimp only
  rw [if_pos ht, e]
  unfold untagR untagE
  dsimp only
  rw [h1]
  dsimp only
  rw [if_pos (by rw [h2, decide_eq_true rfl]; rfl)]
end TP

end
set_option Elab.async false
set_option linter.all false
set_option maxRecDepth 100000
/-! Names made of a sign and a number. -/
noncomputable section
namespace TP
open PySem L2
def strGood (c : Nat) : Bool := decide ((c : Int).natAbs.log2 < 1920) && PyData.strOk (strX c) && decide ((strX (c : Int)).length ≤ 16777216)
theorem strGood_all : ∀ c, c < 62 → (strGood c && decide ((strX (c : Int)).length ≤ 2)) = true := by decide +kernel
theorem str_ok {c : Nat} (h : c < 62) : strD [.int (c : Nat)] = .ok (.str (strX c)) := by
  have := (and2 (strGood_all c h)).1
  unfold strGood at this
  show (if (decide ((c : Int).natAbs.log2 < 1920) && PyData.strOk (strX c) && decide ((strX (c : Int)).length ≤ 16777216)) = true then Out.ok (D.str (strX (c : Nat))) else .fail) = _
  rw [if_pos this]
theorem strX_len {c : Nat} (h : c < 62) : (strX (c : Int)).length ≤ 2 := of_decide_eq_true (and2 (strGood_all c h)).2
def signsA : Str := "AGMT"
def sufA (c : Nat) : List Str := ["", strX c, ("x" : Str) ++ strX c, "Q9"]
theorem app_len (x y : Str) : (x ++ y).length = x.length + y.length := by
  show (x.cps ++ y.cps).size = x.cps.size + y.cps.size
  exact Array.size_append
theorem sufA_len {c : Nat} (h : c < 62) : ∀ x ∈ sufA c, x.length ≤ 3 := by
  have h1 := strX_len h
  intro x hx
  simp only [sufA, List.mem_cons, List.not_mem_nil, or_false] at hx
  rcases hx with rfl | rfl | rfl | rfl
  · decide
  · omega
  · rw [app_len]
    have : ("x" : Str).length = 1 := by decide
    omega
  · decide
/-- four columns of different signs -/
def ColsA (xs : List Str) : Prop := xs.length = 4 ∧ ∃ (c : Nat) (p : Int), c < 62 ∧ NamesS signsA (sufA c) 4 p 1 xs
theorem ColsA.ne {xs : List Str} (h : ColsA xs) {i j : Nat} (hij : i < j) {x y : Str} (h0 : xs[i]? = some x) (h1 : xs[j]? = some y) : x ≠ y := by
  obtain ⟨hl, c, p, _, hn⟩ := h
  have hj := (List.getElem?_eq_some_iff.mp h1).1
  exact hn.ne (by decide +kernel) (by decide) (by decide +kernel) hij (by omega) h0 h1
theorem ColsA.len {xs : List Str} (h : ColsA xs) {x : Str} (hx : x ∈ xs) : x.length ≤ 4 := by
  obtain ⟨hl, c, p, hc, hn⟩ := h
  obtain ⟨k, hk⟩ := List.getElem?_of_mem hx
  obtain ⟨d, y, rfl, h2, _⟩ := hn k x hk
  rw [sign_len]
  have := sufA_len hc y h2
  omega
/-- three rows of different heads -/
def rowsA (b : Str) (c : Nat) : List Str := [b, ("k" : Str) ++ strX c, "8z"]
def RowsA (xs : List Str) : Prop := ∃ (b : Str) (c t : Nat), (b = "c" ∨ b = "x") ∧ c < 62 ∧ t < 3 ∧ xs = (rowsA b c).drop t ++ (rowsA b c).take t
theorem head_k (y : Str) : (("k" : Str) ++ y).cps[0]? = some 107 := head_sign 107 y
theorem rowsA_nd {b : Str} {c : Nat} (hb : b = "c" ∨ b = "x") : (rowsA b c).Nodup := by
  have e1 : ("c" : Str).cps[0]? = some 99 := rfl
  have e2 : ("x" : Str).cps[0]? = some 120 := rfl
  have e3 : ("8z" : Str).cps[0]? = some 56 := rfl
  have n1 : ("c" : Str) ≠ ("k" : Str) ++ strX c := fun e => by have := head_k (strX c); rw [← e, e1] at this; cases this
  have n2 : ("x" : Str) ≠ ("k" : Str) ++ strX c := fun e => by have := head_k (strX c); rw [← e, e2] at this; cases this
  have n3 : ("k" : Str) ++ strX c ≠ ("8z" : Str) := fun e => by have := head_k (strX c); rw [e, e3] at this; cases this
  have n4 : ("c" : Str) ≠ "8z" := by decide
  have n5 : ("x" : Str) ≠ "8z" := by decide
  unfold rowsA
  rcases hb with rfl | rfl <;> simp [n1, n2, n3, n4, n5]
theorem RowsA.nd {xs : List Str} (h : RowsA xs) : xs.Nodup ∧ xs.length = 3 := by
  obtain ⟨b, c, t, hb, hc, ht, rfl⟩ := h
  have p : ((rowsA b c).drop t ++ (rowsA b c).take t).Perm (rowsA b c) := List.perm_append_comm.trans (by rw [List.take_append_drop])
  exact ⟨p.nodup_iff.mpr (rowsA_nd hb), p.length_eq⟩
theorem RowsA.len {xs : List Str} (h : RowsA xs) {x : Str} (hx : x ∈ xs) : x.length ≤ 3 := by
  obtain ⟨b, c, t, hb, hc, ht, rfl⟩ := h
  have p : ((rowsA b c).drop t ++ (rowsA b c).take t).Perm (rowsA b c) := List.perm_append_comm.trans (by rw [List.take_append_drop])
  have hx := p.mem_iff.mp hx
  have h1 := strX_len hc
  simp only [rowsA, List.mem_cons, List.not_mem_nil, or_false] at hx
  rcases hx with rfl | rfl | rfl
  · rcases hb with rfl | rfl <;> decide
  · rw [app_len]
    have : ("k" : Str).length = 1 := by decide
    omega
  · decide
theorem add_lst (l m : List TP.D) (h : l.length + m.length ≤ 16777216) : addD (.lst l) (.lst m) = .ok (.lst (l ++ m)) := by
  show mkLst (l ++ m) = _
  unfold mkLst
  rw [if_pos (fits_of (by rw [List.length_append]; exact h))]
theorem add_tup (l m : List TP.D) (h : l.length + m.length ≤ 16777216) : addD (.tup l) (.tup m) = .ok (.tup (l ++ m)) := by
  show mkTup (l ++ m) = _
  unfold mkTup
  rw [if_pos (fits_of (by rw [List.length_append]; exact h))]
theorem cutL_map {α β : Type} (f : α → β) (l : List α) (i j : Option Int) : cutL (l.map f) i j = (cutL l i j).map f := by
  unfold cutL
  rw [List.length_map, List.map_take, List.map_drop]
theorem sl_fromM {α : Type} (f : α → TP.D) (l : List α) (k : Nat) : sliceD (some (k : Int)) none (.lst (l.map f)) = .ok (.lst ((l.drop k).map f)) := by
  rw [sl_from, List.map_drop]
theorem sl_toM {α : Type} (f : α → TP.D) (l : List α) (k : Nat) : sliceD none (some (k : Int)) (.lst (l.map f)) = .ok (.lst ((l.take k).map f)) := by
  rw [sl_to, List.map_take]
/-- an element at a place below the length -/
theorem getX_lt {α : Type} (f : α → TP.D) (l : List α) (r : Nat) (h : r < l.length) : ∃ a, a ∈ l ∧ l[r]? = some a ∧ getX (.lst (l.map f)) (.int (r : Nat)) = .ok (f a) :=
  ⟨l[r], List.getElem_mem h, List.getElem?_eq_getElem h, getX_lstM (List.getElem?_eq_getElem h)⟩
theorem getX_ltT {α : Type} (f : α → TP.D) (l : List α) (r : Nat) (h : r < l.length) : ∃ a, a ∈ l ∧ l[r]? = some a ∧ getX (.tup (l.map f)) (.int (r : Nat)) = .ok (f a) :=
  ⟨l[r], List.getElem_mem h, List.getElem?_eq_getElem h, getX_tupM (List.getElem?_eq_getElem h)⟩
/-- what is in a list of data -/
theorem inX_lst {α : Type} [DecidableEq α] {en : α → D} (h : Enc en) (l : List α) (a : α) [Decidable (a ∈ l)] : inX (en a) (.lst (l.map en)) = .ok (decide (a ∈ l)) := by
  exact inX_encL h l a
end TP

end
set_option Elab.async false
set_option linter.all false
set_option maxRecDepth 100000
/-! Members of a lot, and what two deals say to one another. -/
noncomputable section
namespace TP
open PySem L2
def dealAt (L : Lot) (s d : Nat) : Deal := (L.getD s []).getD d []
theorem at_s {L : Lot} {s : Nat} (hs : s < L.length) : getX (enL L) (.int (s : Nat)) = .ok (enSs (L.getD s [])) := by
  rw [List.getD_eq_getElem?_getD, List.getElem?_eq_getElem hs]
  exact getX_tupM (List.getElem?_eq_getElem hs)
theorem at_d {S : Sess} {d : Nat} (hd : d < S.length) : getX (enSs S) (.int (d : Nat)) = .ok (enT (S.getD d [])) := by
  rw [List.getD_eq_getElem?_getD, List.getElem?_eq_getElem hd]
  exact getX_tupM (List.getElem?_eq_getElem hd)
theorem at_dd {L : Lot} {s d : Nat} (hs : s < L.length) (hd : d < (L.getD s []).length) : ((getX (enL L) (.int (s : Nat))).bind fun y => getX y (.int (d : Nat))) = .ok (enT (dealAt L s d)) := by
  rw [at_s hs, ok_bind, at_d hd]
  rfl
theorem getD_mem {α : Type} {l : List α} {k : Nat} (h : k < l.length) (d : α) : l.getD k d ∈ l := by
  rw [List.getD_eq_getElem?_getD, List.getElem?_eq_getElem h]
  exact List.getElem_mem h
abbrev M3 := Nat × Nat × Nat
def enM (m : M3) : D := .tup [.int (m.1 : Nat), .int (m.2.1 : Nat), .int (m.2.2 : Nat)]
def memS (k n : Nat) : List M3 := (List.range n).flatMap fun f => (List.range (n - f)).map fun j => (k, f, f + j)
def membersR (L : Lot) : List M3 := (List.range L.length).flatMap fun k => memS k (L.getD k []).length
theorem mem_memS {k n : Nat} {m : M3} : m ∈ memS k n ↔ m.1 = k ∧ m.2.1 ≤ m.2.2 ∧ m.2.2 < n := by
  unfold memS
  rw [List.mem_flatMap]
  constructor
  · rintro ⟨f, hf, h⟩
    rw [List.mem_map] at h
    obtain ⟨j, hj, rfl⟩ := h
    rw [List.mem_range] at hf hj
    exact ⟨rfl, by simp, by simp; omega⟩
  · rintro ⟨rfl, h2, h3⟩
    refine ⟨m.2.1, List.mem_range.mpr (by omega), List.mem_map.mpr ⟨m.2.2 - m.2.1, List.mem_range.mpr (by omega), ?_⟩⟩
    obtain ⟨a, b, c⟩ := m
    simp only [Prod.mk.injEq, true_and]
    simp at h2
    omega
theorem mem_membersR {L : Lot} {m : M3} : m ∈ membersR L ↔ m.1 < L.length ∧ m.2.1 ≤ m.2.2 ∧ m.2.2 < (L.getD m.1 []).length := by
  unfold membersR
  rw [List.mem_flatMap]
  constructor
  · rintro ⟨k, hk, h⟩
    rw [mem_memS] at h
    obtain ⟨rfl, h2, h3⟩ := h
    exact ⟨List.mem_range.mp hk, h2, h3⟩
  · rintro ⟨h1, h2, h3⟩
    exact ⟨m.1, List.mem_range.mpr h1, mem_memS.mpr ⟨rfl, h2, h3⟩⟩
theorem flatMap_len_le {α β : Type} (f : α → List β) (n : Nat) : ∀ l : List α, (∀ a ∈ l, (f a).length ≤ n) → (l.flatMap f).length ≤ l.length * n
  | [], _ => by simp
  | a :: l, h => by
    rw [List.flatMap_cons, List.length_append, List.length_cons, Nat.add_mul]
    have h1 := h a List.mem_cons_self
    have h2 := flatMap_len_le f n l fun b hb => h b (List.mem_cons_of_mem _ hb)
    omega
theorem memS_len (k n : Nat) : (memS k n).length ≤ n * n := by
  have := flatMap_len_le (fun f => (List.range (n - f)).map fun j => ((k, f, f + j) : M3)) n (List.range n) (fun f _ => by rw [List.length_map, List.length_range]; omega)
  rwa [List.length_range] at this
theorem membersR_len {L : Lot} {m : Nat} (h : ∀ s ∈ L, s.length ≤ m) : (membersR L).length ≤ L.length * (m * m) := by
  have := flatMap_len_le (fun k => memS k (L.getD k []).length) (m * m) (List.range L.length) (fun k hk => by
    have h1 := h _ (getD_mem (List.mem_range.mp hk) [])
    exact Nat.le_trans (memS_len _ _) (Nat.mul_le_mul h1 h1))
  rwa [List.length_range] at this
theorem wt_M (m : M3) : wt (enM m) ≤ 4 := by simp [enM, wt, wts]
theorem keys_M (l : List M3) : D.areKeys (l.map enM) = true := by
  induction l with
  | nil => rfl
  | cons a l ih => rw [List.map_cons, D.areKeys, ih]; rfl
theorem rd2 (a b : Nat) (h : a ≤ 1000000) (k : b ≤ 1000000) : rangeD2 [.int (a : Nat), .int (b : Nat)] = .ok (rangeL a (b - a)) := by
  show (if (bound (a : Nat) && bound (b : Nat)) = true then Out.ok (rangeL (a : Nat) (((b : Nat) : Int) - ((a : Nat) : Int)).toNat) else .fail) = _
  rw [if_pos]
  · rw [show (((b : Nat) : Int) - ((a : Nat) : Int)).toNat = b - a by omega]
  · rw [bound_eq, bound_eq]
    rw [Bool.and_eq_true, Bool.and_eq_true, Bool.and_eq_true]
    exact ⟨⟨decide_eq_true (by omega), decide_eq_true (by omega)⟩, ⟨decide_eq_true (by omega), decide_eq_true (by omega)⟩⟩
theorem rangeL_mapL (f n : Nat) : rangeL (f : Nat) n = (List.range n).map fun j => D.int ((f : Nat) + (j : Nat)) := rfl
/-- a loop that ends at the first find -/
theorem loop_find {α : Type} {t : TgF} {b : Env → Res} (en : α → D) (p : α → Bool) (d : D) (ρ : Env) : ∀ l : List α, (∀ a ∈ l, ∃ ρ1, t (en a) ρ = some ρ1 ∧ b ρ1 = if p a = true then .rt d else .nx ρ) → loop t b (l.map en) ρ = if l.any p = true then .rt d else .nx ρ
  | [], _ => rfl
  | a :: l, h => by
    obtain ⟨ρ1, h1, h2⟩ := h a List.mem_cons_self
    have ih := loop_find en p d ρ l fun b hb => h b (List.mem_cons_of_mem _ hb)
    rw [List.map_cons]
    unfold loop
    rw [h1]
    dsimp only
    rw [h2, List.any_cons]
    cases hp : p a with
    | true => simp
    | false =>
      rw [if_neg (by simp)]
      dsimp only
      rw [ih]
      simp
theorem fin_find {t : TgF} {b g : Env → Res} {ds : List D} {ρ : Env} {k : Bool} {d : D} (h : loop t b ds ρ = if k = true then .rt d else .nx ρ) : fin (sSeq (loop t b ds) g ρ) = if k = true then .ok d else fin (g ρ) := by
  unfold sSeq
  rw [h]
  cases k <;> rfl
theorem fin_append (i : Nat) (k : Env → Out D) (g : Env → Res) (ρ : Env) : fin (sSeq (sAppend i k) g ρ) = match ρ[i]? with
  | some (.own (.lst l)) => (k ρ).bind fun d => if fits (l.length + 1) = true then fin (g (ρ.set i (.own (.lst (l ++ [d]))))) else .fail
  | _ => .fail := by
  unfold sSeq
  rw [ap_sAppend]
  cases ρ[i]? with
  | none => rfl
  | some s => cases s with
    | own d => cases d with
      | lst l =>
        dsimp only
        cases k ρ with
        | ok d =>
          rw [ok_bind]
          dsimp only
          by_cases hf : fits (l.length + 1) = true
          · rw [if_pos hf, if_pos hf]
          · rw [if_neg hf, if_neg hf]
            rfl
        | exc x => rfl
        | fail => rfl
      | _ => rfl
    | _ => rfl
/-- reads that the other changes -/
def looksB (T U : List S3) : Bool := T.any fun t => decide (t.1 = ("read" : Str)) && (decide ((("write" : Str), t.2) ∈ U) || decide ((("add" : Str), t.2) ∈ U))
def bothB (T U : List S3) : Bool := T.any fun t => decide (t.1 = ("write" : Str)) && decide (t ∈ U)
theorem ne_nil_iff {α : Type} (l : List α) : (!l.isEmpty) = true ↔ ∃ a, a ∈ l := by
  cases l with
  | nil => simp
  | cons a l => simp; try exact ⟨a, .inl rfl⟩
theorem past_mem (T U : List S3) (s : S2) : s ∈ past T U ↔ (("read" : Str), s) ∈ T ∧ ((("write" : Str), s) ∈ U ∨ (("add" : Str), s) ∈ U) := by
  unfold past
  rw [srt_mem, dd_mem, mem_both, mem_slots, mem_slots]
  simp
theorem wrote_mem (T U : List S3) (s : S2) : s ∈ wrote T U ↔ (("write" : Str), s) ∈ T ∧ (("write" : Str), s) ∈ U := by
  unfold wrote
  rw [srt_mem, dd_mem, mem_both, mem_slots, mem_slots]
  simp
theorem looksB_iff (T U : List S3) : looksB T U = true ↔ ∃ s, (("read" : Str), s) ∈ T ∧ ((("write" : Str), s) ∈ U ∨ (("add" : Str), s) ∈ U) := by
  unfold looksB
  rw [List.any_eq_true]
  constructor
  · rintro ⟨⟨k, s⟩, h1, h2⟩
    simp only [Bool.and_eq_true, Bool.or_eq_true, decide_eq_true_eq] at h2
    obtain ⟨rfl, h2⟩ := h2
    exact ⟨s, h1, h2⟩
  · rintro ⟨s, h1, h2⟩
    exact ⟨_, h1, by simp only [Bool.and_eq_true, Bool.or_eq_true, decide_eq_true_eq]; first | exact ⟨trivial, h2⟩ | exact ⟨rfl, h2⟩⟩
theorem bothB_iff (T U : List S3) : bothB T U = true ↔ ∃ s, (("write" : Str), s) ∈ T ∧ (("write" : Str), s) ∈ U := by
  unfold bothB
  rw [List.any_eq_true]
  constructor
  · rintro ⟨⟨k, s⟩, h1, h2⟩
    simp only [Bool.and_eq_true, decide_eq_true_eq] at h2
    obtain ⟨rfl, h2⟩ := h2
    exact ⟨s, h1, h2⟩
  · rintro ⟨s, h1, h2⟩
    exact ⟨_, h1, by simp only [Bool.and_eq_true, decide_eq_true_eq]; first | exact ⟨trivial, h2⟩ | exact ⟨rfl, h2⟩⟩
theorem looksB_past (T U : List S3) : (!(past T U).isEmpty) = looksB T U := by
  rw [Bool.eq_iff_iff, ne_nil_iff, looksB_iff]
  exact exists_congr fun s => past_mem T U s
theorem bothB_wrote (T U : List S3) : (!(wrote T U).isEmpty) = bothB T U := by
  rw [Bool.eq_iff_iff, ne_nil_iff, bothB_iff]
  exact exists_congr fun s => wrote_mem T U s
def meetsB (T U : List S3) : Bool := looksB T U || (looksB U T || bothB T U)
/-- the words of a cut -/
def wordsB (p w : Bool) : List Str := (if p then [("past" : Str)] else []) ++ (if w then [("write" : Str)] else [])
theorem enM0 (m : M3) : getX (enM m) (.int 0) = .ok (.int (m.1 : Nat)) := rfl
theorem enM1 (m : M3) : getX (enM m) (.int 1) = .ok (.int (m.2.1 : Nat)) := rfl
theorem enM2 (m : M3) : getX (enM m) (.int 2) = .ok (.int (m.2.2 : Nat)) := rfl
theorem eq_str (x y : Str) : eqD (.str x) (.str y) = .ok (decide (x = y)) := eqD_of encA_str (by decide) x y
theorem ne_int' (i j : Int) : neD (.int i) (.int j) = .ok (decide (i ≠ j)) := neD_of encA_int (by decide) i j
/-- a lot of deals of small size -/
structure LotS (L : Lot) (n m q : Nat) : Prop where
  lots : L.length ≤ n
  sess : ∀ s ∈ L, s.length ≤ m
  deals : ∀ s ∈ L, ∀ d ∈ s, d.length ≤ q
theorem LotS.deal {L : Lot} {n m q s d : Nat} (h : LotS L n m q) : (dealAt L s d).length ≤ q := by
  unfold dealAt
  by_cases hs : s < L.length
  · by_cases hd : d < (L.getD s []).length
    · exact h.deals _ (getD_mem hs []) _ (getD_mem hd [])
    · rw [List.getD_eq_getElem?_getD (l := L.getD s []), List.getElem?_eq_none (by omega)]; exact Nat.zero_le _
  · rw [List.getD_eq_getElem?_getD (l := L), List.getElem?_eq_none (by omega)]
    simp
theorem isi2_n : isi2D "tuple" "list" .non = .ok (.bl false) := by simp [isi2D, isiB, D.ty]
theorem isi2_b (x : Bool) : isi2D "tuple" "list" (.bl x) = .ok (.bl false) := by simp [isi2D, isiB, D.ty]
theorem isi2_i (x : Int) : isi2D "tuple" "list" (.int x) = .ok (.bl false) := by simp [isi2D, isiB, D.ty]
theorem isi2_s (x : Str) : isi2D "tuple" "list" (.str x) = .ok (.bl false) := by simp [isi2D, isiB, D.ty]
theorem isi2_t (x : List D) : isi2D "tuple" "list" (.tup x) = .ok (.bl true) := by simp [isi2D, isiB, D.ty]
theorem i_lt (x : List D) : isiB "list" (.tup x) = false := by simp [isiB, D.ty]
theorem ap_eCallK (n m : Nat) (ord : List Nat) (g : List D → Out D) (fs ks : PEnv → Out (List D)) (ρ : PEnv) : eCallK n m ord g fs ks ρ = (fs ρ).bind fun xs => (ks ρ).bind fun ys => kwD n m ord g xs ys := rfl
theorem looksB_congr {T T' U U' : List S3} (h : ∀ t, t ∈ T ↔ t ∈ T') (k : ∀ t, t ∈ U ↔ t ∈ U') : looksB T U = looksB T' U' := by
  rw [Bool.eq_iff_iff, looksB_iff, looksB_iff]
  exact exists_congr fun s => by rw [h, k, k]
theorem bothB_congr {T T' U U' : List S3} (h : ∀ t, t ∈ T ↔ t ∈ T') (k : ∀ t, t ∈ U ↔ t ∈ U') : bothB T U = bothB T' U' := by
  rw [Bool.eq_iff_iff, bothB_iff, bothB_iff]
  exact exists_congr fun s => by rw [h, k]
theorem looksB_srt (T U : List S3) : looksB (srt en3 T) U = looksB T U := looksB_congr (srt_mem T) fun _ => Iff.rfl
theorem looksB_srt' (T U : List S3) : looksB T (srt en3 U) = looksB T U := looksB_congr (fun _ => Iff.rfl) (srt_mem U)
theorem bothB_srt (T U : List S3) : bothB (srt en3 T) U = bothB T U := bothB_congr (srt_mem T) fun _ => Iff.rfl
theorem bothB_srt' (T U : List S3) : bothB T (srt en3 U) = bothB T U := bothB_congr (fun _ => Iff.rfl) (srt_mem U)
theorem n_rw : ("read" : Str) ≠ "write" := by decide
theorem n_wr : ("write" : Str) ≠ "read" := by decide
theorem n_ra : ("read" : Str) ≠ "add" := by decide
theorem n_ar : ("add" : Str) ≠ "read" := by decide
theorem n_wa : ("write" : Str) ≠ "add" := by decide
theorem n_aw : ("add" : Str) ≠ "write" := by decide
end TP

end
noncomputable section
set_option Elab.async false
set_option linter.all false
set_option maxRecDepth 100000
set_option maxHeartbeats 400000
open PySem L2 TP
namespace K20
def top (i : Nat) : Stmt := PySem.Challenge.pw_twoplaces_k20_members_and_cuts.main.body.getD i (.Pass ⟨0, 0, 0, 0⟩)
abbrev s_deal_at : Stmt := top 1
theorem sc_deal_at : FnScope ["lot", "place"] ["lot", "place"] (defScope s_deal_at) := ⟨rfl, rfl, rfl, by decide +kernel, rfl, by decide +kernel, by decide +kernel⟩
abbrev s_slots_by : Stmt := top 3
theorem sc_slots_by : FnScope ["deal", "kinds", "step"] ["deal", "kinds"] (defScope s_slots_by) := ⟨rfl, rfl, rfl, by decide +kernel, rfl, by decide +kernel, by decide +kernel⟩
abbrev s_reads_of : Stmt := top 4
theorem sc_reads_of : FnScope ["deal"] ["deal"] (defScope s_reads_of) := ⟨rfl, rfl, rfl, by decide +kernel, rfl, by decide +kernel, by decide +kernel⟩
abbrev s_changes_of : Stmt := top 5
theorem sc_changes_of : FnScope ["deal"] ["deal"] (defScope s_changes_of) := ⟨rfl, rfl, rfl, by decide +kernel, rfl, by decide +kernel, by decide +kernel⟩
abbrev s_writes_of : Stmt := top 6
theorem sc_writes_of : FnScope ["deal"] ["deal"] (defScope s_writes_of) := ⟨rfl, rfl, rfl, by decide +kernel, rfl, by decide +kernel, by decide +kernel⟩
abbrev s_shared : Stmt := top 8
theorem sc_shared : FnScope ["one", "other", "thing"] ["one", "other"] (defScope s_shared) := ⟨rfl, rfl, rfl, by decide +kernel, rfl, by decide +kernel, by decide +kernel⟩
abbrev s_looks_past : Stmt := top 9
theorem sc_looks_past : FnScope ["one", "other"] ["one", "other"] (defScope s_looks_past) := ⟨rfl, rfl, rfl, by decide +kernel, rfl, by decide +kernel, by decide +kernel⟩
abbrev s_both_write : Stmt := top 10
theorem sc_both_write : FnScope ["one", "other"] ["one", "other"] (defScope s_both_write) := ⟨rfl, rfl, rfl, by decide +kernel, rfl, by decide +kernel, by decide +kernel⟩
abbrev s_members_of : Stmt := top 12
theorem sc_members_of : FnScope ["lot", "found", "session", "deals", "first", "last"] ["lot"] (defScope s_members_of) := ⟨rfl, rfl, rfl, by decide +kernel, rfl, by decide +kernel, by decide +kernel⟩
abbrev s_first_deal : Stmt := top 13
theorem sc_first_deal : FnScope ["lot", "member"] ["lot", "member"] (defScope s_first_deal) := ⟨rfl, rfl, rfl, by decide +kernel, rfl, by decide +kernel, by decide +kernel⟩
abbrev s_last_deal : Stmt := top 14
theorem sc_last_deal : FnScope ["lot", "member"] ["lot", "member"] (defScope s_last_deal) := ⟨rfl, rfl, rfl, by decide +kernel, rfl, by decide +kernel, by decide +kernel⟩
abbrev s_cut_words : Stmt := top 15
theorem sc_cut_words : FnScope ["lot", "member", "other", "found"] ["lot", "member", "other"] (defScope s_cut_words) := ⟨rfl, rfl, rfl, by decide +kernel, rfl, by decide +kernel, by decide +kernel⟩
abbrev s__law_cells : Stmt := top 17
theorem sc__law_cells : FnScope ["script", "cells", "cell", "state", "lap", "rest", "mixed"] ["script"] (defScope s__law_cells) := ⟨rfl, rfl, rfl, by decide +kernel, rfl, by decide +kernel, by decide +kernel⟩
abbrev s__law_pick : Stmt := top 18
theorem sc__law_pick : FnScope ["cells", "at", "many"] ["cells", "at", "many"] (defScope s__law_pick) := ⟨rfl, rfl, rfl, by decide +kernel, rfl, by decide +kernel, by decide +kernel⟩
abbrev s__law_names : Stmt := top 19
theorem sc__law_names : FnScope ["cells", "at", "code", "columns", "k", "rows", "turn", "letter"] ["cells", "at"] (defScope s__law_names) := ⟨rfl, rfl, rfl, by decide +kernel, rfl, by decide +kernel, by decide +kernel⟩
abbrev s__law_steps : Stmt := top 20
theorem sc__law_steps : FnScope ["columns", "rows", "sorts", "steps", "k", "row"] ["columns", "rows", "sorts"] (defScope s__law_steps) := ⟨rfl, rfl, rfl, by decide +kernel, rfl, by decide +kernel, by decide +kernel⟩
abbrev s__law_deal : Stmt := top 21
theorem sc__law_deal : FnScope ["cells", "at", "steps", "most", "found", "k", "step"] ["cells", "at", "steps", "most"] (defScope s__law_deal) := ⟨rfl, rfl, rfl, by decide +kernel, rfl, by decide +kernel, by decide +kernel⟩
abbrev s__law_lot : Stmt := top 22
theorem sc__law_lot : FnScope ["cells", "at", "shape", "wide", "sorts", "steps", "lot", "k", "columns", "rows", "session", "j"] ["cells", "at", "shape", "wide"] (defScope s__law_lot) := ⟨rfl, rfl, rfl, by decide +kernel, rfl, by decide +kernel, by decide +kernel⟩
abbrev s__law_looks : Stmt := top 23
theorem sc__law_looks : FnScope ["one", "other", "kind", "column", "row"] ["one", "other"] (defScope s__law_looks) := ⟨rfl, rfl, rfl, by decide +kernel, rfl, by decide +kernel, by decide +kernel⟩
abbrev s__law_both : Stmt := top 24
theorem sc__law_both : FnScope ["one", "other", "kind", "column", "row"] ["one", "other"] (defScope s__law_both) := ⟨rfl, rfl, rfl, by decide +kernel, rfl, by decide +kernel, by decide +kernel⟩
abbrev s__law_meets : Stmt := top 25
theorem sc__law_meets : FnScope ["one", "other"] ["one", "other"] (defScope s__law_meets) := ⟨rfl, rfl, rfl, by decide +kernel, rfl, by decide +kernel, by decide +kernel⟩
abbrev s__law_members : Stmt := top 26
theorem sc__law_members : FnScope ["lot", "members", "k", "first", "last"] ["lot"] (defScope s__law_members) := ⟨rfl, rfl, rfl, by decide +kernel, rfl, by decide +kernel, by decide +kernel⟩
abbrev s__law_cut : Stmt := top 27
theorem sc__law_cut : FnScope ["lot", "one", "other", "last", "first"] ["lot", "one", "other"] (defScope s__law_cut) := ⟨rfl, rfl, rfl, by decide +kernel, rfl, by decide +kernel, by decide +kernel⟩
abbrev s__law_same : Stmt := top 28
theorem sc__law_same : FnScope ["told", "due", "waiting", "one", "own", "k"] ["told", "due"] (defScope s__law_same) := ⟨rfl, rfl, rfl, by decide +kernel, rfl, by decide +kernel, by decide +kernel⟩
abbrev s__law_words : Stmt := top 29
theorem sc__law_words : FnScope ["lot", "one", "other", "past", "write"] ["lot", "one", "other"] (defScope s__law_words) := ⟨rfl, rfl, rfl, by decide +kernel, rfl, by decide +kernel, by decide +kernel⟩
abbrev s__law_asked : Stmt := top 30
theorem sc__law_asked : FnScope ["cells", "at", "lot", "most", "members", "pairs", "one", "first", "k", "other"] ["cells", "at", "lot", "most"] (defScope s__law_asked) := ⟨rfl, rfl, rfl, by decide +kernel, rfl, by decide +kernel, by decide +kernel⟩
abbrev s__law_hand : Stmt := top 31
theorem sc__law_hand : FnScope ["cells", "deal", "told", "lap", "columns", "rows", "a", "b", "c", "d", "row", "other", "lot", "one", "there", "back"] ["cells"] (defScope s__law_hand) := ⟨rfl, rfl, rfl, by decide +kernel, rfl, by decide +kernel, by decide +kernel⟩
abbrev s_law : Stmt := top 32
theorem sc_law : FnScope ["script", "cells", "lap", "shape"] ["script"] (defScope s_law) := ⟨rfl, rfl, rfl, by decide +kernel, rfl, by decide +kernel, by decide +kernel⟩
structure FnAt (K : PySem.W.Frag) (mg : Str → Option Value) (x : Str) (st : Stmt) (ps : List Str) where
  a : Addr
  fd : FuncData
  fn : FnP K x st a fd
  mg : mg x = some (.ref a)
  bd : Binds K fd ps []
structure Txt (K : PySem.W.Frag) (mg : Str → Option Value) where
  f_deal_at : FnAt K mg "deal_at" s_deal_at ["lot", "place"]
  f_slots_by : FnAt K mg "slots_by" s_slots_by ["deal", "kinds"]
  f_reads_of : FnAt K mg "reads_of" s_reads_of ["deal"]
  f_changes_of : FnAt K mg "changes_of" s_changes_of ["deal"]
  f_writes_of : FnAt K mg "writes_of" s_writes_of ["deal"]
  f_shared : FnAt K mg "shared" s_shared ["one", "other"]
  f_looks_past : FnAt K mg "looks_past" s_looks_past ["one", "other"]
  f_both_write : FnAt K mg "both_write" s_both_write ["one", "other"]
  f_members_of : FnAt K mg "members_of" s_members_of ["lot"]
  f_first_deal : FnAt K mg "first_deal" s_first_deal ["lot", "member"]
  f_last_deal : FnAt K mg "last_deal" s_last_deal ["lot", "member"]
  f_cut_words : FnAt K mg "cut_words" s_cut_words ["lot", "member", "other"]
  f__law_cells : FnAt K mg "_law_cells" s__law_cells ["script"]
  f__law_pick : FnAt K mg "_law_pick" s__law_pick ["cells", "at", "many"]
  f__law_names : FnAt K mg "_law_names" s__law_names ["cells", "at"]
  f__law_steps : FnAt K mg "_law_steps" s__law_steps ["columns", "rows", "sorts"]
  f__law_deal : FnAt K mg "_law_deal" s__law_deal ["cells", "at", "steps", "most"]
  f__law_lot : FnAt K mg "_law_lot" s__law_lot ["cells", "at", "shape", "wide"]
  f__law_looks : FnAt K mg "_law_looks" s__law_looks ["one", "other"]
  f__law_both : FnAt K mg "_law_both" s__law_both ["one", "other"]
  f__law_meets : FnAt K mg "_law_meets" s__law_meets ["one", "other"]
  f__law_members : FnAt K mg "_law_members" s__law_members ["lot"]
  f__law_cut : FnAt K mg "_law_cut" s__law_cut ["lot", "one", "other"]
  f__law_same : FnAt K mg "_law_same" s__law_same ["told", "due"]
  f__law_words : FnAt K mg "_law_words" s__law_words ["lot", "one", "other"]
  f__law_asked : FnAt K mg "_law_asked" s__law_asked ["cells", "at", "lot", "most"]
  f__law_hand : FnAt K mg "_law_hand" s__law_hand ["cells"]
  f_law : FnAt K mg "law" s_law ["script"]
  b_abs : mg "abs" = none
  b_bool : mg "bool" = none
  b_enumerate : mg "enumerate" = none
  b_int : mg "int" = none
  b_isinstance : mg "isinstance" = none
  b_len : mg "len" = none
  b_list : mg "list" = none
  b_min : mg "min" = none
  b_range : mg "range" = none
  b_sorted : mg "sorted" = none
  b_str : mg "str" = none
  b_tuple : mg "tuple" = none
noncomputable def b_deal_at : TP.Env → Res := (sSeq (sRet (e2 getX (e2 getX (eVar 0) (e2 getX (eVar 1) (eC (.int 0)))) (e2 getX (eVar 1) (eC (.int 1))))) (sNil))
noncomputable def g_deal_at : List TP.D → Out TP.D := semOf 2 b_deal_at
noncomputable def b_slots_by : TP.Env → Res := (sSeq (sRet (eCall tupleD (aCons (eCall sortedD (aCons (eSetComp [2] (iSeq (eVar 0)) (pgName 2) (e2B inX (e2 getX (eVar 2) (eC (.int 0))) (eVar 1)) (eSlice (eVar 2) (oSome (eC (.int 1))) oNone)) aNil)) aNil))) (sNil))
noncomputable def g_slots_by : List TP.D → Out TP.D := semOf 3 b_slots_by
noncomputable def b_reads_of : TP.Env → Res := (sSeq (sRet (eCall g_slots_by (aCons (eVar 0) (aCons (eCall mkTup (aCons (eC (.str "read")) aNil)) aNil)))) (sNil))
noncomputable def g_reads_of : List TP.D → Out TP.D := semOf 1 b_reads_of
noncomputable def b_changes_of : TP.Env → Res := (sSeq (sRet (eCall g_slots_by (aCons (eVar 0) (aCons (eCall mkTup (aCons (eC (.str "write")) (aCons (eC (.str "add")) aNil))) aNil)))) (sNil))
noncomputable def g_changes_of : List TP.D → Out TP.D := semOf 1 b_changes_of
noncomputable def b_writes_of : TP.Env → Res := (sSeq (sRet (eCall g_slots_by (aCons (eVar 0) (aCons (eCall mkTup (aCons (eC (.str "write")) aNil)) aNil)))) (sNil))
noncomputable def g_writes_of : List TP.D → Out TP.D := semOf 1 b_writes_of
noncomputable def b_shared : TP.Env → Res := (sSeq (sRet (eCall tupleD (aCons (eComp [2] (iSeq (eVar 0)) (pgName 2) (e2B inX (eVar 2) (eVar 1)) (eVar 2)) aNil))) (sNil))
noncomputable def g_shared : List TP.D → Out TP.D := semOf 3 b_shared
noncomputable def b_looks_past : TP.Env → Res := (sSeq (sRet (eCall g_shared (aCons (eCall g_reads_of (aCons (eVar 0) aNil)) (aCons (eCall g_changes_of (aCons (eVar 1) aNil)) aNil)))) (sNil))
noncomputable def g_looks_past : List TP.D → Out TP.D := semOf 2 b_looks_past
noncomputable def b_both_write : TP.Env → Res := (sSeq (sRet (eCall g_shared (aCons (eCall g_writes_of (aCons (eVar 0) aNil)) (aCons (eCall g_writes_of (aCons (eVar 1) aNil)) aNil)))) (sNil))
noncomputable def g_both_write : List TP.D → Out TP.D := semOf 2 b_both_write
noncomputable def l1_members_of : TP.Env → Res := (sKill [4] (sSeq (sExtend 1 (pP (eComp [5] (iArgs rangeD2 (aCons (eVar 4) (aCons (eCall lenD (aCons (eVar 3) aNil)) aNil))) (pgName 5) cYes (eCall mkTup (aCons (eVar 2) (aCons (eVar 4) (aCons (eVar 5) aNil))))))) (sNil)))
noncomputable def l2_members_of : TP.Env → Res := (sKill [2, 3, 4] (sSeq (sKill [4] (sFor (pP (iArgs rangeD1 (aCons (eCall lenD (aCons (eVar 3) aNil)) aNil))) (tgName 4) l1_members_of)) (sNil)))
noncomputable def b_members_of : TP.Env → Res := (sSeq (sOwnP 1 (eCall mkLst aNil)) (sSeq (sKill [2, 3, 4] (sFor (pP (iArgs enumD (aCons (eVar 0) aNil))) (tgTup 2 (tgCons (tgName 2) (tgCons (tgName 3) tgNil))) l2_members_of)) (sSeq (sRet (eCall tupleD (aCons (eVar 1) aNil))) (sNil))))
noncomputable def g_members_of : List TP.D → Out TP.D := semOf 6 b_members_of
noncomputable def b_first_deal : TP.Env → Res := (sSeq (sRet (eCall g_deal_at (aCons (eVar 0) (aCons (eSlice (eVar 1) oNone (oSome (eC (.int 2)))) aNil)))) (sNil))
noncomputable def g_first_deal : List TP.D → Out TP.D := semOf 2 b_first_deal
noncomputable def b_last_deal : TP.Env → Res := (sSeq (sRet (eCall g_deal_at (aCons (eVar 0) (aCons (eCall mkTup (aCons (e2 getX (eVar 1) (eC (.int 0))) (aCons (e2 getX (eVar 1) (eC (.int 2))) aNil))) aNil)))) (sNil))
noncomputable def g_last_deal : List TP.D → Out TP.D := semOf 2 b_last_deal
noncomputable def b_cut_words : TP.Env → Res := (sSeq (sOwnP 3 (eCall mkLst aNil)) (sSeq (sIf (pP (eT (eCall g_looks_past (aCons (eCall g_last_deal (aCons (eVar 0) (aCons (eVar 1) aNil))) (aCons (eCall g_first_deal (aCons (eVar 0) (aCons (eVar 2) aNil))) aNil))))) (sSeq (sAppend 3 (pP (eC (.str "past")))) (sNil)) (sNil)) (sSeq (sIf (pP (eT (eCall g_both_write (aCons (eCall g_last_deal (aCons (eVar 0) (aCons (eVar 1) aNil))) (aCons (eCall g_first_deal (aCons (eVar 0) (aCons (eVar 2) aNil))) aNil))))) (sSeq (sAppend 3 (pP (eC (.str "write")))) (sNil)) (sNil)) (sSeq (sRet (eCall tupleD (aCons (eVar 3) aNil))) (sNil)))))
noncomputable def g_cut_words : List TP.D → Out TP.D := semOf 4 b_cut_words
noncomputable def l1__law_cells : TP.Env → Res := (sKill [4] (sSeq (sIf (pP (e2B gtD (eVar 5) (eC (.int 0)))) (sSeq (sAppend 1 (pP (e2 modD (eVar 5) (eC (.int 9973))))) (sSeq (sSet 5 (pP (e2 fdivD (eVar 5) (eC (.int 9973))))) (sNil))) (sNil)) (sNil)))
noncomputable def l2__law_cells : TP.Env → Res := (sKill [2, 4, 5, 6] (sSeq (sSet 5 (pP (e2 modD (e2 addD (e2 mulD (eC (.int 2)) (eCall absD (aCons (eVar 2) aNil))) (eCall intD (aCons (eB (e2B ltD (eVar 2) (eC (.int 0)))) aNil))) (e2 shlD (eC (.int 1)) (eC (.int 1900)))))) (sSeq (sKill [4, 5, 6] (sIf (pP (e2B ltD (eVar 5) (e2 powD (eC (.int 10)) (eC (.int 18))))) (sSeq (sSet 6 (pL (e2 modD (e2 addD (e2 addD (e2 mulD (eVar 5) (eC (.int 52711))) (e2 mulD (eC (.int 9377)) (eCall lenD (aCons (eVar 1) aNil)))) (eC (.int 101))) (eC (.int 2147483647))))) (sSeq (sAppend 1 (pP (e2 modD (eVar 6) (eC (.int 9973))))) (sSeq (sSet 6 (pP (e2 modD (e2 addD (e2 addD (e2 mulD (eVar 6) (eC (.int 48271))) (e2 mulD (eC (.int 31)) (eVar 5))) (eC (.int 7))) (eC (.int 2147483629))))) (sSeq (sAppend 1 (pP (e2 modD (e2 fdivD (eVar 6) (eC (.int 31))) (eC (.int 9973))))) (sNil))))) (sSeq (sKill [4, 5] (sFor (pP (iArgs rangeD1 (aCons (eC (.int 70)) aNil))) (tgName 4) l1__law_cells)) (sNil)))) (sNil))))
noncomputable def l3__law_cells : TP.Env → Res := (sKill [2] (sSeq (sSet 3 (pP (e2 modD (e2 addD (e2 mulD (eVar 3) (eC (.int 89))) (eVar 2)) (eC (.int 2147483629))))) (sNil)))
noncomputable def l4__law_cells : TP.Env → Res := (sKill [4] (sSeq (sSet 3 (pP (e2 modD (e2 addD (e2 mulD (eVar 3) (eC (.int 39373))) (eC (.int 6581))) (eC (.int 2147483647))))) (sSeq (sAppend 1 (pP (e2 modD (e2 fdivD (eVar 3) (eC (.int 64))) (eC (.int 9973))))) (sNil))))
noncomputable def b__law_cells : TP.Env → Res := (sSeq (sOwnP 1 (eCall mkLst aNil)) (sSeq (sKill [2, 4, 5, 6] (sFor (pP (iSeq (eSlice (eVar 0) oNone (oSome (eC (.int 63)))))) (tgName 2) l2__law_cells)) (sSeq (sSet 3 (pP (eC (.int 61027)))) (sSeq (sKill [2] (sForOwn 1 (tgName 2) l3__law_cells)) (sSeq (sKill [3, 4] (sFor (pP (iArgs rangeD1 (aCons (eC (.int 300)) aNil))) (tgName 4) l4__law_cells)) (sSeq (sRet (eVar 1)) (sNil)))))))
noncomputable def g__law_cells : List TP.D → Out TP.D := semOf 7 b__law_cells
noncomputable def b__law_pick : TP.Env → Res := (sSeq (sRet (e2 modD (eCall intD (aCons (e2 getX (eVar 0) (e2 modD (eVar 1) (eCall lenD (aCons (eVar 0) aNil)))) aNil)) (eVar 2))) (sNil))
noncomputable def g__law_pick : List TP.D → Out TP.D := semOf 3 b__law_pick
noncomputable def l1__law_names : TP.Env → Res := (sKill [4, 7] (sSeq (sSet 7 (pP (e2 getX (eC (.str "AGMT")) (e2 modD (eCall intD (aCons (e2 addD (eVar 4) (eCall g__law_pick (aCons (eVar 0) (aCons (e2 addD (eVar 1) (eC (.int 1))) (aCons (eC (.int 4)) aNil))))) aNil)) (eC (.int 4)))))) (sSeq (sAppend 3 (pP (e2 addD (eVar 7) (e2 getX (eCall mkTup (aCons (eC (.str "")) (aCons (eCall strD (aCons (eVar 2) aNil)) (aCons (e2 addD (eC (.str "x")) (eCall strD (aCons (eVar 2) aNil))) (aCons (eC (.str "Q9")) aNil))))) (eCall g__law_pick (aCons (eVar 0) (aCons (e2 addD (e2 addD (eVar 1) (eC (.int 2))) (eVar 4)) (aCons (eC (.int 4)) aNil)))))))) (sNil))))
noncomputable def b__law_names : TP.Env → Res := (sSeq (sSet 2 (pP (e2 addD (eC (.int 2)) (eCall g__law_pick (aCons (eVar 0) (aCons (eVar 1) (aCons (eC (.int 60)) aNil))))))) (sSeq (sOwnP 3 (eCall mkLst aNil)) (sSeq (sKill [4, 7] (sFor (pP (iArgs rangeD1 (aCons (eC (.int 4)) aNil))) (tgName 4) l1__law_names)) (sSeq (sSet 5 (pP (eCall mkLst (aCons (e2 getX (eC (.str "cx")) (eCall g__law_pick (aCons (eVar 0) (aCons (e2 addD (eVar 1) (eC (.int 6))) (aCons (eC (.int 2)) aNil))))) (aCons (e2 addD (eC (.str "k")) (eCall strD (aCons (eVar 2) aNil))) (aCons (eC (.str "8z")) aNil)))))) (sSeq (sSet 6 (pP (eCall g__law_pick (aCons (eVar 0) (aCons (e2 addD (eVar 1) (eC (.int 7))) (aCons (eC (.int 3)) aNil)))))) (sSeq (sRet (eCall mkTup (aCons (eVar 3) (aCons (e2 addD (eSlice (eVar 5) (oSome (eVar 6)) oNone) (eSlice (eVar 5) oNone (oSome (eVar 6)))) aNil)))) (sNil)))))))
noncomputable def g__law_names : List TP.D → Out TP.D := semOf 8 b__law_names
noncomputable def l1__law_steps : TP.Env → Res := (sKill [5] (sSeq (sAppend 3 (pP (eCall mkTup (aCons (eC (.str "read")) (aCons (e2 getX (eVar 0) (eVar 4)) (aCons (eVar 5) aNil)))))) (sSeq (sAppend 3 (pP (eCall mkTup (aCons (e2 getX (eVar 2) (eVar 4)) (aCons (e2 getX (eVar 0) (eVar 4)) (aCons (eVar 5) aNil)))))) (sNil))))
noncomputable def l2__law_steps : TP.Env → Res := (sKill [4, 5] (sSeq (sKill [5] (sFor (pP (iSeq (eVar 1))) (tgName 5) l1__law_steps)) (sNil)))
noncomputable def b__law_steps : TP.Env → Res := (sSeq (sOwnP 3 (eCall mkLst aNil)) (sSeq (sKill [4, 5] (sFor (pP (iArgs rangeD1 (aCons (eCall lenD (aCons (eVar 0) aNil)) aNil))) (tgName 4) l2__law_steps)) (sSeq (sRet (eVar 3)) (sNil))))
noncomputable def g__law_steps : List TP.D → Out TP.D := semOf 6 b__law_steps
noncomputable def l1__law_deal : TP.Env → Res := (sKill [5, 6] (sSeq (sSet 6 (pP (e2 getX (eVar 2) (eCall g__law_pick (aCons (eVar 0) (aCons (e2 addD (e2 addD (eVar 1) (eC (.int 1))) (eVar 5)) (aCons (eCall lenD (aCons (eVar 2) aNil)) aNil))))))) (sSeq (sIf (pLb (e2B (fun x y => notD (inX x y)) (eVar 6) (eVar 4))) (sSeq (sAppend 4 (pP (eVar 6))) (sNil)) (sNil)) (sNil))))
noncomputable def b__law_deal : TP.Env → Res := (sSeq (sOwnP 4 (eCall mkLst aNil)) (sSeq (sKill [5, 6] (sFor (pP (iArgs rangeD1 (aCons (e2 addD (eC (.int 1)) (eCall g__law_pick (aCons (eVar 0) (aCons (eVar 1) (aCons (eVar 3) aNil))))) aNil))) (tgName 5) l1__law_deal)) (sSeq (sRet (eCall tupleD (aCons (eCall sortedD (aCons (eVar 4) aNil)) aNil))) (sNil))))
noncomputable def g__law_deal : List TP.D → Out TP.D := semOf 7 b__law_deal
noncomputable def l1__law_lot : TP.Env → Res := (sKill [11] (sSeq (sAppend 10 (pP (eCall g__law_deal (aCons (eVar 0) (aCons (e2 addD (e2 addD (e2 addD (eVar 1) (eC (.int 16))) (e2 mulD (eC (.int 20)) (eVar 7))) (e2 mulD (eC (.int 5)) (eVar 11))) (aCons (eVar 5) (aCons (eC (.int 3)) aNil))))))) (sNil)))
noncomputable def l2__law_lot : TP.Env → Res := (sKill [7, 10, 11] (sSeq (sOwnP 10 (eCall mkLst aNil)) (sSeq (sKill [11] (sFor (pP (iArgs rangeD1 (aCons (e2 getX (eVar 2) (eVar 7)) aNil))) (tgName 11) l1__law_lot)) (sSeq (sAppend 6 (pL (eCall tupleD (aCons (eVar 10) aNil)))) (sNil)))))
noncomputable def b__law_lot : TP.Env → Res := (sSeq (sAsg (tgTup 2 (tgCons (tgName 8) (tgCons (tgName 9) tgNil))) (pP (eCall g__law_names (aCons (eVar 0) (aCons (eVar 1) aNil))))) (sSeq (sSet 4 (pP (eComp [7] (iArgs rangeD1 (aCons (eVar 3) aNil)) (pgName 7) cYes (e2 getX (eCall mkTup (aCons (eC (.str "write")) (aCons (eC (.str "write")) (aCons (eC (.str "add")) (aCons (eC (.str "write")) aNil))))) (eCall g__law_pick (aCons (eVar 0) (aCons (e2 addD (e2 addD (eVar 1) (eC (.int 10))) (eVar 7)) (aCons (eC (.int 4)) aNil)))))))) (sSeq (sSet 5 (pP (eCall g__law_steps (aCons (eSlice (eVar 8) oNone (oSome (eVar 3))) (aCons (eSlice (eVar 9) oNone (oSome (e2 addD (eC (.int 1)) (eCall g__law_pick (aCons (eVar 0) (aCons (e2 addD (eVar 1) (eC (.int 14))) (aCons (eC (.int 2)) aNil))))))) (aCons (eVar 4) aNil)))))) (sSeq (sOwnP 6 (eCall mkLst aNil)) (sSeq (sKill [7, 10, 11] (sFor (pP (iArgs rangeD1 (aCons (eCall lenD (aCons (eVar 2) aNil)) aNil))) (tgName 7) l2__law_lot)) (sSeq (sRet (eCall tupleD (aCons (eVar 6) aNil))) (sNil)))))))
noncomputable def g__law_lot : List TP.D → Out TP.D := semOf 12 b__law_lot
noncomputable def l1__law_looks : TP.Env → Res := (sKill [2, 3, 4] (sSeq (sIf (pP ((cAnd (e2B eqD (eVar 2) (eC (.str "read"))) ((cOr (e2B inX (eCall mkTup (aCons (eC (.str "write")) (aCons (eVar 3) (aCons (eVar 4) aNil)))) (eVar 1)) (e2B inX (eCall mkTup (aCons (eC (.str "add")) (aCons (eVar 3) (aCons (eVar 4) aNil)))) (eVar 1))))))) (sSeq (sRet (eC (.bl true))) (sNil)) (sNil)) (sNil)))
noncomputable def b__law_looks : TP.Env → Res := (sSeq (sKill [2, 3, 4] (sFor (pP (iSeq (eVar 0))) (tgTup 3 (tgCons (tgName 2) (tgCons (tgName 3) (tgCons (tgName 4) tgNil)))) l1__law_looks)) (sSeq (sRet (eC (.bl false))) (sNil)))
noncomputable def g__law_looks : List TP.D → Out TP.D := semOf 5 b__law_looks
noncomputable def l1__law_both : TP.Env → Res := (sKill [2, 3, 4] (sSeq (sIf (pP ((cAnd (e2B eqD (eVar 2) (eC (.str "write"))) (e2B inX (eCall mkTup (aCons (eVar 2) (aCons (eVar 3) (aCons (eVar 4) aNil)))) (eVar 1))))) (sSeq (sRet (eC (.bl true))) (sNil)) (sNil)) (sNil)))
noncomputable def b__law_both : TP.Env → Res := (sSeq (sKill [2, 3, 4] (sFor (pP (iSeq (eVar 0))) (tgTup 3 (tgCons (tgName 2) (tgCons (tgName 3) (tgCons (tgName 4) tgNil)))) l1__law_both)) (sSeq (sRet (eC (.bl false))) (sNil)))
noncomputable def g__law_both : List TP.D → Out TP.D := semOf 5 b__law_both
noncomputable def b__law_meets : TP.Env → Res := (sSeq (sRet (eOr (eCall g__law_looks (aCons (eVar 0) (aCons (eVar 1) aNil))) (eOr (eCall g__law_looks (aCons (eVar 1) (aCons (eVar 0) aNil))) (eCall g__law_both (aCons (eVar 0) (aCons (eVar 1) aNil)))))) (sNil))
noncomputable def g__law_meets : List TP.D → Out TP.D := semOf 2 b__law_meets
noncomputable def l1__law_members : TP.Env → Res := (sKill [4] (sSeq (sAppend 1 (pP (eCall mkTup (aCons (eVar 2) (aCons (eVar 3) (aCons (eVar 4) aNil)))))) (sNil)))
noncomputable def l2__law_members : TP.Env → Res := (sKill [3, 4] (sSeq (sKill [4] (sFor (pP (iArgs rangeD2 (aCons (eVar 3) (aCons (eCall lenD (aCons (e2 getX (eVar 0) (eVar 2)) aNil)) aNil)))) (tgName 4) l1__law_members)) (sNil)))
noncomputable def l3__law_members : TP.Env → Res := (sKill [2, 3, 4] (sSeq (sKill [3, 4] (sFor (pP (iArgs rangeD1 (aCons (eCall lenD (aCons (e2 getX (eVar 0) (eVar 2)) aNil)) aNil))) (tgName 3) l2__law_members)) (sNil)))
noncomputable def b__law_members : TP.Env → Res := (sSeq (sOwnP 1 (eCall mkLst aNil)) (sSeq (sKill [2, 3, 4] (sFor (pP (iArgs rangeD1 (aCons (eCall lenD (aCons (eVar 0) aNil)) aNil))) (tgName 2) l3__law_members)) (sSeq (sRet (eVar 1)) (sNil))))
noncomputable def g__law_members : List TP.D → Out TP.D := semOf 5 b__law_members
noncomputable def b__law_cut : TP.Env → Res := (sSeq (sSet 3 (pP (e2 getX (e2 getX (eVar 0) (e2 getX (eVar 1) (eC (.int 0)))) (e2 getX (eVar 1) (eC (.int 2)))))) (sSeq (sSet 4 (pP (e2 getX (e2 getX (eVar 0) (e2 getX (eVar 2) (eC (.int 0)))) (e2 getX (eVar 2) (eC (.int 1)))))) (sSeq (sRet (eCall mkTup (aCons (eCall g__law_looks (aCons (eVar 3) (aCons (eVar 4) aNil))) (aCons (eCall g__law_both (aCons (eVar 3) (aCons (eVar 4) aNil))) aNil)))) (sNil))))
noncomputable def g__law_cut : List TP.D → Out TP.D := semOf 5 b__law_cut
noncomputable def l1__law_same : TP.Env → Res := (sKill [5] (sSeq (sAppend 2 (pP (eCall mkTup (aCons (e2 getX (eVar 3) (eVar 5)) (aCons (e2 getX (eVar 4) (eVar 5)) aNil))))) (sNil)))
noncomputable def l2__law_same : TP.Env → Res := (sKill [3, 4, 5] (sSeq (sPop 2 (tgTup 2 (tgCons (tgName 3) (tgCons (tgName 4) tgNil)))) (sSeq (sKill [5] (sIf (pP (eT (e1 (isi2D "tuple" "list") (eVar 4)))) (sSeq (sIf (pP ((cOr (e2B neD (e1 (isiD "tuple") (eVar 4)) (e1 (isiD "tuple") (eVar 3))) (cOr (e2B neD (e1 (isiD "list") (eVar 4)) (e1 (isiD "list") (eVar 3))) (e2B neD (eCall lenD (aCons (eVar 3) aNil)) (eCall lenD (aCons (eVar 4) aNil))))))) (sSeq (sRet (eC (.bl false))) (sNil)) (sNil)) (sSeq (sKill [5] (sFor (pP (iArgs rangeD1 (aCons (eCall lenD (aCons (eVar 4) aNil)) aNil))) (tgName 5) l1__law_same)) (sNil))) (sSeq (sIf (pP (e2B isD (eVar 4) (eC .non))) (sSeq (sIf (pP (e2B isNotD (eVar 3) (eC .non))) (sSeq (sRet (eC (.bl false))) (sNil)) (sNil)) (sNil)) (sSeq (sIf (pP (eT (e1 (isiD "bool") (eVar 4)))) (sSeq (sIf (pP ((cOr (cNot (eT (e1 (isiD "bool") (eVar 3)))) (e2B neD (eVar 3) (eVar 4))))) (sSeq (sRet (eC (.bl false))) (sNil)) (sNil)) (sNil)) (sSeq (sIf (pP (eT (e1 (isiD "str") (eVar 4)))) (sSeq (sIf (pP ((cOr (cNot (eT (e1 (isiD "str") (eVar 3)))) (e2B neD (eVar 3) (eVar 4))))) (sSeq (sRet (eC (.bl false))) (sNil)) (sNil)) (sNil)) (sSeq (sIf (pP ((cOr (eT (e1 (isiD "bool") (eVar 3))) (cOr (cNot (eT (e1 (isiD "int") (eVar 3)))) (e2B neD (eVar 3) (eVar 4)))))) (sSeq (sRet (eC (.bl false))) (sNil)) (sNil)) (sNil))) (sNil))) (sNil))) (sNil)))) (sNil))))
noncomputable def c1__law_same : TP.Env → Out Bool := (pLb (e2B gtD (eCall lenD (aCons (eVar 2) aNil)) (eC (.int 0))))
noncomputable def b__law_same : TP.Env → Res := (sSeq (sOwnP 2 (eCall mkLst (aCons (eCall mkTup (aCons (eVar 0) (aCons (eVar 1) aNil))) aNil))) (sSeq (sKill [3, 4, 5] (sWhile c1__law_same l2__law_same)) (sSeq (sRet (eC (.bl true))) (sNil))))
noncomputable def g__law_same : List TP.D → Out TP.D := semOf 6 b__law_same
noncomputable def b__law_words : TP.Env → Res := (sSeq (sAsg (tgTup 2 (tgCons (tgName 3) (tgCons (tgName 4) tgNil))) (pP (eCall g__law_cut (aCons (eVar 0) (aCons (eVar 1) (aCons (eVar 2) aNil)))))) (sSeq (sRet (e2 addD (e2 mulD (eCall mkTup (aCons (eC (.str "past")) aNil)) (eCall intD (aCons (eVar 3) aNil))) (e2 mulD (eCall mkTup (aCons (eC (.str "write")) aNil)) (eCall intD (aCons (eVar 4) aNil))))) (sNil)))
noncomputable def g__law_words : List TP.D → Out TP.D := semOf 5 b__law_words
noncomputable def l1__law_asked : TP.Env → Res := (sKill [6] (sSeq (sSet 5 (pP (e2 addD (eVar 5) (eComp [9] (iSeq (eVar 4)) (pgName 9) (e2B neD (e2 getX (eVar 6) (eC (.int 0))) (e2 getX (eVar 9) (eC (.int 0)))) (eCall mkTup (aCons (eVar 6) (aCons (eVar 9) aNil))))))) (sNil)))
noncomputable def l2__law_asked : TP.Env → Res := (sKill [6, 8, 9] (sSeq (sAsg (tgTup 2 (tgCons (tgName 6) (tgCons (tgName 9) tgNil))) (pP (e2 getX (eVar 5) (e2 modD (eCall intD (aCons (e2 addD (eVar 7) (eVar 8)) aNil)) (eCall lenD (aCons (eVar 5) aNil)))))) (sSeq (sIf (pP (cNot (eT (eCall g__law_same (aCons (eCall g_cut_words (aCons (eVar 2) (aCons (eVar 6) (aCons (eVar 9) aNil)))) (aCons (eCall g__law_words (aCons (eVar 2) (aCons (eVar 6) (aCons (eVar 9) aNil)))) aNil)))))) (sSeq (sRet (eC (.bl false))) (sNil)) (sNil)) (sNil))))
noncomputable def b__law_asked : TP.Env → Res := (sSeq (sSet 4 (pP (eCall g__law_members (aCons (eVar 2) aNil)))) (sSeq (sIf (pP (cNot (eT (eCall g__law_same (aCons (eCall g_members_of (aCons (eVar 2) aNil)) (aCons (eCall tupleD (aCons (eVar 4) aNil)) aNil)))))) (sSeq (sRet (eC (.bl false))) (sNil)) (sNil)) (sSeq (sSet 5 (pP (eCall mkLst aNil))) (sSeq (sKill [6] (sFor (pP (iSeq (eVar 4))) (tgName 6) l1__law_asked)) (sSeq (sSet 7 (pP (eCall g__law_pick (aCons (eVar 0) (aCons (eVar 1) (aCons (eC (.int 997)) aNil)))))) (sSeq (sKill [6, 8, 9] (sFor (pP (iArgs rangeD1 (aCons (eCall minD (aCons (eVar 3) (aCons (eCall lenD (aCons (eVar 5) aNil)) aNil))) aNil))) (tgName 8) l2__law_asked)) (sSeq (sRet (eC (.bl true))) (sNil))))))))
noncomputable def g__law_asked : List TP.D → Out TP.D := semOf 10 b__law_asked
noncomputable def l1__law_hand : TP.Env → Res := (sKill [3, 13, 14, 15] (sSeq (sAsg (tgTup 3 (tgCons (tgName 13) (tgCons (tgName 14) (tgCons (tgName 15) tgNil)))) (pP (e2 getX (eVar 2) (eVar 3)))) (sSeq (sSet 12 (pP (eCall mkTup (aCons (eCall mkTup (aCons (eVar 1) aNil)) (aCons (eCall mkTup (aCons (eCall mkTup (aCons (eCall mkTup (aCons (eC (.str "read")) (aCons (eVar 9) (aCons (eVar 11) aNil)))) aNil)) (aCons (eVar 13) aNil))) aNil))))) (sSeq (sIf (pP ((cOr (cNot (eT (eCall g__law_same (aCons (eCall g_cut_words (aCons (eVar 12) (aCons (eCall mkTup (aCons (eC (.int 0)) (aCons (eC (.int 0)) (aCons (eC (.int 0)) aNil)))) (aCons (eCall mkTup (aCons (eC (.int 1)) (aCons (eC (.int 1)) (aCons (eC (.int 1)) aNil)))) aNil)))) (aCons (eVar 14) aNil))))) (cNot (eT (eCall g__law_same (aCons (eCallK 0 3 [1, 0, 2] g_cut_words aNil (aCons (eCall mkTup (aCons (eC (.int 1)) (aCons (eC (.int 1)) (aCons (eC (.int 1)) aNil)))) (aCons (eVar 12) (aCons (eCall mkTup (aCons (eC (.int 0)) (aCons (eC (.int 0)) (aCons (eC (.int 0)) aNil)))) aNil)))) (aCons (eVar 15) aNil)))))))) (sSeq (sRet (eC (.bl false))) (sNil)) (sNil)) (sSeq (sIf (pP ((cOr (cNot (eT (eCall g__law_same (aCons (eCall g_cut_words (aCons (eVar 12) (aCons (eCall mkTup (aCons (eC (.int 1)) (aCons (eC (.int 0)) (aCons (eC (.int 1)) aNil)))) (aCons (eCall mkTup (aCons (eC (.int 0)) (aCons (eC (.int 0)) (aCons (eC (.int 0)) aNil)))) aNil)))) (aCons (eVar 15) aNil))))) (cNot (eT (eCall g__law_same (aCons (eCall g_cut_words (aCons (eVar 12) (aCons (eCall mkTup (aCons (eC (.int 0)) (aCons (eC (.int 0)) (aCons (eC (.int 0)) aNil)))) (aCons (eCall mkTup (aCons (eC (.int 1)) (aCons (eC (.int 0)) (aCons (eC (.int 1)) aNil)))) aNil)))) (aCons (eCall mkTup aNil) aNil)))))))) (sSeq (sRet (eC (.bl false))) (sNil)) (sNil)) (sNil))))))
noncomputable def b__law_hand : TP.Env → Res := (sSeq (sAsg (tgTup 2 (tgCons (tgName 4) (tgCons (tgName 5) tgNil))) (pP (eCall g__law_names (aCons (eVar 0) (aCons (eC (.int 3)) aNil))))) (sSeq (sAsg (tgTup 4 (tgCons (tgName 6) (tgCons (tgName 7) (tgCons (tgName 8) (tgCons (tgName 9) tgNil))))) (pP (eVar 4))) (sSeq (sAsg (tgTup 2 (tgCons (tgName 10) (tgCons (tgName 11) tgNil))) (pP (eSlice (eVar 5) oNone (oSome (eC (.int 2)))))) (sSeq (sSet 1 (pP (eCall tupleD (aCons (eCall sortedD (aCons (eCall mkLst (aCons (eCall mkTup (aCons (eC (.str "read")) (aCons (eVar 6) (aCons (eVar 10) aNil)))) (aCons (eCall mkTup (aCons (eC (.str "read")) (aCons (eVar 9) (aCons (eVar 10) aNil)))) (aCons (eCall mkTup (aCons (eC (.str "write")) (aCons (eVar 7) (aCons (eVar 10) aNil)))) (aCons (eCall mkTup (aCons (eC (.str "add")) (aCons (eVar 8) (aCons (eVar 10) aNil)))) aNil))))) aNil)) aNil)))) (sSeq (sSet 2 (pP (eCall mkLst (aCons (eCall mkTup (aCons (eCall mkTup (aCons (eCall mkTup (aCons (eC (.str "write")) (aCons (eVar 6) (aCons (eVar 10) aNil)))) aNil)) (aCons (eCall mkTup (aCons (eC (.str "past")) aNil)) (aCons (eCall mkTup aNil) aNil)))) (aCons (eCall mkTup (aCons (eCall mkTup (aCons (eCall mkTup (aCons (eC (.str "write")) (aCons (eVar 7) (aCons (eVar 10) aNil)))) aNil)) (aCons (eCall mkTup (aCons (eC (.str "write")) aNil)) (aCons (eCall mkTup (aCons (eC (.str "write")) aNil)) aNil)))) (aCons (eCall mkTup (aCons (eCall tupleD (aCons (eCall sortedD (aCons (eCall mkLst (aCons (eCall mkTup (aCons (eC (.str "write")) (aCons (eVar 6) (aCons (eVar 10) aNil)))) (aCons (eCall mkTup (aCons (eC (.str "write")) (aCons (eVar 7) (aCons (eVar 10) aNil)))) aNil))) aNil)) aNil)) (aCons (eCall mkTup (aCons (eC (.str "past")) (aCons (eC (.str "write")) aNil))) (aCons (eCall mkTup (aCons (eC (.str "write")) aNil)) aNil)))) aNil)))))) (sSeq (sSet 2 (pP (e2 addD (eVar 2) (eCall mkLst (aCons (eCall mkTup (aCons (eCall tupleD (aCons (eCall sortedD (aCons (eCall mkLst (aCons (eCall mkTup (aCons (eC (.str "write")) (aCons (eVar 6) (aCons (eVar 11) aNil)))) (aCons (eCall mkTup (aCons (eC (.str "write")) (aCons (eVar 7) (aCons (eVar 11) aNil)))) (aCons (eCall mkTup (aCons (eC (.str "read")) (aCons (eVar 6) (aCons (eVar 10) aNil)))) (aCons (eCall mkTup (aCons (eC (.str "add")) (aCons (eVar 8) (aCons (eVar 10) aNil)))) aNil))))) aNil)) aNil)) (aCons (eCall mkTup aNil) (aCons (eCall mkTup aNil) aNil)))) (aCons (eCall mkTup (aCons (eCall mkTup (aCons (eCall mkTup (aCons (eC (.str "read")) (aCons (eVar 8) (aCons (eVar 10) aNil)))) aNil)) (aCons (eCall mkTup aNil) (aCons (eCall mkTup (aCons (eC (.str "past")) aNil)) aNil)))) aNil)))))) (sSeq (sSet 2 (pP (e2 addD (eVar 2) (eCall mkLst (aCons (eCall mkTup (aCons (eCall tupleD (aCons (eCall sortedD (aCons (eCall mkLst (aCons (eCall mkTup (aCons (eC (.str "read")) (aCons (eVar 7) (aCons (eVar 10) aNil)))) (aCons (eCall mkTup (aCons (eC (.str "write")) (aCons (eVar 7) (aCons (eVar 10) aNil)))) aNil))) aNil)) aNil)) (aCons (eCall mkTup (aCons (eC (.str "write")) aNil)) (aCons (eCall mkTup (aCons (eC (.str "past")) (aCons (eC (.str "write")) aNil))) aNil)))) (aCons (eCall mkTup (aCons (eCall mkTup (aCons (eCall mkTup (aCons (eC (.str "add")) (aCons (eVar 9) (aCons (eVar 10) aNil)))) aNil)) (aCons (eCall mkTup (aCons (eC (.str "past")) aNil)) (aCons (eCall mkTup aNil) aNil)))) aNil)))))) (sSeq (sKill [3, 13, 14, 15] (sFor (pP (iArgs rangeD1 (aCons (eCall lenD (aCons (eVar 2) aNil)) aNil))) (tgName 3) l1__law_hand)) (sSeq (sRet (eCall g__law_same (aCons (eCallK 0 1 [0] g_members_of aNil (aCons (eVar 12) aNil)) (aCons (eCall mkTup (aCons (eCall mkTup (aCons (eC (.int 0)) (aCons (eC (.int 0)) (aCons (eC (.int 0)) aNil)))) (aCons (eCall mkTup (aCons (eC (.int 1)) (aCons (eC (.int 0)) (aCons (eC (.int 0)) aNil)))) (aCons (eCall mkTup (aCons (eC (.int 1)) (aCons (eC (.int 0)) (aCons (eC (.int 1)) aNil)))) (aCons (eCall mkTup (aCons (eC (.int 1)) (aCons (eC (.int 1)) (aCons (eC (.int 1)) aNil)))) aNil))))) aNil)))) (sNil))))))))))
noncomputable def g__law_hand : List TP.D → Out TP.D := semOf 16 b__law_hand
noncomputable def l1_law : TP.Env → Res := (sKill [2, 3] (sSeq (sSet 3 (pP (e2 getX (eCall mkTup (aCons (eCall mkTup (aCons (eC (.int 1)) (aCons (eC (.int 1)) aNil))) (aCons (eCall mkTup (aCons (eC (.int 2)) (aCons (eC (.int 1)) aNil))) (aCons (eCall mkTup (aCons (eC (.int 1)) (aCons (eC (.int 1)) (aCons (eC (.int 1)) aNil)))) (aCons (eCall mkTup (aCons (eC (.int 3)) (aCons (eC (.int 2)) aNil))) (aCons (eCall mkTup (aCons (eC (.int 2)) (aCons (eC (.int 1)) (aCons (eC (.int 2)) aNil)))) (aCons (eCall mkTup (aCons (eC (.int 1)) (aCons (eC (.int 2)) (aCons (eC (.int 1)) (aCons (eC (.int 1)) aNil))))) (aCons (eCall mkTup (aCons (eC (.int 4)) aNil)) (aCons (eCall mkTup (aCons (eC (.int 1)) (aCons (eC (.int 3)) aNil))) aNil))))))))) (eCall g__law_pick (aCons (eVar 1) (aCons (e2 addD (eC (.int 20)) (eVar 2)) (aCons (eC (.int 8)) aNil))))))) (sSeq (sIf (pP (cNot (eT (eCall g__law_asked (aCons (eVar 1) (aCons (e2 addD (eC (.int 23)) (eVar 2)) (aCons (eCall g__law_lot (aCons (eVar 1) (aCons (e2 addD (eC (.int 30)) (e2 mulD (eC (.int 90)) (eVar 2))) (aCons (eVar 3) (aCons (e2 addD (eC (.int 1)) (eCall g__law_pick (aCons (eVar 1) (aCons (e2 addD (eC (.int 26)) (eVar 2)) (aCons (eC (.int 3)) aNil))))) aNil))))) (aCons (eC (.int 60)) aNil)))))))) (sSeq (sRet (eC (.bl false))) (sNil)) (sNil)) (sNil))))
noncomputable def b_law : TP.Env → Res := (sSeq (sSet 1 (pP (eCall g__law_cells (aCons (eVar 0) aNil)))) (sSeq (sIf (pP (cNot (eT (eCall g__law_hand (aCons (eVar 1) aNil))))) (sSeq (sRet (eC (.bl false))) (sNil)) (sNil)) (sSeq (sKill [2, 3] (sFor (pP (iArgs rangeD1 (aCons (eC (.int 3)) aNil))) (tgName 2) l1_law)) (sSeq (sIf (pP (e2B neD (eCall g__law_pick (aCons (eVar 1) (aCons (eC (.int 29)) (aCons (eC (.int 7)) aNil)))) (eC (.int 3)))) (sSeq (sRet (eC (.bl true))) (sNil)) (sNil)) (sSeq (sRet (eCall g__law_asked (aCons (eVar 1) (aCons (eC (.int 28)) (aCons (eCall g__law_lot (aCons (eVar 1) (aCons (eC (.int 40)) (aCons (eCall mkTup (aCons (eC (.int 1)) (aCons (eC (.int 1)) (aCons (eC (.int 5)) (aCons (eC (.int 1)) (aCons (eC (.int 1)) (aCons (eC (.int 1)) (aCons (eC (.int 1)) (aCons (eC (.int 1)) aNil))))))))) (aCons (eC (.int 3)) aNil))))) (aCons (eC (.int 80)) aNil)))))) (sNil))))))
noncomputable def g_law : List TP.D → Out TP.D := semOf 4 b_law
section
variable {P : Program} {w : World} {K : PySem.W.Frag} {mg : Str → Option Value} {base : Heap}
theorem ok_deal_at (T : Txt K mg) : FnOk P w K mg base (L2.CX P w) 2 T.f_deal_at.a T.f_deal_at.fd ["lot", "place"] (spP ⟨P, w, K⟩ mg 2 g_deal_at) := by
  refine fn_okG (k := 1) (b := b_deal_at) T.f_deal_at.fn sc_deal_at rfl rfl fun cdv A outer s H E hr => ?_
  have hu := room65 hr
  exact (vss_cons (vs_ret (ve_ixX hu (ve_ixX hu (ve_var 0) (ve_ixX hu (ve_var 1) ve_int)) (ve_ixX hu (ve_var 1) ve_int))) (vss_nil))
theorem ok_slots_by (T : Txt K mg) : FnOk P w K mg base (L2.CX P w) 2 T.f_slots_by.a T.f_slots_by.fd ["deal", "kinds"] (spP ⟨P, w, K⟩ mg 2 g_slots_by) := by
  refine fn_okG (k := 1) (b := b_slots_by) T.f_slots_by.fn sc_slots_by rfl rfl fun cdv A outer s H E hr => ?_
  have hu := room65 hr
  exact (vss_cons (vs_ret (ve_callTy call_tupleV rfl T.b_tuple (by decide +kernel) (va_cons (ve_callB (call_sortedX rfl hu).v rfl T.b_sorted (by decide +kernel) (va_cons (VF.ve (vf_sc (own := [("step", 2)]) (ts := [2]) rfl sc_slots_by.nd (blkOk_by rfl) hu (vi_seq (ve_var 0)) (fun _ _ _ _ _ => (vp_name 2 sc_slots_by.nd)) (fun _ _ _ _ _ => (vts_one (vt_cmp (cmp_inX hu) (ve_ixX hu (ve_var 2) ve_int) (ve_var 1) rfl))) (fun _ _ _ _ _ => (ve_slice (ve_var 2) (vo_some ve_int) vo_none)) (by decide))) va_nil)) va_nil))) (vss_nil))
theorem ok_reads_of (T : Txt K mg) : FnOk P w K mg base (L2.CX P w) 3 T.f_reads_of.a T.f_reads_of.fd ["deal"] (spP ⟨P, w, K⟩ mg 1 g_reads_of) := by
  refine fn_okG (k := 2) (b := b_reads_of) T.f_reads_of.fn sc_reads_of rfl rfl fun cdv A outer s H E hr => ?_
  have hu := room65 hr
  exact (vss_cons (vs_ret (ve_call (ok_slots_by (P := P) (w := w) (base := base) T) (hr.mono (by decide)) T.f_slots_by.mg T.f_slots_by.fn.kp T.f_slots_by.bd (pass_takes (takes_of rfl rfl rfl rfl)) (va_cons (ve_var 0) (va_cons (ve_tup (va_cons ve_str va_nil)) va_nil)) (args_len (args_len args_nil)))) (vss_nil))
theorem ok_changes_of (T : Txt K mg) : FnOk P w K mg base (L2.CX P w) 3 T.f_changes_of.a T.f_changes_of.fd ["deal"] (spP ⟨P, w, K⟩ mg 1 g_changes_of) := by
  refine fn_okG (k := 2) (b := b_changes_of) T.f_changes_of.fn sc_changes_of rfl rfl fun cdv A outer s H E hr => ?_
  have hu := room65 hr
  exact (vss_cons (vs_ret (ve_call (ok_slots_by (P := P) (w := w) (base := base) T) (hr.mono (by decide)) T.f_slots_by.mg T.f_slots_by.fn.kp T.f_slots_by.bd (pass_takes (takes_of rfl rfl rfl rfl)) (va_cons (ve_var 0) (va_cons (ve_tup (va_cons ve_str (va_cons ve_str va_nil))) va_nil)) (args_len (args_len args_nil)))) (vss_nil))
theorem ok_writes_of (T : Txt K mg) : FnOk P w K mg base (L2.CX P w) 3 T.f_writes_of.a T.f_writes_of.fd ["deal"] (spP ⟨P, w, K⟩ mg 1 g_writes_of) := by
  refine fn_okG (k := 2) (b := b_writes_of) T.f_writes_of.fn sc_writes_of rfl rfl fun cdv A outer s H E hr => ?_
  have hu := room65 hr
  exact (vss_cons (vs_ret (ve_call (ok_slots_by (P := P) (w := w) (base := base) T) (hr.mono (by decide)) T.f_slots_by.mg T.f_slots_by.fn.kp T.f_slots_by.bd (pass_takes (takes_of rfl rfl rfl rfl)) (va_cons (ve_var 0) (va_cons (ve_tup (va_cons ve_str va_nil)) va_nil)) (args_len (args_len args_nil)))) (vss_nil))
theorem ok_shared (T : Txt K mg) : FnOk P w K mg base (L2.CX P w) 2 T.f_shared.a T.f_shared.fd ["one", "other"] (spP ⟨P, w, K⟩ mg 2 g_shared) := by
  refine fn_okG (k := 1) (b := b_shared) T.f_shared.fn sc_shared rfl rfl fun cdv A outer s H E hr => ?_
  have hu := room65 hr
  exact (vss_cons (vs_ret (ve_callTy call_tupleV rfl T.b_tuple (by decide +kernel) (va_cons (VF.ve (vf_lc (own := [("thing", 2)]) (ts := [2]) rfl sc_shared.nd (blkOk_by rfl) (vi_seq (ve_var 0)) (fun _ _ _ _ _ => (vp_name 2 sc_shared.nd)) (fun _ _ _ _ _ => (vts_one (vt_cmp (cmp_inX hu) (ve_var 2) (ve_var 1) rfl))) (fun _ _ _ _ _ => (ve_var 2)) (by decide))) va_nil))) (vss_nil))
theorem ok_looks_past (T : Txt K mg) : FnOk P w K mg base (L2.CX P w) 4 T.f_looks_past.a T.f_looks_past.fd ["one", "other"] (spP ⟨P, w, K⟩ mg 2 g_looks_past) := by
  refine fn_okG (k := 3) (b := b_looks_past) T.f_looks_past.fn sc_looks_past rfl rfl fun cdv A outer s H E hr => ?_
  have hu := room65 hr
  exact (vss_cons (vs_ret (ve_call (ok_shared (P := P) (w := w) (base := base) T) (hr.mono (by decide)) T.f_shared.mg T.f_shared.fn.kp T.f_shared.bd (pass_takes (takes_of rfl rfl rfl rfl)) (va_cons (ve_call (ok_reads_of (P := P) (w := w) (base := base) T) (hr.mono (by decide)) T.f_reads_of.mg T.f_reads_of.fn.kp T.f_reads_of.bd (pass_takes (takes_of rfl rfl rfl rfl)) (va_cons (ve_var 0) va_nil) (args_len args_nil)) (va_cons (ve_call (ok_changes_of (P := P) (w := w) (base := base) T) (hr.mono (by decide)) T.f_changes_of.mg T.f_changes_of.fn.kp T.f_changes_of.bd (pass_takes (takes_of rfl rfl rfl rfl)) (va_cons (ve_var 1) va_nil) (args_len args_nil)) va_nil)) (args_len (args_len args_nil)))) (vss_nil))
theorem ok_both_write (T : Txt K mg) : FnOk P w K mg base (L2.CX P w) 4 T.f_both_write.a T.f_both_write.fd ["one", "other"] (spP ⟨P, w, K⟩ mg 2 g_both_write) := by
  refine fn_okG (k := 3) (b := b_both_write) T.f_both_write.fn sc_both_write rfl rfl fun cdv A outer s H E hr => ?_
  have hu := room65 hr
  exact (vss_cons (vs_ret (ve_call (ok_shared (P := P) (w := w) (base := base) T) (hr.mono (by decide)) T.f_shared.mg T.f_shared.fn.kp T.f_shared.bd (pass_takes (takes_of rfl rfl rfl rfl)) (va_cons (ve_call (ok_writes_of (P := P) (w := w) (base := base) T) (hr.mono (by decide)) T.f_writes_of.mg T.f_writes_of.fn.kp T.f_writes_of.bd (pass_takes (takes_of rfl rfl rfl rfl)) (va_cons (ve_var 0) va_nil) (args_len args_nil)) (va_cons (ve_call (ok_writes_of (P := P) (w := w) (base := base) T) (hr.mono (by decide)) T.f_writes_of.mg T.f_writes_of.fn.kp T.f_writes_of.bd (pass_takes (takes_of rfl rfl rfl rfl)) (va_cons (ve_var 1) va_nil) (args_len args_nil)) va_nil)) (args_len (args_len args_nil)))) (vss_nil))
theorem ok_members_of (T : Txt K mg) : FnOk P w K mg base (L2.CX P w) 2 T.f_members_of.a T.f_members_of.fd ["lot"] (spP ⟨P, w, K⟩ mg 1 g_members_of) := by
  refine fn_okG (k := 1) (b := b_members_of) T.f_members_of.fn sc_members_of rfl rfl fun cdv A outer s H E hr => ?_
  have hu := room65 hr
  exact (vss_cons (vs_ownP 1 sc_members_of.nd (vf_lst va_nil)) (vss_cons (vs_kill [2, 3, 4] (vs_for (passes_of rfl) rfl (si_plain (vi_enum (va_cons (ve_var 0) va_nil) T.b_enumerate)) (vg_tup rfl (vgs_cons (vg_name 2 sc_members_of.nd) (vgs_cons (vg_name 3 sc_members_of.nd) vgs_nil))) (vss_kill [2, 3, 4] (vss_cons (vs_kill [4] (vs_for (passes_of rfl) rfl (si_plain (vi_range1 (va_cons (ve_callB call_lenV rfl T.b_len PySem.boot_len (va_cons (ve_var 3) va_nil)) va_nil) T.b_range)) (vg_name 4 sc_members_of.nd) (vss_kill [4] (vss_cons (vs_extend 1 (se_plain (VF.ve (vf_lc (own := [("last", 5)]) (ts := [5]) rfl sc_members_of.nd (blkOk_by rfl) (vi_range2 (va_cons (ve_var 4) (va_cons (ve_callB call_lenV rfl T.b_len PySem.boot_len (va_cons (ve_var 3) va_nil)) va_nil)) T.b_range) (fun _ _ _ _ _ => (vp_name 5 sc_members_of.nd)) (fun _ _ _ _ _ => vts_nil) (fun _ _ _ _ _ => (ve_tup (va_cons (ve_var 2) (va_cons (ve_var 4) (va_cons (ve_var 5) va_nil))))) (by decide))))) (vss_nil))))) (vss_nil))))) (vss_cons (vs_ret (ve_callTy call_tupleV rfl T.b_tuple (by decide +kernel) (va_cons (ve_var 1) va_nil))) (vss_nil))))
theorem ok_first_deal (T : Txt K mg) : FnOk P w K mg base (L2.CX P w) 3 T.f_first_deal.a T.f_first_deal.fd ["lot", "member"] (spP ⟨P, w, K⟩ mg 2 g_first_deal) := by
  refine fn_okG (k := 2) (b := b_first_deal) T.f_first_deal.fn sc_first_deal rfl rfl fun cdv A outer s H E hr => ?_
  have hu := room65 hr
  exact (vss_cons (vs_ret (ve_call (ok_deal_at (P := P) (w := w) (base := base) T) (hr.mono (by decide)) T.f_deal_at.mg T.f_deal_at.fn.kp T.f_deal_at.bd (pass_takes (takes_of rfl rfl rfl rfl)) (va_cons (ve_var 0) (va_cons (ve_slice (ve_var 1) vo_none (vo_some ve_int)) va_nil)) (args_len (args_len args_nil)))) (vss_nil))
theorem ok_last_deal (T : Txt K mg) : FnOk P w K mg base (L2.CX P w) 3 T.f_last_deal.a T.f_last_deal.fd ["lot", "member"] (spP ⟨P, w, K⟩ mg 2 g_last_deal) := by
  refine fn_okG (k := 2) (b := b_last_deal) T.f_last_deal.fn sc_last_deal rfl rfl fun cdv A outer s H E hr => ?_
  have hu := room65 hr
  exact (vss_cons (vs_ret (ve_call (ok_deal_at (P := P) (w := w) (base := base) T) (hr.mono (by decide)) T.f_deal_at.mg T.f_deal_at.fn.kp T.f_deal_at.bd (pass_takes (takes_of rfl rfl rfl rfl)) (va_cons (ve_var 0) (va_cons (ve_tup (va_cons (ve_ixX hu (ve_var 1) ve_int) (va_cons (ve_ixX hu (ve_var 1) ve_int) va_nil))) va_nil)) (args_len (args_len args_nil)))) (vss_nil))
theorem ok_cut_words (T : Txt K mg) : FnOk P w K mg base (L2.CX P w) 5 T.f_cut_words.a T.f_cut_words.fd ["lot", "member", "other"] (spP ⟨P, w, K⟩ mg 3 g_cut_words) := by
  refine fn_okG (k := 4) (b := b_cut_words) T.f_cut_words.fn sc_cut_words rfl rfl fun cdv A outer s H E hr => ?_
  have hu := room65 hr
  exact (vss_cons (vs_ownP 3 sc_cut_words.nd (vf_lst va_nil)) (vss_cons (vs_if (st_plain (vt_truth (ve_call (ok_looks_past (P := P) (w := w) (base := base) T) (hr.mono (by decide)) T.f_looks_past.mg T.f_looks_past.fn.kp T.f_looks_past.bd (pass_takes (takes_of rfl rfl rfl rfl)) (va_cons (ve_call (ok_last_deal (P := P) (w := w) (base := base) T) (hr.mono (by decide)) T.f_last_deal.mg T.f_last_deal.fn.kp T.f_last_deal.bd (pass_takes (takes_of rfl rfl rfl rfl)) (va_cons (ve_var 0) (va_cons (ve_var 1) va_nil)) (args_len (args_len args_nil))) (va_cons (ve_call (ok_first_deal (P := P) (w := w) (base := base) T) (hr.mono (by decide)) T.f_first_deal.mg T.f_first_deal.fn.kp T.f_first_deal.bd (pass_takes (takes_of rfl rfl rfl rfl)) (va_cons (ve_var 0) (va_cons (ve_var 2) va_nil)) (args_len (args_len args_nil))) va_nil)) (args_len (args_len args_nil))))) (vss_cons (vs_append 3 (se_plain ve_str)) (vss_nil)) (vss_nil)) (vss_cons (vs_if (st_plain (vt_truth (ve_call (ok_both_write (P := P) (w := w) (base := base) T) (hr.mono (by decide)) T.f_both_write.mg T.f_both_write.fn.kp T.f_both_write.bd (pass_takes (takes_of rfl rfl rfl rfl)) (va_cons (ve_call (ok_last_deal (P := P) (w := w) (base := base) T) (hr.mono (by decide)) T.f_last_deal.mg T.f_last_deal.fn.kp T.f_last_deal.bd (pass_takes (takes_of rfl rfl rfl rfl)) (va_cons (ve_var 0) (va_cons (ve_var 1) va_nil)) (args_len (args_len args_nil))) (va_cons (ve_call (ok_first_deal (P := P) (w := w) (base := base) T) (hr.mono (by decide)) T.f_first_deal.mg T.f_first_deal.fn.kp T.f_first_deal.bd (pass_takes (takes_of rfl rfl rfl rfl)) (va_cons (ve_var 0) (va_cons (ve_var 2) va_nil)) (args_len (args_len args_nil))) va_nil)) (args_len (args_len args_nil))))) (vss_cons (vs_append 3 (se_plain ve_str)) (vss_nil)) (vss_nil)) (vss_cons (vs_ret (ve_callTy call_tupleV rfl T.b_tuple (by decide +kernel) (va_cons (ve_var 3) va_nil))) (vss_nil)))))
theorem ok__law_cells (T : Txt K mg) : FnOk P w K mg base (L2.CX P w) 2 T.f__law_cells.a T.f__law_cells.fd ["script"] (spP ⟨P, w, K⟩ mg 1 g__law_cells) := by
  refine fn_okG (k := 1) (b := b__law_cells) T.f__law_cells.fn sc__law_cells rfl rfl fun cdv A outer s H E hr => ?_
  have hu := room65 hr
  exact (vss_cons (vs_ownP 1 sc__law_cells.nd (vf_lst va_nil)) (vss_cons (vs_kill [2, 4, 5, 6] (vs_for (passes_of rfl) rfl (si_plain (vi_seq (ve_slice (ve_var 0) vo_none (vo_some ve_int)))) (vg_name 2 sc__law_cells.nd) (vss_kill [2, 4, 5, 6] (vss_cons (vs_set 5 sc__law_cells.nd (se_plain (ve_op op_modD (ve_op op_addD (ve_op op_mulD ve_int (ve_callB call_absV rfl T.b_abs (by decide +kernel) (va_cons (ve_var 2) va_nil))) (ve_callTy call_intV rfl T.b_int (by decide +kernel) (va_cons (ve_cmp (cmp_lt hu) (ve_var 2) ve_int (nomark _)) va_nil))) (ve_op op_shlD ve_int ve_int)))) (vss_cons (vs_kill [4, 5, 6] (vs_if (st_plain (vt_cmp (cmp_lt hu) (ve_var 5) (ve_op op_powD ve_int ve_int) (nomark _))) (vss_cons (vs_set 6 sc__law_cells.nd (se_lent (ve_op op_modD (ve_op op_addD (ve_op op_addD (ve_op op_mulD (ve_var 5) ve_int) (ve_op op_mulD ve_int (ve_callB call_lenV rfl T.b_len PySem.boot_len (va_cons (ve_var 1) va_nil)))) ve_int) ve_int))) (vss_cons (vs_append 1 (se_plain (ve_op op_modD (ve_var 6) ve_int))) (vss_cons (vs_set 6 sc__law_cells.nd (se_plain (ve_op op_modD (ve_op op_addD (ve_op op_addD (ve_op op_mulD (ve_var 6) ve_int) (ve_op op_mulD ve_int (ve_var 5))) ve_int) ve_int))) (vss_cons (vs_append 1 (se_plain (ve_op op_modD (ve_op op_fdivD (ve_var 6) ve_int) ve_int))) (vss_nil))))) (vss_cons (vs_kill [4, 5] (vs_for (passes_of rfl) rfl (si_plain (vi_range1 (va_cons ve_int va_nil) T.b_range)) (vg_name 4 sc__law_cells.nd) (vss_kill [4] (vss_cons (vs_if (st_plain (vt_cmp (cmp_gt hu) (ve_var 5) ve_int (nomark _))) (vss_cons (vs_append 1 (se_plain (ve_op op_modD (ve_var 5) ve_int))) (vss_cons (vs_set 5 sc__law_cells.nd (se_plain (ve_op op_fdivD (ve_var 5) ve_int))) (vss_nil))) (vss_nil)) (vss_nil))))) (vss_nil)))) (vss_nil)))))) (vss_cons (vs_set 3 sc__law_cells.nd (se_plain ve_int)) (vss_cons (vs_kill [2] (vs_forOwn 1 (passes_of rfl) rfl (vg_name 2 sc__law_cells.nd) (vss_kill [2] (vss_cons (vs_set 3 sc__law_cells.nd (se_plain (ve_op op_modD (ve_op op_addD (ve_op op_mulD (ve_var 3) ve_int) (ve_var 2)) ve_int))) (vss_nil))))) (vss_cons (vs_kill [3, 4] (vs_for (passes_of rfl) rfl (si_plain (vi_range1 (va_cons ve_int va_nil) T.b_range)) (vg_name 4 sc__law_cells.nd) (vss_kill [4] (vss_cons (vs_set 3 sc__law_cells.nd (se_plain (ve_op op_modD (ve_op op_addD (ve_op op_mulD (ve_var 3) ve_int) ve_int) ve_int))) (vss_cons (vs_append 1 (se_plain (ve_op op_modD (ve_op op_fdivD (ve_var 3) ve_int) ve_int))) (vss_nil)))))) (vss_cons (vs_ret (ve_var 1)) (vss_nil)))))))
theorem ok__law_pick (T : Txt K mg) : FnOk P w K mg base (L2.CX P w) 2 T.f__law_pick.a T.f__law_pick.fd ["cells", "at", "many"] (spP ⟨P, w, K⟩ mg 3 g__law_pick) := by
  refine fn_okG (k := 1) (b := b__law_pick) T.f__law_pick.fn sc__law_pick rfl rfl fun cdv A outer s H E hr => ?_
  have hu := room65 hr
  exact (vss_cons (vs_ret (ve_op op_modD (ve_callTy call_intV rfl T.b_int (by decide +kernel) (va_cons (ve_ixX hu (ve_var 0) (ve_op op_modD (ve_var 1) (ve_callB call_lenV rfl T.b_len PySem.boot_len (va_cons (ve_var 0) va_nil)))) va_nil)) (ve_var 2))) (vss_nil))
theorem ok__law_names (T : Txt K mg) : FnOk P w K mg base (L2.CX P w) 3 T.f__law_names.a T.f__law_names.fd ["cells", "at"] (spP ⟨P, w, K⟩ mg 2 g__law_names) := by
  refine fn_okG (k := 2) (b := b__law_names) T.f__law_names.fn sc__law_names rfl rfl fun cdv A outer s H E hr => ?_
  have hu := room65 hr
  exact (vss_cons (vs_set 2 sc__law_names.nd (se_plain (ve_op op_addD ve_int (ve_call (ok__law_pick (P := P) (w := w) (base := base) T) (hr.mono (by decide)) T.f__law_pick.mg T.f__law_pick.fn.kp T.f__law_pick.bd (pass_takes (takes_of rfl rfl rfl rfl)) (va_cons (ve_var 0) (va_cons (ve_var 1) (va_cons ve_int va_nil))) (args_len (args_len (args_len args_nil))))))) (vss_cons (vs_ownP 3 sc__law_names.nd (vf_lst va_nil)) (vss_cons (vs_kill [4, 7] (vs_for (passes_of rfl) rfl (si_plain (vi_range1 (va_cons ve_int va_nil) T.b_range)) (vg_name 4 sc__law_names.nd) (vss_kill [4, 7] (vss_cons (vs_set 7 sc__law_names.nd (se_plain (ve_ixX hu ve_str (ve_op op_modD (ve_callTy call_intV rfl T.b_int (by decide +kernel) (va_cons (ve_op op_addD (ve_var 4) (ve_call (ok__law_pick (P := P) (w := w) (base := base) T) (hr.mono (by decide)) T.f__law_pick.mg T.f__law_pick.fn.kp T.f__law_pick.bd (pass_takes (takes_of rfl rfl rfl rfl)) (va_cons (ve_var 0) (va_cons (ve_op op_addD (ve_var 1) ve_int) (va_cons ve_int va_nil))) (args_len (args_len (args_len args_nil))))) va_nil)) ve_int)))) (vss_cons (vs_append 3 (se_plain (ve_op op_addD (ve_var 7) (ve_ixX hu (ve_tup (va_cons ve_str (va_cons (ve_callTy call_strV rfl T.b_str (by decide +kernel) (va_cons (ve_var 2) va_nil)) (va_cons (ve_op op_addD ve_str (ve_callTy call_strV rfl T.b_str (by decide +kernel) (va_cons (ve_var 2) va_nil))) (va_cons ve_str va_nil))))) (ve_call (ok__law_pick (P := P) (w := w) (base := base) T) (hr.mono (by decide)) T.f__law_pick.mg T.f__law_pick.fn.kp T.f__law_pick.bd (pass_takes (takes_of rfl rfl rfl rfl)) (va_cons (ve_var 0) (va_cons (ve_op op_addD (ve_op op_addD (ve_var 1) ve_int) (ve_var 4)) (va_cons ve_int va_nil))) (args_len (args_len (args_len args_nil)))))))) (vss_nil)))))) (vss_cons (vs_set 5 sc__law_names.nd (se_plain (VF.ve (vf_lst (va_cons (ve_ixX hu ve_str (ve_call (ok__law_pick (P := P) (w := w) (base := base) T) (hr.mono (by decide)) T.f__law_pick.mg T.f__law_pick.fn.kp T.f__law_pick.bd (pass_takes (takes_of rfl rfl rfl rfl)) (va_cons (ve_var 0) (va_cons (ve_op op_addD (ve_var 1) ve_int) (va_cons ve_int va_nil))) (args_len (args_len (args_len args_nil))))) (va_cons (ve_op op_addD ve_str (ve_callTy call_strV rfl T.b_str (by decide +kernel) (va_cons (ve_var 2) va_nil))) (va_cons ve_str va_nil))))))) (vss_cons (vs_set 6 sc__law_names.nd (se_plain (ve_call (ok__law_pick (P := P) (w := w) (base := base) T) (hr.mono (by decide)) T.f__law_pick.mg T.f__law_pick.fn.kp T.f__law_pick.bd (pass_takes (takes_of rfl rfl rfl rfl)) (va_cons (ve_var 0) (va_cons (ve_op op_addD (ve_var 1) ve_int) (va_cons ve_int va_nil))) (args_len (args_len (args_len args_nil)))))) (vss_cons (vs_ret (ve_tup (va_cons (ve_var 3) (va_cons (ve_op op_addD (ve_slice (ve_var 5) (vo_some (ve_var 6)) vo_none) (ve_slice (ve_var 5) vo_none (vo_some (ve_var 6)))) va_nil)))) (vss_nil)))))))
theorem ok__law_steps (T : Txt K mg) : FnOk P w K mg base (L2.CX P w) 2 T.f__law_steps.a T.f__law_steps.fd ["columns", "rows", "sorts"] (spP ⟨P, w, K⟩ mg 3 g__law_steps) := by
  refine fn_okG (k := 1) (b := b__law_steps) T.f__law_steps.fn sc__law_steps rfl rfl fun cdv A outer s H E hr => ?_
  have hu := room65 hr
  exact (vss_cons (vs_ownP 3 sc__law_steps.nd (vf_lst va_nil)) (vss_cons (vs_kill [4, 5] (vs_for (passes_of rfl) rfl (si_plain (vi_range1 (va_cons (ve_callB call_lenV rfl T.b_len PySem.boot_len (va_cons (ve_var 0) va_nil)) va_nil) T.b_range)) (vg_name 4 sc__law_steps.nd) (vss_kill [4, 5] (vss_cons (vs_kill [5] (vs_for (passes_of rfl) rfl (si_plain (vi_seq (ve_var 1))) (vg_name 5 sc__law_steps.nd) (vss_kill [5] (vss_cons (vs_append 3 (se_plain (ve_tup (va_cons ve_str (va_cons (ve_ixX hu (ve_var 0) (ve_var 4)) (va_cons (ve_var 5) va_nil)))))) (vss_cons (vs_append 3 (se_plain (ve_tup (va_cons (ve_ixX hu (ve_var 2) (ve_var 4)) (va_cons (ve_ixX hu (ve_var 0) (ve_var 4)) (va_cons (ve_var 5) va_nil)))))) (vss_nil)))))) (vss_nil))))) (vss_cons (vs_ret (ve_var 3)) (vss_nil))))
theorem ok__law_deal (T : Txt K mg) : FnOk P w K mg base (L2.CX P w) 3 T.f__law_deal.a T.f__law_deal.fd ["cells", "at", "steps", "most"] (spP ⟨P, w, K⟩ mg 4 g__law_deal) := by
  refine fn_okG (k := 2) (b := b__law_deal) T.f__law_deal.fn sc__law_deal rfl rfl fun cdv A outer s H E hr => ?_
  have hu := room65 hr
  exact (vss_cons (vs_ownP 4 sc__law_deal.nd (vf_lst va_nil)) (vss_cons (vs_kill [5, 6] (vs_for (passes_of rfl) rfl (si_plain (vi_range1 (va_cons (ve_op op_addD ve_int (ve_call (ok__law_pick (P := P) (w := w) (base := base) T) (hr.mono (by decide)) T.f__law_pick.mg T.f__law_pick.fn.kp T.f__law_pick.bd (pass_takes (takes_of rfl rfl rfl rfl)) (va_cons (ve_var 0) (va_cons (ve_var 1) (va_cons (ve_var 3) va_nil))) (args_len (args_len (args_len args_nil))))) va_nil) T.b_range)) (vg_name 5 sc__law_deal.nd) (vss_kill [5, 6] (vss_cons (vs_set 6 sc__law_deal.nd (se_plain (ve_ixX hu (ve_var 2) (ve_call (ok__law_pick (P := P) (w := w) (base := base) T) (hr.mono (by decide)) T.f__law_pick.mg T.f__law_pick.fn.kp T.f__law_pick.bd (pass_takes (takes_of rfl rfl rfl rfl)) (va_cons (ve_var 0) (va_cons (ve_op op_addD (ve_op op_addD (ve_var 1) ve_int) (ve_var 5)) (va_cons (ve_callB call_lenV rfl T.b_len PySem.boot_len (va_cons (ve_var 2) va_nil)) va_nil))) (args_len (args_len (args_len args_nil))))))) (vss_cons (vs_if (st_lent (vt_cmp (cmp_notInX hu) (ve_var 6) (ve_var 4) rfl)) (vss_cons (vs_append 4 (se_plain (ve_var 6))) (vss_nil)) (vss_nil)) (vss_nil)))))) (vss_cons (vs_ret (ve_callTy call_tupleV rfl T.b_tuple (by decide +kernel) (va_cons (ve_callB (call_sortedX rfl hu).v rfl T.b_sorted (by decide +kernel) (va_cons (ve_var 4) va_nil)) va_nil))) (vss_nil))))
theorem ok__law_lot (T : Txt K mg) : FnOk P w K mg base (L2.CX P w) 4 T.f__law_lot.a T.f__law_lot.fd ["cells", "at", "shape", "wide"] (spP ⟨P, w, K⟩ mg 4 g__law_lot) := by
  refine fn_okG (k := 3) (b := b__law_lot) T.f__law_lot.fn sc__law_lot rfl rfl fun cdv A outer s H E hr => ?_
  have hu := room65 hr
  exact (vss_cons (vs_asg (se_plain (ve_call (ok__law_names (P := P) (w := w) (base := base) T) (hr.mono (by decide)) T.f__law_names.mg T.f__law_names.fn.kp T.f__law_names.bd (pass_takes (takes_of rfl rfl rfl rfl)) (va_cons (ve_var 0) (va_cons (ve_var 1) va_nil)) (args_len (args_len args_nil)))) (vg_tup rfl (vgs_cons (vg_name 8 sc__law_lot.nd) (vgs_cons (vg_name 9 sc__law_lot.nd) vgs_nil)))) (vss_cons (VAs.setP (vas_lc 4 (own := [("k", 7)]) (ts := [7]) rfl sc__law_lot.nd (blkOk_by rfl) (vi_range1 (va_cons (ve_var 3) va_nil) T.b_range) (fun _ _ _ _ _ => (vp_name 7 sc__law_lot.nd)) (fun _ _ _ _ _ => vts_nil) (fun _ _ _ _ _ => (ve_ixX hu (ve_tup (va_cons ve_str (va_cons ve_str (va_cons ve_str (va_cons ve_str va_nil))))) (ve_call (ok__law_pick (P := P) (w := w) (base := base) T) (hr.mono (by decide)) T.f__law_pick.mg T.f__law_pick.fn.kp T.f__law_pick.bd pass_none (va_cons (ve_var 0) (va_cons (ve_op op_addD (ve_op op_addD (ve_var 1) ve_int) (ve_var 7)) (va_cons ve_int va_nil))) (args_len (args_len (args_len args_nil)))))) (by decide))) (vss_cons (vs_set 5 sc__law_lot.nd (se_plain (ve_call (ok__law_steps (P := P) (w := w) (base := base) T) (hr.mono (by decide)) T.f__law_steps.mg T.f__law_steps.fn.kp T.f__law_steps.bd (pass_takes (takes_of rfl rfl rfl rfl)) (va_cons (ve_slice (ve_var 8) vo_none (vo_some (ve_var 3))) (va_cons (ve_slice (ve_var 9) vo_none (vo_some (ve_op op_addD ve_int (ve_call (ok__law_pick (P := P) (w := w) (base := base) T) (hr.mono (by decide)) T.f__law_pick.mg T.f__law_pick.fn.kp T.f__law_pick.bd (pass_takes (takes_of rfl rfl rfl rfl)) (va_cons (ve_var 0) (va_cons (ve_op op_addD (ve_var 1) ve_int) (va_cons ve_int va_nil))) (args_len (args_len (args_len args_nil))))))) (va_cons (ve_var 4) va_nil))) (args_len (args_len (args_len args_nil)))))) (vss_cons (vs_ownP 6 sc__law_lot.nd (vf_lst va_nil)) (vss_cons (vs_kill [7, 10, 11] (vs_for (passes_of rfl) rfl (si_plain (vi_range1 (va_cons (ve_callB call_lenV rfl T.b_len PySem.boot_len (va_cons (ve_var 2) va_nil)) va_nil) T.b_range)) (vg_name 7 sc__law_lot.nd) (vss_kill [7, 10, 11] (vss_cons (vs_ownP 10 sc__law_lot.nd (vf_lst va_nil)) (vss_cons (vs_kill [11] (vs_for (passes_of rfl) rfl (si_plain (vi_range1 (va_cons (ve_ixX hu (ve_var 2) (ve_var 7)) va_nil) T.b_range)) (vg_name 11 sc__law_lot.nd) (vss_kill [11] (vss_cons (vs_append 10 (se_plain (ve_call (ok__law_deal (P := P) (w := w) (base := base) T) (hr.mono (by decide)) T.f__law_deal.mg T.f__law_deal.fn.kp T.f__law_deal.bd (pass_takes (takes_of rfl rfl rfl rfl)) (va_cons (ve_var 0) (va_cons (ve_op op_addD (ve_op op_addD (ve_op op_addD (ve_var 1) ve_int) (ve_op op_mulD ve_int (ve_var 7))) (ve_op op_mulD ve_int (ve_var 11))) (va_cons (ve_var 5) (va_cons ve_int va_nil)))) (args_len (args_len (args_len (args_len args_nil))))))) (vss_nil))))) (vss_cons (vs_append 6 (se_lent (ve_callTy call_tupleV rfl T.b_tuple (by decide +kernel) (va_cons (ve_var 10) va_nil)))) (vss_nil))))))) (vss_cons (vs_ret (ve_callTy call_tupleV rfl T.b_tuple (by decide +kernel) (va_cons (ve_var 6) va_nil))) (vss_nil)))))))
theorem ok__law_looks (T : Txt K mg) : FnOk P w K mg base (L2.CX P w) 2 T.f__law_looks.a T.f__law_looks.fd ["one", "other"] (spP ⟨P, w, K⟩ mg 2 g__law_looks) := by
  refine fn_okG (k := 1) (b := b__law_looks) T.f__law_looks.fn sc__law_looks rfl rfl fun cdv A outer s H E hr => ?_
  have hu := room65 hr
  exact (vss_cons (vs_kill [2, 3, 4] (vs_for (passes_of rfl) rfl (si_plain (vi_seq (ve_var 0))) (vg_tup rfl (vgs_cons (vg_name 2 sc__law_looks.nd) (vgs_cons (vg_name 3 sc__law_looks.nd) (vgs_cons (vg_name 4 sc__law_looks.nd) vgs_nil)))) (vss_kill [2, 3, 4] (vss_cons (vs_if (st_plain (VW.vt (vw_and (vt_cmp (cmp_eq hr.units) (ve_var 2) ve_str (nomark _)) (vw_and1 (VW.vt (vw_or (vt_cmp (cmp_inX hu) (ve_tup (va_cons ve_str (va_cons (ve_var 3) (va_cons (ve_var 4) va_nil)))) (ve_var 1) rfl) (vw_or1 (vt_cmp (cmp_inX hu) (ve_tup (va_cons ve_str (va_cons (ve_var 3) (va_cons (ve_var 4) va_nil)))) (ve_var 1) rfl)))))))) (vss_cons (vs_ret ve_bl) (vss_nil)) (vss_nil)) (vss_nil))))) (vss_cons (vs_ret ve_bl) (vss_nil)))
theorem ok__law_both (T : Txt K mg) : FnOk P w K mg base (L2.CX P w) 2 T.f__law_both.a T.f__law_both.fd ["one", "other"] (spP ⟨P, w, K⟩ mg 2 g__law_both) := by
  refine fn_okG (k := 1) (b := b__law_both) T.f__law_both.fn sc__law_both rfl rfl fun cdv A outer s H E hr => ?_
  have hu := room65 hr
  exact (vss_cons (vs_kill [2, 3, 4] (vs_for (passes_of rfl) rfl (si_plain (vi_seq (ve_var 0))) (vg_tup rfl (vgs_cons (vg_name 2 sc__law_both.nd) (vgs_cons (vg_name 3 sc__law_both.nd) (vgs_cons (vg_name 4 sc__law_both.nd) vgs_nil)))) (vss_kill [2, 3, 4] (vss_cons (vs_if (st_plain (VW.vt (vw_and (vt_cmp (cmp_eq hr.units) (ve_var 2) ve_str (nomark _)) (vw_and1 (vt_cmp (cmp_inX hu) (ve_tup (va_cons (ve_var 2) (va_cons (ve_var 3) (va_cons (ve_var 4) va_nil)))) (ve_var 1) rfl))))) (vss_cons (vs_ret ve_bl) (vss_nil)) (vss_nil)) (vss_nil))))) (vss_cons (vs_ret ve_bl) (vss_nil)))
theorem ok__law_meets (T : Txt K mg) : FnOk P w K mg base (L2.CX P w) 3 T.f__law_meets.a T.f__law_meets.fd ["one", "other"] (spP ⟨P, w, K⟩ mg 2 g__law_meets) := by
  refine fn_okG (k := 2) (b := b__law_meets) T.f__law_meets.fn sc__law_meets rfl rfl fun cdv A outer s H E hr => ?_
  have hu := room65 hr
  exact (vss_cons (vs_ret (ve_or (ve_call (ok__law_looks (P := P) (w := w) (base := base) T) (hr.mono (by decide)) T.f__law_looks.mg T.f__law_looks.fn.kp T.f__law_looks.bd (pass_takes (takes_of rfl rfl rfl rfl)) (va_cons (ve_var 0) (va_cons (ve_var 1) va_nil)) (args_len (args_len args_nil))) (ve_or (ve_call (ok__law_looks (P := P) (w := w) (base := base) T) (hr.mono (by decide)) T.f__law_looks.mg T.f__law_looks.fn.kp T.f__law_looks.bd (pass_takes (takes_of rfl rfl rfl rfl)) (va_cons (ve_var 1) (va_cons (ve_var 0) va_nil)) (args_len (args_len args_nil))) (ve_one (ve_call (ok__law_both (P := P) (w := w) (base := base) T) (hr.mono (by decide)) T.f__law_both.mg T.f__law_both.fn.kp T.f__law_both.bd (pass_takes (takes_of rfl rfl rfl rfl)) (va_cons (ve_var 0) (va_cons (ve_var 1) va_nil)) (args_len (args_len args_nil))))))) (vss_nil))
theorem ok__law_members (T : Txt K mg) : FnOk P w K mg base (L2.CX P w) 2 T.f__law_members.a T.f__law_members.fd ["lot"] (spP ⟨P, w, K⟩ mg 1 g__law_members) := by
  refine fn_okG (k := 1) (b := b__law_members) T.f__law_members.fn sc__law_members rfl rfl fun cdv A outer s H E hr => ?_
  have hu := room65 hr
  exact (vss_cons (vs_ownP 1 sc__law_members.nd (vf_lst va_nil)) (vss_cons (vs_kill [2, 3, 4] (vs_for (passes_of rfl) rfl (si_plain (vi_range1 (va_cons (ve_callB call_lenV rfl T.b_len PySem.boot_len (va_cons (ve_var 0) va_nil)) va_nil) T.b_range)) (vg_name 2 sc__law_members.nd) (vss_kill [2, 3, 4] (vss_cons (vs_kill [3, 4] (vs_for (passes_of rfl) rfl (si_plain (vi_range1 (va_cons (ve_callB call_lenV rfl T.b_len PySem.boot_len (va_cons (ve_ixX hu (ve_var 0) (ve_var 2)) va_nil)) va_nil) T.b_range)) (vg_name 3 sc__law_members.nd) (vss_kill [3, 4] (vss_cons (vs_kill [4] (vs_for (passes_of rfl) rfl (si_plain (vi_range2 (va_cons (ve_var 3) (va_cons (ve_callB call_lenV rfl T.b_len PySem.boot_len (va_cons (ve_ixX hu (ve_var 0) (ve_var 2)) va_nil)) va_nil)) T.b_range)) (vg_name 4 sc__law_members.nd) (vss_kill [4] (vss_cons (vs_append 1 (se_plain (ve_tup (va_cons (ve_var 2) (va_cons (ve_var 3) (va_cons (ve_var 4) va_nil)))))) (vss_nil))))) (vss_nil))))) (vss_nil))))) (vss_cons (vs_ret (ve_var 1)) (vss_nil))))
theorem ok__law_cut (T : Txt K mg) : FnOk P w K mg base (L2.CX P w) 3 T.f__law_cut.a T.f__law_cut.fd ["lot", "one", "other"] (spP ⟨P, w, K⟩ mg 3 g__law_cut) := by
  refine fn_okG (k := 2) (b := b__law_cut) T.f__law_cut.fn sc__law_cut rfl rfl fun cdv A outer s H E hr => ?_
  have hu := room65 hr
  exact (vss_cons (vs_set 3 sc__law_cut.nd (se_plain (ve_ixX hu (ve_ixX hu (ve_var 0) (ve_ixX hu (ve_var 1) ve_int)) (ve_ixX hu (ve_var 1) ve_int)))) (vss_cons (vs_set 4 sc__law_cut.nd (se_plain (ve_ixX hu (ve_ixX hu (ve_var 0) (ve_ixX hu (ve_var 2) ve_int)) (ve_ixX hu (ve_var 2) ve_int)))) (vss_cons (vs_ret (ve_tup (va_cons (ve_call (ok__law_looks (P := P) (w := w) (base := base) T) (hr.mono (by decide)) T.f__law_looks.mg T.f__law_looks.fn.kp T.f__law_looks.bd (pass_takes (takes_of rfl rfl rfl rfl)) (va_cons (ve_var 3) (va_cons (ve_var 4) va_nil)) (args_len (args_len args_nil))) (va_cons (ve_call (ok__law_both (P := P) (w := w) (base := base) T) (hr.mono (by decide)) T.f__law_both.mg T.f__law_both.fn.kp T.f__law_both.bd (pass_takes (takes_of rfl rfl rfl rfl)) (va_cons (ve_var 3) (va_cons (ve_var 4) va_nil)) (args_len (args_len args_nil))) va_nil)))) (vss_nil))))
theorem ok__law_same (T : Txt K mg) : FnOk P w K mg base (L2.CX P w) 2 T.f__law_same.a T.f__law_same.fd ["told", "due"] (spP ⟨P, w, K⟩ mg 2 g__law_same) := by
  refine fn_okG (k := 1) (b := b__law_same) T.f__law_same.fn sc__law_same rfl rfl fun cdv A outer s H E hr => ?_
  have hu := room65 hr
  exact (vss_cons (vs_ownP 2 sc__law_same.nd (vf_lst (va_cons (ve_tup (va_cons (ve_var 0) (va_cons (ve_var 1) va_nil))) va_nil))) (vss_cons (vs_kill [3, 4, 5] (vs_while (passes_of rfl) (st_lent (vt_cmp (cmp_gt hu) (ve_callB call_lenV rfl T.b_len PySem.boot_len (va_cons (ve_var 2) va_nil)) ve_int (nomark _))) (vss_kill [3, 4, 5] (vss_cons (vs_pop 2 (vg_tup rfl (vgs_cons (vg_name 3 sc__law_same.nd) (vgs_cons (vg_name 4 sc__law_same.nd) vgs_nil)))) (vss_cons (vs_kill [5] (vs_if (st_plain (vt_truth (ve_isi2 (T := "tuple") (U := "list") rfl T.b_isinstance rfl T.b_tuple rfl T.b_list (by decide +kernel) (by decide +kernel) (by decide +kernel) (by decide +kernel) (ve_var 4)))) (vss_cons (vs_if (st_plain (VW.vt (vw_or (vt_cmp (cmp_ne hr.units) (ve_isi (T := "tuple") rfl T.b_isinstance rfl T.b_tuple (by decide +kernel) (by decide +kernel) (ve_var 4)) (ve_isi (T := "tuple") rfl T.b_isinstance rfl T.b_tuple (by decide +kernel) (by decide +kernel) (ve_var 3)) (nomark _)) (vw_or (vt_cmp (cmp_ne hr.units) (ve_isi (T := "list") rfl T.b_isinstance rfl T.b_list (by decide +kernel) (by decide +kernel) (ve_var 4)) (ve_isi (T := "list") rfl T.b_isinstance rfl T.b_list (by decide +kernel) (by decide +kernel) (ve_var 3)) (nomark _)) (vw_or1 (vt_cmp (cmp_ne hr.units) (ve_callB call_lenV rfl T.b_len PySem.boot_len (va_cons (ve_var 3) va_nil)) (ve_callB call_lenV rfl T.b_len PySem.boot_len (va_cons (ve_var 4) va_nil)) (nomark _))))))) (vss_cons (vs_ret ve_bl) (vss_nil)) (vss_nil)) (vss_cons (vs_kill [5] (vs_for (passes_of rfl) rfl (si_plain (vi_range1 (va_cons (ve_callB call_lenV rfl T.b_len PySem.boot_len (va_cons (ve_var 4) va_nil)) va_nil) T.b_range)) (vg_name 5 sc__law_same.nd) (vss_kill [5] (vss_cons (vs_append 2 (se_plain (ve_tup (va_cons (ve_ixX hu (ve_var 3) (ve_var 5)) (va_cons (ve_ixX hu (ve_var 4) (ve_var 5)) va_nil))))) (vss_nil))))) (vss_nil))) (vss_cons (vs_if (st_plain (vt_cmp cmp_is (ve_var 4) ve_non (nomark _))) (vss_cons (vs_if (st_plain (vt_cmp cmp_isNot (ve_var 3) ve_non (nomark _))) (vss_cons (vs_ret ve_bl) (vss_nil)) (vss_nil)) (vss_nil)) (vss_cons (vs_if (st_plain (vt_truth (ve_isi (T := "bool") rfl T.b_isinstance rfl T.b_bool (by decide +kernel) (by decide +kernel) (ve_var 4)))) (vss_cons (vs_if (st_plain (VW.vt (vw_or (vt_not (vt_truth (ve_isi (T := "bool") rfl T.b_isinstance rfl T.b_bool (by decide +kernel) (by decide +kernel) (ve_var 3)))) (vw_or1 (vt_cmp (cmp_ne hr.units) (ve_var 3) (ve_var 4) (nomark _)))))) (vss_cons (vs_ret ve_bl) (vss_nil)) (vss_nil)) (vss_nil)) (vss_cons (vs_if (st_plain (vt_truth (ve_isi (T := "str") rfl T.b_isinstance rfl T.b_str (by decide +kernel) (by decide +kernel) (ve_var 4)))) (vss_cons (vs_if (st_plain (VW.vt (vw_or (vt_not (vt_truth (ve_isi (T := "str") rfl T.b_isinstance rfl T.b_str (by decide +kernel) (by decide +kernel) (ve_var 3)))) (vw_or1 (vt_cmp (cmp_ne hr.units) (ve_var 3) (ve_var 4) (nomark _)))))) (vss_cons (vs_ret ve_bl) (vss_nil)) (vss_nil)) (vss_nil)) (vss_cons (vs_if (st_plain (VW.vt (vw_or (vt_truth (ve_isi (T := "bool") rfl T.b_isinstance rfl T.b_bool (by decide +kernel) (by decide +kernel) (ve_var 3))) (vw_or (vt_not (vt_truth (ve_isi (T := "int") rfl T.b_isinstance rfl T.b_int (by decide +kernel) (by decide +kernel) (ve_var 3)))) (vw_or1 (vt_cmp (cmp_ne hr.units) (ve_var 3) (ve_var 4) (nomark _))))))) (vss_cons (vs_ret ve_bl) (vss_nil)) (vss_nil)) (vss_nil))) (vss_nil))) (vss_nil))) (vss_nil)))) (vss_nil)))))) (vss_cons (vs_ret ve_bl) (vss_nil))))
theorem ok__law_words (T : Txt K mg) : FnOk P w K mg base (L2.CX P w) 4 T.f__law_words.a T.f__law_words.fd ["lot", "one", "other"] (spP ⟨P, w, K⟩ mg 3 g__law_words) := by
  refine fn_okG (k := 3) (b := b__law_words) T.f__law_words.fn sc__law_words rfl rfl fun cdv A outer s H E hr => ?_
  have hu := room65 hr
  exact (vss_cons (vs_asg (se_plain (ve_call (ok__law_cut (P := P) (w := w) (base := base) T) (hr.mono (by decide)) T.f__law_cut.mg T.f__law_cut.fn.kp T.f__law_cut.bd (pass_takes (takes_of rfl rfl rfl rfl)) (va_cons (ve_var 0) (va_cons (ve_var 1) (va_cons (ve_var 2) va_nil))) (args_len (args_len (args_len args_nil))))) (vg_tup rfl (vgs_cons (vg_name 3 sc__law_words.nd) (vgs_cons (vg_name 4 sc__law_words.nd) vgs_nil)))) (vss_cons (vs_ret (ve_op op_addD (ve_op op_mulD (ve_tup (va_cons ve_str va_nil)) (ve_callTy call_intV rfl T.b_int (by decide +kernel) (va_cons (ve_var 3) va_nil))) (ve_op op_mulD (ve_tup (va_cons ve_str va_nil)) (ve_callTy call_intV rfl T.b_int (by decide +kernel) (va_cons (ve_var 4) va_nil))))) (vss_nil)))
theorem ok__law_asked (T : Txt K mg) : FnOk P w K mg base (L2.CX P w) 6 T.f__law_asked.a T.f__law_asked.fd ["cells", "at", "lot", "most"] (spP ⟨P, w, K⟩ mg 4 g__law_asked) := by
  refine fn_okG (k := 5) (b := b__law_asked) T.f__law_asked.fn sc__law_asked rfl rfl fun cdv A outer s H E hr => ?_
  have hu := room65 hr
  exact (vss_cons (vs_set 4 sc__law_asked.nd (se_plain (ve_call (ok__law_members (P := P) (w := w) (base := base) T) (hr.mono (by decide)) T.f__law_members.mg T.f__law_members.fn.kp T.f__law_members.bd (pass_takes (takes_of rfl rfl rfl rfl)) (va_cons (ve_var 2) va_nil) (args_len args_nil)))) (vss_cons (vs_if (st_plain (vt_not (vt_truth (ve_call (ok__law_same (P := P) (w := w) (base := base) T) (hr.mono (by decide)) T.f__law_same.mg T.f__law_same.fn.kp T.f__law_same.bd (pass_takes (takes_of rfl rfl rfl rfl)) (va_cons (ve_call (ok_members_of (P := P) (w := w) (base := base) T) (hr.mono (by decide)) T.f_members_of.mg T.f_members_of.fn.kp T.f_members_of.bd (pass_takes (takes_of rfl rfl rfl rfl)) (va_cons (ve_var 2) va_nil) (args_len args_nil)) (va_cons (ve_callTy call_tupleV rfl T.b_tuple (by decide +kernel) (va_cons (ve_var 4) va_nil)) va_nil)) (args_len (args_len args_nil)))))) (vss_cons (vs_ret ve_bl) (vss_nil)) (vss_nil)) (vss_cons (vs_set 5 sc__law_asked.nd (se_plain (VF.ve (vf_lst va_nil)))) (vss_cons (vs_kill [6] (vs_for (passes_of rfl) rfl (si_plain (vi_seq (ve_var 4))) (vg_name 6 sc__law_asked.nd) (vss_kill [6] (vss_cons (vs_set 5 sc__law_asked.nd (se_plain (ve_op op_addD (ve_var 5) (VF.ve (vf_lc (own := [("other", 9)]) (ts := [9]) rfl sc__law_asked.nd (blkOk_by rfl) (vi_seq (ve_var 4)) (fun _ _ _ _ _ => (vp_name 9 sc__law_asked.nd)) (fun _ _ _ _ _ => (vts_one (vt_cmp (cmp_ne hr.units) (ve_ixX hu (ve_var 6) ve_int) (ve_ixX hu (ve_var 9) ve_int) (nomark _)))) (fun _ _ _ _ _ => (ve_tup (va_cons (ve_var 6) (va_cons (ve_var 9) va_nil)))) (by decide)))))) (vss_nil))))) (vss_cons (vs_set 7 sc__law_asked.nd (se_plain (ve_call (ok__law_pick (P := P) (w := w) (base := base) T) (hr.mono (by decide)) T.f__law_pick.mg T.f__law_pick.fn.kp T.f__law_pick.bd (pass_takes (takes_of rfl rfl rfl rfl)) (va_cons (ve_var 0) (va_cons (ve_var 1) (va_cons ve_int va_nil))) (args_len (args_len (args_len args_nil)))))) (vss_cons (vs_kill [6, 8, 9] (vs_for (passes_of rfl) rfl (si_plain (vi_range1 (va_cons (ve_callB (call_minV rfl) rfl T.b_min (by decide +kernel) (va_cons (ve_var 3) (va_cons (ve_callB call_lenV rfl T.b_len PySem.boot_len (va_cons (ve_var 5) va_nil)) va_nil))) va_nil) T.b_range)) (vg_name 8 sc__law_asked.nd) (vss_kill [6, 8, 9] (vss_cons (vs_asg (se_plain (ve_ixX hu (ve_var 5) (ve_op op_modD (ve_callTy call_intV rfl T.b_int (by decide +kernel) (va_cons (ve_op op_addD (ve_var 7) (ve_var 8)) va_nil)) (ve_callB call_lenV rfl T.b_len PySem.boot_len (va_cons (ve_var 5) va_nil))))) (vg_tup rfl (vgs_cons (vg_name 6 sc__law_asked.nd) (vgs_cons (vg_name 9 sc__law_asked.nd) vgs_nil)))) (vss_cons (vs_if (st_plain (vt_not (vt_truth (ve_call (ok__law_same (P := P) (w := w) (base := base) T) (hr.mono (by decide)) T.f__law_same.mg T.f__law_same.fn.kp T.f__law_same.bd (pass_takes (takes_of rfl rfl rfl rfl)) (va_cons (ve_call (ok_cut_words (P := P) (w := w) (base := base) T) (hr.mono (by decide)) T.f_cut_words.mg T.f_cut_words.fn.kp T.f_cut_words.bd (pass_takes (takes_of rfl rfl rfl rfl)) (va_cons (ve_var 2) (va_cons (ve_var 6) (va_cons (ve_var 9) va_nil))) (args_len (args_len (args_len args_nil)))) (va_cons (ve_call (ok__law_words (P := P) (w := w) (base := base) T) (hr.mono (by decide)) T.f__law_words.mg T.f__law_words.fn.kp T.f__law_words.bd (pass_takes (takes_of rfl rfl rfl rfl)) (va_cons (ve_var 2) (va_cons (ve_var 6) (va_cons (ve_var 9) va_nil))) (args_len (args_len (args_len args_nil)))) va_nil)) (args_len (args_len args_nil)))))) (vss_cons (vs_ret ve_bl) (vss_nil)) (vss_nil)) (vss_nil)))))) (vss_cons (vs_ret ve_bl) (vss_nil))))))))
theorem ok__law_hand (T : Txt K mg) : FnOk P w K mg base (L2.CX P w) 6 T.f__law_hand.a T.f__law_hand.fd ["cells"] (spP ⟨P, w, K⟩ mg 1 g__law_hand) := by
  refine fn_okG (k := 5) (b := b__law_hand) T.f__law_hand.fn sc__law_hand rfl rfl fun cdv A outer s H E hr => ?_
  have hu := room65 hr
  exact (vss_cons (vs_asg (se_plain (ve_call (ok__law_names (P := P) (w := w) (base := base) T) (hr.mono (by decide)) T.f__law_names.mg T.f__law_names.fn.kp T.f__law_names.bd (pass_takes (takes_of rfl rfl rfl rfl)) (va_cons (ve_var 0) (va_cons ve_int va_nil)) (args_len (args_len args_nil)))) (vg_tup rfl (vgs_cons (vg_name 4 sc__law_hand.nd) (vgs_cons (vg_name 5 sc__law_hand.nd) vgs_nil)))) (vss_cons (vs_asg (se_plain (ve_var 4)) (vg_tup rfl (vgs_cons (vg_name 6 sc__law_hand.nd) (vgs_cons (vg_name 7 sc__law_hand.nd) (vgs_cons (vg_name 8 sc__law_hand.nd) (vgs_cons (vg_name 9 sc__law_hand.nd) vgs_nil)))))) (vss_cons (vs_asg (se_plain (ve_slice (ve_var 5) vo_none (vo_some ve_int))) (vg_tup rfl (vgs_cons (vg_name 10 sc__law_hand.nd) (vgs_cons (vg_name 11 sc__law_hand.nd) vgs_nil)))) (vss_cons (vs_set 1 sc__law_hand.nd (se_plain (ve_callTy call_tupleV rfl T.b_tuple (by decide +kernel) (va_cons (ve_callB (call_sortedX rfl hu).v rfl T.b_sorted (by decide +kernel) (va_cons (VF.ve (vf_lst (va_cons (ve_tup (va_cons ve_str (va_cons (ve_var 6) (va_cons (ve_var 10) va_nil)))) (va_cons (ve_tup (va_cons ve_str (va_cons (ve_var 9) (va_cons (ve_var 10) va_nil)))) (va_cons (ve_tup (va_cons ve_str (va_cons (ve_var 7) (va_cons (ve_var 10) va_nil)))) (va_cons (ve_tup (va_cons ve_str (va_cons (ve_var 8) (va_cons (ve_var 10) va_nil)))) va_nil)))))) va_nil)) va_nil)))) (vss_cons (vs_set 2 sc__law_hand.nd (se_plain (VF.ve (vf_lst (va_cons (ve_tup (va_cons (ve_tup (va_cons (ve_tup (va_cons ve_str (va_cons (ve_var 6) (va_cons (ve_var 10) va_nil)))) va_nil)) (va_cons (ve_tup (va_cons ve_str va_nil)) (va_cons (ve_tup va_nil) va_nil)))) (va_cons (ve_tup (va_cons (ve_tup (va_cons (ve_tup (va_cons ve_str (va_cons (ve_var 7) (va_cons (ve_var 10) va_nil)))) va_nil)) (va_cons (ve_tup (va_cons ve_str va_nil)) (va_cons (ve_tup (va_cons ve_str va_nil)) va_nil)))) (va_cons (ve_tup (va_cons (ve_callTy call_tupleV rfl T.b_tuple (by decide +kernel) (va_cons (ve_callB (call_sortedX rfl hu).v rfl T.b_sorted (by decide +kernel) (va_cons (VF.ve (vf_lst (va_cons (ve_tup (va_cons ve_str (va_cons (ve_var 6) (va_cons (ve_var 10) va_nil)))) (va_cons (ve_tup (va_cons ve_str (va_cons (ve_var 7) (va_cons (ve_var 10) va_nil)))) va_nil)))) va_nil)) va_nil)) (va_cons (ve_tup (va_cons ve_str (va_cons ve_str va_nil))) (va_cons (ve_tup (va_cons ve_str va_nil)) va_nil)))) va_nil))))))) (vss_cons (vs_set 2 sc__law_hand.nd (se_plain (ve_op op_addD (ve_var 2) (VF.ve (vf_lst (va_cons (ve_tup (va_cons (ve_callTy call_tupleV rfl T.b_tuple (by decide +kernel) (va_cons (ve_callB (call_sortedX rfl hu).v rfl T.b_sorted (by decide +kernel) (va_cons (VF.ve (vf_lst (va_cons (ve_tup (va_cons ve_str (va_cons (ve_var 6) (va_cons (ve_var 11) va_nil)))) (va_cons (ve_tup (va_cons ve_str (va_cons (ve_var 7) (va_cons (ve_var 11) va_nil)))) (va_cons (ve_tup (va_cons ve_str (va_cons (ve_var 6) (va_cons (ve_var 10) va_nil)))) (va_cons (ve_tup (va_cons ve_str (va_cons (ve_var 8) (va_cons (ve_var 10) va_nil)))) va_nil)))))) va_nil)) va_nil)) (va_cons (ve_tup va_nil) (va_cons (ve_tup va_nil) va_nil)))) (va_cons (ve_tup (va_cons (ve_tup (va_cons (ve_tup (va_cons ve_str (va_cons (ve_var 8) (va_cons (ve_var 10) va_nil)))) va_nil)) (va_cons (ve_tup va_nil) (va_cons (ve_tup (va_cons ve_str va_nil)) va_nil)))) va_nil))))))) (vss_cons (vs_set 2 sc__law_hand.nd (se_plain (ve_op op_addD (ve_var 2) (VF.ve (vf_lst (va_cons (ve_tup (va_cons (ve_callTy call_tupleV rfl T.b_tuple (by decide +kernel) (va_cons (ve_callB (call_sortedX rfl hu).v rfl T.b_sorted (by decide +kernel) (va_cons (VF.ve (vf_lst (va_cons (ve_tup (va_cons ve_str (va_cons (ve_var 7) (va_cons (ve_var 10) va_nil)))) (va_cons (ve_tup (va_cons ve_str (va_cons (ve_var 7) (va_cons (ve_var 10) va_nil)))) va_nil)))) va_nil)) va_nil)) (va_cons (ve_tup (va_cons ve_str va_nil)) (va_cons (ve_tup (va_cons ve_str (va_cons ve_str va_nil))) va_nil)))) (va_cons (ve_tup (va_cons (ve_tup (va_cons (ve_tup (va_cons ve_str (va_cons (ve_var 9) (va_cons (ve_var 10) va_nil)))) va_nil)) (va_cons (ve_tup (va_cons ve_str va_nil)) (va_cons (ve_tup va_nil) va_nil)))) va_nil))))))) (vss_cons (vs_kill [3, 13, 14, 15] (vs_for (passes_of rfl) rfl (si_plain (vi_range1 (va_cons (ve_callB call_lenV rfl T.b_len PySem.boot_len (va_cons (ve_var 2) va_nil)) va_nil) T.b_range)) (vg_name 3 sc__law_hand.nd) (vss_kill [3, 13, 14, 15] (vss_cons (vs_asg (se_plain (ve_ixX hu (ve_var 2) (ve_var 3))) (vg_tup rfl (vgs_cons (vg_name 13 sc__law_hand.nd) (vgs_cons (vg_name 14 sc__law_hand.nd) (vgs_cons (vg_name 15 sc__law_hand.nd) vgs_nil))))) (vss_cons (vs_set 12 sc__law_hand.nd (se_plain (ve_tup (va_cons (ve_tup (va_cons (ve_var 1) va_nil)) (va_cons (ve_tup (va_cons (ve_tup (va_cons (ve_tup (va_cons ve_str (va_cons (ve_var 9) (va_cons (ve_var 11) va_nil)))) va_nil)) (va_cons (ve_var 13) va_nil))) va_nil))))) (vss_cons (vs_if (st_plain (VW.vt (vw_or (vt_not (vt_truth (ve_call (ok__law_same (P := P) (w := w) (base := base) T) (hr.mono (by decide)) T.f__law_same.mg T.f__law_same.fn.kp T.f__law_same.bd (pass_takes (takes_of rfl rfl rfl rfl)) (va_cons (ve_call (ok_cut_words (P := P) (w := w) (base := base) T) (hr.mono (by decide)) T.f_cut_words.mg T.f_cut_words.fn.kp T.f_cut_words.bd (pass_takes (takes_of rfl rfl rfl rfl)) (va_cons (ve_var 12) (va_cons (ve_tup (va_cons ve_int (va_cons ve_int (va_cons ve_int va_nil)))) (va_cons (ve_tup (va_cons ve_int (va_cons ve_int (va_cons ve_int va_nil)))) va_nil))) (args_len (args_len (args_len args_nil)))) (va_cons (ve_var 14) va_nil)) (args_len (args_len args_nil))))) (vw_or1 (vt_not (vt_truth (ve_call (ok__law_same (P := P) (w := w) (base := base) T) (hr.mono (by decide)) T.f__law_same.mg T.f__law_same.fn.kp T.f__law_same.bd (pass_takes (takes_of rfl rfl rfl rfl)) (va_cons (ve_callK0 (ok_cut_words (P := P) (w := w) (base := base) T) (hr.mono (by decide)) T.f_cut_words.mg T.f_cut_words.fn.kp (kbn_of (n := 0) (ks := ["member", "lot", "other"]) (ord := [1, 0, 2]) T.f_cut_words.fn (fun _ _ _ _ _ _ us ws l1 l2 => match us, ws, l1, l2 with | [], [_, _, _], _, _ => rfl)) (pass_takes (takes_of rfl rfl rfl rfl)) (vk_cons (ve_tup (va_cons ve_int (va_cons ve_int (va_cons ve_int va_nil)))) (vk_cons (ve_var 12) (vk_cons (ve_tup (va_cons ve_int (va_cons ve_int (va_cons ve_int va_nil)))) vk_nil))) (fun l hl => match l, hl with | [_, _, _], _ => rfl)) (va_cons (ve_var 15) va_nil)) (args_len (args_len args_nil))))))))) (vss_cons (vs_ret ve_bl) (vss_nil)) (vss_nil)) (vss_cons (vs_if (st_plain (VW.vt (vw_or (vt_not (vt_truth (ve_call (ok__law_same (P := P) (w := w) (base := base) T) (hr.mono (by decide)) T.f__law_same.mg T.f__law_same.fn.kp T.f__law_same.bd (pass_takes (takes_of rfl rfl rfl rfl)) (va_cons (ve_call (ok_cut_words (P := P) (w := w) (base := base) T) (hr.mono (by decide)) T.f_cut_words.mg T.f_cut_words.fn.kp T.f_cut_words.bd (pass_takes (takes_of rfl rfl rfl rfl)) (va_cons (ve_var 12) (va_cons (ve_tup (va_cons ve_int (va_cons ve_int (va_cons ve_int va_nil)))) (va_cons (ve_tup (va_cons ve_int (va_cons ve_int (va_cons ve_int va_nil)))) va_nil))) (args_len (args_len (args_len args_nil)))) (va_cons (ve_var 15) va_nil)) (args_len (args_len args_nil))))) (vw_or1 (vt_not (vt_truth (ve_call (ok__law_same (P := P) (w := w) (base := base) T) (hr.mono (by decide)) T.f__law_same.mg T.f__law_same.fn.kp T.f__law_same.bd (pass_takes (takes_of rfl rfl rfl rfl)) (va_cons (ve_call (ok_cut_words (P := P) (w := w) (base := base) T) (hr.mono (by decide)) T.f_cut_words.mg T.f_cut_words.fn.kp T.f_cut_words.bd (pass_takes (takes_of rfl rfl rfl rfl)) (va_cons (ve_var 12) (va_cons (ve_tup (va_cons ve_int (va_cons ve_int (va_cons ve_int va_nil)))) (va_cons (ve_tup (va_cons ve_int (va_cons ve_int (va_cons ve_int va_nil)))) va_nil))) (args_len (args_len (args_len args_nil)))) (va_cons (ve_tup va_nil) va_nil)) (args_len (args_len args_nil))))))))) (vss_cons (vs_ret ve_bl) (vss_nil)) (vss_nil)) (vss_nil)))))))) (vss_cons (vs_ret (ve_call (ok__law_same (P := P) (w := w) (base := base) T) (hr.mono (by decide)) T.f__law_same.mg T.f__law_same.fn.kp T.f__law_same.bd (pass_takes (takes_of rfl rfl rfl rfl)) (va_cons (ve_callK0 (ok_members_of (P := P) (w := w) (base := base) T) (hr.mono (by decide)) T.f_members_of.mg T.f_members_of.fn.kp (kbn_of (n := 0) (ks := ["lot"]) (ord := [0]) T.f_members_of.fn (fun _ _ _ _ _ _ us ws l1 l2 => match us, ws, l1, l2 with | [], [_], _, _ => rfl)) (pass_takes (takes_of rfl rfl rfl rfl)) (vk_cons (ve_var 12) vk_nil) (fun l hl => match l, hl with | [_], _ => rfl)) (va_cons (ve_tup (va_cons (ve_tup (va_cons ve_int (va_cons ve_int (va_cons ve_int va_nil)))) (va_cons (ve_tup (va_cons ve_int (va_cons ve_int (va_cons ve_int va_nil)))) (va_cons (ve_tup (va_cons ve_int (va_cons ve_int (va_cons ve_int va_nil)))) (va_cons (ve_tup (va_cons ve_int (va_cons ve_int (va_cons ve_int va_nil)))) va_nil))))) va_nil)) (args_len (args_len args_nil)))) (vss_nil))))))))))
theorem ok_law (T : Txt K mg) : FnOk P w K mg base (L2.CX P w) 7 T.f_law.a T.f_law.fd ["script"] (spP ⟨P, w, K⟩ mg 1 g_law) := by
  refine fn_okG (k := 6) (b := b_law) T.f_law.fn sc_law rfl rfl fun cdv A outer s H E hr => ?_
  have hu := room65 hr
  exact (vss_cons (vs_set 1 sc_law.nd (se_plain (ve_call (ok__law_cells (P := P) (w := w) (base := base) T) (hr.mono (by decide)) T.f__law_cells.mg T.f__law_cells.fn.kp T.f__law_cells.bd (pass_takes (takes_of rfl rfl rfl rfl)) (va_cons (ve_var 0) va_nil) (args_len args_nil)))) (vss_cons (vs_if (st_plain (vt_not (vt_truth (ve_call (ok__law_hand (P := P) (w := w) (base := base) T) (hr.mono (by decide)) T.f__law_hand.mg T.f__law_hand.fn.kp T.f__law_hand.bd (pass_takes (takes_of rfl rfl rfl rfl)) (va_cons (ve_var 1) va_nil) (args_len args_nil))))) (vss_cons (vs_ret ve_bl) (vss_nil)) (vss_nil)) (vss_cons (vs_kill [2, 3] (vs_for (passes_of rfl) rfl (si_plain (vi_range1 (va_cons ve_int va_nil) T.b_range)) (vg_name 2 sc_law.nd) (vss_kill [2, 3] (vss_cons (vs_set 3 sc_law.nd (se_plain (ve_ixX hu (ve_tup (va_cons (ve_tup (va_cons ve_int (va_cons ve_int va_nil))) (va_cons (ve_tup (va_cons ve_int (va_cons ve_int va_nil))) (va_cons (ve_tup (va_cons ve_int (va_cons ve_int (va_cons ve_int va_nil)))) (va_cons (ve_tup (va_cons ve_int (va_cons ve_int va_nil))) (va_cons (ve_tup (va_cons ve_int (va_cons ve_int (va_cons ve_int va_nil)))) (va_cons (ve_tup (va_cons ve_int (va_cons ve_int (va_cons ve_int (va_cons ve_int va_nil))))) (va_cons (ve_tup (va_cons ve_int va_nil)) (va_cons (ve_tup (va_cons ve_int (va_cons ve_int va_nil))) va_nil))))))))) (ve_call (ok__law_pick (P := P) (w := w) (base := base) T) (hr.mono (by decide)) T.f__law_pick.mg T.f__law_pick.fn.kp T.f__law_pick.bd (pass_takes (takes_of rfl rfl rfl rfl)) (va_cons (ve_var 1) (va_cons (ve_op op_addD ve_int (ve_var 2)) (va_cons ve_int va_nil))) (args_len (args_len (args_len args_nil))))))) (vss_cons (vs_if (st_plain (vt_not (vt_truth (ve_call (ok__law_asked (P := P) (w := w) (base := base) T) (hr.mono (by decide)) T.f__law_asked.mg T.f__law_asked.fn.kp T.f__law_asked.bd (pass_takes (takes_of rfl rfl rfl rfl)) (va_cons (ve_var 1) (va_cons (ve_op op_addD ve_int (ve_var 2)) (va_cons (ve_call (ok__law_lot (P := P) (w := w) (base := base) T) (hr.mono (by decide)) T.f__law_lot.mg T.f__law_lot.fn.kp T.f__law_lot.bd (pass_takes (takes_of rfl rfl rfl rfl)) (va_cons (ve_var 1) (va_cons (ve_op op_addD ve_int (ve_op op_mulD ve_int (ve_var 2))) (va_cons (ve_var 3) (va_cons (ve_op op_addD ve_int (ve_call (ok__law_pick (P := P) (w := w) (base := base) T) (hr.mono (by decide)) T.f__law_pick.mg T.f__law_pick.fn.kp T.f__law_pick.bd (pass_takes (takes_of rfl rfl rfl rfl)) (va_cons (ve_var 1) (va_cons (ve_op op_addD ve_int (ve_var 2)) (va_cons ve_int va_nil))) (args_len (args_len (args_len args_nil))))) va_nil)))) (args_len (args_len (args_len (args_len args_nil))))) (va_cons ve_int va_nil)))) (args_len (args_len (args_len (args_len args_nil)))))))) (vss_cons (vs_ret ve_bl) (vss_nil)) (vss_nil)) (vss_nil)))))) (vss_cons (vs_if (st_plain (vt_cmp (cmp_ne hr.units) (ve_call (ok__law_pick (P := P) (w := w) (base := base) T) (hr.mono (by decide)) T.f__law_pick.mg T.f__law_pick.fn.kp T.f__law_pick.bd (pass_takes (takes_of rfl rfl rfl rfl)) (va_cons (ve_var 1) (va_cons ve_int (va_cons ve_int va_nil))) (args_len (args_len (args_len args_nil)))) ve_int (nomark _))) (vss_cons (vs_ret ve_bl) (vss_nil)) (vss_nil)) (vss_cons (vs_ret (ve_call (ok__law_asked (P := P) (w := w) (base := base) T) (hr.mono (by decide)) T.f__law_asked.mg T.f__law_asked.fn.kp T.f__law_asked.bd (pass_takes (takes_of rfl rfl rfl rfl)) (va_cons (ve_var 1) (va_cons ve_int (va_cons (ve_call (ok__law_lot (P := P) (w := w) (base := base) T) (hr.mono (by decide)) T.f__law_lot.mg T.f__law_lot.fn.kp T.f__law_lot.bd (pass_takes (takes_of rfl rfl rfl rfl)) (va_cons (ve_var 1) (va_cons ve_int (va_cons (ve_tup (va_cons ve_int (va_cons ve_int (va_cons ve_int (va_cons ve_int (va_cons ve_int (va_cons ve_int (va_cons ve_int (va_cons ve_int va_nil))))))))) (va_cons ve_int va_nil)))) (args_len (args_len (args_len (args_len args_nil))))) (va_cons ve_int va_nil)))) (args_len (args_len (args_len (args_len args_nil)))))) (vss_nil))))))
end
end K20


end
set_option Elab.async false
set_option linter.all false
set_option maxRecDepth 100000
noncomputable section
namespace K20
open PySem L2 TP
theorem dig_turn (a n : Slot) (s : Slot) (e6 : Slot) (k : Nat) (cs : List Int) (rest : Int) (hl : cs.length ≤ 100000) :
    ∃ (cs' : List Int) (rest' : Int), cs'.length ≤ cs.length + 1 ∧ l1__law_cells [a, .own (.lst (cs.map .int)), n, s, .val (.int (0 + (k : Nat))), .val (.int rest), e6] = .nx [a, .own (.lst (cs'.map .int)), n, s, .un, .val (.int rest'), e6] := by
  have ff : decide (cs.length ≤ 16777215) = true := decide_eq_true (by omega)
  unfold l1__law_cells
  by_cases hr : 0 < rest
  · refine ⟨cs ++ [rest % 9973], rest / 9973, by simp, ?_⟩
    simp only [TP.ap_sSeq, TP.ap_sNil, TP.ap_sSet, TP.ap_sIf, TP.ap_sKill, TP.ap_sAsg, TP.ap_sExpr, TP.ap_sOwnP, TP.ap_sRet, TP.ap_sAppend, TP.ap_sPop, TP.ap_sPar, TP.ap_sPut, TP.ap_sFor, TP.ap_sRetN, TP.ap_sBreak, TP.ap_sCont, TP.ap_eVar, TP.ap_eC, TP.ap_aNil, TP.ap_aCons, TP.ap_eCall, TP.ap_e2, TP.ap_e1, TP.ap_e2B, TP.ap_eB, TP.ap_eT, TP.ap_eNot, TP.ap_eAnd, TP.ap_eOr, TP.ap_eIf, TP.ap_cNot, TP.ap_cAnd, TP.ap_cOr, TP.ap_cYes, TP.ap_cChain, TP.ap_iSeq, TP.ap_iArgs, TP.ap_oNone, TP.ap_pP, TP.ap_pLb, TP.ap_pLr, TP.ap_tgName, TP.ap_pgName, TP.ap_tgTup, TP.ap_tgTupL, TP.ap_pgTup, TP.ap_tgNil, TP.ap_pgNil, TP.ap_tgCons, TP.ap_pgCons, TP.plain, TP.lent, TP.Slot.plain, TP.Slot.lent, TP.itemsD, TP.wipeP, TP.eSlice, TP.oSome, TP.truthB, TP.Out.ofO, id_eq, TP.kill, TP.ok_bind, TP.exc_bind, TP.fail_bind, TP.ofO_some, TP.ofO_none, List.map_cons, List.map_nil, List.set_cons_zero, List.set_cons_succ, List.getElem?_cons_zero, List.getElem?_cons_succ, List.getElem?_nil, List.length_cons, List.length_nil, List.cons_append, List.nil_append, List.replicate_succ, List.replicate_zero, Option.join, Option.bind_some, Option.bind, Option.map_some, Option.map_none, Nat.reduceSub, Nat.reduceAdd, Nat.add_zero, Nat.zero_add, List.append_nil, if_true, if_false, Bool.false_eq_true, Bool.not_true, Bool.not_false, reduceIte, decide_true, decide_false, Nat.reduceLeDiff, TP.mkTup, TP.mkLst, TP.fits_eq, gtD_int, decide_eq_true hr, mod_ok (show (0 : Int) < 9973 by decide), divN_ok 9973 (by decide) (by decide), List.length_map, ff]
    rw [List.map_append]
    rfl
  · refine ⟨cs, rest, by omega, ?_⟩
    simp only [TP.ap_sSeq, TP.ap_sNil, TP.ap_sSet, TP.ap_sIf, TP.ap_sKill, TP.ap_sAsg, TP.ap_sExpr, TP.ap_sOwnP, TP.ap_sRet, TP.ap_sAppend, TP.ap_sPop, TP.ap_sPar, TP.ap_sPut, TP.ap_sFor, TP.ap_sRetN, TP.ap_sBreak, TP.ap_sCont, TP.ap_eVar, TP.ap_eC, TP.ap_aNil, TP.ap_aCons, TP.ap_eCall, TP.ap_e2, TP.ap_e1, TP.ap_e2B, TP.ap_eB, TP.ap_eT, TP.ap_eNot, TP.ap_eAnd, TP.ap_eOr, TP.ap_eIf, TP.ap_cNot, TP.ap_cAnd, TP.ap_cOr, TP.ap_cYes, TP.ap_cChain, TP.ap_iSeq, TP.ap_iArgs, TP.ap_oNone, TP.ap_pP, TP.ap_pLb, TP.ap_pLr, TP.ap_tgName, TP.ap_pgName, TP.ap_tgTup, TP.ap_tgTupL, TP.ap_pgTup, TP.ap_tgNil, TP.ap_pgNil, TP.ap_tgCons, TP.ap_pgCons, TP.plain, TP.lent, TP.Slot.plain, TP.Slot.lent, TP.itemsD, TP.wipeP, TP.eSlice, TP.oSome, TP.truthB, TP.Out.ofO, id_eq, TP.kill, TP.ok_bind, TP.exc_bind, TP.fail_bind, TP.ofO_some, TP.ofO_none, List.map_cons, List.map_nil, List.set_cons_zero, List.set_cons_succ, List.getElem?_cons_zero, List.getElem?_cons_succ, List.getElem?_nil, List.length_cons, List.length_nil, List.cons_append, List.nil_append, List.replicate_succ, List.replicate_zero, Option.join, Option.bind_some, Option.bind, Option.map_some, Option.map_none, Nat.reduceSub, Nat.reduceAdd, Nat.add_zero, Nat.zero_add, List.append_nil, if_true, if_false, Bool.false_eq_true, Bool.not_true, Bool.not_false, reduceIte, decide_true, decide_false, Nat.reduceLeDiff, TP.mkTup, TP.mkLst, TP.fits_eq, gtD_int, decide_eq_false hr]
theorem dig_loop (a n s e6 : Slot) (cs : List Int) (rest : Int) (hl : cs.length ≤ 90000) :
    ∃ (cs' : List Int) (rest' : Int), cs'.length ≤ cs.length + 70 ∧ loop (tgName 4) l1__law_cells (rangeL 0 70) [a, .own (.lst (cs.map .int)), n, s, .un, .val (.int rest), e6] = .nx [a, .own (.lst (cs'.map .int)), n, s, .un, .val (.int rest'), e6] := by
  obtain ⟨ρ', e1, q⟩ := loop_inv (t := tgName 4) (b := l1__law_cells) (fun i ρ => i ≤ 70 ∧ ∃ (cs' : List Int) (rest' : Int), cs'.length ≤ cs.length + i ∧ ρ = [a, .own (.lst (cs'.map .int)), n, s, .un, .val (.int rest'), e6]) (rangeL 0 70) 0
    [a, .own (.lst (cs.map .int)), n, s, .un, .val (.int rest), e6] ⟨by omega, cs, rest, by omega, rfl⟩ (by
    rintro j x ρ hj ⟨hi, cs', rest', h, rfl⟩
    obtain ⟨hj1, rfl⟩ := rangeL_get _ _ _ _ hj
    obtain ⟨c2, r2, z1, z2⟩ := dig_turn a n s e6 j cs' rest' (by omega)
    exact ⟨_, _, rfl, .inl z2, by omega, c2, r2, by omega, rfl⟩)
  obtain ⟨_, c, r, h, rfl⟩ := q
  rw [rangeL_len] at h
  exact ⟨c, r, by omega, e1⟩
theorem cell_turn (a : Slot) (n : Int) (cs : List Int) (hl : cs.length ≤ 90000) :
    ∃ cs' : List Int, cs'.length ≤ cs.length + 70 ∧ l2__law_cells [a, .own (.lst (cs.map .int)), .val (.int n), .un, .un, .un, .un] = .nx [a, .own (.lst (cs'.map .int)), .un, .un, .un, .un, .un] := by
  have hp : (0 : Int) < 1 * 2 ^ (1900 : Int).toNat := by rw [Int.one_mul]; exact Int.pow_pos (by decide)
  have hs : shlD (.int 1) (.int 1900) = .ok (.int (1 * 2 ^ (1900 : Int).toNat)) := rfl
  generalize (1 * 2 ^ (1900 : Int).toNat : Int) = big at hp hs
  obtain ⟨m, hm⟩ : ∃ m, absD [.int n] = .ok (.int m) := ⟨_, rfl⟩
  obtain ⟨b, hb⟩ : ∃ b, intD [.bl (decide (n < 0))] = .ok (.int b) := by cases decide (n < 0) <;> exact ⟨_, rfl⟩
  have q0 := Int.emod_nonneg (2 * m + b) (show big ≠ 0 by omega)
  have ff : decide (cs.length ≤ 16777215) = true := decide_eq_true (by omega)
  unfold l2__law_cells
  by_cases h18 : (2 * m + b) % big < 10 ^ 18
  · have h18' : (2 * m + b) % big < 1000000000000000000 := h18
    have p1 := Int.emod_nonneg ((2 * m + b) % big * 52711 + 9377 * (cs.length : Int) + 101) (show (2147483647 : Int) ≠ 0 by decide)
    have p2 := Int.emod_lt_of_pos ((2 * m + b) % big * 52711 + 9377 * (cs.length : Int) + 101) (show (0 : Int) < 2147483647 by decide)
    have fg : decide (((cs.map D.int) ++ [D.int (((2 * m + b) % big * 52711 + 9377 * (cs.length : Int) + 101) % 2147483647 % 9973)]).length ≤ 16777215) = true := by
      rw [List.length_append, List.length_map]; exact decide_eq_true (by simp; omega)
    refine ⟨cs ++ [((2 * m + b) % big * 52711 + 9377 * (cs.length : Int) + 101) % 2147483647 % 9973, (((2 * m + b) % big * 52711 + 9377 * (cs.length : Int) + 101) % 2147483647 * 48271 + 31 * ((2 * m + b) % big) + 7) % 2147483629 / 31 % 9973], by simp, ?_⟩
    · simp only [TP.ap_sSeq, TP.ap_sNil, TP.ap_sSet, TP.ap_sIf, TP.ap_sKill, TP.ap_sAsg, TP.ap_sExpr, TP.ap_sOwnP, TP.ap_sRet, TP.ap_sAppend, TP.ap_sPop, TP.ap_sPar, TP.ap_sPut, TP.ap_sFor, TP.ap_sRetN, TP.ap_sBreak, TP.ap_sCont, TP.ap_eVar, TP.ap_eC, TP.ap_aNil, TP.ap_aCons, TP.ap_eCall, TP.ap_e2, TP.ap_e1, TP.ap_e2B, TP.ap_eB, TP.ap_eT, TP.ap_eNot, TP.ap_eAnd, TP.ap_eOr, TP.ap_eIf, TP.ap_cNot, TP.ap_cAnd, TP.ap_cOr, TP.ap_cYes, TP.ap_cChain, TP.ap_iSeq, TP.ap_iArgs, TP.ap_oNone, TP.ap_pP, TP.ap_pLb, TP.ap_pLr, TP.ap_tgName, TP.ap_pgName, TP.ap_tgTup, TP.ap_tgTupL, TP.ap_pgTup, TP.ap_tgNil, TP.ap_pgNil, TP.ap_tgCons, TP.ap_pgCons, TP.plain, TP.lent, TP.Slot.plain, TP.Slot.lent, TP.itemsD, TP.wipeP, TP.eSlice, TP.oSome, TP.truthB, TP.Out.ofO, id_eq, TP.kill, TP.ok_bind, TP.exc_bind, TP.fail_bind, TP.ofO_some, TP.ofO_none, List.map_cons, List.map_nil, List.set_cons_zero, List.set_cons_succ, List.getElem?_cons_zero, List.getElem?_cons_succ, List.getElem?_nil, List.length_cons, List.length_nil, List.cons_append, List.nil_append, List.replicate_succ, List.replicate_zero, Option.join, Option.bind_some, Option.bind, Option.map_some, Option.map_none, Nat.reduceSub, Nat.reduceAdd, Nat.add_zero, Nat.zero_add, List.append_nil, if_true, if_false, Bool.false_eq_true, Bool.not_true, Bool.not_false, reduceIte, decide_true, decide_false, Nat.reduceLeDiff, TP.mkTup, TP.mkLst, TP.fits_eq, ap_pL, keyed_int, hm, ltD_int, hb, hs, add_ok, mulL_ok (i := 2) (j := m) (by decide), mod_ok hp, pow18, decide_eq_true h18, mulL_ok (i := (2 * m + b) % big) (j := 52711) ⟨by omega, by omega⟩, lenL, mulL_ok (i := 9377) (j := (cs.length : Int)) (by decide),
        mod_ok (show (0 : Int) < 2147483647 by decide), mod_ok (show (0 : Int) < 9973 by decide), mod_ok (show (0 : Int) < 2147483629 by decide), List.length_map, ff, fg,
        mulL_ok (i := ((2 * m + b) % big * 52711 + 9377 * (cs.length : Int) + 101) % 2147483647) (j := 48271) ⟨by omega, by omega⟩, mulL_ok (i := 31) (j := (2 * m + b) % big) (by decide), divN_ok 31 (by decide) (by decide)]
      rw [List.map_append, List.append_assoc]
      rfl
  · obtain ⟨cs', r', z1, z2⟩ := dig_loop a (.val (.int n)) .un .un cs ((2 * m + b) % big) hl
    refine ⟨cs', z1, ?_⟩
    have r70 : rangeD1 [.int 70] = .ok (rangeL 0 70) := rd1 70 (by decide)
    simp only [TP.ap_sSeq, TP.ap_sNil, TP.ap_sSet, TP.ap_sIf, TP.ap_sKill, TP.ap_sAsg, TP.ap_sExpr, TP.ap_sOwnP, TP.ap_sRet, TP.ap_sAppend, TP.ap_sPop, TP.ap_sPar, TP.ap_sPut, TP.ap_sFor, TP.ap_sRetN, TP.ap_sBreak, TP.ap_sCont, TP.ap_eVar, TP.ap_eC, TP.ap_aNil, TP.ap_aCons, TP.ap_eCall, TP.ap_e2, TP.ap_e1, TP.ap_e2B, TP.ap_eB, TP.ap_eT, TP.ap_eNot, TP.ap_eAnd, TP.ap_eOr, TP.ap_eIf, TP.ap_cNot, TP.ap_cAnd, TP.ap_cOr, TP.ap_cYes, TP.ap_cChain, TP.ap_iSeq, TP.ap_iArgs, TP.ap_oNone, TP.ap_pP, TP.ap_pLb, TP.ap_pLr, TP.ap_tgName, TP.ap_pgName, TP.ap_tgTup, TP.ap_tgTupL, TP.ap_pgTup, TP.ap_tgNil, TP.ap_pgNil, TP.ap_tgCons, TP.ap_pgCons, TP.plain, TP.lent, TP.Slot.plain, TP.Slot.lent, TP.itemsD, TP.wipeP, TP.eSlice, TP.oSome, TP.truthB, TP.Out.ofO, id_eq, TP.kill, TP.ok_bind, TP.exc_bind, TP.fail_bind, TP.ofO_some, TP.ofO_none, List.map_cons, List.map_nil, List.set_cons_zero, List.set_cons_succ, List.getElem?_cons_zero, List.getElem?_cons_succ, List.getElem?_nil, List.length_cons, List.length_nil, List.cons_append, List.nil_append, List.replicate_succ, List.replicate_zero, Option.join, Option.bind_some, Option.bind, Option.map_some, Option.map_none, Nat.reduceSub, Nat.reduceAdd, Nat.add_zero, Nat.zero_add, List.append_nil, if_true, if_false, Bool.false_eq_true, Bool.not_true, Bool.not_false, reduceIte, decide_true, decide_false, Nat.reduceLeDiff, TP.mkTup, TP.mkLst, TP.fits_eq, hm, ltD_int, hb, hs, add_ok, mulL_ok (i := 2) (j := m) (by decide), mod_ok hp, pow18, decide_eq_false h18, r70, z2]
theorem state_turn (a e4 e5 e6 : Slot) (q : Slot) (n x : Int) (h0 : 0 ≤ x) (h1 : x < 2147483629) :
    ∃ y, 0 ≤ y ∧ y < 2147483629 ∧ l3__law_cells [a, q, .val (.int n), .val (.int x), e4, e5, e6] = .nx [a, q, .un, .val (.int y), e4, e5, e6] := by
  refine ⟨_, Int.emod_nonneg (x * 89 + n) (show (2147483629 : Int) ≠ 0 by decide), Int.emod_lt_of_pos _ (by decide), ?_⟩
  unfold l3__law_cells
  simp only [TP.ap_sSeq, TP.ap_sNil, TP.ap_sSet, TP.ap_sIf, TP.ap_sKill, TP.ap_sAsg, TP.ap_sExpr, TP.ap_sOwnP, TP.ap_sRet, TP.ap_sAppend, TP.ap_sPop, TP.ap_sPar, TP.ap_sPut, TP.ap_sFor, TP.ap_sRetN, TP.ap_sBreak, TP.ap_sCont, TP.ap_eVar, TP.ap_eC, TP.ap_aNil, TP.ap_aCons, TP.ap_eCall, TP.ap_e2, TP.ap_e1, TP.ap_e2B, TP.ap_eB, TP.ap_eT, TP.ap_eNot, TP.ap_eAnd, TP.ap_eOr, TP.ap_eIf, TP.ap_cNot, TP.ap_cAnd, TP.ap_cOr, TP.ap_cYes, TP.ap_cChain, TP.ap_iSeq, TP.ap_iArgs, TP.ap_oNone, TP.ap_pP, TP.ap_pLb, TP.ap_pLr, TP.ap_tgName, TP.ap_pgName, TP.ap_tgTup, TP.ap_tgTupL, TP.ap_pgTup, TP.ap_tgNil, TP.ap_pgNil, TP.ap_tgCons, TP.ap_pgCons, TP.plain, TP.lent, TP.Slot.plain, TP.Slot.lent, TP.itemsD, TP.wipeP, TP.eSlice, TP.oSome, TP.truthB, TP.Out.ofO, id_eq, TP.kill, TP.ok_bind, TP.exc_bind, TP.fail_bind, TP.ofO_some, TP.ofO_none, List.map_cons, List.map_nil, List.set_cons_zero, List.set_cons_succ, List.getElem?_cons_zero, List.getElem?_cons_succ, List.getElem?_nil, List.length_cons, List.length_nil, List.cons_append, List.nil_append, List.replicate_succ, List.replicate_zero, Option.join, Option.bind_some, Option.bind, Option.map_some, Option.map_none, Nat.reduceSub, Nat.reduceAdd, Nat.add_zero, Nat.zero_add, List.append_nil, if_true, if_false, Bool.false_eq_true, Bool.not_true, Bool.not_false, reduceIte, decide_true, decide_false, Nat.reduceLeDiff, TP.mkTup, TP.mkLst, TP.fits_eq, mulL_ok (i := x) (j := 89) ⟨by omega, by omega⟩, add_ok, mod_ok (show (0 : Int) < 2147483629 by decide)]
theorem tail_turn (a e2 e5 e6 : Slot) (k : Nat) (cs : List Int) (x : Int) (hl : cs.length ≤ 100000) (h0 : 0 ≤ x) (h1 : x < 2147483647) :
    ∃ c y, 0 ≤ y ∧ y < 2147483647 ∧ l4__law_cells [a, .own (.lst (cs.map .int)), e2, .val (.int x), .val (.int (0 + (k : Nat))), e5, e6] = .nx [a, .own (.lst ((cs ++ [c]).map .int)), e2, .val (.int y), .un, e5, e6] := by
  have ff : decide (cs.length ≤ 16777215) = true := decide_eq_true (by omega)
  refine ⟨(x * 39373 + 6581) % 2147483647 / 64 % 9973, _, Int.emod_nonneg (x * 39373 + 6581) (show (2147483647 : Int) ≠ 0 by decide), Int.emod_lt_of_pos _ (by decide), ?_⟩
  · unfold l4__law_cells
    simp only [TP.ap_sSeq, TP.ap_sNil, TP.ap_sSet, TP.ap_sIf, TP.ap_sKill, TP.ap_sAsg, TP.ap_sExpr, TP.ap_sOwnP, TP.ap_sRet, TP.ap_sAppend, TP.ap_sPop, TP.ap_sPar, TP.ap_sPut, TP.ap_sFor, TP.ap_sRetN, TP.ap_sBreak, TP.ap_sCont, TP.ap_eVar, TP.ap_eC, TP.ap_aNil, TP.ap_aCons, TP.ap_eCall, TP.ap_e2, TP.ap_e1, TP.ap_e2B, TP.ap_eB, TP.ap_eT, TP.ap_eNot, TP.ap_eAnd, TP.ap_eOr, TP.ap_eIf, TP.ap_cNot, TP.ap_cAnd, TP.ap_cOr, TP.ap_cYes, TP.ap_cChain, TP.ap_iSeq, TP.ap_iArgs, TP.ap_oNone, TP.ap_pP, TP.ap_pLb, TP.ap_pLr, TP.ap_tgName, TP.ap_pgName, TP.ap_tgTup, TP.ap_tgTupL, TP.ap_pgTup, TP.ap_tgNil, TP.ap_pgNil, TP.ap_tgCons, TP.ap_pgCons, TP.plain, TP.lent, TP.Slot.plain, TP.Slot.lent, TP.itemsD, TP.wipeP, TP.eSlice, TP.oSome, TP.truthB, TP.Out.ofO, id_eq, TP.kill, TP.ok_bind, TP.exc_bind, TP.fail_bind, TP.ofO_some, TP.ofO_none, List.map_cons, List.map_nil, List.set_cons_zero, List.set_cons_succ, List.getElem?_cons_zero, List.getElem?_cons_succ, List.getElem?_nil, List.length_cons, List.length_nil, List.cons_append, List.nil_append, List.replicate_succ, List.replicate_zero, Option.join, Option.bind_some, Option.bind, Option.map_some, Option.map_none, Nat.reduceSub, Nat.reduceAdd, Nat.add_zero, Nat.zero_add, List.append_nil, if_true, if_false, Bool.false_eq_true, Bool.not_true, Bool.not_false, reduceIte, decide_true, decide_false, Nat.reduceLeDiff, TP.mkTup, TP.mkLst, TP.fits_eq, mulL_ok (i := x) (j := 39373) ⟨by omega, by omega⟩, add_ok, mod_ok (show (0 : Int) < 2147483647 by decide), mod_ok (show (0 : Int) < 9973 by decide), divN_ok 64 (by decide) (by decide), List.length_map, ff]
    rw [List.map_append]
    rfl
/-- the cells: at least one -/
def Cells (cs : List Int) : Prop := 0 < cs.length ∧ cs.length ≤ 20000
theorem cells_ok (ns : List Int) (hn : ns.length ≤ 63) : ∃ cs, Cells cs ∧ g__law_cells [.scr ns] = .ok (.lst (cs.map .int)) := by
  have hcut : sliceD none (some 63) (.scr ns) = .ok (.lst (ns.map .int)) := by
    show Out.ok (D.lst (cutL (ns.map .int) none (some ((63 : Nat) : Int)))) = _
    rw [cut_to, List.take_of_length_le (by rw [List.length_map]; exact hn)]
  obtain ⟨ρ1, e1, ⟨h1, cs1, l1, rfl⟩⟩ := loop_inv (t := tgName 2) (b := l2__law_cells) (fun i ρ => i ≤ ns.length ∧ ∃ cs, cs.length ≤ 70 * i ∧ ρ = [.val (.scr ns), .own (.lst (cs.map .int)), .un, .un, .un, .un, .un]) (ns.map .int) 0
    [.val (.scr ns), .own (.lst []), .un, .un, .un, .un, .un] ⟨by omega, [], by simp, rfl⟩ (by
    rintro j x ρ hj ⟨hi, cs, hl, rfl⟩
    rw [List.getElem?_map] at hj
    cases hn2 : ns[j]? with
    | none => rw [hn2] at hj; cases hj
    | some n =>
      rw [hn2] at hj
      cases hj
      have hj2 := (List.getElem?_eq_some_iff.mp hn2).1
      obtain ⟨c2, z1, z2⟩ := cell_turn (.val (.scr ns)) n cs (by omega)
      exact ⟨_, _, rfl, .inl z2, by omega, c2, by omega, rfl⟩)
  rw [List.length_map] at l1
  obtain ⟨x2, e2, x20, x21⟩ : ∃ x2, sForOwn 1 (tgName 2) l3__law_cells [.val (.scr ns), .own (.lst (cs1.map .int)), .un, .val (.int 61027), .un, .un, .un] = .nx [.val (.scr ns), .own (.lst (cs1.map .int)), .un, .val (.int x2), .un, .un, .un] ∧ 0 ≤ x2 ∧ x2 < 2147483629 := by
    obtain ⟨ρ, e, P⟩ := forOwn_inv (i := 1) (t := tgName 2) (b := l3__law_cells) (l := cs1.map D.int) (ρ := [.val (.scr ns), .own (.lst (cs1.map .int)), .un, .val (.int 61027), .un, .un, .un])
      (fun ρ => ∃ x, 0 ≤ x ∧ x < 2147483629 ∧ ρ = [.val (.scr ns), .io 1001 (.lst (cs1.map .int)), .un, .val (.int x), .un, .un, .un]) rfl rfl ⟨61027, by decide, by decide, rfl⟩
      (by rintro d hd ρ ⟨x, h0, h1, rfl⟩
          obtain ⟨n, _, rfl⟩ := List.mem_map.mp hd
          obtain ⟨y, y0, y1, y2⟩ := state_turn (.val (.scr ns)) .un .un .un (.io 1001 (.lst (cs1.map .int))) n x h0 h1
          exact ⟨rfl, rfl, _, _, rfl, .inl y2, y, y0, y1, rfl⟩)
      (by rintro ρ ⟨x, h0, h1, rfl⟩; exact ⟨rfl, rfl⟩)
    obtain ⟨x, h0, h1, rfl⟩ := P
    exact ⟨x, e, h0, h1⟩
  obtain ⟨ρ3, e3, ⟨h3, cs3, x3, l3, _, _, rfl⟩⟩ := loop_inv (t := tgName 4) (b := l4__law_cells) (fun i ρ => i ≤ 300 ∧ ∃ cs x, cs.length = cs1.length + i ∧ 0 ≤ x ∧ x < 2147483647 ∧ ρ = [.val (.scr ns), .own (.lst (cs.map .int)), .un, .val (.int x), .un, .un, .un]) (rangeL 0 300) 0
    [.val (.scr ns), .own (.lst (cs1.map .int)), .un, .val (.int x2), .un, .un, .un] ⟨by omega, cs1, x2, by omega, x20, by omega, rfl⟩ (by
    rintro j x ρ hj ⟨hi, cs, x, hl, h0, h1, rfl⟩
    obtain ⟨hj1, rfl⟩ := rangeL_get _ _ _ _ hj
    obtain ⟨c, y, y0, y1, y2⟩ := tail_turn (.val (.scr ns)) .un .un .un j cs x (by omega) h0 h1
    exact ⟨_, _, rfl, .inl y2, by omega, _, y, by simp; omega, y0, y1, rfl⟩)
  rw [rangeL_len] at l3
  refine ⟨cs3, ⟨by omega, by omega⟩, ?_⟩
  have r6 : rangeD1 [.int 300] = .ok (rangeL 0 300) := rd1 300 (by decide)
  unfold g__law_cells b__law_cells
  simp only [TP.sem_fin, TP.fin_ret, TP.fin_ret1, TP.fin_set, TP.fin_ownP, TP.fin_par, TP.fin_kill, TP.fin_if, TP.fin_if1, TP.fin_asg, TP.fin_expr, TP.fin_for, TP.fin_loop_nil, TP.fin_sNil, TP.seq_seq, TP.seq_nil, TP.startE, TP.ap_eVar, TP.ap_eC, TP.ap_aNil, TP.ap_aCons, TP.ap_eCall, TP.ap_e2, TP.ap_e1, TP.ap_e2B, TP.ap_eB, TP.ap_eT, TP.ap_eNot, TP.ap_eAnd, TP.ap_eOr, TP.ap_eIf, TP.ap_cNot, TP.ap_cAnd, TP.ap_cOr, TP.ap_cYes, TP.ap_cChain, TP.ap_iSeq, TP.ap_iArgs, TP.ap_oNone, TP.ap_pP, TP.ap_pLb, TP.ap_pLr, TP.ap_tgName, TP.ap_pgName, TP.ap_tgTup, TP.ap_tgTupL, TP.ap_pgTup, TP.ap_tgNil, TP.ap_pgNil, TP.ap_tgCons, TP.ap_pgCons, TP.plain, TP.lent, TP.Slot.plain, TP.Slot.lent, TP.itemsD, TP.wipeP, TP.eSlice, TP.oSome, TP.truthB, TP.Out.ofO, id_eq, TP.kill, TP.ok_bind, TP.exc_bind, TP.fail_bind, TP.ofO_some, TP.ofO_none, List.map_cons, List.map_nil, List.set_cons_zero, List.set_cons_succ, List.getElem?_cons_zero, List.getElem?_cons_succ, List.getElem?_nil, List.length_cons, List.length_nil, List.cons_append, List.nil_append, List.replicate_succ, List.replicate_zero, Option.join, Option.bind_some, Option.bind, Option.map_some, Option.map_none, Nat.reduceSub, Nat.reduceAdd, Nat.add_zero, Nat.zero_add, List.append_nil, if_true, if_false, Bool.false_eq_true, Bool.not_true, Bool.not_false, reduceIte, decide_true, decide_false, Nat.reduceLeDiff, TP.mkTup, TP.mkLst, TP.fits_eq, asInt, hcut]
  rw [fin_loop e1]
  simp only [TP.sem_fin, TP.fin_ret, TP.fin_ret1, TP.fin_set, TP.fin_ownP, TP.fin_par, TP.fin_kill, TP.fin_if, TP.fin_if1, TP.fin_asg, TP.fin_expr, TP.fin_for, TP.fin_loop_nil, TP.fin_sNil, TP.seq_seq, TP.seq_nil, TP.startE, TP.ap_eVar, TP.ap_eC, TP.ap_aNil, TP.ap_aCons, TP.ap_eCall, TP.ap_e2, TP.ap_e1, TP.ap_e2B, TP.ap_eB, TP.ap_eT, TP.ap_eNot, TP.ap_eAnd, TP.ap_eOr, TP.ap_eIf, TP.ap_cNot, TP.ap_cAnd, TP.ap_cOr, TP.ap_cYes, TP.ap_cChain, TP.ap_iSeq, TP.ap_iArgs, TP.ap_oNone, TP.ap_pP, TP.ap_pLb, TP.ap_pLr, TP.ap_tgName, TP.ap_pgName, TP.ap_tgTup, TP.ap_tgTupL, TP.ap_pgTup, TP.ap_tgNil, TP.ap_pgNil, TP.ap_tgCons, TP.ap_pgCons, TP.plain, TP.lent, TP.Slot.plain, TP.Slot.lent, TP.itemsD, TP.wipeP, TP.eSlice, TP.oSome, TP.truthB, TP.Out.ofO, id_eq, TP.kill, TP.ok_bind, TP.exc_bind, TP.fail_bind, TP.ofO_some, TP.ofO_none, List.map_cons, List.map_nil, List.set_cons_zero, List.set_cons_succ, List.getElem?_cons_zero, List.getElem?_cons_succ, List.getElem?_nil, List.length_cons, List.length_nil, List.cons_append, List.nil_append, List.replicate_succ, List.replicate_zero, Option.join, Option.bind_some, Option.bind, Option.map_some, Option.map_none, Nat.reduceSub, Nat.reduceAdd, Nat.add_zero, Nat.zero_add, List.append_nil, if_true, if_false, Bool.false_eq_true, Bool.not_true, Bool.not_false, reduceIte, decide_true, decide_false, Nat.reduceLeDiff, TP.mkTup, TP.mkLst, TP.fits_eq]
  rw [seq_nx e2]
  simp only [TP.sem_fin, TP.fin_ret, TP.fin_ret1, TP.fin_set, TP.fin_ownP, TP.fin_par, TP.fin_kill, TP.fin_if, TP.fin_if1, TP.fin_asg, TP.fin_expr, TP.fin_for, TP.fin_loop_nil, TP.fin_sNil, TP.seq_seq, TP.seq_nil, TP.startE, TP.ap_eVar, TP.ap_eC, TP.ap_aNil, TP.ap_aCons, TP.ap_eCall, TP.ap_e2, TP.ap_e1, TP.ap_e2B, TP.ap_eB, TP.ap_eT, TP.ap_eNot, TP.ap_eAnd, TP.ap_eOr, TP.ap_eIf, TP.ap_cNot, TP.ap_cAnd, TP.ap_cOr, TP.ap_cYes, TP.ap_cChain, TP.ap_iSeq, TP.ap_iArgs, TP.ap_oNone, TP.ap_pP, TP.ap_pLb, TP.ap_pLr, TP.ap_tgName, TP.ap_pgName, TP.ap_tgTup, TP.ap_tgTupL, TP.ap_pgTup, TP.ap_tgNil, TP.ap_pgNil, TP.ap_tgCons, TP.ap_pgCons, TP.plain, TP.lent, TP.Slot.plain, TP.Slot.lent, TP.itemsD, TP.wipeP, TP.eSlice, TP.oSome, TP.truthB, TP.Out.ofO, id_eq, TP.kill, TP.ok_bind, TP.exc_bind, TP.fail_bind, TP.ofO_some, TP.ofO_none, List.map_cons, List.map_nil, List.set_cons_zero, List.set_cons_succ, List.getElem?_cons_zero, List.getElem?_cons_succ, List.getElem?_nil, List.length_cons, List.length_nil, List.cons_append, List.nil_append, List.replicate_succ, List.replicate_zero, Option.join, Option.bind_some, Option.bind, Option.map_some, Option.map_none, Nat.reduceSub, Nat.reduceAdd, Nat.add_zero, Nat.zero_add, List.append_nil, if_true, if_false, Bool.false_eq_true, Bool.not_true, Bool.not_false, reduceIte, decide_true, decide_false, Nat.reduceLeDiff, TP.mkTup, TP.mkLst, TP.fits_eq, r6]
  rw [fin_loop e3]
  simp only [TP.sem_fin, TP.fin_ret, TP.fin_ret1, TP.fin_set, TP.fin_ownP, TP.fin_par, TP.fin_kill, TP.fin_if, TP.fin_if1, TP.fin_asg, TP.fin_expr, TP.fin_for, TP.fin_loop_nil, TP.fin_sNil, TP.seq_seq, TP.seq_nil, TP.startE, TP.ap_eVar, TP.ap_eC, TP.ap_aNil, TP.ap_aCons, TP.ap_eCall, TP.ap_e2, TP.ap_e1, TP.ap_e2B, TP.ap_eB, TP.ap_eT, TP.ap_eNot, TP.ap_eAnd, TP.ap_eOr, TP.ap_eIf, TP.ap_cNot, TP.ap_cAnd, TP.ap_cOr, TP.ap_cYes, TP.ap_cChain, TP.ap_iSeq, TP.ap_iArgs, TP.ap_oNone, TP.ap_pP, TP.ap_pLb, TP.ap_pLr, TP.ap_tgName, TP.ap_pgName, TP.ap_tgTup, TP.ap_tgTupL, TP.ap_pgTup, TP.ap_tgNil, TP.ap_pgNil, TP.ap_tgCons, TP.ap_pgCons, TP.plain, TP.lent, TP.Slot.plain, TP.Slot.lent, TP.itemsD, TP.wipeP, TP.eSlice, TP.oSome, TP.truthB, TP.Out.ofO, id_eq, TP.kill, TP.ok_bind, TP.exc_bind, TP.fail_bind, TP.ofO_some, TP.ofO_none, List.map_cons, List.map_nil, List.set_cons_zero, List.set_cons_succ, List.getElem?_cons_zero, List.getElem?_cons_succ, List.getElem?_nil, List.length_cons, List.length_nil, List.cons_append, List.nil_append, List.replicate_succ, List.replicate_zero, Option.join, Option.bind_some, Option.bind, Option.map_some, Option.map_none, Nat.reduceSub, Nat.reduceAdd, Nat.add_zero, Nat.zero_add, List.append_nil, if_true, if_false, Bool.false_eq_true, Bool.not_true, Bool.not_false, reduceIte, decide_true, decide_false, Nat.reduceLeDiff, TP.mkTup, TP.mkLst, TP.fits_eq]
end K20

end
set_option Elab.async false
set_option linter.all false
set_option maxRecDepth 100000
noncomputable section
namespace K20
open PySem L2 TP
theorem pick_ok {cs : List Int} (h : Cells cs) (at' many : Int) (hm : 0 < many) : ∃ r : Nat, (r : Int) < many ∧ g__law_pick [.lst (cs.map .int), .int at', .int many] = .ok (.int r) := by
  have hl : (0 : Int) < (cs.length : Int) := by have := h.1; omega
  obtain ⟨n, _, e⟩ := getX_ints cs (at' % cs.length) (Int.emod_nonneg _ (by omega)) (Int.emod_lt_of_pos _ hl)
  have q0 := Int.emod_nonneg n (show many ≠ 0 by omega)
  have q1 := Int.emod_lt_of_pos n hm
  refine ⟨(n % many).toNat, by omega, ?_⟩
  unfold g__law_pick b__law_pick
  simp only [TP.sem_fin, TP.fin_ret, TP.fin_ret1, TP.fin_set, TP.fin_ownP, TP.fin_par, TP.fin_kill, TP.fin_if, TP.fin_if1, TP.fin_asg, TP.fin_expr, TP.fin_for, TP.fin_loop_nil, TP.fin_sNil, TP.seq_seq, TP.seq_nil, TP.startE, TP.ap_eVar, TP.ap_eC, TP.ap_aNil, TP.ap_aCons, TP.ap_eCall, TP.ap_e2, TP.ap_e1, TP.ap_e2B, TP.ap_eB, TP.ap_eT, TP.ap_eNot, TP.ap_eAnd, TP.ap_eOr, TP.ap_eIf, TP.ap_cNot, TP.ap_cAnd, TP.ap_cOr, TP.ap_cYes, TP.ap_cChain, TP.ap_iSeq, TP.ap_iArgs, TP.ap_oNone, TP.ap_pP, TP.ap_pLb, TP.ap_pLr, TP.ap_tgName, TP.ap_pgName, TP.ap_tgTup, TP.ap_tgTupL, TP.ap_pgTup, TP.ap_tgNil, TP.ap_pgNil, TP.ap_tgCons, TP.ap_pgCons, TP.plain, TP.lent, TP.Slot.plain, TP.Slot.lent, TP.itemsD, TP.wipeP, TP.eSlice, TP.oSome, TP.truthB, TP.Out.ofO, id_eq, TP.kill, TP.ok_bind, TP.exc_bind, TP.fail_bind, TP.ofO_some, TP.ofO_none, List.map_cons, List.map_nil, List.set_cons_zero, List.set_cons_succ, List.getElem?_cons_zero, List.getElem?_cons_succ, List.getElem?_nil, List.length_cons, List.length_nil, List.cons_append, List.nil_append, List.replicate_succ, List.replicate_zero, Option.join, Option.bind_some, Option.bind, Option.map_some, Option.map_none, Nat.reduceSub, Nat.reduceAdd, Nat.add_zero, Nat.zero_add, List.append_nil, if_true, if_false, Bool.false_eq_true, Bool.not_true, Bool.not_false, reduceIte, decide_true, decide_false, Nat.reduceLeDiff, TP.mkTup, TP.mkLst, TP.fits_eq, lenL, mod_ok hl, e, int_ok, mod_ok hm]
  rw [Int.toNat_of_nonneg q0]
theorem names_turn {cs : List Int} (h : Cells cs) (at' p : Int) (c : Nat) (hc : c < 62) (e5 e6 : Slot) (k : Nat) (xs : List Str) (hk : k < 4) (hl : xs.length = k) (hp : g__law_pick [.lst (cs.map .int), .int (at' + 1), .int 4] = .ok (.int p)) (hX : NamesS signsA (sufA c) 4 p 1 xs) :
    ∃ x, NamesS signsA (sufA c) 4 p 1 (xs ++ [x]) ∧ l1__law_names [.val (.lst (cs.map .int)), .val (.int at'), .val (.int (c : Nat)), .own (.lst (xs.map .str)), .val (.int (0 + (k : Nat))), e5, e6, .un] = .nx [.val (.lst (cs.map .int)), .val (.int at'), .val (.int (c : Nat)), .own (.lst ((xs ++ [x]).map .str)), .un, e5, e6, .un] := by
  have q0 := Int.emod_nonneg (0 + (k : Int) + p) (show (4 : Int) ≠ 0 by decide)
  have q1 := Int.emod_lt_of_pos (0 + (k : Int) + p) (show (0 : Int) < 4 by decide)
  obtain ⟨ch, hc1, hc2⟩ := getX_sign signsA _ q0 (show _ < ((signsA.cps.toList.length : Nat) : Int) from q1)
  obtain ⟨r, r1, r2⟩ := pick_ok h (at' + 2 + (0 + (k : Int))) 4 (by decide)
  obtain ⟨y, y1, _, y2⟩ := getX_ltT D.str (sufA c) r (by have : (sufA c).length = 4 := rfl; omega)
  have y3 := sufA_len hc y y1
  have hx : addD (.str "x") (.str (strX (c : Nat))) = .ok (.str (("x" : Str) ++ strX c)) := add_str _ _ (by have := strX_len hc; have : ("x" : Str).length = 1 := rfl; omega)
  have e1 : (0 + (k : Int) + p) % 4 = (p + (xs.length : Nat) * 1) % 4 := by rw [hl]; congr 1; omega
  rw [e1] at hc1
  refine ⟨(⟨#[ch]⟩ : Str) ++ y, hX.push y1 hc1, ?_⟩
  have eL : ([D.str "", D.str (strX (c : Nat)), D.str (("x" : Str) ++ strX (c : Nat)), D.str "Q9"] : List TP.D) = (sufA c).map .str := rfl
  have hc3 : getX (.str "AGMT") (.int ((0 + (k : Int) + p) % 4)) = .ok (.str ⟨#[ch]⟩) := hc2
  unfold l1__law_names
  simp only [TP.ap_sSeq, TP.ap_sNil, TP.ap_sSet, TP.ap_sIf, TP.ap_sKill, TP.ap_sAsg, TP.ap_sExpr, TP.ap_sOwnP, TP.ap_sRet, TP.ap_sAppend, TP.ap_sPop, TP.ap_sPar, TP.ap_sPut, TP.ap_sFor, TP.ap_sRetN, TP.ap_sBreak, TP.ap_sCont, TP.ap_eVar, TP.ap_eC, TP.ap_aNil, TP.ap_aCons, TP.ap_eCall, TP.ap_e2, TP.ap_e1, TP.ap_e2B, TP.ap_eB, TP.ap_eT, TP.ap_eNot, TP.ap_eAnd, TP.ap_eOr, TP.ap_eIf, TP.ap_cNot, TP.ap_cAnd, TP.ap_cOr, TP.ap_cYes, TP.ap_cChain, TP.ap_iSeq, TP.ap_iArgs, TP.ap_oNone, TP.ap_pP, TP.ap_pLb, TP.ap_pLr, TP.ap_tgName, TP.ap_pgName, TP.ap_tgTup, TP.ap_tgTupL, TP.ap_pgTup, TP.ap_tgNil, TP.ap_pgNil, TP.ap_tgCons, TP.ap_pgCons, TP.plain, TP.lent, TP.Slot.plain, TP.Slot.lent, TP.itemsD, TP.wipeP, TP.eSlice, TP.oSome, TP.truthB, TP.Out.ofO, id_eq, TP.kill, TP.ok_bind, TP.exc_bind, TP.fail_bind, TP.ofO_some, TP.ofO_none, List.map_cons, List.map_nil, List.set_cons_zero, List.set_cons_succ, List.getElem?_cons_zero, List.getElem?_cons_succ, List.getElem?_nil, List.length_cons, List.length_nil, List.cons_append, List.nil_append, List.replicate_succ, List.replicate_zero, Option.join, Option.bind_some, Option.bind, Option.map_some, Option.map_none, Nat.reduceSub, Nat.reduceAdd, Nat.add_zero, Nat.zero_add, List.append_nil, if_true, if_false, Bool.false_eq_true, Bool.not_true, Bool.not_false, reduceIte, decide_true, decide_false, Nat.reduceLeDiff, TP.mkTup, TP.mkLst, TP.fits_eq, add_ok, hp, int_ok, mod_ok (show (0 : Int) < 4 by decide), hc3, str_ok hc, hx, r2]
  rw [eL, y2]
  simp only [TP.ap_sSeq, TP.ap_sNil, TP.ap_sSet, TP.ap_sIf, TP.ap_sKill, TP.ap_sAsg, TP.ap_sExpr, TP.ap_sOwnP, TP.ap_sRet, TP.ap_sAppend, TP.ap_sPop, TP.ap_sPar, TP.ap_sPut, TP.ap_sFor, TP.ap_sRetN, TP.ap_sBreak, TP.ap_sCont, TP.ap_eVar, TP.ap_eC, TP.ap_aNil, TP.ap_aCons, TP.ap_eCall, TP.ap_e2, TP.ap_e1, TP.ap_e2B, TP.ap_eB, TP.ap_eT, TP.ap_eNot, TP.ap_eAnd, TP.ap_eOr, TP.ap_eIf, TP.ap_cNot, TP.ap_cAnd, TP.ap_cOr, TP.ap_cYes, TP.ap_cChain, TP.ap_iSeq, TP.ap_iArgs, TP.ap_oNone, TP.ap_pP, TP.ap_pLb, TP.ap_pLr, TP.ap_tgName, TP.ap_pgName, TP.ap_tgTup, TP.ap_tgTupL, TP.ap_pgTup, TP.ap_tgNil, TP.ap_pgNil, TP.ap_tgCons, TP.ap_pgCons, TP.plain, TP.lent, TP.Slot.plain, TP.Slot.lent, TP.itemsD, TP.wipeP, TP.eSlice, TP.oSome, TP.truthB, TP.Out.ofO, id_eq, TP.kill, TP.ok_bind, TP.exc_bind, TP.fail_bind, TP.ofO_some, TP.ofO_none, List.map_cons, List.map_nil, List.set_cons_zero, List.set_cons_succ, List.getElem?_cons_zero, List.getElem?_cons_succ, List.getElem?_nil, List.length_cons, List.length_nil, List.cons_append, List.nil_append, List.replicate_succ, List.replicate_zero, Option.join, Option.bind_some, Option.bind, Option.map_some, Option.map_none, Nat.reduceSub, Nat.reduceAdd, Nat.add_zero, Nat.zero_add, List.append_nil, if_true, if_false, Bool.false_eq_true, Bool.not_true, Bool.not_false, reduceIte, decide_true, decide_false, Nat.reduceLeDiff, TP.mkTup, TP.mkLst, TP.fits_eq, add_str (⟨#[ch]⟩ : Str) y (by have : (⟨#[ch]⟩ : Str).length = 1 := rfl; omega), List.length_map, decide_eq_true (show xs.length ≤ 16777215 by omega)]
  rw [List.map_append]
  rfl
theorem names_ok {cs : List Int} (h : Cells cs) (at' : Int) : ∃ cols rows, ColsA cols ∧ RowsA rows ∧ g__law_names [.lst (cs.map .int), .int at'] = .ok (.tup [.lst (cols.map .str), .lst (rows.map .str)]) := by
  obtain ⟨r0, a0, b0⟩ := pick_ok h at' 60 (by decide)
  obtain ⟨p, a1, b1⟩ := pick_ok h (at' + 1) 4 (by decide)
  obtain ⟨r6, a6, b6⟩ := pick_ok h (at' + 6) 2 (by decide)
  obtain ⟨t, a7, b7⟩ := pick_ok h (at' + 7) 3 (by decide)
  obtain ⟨c, hc, hc62⟩ : ∃ c : Nat, (2 : Int) + (r0 : Int) = (c : Nat) ∧ c < 62 := ⟨2 + r0, by omega, by omega⟩
  obtain ⟨ρ', e, q⟩ := loop_inv (t := tgName 4) (b := l1__law_names) (fun i ρ => i ≤ 4 ∧ ∃ xs, xs.length = i ∧ NamesS signsA (sufA c) 4 p 1 xs ∧ ρ = [.val (.lst (cs.map .int)), .val (.int at'), .val (.int (c : Nat)), .own (.lst (xs.map .str)), .un, .un, .un, .un]) (rangeL 0 4) 0
    [.val (.lst (cs.map .int)), .val (.int at'), .val (.int (c : Nat)), .own (.lst []), .un, .un, .un, .un] ⟨by omega, [], rfl, (fun k x h => by simp at h), rfl⟩ (by
    rintro j x ρ hj ⟨hi, xs, hl, hX, rfl⟩
    obtain ⟨hj1, rfl⟩ := rangeL_get _ _ _ _ hj
    rw [Nat.zero_add] at hl
    obtain ⟨x, h1, h2⟩ := names_turn h at' p c hc62 .un .un j xs (by omega) hl b1 hX
    exact ⟨_, _, rfl, .inl h2, by omega, _, by simp [hl], h1, rfl⟩)
  obtain ⟨_, xs, hl, hX, rfl⟩ := q
  rw [rangeL_len, Nat.zero_add] at hl
  obtain ⟨b, hb, eb⟩ : ∃ b : Str, (b = "c" ∨ b = "x") ∧ getX (.str "cx") (.int (r6 : Nat)) = .ok (.str b) := by
    have : r6 = 0 ∨ r6 = 1 := by omega
    rcases this with rfl | rfl
    · exact ⟨"c", .inl rfl, rfl⟩
    · exact ⟨"x", .inr rfl, rfl⟩
  refine ⟨xs, (rowsA b c).drop t ++ (rowsA b c).take t, ⟨hl, c, p, hc62, hX⟩, ⟨b, c, t, hb, hc62, by omega, rfl⟩, ?_⟩
  have r4 : rangeD1 [.int 4] = .ok (rangeL 0 4) := rd1 4 (by decide)
  have hx : addD (.str "k") (.str (strX (c : Nat))) = .ok (.str (("k" : Str) ++ strX c)) := add_str _ _ (by have := strX_len hc62; have : ("k" : Str).length = 1 := rfl; omega)
  have eL : ([D.str b, D.str (("k" : Str) ++ strX (c : Nat)), D.str "8z"] : List TP.D) = (rowsA b c).map .str := rfl
  have hal : addD (.lst (((rowsA b c).drop t).map .str)) (.lst (((rowsA b c).take t).map .str)) = .ok (.lst (((rowsA b c).drop t ++ (rowsA b c).take t).map .str)) := by
    rw [add_lst _ _ (by rw [List.length_map, List.length_map, List.length_drop, List.length_take]; have : (rowsA b c).length = 3 := rfl; omega), List.map_append]
  unfold g__law_names b__law_names
  simp only [TP.sem_fin, TP.fin_ret, TP.fin_ret1, TP.fin_set, TP.fin_ownP, TP.fin_par, TP.fin_kill, TP.fin_if, TP.fin_if1, TP.fin_asg, TP.fin_expr, TP.fin_for, TP.fin_loop_nil, TP.fin_sNil, TP.seq_seq, TP.seq_nil, TP.startE, TP.ap_eVar, TP.ap_eC, TP.ap_aNil, TP.ap_aCons, TP.ap_eCall, TP.ap_e2, TP.ap_e1, TP.ap_e2B, TP.ap_eB, TP.ap_eT, TP.ap_eNot, TP.ap_eAnd, TP.ap_eOr, TP.ap_eIf, TP.ap_cNot, TP.ap_cAnd, TP.ap_cOr, TP.ap_cYes, TP.ap_cChain, TP.ap_iSeq, TP.ap_iArgs, TP.ap_oNone, TP.ap_pP, TP.ap_pLb, TP.ap_pLr, TP.ap_tgName, TP.ap_pgName, TP.ap_tgTup, TP.ap_tgTupL, TP.ap_pgTup, TP.ap_tgNil, TP.ap_pgNil, TP.ap_tgCons, TP.ap_pgCons, TP.plain, TP.lent, TP.Slot.plain, TP.Slot.lent, TP.itemsD, TP.wipeP, TP.eSlice, TP.oSome, TP.truthB, TP.Out.ofO, id_eq, TP.kill, TP.ok_bind, TP.exc_bind, TP.fail_bind, TP.ofO_some, TP.ofO_none, List.map_cons, List.map_nil, List.set_cons_zero, List.set_cons_succ, List.getElem?_cons_zero, List.getElem?_cons_succ, List.getElem?_nil, List.length_cons, List.length_nil, List.cons_append, List.nil_append, List.replicate_succ, List.replicate_zero, Option.join, Option.bind_some, Option.bind, Option.map_some, Option.map_none, Nat.reduceSub, Nat.reduceAdd, Nat.add_zero, Nat.zero_add, List.append_nil, if_true, if_false, Bool.false_eq_true, Bool.not_true, Bool.not_false, reduceIte, decide_true, decide_false, Nat.reduceLeDiff, TP.mkTup, TP.mkLst, TP.fits_eq, b0, add_ok, hc, r4]
  rw [fin_loop e]
  simp only [TP.sem_fin, TP.fin_ret, TP.fin_ret1, TP.fin_set, TP.fin_ownP, TP.fin_par, TP.fin_kill, TP.fin_if, TP.fin_if1, TP.fin_asg, TP.fin_expr, TP.fin_for, TP.fin_loop_nil, TP.fin_sNil, TP.seq_seq, TP.seq_nil, TP.startE, TP.ap_eVar, TP.ap_eC, TP.ap_aNil, TP.ap_aCons, TP.ap_eCall, TP.ap_e2, TP.ap_e1, TP.ap_e2B, TP.ap_eB, TP.ap_eT, TP.ap_eNot, TP.ap_eAnd, TP.ap_eOr, TP.ap_eIf, TP.ap_cNot, TP.ap_cAnd, TP.ap_cOr, TP.ap_cYes, TP.ap_cChain, TP.ap_iSeq, TP.ap_iArgs, TP.ap_oNone, TP.ap_pP, TP.ap_pLb, TP.ap_pLr, TP.ap_tgName, TP.ap_pgName, TP.ap_tgTup, TP.ap_tgTupL, TP.ap_pgTup, TP.ap_tgNil, TP.ap_pgNil, TP.ap_tgCons, TP.ap_pgCons, TP.plain, TP.lent, TP.Slot.plain, TP.Slot.lent, TP.itemsD, TP.wipeP, TP.eSlice, TP.oSome, TP.truthB, TP.Out.ofO, id_eq, TP.kill, TP.ok_bind, TP.exc_bind, TP.fail_bind, TP.ofO_some, TP.ofO_none, List.map_cons, List.map_nil, List.set_cons_zero, List.set_cons_succ, List.getElem?_cons_zero, List.getElem?_cons_succ, List.getElem?_nil, List.length_cons, List.length_nil, List.cons_append, List.nil_append, List.replicate_succ, List.replicate_zero, Option.join, Option.bind_some, Option.bind, Option.map_some, Option.map_none, Nat.reduceSub, Nat.reduceAdd, Nat.add_zero, Nat.zero_add, List.append_nil, if_true, if_false, Bool.false_eq_true, Bool.not_true, Bool.not_false, reduceIte, decide_true, decide_false, Nat.reduceLeDiff, TP.mkTup, TP.mkLst, TP.fits_eq, b6, add_ok, eb, str_ok hc62, hx, b7]
  simp only [eL]
  simp only [TP.sem_fin, TP.fin_ret, TP.fin_ret1, TP.fin_set, TP.fin_ownP, TP.fin_par, TP.fin_kill, TP.fin_if, TP.fin_if1, TP.fin_asg, TP.fin_expr, TP.fin_for, TP.fin_loop_nil, TP.fin_sNil, TP.seq_seq, TP.seq_nil, TP.startE, TP.ap_eVar, TP.ap_eC, TP.ap_aNil, TP.ap_aCons, TP.ap_eCall, TP.ap_e2, TP.ap_e1, TP.ap_e2B, TP.ap_eB, TP.ap_eT, TP.ap_eNot, TP.ap_eAnd, TP.ap_eOr, TP.ap_eIf, TP.ap_cNot, TP.ap_cAnd, TP.ap_cOr, TP.ap_cYes, TP.ap_cChain, TP.ap_iSeq, TP.ap_iArgs, TP.ap_oNone, TP.ap_pP, TP.ap_pLb, TP.ap_pLr, TP.ap_tgName, TP.ap_pgName, TP.ap_tgTup, TP.ap_tgTupL, TP.ap_pgTup, TP.ap_tgNil, TP.ap_pgNil, TP.ap_tgCons, TP.ap_pgCons, TP.plain, TP.lent, TP.Slot.plain, TP.Slot.lent, TP.itemsD, TP.wipeP, TP.eSlice, TP.oSome, TP.truthB, TP.Out.ofO, id_eq, TP.kill, TP.ok_bind, TP.exc_bind, TP.fail_bind, TP.ofO_some, TP.ofO_none, List.map_cons, List.map_nil, List.set_cons_zero, List.set_cons_succ, List.getElem?_cons_zero, List.getElem?_cons_succ, List.getElem?_nil, List.length_cons, List.length_nil, List.cons_append, List.nil_append, List.replicate_succ, List.replicate_zero, Option.join, Option.bind_some, Option.bind, Option.map_some, Option.map_none, Nat.reduceSub, Nat.reduceAdd, Nat.add_zero, Nat.zero_add, List.append_nil, if_true, if_false, Bool.false_eq_true, Bool.not_true, Bool.not_false, reduceIte, decide_true, decide_false, Nat.reduceLeDiff, TP.mkTup, TP.mkLst, TP.fits_eq, asInt, sl_fromM, sl_toM, hal]
theorem steps_row (cols : List Str) (sorts : List Str) (a1 : Slot) (k : Nat) (col srt' : Str) (hc : cols[k]? = some col) (hs : sorts[k]? = some srt') : ∀ (rows : List Str) (L : List S3), L.length + 2 * rows.length ≤ 100000 →
    loop (tgName 5) l1__law_steps (rows.map .str) [.val (.lst (cols.map .str)), a1, .val (.lst (sorts.map .str)), .own (.lst (L.map en3)), .val (.int (0 + (k : Nat))), .un] =
      .nx [.val (.lst (cols.map .str)), a1, .val (.lst (sorts.map .str)), .own (.lst ((L ++ rows.flatMap fun r => [(("read" : Str), col, r), (srt', col, r)]).map en3)), .val (.int (0 + (k : Nat))), .un]
  | [], L, _ => by simp; rfl
  | r :: rows, L, h => by
    rw [List.length_cons] at h
    have ih := steps_row cols sorts a1 k col srt' hc hs rows (L ++ [(("read" : Str), col, r), (srt', col, r)]) (by rw [List.length_append]; simp; omega)
    have c1 : getX (.lst (cols.map .str)) (.int (0 + (k : Nat))) = .ok (.str col) := by rw [Int.zero_add]; exact getX_lstM hc
    have c2 : getX (.lst (sorts.map .str)) (.int (0 + (k : Nat))) = .ok (.str srt') := by rw [Int.zero_add]; exact getX_lstM hs
    have f1 : decide (L.length ≤ 16777215) = true := decide_eq_true (by omega)
    have f2 : decide (L.length ≤ 16777214) = true := decide_eq_true (by omega)
    rw [List.map_cons]
    unfold loop
    have e : l1__law_steps [.val (.lst (cols.map .str)), a1, .val (.lst (sorts.map .str)), .own (.lst (L.map en3)), .val (.int (0 + (k : Nat))), .val (.str r)] =
      .nx [.val (.lst (cols.map .str)), a1, .val (.lst (sorts.map .str)), .own (.lst ((L ++ [(("read" : Str), col, r), (srt', col, r)]).map en3)), .val (.int (0 + (k : Nat))), .un] := by
      unfold l1__law_steps
      simp only [TP.ap_sSeq, TP.ap_sNil, TP.ap_sSet, TP.ap_sIf, TP.ap_sKill, TP.ap_sAsg, TP.ap_sExpr, TP.ap_sOwnP, TP.ap_sRet, TP.ap_sAppend, TP.ap_sPop, TP.ap_sPar, TP.ap_sPut, TP.ap_sFor, TP.ap_sRetN, TP.ap_sBreak, TP.ap_sCont, TP.ap_eVar, TP.ap_eC, TP.ap_aNil, TP.ap_aCons, TP.ap_eCall, TP.ap_e2, TP.ap_e1, TP.ap_e2B, TP.ap_eB, TP.ap_eT, TP.ap_eNot, TP.ap_eAnd, TP.ap_eOr, TP.ap_eIf, TP.ap_cNot, TP.ap_cAnd, TP.ap_cOr, TP.ap_cYes, TP.ap_cChain, TP.ap_iSeq, TP.ap_iArgs, TP.ap_oNone, TP.ap_pP, TP.ap_pLb, TP.ap_pLr, TP.ap_tgName, TP.ap_pgName, TP.ap_tgTup, TP.ap_tgTupL, TP.ap_pgTup, TP.ap_tgNil, TP.ap_pgNil, TP.ap_tgCons, TP.ap_pgCons, TP.plain, TP.lent, TP.Slot.plain, TP.Slot.lent, TP.itemsD, TP.wipeP, TP.eSlice, TP.oSome, TP.truthB, TP.Out.ofO, id_eq, TP.kill, TP.ok_bind, TP.exc_bind, TP.fail_bind, TP.ofO_some, TP.ofO_none, List.map_cons, List.map_nil, List.set_cons_zero, List.set_cons_succ, List.getElem?_cons_zero, List.getElem?_cons_succ, List.getElem?_nil, List.length_cons, List.length_nil, List.cons_append, List.nil_append, List.replicate_succ, List.replicate_zero, Option.join, Option.bind_some, Option.bind, Option.map_some, Option.map_none, Nat.reduceSub, Nat.reduceAdd, Nat.add_zero, Nat.zero_add, List.append_nil, if_true, if_false, Bool.false_eq_true, Bool.not_true, Bool.not_false, reduceIte, decide_true, decide_false, Nat.reduceLeDiff, TP.mkTup, TP.mkLst, TP.fits_eq, c1, c2, List.length_map, List.length_append, f1, f2]
      rw [List.map_append, List.append_assoc]
      rfl
    have e' : ∀ ρ1, tgName 5 (.str r) [.val (.lst (cols.map .str)), a1, .val (.lst (sorts.map .str)), .own (.lst (L.map en3)), .val (.int (0 + (k : Nat))), .un] = some ρ1 → l1__law_steps ρ1 = _ := fun ρ1 hρ => by cases hρ; exact e
    rw [show tgName 5 (.str r) [.val (.lst (cols.map .str)), a1, .val (.lst (sorts.map .str)), .own (.lst (L.map en3)), .val (.int (0 + (k : Nat))), .un] = some _ from rfl]
    dsimp only [List.set_cons_zero, List.set_cons_succ]
    rw [e]
    dsimp only
    rw [ih, List.flatMap_cons, List.append_assoc]
def stepsL (rows : List Str) (l : List (Str × Str)) : List S3 := l.flatMap fun p => rows.flatMap fun r => [(("read" : Str), p.1, r), (p.2, p.1, r)]
theorem stepsL_len (rows : List Str) : ∀ l, (stepsL rows l).length = l.length * (2 * rows.length)
  | [] => by simp [stepsL]
  | p :: l => by
    have ih := stepsL_len rows l
    have e : (rows.flatMap fun r => [(("read", p.1, r) : S3), (p.2, p.1, r)]).length = 2 * rows.length := by
      induction rows with
      | nil => rfl
      | cons r rs ih2 => rw [List.flatMap_cons, List.length_append, List.length_cons, ih2 (stepsL_len rs l)]; simp; omega
    unfold stepsL at ih ⊢
    rw [List.flatMap_cons, List.length_append, ih, e, List.length_cons, Nat.add_mul]
    omega
theorem stepsL_mem {rows : List Str} {l : List (Str × Str)} {t : S3} (h : t ∈ stepsL rows l) : t.2.2 ∈ rows ∧ ∃ p ∈ l, t.2.1 = p.1 ∧ (t.1 = "read" ∨ t.1 = p.2) := by
  unfold stepsL at h
  rw [List.mem_flatMap] at h
  obtain ⟨p, hp, h⟩ := h
  rw [List.mem_flatMap] at h
  obtain ⟨r, hr, h⟩ := h
  simp only [List.mem_cons, List.not_mem_nil, or_false] at h
  rcases h with rfl | rfl
  · exact ⟨hr, p, hp, rfl, .inl rfl⟩
  · exact ⟨hr, p, hp, rfl, .inr rfl⟩
theorem steps_ok (cols sorts rows : List Str) (hl : cols.length = sorts.length) (h4 : cols.length ≤ 4) (h3 : rows.length ≤ 3) : g__law_steps [.lst (cols.map .str), .lst (rows.map .str), .lst (sorts.map .str)] = .ok (.lst ((stepsL rows (cols.zip sorts)).map en3)) := by
  have lp := loop_upto (t := tgName 4) (b := l2__law_steps) cols.length (fun k => [.val (.lst (cols.map .str)), .val (.lst (rows.map .str)), .val (.lst (sorts.map .str)), .own (.lst ((stepsL rows ((cols.zip sorts).take k)).map en3)), .un, .un]) (fun k hk => by
    have hc : cols[k]? = some cols[k] := List.getElem?_eq_getElem hk
    have hs : sorts[k]? = some sorts[k] := List.getElem?_eq_getElem (by omega)
    refine ⟨_, rfl, .inl ?_⟩
    have hln := stepsL_len rows ((cols.zip sorts).take k)
    have hz : ((cols.zip sorts).take k).length ≤ 4 := by rw [List.length_take, List.length_zip]; omega
    have hb : (stepsL rows ((cols.zip sorts).take k)).length ≤ 24 := by
      rw [hln]
      exact Nat.le_trans (Nat.mul_le_mul hz (show 2 * rows.length ≤ 6 by omega)) (by decide)
    have r := steps_row cols sorts (.val (.lst (rows.map .str))) k _ _ hc hs rows (stepsL rows ((cols.zip sorts).take k)) (by omega)
    unfold l2__law_steps
    simp only [TP.ap_sSeq, TP.ap_sNil, TP.ap_sSet, TP.ap_sIf, TP.ap_sKill, TP.ap_sAsg, TP.ap_sExpr, TP.ap_sOwnP, TP.ap_sRet, TP.ap_sAppend, TP.ap_sPop, TP.ap_sPar, TP.ap_sPut, TP.ap_sFor, TP.ap_sRetN, TP.ap_sBreak, TP.ap_sCont, TP.ap_eVar, TP.ap_eC, TP.ap_aNil, TP.ap_aCons, TP.ap_eCall, TP.ap_e2, TP.ap_e1, TP.ap_e2B, TP.ap_eB, TP.ap_eT, TP.ap_eNot, TP.ap_eAnd, TP.ap_eOr, TP.ap_eIf, TP.ap_cNot, TP.ap_cAnd, TP.ap_cOr, TP.ap_cYes, TP.ap_cChain, TP.ap_iSeq, TP.ap_iArgs, TP.ap_oNone, TP.ap_pP, TP.ap_pLb, TP.ap_pLr, TP.ap_tgName, TP.ap_pgName, TP.ap_tgTup, TP.ap_tgTupL, TP.ap_pgTup, TP.ap_tgNil, TP.ap_pgNil, TP.ap_tgCons, TP.ap_pgCons, TP.plain, TP.lent, TP.Slot.plain, TP.Slot.lent, TP.itemsD, TP.wipeP, TP.eSlice, TP.oSome, TP.truthB, TP.Out.ofO, id_eq, TP.kill, TP.ok_bind, TP.exc_bind, TP.fail_bind, TP.ofO_some, TP.ofO_none, List.map_cons, List.map_nil, List.set_cons_zero, List.set_cons_succ, List.getElem?_cons_zero, List.getElem?_cons_succ, List.getElem?_nil, List.length_cons, List.length_nil, List.cons_append, List.nil_append, List.replicate_succ, List.replicate_zero, Option.join, Option.bind_some, Option.bind, Option.map_some, Option.map_none, Nat.reduceSub, Nat.reduceAdd, Nat.add_zero, Nat.zero_add, List.append_nil, if_true, if_false, Bool.false_eq_true, Bool.not_true, Bool.not_false, reduceIte, decide_true, decide_false, Nat.reduceLeDiff, TP.mkTup, TP.mkLst, TP.fits_eq]
    rw [r]
    simp only [TP.ap_sSeq, TP.ap_sNil, TP.ap_sSet, TP.ap_sIf, TP.ap_sKill, TP.ap_sAsg, TP.ap_sExpr, TP.ap_sOwnP, TP.ap_sRet, TP.ap_sAppend, TP.ap_sPop, TP.ap_sPar, TP.ap_sPut, TP.ap_sFor, TP.ap_sRetN, TP.ap_sBreak, TP.ap_sCont, TP.ap_eVar, TP.ap_eC, TP.ap_aNil, TP.ap_aCons, TP.ap_eCall, TP.ap_e2, TP.ap_e1, TP.ap_e2B, TP.ap_eB, TP.ap_eT, TP.ap_eNot, TP.ap_eAnd, TP.ap_eOr, TP.ap_eIf, TP.ap_cNot, TP.ap_cAnd, TP.ap_cOr, TP.ap_cYes, TP.ap_cChain, TP.ap_iSeq, TP.ap_iArgs, TP.ap_oNone, TP.ap_pP, TP.ap_pLb, TP.ap_pLr, TP.ap_tgName, TP.ap_pgName, TP.ap_tgTup, TP.ap_tgTupL, TP.ap_pgTup, TP.ap_tgNil, TP.ap_pgNil, TP.ap_tgCons, TP.ap_pgCons, TP.plain, TP.lent, TP.Slot.plain, TP.Slot.lent, TP.itemsD, TP.wipeP, TP.eSlice, TP.oSome, TP.truthB, TP.Out.ofO, id_eq, TP.kill, TP.ok_bind, TP.exc_bind, TP.fail_bind, TP.ofO_some, TP.ofO_none, List.map_cons, List.map_nil, List.set_cons_zero, List.set_cons_succ, List.getElem?_cons_zero, List.getElem?_cons_succ, List.getElem?_nil, List.length_cons, List.length_nil, List.cons_append, List.nil_append, List.replicate_succ, List.replicate_zero, Option.join, Option.bind_some, Option.bind, Option.map_some, Option.map_none, Nat.reduceSub, Nat.reduceAdd, Nat.add_zero, Nat.zero_add, List.append_nil, if_true, if_false, Bool.false_eq_true, Bool.not_true, Bool.not_false, reduceIte, decide_true, decide_false, Nat.reduceLeDiff, TP.mkTup, TP.mkLst, TP.fits_eq]
    have e : stepsL rows ((cols.zip sorts).take (k + 1)) = stepsL rows ((cols.zip sorts).take k) ++ rows.flatMap fun r => [(("read" : Str), cols[k], r), (sorts[k], cols[k], r)] := by
      unfold stepsL
      rw [List.take_succ, (List.getElem?_zip_eq_some (z := (cols[k], sorts[k]))).mpr ⟨hc, hs⟩, List.flatMap_append]
      simp
    rw [e])
  have lp' : loop (tgName 4) l2__law_steps (rangeL 0 cols.length) [.val (.lst (cols.map .str)), .val (.lst (rows.map .str)), .val (.lst (sorts.map .str)), .own (.lst []), .un, .un] = _ := lp
  unfold g__law_steps b__law_steps
  simp only [TP.sem_fin, TP.fin_ret, TP.fin_ret1, TP.fin_set, TP.fin_ownP, TP.fin_par, TP.fin_kill, TP.fin_if, TP.fin_if1, TP.fin_asg, TP.fin_expr, TP.fin_for, TP.fin_loop_nil, TP.fin_sNil, TP.seq_seq, TP.seq_nil, TP.startE, TP.ap_eVar, TP.ap_eC, TP.ap_aNil, TP.ap_aCons, TP.ap_eCall, TP.ap_e2, TP.ap_e1, TP.ap_e2B, TP.ap_eB, TP.ap_eT, TP.ap_eNot, TP.ap_eAnd, TP.ap_eOr, TP.ap_eIf, TP.ap_cNot, TP.ap_cAnd, TP.ap_cOr, TP.ap_cYes, TP.ap_cChain, TP.ap_iSeq, TP.ap_iArgs, TP.ap_oNone, TP.ap_pP, TP.ap_pLb, TP.ap_pLr, TP.ap_tgName, TP.ap_pgName, TP.ap_tgTup, TP.ap_tgTupL, TP.ap_pgTup, TP.ap_tgNil, TP.ap_pgNil, TP.ap_tgCons, TP.ap_pgCons, TP.plain, TP.lent, TP.Slot.plain, TP.Slot.lent, TP.itemsD, TP.wipeP, TP.eSlice, TP.oSome, TP.truthB, TP.Out.ofO, id_eq, TP.kill, TP.ok_bind, TP.exc_bind, TP.fail_bind, TP.ofO_some, TP.ofO_none, List.map_cons, List.map_nil, List.set_cons_zero, List.set_cons_succ, List.getElem?_cons_zero, List.getElem?_cons_succ, List.getElem?_nil, List.length_cons, List.length_nil, List.cons_append, List.nil_append, List.replicate_succ, List.replicate_zero, Option.join, Option.bind_some, Option.bind, Option.map_some, Option.map_none, Nat.reduceSub, Nat.reduceAdd, Nat.add_zero, Nat.zero_add, List.append_nil, if_true, if_false, Bool.false_eq_true, Bool.not_true, Bool.not_false, reduceIte, decide_true, decide_false, Nat.reduceLeDiff, TP.mkTup, TP.mkLst, TP.fits_eq, lenL, rd1 cols.length (by omega)]
  rw [fin_loop lp']
  simp only [TP.sem_fin, TP.fin_ret, TP.fin_ret1, TP.fin_set, TP.fin_ownP, TP.fin_par, TP.fin_kill, TP.fin_if, TP.fin_if1, TP.fin_asg, TP.fin_expr, TP.fin_for, TP.fin_loop_nil, TP.fin_sNil, TP.seq_seq, TP.seq_nil, TP.startE, TP.ap_eVar, TP.ap_eC, TP.ap_aNil, TP.ap_aCons, TP.ap_eCall, TP.ap_e2, TP.ap_e1, TP.ap_e2B, TP.ap_eB, TP.ap_eT, TP.ap_eNot, TP.ap_eAnd, TP.ap_eOr, TP.ap_eIf, TP.ap_cNot, TP.ap_cAnd, TP.ap_cOr, TP.ap_cYes, TP.ap_cChain, TP.ap_iSeq, TP.ap_iArgs, TP.ap_oNone, TP.ap_pP, TP.ap_pLb, TP.ap_pLr, TP.ap_tgName, TP.ap_pgName, TP.ap_tgTup, TP.ap_tgTupL, TP.ap_pgTup, TP.ap_tgNil, TP.ap_pgNil, TP.ap_tgCons, TP.ap_pgCons, TP.plain, TP.lent, TP.Slot.plain, TP.Slot.lent, TP.itemsD, TP.wipeP, TP.eSlice, TP.oSome, TP.truthB, TP.Out.ofO, id_eq, TP.kill, TP.ok_bind, TP.exc_bind, TP.fail_bind, TP.ofO_some, TP.ofO_none, List.map_cons, List.map_nil, List.set_cons_zero, List.set_cons_succ, List.getElem?_cons_zero, List.getElem?_cons_succ, List.getElem?_nil, List.length_cons, List.length_nil, List.cons_append, List.nil_append, List.replicate_succ, List.replicate_zero, Option.join, Option.bind_some, Option.bind, Option.map_some, Option.map_none, Nat.reduceSub, Nat.reduceAdd, Nat.add_zero, Nat.zero_add, List.append_nil, if_true, if_false, Bool.false_eq_true, Bool.not_true, Bool.not_false, reduceIte, decide_true, decide_false, Nat.reduceLeDiff, TP.mkTup, TP.mkLst, TP.fits_eq]
  rw [List.take_of_length_le (by rw [List.length_zip]; omega)]
theorem deal_turn {cs : List Int} (h : Cells cs) (at' : Int) (L : List S3) (hL : 0 < L.length) (m : Slot) (T : List S3) (k : Nat) (hT : T.length ≤ 1000) :
    ∃ t ∈ L, l1__law_deal [.val (.lst (cs.map .int)), .val (.int at'), .val (.lst (L.map en3)), m, .own (.lst (T.map en3)), .val (.int (0 + (k : Nat))), .un] = .nx [.val (.lst (cs.map .int)), .val (.int at'), .val (.lst (L.map en3)), m, .own (.lst ((if t ∈ T then T else T ++ [t]).map en3)), .un, .un] := by
  obtain ⟨r, a1, b1⟩ := pick_ok h (at' + 1 + (0 + (k : Int))) L.length (by omega)
  obtain ⟨t, h1, _, h2⟩ := getX_lt en3 L r (by omega)
  refine ⟨t, h1, ?_⟩
  unfold l1__law_deal
  have ff : decide (T.length ≤ 16777215) = true := decide_eq_true (by omega)
  simp only [TP.ap_sSeq, TP.ap_sNil, TP.ap_sSet, TP.ap_sIf, TP.ap_sKill, TP.ap_sAsg, TP.ap_sExpr, TP.ap_sOwnP, TP.ap_sRet, TP.ap_sAppend, TP.ap_sPop, TP.ap_sPar, TP.ap_sPut, TP.ap_sFor, TP.ap_sRetN, TP.ap_sBreak, TP.ap_sCont, TP.ap_eVar, TP.ap_eC, TP.ap_aNil, TP.ap_aCons, TP.ap_eCall, TP.ap_e2, TP.ap_e1, TP.ap_e2B, TP.ap_eB, TP.ap_eT, TP.ap_eNot, TP.ap_eAnd, TP.ap_eOr, TP.ap_eIf, TP.ap_cNot, TP.ap_cAnd, TP.ap_cOr, TP.ap_cYes, TP.ap_cChain, TP.ap_iSeq, TP.ap_iArgs, TP.ap_oNone, TP.ap_pP, TP.ap_pLb, TP.ap_pLr, TP.ap_tgName, TP.ap_pgName, TP.ap_tgTup, TP.ap_tgTupL, TP.ap_pgTup, TP.ap_tgNil, TP.ap_pgNil, TP.ap_tgCons, TP.ap_pgCons, TP.plain, TP.lent, TP.Slot.plain, TP.Slot.lent, TP.itemsD, TP.wipeP, TP.eSlice, TP.oSome, TP.truthB, TP.Out.ofO, id_eq, TP.kill, TP.ok_bind, TP.exc_bind, TP.fail_bind, TP.ofO_some, TP.ofO_none, List.map_cons, List.map_nil, List.set_cons_zero, List.set_cons_succ, List.getElem?_cons_zero, List.getElem?_cons_succ, List.getElem?_nil, List.length_cons, List.length_nil, List.cons_append, List.nil_append, List.replicate_succ, List.replicate_zero, Option.join, Option.bind_some, Option.bind, Option.map_some, Option.map_none, Nat.reduceSub, Nat.reduceAdd, Nat.add_zero, Nat.zero_add, List.append_nil, if_true, if_false, Bool.false_eq_true, Bool.not_true, Bool.not_false, reduceIte, decide_true, decide_false, Nat.reduceLeDiff, TP.mkTup, TP.mkLst, TP.fits_eq, add_ok, lenL, b1, h2, inX_lst enc3, notD]
  by_cases hin : t ∈ T
  · simp only [TP.ap_sSeq, TP.ap_sNil, TP.ap_sSet, TP.ap_sIf, TP.ap_sKill, TP.ap_sAsg, TP.ap_sExpr, TP.ap_sOwnP, TP.ap_sRet, TP.ap_sAppend, TP.ap_sPop, TP.ap_sPar, TP.ap_sPut, TP.ap_sFor, TP.ap_sRetN, TP.ap_sBreak, TP.ap_sCont, TP.ap_eVar, TP.ap_eC, TP.ap_aNil, TP.ap_aCons, TP.ap_eCall, TP.ap_e2, TP.ap_e1, TP.ap_e2B, TP.ap_eB, TP.ap_eT, TP.ap_eNot, TP.ap_eAnd, TP.ap_eOr, TP.ap_eIf, TP.ap_cNot, TP.ap_cAnd, TP.ap_cOr, TP.ap_cYes, TP.ap_cChain, TP.ap_iSeq, TP.ap_iArgs, TP.ap_oNone, TP.ap_pP, TP.ap_pLb, TP.ap_pLr, TP.ap_tgName, TP.ap_pgName, TP.ap_tgTup, TP.ap_tgTupL, TP.ap_pgTup, TP.ap_tgNil, TP.ap_pgNil, TP.ap_tgCons, TP.ap_pgCons, TP.plain, TP.lent, TP.Slot.plain, TP.Slot.lent, TP.itemsD, TP.wipeP, TP.eSlice, TP.oSome, TP.truthB, TP.Out.ofO, id_eq, TP.kill, TP.ok_bind, TP.exc_bind, TP.fail_bind, TP.ofO_some, TP.ofO_none, List.map_cons, List.map_nil, List.set_cons_zero, List.set_cons_succ, List.getElem?_cons_zero, List.getElem?_cons_succ, List.getElem?_nil, List.length_cons, List.length_nil, List.cons_append, List.nil_append, List.replicate_succ, List.replicate_zero, Option.join, Option.bind_some, Option.bind, Option.map_some, Option.map_none, Nat.reduceSub, Nat.reduceAdd, Nat.add_zero, Nat.zero_add, List.append_nil, if_true, if_false, Bool.false_eq_true, Bool.not_true, Bool.not_false, reduceIte, decide_true, decide_false, Nat.reduceLeDiff, TP.mkTup, TP.mkLst, TP.fits_eq, hin, decide_true]
  · simp only [TP.ap_sSeq, TP.ap_sNil, TP.ap_sSet, TP.ap_sIf, TP.ap_sKill, TP.ap_sAsg, TP.ap_sExpr, TP.ap_sOwnP, TP.ap_sRet, TP.ap_sAppend, TP.ap_sPop, TP.ap_sPar, TP.ap_sPut, TP.ap_sFor, TP.ap_sRetN, TP.ap_sBreak, TP.ap_sCont, TP.ap_eVar, TP.ap_eC, TP.ap_aNil, TP.ap_aCons, TP.ap_eCall, TP.ap_e2, TP.ap_e1, TP.ap_e2B, TP.ap_eB, TP.ap_eT, TP.ap_eNot, TP.ap_eAnd, TP.ap_eOr, TP.ap_eIf, TP.ap_cNot, TP.ap_cAnd, TP.ap_cOr, TP.ap_cYes, TP.ap_cChain, TP.ap_iSeq, TP.ap_iArgs, TP.ap_oNone, TP.ap_pP, TP.ap_pLb, TP.ap_pLr, TP.ap_tgName, TP.ap_pgName, TP.ap_tgTup, TP.ap_tgTupL, TP.ap_pgTup, TP.ap_tgNil, TP.ap_pgNil, TP.ap_tgCons, TP.ap_pgCons, TP.plain, TP.lent, TP.Slot.plain, TP.Slot.lent, TP.itemsD, TP.wipeP, TP.eSlice, TP.oSome, TP.truthB, TP.Out.ofO, id_eq, TP.kill, TP.ok_bind, TP.exc_bind, TP.fail_bind, TP.ofO_some, TP.ofO_none, List.map_cons, List.map_nil, List.set_cons_zero, List.set_cons_succ, List.getElem?_cons_zero, List.getElem?_cons_succ, List.getElem?_nil, List.length_cons, List.length_nil, List.cons_append, List.nil_append, List.replicate_succ, List.replicate_zero, Option.join, Option.bind_some, Option.bind, Option.map_some, Option.map_none, Nat.reduceSub, Nat.reduceAdd, Nat.add_zero, Nat.zero_add, List.append_nil, if_true, if_false, Bool.false_eq_true, Bool.not_true, Bool.not_false, reduceIte, decide_true, decide_false, Nat.reduceLeDiff, TP.mkTup, TP.mkLst, TP.fits_eq, hin, decide_false, List.length_map, ff]
    rw [List.map_append]
    rfl
theorem deal_ok {cs : List Int} (h : Cells cs) (at' : Int) (L : List S3) (hL : 0 < L.length) (most : Nat) (hm : 0 < most) (hm6 : most ≤ 60) :
    ∃ T : List S3, 0 < T.length ∧ T.length ≤ most ∧ T.Nodup ∧ (∀ t ∈ T, t ∈ L) ∧ T = srt en3 T ∧ g__law_deal [.lst (cs.map .int), .int at', .lst (L.map en3), .int most] = .ok (.tup (T.map en3)) := by
  obtain ⟨r, a0, b0⟩ := pick_ok h at' most (by omega)
  obtain ⟨n, hn, hn1⟩ : ∃ n : Nat, (1 : Int) + (r : Int) = (n : Nat) ∧ 0 < n ∧ n ≤ most := ⟨1 + r, by omega, by omega, by omega⟩
  have rr := rd1 n (by omega)
  obtain ⟨ρ', e, q⟩ := loop_inv (t := tgName 5) (b := l1__law_deal) (fun i ρ => i ≤ n ∧ ∃ T : List S3, T.length ≤ i ∧ (0 < i → 0 < T.length) ∧ T.Nodup ∧ (∀ t ∈ T, t ∈ L) ∧ ρ = [.val (.lst (cs.map .int)), .val (.int at'), .val (.lst (L.map en3)), .val (.int most), .own (.lst (T.map en3)), .un, .un]) (rangeL 0 n) 0
    [.val (.lst (cs.map .int)), .val (.int at'), .val (.lst (L.map en3)), .val (.int most), .own (.lst []), .un, .un] ⟨by omega, [], by simp, by simp, List.nodup_nil, (fun t ht => by cases ht), rfl⟩ (by
    rintro j x ρ hj ⟨hi, T, hT, _, hnd, hmem, rfl⟩
    obtain ⟨hj1, rfl⟩ := rangeL_get _ _ _ _ hj
    obtain ⟨t, h1, h2⟩ := deal_turn h at' L hL (.val (.int most)) T j (by omega)
    refine ⟨_, _, rfl, .inl h2, by omega, _, ?_, ?_, ?_, ?_, rfl⟩
    · split
      · omega
      · simp; omega
    · intro _
      split
      · rename_i hin; exact List.length_pos_of_mem hin
      · simp
    · split
      · exact hnd
      · rename_i hin
        rw [List.nodup_append]
        exact ⟨hnd, by simp, fun a ha b hb => by rw [List.mem_singleton.mp hb]; exact fun e => hin (e ▸ ha)⟩
    · intro u hu
      split at hu
      · exact hmem u hu
      · rcases List.mem_append.mp hu with hu | hu
        · exact hmem u hu
        · rw [List.mem_singleton.mp hu]; exact h1)
  obtain ⟨_, T, hT, hpos, hnd, hmem, rfl⟩ := q
  rw [rangeL_len] at hT hpos
  refine ⟨srt en3 T, by rw [srt_len]; exact hpos (by omega), by rw [srt_len]; omega, (srt_perm T).nodup_iff.mpr hnd, fun t ht => hmem t ((srt_mem T t).mp ht), srt_uniq enc3 (srt_sorted T) (List.Perm.refl _), ?_⟩
  unfold g__law_deal b__law_deal
  simp only [TP.sem_fin, TP.fin_ret, TP.fin_ret1, TP.fin_set, TP.fin_ownP, TP.fin_par, TP.fin_kill, TP.fin_if, TP.fin_if1, TP.fin_asg, TP.fin_expr, TP.fin_for, TP.fin_loop_nil, TP.fin_sNil, TP.seq_seq, TP.seq_nil, TP.startE, TP.ap_eVar, TP.ap_eC, TP.ap_aNil, TP.ap_aCons, TP.ap_eCall, TP.ap_e2, TP.ap_e1, TP.ap_e2B, TP.ap_eB, TP.ap_eT, TP.ap_eNot, TP.ap_eAnd, TP.ap_eOr, TP.ap_eIf, TP.ap_cNot, TP.ap_cAnd, TP.ap_cOr, TP.ap_cYes, TP.ap_cChain, TP.ap_iSeq, TP.ap_iArgs, TP.ap_oNone, TP.ap_pP, TP.ap_pLb, TP.ap_pLr, TP.ap_tgName, TP.ap_pgName, TP.ap_tgTup, TP.ap_tgTupL, TP.ap_pgTup, TP.ap_tgNil, TP.ap_pgNil, TP.ap_tgCons, TP.ap_pgCons, TP.plain, TP.lent, TP.Slot.plain, TP.Slot.lent, TP.itemsD, TP.wipeP, TP.eSlice, TP.oSome, TP.truthB, TP.Out.ofO, id_eq, TP.kill, TP.ok_bind, TP.exc_bind, TP.fail_bind, TP.ofO_some, TP.ofO_none, List.map_cons, List.map_nil, List.set_cons_zero, List.set_cons_succ, List.getElem?_cons_zero, List.getElem?_cons_succ, List.getElem?_nil, List.length_cons, List.length_nil, List.cons_append, List.nil_append, List.replicate_succ, List.replicate_zero, Option.join, Option.bind_some, Option.bind, Option.map_some, Option.map_none, Nat.reduceSub, Nat.reduceAdd, Nat.add_zero, Nat.zero_add, List.append_nil, if_true, if_false, Bool.false_eq_true, Bool.not_true, Bool.not_false, reduceIte, decide_true, decide_false, Nat.reduceLeDiff, TP.mkTup, TP.mkLst, TP.fits_eq, b0, add_ok, hn, rr]
  rw [fin_loop e]
  simp only [TP.sem_fin, TP.fin_ret, TP.fin_ret1, TP.fin_set, TP.fin_ownP, TP.fin_par, TP.fin_kill, TP.fin_if, TP.fin_if1, TP.fin_asg, TP.fin_expr, TP.fin_for, TP.fin_loop_nil, TP.fin_sNil, TP.seq_seq, TP.seq_nil, TP.startE, TP.ap_eVar, TP.ap_eC, TP.ap_aNil, TP.ap_aCons, TP.ap_eCall, TP.ap_e2, TP.ap_e1, TP.ap_e2B, TP.ap_eB, TP.ap_eT, TP.ap_eNot, TP.ap_eAnd, TP.ap_eOr, TP.ap_eIf, TP.ap_cNot, TP.ap_cAnd, TP.ap_cOr, TP.ap_cYes, TP.ap_cChain, TP.ap_iSeq, TP.ap_iArgs, TP.ap_oNone, TP.ap_pP, TP.ap_pLb, TP.ap_pLr, TP.ap_tgName, TP.ap_pgName, TP.ap_tgTup, TP.ap_tgTupL, TP.ap_pgTup, TP.ap_tgNil, TP.ap_pgNil, TP.ap_tgCons, TP.ap_pgCons, TP.plain, TP.lent, TP.Slot.plain, TP.Slot.lent, TP.itemsD, TP.wipeP, TP.eSlice, TP.oSome, TP.truthB, TP.Out.ofO, id_eq, TP.kill, TP.ok_bind, TP.exc_bind, TP.fail_bind, TP.ofO_some, TP.ofO_none, List.map_cons, List.map_nil, List.set_cons_zero, List.set_cons_succ, List.getElem?_cons_zero, List.getElem?_cons_succ, List.getElem?_nil, List.length_cons, List.length_nil, List.cons_append, List.nil_append, List.replicate_succ, List.replicate_zero, Option.join, Option.bind_some, Option.bind, Option.map_some, Option.map_none, Nat.reduceSub, Nat.reduceAdd, Nat.add_zero, Nat.zero_add, List.append_nil, if_true, if_false, Bool.false_eq_true, Bool.not_true, Bool.not_false, reduceIte, decide_true, decide_false, Nat.reduceLeDiff, TP.mkTup, TP.mkLst, TP.fits_eq, sorted_enc enc3 T (show T.length ≤ 16777216 by omega)]
  rfl
end K20

end
set_option Elab.async false
set_option linter.all false
set_option maxRecDepth 100000
noncomputable section
namespace K20
open PySem L2 TP
theorem slots_by_ok (T : List S3) (ks : List Str) (h : T.length < 63) : g_slots_by [.tup (T.map en3), .tup (ks.map .str)] = .ok (.tup ((srt en2 (dd (slotsB T ks))).map en2)) := by
  unfold g_slots_by b_slots_by
  simp only [TP.sem_fin, TP.fin_ret, TP.fin_ret1, TP.fin_set, TP.fin_ownP, TP.fin_par, TP.fin_kill, TP.fin_if, TP.fin_if1, TP.fin_asg, TP.fin_expr, TP.fin_for, TP.fin_loop_nil, TP.fin_sNil, TP.seq_seq, TP.seq_nil, TP.startE, TP.ap_eVar, TP.ap_eC, TP.ap_aNil, TP.ap_aCons, TP.ap_eCall, TP.ap_e2, TP.ap_e1, TP.ap_e2B, TP.ap_eB, TP.ap_eT, TP.ap_eNot, TP.ap_eAnd, TP.ap_eOr, TP.ap_eIf, TP.ap_cNot, TP.ap_cAnd, TP.ap_cOr, TP.ap_cYes, TP.ap_cChain, TP.ap_iSeq, TP.ap_iArgs, TP.ap_oNone, TP.ap_pP, TP.ap_pLb, TP.ap_pLr, TP.ap_tgName, TP.ap_pgName, TP.ap_tgTup, TP.ap_tgTupL, TP.ap_pgTup, TP.ap_tgNil, TP.ap_pgNil, TP.ap_tgCons, TP.ap_pgCons, TP.plain, TP.lent, TP.Slot.plain, TP.Slot.lent, TP.itemsD, TP.wipeP, TP.eSlice, TP.oSome, TP.truthB, TP.Out.ofO, id_eq, TP.kill, TP.ok_bind, TP.exc_bind, TP.fail_bind, TP.ofO_some, TP.ofO_none, List.map_cons, List.map_nil, List.set_cons_zero, List.set_cons_succ, List.getElem?_cons_zero, List.getElem?_cons_succ, List.getElem?_nil, List.length_cons, List.length_nil, List.cons_append, List.nil_append, List.replicate_succ, List.replicate_zero, Option.join, Option.bind_some, Option.bind, Option.map_some, Option.map_none, Nat.reduceSub, Nat.reduceAdd, Nat.add_zero, Nat.zero_add, List.append_nil, if_true, if_false, Bool.false_eq_true, Bool.not_true, Bool.not_false, reduceIte, decide_true, decide_false, Nat.reduceLeDiff, TP.mkTup, TP.mkLst, TP.fits_eq, eSetComp, ob_assoc]
  have hl := slotsB_len T ks
  have hd := dd_len (slotsB T ks)
  rw [comp_map en3 (fun t => decide (t.1 ∈ ks)) (fun t => en2 t.2)]
  · have e : (T.filter fun t => decide (t.1 ∈ ks)).map (fun t => en2 t.2) = (slotsB T ks).map en2 := by unfold slotsB; rw [List.map_map]; rfl
    rw [e]
    simp only [TP.sem_fin, TP.fin_ret, TP.fin_ret1, TP.fin_set, TP.fin_ownP, TP.fin_par, TP.fin_kill, TP.fin_if, TP.fin_if1, TP.fin_asg, TP.fin_expr, TP.fin_for, TP.fin_loop_nil, TP.fin_sNil, TP.seq_seq, TP.seq_nil, TP.startE, TP.ap_eVar, TP.ap_eC, TP.ap_aNil, TP.ap_aCons, TP.ap_eCall, TP.ap_e2, TP.ap_e1, TP.ap_e2B, TP.ap_eB, TP.ap_eT, TP.ap_eNot, TP.ap_eAnd, TP.ap_eOr, TP.ap_eIf, TP.ap_cNot, TP.ap_cAnd, TP.ap_cOr, TP.ap_cYes, TP.ap_cChain, TP.ap_iSeq, TP.ap_iArgs, TP.ap_oNone, TP.ap_pP, TP.ap_pLb, TP.ap_pLr, TP.ap_tgName, TP.ap_pgName, TP.ap_tgTup, TP.ap_tgTupL, TP.ap_pgTup, TP.ap_tgNil, TP.ap_pgNil, TP.ap_tgCons, TP.ap_pgCons, TP.plain, TP.lent, TP.Slot.plain, TP.Slot.lent, TP.itemsD, TP.wipeP, TP.eSlice, TP.oSome, TP.truthB, TP.Out.ofO, id_eq, TP.kill, TP.ok_bind, TP.exc_bind, TP.fail_bind, TP.ofO_some, TP.ofO_none, List.map_cons, List.map_nil, List.set_cons_zero, List.set_cons_succ, List.getElem?_cons_zero, List.getElem?_cons_succ, List.getElem?_nil, List.length_cons, List.length_nil, List.cons_append, List.nil_append, List.replicate_succ, List.replicate_zero, Option.join, Option.bind_some, Option.bind, Option.map_some, Option.map_none, Nat.reduceSub, Nat.reduceAdd, Nat.add_zero, Nat.zero_add, List.append_nil, if_true, if_false, Bool.false_eq_true, Bool.not_true, Bool.not_false, reduceIte, decide_true, decide_false, Nat.reduceLeDiff, TP.mkTup, TP.mkLst, TP.fits_eq, tupSet_enc enc2 _ (Nat.lt_of_le_of_lt hl h), dd_dedup enc2, sorted_encS enc2 _ (show (dd (slotsB T ks)).length ≤ 16777216 by omega)]
    rfl
  · intro t _
    refine ⟨_, rfl, ?_, fun _ => ?_⟩
    · simp only [TP.sem_fin, TP.fin_ret, TP.fin_ret1, TP.fin_set, TP.fin_ownP, TP.fin_par, TP.fin_kill, TP.fin_if, TP.fin_if1, TP.fin_asg, TP.fin_expr, TP.fin_for, TP.fin_loop_nil, TP.fin_sNil, TP.seq_seq, TP.seq_nil, TP.startE, TP.ap_eVar, TP.ap_eC, TP.ap_aNil, TP.ap_aCons, TP.ap_eCall, TP.ap_e2, TP.ap_e1, TP.ap_e2B, TP.ap_eB, TP.ap_eT, TP.ap_eNot, TP.ap_eAnd, TP.ap_eOr, TP.ap_eIf, TP.ap_cNot, TP.ap_cAnd, TP.ap_cOr, TP.ap_cYes, TP.ap_cChain, TP.ap_iSeq, TP.ap_iArgs, TP.ap_oNone, TP.ap_pP, TP.ap_pLb, TP.ap_pLr, TP.ap_tgName, TP.ap_pgName, TP.ap_tgTup, TP.ap_tgTupL, TP.ap_pgTup, TP.ap_tgNil, TP.ap_pgNil, TP.ap_tgCons, TP.ap_pgCons, TP.plain, TP.lent, TP.Slot.plain, TP.Slot.lent, TP.itemsD, TP.wipeP, TP.eSlice, TP.oSome, TP.truthB, TP.Out.ofO, id_eq, TP.kill, TP.ok_bind, TP.exc_bind, TP.fail_bind, TP.ofO_some, TP.ofO_none, List.map_cons, List.map_nil, List.set_cons_zero, List.set_cons_succ, List.getElem?_cons_zero, List.getElem?_cons_succ, List.getElem?_nil, List.length_cons, List.length_nil, List.cons_append, List.nil_append, List.replicate_succ, List.replicate_zero, Option.join, Option.bind_some, Option.bind, Option.map_some, Option.map_none, Nat.reduceSub, Nat.reduceAdd, Nat.add_zero, Nat.zero_add, List.append_nil, if_true, if_false, Bool.false_eq_true, Bool.not_true, Bool.not_false, reduceIte, decide_true, decide_false, Nat.reduceLeDiff, TP.mkTup, TP.mkLst, TP.fits_eq, at0, inX_strT]
    · simp only [TP.sem_fin, TP.fin_ret, TP.fin_ret1, TP.fin_set, TP.fin_ownP, TP.fin_par, TP.fin_kill, TP.fin_if, TP.fin_if1, TP.fin_asg, TP.fin_expr, TP.fin_for, TP.fin_loop_nil, TP.fin_sNil, TP.seq_seq, TP.seq_nil, TP.startE, TP.ap_eVar, TP.ap_eC, TP.ap_aNil, TP.ap_aCons, TP.ap_eCall, TP.ap_e2, TP.ap_e1, TP.ap_e2B, TP.ap_eB, TP.ap_eT, TP.ap_eNot, TP.ap_eAnd, TP.ap_eOr, TP.ap_eIf, TP.ap_cNot, TP.ap_cAnd, TP.ap_cOr, TP.ap_cYes, TP.ap_cChain, TP.ap_iSeq, TP.ap_iArgs, TP.ap_oNone, TP.ap_pP, TP.ap_pLb, TP.ap_pLr, TP.ap_tgName, TP.ap_pgName, TP.ap_tgTup, TP.ap_tgTupL, TP.ap_pgTup, TP.ap_tgNil, TP.ap_pgNil, TP.ap_tgCons, TP.ap_pgCons, TP.plain, TP.lent, TP.Slot.plain, TP.Slot.lent, TP.itemsD, TP.wipeP, TP.eSlice, TP.oSome, TP.truthB, TP.Out.ofO, id_eq, TP.kill, TP.ok_bind, TP.exc_bind, TP.fail_bind, TP.ofO_some, TP.ofO_none, List.map_cons, List.map_nil, List.set_cons_zero, List.set_cons_succ, List.getElem?_cons_zero, List.getElem?_cons_succ, List.getElem?_nil, List.length_cons, List.length_nil, List.cons_append, List.nil_append, List.replicate_succ, List.replicate_zero, Option.join, Option.bind_some, Option.bind, Option.map_some, Option.map_none, Nat.reduceSub, Nat.reduceAdd, Nat.add_zero, Nat.zero_add, List.append_nil, if_true, if_false, Bool.false_eq_true, Bool.not_true, Bool.not_false, reduceIte, decide_true, decide_false, Nat.reduceLeDiff, TP.mkTup, TP.mkLst, TP.fits_eq]
      exact sl1 t
theorem reads_ok (T : List S3) (h : T.length < 63) : g_reads_of [.tup (T.map en3)] = .ok (.tup ((S T ["read"]).map en2)) := by
  unfold g_reads_of b_reads_of
  simp only [TP.sem_fin, TP.fin_ret, TP.fin_ret1, TP.fin_set, TP.fin_ownP, TP.fin_par, TP.fin_kill, TP.fin_if, TP.fin_if1, TP.fin_asg, TP.fin_expr, TP.fin_for, TP.fin_loop_nil, TP.fin_sNil, TP.seq_seq, TP.seq_nil, TP.startE, TP.ap_eVar, TP.ap_eC, TP.ap_aNil, TP.ap_aCons, TP.ap_eCall, TP.ap_e2, TP.ap_e1, TP.ap_e2B, TP.ap_eB, TP.ap_eT, TP.ap_eNot, TP.ap_eAnd, TP.ap_eOr, TP.ap_eIf, TP.ap_cNot, TP.ap_cAnd, TP.ap_cOr, TP.ap_cYes, TP.ap_cChain, TP.ap_iSeq, TP.ap_iArgs, TP.ap_oNone, TP.ap_pP, TP.ap_pLb, TP.ap_pLr, TP.ap_tgName, TP.ap_pgName, TP.ap_tgTup, TP.ap_tgTupL, TP.ap_pgTup, TP.ap_tgNil, TP.ap_pgNil, TP.ap_tgCons, TP.ap_pgCons, TP.plain, TP.lent, TP.Slot.plain, TP.Slot.lent, TP.itemsD, TP.wipeP, TP.eSlice, TP.oSome, TP.truthB, TP.Out.ofO, id_eq, TP.kill, TP.ok_bind, TP.exc_bind, TP.fail_bind, TP.ofO_some, TP.ofO_none, List.map_cons, List.map_nil, List.set_cons_zero, List.set_cons_succ, List.getElem?_cons_zero, List.getElem?_cons_succ, List.getElem?_nil, List.length_cons, List.length_nil, List.cons_append, List.nil_append, List.replicate_succ, List.replicate_zero, Option.join, Option.bind_some, Option.bind, Option.map_some, Option.map_none, Nat.reduceSub, Nat.reduceAdd, Nat.add_zero, Nat.zero_add, List.append_nil, if_true, if_false, Bool.false_eq_true, Bool.not_true, Bool.not_false, reduceIte, decide_true, decide_false, Nat.reduceLeDiff, TP.mkTup, TP.mkLst, TP.fits_eq]
  exact slots_by_ok T ["read"] h
theorem changes_ok (T : List S3) (h : T.length < 63) : g_changes_of [.tup (T.map en3)] = .ok (.tup ((S T ["write", "add"]).map en2)) := by
  unfold g_changes_of b_changes_of
  simp only [TP.sem_fin, TP.fin_ret, TP.fin_ret1, TP.fin_set, TP.fin_ownP, TP.fin_par, TP.fin_kill, TP.fin_if, TP.fin_if1, TP.fin_asg, TP.fin_expr, TP.fin_for, TP.fin_loop_nil, TP.fin_sNil, TP.seq_seq, TP.seq_nil, TP.startE, TP.ap_eVar, TP.ap_eC, TP.ap_aNil, TP.ap_aCons, TP.ap_eCall, TP.ap_e2, TP.ap_e1, TP.ap_e2B, TP.ap_eB, TP.ap_eT, TP.ap_eNot, TP.ap_eAnd, TP.ap_eOr, TP.ap_eIf, TP.ap_cNot, TP.ap_cAnd, TP.ap_cOr, TP.ap_cYes, TP.ap_cChain, TP.ap_iSeq, TP.ap_iArgs, TP.ap_oNone, TP.ap_pP, TP.ap_pLb, TP.ap_pLr, TP.ap_tgName, TP.ap_pgName, TP.ap_tgTup, TP.ap_tgTupL, TP.ap_pgTup, TP.ap_tgNil, TP.ap_pgNil, TP.ap_tgCons, TP.ap_pgCons, TP.plain, TP.lent, TP.Slot.plain, TP.Slot.lent, TP.itemsD, TP.wipeP, TP.eSlice, TP.oSome, TP.truthB, TP.Out.ofO, id_eq, TP.kill, TP.ok_bind, TP.exc_bind, TP.fail_bind, TP.ofO_some, TP.ofO_none, List.map_cons, List.map_nil, List.set_cons_zero, List.set_cons_succ, List.getElem?_cons_zero, List.getElem?_cons_succ, List.getElem?_nil, List.length_cons, List.length_nil, List.cons_append, List.nil_append, List.replicate_succ, List.replicate_zero, Option.join, Option.bind_some, Option.bind, Option.map_some, Option.map_none, Nat.reduceSub, Nat.reduceAdd, Nat.add_zero, Nat.zero_add, List.append_nil, if_true, if_false, Bool.false_eq_true, Bool.not_true, Bool.not_false, reduceIte, decide_true, decide_false, Nat.reduceLeDiff, TP.mkTup, TP.mkLst, TP.fits_eq]
  exact slots_by_ok T ["write", "add"] h
theorem writes_ok (T : List S3) (h : T.length < 63) : g_writes_of [.tup (T.map en3)] = .ok (.tup ((S T ["write"]).map en2)) := by
  unfold g_writes_of b_writes_of
  simp only [TP.sem_fin, TP.fin_ret, TP.fin_ret1, TP.fin_set, TP.fin_ownP, TP.fin_par, TP.fin_kill, TP.fin_if, TP.fin_if1, TP.fin_asg, TP.fin_expr, TP.fin_for, TP.fin_loop_nil, TP.fin_sNil, TP.seq_seq, TP.seq_nil, TP.startE, TP.ap_eVar, TP.ap_eC, TP.ap_aNil, TP.ap_aCons, TP.ap_eCall, TP.ap_e2, TP.ap_e1, TP.ap_e2B, TP.ap_eB, TP.ap_eT, TP.ap_eNot, TP.ap_eAnd, TP.ap_eOr, TP.ap_eIf, TP.ap_cNot, TP.ap_cAnd, TP.ap_cOr, TP.ap_cYes, TP.ap_cChain, TP.ap_iSeq, TP.ap_iArgs, TP.ap_oNone, TP.ap_pP, TP.ap_pLb, TP.ap_pLr, TP.ap_tgName, TP.ap_pgName, TP.ap_tgTup, TP.ap_tgTupL, TP.ap_pgTup, TP.ap_tgNil, TP.ap_pgNil, TP.ap_tgCons, TP.ap_pgCons, TP.plain, TP.lent, TP.Slot.plain, TP.Slot.lent, TP.itemsD, TP.wipeP, TP.eSlice, TP.oSome, TP.truthB, TP.Out.ofO, id_eq, TP.kill, TP.ok_bind, TP.exc_bind, TP.fail_bind, TP.ofO_some, TP.ofO_none, List.map_cons, List.map_nil, List.set_cons_zero, List.set_cons_succ, List.getElem?_cons_zero, List.getElem?_cons_succ, List.getElem?_nil, List.length_cons, List.length_nil, List.cons_append, List.nil_append, List.replicate_succ, List.replicate_zero, Option.join, Option.bind_some, Option.bind, Option.map_some, Option.map_none, Nat.reduceSub, Nat.reduceAdd, Nat.add_zero, Nat.zero_add, List.append_nil, if_true, if_false, Bool.false_eq_true, Bool.not_true, Bool.not_false, reduceIte, decide_true, decide_false, Nat.reduceLeDiff, TP.mkTup, TP.mkLst, TP.fits_eq]
  exact slots_by_ok T ["write"] h
theorem shared_ok (A B : List S2) (h : A.length ≤ 1000) : g_shared [.tup (A.map en2), .tup (B.map en2)] = .ok (.tup ((both A B).map en2)) := by
  unfold g_shared b_shared
  simp only [TP.sem_fin, TP.fin_ret, TP.fin_ret1, TP.fin_set, TP.fin_ownP, TP.fin_par, TP.fin_kill, TP.fin_if, TP.fin_if1, TP.fin_asg, TP.fin_expr, TP.fin_for, TP.fin_loop_nil, TP.fin_sNil, TP.seq_seq, TP.seq_nil, TP.startE, TP.ap_eVar, TP.ap_eC, TP.ap_aNil, TP.ap_aCons, TP.ap_eCall, TP.ap_e2, TP.ap_e1, TP.ap_e2B, TP.ap_eB, TP.ap_eT, TP.ap_eNot, TP.ap_eAnd, TP.ap_eOr, TP.ap_eIf, TP.ap_cNot, TP.ap_cAnd, TP.ap_cOr, TP.ap_cYes, TP.ap_cChain, TP.ap_iSeq, TP.ap_iArgs, TP.ap_oNone, TP.ap_pP, TP.ap_pLb, TP.ap_pLr, TP.ap_tgName, TP.ap_pgName, TP.ap_tgTup, TP.ap_tgTupL, TP.ap_pgTup, TP.ap_tgNil, TP.ap_pgNil, TP.ap_tgCons, TP.ap_pgCons, TP.plain, TP.lent, TP.Slot.plain, TP.Slot.lent, TP.itemsD, TP.wipeP, TP.eSlice, TP.oSome, TP.truthB, TP.Out.ofO, id_eq, TP.kill, TP.ok_bind, TP.exc_bind, TP.fail_bind, TP.ofO_some, TP.ofO_none, List.map_cons, List.map_nil, List.set_cons_zero, List.set_cons_succ, List.getElem?_cons_zero, List.getElem?_cons_succ, List.getElem?_nil, List.length_cons, List.length_nil, List.cons_append, List.nil_append, List.replicate_succ, List.replicate_zero, Option.join, Option.bind_some, Option.bind, Option.map_some, Option.map_none, Nat.reduceSub, Nat.reduceAdd, Nat.add_zero, Nat.zero_add, List.append_nil, if_true, if_false, Bool.false_eq_true, Bool.not_true, Bool.not_false, reduceIte, decide_true, decide_false, Nat.reduceLeDiff, TP.mkTup, TP.mkLst, TP.fits_eq, eComp, ob_assoc]
  rw [comp_map en2 (fun p => decide (p ∈ B)) en2]
  · simp only [TP.sem_fin, TP.fin_ret, TP.fin_ret1, TP.fin_set, TP.fin_ownP, TP.fin_par, TP.fin_kill, TP.fin_if, TP.fin_if1, TP.fin_asg, TP.fin_expr, TP.fin_for, TP.fin_loop_nil, TP.fin_sNil, TP.seq_seq, TP.seq_nil, TP.startE, TP.ap_eVar, TP.ap_eC, TP.ap_aNil, TP.ap_aCons, TP.ap_eCall, TP.ap_e2, TP.ap_e1, TP.ap_e2B, TP.ap_eB, TP.ap_eT, TP.ap_eNot, TP.ap_eAnd, TP.ap_eOr, TP.ap_eIf, TP.ap_cNot, TP.ap_cAnd, TP.ap_cOr, TP.ap_cYes, TP.ap_cChain, TP.ap_iSeq, TP.ap_iArgs, TP.ap_oNone, TP.ap_pP, TP.ap_pLb, TP.ap_pLr, TP.ap_tgName, TP.ap_pgName, TP.ap_tgTup, TP.ap_tgTupL, TP.ap_pgTup, TP.ap_tgNil, TP.ap_pgNil, TP.ap_tgCons, TP.ap_pgCons, TP.plain, TP.lent, TP.Slot.plain, TP.Slot.lent, TP.itemsD, TP.wipeP, TP.eSlice, TP.oSome, TP.truthB, TP.Out.ofO, id_eq, TP.kill, TP.ok_bind, TP.exc_bind, TP.fail_bind, TP.ofO_some, TP.ofO_none, List.map_cons, List.map_nil, List.set_cons_zero, List.set_cons_succ, List.getElem?_cons_zero, List.getElem?_cons_succ, List.getElem?_nil, List.length_cons, List.length_nil, List.cons_append, List.nil_append, List.replicate_succ, List.replicate_zero, Option.join, Option.bind_some, Option.bind, Option.map_some, Option.map_none, Nat.reduceSub, Nat.reduceAdd, Nat.add_zero, Nat.zero_add, List.append_nil, if_true, if_false, Bool.false_eq_true, Bool.not_true, Bool.not_false, reduceIte, decide_true, decide_false, Nat.reduceLeDiff, TP.mkTup, TP.mkLst, TP.fits_eq, List.length_map]
    rw [if_pos (decide_eq_true (by omega))]
    rfl
  · intro p _
    refine ⟨_, rfl, ?_, fun _ => ?_⟩
    · simp only [TP.sem_fin, TP.fin_ret, TP.fin_ret1, TP.fin_set, TP.fin_ownP, TP.fin_par, TP.fin_kill, TP.fin_if, TP.fin_if1, TP.fin_asg, TP.fin_expr, TP.fin_for, TP.fin_loop_nil, TP.fin_sNil, TP.seq_seq, TP.seq_nil, TP.startE, TP.ap_eVar, TP.ap_eC, TP.ap_aNil, TP.ap_aCons, TP.ap_eCall, TP.ap_e2, TP.ap_e1, TP.ap_e2B, TP.ap_eB, TP.ap_eT, TP.ap_eNot, TP.ap_eAnd, TP.ap_eOr, TP.ap_eIf, TP.ap_cNot, TP.ap_cAnd, TP.ap_cOr, TP.ap_cYes, TP.ap_cChain, TP.ap_iSeq, TP.ap_iArgs, TP.ap_oNone, TP.ap_pP, TP.ap_pLb, TP.ap_pLr, TP.ap_tgName, TP.ap_pgName, TP.ap_tgTup, TP.ap_tgTupL, TP.ap_pgTup, TP.ap_tgNil, TP.ap_pgNil, TP.ap_tgCons, TP.ap_pgCons, TP.plain, TP.lent, TP.Slot.plain, TP.Slot.lent, TP.itemsD, TP.wipeP, TP.eSlice, TP.oSome, TP.truthB, TP.Out.ofO, id_eq, TP.kill, TP.ok_bind, TP.exc_bind, TP.fail_bind, TP.ofO_some, TP.ofO_none, List.map_cons, List.map_nil, List.set_cons_zero, List.set_cons_succ, List.getElem?_cons_zero, List.getElem?_cons_succ, List.getElem?_nil, List.length_cons, List.length_nil, List.cons_append, List.nil_append, List.replicate_succ, List.replicate_zero, Option.join, Option.bind_some, Option.bind, Option.map_some, Option.map_none, Nat.reduceSub, Nat.reduceAdd, Nat.add_zero, Nat.zero_add, List.append_nil, if_true, if_false, Bool.false_eq_true, Bool.not_true, Bool.not_false, reduceIte, decide_true, decide_false, Nat.reduceLeDiff, TP.mkTup, TP.mkLst, TP.fits_eq, inX_encT enc2]
    · simp only [TP.sem_fin, TP.fin_ret, TP.fin_ret1, TP.fin_set, TP.fin_ownP, TP.fin_par, TP.fin_kill, TP.fin_if, TP.fin_if1, TP.fin_asg, TP.fin_expr, TP.fin_for, TP.fin_loop_nil, TP.fin_sNil, TP.seq_seq, TP.seq_nil, TP.startE, TP.ap_eVar, TP.ap_eC, TP.ap_aNil, TP.ap_aCons, TP.ap_eCall, TP.ap_e2, TP.ap_e1, TP.ap_e2B, TP.ap_eB, TP.ap_eT, TP.ap_eNot, TP.ap_eAnd, TP.ap_eOr, TP.ap_eIf, TP.ap_cNot, TP.ap_cAnd, TP.ap_cOr, TP.ap_cYes, TP.ap_cChain, TP.ap_iSeq, TP.ap_iArgs, TP.ap_oNone, TP.ap_pP, TP.ap_pLb, TP.ap_pLr, TP.ap_tgName, TP.ap_pgName, TP.ap_tgTup, TP.ap_tgTupL, TP.ap_pgTup, TP.ap_tgNil, TP.ap_pgNil, TP.ap_tgCons, TP.ap_pgCons, TP.plain, TP.lent, TP.Slot.plain, TP.Slot.lent, TP.itemsD, TP.wipeP, TP.eSlice, TP.oSome, TP.truthB, TP.Out.ofO, id_eq, TP.kill, TP.ok_bind, TP.exc_bind, TP.fail_bind, TP.ofO_some, TP.ofO_none, List.map_cons, List.map_nil, List.set_cons_zero, List.set_cons_succ, List.getElem?_cons_zero, List.getElem?_cons_succ, List.getElem?_nil, List.length_cons, List.length_nil, List.cons_append, List.nil_append, List.replicate_succ, List.replicate_zero, Option.join, Option.bind_some, Option.bind, Option.map_some, Option.map_none, Nat.reduceSub, Nat.reduceAdd, Nat.add_zero, Nat.zero_add, List.append_nil, if_true, if_false, Bool.false_eq_true, Bool.not_true, Bool.not_false, reduceIte, decide_true, decide_false, Nat.reduceLeDiff, TP.mkTup, TP.mkLst, TP.fits_eq]
theorem looks_ok (T U : List S3) (h : T.length < 63) (k : U.length < 63) : g_looks_past [.tup (T.map en3), .tup (U.map en3)] = .ok (.tup ((past T U).map en2)) := by
  unfold g_looks_past b_looks_past
  simp only [TP.sem_fin, TP.fin_ret, TP.fin_ret1, TP.fin_set, TP.fin_ownP, TP.fin_par, TP.fin_kill, TP.fin_if, TP.fin_if1, TP.fin_asg, TP.fin_expr, TP.fin_for, TP.fin_loop_nil, TP.fin_sNil, TP.seq_seq, TP.seq_nil, TP.startE, TP.ap_eVar, TP.ap_eC, TP.ap_aNil, TP.ap_aCons, TP.ap_eCall, TP.ap_e2, TP.ap_e1, TP.ap_e2B, TP.ap_eB, TP.ap_eT, TP.ap_eNot, TP.ap_eAnd, TP.ap_eOr, TP.ap_eIf, TP.ap_cNot, TP.ap_cAnd, TP.ap_cOr, TP.ap_cYes, TP.ap_cChain, TP.ap_iSeq, TP.ap_iArgs, TP.ap_oNone, TP.ap_pP, TP.ap_pLb, TP.ap_pLr, TP.ap_tgName, TP.ap_pgName, TP.ap_tgTup, TP.ap_tgTupL, TP.ap_pgTup, TP.ap_tgNil, TP.ap_pgNil, TP.ap_tgCons, TP.ap_pgCons, TP.plain, TP.lent, TP.Slot.plain, TP.Slot.lent, TP.itemsD, TP.wipeP, TP.eSlice, TP.oSome, TP.truthB, TP.Out.ofO, id_eq, TP.kill, TP.ok_bind, TP.exc_bind, TP.fail_bind, TP.ofO_some, TP.ofO_none, List.map_cons, List.map_nil, List.set_cons_zero, List.set_cons_succ, List.getElem?_cons_zero, List.getElem?_cons_succ, List.getElem?_nil, List.length_cons, List.length_nil, List.cons_append, List.nil_append, List.replicate_succ, List.replicate_zero, Option.join, Option.bind_some, Option.bind, Option.map_some, Option.map_none, Nat.reduceSub, Nat.reduceAdd, Nat.add_zero, Nat.zero_add, List.append_nil, if_true, if_false, Bool.false_eq_true, Bool.not_true, Bool.not_false, reduceIte, decide_true, decide_false, Nat.reduceLeDiff, TP.mkTup, TP.mkLst, TP.fits_eq, reads_ok T h, changes_ok U k]
  rw [shared_ok _ _ (by have := S_len T ["read"]; omega), both_S]
  rfl
theorem wrote_ok (T U : List S3) (h : T.length < 63) (k : U.length < 63) : g_both_write [.tup (T.map en3), .tup (U.map en3)] = .ok (.tup ((wrote T U).map en2)) := by
  unfold g_both_write b_both_write
  simp only [TP.sem_fin, TP.fin_ret, TP.fin_ret1, TP.fin_set, TP.fin_ownP, TP.fin_par, TP.fin_kill, TP.fin_if, TP.fin_if1, TP.fin_asg, TP.fin_expr, TP.fin_for, TP.fin_loop_nil, TP.fin_sNil, TP.seq_seq, TP.seq_nil, TP.startE, TP.ap_eVar, TP.ap_eC, TP.ap_aNil, TP.ap_aCons, TP.ap_eCall, TP.ap_e2, TP.ap_e1, TP.ap_e2B, TP.ap_eB, TP.ap_eT, TP.ap_eNot, TP.ap_eAnd, TP.ap_eOr, TP.ap_eIf, TP.ap_cNot, TP.ap_cAnd, TP.ap_cOr, TP.ap_cYes, TP.ap_cChain, TP.ap_iSeq, TP.ap_iArgs, TP.ap_oNone, TP.ap_pP, TP.ap_pLb, TP.ap_pLr, TP.ap_tgName, TP.ap_pgName, TP.ap_tgTup, TP.ap_tgTupL, TP.ap_pgTup, TP.ap_tgNil, TP.ap_pgNil, TP.ap_tgCons, TP.ap_pgCons, TP.plain, TP.lent, TP.Slot.plain, TP.Slot.lent, TP.itemsD, TP.wipeP, TP.eSlice, TP.oSome, TP.truthB, TP.Out.ofO, id_eq, TP.kill, TP.ok_bind, TP.exc_bind, TP.fail_bind, TP.ofO_some, TP.ofO_none, List.map_cons, List.map_nil, List.set_cons_zero, List.set_cons_succ, List.getElem?_cons_zero, List.getElem?_cons_succ, List.getElem?_nil, List.length_cons, List.length_nil, List.cons_append, List.nil_append, List.replicate_succ, List.replicate_zero, Option.join, Option.bind_some, Option.bind, Option.map_some, Option.map_none, Nat.reduceSub, Nat.reduceAdd, Nat.add_zero, Nat.zero_add, List.append_nil, if_true, if_false, Bool.false_eq_true, Bool.not_true, Bool.not_false, reduceIte, decide_true, decide_false, Nat.reduceLeDiff, TP.mkTup, TP.mkLst, TP.fits_eq, writes_ok T h, writes_ok U k]
  rw [shared_ok _ _ (by have := S_len T ["write"]; omega), both_S]
  rfl
end K20

end
set_option Elab.async false
set_option linter.all false
set_option maxRecDepth 100000
noncomputable section
namespace K20
open PySem L2 TP
theorem law_looks_ok (T U : List S3) : g__law_looks [enT T, enT U] = .ok (.bl (looksB T U)) := by
  have lp := loop_find (t := tgTup 3 (tgCons (tgName 2) (tgCons (tgName 3) (tgCons (tgName 4) tgNil)))) (b := l1__law_looks) en3 (fun t => decide (t.1 = ("read" : Str)) && (decide ((("write" : Str), t.2) ∈ U) || decide ((("add" : Str), t.2) ∈ U))) (.bl true)
    [.val (enT T), .val (enT U), .un, .un, .un] T (fun t _ => by
    obtain ⟨k, c, r⟩ := t
    have e1 : inX (.tup [.str "write", .str c, .str r]) (enT U) = .ok (decide ((("write" : Str), c, r) ∈ U)) := inX_encT enc3 U ("write", c, r)
    have e2 : inX (.tup [.str "add", .str c, .str r]) (enT U) = .ok (decide ((("add" : Str), c, r) ∈ U)) := inX_encT enc3 U ("add", c, r)
    refine ⟨_, rfl, ?_⟩
    unfold l1__law_looks
    simp only [TP.ap_sSeq, TP.ap_sNil, TP.ap_sSet, TP.ap_sIf, TP.ap_sKill, TP.ap_sAsg, TP.ap_sExpr, TP.ap_sOwnP, TP.ap_sRet, TP.ap_sAppend, TP.ap_sPop, TP.ap_sPar, TP.ap_sPut, TP.ap_sFor, TP.ap_sRetN, TP.ap_sBreak, TP.ap_sCont, TP.ap_eVar, TP.ap_eC, TP.ap_aNil, TP.ap_aCons, TP.ap_eCall, TP.ap_e2, TP.ap_e1, TP.ap_e2B, TP.ap_eB, TP.ap_eT, TP.ap_eNot, TP.ap_eAnd, TP.ap_eOr, TP.ap_eIf, TP.ap_cNot, TP.ap_cAnd, TP.ap_cOr, TP.ap_cYes, TP.ap_cChain, TP.ap_iSeq, TP.ap_iArgs, TP.ap_oNone, TP.ap_pP, TP.ap_pLb, TP.ap_pLr, TP.ap_tgName, TP.ap_pgName, TP.ap_tgTup, TP.ap_tgTupL, TP.ap_pgTup, TP.ap_tgNil, TP.ap_pgNil, TP.ap_tgCons, TP.ap_pgCons, TP.plain, TP.lent, TP.Slot.plain, TP.Slot.lent, TP.itemsD, TP.wipeP, TP.eSlice, TP.oSome, TP.truthB, TP.Out.ofO, id_eq, TP.kill, TP.ok_bind, TP.exc_bind, TP.fail_bind, TP.ofO_some, TP.ofO_none, List.map_cons, List.map_nil, List.set_cons_zero, List.set_cons_succ, List.getElem?_cons_zero, List.getElem?_cons_succ, List.getElem?_nil, List.length_cons, List.length_nil, List.cons_append, List.nil_append, List.replicate_succ, List.replicate_zero, Option.join, Option.bind_some, Option.bind, Option.map_some, Option.map_none, Nat.reduceSub, Nat.reduceAdd, Nat.add_zero, Nat.zero_add, List.append_nil, if_true, if_false, Bool.false_eq_true, Bool.not_true, Bool.not_false, reduceIte, decide_true, decide_false, Nat.reduceLeDiff, TP.mkTup, TP.mkLst, TP.fits_eq, eq_str, e1, e2]
    by_cases h1 : k = ("read" : Str)
    · by_cases h2 : ((("write" : Str), c, r) : S3) ∈ U
      · simp only [TP.ap_sSeq, TP.ap_sNil, TP.ap_sSet, TP.ap_sIf, TP.ap_sKill, TP.ap_sAsg, TP.ap_sExpr, TP.ap_sOwnP, TP.ap_sRet, TP.ap_sAppend, TP.ap_sPop, TP.ap_sPar, TP.ap_sPut, TP.ap_sFor, TP.ap_sRetN, TP.ap_sBreak, TP.ap_sCont, TP.ap_eVar, TP.ap_eC, TP.ap_aNil, TP.ap_aCons, TP.ap_eCall, TP.ap_e2, TP.ap_e1, TP.ap_e2B, TP.ap_eB, TP.ap_eT, TP.ap_eNot, TP.ap_eAnd, TP.ap_eOr, TP.ap_eIf, TP.ap_cNot, TP.ap_cAnd, TP.ap_cOr, TP.ap_cYes, TP.ap_cChain, TP.ap_iSeq, TP.ap_iArgs, TP.ap_oNone, TP.ap_pP, TP.ap_pLb, TP.ap_pLr, TP.ap_tgName, TP.ap_pgName, TP.ap_tgTup, TP.ap_tgTupL, TP.ap_pgTup, TP.ap_tgNil, TP.ap_pgNil, TP.ap_tgCons, TP.ap_pgCons, TP.plain, TP.lent, TP.Slot.plain, TP.Slot.lent, TP.itemsD, TP.wipeP, TP.eSlice, TP.oSome, TP.truthB, TP.Out.ofO, id_eq, TP.kill, TP.ok_bind, TP.exc_bind, TP.fail_bind, TP.ofO_some, TP.ofO_none, List.map_cons, List.map_nil, List.set_cons_zero, List.set_cons_succ, List.getElem?_cons_zero, List.getElem?_cons_succ, List.getElem?_nil, List.length_cons, List.length_nil, List.cons_append, List.nil_append, List.replicate_succ, List.replicate_zero, Option.join, Option.bind_some, Option.bind, Option.map_some, Option.map_none, Nat.reduceSub, Nat.reduceAdd, Nat.add_zero, Nat.zero_add, List.append_nil, if_true, if_false, Bool.false_eq_true, Bool.not_true, Bool.not_false, reduceIte, decide_true, decide_false, Nat.reduceLeDiff, TP.mkTup, TP.mkLst, TP.fits_eq, h1, h2, Bool.true_or, Bool.and_self]
      · by_cases h3 : ((("add" : Str), c, r) : S3) ∈ U
        · simp only [TP.ap_sSeq, TP.ap_sNil, TP.ap_sSet, TP.ap_sIf, TP.ap_sKill, TP.ap_sAsg, TP.ap_sExpr, TP.ap_sOwnP, TP.ap_sRet, TP.ap_sAppend, TP.ap_sPop, TP.ap_sPar, TP.ap_sPut, TP.ap_sFor, TP.ap_sRetN, TP.ap_sBreak, TP.ap_sCont, TP.ap_eVar, TP.ap_eC, TP.ap_aNil, TP.ap_aCons, TP.ap_eCall, TP.ap_e2, TP.ap_e1, TP.ap_e2B, TP.ap_eB, TP.ap_eT, TP.ap_eNot, TP.ap_eAnd, TP.ap_eOr, TP.ap_eIf, TP.ap_cNot, TP.ap_cAnd, TP.ap_cOr, TP.ap_cYes, TP.ap_cChain, TP.ap_iSeq, TP.ap_iArgs, TP.ap_oNone, TP.ap_pP, TP.ap_pLb, TP.ap_pLr, TP.ap_tgName, TP.ap_pgName, TP.ap_tgTup, TP.ap_tgTupL, TP.ap_pgTup, TP.ap_tgNil, TP.ap_pgNil, TP.ap_tgCons, TP.ap_pgCons, TP.plain, TP.lent, TP.Slot.plain, TP.Slot.lent, TP.itemsD, TP.wipeP, TP.eSlice, TP.oSome, TP.truthB, TP.Out.ofO, id_eq, TP.kill, TP.ok_bind, TP.exc_bind, TP.fail_bind, TP.ofO_some, TP.ofO_none, List.map_cons, List.map_nil, List.set_cons_zero, List.set_cons_succ, List.getElem?_cons_zero, List.getElem?_cons_succ, List.getElem?_nil, List.length_cons, List.length_nil, List.cons_append, List.nil_append, List.replicate_succ, List.replicate_zero, Option.join, Option.bind_some, Option.bind, Option.map_some, Option.map_none, Nat.reduceSub, Nat.reduceAdd, Nat.add_zero, Nat.zero_add, List.append_nil, if_true, if_false, Bool.false_eq_true, Bool.not_true, Bool.not_false, reduceIte, decide_true, decide_false, Nat.reduceLeDiff, TP.mkTup, TP.mkLst, TP.fits_eq, h1, h2, h3, Bool.or_true, Bool.and_self]
        · simp only [TP.ap_sSeq, TP.ap_sNil, TP.ap_sSet, TP.ap_sIf, TP.ap_sKill, TP.ap_sAsg, TP.ap_sExpr, TP.ap_sOwnP, TP.ap_sRet, TP.ap_sAppend, TP.ap_sPop, TP.ap_sPar, TP.ap_sPut, TP.ap_sFor, TP.ap_sRetN, TP.ap_sBreak, TP.ap_sCont, TP.ap_eVar, TP.ap_eC, TP.ap_aNil, TP.ap_aCons, TP.ap_eCall, TP.ap_e2, TP.ap_e1, TP.ap_e2B, TP.ap_eB, TP.ap_eT, TP.ap_eNot, TP.ap_eAnd, TP.ap_eOr, TP.ap_eIf, TP.ap_cNot, TP.ap_cAnd, TP.ap_cOr, TP.ap_cYes, TP.ap_cChain, TP.ap_iSeq, TP.ap_iArgs, TP.ap_oNone, TP.ap_pP, TP.ap_pLb, TP.ap_pLr, TP.ap_tgName, TP.ap_pgName, TP.ap_tgTup, TP.ap_tgTupL, TP.ap_pgTup, TP.ap_tgNil, TP.ap_pgNil, TP.ap_tgCons, TP.ap_pgCons, TP.plain, TP.lent, TP.Slot.plain, TP.Slot.lent, TP.itemsD, TP.wipeP, TP.eSlice, TP.oSome, TP.truthB, TP.Out.ofO, id_eq, TP.kill, TP.ok_bind, TP.exc_bind, TP.fail_bind, TP.ofO_some, TP.ofO_none, List.map_cons, List.map_nil, List.set_cons_zero, List.set_cons_succ, List.getElem?_cons_zero, List.getElem?_cons_succ, List.getElem?_nil, List.length_cons, List.length_nil, List.cons_append, List.nil_append, List.replicate_succ, List.replicate_zero, Option.join, Option.bind_some, Option.bind, Option.map_some, Option.map_none, Nat.reduceSub, Nat.reduceAdd, Nat.add_zero, Nat.zero_add, List.append_nil, if_true, if_false, Bool.false_eq_true, Bool.not_true, Bool.not_false, reduceIte, decide_true, decide_false, Nat.reduceLeDiff, TP.mkTup, TP.mkLst, TP.fits_eq, h1, h2, h3, Bool.or_self, Bool.and_false]
    · simp only [TP.ap_sSeq, TP.ap_sNil, TP.ap_sSet, TP.ap_sIf, TP.ap_sKill, TP.ap_sAsg, TP.ap_sExpr, TP.ap_sOwnP, TP.ap_sRet, TP.ap_sAppend, TP.ap_sPop, TP.ap_sPar, TP.ap_sPut, TP.ap_sFor, TP.ap_sRetN, TP.ap_sBreak, TP.ap_sCont, TP.ap_eVar, TP.ap_eC, TP.ap_aNil, TP.ap_aCons, TP.ap_eCall, TP.ap_e2, TP.ap_e1, TP.ap_e2B, TP.ap_eB, TP.ap_eT, TP.ap_eNot, TP.ap_eAnd, TP.ap_eOr, TP.ap_eIf, TP.ap_cNot, TP.ap_cAnd, TP.ap_cOr, TP.ap_cYes, TP.ap_cChain, TP.ap_iSeq, TP.ap_iArgs, TP.ap_oNone, TP.ap_pP, TP.ap_pLb, TP.ap_pLr, TP.ap_tgName, TP.ap_pgName, TP.ap_tgTup, TP.ap_tgTupL, TP.ap_pgTup, TP.ap_tgNil, TP.ap_pgNil, TP.ap_tgCons, TP.ap_pgCons, TP.plain, TP.lent, TP.Slot.plain, TP.Slot.lent, TP.itemsD, TP.wipeP, TP.eSlice, TP.oSome, TP.truthB, TP.Out.ofO, id_eq, TP.kill, TP.ok_bind, TP.exc_bind, TP.fail_bind, TP.ofO_some, TP.ofO_none, List.map_cons, List.map_nil, List.set_cons_zero, List.set_cons_succ, List.getElem?_cons_zero, List.getElem?_cons_succ, List.getElem?_nil, List.length_cons, List.length_nil, List.cons_append, List.nil_append, List.replicate_succ, List.replicate_zero, Option.join, Option.bind_some, Option.bind, Option.map_some, Option.map_none, Nat.reduceSub, Nat.reduceAdd, Nat.add_zero, Nat.zero_add, List.append_nil, if_true, if_false, Bool.false_eq_true, Bool.not_true, Bool.not_false, reduceIte, decide_true, decide_false, Nat.reduceLeDiff, TP.mkTup, TP.mkLst, TP.fits_eq, h1, Bool.false_and])
  have lp' : loop (tgTup 3 (tgCons (tgName 2) (tgCons (tgName 3) (tgCons (tgName 4) tgNil)))) l1__law_looks (T.map en3) [.val (enT T), .val (enT U), .un, .un, .un] = if looksB T U = true then .rt (.bl true) else .nx [.val (enT T), .val (enT U), .un, .un, .un] := lp
  unfold g__law_looks b__law_looks
  simp only [TP.sem_fin, TP.fin_ret, TP.fin_ret1, TP.fin_set, TP.fin_ownP, TP.fin_par, TP.fin_kill, TP.fin_if, TP.fin_if1, TP.fin_asg, TP.fin_expr, TP.fin_for, TP.fin_loop_nil, TP.fin_sNil, TP.seq_seq, TP.seq_nil, TP.startE, TP.ap_eVar, TP.ap_eC, TP.ap_aNil, TP.ap_aCons, TP.ap_eCall, TP.ap_e2, TP.ap_e1, TP.ap_e2B, TP.ap_eB, TP.ap_eT, TP.ap_eNot, TP.ap_eAnd, TP.ap_eOr, TP.ap_eIf, TP.ap_cNot, TP.ap_cAnd, TP.ap_cOr, TP.ap_cYes, TP.ap_cChain, TP.ap_iSeq, TP.ap_iArgs, TP.ap_oNone, TP.ap_pP, TP.ap_pLb, TP.ap_pLr, TP.ap_tgName, TP.ap_pgName, TP.ap_tgTup, TP.ap_tgTupL, TP.ap_pgTup, TP.ap_tgNil, TP.ap_pgNil, TP.ap_tgCons, TP.ap_pgCons, TP.plain, TP.lent, TP.Slot.plain, TP.Slot.lent, TP.itemsD, TP.wipeP, TP.eSlice, TP.oSome, TP.truthB, TP.Out.ofO, id_eq, TP.kill, TP.ok_bind, TP.exc_bind, TP.fail_bind, TP.ofO_some, TP.ofO_none, List.map_cons, List.map_nil, List.set_cons_zero, List.set_cons_succ, List.getElem?_cons_zero, List.getElem?_cons_succ, List.getElem?_nil, List.length_cons, List.length_nil, List.cons_append, List.nil_append, List.replicate_succ, List.replicate_zero, Option.join, Option.bind_some, Option.bind, Option.map_some, Option.map_none, Nat.reduceSub, Nat.reduceAdd, Nat.add_zero, Nat.zero_add, List.append_nil, if_true, if_false, Bool.false_eq_true, Bool.not_true, Bool.not_false, reduceIte, decide_true, decide_false, Nat.reduceLeDiff, TP.mkTup, TP.mkLst, TP.fits_eq]
  rw [fin_find lp']
  cases looksB T U <;> simp only [TP.sem_fin, TP.fin_ret, TP.fin_ret1, TP.fin_set, TP.fin_ownP, TP.fin_par, TP.fin_kill, TP.fin_if, TP.fin_if1, TP.fin_asg, TP.fin_expr, TP.fin_for, TP.fin_loop_nil, TP.fin_sNil, TP.seq_seq, TP.seq_nil, TP.startE, TP.ap_eVar, TP.ap_eC, TP.ap_aNil, TP.ap_aCons, TP.ap_eCall, TP.ap_e2, TP.ap_e1, TP.ap_e2B, TP.ap_eB, TP.ap_eT, TP.ap_eNot, TP.ap_eAnd, TP.ap_eOr, TP.ap_eIf, TP.ap_cNot, TP.ap_cAnd, TP.ap_cOr, TP.ap_cYes, TP.ap_cChain, TP.ap_iSeq, TP.ap_iArgs, TP.ap_oNone, TP.ap_pP, TP.ap_pLb, TP.ap_pLr, TP.ap_tgName, TP.ap_pgName, TP.ap_tgTup, TP.ap_tgTupL, TP.ap_pgTup, TP.ap_tgNil, TP.ap_pgNil, TP.ap_tgCons, TP.ap_pgCons, TP.plain, TP.lent, TP.Slot.plain, TP.Slot.lent, TP.itemsD, TP.wipeP, TP.eSlice, TP.oSome, TP.truthB, TP.Out.ofO, id_eq, TP.kill, TP.ok_bind, TP.exc_bind, TP.fail_bind, TP.ofO_some, TP.ofO_none, List.map_cons, List.map_nil, List.set_cons_zero, List.set_cons_succ, List.getElem?_cons_zero, List.getElem?_cons_succ, List.getElem?_nil, List.length_cons, List.length_nil, List.cons_append, List.nil_append, List.replicate_succ, List.replicate_zero, Option.join, Option.bind_some, Option.bind, Option.map_some, Option.map_none, Nat.reduceSub, Nat.reduceAdd, Nat.add_zero, Nat.zero_add, List.append_nil, if_true, if_false, Bool.false_eq_true, Bool.not_true, Bool.not_false, reduceIte, decide_true, decide_false, Nat.reduceLeDiff, TP.mkTup, TP.mkLst, TP.fits_eq]
theorem law_both_ok (T U : List S3) : g__law_both [enT T, enT U] = .ok (.bl (bothB T U)) := by
  have lp := loop_find (t := tgTup 3 (tgCons (tgName 2) (tgCons (tgName 3) (tgCons (tgName 4) tgNil)))) (b := l1__law_both) en3 (fun t => decide (t.1 = ("write" : Str)) && decide (t ∈ U)) (.bl true)
    [.val (enT T), .val (enT U), .un, .un, .un] T (fun t _ => by
    obtain ⟨k, c, r⟩ := t
    have e1 : inX (.tup [.str k, .str c, .str r]) (enT U) = .ok (decide (((k, c, r) : S3) ∈ U)) := inX_encT enc3 U (k, c, r)
    refine ⟨_, rfl, ?_⟩
    unfold l1__law_both
    simp only [TP.ap_sSeq, TP.ap_sNil, TP.ap_sSet, TP.ap_sIf, TP.ap_sKill, TP.ap_sAsg, TP.ap_sExpr, TP.ap_sOwnP, TP.ap_sRet, TP.ap_sAppend, TP.ap_sPop, TP.ap_sPar, TP.ap_sPut, TP.ap_sFor, TP.ap_sRetN, TP.ap_sBreak, TP.ap_sCont, TP.ap_eVar, TP.ap_eC, TP.ap_aNil, TP.ap_aCons, TP.ap_eCall, TP.ap_e2, TP.ap_e1, TP.ap_e2B, TP.ap_eB, TP.ap_eT, TP.ap_eNot, TP.ap_eAnd, TP.ap_eOr, TP.ap_eIf, TP.ap_cNot, TP.ap_cAnd, TP.ap_cOr, TP.ap_cYes, TP.ap_cChain, TP.ap_iSeq, TP.ap_iArgs, TP.ap_oNone, TP.ap_pP, TP.ap_pLb, TP.ap_pLr, TP.ap_tgName, TP.ap_pgName, TP.ap_tgTup, TP.ap_tgTupL, TP.ap_pgTup, TP.ap_tgNil, TP.ap_pgNil, TP.ap_tgCons, TP.ap_pgCons, TP.plain, TP.lent, TP.Slot.plain, TP.Slot.lent, TP.itemsD, TP.wipeP, TP.eSlice, TP.oSome, TP.truthB, TP.Out.ofO, id_eq, TP.kill, TP.ok_bind, TP.exc_bind, TP.fail_bind, TP.ofO_some, TP.ofO_none, List.map_cons, List.map_nil, List.set_cons_zero, List.set_cons_succ, List.getElem?_cons_zero, List.getElem?_cons_succ, List.getElem?_nil, List.length_cons, List.length_nil, List.cons_append, List.nil_append, List.replicate_succ, List.replicate_zero, Option.join, Option.bind_some, Option.bind, Option.map_some, Option.map_none, Nat.reduceSub, Nat.reduceAdd, Nat.add_zero, Nat.zero_add, List.append_nil, if_true, if_false, Bool.false_eq_true, Bool.not_true, Bool.not_false, reduceIte, decide_true, decide_false, Nat.reduceLeDiff, TP.mkTup, TP.mkLst, TP.fits_eq, eq_str, e1]
    by_cases h1 : k = ("write" : Str)
    · subst h1
      by_cases h2 : ((("write" : Str), c, r) : S3) ∈ U
      · simp only [TP.ap_sSeq, TP.ap_sNil, TP.ap_sSet, TP.ap_sIf, TP.ap_sKill, TP.ap_sAsg, TP.ap_sExpr, TP.ap_sOwnP, TP.ap_sRet, TP.ap_sAppend, TP.ap_sPop, TP.ap_sPar, TP.ap_sPut, TP.ap_sFor, TP.ap_sRetN, TP.ap_sBreak, TP.ap_sCont, TP.ap_eVar, TP.ap_eC, TP.ap_aNil, TP.ap_aCons, TP.ap_eCall, TP.ap_e2, TP.ap_e1, TP.ap_e2B, TP.ap_eB, TP.ap_eT, TP.ap_eNot, TP.ap_eAnd, TP.ap_eOr, TP.ap_eIf, TP.ap_cNot, TP.ap_cAnd, TP.ap_cOr, TP.ap_cYes, TP.ap_cChain, TP.ap_iSeq, TP.ap_iArgs, TP.ap_oNone, TP.ap_pP, TP.ap_pLb, TP.ap_pLr, TP.ap_tgName, TP.ap_pgName, TP.ap_tgTup, TP.ap_tgTupL, TP.ap_pgTup, TP.ap_tgNil, TP.ap_pgNil, TP.ap_tgCons, TP.ap_pgCons, TP.plain, TP.lent, TP.Slot.plain, TP.Slot.lent, TP.itemsD, TP.wipeP, TP.eSlice, TP.oSome, TP.truthB, TP.Out.ofO, id_eq, TP.kill, TP.ok_bind, TP.exc_bind, TP.fail_bind, TP.ofO_some, TP.ofO_none, List.map_cons, List.map_nil, List.set_cons_zero, List.set_cons_succ, List.getElem?_cons_zero, List.getElem?_cons_succ, List.getElem?_nil, List.length_cons, List.length_nil, List.cons_append, List.nil_append, List.replicate_succ, List.replicate_zero, Option.join, Option.bind_some, Option.bind, Option.map_some, Option.map_none, Nat.reduceSub, Nat.reduceAdd, Nat.add_zero, Nat.zero_add, List.append_nil, if_true, if_false, Bool.false_eq_true, Bool.not_true, Bool.not_false, reduceIte, decide_true, decide_false, Nat.reduceLeDiff, TP.mkTup, TP.mkLst, TP.fits_eq, h2, Bool.and_self]
      · simp only [TP.ap_sSeq, TP.ap_sNil, TP.ap_sSet, TP.ap_sIf, TP.ap_sKill, TP.ap_sAsg, TP.ap_sExpr, TP.ap_sOwnP, TP.ap_sRet, TP.ap_sAppend, TP.ap_sPop, TP.ap_sPar, TP.ap_sPut, TP.ap_sFor, TP.ap_sRetN, TP.ap_sBreak, TP.ap_sCont, TP.ap_eVar, TP.ap_eC, TP.ap_aNil, TP.ap_aCons, TP.ap_eCall, TP.ap_e2, TP.ap_e1, TP.ap_e2B, TP.ap_eB, TP.ap_eT, TP.ap_eNot, TP.ap_eAnd, TP.ap_eOr, TP.ap_eIf, TP.ap_cNot, TP.ap_cAnd, TP.ap_cOr, TP.ap_cYes, TP.ap_cChain, TP.ap_iSeq, TP.ap_iArgs, TP.ap_oNone, TP.ap_pP, TP.ap_pLb, TP.ap_pLr, TP.ap_tgName, TP.ap_pgName, TP.ap_tgTup, TP.ap_tgTupL, TP.ap_pgTup, TP.ap_tgNil, TP.ap_pgNil, TP.ap_tgCons, TP.ap_pgCons, TP.plain, TP.lent, TP.Slot.plain, TP.Slot.lent, TP.itemsD, TP.wipeP, TP.eSlice, TP.oSome, TP.truthB, TP.Out.ofO, id_eq, TP.kill, TP.ok_bind, TP.exc_bind, TP.fail_bind, TP.ofO_some, TP.ofO_none, List.map_cons, List.map_nil, List.set_cons_zero, List.set_cons_succ, List.getElem?_cons_zero, List.getElem?_cons_succ, List.getElem?_nil, List.length_cons, List.length_nil, List.cons_append, List.nil_append, List.replicate_succ, List.replicate_zero, Option.join, Option.bind_some, Option.bind, Option.map_some, Option.map_none, Nat.reduceSub, Nat.reduceAdd, Nat.add_zero, Nat.zero_add, List.append_nil, if_true, if_false, Bool.false_eq_true, Bool.not_true, Bool.not_false, reduceIte, decide_true, decide_false, Nat.reduceLeDiff, TP.mkTup, TP.mkLst, TP.fits_eq, h2, Bool.and_false]
    · simp only [TP.ap_sSeq, TP.ap_sNil, TP.ap_sSet, TP.ap_sIf, TP.ap_sKill, TP.ap_sAsg, TP.ap_sExpr, TP.ap_sOwnP, TP.ap_sRet, TP.ap_sAppend, TP.ap_sPop, TP.ap_sPar, TP.ap_sPut, TP.ap_sFor, TP.ap_sRetN, TP.ap_sBreak, TP.ap_sCont, TP.ap_eVar, TP.ap_eC, TP.ap_aNil, TP.ap_aCons, TP.ap_eCall, TP.ap_e2, TP.ap_e1, TP.ap_e2B, TP.ap_eB, TP.ap_eT, TP.ap_eNot, TP.ap_eAnd, TP.ap_eOr, TP.ap_eIf, TP.ap_cNot, TP.ap_cAnd, TP.ap_cOr, TP.ap_cYes, TP.ap_cChain, TP.ap_iSeq, TP.ap_iArgs, TP.ap_oNone, TP.ap_pP, TP.ap_pLb, TP.ap_pLr, TP.ap_tgName, TP.ap_pgName, TP.ap_tgTup, TP.ap_tgTupL, TP.ap_pgTup, TP.ap_tgNil, TP.ap_pgNil, TP.ap_tgCons, TP.ap_pgCons, TP.plain, TP.lent, TP.Slot.plain, TP.Slot.lent, TP.itemsD, TP.wipeP, TP.eSlice, TP.oSome, TP.truthB, TP.Out.ofO, id_eq, TP.kill, TP.ok_bind, TP.exc_bind, TP.fail_bind, TP.ofO_some, TP.ofO_none, List.map_cons, List.map_nil, List.set_cons_zero, List.set_cons_succ, List.getElem?_cons_zero, List.getElem?_cons_succ, List.getElem?_nil, List.length_cons, List.length_nil, List.cons_append, List.nil_append, List.replicate_succ, List.replicate_zero, Option.join, Option.bind_some, Option.bind, Option.map_some, Option.map_none, Nat.reduceSub, Nat.reduceAdd, Nat.add_zero, Nat.zero_add, List.append_nil, if_true, if_false, Bool.false_eq_true, Bool.not_true, Bool.not_false, reduceIte, decide_true, decide_false, Nat.reduceLeDiff, TP.mkTup, TP.mkLst, TP.fits_eq, h1, Bool.false_and])
  have lp' : loop (tgTup 3 (tgCons (tgName 2) (tgCons (tgName 3) (tgCons (tgName 4) tgNil)))) l1__law_both (T.map en3) [.val (enT T), .val (enT U), .un, .un, .un] = if bothB T U = true then .rt (.bl true) else .nx [.val (enT T), .val (enT U), .un, .un, .un] := lp
  unfold g__law_both b__law_both
  simp only [TP.sem_fin, TP.fin_ret, TP.fin_ret1, TP.fin_set, TP.fin_ownP, TP.fin_par, TP.fin_kill, TP.fin_if, TP.fin_if1, TP.fin_asg, TP.fin_expr, TP.fin_for, TP.fin_loop_nil, TP.fin_sNil, TP.seq_seq, TP.seq_nil, TP.startE, TP.ap_eVar, TP.ap_eC, TP.ap_aNil, TP.ap_aCons, TP.ap_eCall, TP.ap_e2, TP.ap_e1, TP.ap_e2B, TP.ap_eB, TP.ap_eT, TP.ap_eNot, TP.ap_eAnd, TP.ap_eOr, TP.ap_eIf, TP.ap_cNot, TP.ap_cAnd, TP.ap_cOr, TP.ap_cYes, TP.ap_cChain, TP.ap_iSeq, TP.ap_iArgs, TP.ap_oNone, TP.ap_pP, TP.ap_pLb, TP.ap_pLr, TP.ap_tgName, TP.ap_pgName, TP.ap_tgTup, TP.ap_tgTupL, TP.ap_pgTup, TP.ap_tgNil, TP.ap_pgNil, TP.ap_tgCons, TP.ap_pgCons, TP.plain, TP.lent, TP.Slot.plain, TP.Slot.lent, TP.itemsD, TP.wipeP, TP.eSlice, TP.oSome, TP.truthB, TP.Out.ofO, id_eq, TP.kill, TP.ok_bind, TP.exc_bind, TP.fail_bind, TP.ofO_some, TP.ofO_none, List.map_cons, List.map_nil, List.set_cons_zero, List.set_cons_succ, List.getElem?_cons_zero, List.getElem?_cons_succ, List.getElem?_nil, List.length_cons, List.length_nil, List.cons_append, List.nil_append, List.replicate_succ, List.replicate_zero, Option.join, Option.bind_some, Option.bind, Option.map_some, Option.map_none, Nat.reduceSub, Nat.reduceAdd, Nat.add_zero, Nat.zero_add, List.append_nil, if_true, if_false, Bool.false_eq_true, Bool.not_true, Bool.not_false, reduceIte, decide_true, decide_false, Nat.reduceLeDiff, TP.mkTup, TP.mkLst, TP.fits_eq]
  rw [fin_find lp']
  cases bothB T U <;> simp only [TP.sem_fin, TP.fin_ret, TP.fin_ret1, TP.fin_set, TP.fin_ownP, TP.fin_par, TP.fin_kill, TP.fin_if, TP.fin_if1, TP.fin_asg, TP.fin_expr, TP.fin_for, TP.fin_loop_nil, TP.fin_sNil, TP.seq_seq, TP.seq_nil, TP.startE, TP.ap_eVar, TP.ap_eC, TP.ap_aNil, TP.ap_aCons, TP.ap_eCall, TP.ap_e2, TP.ap_e1, TP.ap_e2B, TP.ap_eB, TP.ap_eT, TP.ap_eNot, TP.ap_eAnd, TP.ap_eOr, TP.ap_eIf, TP.ap_cNot, TP.ap_cAnd, TP.ap_cOr, TP.ap_cYes, TP.ap_cChain, TP.ap_iSeq, TP.ap_iArgs, TP.ap_oNone, TP.ap_pP, TP.ap_pLb, TP.ap_pLr, TP.ap_tgName, TP.ap_pgName, TP.ap_tgTup, TP.ap_tgTupL, TP.ap_pgTup, TP.ap_tgNil, TP.ap_pgNil, TP.ap_tgCons, TP.ap_pgCons, TP.plain, TP.lent, TP.Slot.plain, TP.Slot.lent, TP.itemsD, TP.wipeP, TP.eSlice, TP.oSome, TP.truthB, TP.Out.ofO, id_eq, TP.kill, TP.ok_bind, TP.exc_bind, TP.fail_bind, TP.ofO_some, TP.ofO_none, List.map_cons, List.map_nil, List.set_cons_zero, List.set_cons_succ, List.getElem?_cons_zero, List.getElem?_cons_succ, List.getElem?_nil, List.length_cons, List.length_nil, List.cons_append, List.nil_append, List.replicate_succ, List.replicate_zero, Option.join, Option.bind_some, Option.bind, Option.map_some, Option.map_none, Nat.reduceSub, Nat.reduceAdd, Nat.add_zero, Nat.zero_add, List.append_nil, if_true, if_false, Bool.false_eq_true, Bool.not_true, Bool.not_false, reduceIte, decide_true, decide_false, Nat.reduceLeDiff, TP.mkTup, TP.mkLst, TP.fits_eq]
theorem law_meets_ok (T U : List S3) : g__law_meets [enT T, enT U] = .ok (.bl (meetsB T U)) := by
  unfold g__law_meets b__law_meets
  simp only [TP.sem_fin, TP.fin_ret, TP.fin_ret1, TP.fin_set, TP.fin_ownP, TP.fin_par, TP.fin_kill, TP.fin_if, TP.fin_if1, TP.fin_asg, TP.fin_expr, TP.fin_for, TP.fin_loop_nil, TP.fin_sNil, TP.seq_seq, TP.seq_nil, TP.startE, TP.ap_eVar, TP.ap_eC, TP.ap_aNil, TP.ap_aCons, TP.ap_eCall, TP.ap_e2, TP.ap_e1, TP.ap_e2B, TP.ap_eB, TP.ap_eT, TP.ap_eNot, TP.ap_eAnd, TP.ap_eOr, TP.ap_eIf, TP.ap_cNot, TP.ap_cAnd, TP.ap_cOr, TP.ap_cYes, TP.ap_cChain, TP.ap_iSeq, TP.ap_iArgs, TP.ap_oNone, TP.ap_pP, TP.ap_pLb, TP.ap_pLr, TP.ap_tgName, TP.ap_pgName, TP.ap_tgTup, TP.ap_tgTupL, TP.ap_pgTup, TP.ap_tgNil, TP.ap_pgNil, TP.ap_tgCons, TP.ap_pgCons, TP.plain, TP.lent, TP.Slot.plain, TP.Slot.lent, TP.itemsD, TP.wipeP, TP.eSlice, TP.oSome, TP.truthB, TP.Out.ofO, id_eq, TP.kill, TP.ok_bind, TP.exc_bind, TP.fail_bind, TP.ofO_some, TP.ofO_none, List.map_cons, List.map_nil, List.set_cons_zero, List.set_cons_succ, List.getElem?_cons_zero, List.getElem?_cons_succ, List.getElem?_nil, List.length_cons, List.length_nil, List.cons_append, List.nil_append, List.replicate_succ, List.replicate_zero, Option.join, Option.bind_some, Option.bind, Option.map_some, Option.map_none, Nat.reduceSub, Nat.reduceAdd, Nat.add_zero, Nat.zero_add, List.append_nil, if_true, if_false, Bool.false_eq_true, Bool.not_true, Bool.not_false, reduceIte, decide_true, decide_false, Nat.reduceLeDiff, TP.mkTup, TP.mkLst, TP.fits_eq, law_looks_ok T U, law_looks_ok U T, law_both_ok T U]
  unfold meetsB
  cases looksB T U <;> cases looksB U T <;> simp only [TP.sem_fin, TP.fin_ret, TP.fin_ret1, TP.fin_set, TP.fin_ownP, TP.fin_par, TP.fin_kill, TP.fin_if, TP.fin_if1, TP.fin_asg, TP.fin_expr, TP.fin_for, TP.fin_loop_nil, TP.fin_sNil, TP.seq_seq, TP.seq_nil, TP.startE, TP.ap_eVar, TP.ap_eC, TP.ap_aNil, TP.ap_aCons, TP.ap_eCall, TP.ap_e2, TP.ap_e1, TP.ap_e2B, TP.ap_eB, TP.ap_eT, TP.ap_eNot, TP.ap_eAnd, TP.ap_eOr, TP.ap_eIf, TP.ap_cNot, TP.ap_cAnd, TP.ap_cOr, TP.ap_cYes, TP.ap_cChain, TP.ap_iSeq, TP.ap_iArgs, TP.ap_oNone, TP.ap_pP, TP.ap_pLb, TP.ap_pLr, TP.ap_tgName, TP.ap_pgName, TP.ap_tgTup, TP.ap_tgTupL, TP.ap_pgTup, TP.ap_tgNil, TP.ap_pgNil, TP.ap_tgCons, TP.ap_pgCons, TP.plain, TP.lent, TP.Slot.plain, TP.Slot.lent, TP.itemsD, TP.wipeP, TP.eSlice, TP.oSome, TP.truthB, TP.Out.ofO, id_eq, TP.kill, TP.ok_bind, TP.exc_bind, TP.fail_bind, TP.ofO_some, TP.ofO_none, List.map_cons, List.map_nil, List.set_cons_zero, List.set_cons_succ, List.getElem?_cons_zero, List.getElem?_cons_succ, List.getElem?_nil, List.length_cons, List.length_nil, List.cons_append, List.nil_append, List.replicate_succ, List.replicate_zero, Option.join, Option.bind_some, Option.bind, Option.map_some, Option.map_none, Nat.reduceSub, Nat.reduceAdd, Nat.add_zero, Nat.zero_add, List.append_nil, if_true, if_false, Bool.false_eq_true, Bool.not_true, Bool.not_false, reduceIte, decide_true, decide_false, Nat.reduceLeDiff, TP.mkTup, TP.mkLst, TP.fits_eq, Bool.true_or, Bool.false_or]
theorem mem1 (a : Slot) (k f n : Nat) (acc : List M3) (hb : acc.length + n ≤ 100000) : loop (tgName 4) l1__law_members (rangeL (f : Nat) n) [a, .own (.lst (acc.map enM)), .val (.int (k : Nat)), .val (.int (f : Nat)), .un] =
    .nx [a, .own (.lst ((acc ++ (List.range n).map fun j => ((k, f, f + j) : M3)).map enM)), .val (.int (k : Nat)), .val (.int (f : Nat)), .un] := by
  have lp := loop_over (t := tgName 4) (b := l1__law_members) (fun j : Nat => D.int ((f : Nat) + (j : Nat))) (fun pre => [a, .own (.lst ((acc ++ pre.map fun j => ((k, f, f + j) : M3)).map enM)), .val (.int (k : Nat)), .val (.int (f : Nat)), .un]) (List.range n) [] (fun p j post e => by
    rw [List.nil_append] at e
    have hl : p.length < n := by have := congrArg List.length e; simp at this; omega
    have ff : decide (acc.length + p.length ≤ 16777215) = true := decide_eq_true (by omega)
    refine ⟨_, rfl, .inl ?_⟩
    unfold l1__law_members
    simp only [TP.ap_sSeq, TP.ap_sNil, TP.ap_sSet, TP.ap_sIf, TP.ap_sKill, TP.ap_sAsg, TP.ap_sExpr, TP.ap_sOwnP, TP.ap_sRet, TP.ap_sAppend, TP.ap_sPop, TP.ap_sPar, TP.ap_sPut, TP.ap_sFor, TP.ap_sRetN, TP.ap_sBreak, TP.ap_sCont, TP.ap_eVar, TP.ap_eC, TP.ap_aNil, TP.ap_aCons, TP.ap_eCall, TP.ap_e2, TP.ap_e1, TP.ap_e2B, TP.ap_eB, TP.ap_eT, TP.ap_eNot, TP.ap_eAnd, TP.ap_eOr, TP.ap_eIf, TP.ap_cNot, TP.ap_cAnd, TP.ap_cOr, TP.ap_cYes, TP.ap_cChain, TP.ap_iSeq, TP.ap_iArgs, TP.ap_oNone, TP.ap_pP, TP.ap_pLb, TP.ap_pLr, TP.ap_tgName, TP.ap_pgName, TP.ap_tgTup, TP.ap_tgTupL, TP.ap_pgTup, TP.ap_tgNil, TP.ap_pgNil, TP.ap_tgCons, TP.ap_pgCons, TP.plain, TP.lent, TP.Slot.plain, TP.Slot.lent, TP.itemsD, TP.wipeP, TP.eSlice, TP.oSome, TP.truthB, TP.Out.ofO, id_eq, TP.kill, TP.ok_bind, TP.exc_bind, TP.fail_bind, TP.ofO_some, TP.ofO_none, List.map_cons, List.map_nil, List.set_cons_zero, List.set_cons_succ, List.getElem?_cons_zero, List.getElem?_cons_succ, List.getElem?_nil, List.length_cons, List.length_nil, List.cons_append, List.nil_append, List.replicate_succ, List.replicate_zero, Option.join, Option.bind_some, Option.bind, Option.map_some, Option.map_none, Nat.reduceSub, Nat.reduceAdd, Nat.add_zero, Nat.zero_add, List.append_nil, if_true, if_false, Bool.false_eq_true, Bool.not_true, Bool.not_false, reduceIte, decide_true, decide_false, Nat.reduceLeDiff, TP.mkTup, TP.mkLst, TP.fits_eq, List.length_map, List.length_append, ff]
    rw [List.map_append, List.map_append, List.map_append, List.append_assoc]
    simp [enM])
  have e : (acc ++ ([] : List Nat).map fun j => ((k, f, f + j) : M3)) = acc := by simp
  rw [List.nil_append, e] at lp
  exact lp
theorem mem2 {L : Lot} {k : Nat} (hk : k < L.length) {f : Nat} (hf : f < (L.getD k []).length) (hS : (L.getD k []).length ≤ 1000) (acc : List M3) (hb : acc.length ≤ 90000) :
    l2__law_members [.val (enL L), .own (.lst (acc.map enM)), .val (.int (k : Nat)), .val (.int (f : Nat)), .un] = .nx [.val (enL L), .own (.lst ((acc ++ (List.range ((L.getD k []).length - f)).map fun j => ((k, f, f + j) : M3)).map enM)), .val (.int (k : Nat)), .un, .un] := by
  unfold l2__law_members
  simp only [TP.ap_sSeq, TP.ap_sNil, TP.ap_sSet, TP.ap_sIf, TP.ap_sKill, TP.ap_sAsg, TP.ap_sExpr, TP.ap_sOwnP, TP.ap_sRet, TP.ap_sAppend, TP.ap_sPop, TP.ap_sPar, TP.ap_sPut, TP.ap_sFor, TP.ap_sRetN, TP.ap_sBreak, TP.ap_sCont, TP.ap_eVar, TP.ap_eC, TP.ap_aNil, TP.ap_aCons, TP.ap_eCall, TP.ap_e2, TP.ap_e1, TP.ap_e2B, TP.ap_eB, TP.ap_eT, TP.ap_eNot, TP.ap_eAnd, TP.ap_eOr, TP.ap_eIf, TP.ap_cNot, TP.ap_cAnd, TP.ap_cOr, TP.ap_cYes, TP.ap_cChain, TP.ap_iSeq, TP.ap_iArgs, TP.ap_oNone, TP.ap_pP, TP.ap_pLb, TP.ap_pLr, TP.ap_tgName, TP.ap_pgName, TP.ap_tgTup, TP.ap_tgTupL, TP.ap_pgTup, TP.ap_tgNil, TP.ap_pgNil, TP.ap_tgCons, TP.ap_pgCons, TP.plain, TP.lent, TP.Slot.plain, TP.Slot.lent, TP.itemsD, TP.wipeP, TP.eSlice, TP.oSome, TP.truthB, TP.Out.ofO, id_eq, TP.kill, TP.ok_bind, TP.exc_bind, TP.fail_bind, TP.ofO_some, TP.ofO_none, List.map_cons, List.map_nil, List.set_cons_zero, List.set_cons_succ, List.getElem?_cons_zero, List.getElem?_cons_succ, List.getElem?_nil, List.length_cons, List.length_nil, List.cons_append, List.nil_append, List.replicate_succ, List.replicate_zero, Option.join, Option.bind_some, Option.bind, Option.map_some, Option.map_none, Nat.reduceSub, Nat.reduceAdd, Nat.add_zero, Nat.zero_add, List.append_nil, if_true, if_false, Bool.false_eq_true, Bool.not_true, Bool.not_false, reduceIte, decide_true, decide_false, Nat.reduceLeDiff, TP.mkTup, TP.mkLst, TP.fits_eq, at_s hk, lenT, rd2 f (L.getD k []).length (by omega) (by omega), mem1 (.val (enL L)) k f ((L.getD k []).length - f) acc (by omega)]
theorem mem3 {L : Lot} {k : Nat} (hk : k < L.length) (hS : (L.getD k []).length ≤ 100) (acc : List M3) (hb : acc.length ≤ 60000) :
    l3__law_members [.val (enL L), .own (.lst (acc.map enM)), .val (.int (k : Nat)), .un, .un] = .nx [.val (enL L), .own (.lst ((acc ++ memS k (L.getD k []).length).map enM)), .un, .un, .un] := by
  have lp := loop_over (t := tgName 3) (b := l2__law_members) (fun f : Nat => D.int (0 + (f : Nat))) (fun pre => [.val (enL L), .own (.lst ((acc ++ pre.flatMap fun f => (List.range ((L.getD k []).length - f)).map fun j => ((k, f, f + j) : M3)).map enM)), .val (.int (k : Nat)), .un, .un]) (List.range (L.getD k []).length) [] (fun p f post e => by
    rw [List.nil_append] at e
    have hl : p.length < (L.getD k []).length := by have := congrArg List.length e; rw [List.length_range, List.length_append, List.length_cons] at this; omega
    have hf : f < (L.getD k []).length := by have : f ∈ List.range (L.getD k []).length := by rw [e]; simp
                                             exact List.mem_range.mp this
    have hp : (p.flatMap fun f => (List.range ((L.getD k []).length - f)).map fun j => ((k, f, f + j) : M3)).length ≤ p.length * 100 := flatMap_len_le _ 100 p (fun f _ => by rw [List.length_map, List.length_range]; omega)
    have := mem2 hk hf (by omega) (acc ++ p.flatMap fun f => (List.range ((L.getD k []).length - f)).map fun j => ((k, f, f + j) : M3)) (by rw [List.length_append]; omega)
    refine ⟨_, rfl, .inl ?_⟩
    simp only [Int.zero_add, List.set_cons_zero, List.set_cons_succ]
    rw [this, List.flatMap_append, List.flatMap_cons, List.flatMap_nil, List.append_nil, List.append_assoc])
  have lp' : loop (tgName 3) l2__law_members (rangeL 0 (L.getD k []).length) [.val (enL L), .own (.lst (acc.map enM)), .val (.int (k : Nat)), .un, .un] = .nx [.val (enL L), .own (.lst ((acc ++ memS k (L.getD k []).length).map enM)), .val (.int (k : Nat)), .un, .un] := by
    have e : (acc ++ ([] : List Nat).flatMap fun f => (List.range ((L.getD k []).length - f)).map fun j => ((k, f, f + j) : M3)) = acc := by simp
    rw [e] at lp
    exact lp
  unfold l3__law_members
  simp only [TP.ap_sSeq, TP.ap_sNil, TP.ap_sSet, TP.ap_sIf, TP.ap_sKill, TP.ap_sAsg, TP.ap_sExpr, TP.ap_sOwnP, TP.ap_sRet, TP.ap_sAppend, TP.ap_sPop, TP.ap_sPar, TP.ap_sPut, TP.ap_sFor, TP.ap_sRetN, TP.ap_sBreak, TP.ap_sCont, TP.ap_eVar, TP.ap_eC, TP.ap_aNil, TP.ap_aCons, TP.ap_eCall, TP.ap_e2, TP.ap_e1, TP.ap_e2B, TP.ap_eB, TP.ap_eT, TP.ap_eNot, TP.ap_eAnd, TP.ap_eOr, TP.ap_eIf, TP.ap_cNot, TP.ap_cAnd, TP.ap_cOr, TP.ap_cYes, TP.ap_cChain, TP.ap_iSeq, TP.ap_iArgs, TP.ap_oNone, TP.ap_pP, TP.ap_pLb, TP.ap_pLr, TP.ap_tgName, TP.ap_pgName, TP.ap_tgTup, TP.ap_tgTupL, TP.ap_pgTup, TP.ap_tgNil, TP.ap_pgNil, TP.ap_tgCons, TP.ap_pgCons, TP.plain, TP.lent, TP.Slot.plain, TP.Slot.lent, TP.itemsD, TP.wipeP, TP.eSlice, TP.oSome, TP.truthB, TP.Out.ofO, id_eq, TP.kill, TP.ok_bind, TP.exc_bind, TP.fail_bind, TP.ofO_some, TP.ofO_none, List.map_cons, List.map_nil, List.set_cons_zero, List.set_cons_succ, List.getElem?_cons_zero, List.getElem?_cons_succ, List.getElem?_nil, List.length_cons, List.length_nil, List.cons_append, List.nil_append, List.replicate_succ, List.replicate_zero, Option.join, Option.bind_some, Option.bind, Option.map_some, Option.map_none, Nat.reduceSub, Nat.reduceAdd, Nat.add_zero, Nat.zero_add, List.append_nil, if_true, if_false, Bool.false_eq_true, Bool.not_true, Bool.not_false, reduceIte, decide_true, decide_false, Nat.reduceLeDiff, TP.mkTup, TP.mkLst, TP.fits_eq, at_s hk, lenT, rd1 (L.getD k []).length (by omega), lp']
theorem law_members_ok {L : Lot} {n m q : Nat} (h : LotS L n m q) (hn : n ≤ 50) (hm : m ≤ 30) : g__law_members [enL L] = .ok (.lst ((membersR L).map enM)) := by
  have h1 := h.lots
  have hs : ∀ k, k < L.length → (L.getD k []).length ≤ 30 := fun k hk => Nat.le_trans (h.sess _ (getD_mem hk [])) hm
  have lp := loop_over (t := tgName 2) (b := l3__law_members) (fun k : Nat => D.int (0 + (k : Nat))) (fun pre => [.val (enL L), .own (.lst ((pre.flatMap fun k => memS k (L.getD k []).length).map enM)), .un, .un, .un]) (List.range L.length) [] (fun p k post e => by
    rw [List.nil_append] at e
    have hk : k < L.length := by have : k ∈ List.range L.length := by rw [e]; simp
                                 exact List.mem_range.mp this
    have hl : p.length < L.length := by have := congrArg List.length e; simp at this; omega
    have hp : (p.flatMap fun k => memS k (L.getD k []).length).length ≤ p.length * 900 := flatMap_len_le _ 900 p (fun a ha => by
      have ha2 : a < L.length := by have : a ∈ List.range L.length := by rw [e]; simp [ha]
                                    exact List.mem_range.mp this
      exact Nat.le_trans (memS_len _ _) (Nat.mul_le_mul (hs a ha2) (hs a ha2)))
    have := mem3 hk (by have := hs k hk; omega) (p.flatMap fun k => memS k (L.getD k []).length) (by omega)
    refine ⟨_, rfl, .inl ?_⟩
    simp only [Int.zero_add, List.set_cons_zero, List.set_cons_succ]
    rw [this, List.flatMap_append, List.flatMap_cons, List.flatMap_nil, List.append_nil])
  have lp' : loop (tgName 2) l3__law_members (rangeL 0 L.length) [.val (enL L), .own (.lst []), .un, .un, .un] = .nx [.val (enL L), .own (.lst ((membersR L).map enM)), .un, .un, .un] := lp
  unfold g__law_members b__law_members
  simp only [TP.sem_fin, TP.fin_ret, TP.fin_ret1, TP.fin_set, TP.fin_ownP, TP.fin_par, TP.fin_kill, TP.fin_if, TP.fin_if1, TP.fin_asg, TP.fin_expr, TP.fin_for, TP.fin_loop_nil, TP.fin_sNil, TP.seq_seq, TP.seq_nil, TP.startE, TP.ap_eVar, TP.ap_eC, TP.ap_aNil, TP.ap_aCons, TP.ap_eCall, TP.ap_e2, TP.ap_e1, TP.ap_e2B, TP.ap_eB, TP.ap_eT, TP.ap_eNot, TP.ap_eAnd, TP.ap_eOr, TP.ap_eIf, TP.ap_cNot, TP.ap_cAnd, TP.ap_cOr, TP.ap_cYes, TP.ap_cChain, TP.ap_iSeq, TP.ap_iArgs, TP.ap_oNone, TP.ap_pP, TP.ap_pLb, TP.ap_pLr, TP.ap_tgName, TP.ap_pgName, TP.ap_tgTup, TP.ap_tgTupL, TP.ap_pgTup, TP.ap_tgNil, TP.ap_pgNil, TP.ap_tgCons, TP.ap_pgCons, TP.plain, TP.lent, TP.Slot.plain, TP.Slot.lent, TP.itemsD, TP.wipeP, TP.eSlice, TP.oSome, TP.truthB, TP.Out.ofO, id_eq, TP.kill, TP.ok_bind, TP.exc_bind, TP.fail_bind, TP.ofO_some, TP.ofO_none, List.map_cons, List.map_nil, List.set_cons_zero, List.set_cons_succ, List.getElem?_cons_zero, List.getElem?_cons_succ, List.getElem?_nil, List.length_cons, List.length_nil, List.cons_append, List.nil_append, List.replicate_succ, List.replicate_zero, Option.join, Option.bind_some, Option.bind, Option.map_some, Option.map_none, Nat.reduceSub, Nat.reduceAdd, Nat.add_zero, Nat.zero_add, List.append_nil, if_true, if_false, Bool.false_eq_true, Bool.not_true, Bool.not_false, reduceIte, decide_true, decide_false, Nat.reduceLeDiff, TP.mkTup, TP.mkLst, TP.fits_eq, lenT, rd1 L.length (by omega)]
  rw [fin_loop lp']
  simp only [TP.sem_fin, TP.fin_ret, TP.fin_ret1, TP.fin_set, TP.fin_ownP, TP.fin_par, TP.fin_kill, TP.fin_if, TP.fin_if1, TP.fin_asg, TP.fin_expr, TP.fin_for, TP.fin_loop_nil, TP.fin_sNil, TP.seq_seq, TP.seq_nil, TP.startE, TP.ap_eVar, TP.ap_eC, TP.ap_aNil, TP.ap_aCons, TP.ap_eCall, TP.ap_e2, TP.ap_e1, TP.ap_e2B, TP.ap_eB, TP.ap_eT, TP.ap_eNot, TP.ap_eAnd, TP.ap_eOr, TP.ap_eIf, TP.ap_cNot, TP.ap_cAnd, TP.ap_cOr, TP.ap_cYes, TP.ap_cChain, TP.ap_iSeq, TP.ap_iArgs, TP.ap_oNone, TP.ap_pP, TP.ap_pLb, TP.ap_pLr, TP.ap_tgName, TP.ap_pgName, TP.ap_tgTup, TP.ap_tgTupL, TP.ap_pgTup, TP.ap_tgNil, TP.ap_pgNil, TP.ap_tgCons, TP.ap_pgCons, TP.plain, TP.lent, TP.Slot.plain, TP.Slot.lent, TP.itemsD, TP.wipeP, TP.eSlice, TP.oSome, TP.truthB, TP.Out.ofO, id_eq, TP.kill, TP.ok_bind, TP.exc_bind, TP.fail_bind, TP.ofO_some, TP.ofO_none, List.map_cons, List.map_nil, List.set_cons_zero, List.set_cons_succ, List.getElem?_cons_zero, List.getElem?_cons_succ, List.getElem?_nil, List.length_cons, List.length_nil, List.cons_append, List.nil_append, List.replicate_succ, List.replicate_zero, Option.join, Option.bind_some, Option.bind, Option.map_some, Option.map_none, Nat.reduceSub, Nat.reduceAdd, Nat.add_zero, Nat.zero_add, List.append_nil, if_true, if_false, Bool.false_eq_true, Bool.not_true, Bool.not_false, reduceIte, decide_true, decide_false, Nat.reduceLeDiff, TP.mkTup, TP.mkLst, TP.fits_eq]
theorem law_cut_ok {L : Lot} {a b : M3} (ha : a ∈ membersR L) (hb : b ∈ membersR L) : g__law_cut [enL L, enM a, enM b] = .ok (.tup [.bl (looksB (dealAt L a.1 a.2.2) (dealAt L b.1 b.2.1)), .bl (bothB (dealAt L a.1 a.2.2) (dealAt L b.1 b.2.1))]) := by
  obtain ⟨a1, a2, a3⟩ := mem_membersR.mp ha
  obtain ⟨b1, b2, b3⟩ := mem_membersR.mp hb
  have e1 : getX (enSs (L.getD a.1 [])) (.int (a.2.2 : Nat)) = .ok (enT (dealAt L a.1 a.2.2)) := at_d a3
  have e2 : getX (enSs (L.getD b.1 [])) (.int (b.2.1 : Nat)) = .ok (enT (dealAt L b.1 b.2.1)) := at_d (by omega)
  unfold g__law_cut b__law_cut
  simp only [TP.sem_fin, TP.fin_ret, TP.fin_ret1, TP.fin_set, TP.fin_ownP, TP.fin_par, TP.fin_kill, TP.fin_if, TP.fin_if1, TP.fin_asg, TP.fin_expr, TP.fin_for, TP.fin_loop_nil, TP.fin_sNil, TP.seq_seq, TP.seq_nil, TP.startE, TP.ap_eVar, TP.ap_eC, TP.ap_aNil, TP.ap_aCons, TP.ap_eCall, TP.ap_e2, TP.ap_e1, TP.ap_e2B, TP.ap_eB, TP.ap_eT, TP.ap_eNot, TP.ap_eAnd, TP.ap_eOr, TP.ap_eIf, TP.ap_cNot, TP.ap_cAnd, TP.ap_cOr, TP.ap_cYes, TP.ap_cChain, TP.ap_iSeq, TP.ap_iArgs, TP.ap_oNone, TP.ap_pP, TP.ap_pLb, TP.ap_pLr, TP.ap_tgName, TP.ap_pgName, TP.ap_tgTup, TP.ap_tgTupL, TP.ap_pgTup, TP.ap_tgNil, TP.ap_pgNil, TP.ap_tgCons, TP.ap_pgCons, TP.plain, TP.lent, TP.Slot.plain, TP.Slot.lent, TP.itemsD, TP.wipeP, TP.eSlice, TP.oSome, TP.truthB, TP.Out.ofO, id_eq, TP.kill, TP.ok_bind, TP.exc_bind, TP.fail_bind, TP.ofO_some, TP.ofO_none, List.map_cons, List.map_nil, List.set_cons_zero, List.set_cons_succ, List.getElem?_cons_zero, List.getElem?_cons_succ, List.getElem?_nil, List.length_cons, List.length_nil, List.cons_append, List.nil_append, List.replicate_succ, List.replicate_zero, Option.join, Option.bind_some, Option.bind, Option.map_some, Option.map_none, Nat.reduceSub, Nat.reduceAdd, Nat.add_zero, Nat.zero_add, List.append_nil, if_true, if_false, Bool.false_eq_true, Bool.not_true, Bool.not_false, reduceIte, decide_true, decide_false, Nat.reduceLeDiff, TP.mkTup, TP.mkLst, TP.fits_eq, enM0, enM1, enM2, at_s a1, at_s b1, e1, e2, law_looks_ok, law_both_ok]
end K20

end
set_option Elab.async false
set_option linter.all false
set_option maxRecDepth 100000
noncomputable section
namespace K20
open PySem L2 TP
theorem first_ok {L : Lot} {a : M3} (ha : a ∈ membersR L) : g_first_deal [enL L, enM a] = .ok (enT (dealAt L a.1 a.2.1)) := by
  obtain ⟨a1, a2, a3⟩ := mem_membersR.mp ha
  have e1 : getX (enSs (L.getD a.1 [])) (.int (a.2.1 : Nat)) = .ok (enT (dealAt L a.1 a.2.1)) := at_d (by omega)
  have e2 : sliceD none (some 2) (enM a) = .ok (.tup [.int (a.1 : Nat), .int (a.2.1 : Nat)]) := rfl
  have e3 : getX (.tup [.int (a.1 : Nat), .int (a.2.1 : Nat)]) (.int 0) = .ok (.int (a.1 : Nat)) := rfl
  have e4 : getX (.tup [.int (a.1 : Nat), .int (a.2.1 : Nat)]) (.int 1) = .ok (.int (a.2.1 : Nat)) := rfl
  unfold g_first_deal b_first_deal
  simp only [TP.sem_fin, TP.fin_ret, TP.fin_ret1, TP.fin_set, TP.fin_ownP, TP.fin_par, TP.fin_kill, TP.fin_if, TP.fin_if1, TP.fin_asg, TP.fin_expr, TP.fin_for, TP.fin_loop_nil, TP.fin_sNil, TP.seq_seq, TP.seq_nil, TP.startE, TP.ap_eVar, TP.ap_eC, TP.ap_aNil, TP.ap_aCons, TP.ap_eCall, TP.ap_e2, TP.ap_e1, TP.ap_e2B, TP.ap_eB, TP.ap_eT, TP.ap_eNot, TP.ap_eAnd, TP.ap_eOr, TP.ap_eIf, TP.ap_cNot, TP.ap_cAnd, TP.ap_cOr, TP.ap_cYes, TP.ap_cChain, TP.ap_iSeq, TP.ap_iArgs, TP.ap_oNone, TP.ap_pP, TP.ap_pLb, TP.ap_pLr, TP.ap_tgName, TP.ap_pgName, TP.ap_tgTup, TP.ap_tgTupL, TP.ap_pgTup, TP.ap_tgNil, TP.ap_pgNil, TP.ap_tgCons, TP.ap_pgCons, TP.plain, TP.lent, TP.Slot.plain, TP.Slot.lent, TP.itemsD, TP.wipeP, TP.eSlice, TP.oSome, TP.truthB, TP.Out.ofO, id_eq, TP.kill, TP.ok_bind, TP.exc_bind, TP.fail_bind, TP.ofO_some, TP.ofO_none, List.map_cons, List.map_nil, List.set_cons_zero, List.set_cons_succ, List.getElem?_cons_zero, List.getElem?_cons_succ, List.getElem?_nil, List.length_cons, List.length_nil, List.cons_append, List.nil_append, List.replicate_succ, List.replicate_zero, Option.join, Option.bind_some, Option.bind, Option.map_some, Option.map_none, Nat.reduceSub, Nat.reduceAdd, Nat.add_zero, Nat.zero_add, List.append_nil, if_true, if_false, Bool.false_eq_true, Bool.not_true, Bool.not_false, reduceIte, decide_true, decide_false, Nat.reduceLeDiff, TP.mkTup, TP.mkLst, TP.fits_eq, asInt, e2]
  unfold g_deal_at b_deal_at
  simp only [TP.sem_fin, TP.fin_ret, TP.fin_ret1, TP.fin_set, TP.fin_ownP, TP.fin_par, TP.fin_kill, TP.fin_if, TP.fin_if1, TP.fin_asg, TP.fin_expr, TP.fin_for, TP.fin_loop_nil, TP.fin_sNil, TP.seq_seq, TP.seq_nil, TP.startE, TP.ap_eVar, TP.ap_eC, TP.ap_aNil, TP.ap_aCons, TP.ap_eCall, TP.ap_e2, TP.ap_e1, TP.ap_e2B, TP.ap_eB, TP.ap_eT, TP.ap_eNot, TP.ap_eAnd, TP.ap_eOr, TP.ap_eIf, TP.ap_cNot, TP.ap_cAnd, TP.ap_cOr, TP.ap_cYes, TP.ap_cChain, TP.ap_iSeq, TP.ap_iArgs, TP.ap_oNone, TP.ap_pP, TP.ap_pLb, TP.ap_pLr, TP.ap_tgName, TP.ap_pgName, TP.ap_tgTup, TP.ap_tgTupL, TP.ap_pgTup, TP.ap_tgNil, TP.ap_pgNil, TP.ap_tgCons, TP.ap_pgCons, TP.plain, TP.lent, TP.Slot.plain, TP.Slot.lent, TP.itemsD, TP.wipeP, TP.eSlice, TP.oSome, TP.truthB, TP.Out.ofO, id_eq, TP.kill, TP.ok_bind, TP.exc_bind, TP.fail_bind, TP.ofO_some, TP.ofO_none, List.map_cons, List.map_nil, List.set_cons_zero, List.set_cons_succ, List.getElem?_cons_zero, List.getElem?_cons_succ, List.getElem?_nil, List.length_cons, List.length_nil, List.cons_append, List.nil_append, List.replicate_succ, List.replicate_zero, Option.join, Option.bind_some, Option.bind, Option.map_some, Option.map_none, Nat.reduceSub, Nat.reduceAdd, Nat.add_zero, Nat.zero_add, List.append_nil, if_true, if_false, Bool.false_eq_true, Bool.not_true, Bool.not_false, reduceIte, decide_true, decide_false, Nat.reduceLeDiff, TP.mkTup, TP.mkLst, TP.fits_eq, e3, e4, at_s a1, e1]
theorem last_ok {L : Lot} {a : M3} (ha : a ∈ membersR L) : g_last_deal [enL L, enM a] = .ok (enT (dealAt L a.1 a.2.2)) := by
  obtain ⟨a1, a2, a3⟩ := mem_membersR.mp ha
  have e1 : getX (enSs (L.getD a.1 [])) (.int (a.2.2 : Nat)) = .ok (enT (dealAt L a.1 a.2.2)) := at_d a3
  have e3 : getX (.tup [.int (a.1 : Nat), .int (a.2.2 : Nat)]) (.int 0) = .ok (.int (a.1 : Nat)) := rfl
  have e4 : getX (.tup [.int (a.1 : Nat), .int (a.2.2 : Nat)]) (.int 1) = .ok (.int (a.2.2 : Nat)) := rfl
  unfold g_last_deal b_last_deal
  simp only [TP.sem_fin, TP.fin_ret, TP.fin_ret1, TP.fin_set, TP.fin_ownP, TP.fin_par, TP.fin_kill, TP.fin_if, TP.fin_if1, TP.fin_asg, TP.fin_expr, TP.fin_for, TP.fin_loop_nil, TP.fin_sNil, TP.seq_seq, TP.seq_nil, TP.startE, TP.ap_eVar, TP.ap_eC, TP.ap_aNil, TP.ap_aCons, TP.ap_eCall, TP.ap_e2, TP.ap_e1, TP.ap_e2B, TP.ap_eB, TP.ap_eT, TP.ap_eNot, TP.ap_eAnd, TP.ap_eOr, TP.ap_eIf, TP.ap_cNot, TP.ap_cAnd, TP.ap_cOr, TP.ap_cYes, TP.ap_cChain, TP.ap_iSeq, TP.ap_iArgs, TP.ap_oNone, TP.ap_pP, TP.ap_pLb, TP.ap_pLr, TP.ap_tgName, TP.ap_pgName, TP.ap_tgTup, TP.ap_tgTupL, TP.ap_pgTup, TP.ap_tgNil, TP.ap_pgNil, TP.ap_tgCons, TP.ap_pgCons, TP.plain, TP.lent, TP.Slot.plain, TP.Slot.lent, TP.itemsD, TP.wipeP, TP.eSlice, TP.oSome, TP.truthB, TP.Out.ofO, id_eq, TP.kill, TP.ok_bind, TP.exc_bind, TP.fail_bind, TP.ofO_some, TP.ofO_none, List.map_cons, List.map_nil, List.set_cons_zero, List.set_cons_succ, List.getElem?_cons_zero, List.getElem?_cons_succ, List.getElem?_nil, List.length_cons, List.length_nil, List.cons_append, List.nil_append, List.replicate_succ, List.replicate_zero, Option.join, Option.bind_some, Option.bind, Option.map_some, Option.map_none, Nat.reduceSub, Nat.reduceAdd, Nat.add_zero, Nat.zero_add, List.append_nil, if_true, if_false, Bool.false_eq_true, Bool.not_true, Bool.not_false, reduceIte, decide_true, decide_false, Nat.reduceLeDiff, TP.mkTup, TP.mkLst, TP.fits_eq, enM0, enM2]
  unfold g_deal_at b_deal_at
  simp only [TP.sem_fin, TP.fin_ret, TP.fin_ret1, TP.fin_set, TP.fin_ownP, TP.fin_par, TP.fin_kill, TP.fin_if, TP.fin_if1, TP.fin_asg, TP.fin_expr, TP.fin_for, TP.fin_loop_nil, TP.fin_sNil, TP.seq_seq, TP.seq_nil, TP.startE, TP.ap_eVar, TP.ap_eC, TP.ap_aNil, TP.ap_aCons, TP.ap_eCall, TP.ap_e2, TP.ap_e1, TP.ap_e2B, TP.ap_eB, TP.ap_eT, TP.ap_eNot, TP.ap_eAnd, TP.ap_eOr, TP.ap_eIf, TP.ap_cNot, TP.ap_cAnd, TP.ap_cOr, TP.ap_cYes, TP.ap_cChain, TP.ap_iSeq, TP.ap_iArgs, TP.ap_oNone, TP.ap_pP, TP.ap_pLb, TP.ap_pLr, TP.ap_tgName, TP.ap_pgName, TP.ap_tgTup, TP.ap_tgTupL, TP.ap_pgTup, TP.ap_tgNil, TP.ap_pgNil, TP.ap_tgCons, TP.ap_pgCons, TP.plain, TP.lent, TP.Slot.plain, TP.Slot.lent, TP.itemsD, TP.wipeP, TP.eSlice, TP.oSome, TP.truthB, TP.Out.ofO, id_eq, TP.kill, TP.ok_bind, TP.exc_bind, TP.fail_bind, TP.ofO_some, TP.ofO_none, List.map_cons, List.map_nil, List.set_cons_zero, List.set_cons_succ, List.getElem?_cons_zero, List.getElem?_cons_succ, List.getElem?_nil, List.length_cons, List.length_nil, List.cons_append, List.nil_append, List.replicate_succ, List.replicate_zero, Option.join, Option.bind_some, Option.bind, Option.map_some, Option.map_none, Nat.reduceSub, Nat.reduceAdd, Nat.add_zero, Nat.zero_add, List.append_nil, if_true, if_false, Bool.false_eq_true, Bool.not_true, Bool.not_false, reduceIte, decide_true, decide_false, Nat.reduceLeDiff, TP.mkTup, TP.mkLst, TP.fits_eq, e3, e4, at_s a1, e1]
theorem cut_words_ok {L : Lot} {n m q : Nat} (h : LotS L n m q) (hq : q < 63) {a b : M3} (ha : a ∈ membersR L) (hb : b ∈ membersR L) : g_cut_words [enL L, enM a, enM b] = .ok (.tup ((wordsB (looksB (dealAt L a.1 a.2.2) (dealAt L b.1 b.2.1)) (bothB (dealAt L a.1 a.2.2) (dealAt L b.1 b.2.1))).map .str)) := by
  have d1 : (dealAt L a.1 a.2.2).length < 63 := Nat.lt_of_le_of_lt h.deal hq
  have d2 : (dealAt L b.1 b.2.1).length < 63 := Nat.lt_of_le_of_lt h.deal hq
  unfold g_cut_words b_cut_words
  cases h1 : looksB (dealAt L a.1 a.2.2) (dealAt L b.1 b.2.1) <;> cases h2 : bothB (dealAt L a.1 a.2.2) (dealAt L b.1 b.2.1) <;>
    simp only [TP.sem_fin, TP.fin_ret, TP.fin_ret1, TP.fin_set, TP.fin_ownP, TP.fin_par, TP.fin_kill, TP.fin_if, TP.fin_if1, TP.fin_asg, TP.fin_expr, TP.fin_for, TP.fin_loop_nil, TP.fin_sNil, TP.seq_seq, TP.seq_nil, TP.startE, TP.ap_eVar, TP.ap_eC, TP.ap_aNil, TP.ap_aCons, TP.ap_eCall, TP.ap_e2, TP.ap_e1, TP.ap_e2B, TP.ap_eB, TP.ap_eT, TP.ap_eNot, TP.ap_eAnd, TP.ap_eOr, TP.ap_eIf, TP.ap_cNot, TP.ap_cAnd, TP.ap_cOr, TP.ap_cYes, TP.ap_cChain, TP.ap_iSeq, TP.ap_iArgs, TP.ap_oNone, TP.ap_pP, TP.ap_pLb, TP.ap_pLr, TP.ap_tgName, TP.ap_pgName, TP.ap_tgTup, TP.ap_tgTupL, TP.ap_pgTup, TP.ap_tgNil, TP.ap_pgNil, TP.ap_tgCons, TP.ap_pgCons, TP.plain, TP.lent, TP.Slot.plain, TP.Slot.lent, TP.itemsD, TP.wipeP, TP.eSlice, TP.oSome, TP.truthB, TP.Out.ofO, id_eq, TP.kill, TP.ok_bind, TP.exc_bind, TP.fail_bind, TP.ofO_some, TP.ofO_none, List.map_cons, List.map_nil, List.set_cons_zero, List.set_cons_succ, List.getElem?_cons_zero, List.getElem?_cons_succ, List.getElem?_nil, List.length_cons, List.length_nil, List.cons_append, List.nil_append, List.replicate_succ, List.replicate_zero, Option.join, Option.bind_some, Option.bind, Option.map_some, Option.map_none, Nat.reduceSub, Nat.reduceAdd, Nat.add_zero, Nat.zero_add, List.append_nil, if_true, if_false, Bool.false_eq_true, Bool.not_true, Bool.not_false, reduceIte, decide_true, decide_false, Nat.reduceLeDiff, TP.mkTup, TP.mkLst, TP.fits_eq, last_ok ha, first_ok hb, looks_ok _ _ d1 d2, wrote_ok _ _ d1 d2, isE, looksB_past, bothB_wrote, fin_append, h1, h2] <;> rfl
end K20

end
set_option Elab.async false
set_option linter.all false
set_option maxRecDepth 100000
noncomputable section
namespace K20
open PySem L2 TP
theorem mof1 (a : Slot) (S : Sess) (hS : S.length ≤ 100) (k f : Nat) (hf : f < S.length) (acc : List M3) (hb : acc.length ≤ 90000) :
    l1_members_of [a, .own (.lst (acc.map enM)), .val (.int (k : Nat)), .val (enSs S), .val (.int (f : Nat)), .un] = .nx [a, .own (.lst ((acc ++ (List.range (S.length - f)).map fun j => ((k, f, f + j) : M3)).map enM)), .val (.int (k : Nat)), .val (enSs S), .un, .un] := by
  have hc : eComp [5] (iArgs rangeD2 (aCons (eVar 4) (aCons (eCall lenD (aCons (eVar 3) aNil)) aNil))) (pgName 5) cYes (eCall mkTup (aCons (eVar 2) (aCons (eVar 4) (aCons (eVar 5) aNil)))) (plain [a, .own (.lst (acc.map enM)), .val (.int (k : Nat)), .val (enSs S), .val (.int (f : Nat)), .un])
      = .ok (.lst (((List.range (S.length - f)).map fun j => ((k, f, f + j) : M3)).map enM)) := by
    simp only [TP.sem_fin, TP.fin_ret, TP.fin_ret1, TP.fin_set, TP.fin_ownP, TP.fin_par, TP.fin_kill, TP.fin_if, TP.fin_if1, TP.fin_asg, TP.fin_expr, TP.fin_for, TP.fin_loop_nil, TP.fin_sNil, TP.seq_seq, TP.seq_nil, TP.startE, TP.ap_eVar, TP.ap_eC, TP.ap_aNil, TP.ap_aCons, TP.ap_eCall, TP.ap_e2, TP.ap_e1, TP.ap_e2B, TP.ap_eB, TP.ap_eT, TP.ap_eNot, TP.ap_eAnd, TP.ap_eOr, TP.ap_eIf, TP.ap_cNot, TP.ap_cAnd, TP.ap_cOr, TP.ap_cYes, TP.ap_cChain, TP.ap_iSeq, TP.ap_iArgs, TP.ap_oNone, TP.ap_pP, TP.ap_pLb, TP.ap_pLr, TP.ap_tgName, TP.ap_pgName, TP.ap_tgTup, TP.ap_tgTupL, TP.ap_pgTup, TP.ap_tgNil, TP.ap_pgNil, TP.ap_tgCons, TP.ap_pgCons, TP.plain, TP.lent, TP.Slot.plain, TP.Slot.lent, TP.itemsD, TP.wipeP, TP.eSlice, TP.oSome, TP.truthB, TP.Out.ofO, id_eq, TP.kill, TP.ok_bind, TP.exc_bind, TP.fail_bind, TP.ofO_some, TP.ofO_none, List.map_cons, List.map_nil, List.set_cons_zero, List.set_cons_succ, List.getElem?_cons_zero, List.getElem?_cons_succ, List.getElem?_nil, List.length_cons, List.length_nil, List.cons_append, List.nil_append, List.replicate_succ, List.replicate_zero, Option.join, Option.bind_some, Option.bind, Option.map_some, Option.map_none, Nat.reduceSub, Nat.reduceAdd, Nat.add_zero, Nat.zero_add, List.append_nil, if_true, if_false, Bool.false_eq_true, Bool.not_true, Bool.not_false, reduceIte, decide_true, decide_false, Nat.reduceLeDiff, TP.mkTup, TP.mkLst, TP.fits_eq, eComp, lenT, rd2 f S.length (by omega) (by omega), rangeL_mapL]
    rw [comp_map (fun j : Nat => D.int ((f : Nat) + (j : Nat))) (fun _ => true) (fun j => enM (k, f, f + j))]
    · rw [List.filter_eq_self.mpr (fun _ _ => rfl), ok_bind, List.length_map, List.length_range, if_pos (decide_eq_true (by omega)), List.map_map]
      rfl
    · intro j _
      refine ⟨_, rfl, rfl, fun _ => ?_⟩
      simp only [TP.sem_fin, TP.fin_ret, TP.fin_ret1, TP.fin_set, TP.fin_ownP, TP.fin_par, TP.fin_kill, TP.fin_if, TP.fin_if1, TP.fin_asg, TP.fin_expr, TP.fin_for, TP.fin_loop_nil, TP.fin_sNil, TP.seq_seq, TP.seq_nil, TP.startE, TP.ap_eVar, TP.ap_eC, TP.ap_aNil, TP.ap_aCons, TP.ap_eCall, TP.ap_e2, TP.ap_e1, TP.ap_e2B, TP.ap_eB, TP.ap_eT, TP.ap_eNot, TP.ap_eAnd, TP.ap_eOr, TP.ap_eIf, TP.ap_cNot, TP.ap_cAnd, TP.ap_cOr, TP.ap_cYes, TP.ap_cChain, TP.ap_iSeq, TP.ap_iArgs, TP.ap_oNone, TP.ap_pP, TP.ap_pLb, TP.ap_pLr, TP.ap_tgName, TP.ap_pgName, TP.ap_tgTup, TP.ap_tgTupL, TP.ap_pgTup, TP.ap_tgNil, TP.ap_pgNil, TP.ap_tgCons, TP.ap_pgCons, TP.plain, TP.lent, TP.Slot.plain, TP.Slot.lent, TP.itemsD, TP.wipeP, TP.eSlice, TP.oSome, TP.truthB, TP.Out.ofO, id_eq, TP.kill, TP.ok_bind, TP.exc_bind, TP.fail_bind, TP.ofO_some, TP.ofO_none, List.map_cons, List.map_nil, List.set_cons_zero, List.set_cons_succ, List.getElem?_cons_zero, List.getElem?_cons_succ, List.getElem?_nil, List.length_cons, List.length_nil, List.cons_append, List.nil_append, List.replicate_succ, List.replicate_zero, Option.join, Option.bind_some, Option.bind, Option.map_some, Option.map_none, Nat.reduceSub, Nat.reduceAdd, Nat.add_zero, Nat.zero_add, List.append_nil, if_true, if_false, Bool.false_eq_true, Bool.not_true, Bool.not_false, reduceIte, decide_true, decide_false, Nat.reduceLeDiff, TP.mkTup, TP.mkLst, TP.fits_eq]
      rfl
  unfold l1_members_of
  rw [ap_sKill, ap_sSeq, ap_sExtend, ap_pP]
  simp only [List.getElem?_cons_succ, List.getElem?_cons_zero]
  rw [hc]
  simp only [List.length_map, List.length_range]
  rw [if_pos (fits_of (by omega))]
  simp only [List.set_cons_succ, List.set_cons_zero, ap_sNil, kill, List.map_append]
theorem mof2 (a : Slot) (S : Sess) (hS : S.length ≤ 30) (k : Nat) (acc : List M3) (hb : acc.length ≤ 60000) :
    l2_members_of [a, .own (.lst (acc.map enM)), .val (.int (k : Nat)), .val (enSs S), .un, .un] = .nx [a, .own (.lst ((acc ++ memS k S.length).map enM)), .un, .un, .un, .un] := by
  have lp := loop_over (t := tgName 4) (b := l1_members_of) (fun f : Nat => D.int (0 + (f : Nat))) (fun pre => [a, .own (.lst ((acc ++ pre.flatMap fun f => (List.range (S.length - f)).map fun j => ((k, f, f + j) : M3)).map enM)), .val (.int (k : Nat)), .val (enSs S), .un, .un]) (List.range S.length) [] (fun p f post e => by
    rw [List.nil_append] at e
    have hl : p.length < S.length := by have := congrArg List.length e; simp at this; omega
    have hf : f < S.length := by have : f ∈ List.range S.length := by rw [e]; simp
                                 exact List.mem_range.mp this
    have hp : (p.flatMap fun f => (List.range (S.length - f)).map fun j => ((k, f, f + j) : M3)).length ≤ p.length * 100 := flatMap_len_le _ 100 p (fun f _ => by rw [List.length_map, List.length_range]; omega)
    have := mof1 a S (by omega) k f hf (acc ++ p.flatMap fun f => (List.range (S.length - f)).map fun j => ((k, f, f + j) : M3)) (by rw [List.length_append]; omega)
    refine ⟨_, rfl, .inl ?_⟩
    simp only [Int.zero_add, List.set_cons_zero, List.set_cons_succ]
    rw [this, List.flatMap_append, List.flatMap_cons, List.flatMap_nil, List.append_nil, List.append_assoc])
  have lp' : loop (tgName 4) l1_members_of (rangeL 0 S.length) [a, .own (.lst (acc.map enM)), .val (.int (k : Nat)), .val (enSs S), .un, .un] = .nx [a, .own (.lst ((acc ++ memS k S.length).map enM)), .val (.int (k : Nat)), .val (enSs S), .un, .un] := by
    have e : (acc ++ ([] : List Nat).flatMap fun f => (List.range (S.length - f)).map fun j => ((k, f, f + j) : M3)) = acc := by simp
    rw [e] at lp
    exact lp
  unfold l2_members_of
  simp only [TP.ap_sSeq, TP.ap_sNil, TP.ap_sSet, TP.ap_sIf, TP.ap_sKill, TP.ap_sAsg, TP.ap_sExpr, TP.ap_sOwnP, TP.ap_sRet, TP.ap_sAppend, TP.ap_sPop, TP.ap_sPar, TP.ap_sPut, TP.ap_sFor, TP.ap_sRetN, TP.ap_sBreak, TP.ap_sCont, TP.ap_eVar, TP.ap_eC, TP.ap_aNil, TP.ap_aCons, TP.ap_eCall, TP.ap_e2, TP.ap_e1, TP.ap_e2B, TP.ap_eB, TP.ap_eT, TP.ap_eNot, TP.ap_eAnd, TP.ap_eOr, TP.ap_eIf, TP.ap_cNot, TP.ap_cAnd, TP.ap_cOr, TP.ap_cYes, TP.ap_cChain, TP.ap_iSeq, TP.ap_iArgs, TP.ap_oNone, TP.ap_pP, TP.ap_pLb, TP.ap_pLr, TP.ap_tgName, TP.ap_pgName, TP.ap_tgTup, TP.ap_tgTupL, TP.ap_pgTup, TP.ap_tgNil, TP.ap_pgNil, TP.ap_tgCons, TP.ap_pgCons, TP.plain, TP.lent, TP.Slot.plain, TP.Slot.lent, TP.itemsD, TP.wipeP, TP.eSlice, TP.oSome, TP.truthB, TP.Out.ofO, id_eq, TP.kill, TP.ok_bind, TP.exc_bind, TP.fail_bind, TP.ofO_some, TP.ofO_none, List.map_cons, List.map_nil, List.set_cons_zero, List.set_cons_succ, List.getElem?_cons_zero, List.getElem?_cons_succ, List.getElem?_nil, List.length_cons, List.length_nil, List.cons_append, List.nil_append, List.replicate_succ, List.replicate_zero, Option.join, Option.bind_some, Option.bind, Option.map_some, Option.map_none, Nat.reduceSub, Nat.reduceAdd, Nat.add_zero, Nat.zero_add, List.append_nil, if_true, if_false, Bool.false_eq_true, Bool.not_true, Bool.not_false, reduceIte, decide_true, decide_false, Nat.reduceLeDiff, TP.mkTup, TP.mkLst, TP.fits_eq, lenT, rd1 S.length (by omega), lp']
theorem members_zip (L : Lot) : (L.zipIdx.flatMap fun p => memS p.2 p.1.length) = membersR L := by
  rw [zipIdx_range ([] : Sess), List.flatMap_map]
  rfl
theorem members_of_ok {L : Lot} {n m q : Nat} (h : LotS L n m q) (hn : n ≤ 50) (hm : m ≤ 30) : g_members_of [enL L] = .ok (.tup ((membersR L).map enM)) := by
  have h1 := h.lots
  have lp := loop_over (t := tgTup 2 (tgCons (tgName 2) (tgCons (tgName 3) tgNil))) (b := l2_members_of) (fun p : Sess × Nat => .tup [.int (p.2 : Nat), enSs p.1]) (fun pre => [.val (enL L), .own (.lst ((pre.flatMap fun p => memS p.2 p.1.length).map enM)), .un, .un, .un, .un]) L.zipIdx [] (fun p a post e => by
    rw [List.nil_append] at e
    have hin : ∀ b ∈ L.zipIdx, b.1.length ≤ 30 := fun b hb => by
      obtain ⟨ss, k⟩ := b
      exact Nat.le_trans (h.sess _ (List.mem_of_getElem? (List.mem_zipIdx_iff_getElem?.mp hb))) hm
    have hl : p.length < L.length := by have := congrArg List.length e; rw [List.length_zipIdx] at this; simp at this; omega
    have hp : (p.flatMap fun p => memS p.2 p.1.length).length ≤ p.length * 900 := flatMap_len_le _ 900 p (fun b hb => by
      have hb2 := hin b (by rw [e]; simp [hb])
      exact Nat.le_trans (memS_len _ _) (Nat.mul_le_mul hb2 hb2))
    have := mof2 (.val (enL L)) a.1 (hin a (by rw [e]; simp)) a.2 (p.flatMap fun p => memS p.2 p.1.length) (by omega)
    refine ⟨_, rfl, .inl ?_⟩
    simp only [List.set_cons_zero, List.set_cons_succ]
    rw [this, List.flatMap_append, List.flatMap_cons, List.flatMap_nil, List.append_nil])
  rw [List.nil_append] at lp
  have eL : enumD [enL L] = .ok (L.zipIdx.map fun p => .tup [.int (p.2 : Nat), enSs p.1]) := congrArg Out.ok (enumL_map enSs L)
  have lp' : loop (tgTup 2 (tgCons (tgName 2) (tgCons (tgName 3) tgNil))) l2_members_of (L.zipIdx.map fun p => .tup [.int (p.2 : Nat), enSs p.1]) [.val (enL L), .own (.lst []), .un, .un, .un, .un] = .nx [.val (enL L), .own (.lst ((membersR L).map enM)), .un, .un, .un, .un] := by
    rw [← members_zip]
    exact lp
  unfold g_members_of b_members_of
  simp only [TP.sem_fin, TP.fin_ret, TP.fin_ret1, TP.fin_set, TP.fin_ownP, TP.fin_par, TP.fin_kill, TP.fin_if, TP.fin_if1, TP.fin_asg, TP.fin_expr, TP.fin_for, TP.fin_loop_nil, TP.fin_sNil, TP.seq_seq, TP.seq_nil, TP.startE, TP.ap_eVar, TP.ap_eC, TP.ap_aNil, TP.ap_aCons, TP.ap_eCall, TP.ap_e2, TP.ap_e1, TP.ap_e2B, TP.ap_eB, TP.ap_eT, TP.ap_eNot, TP.ap_eAnd, TP.ap_eOr, TP.ap_eIf, TP.ap_cNot, TP.ap_cAnd, TP.ap_cOr, TP.ap_cYes, TP.ap_cChain, TP.ap_iSeq, TP.ap_iArgs, TP.ap_oNone, TP.ap_pP, TP.ap_pLb, TP.ap_pLr, TP.ap_tgName, TP.ap_pgName, TP.ap_tgTup, TP.ap_tgTupL, TP.ap_pgTup, TP.ap_tgNil, TP.ap_pgNil, TP.ap_tgCons, TP.ap_pgCons, TP.plain, TP.lent, TP.Slot.plain, TP.Slot.lent, TP.itemsD, TP.wipeP, TP.eSlice, TP.oSome, TP.truthB, TP.Out.ofO, id_eq, TP.kill, TP.ok_bind, TP.exc_bind, TP.fail_bind, TP.ofO_some, TP.ofO_none, List.map_cons, List.map_nil, List.set_cons_zero, List.set_cons_succ, List.getElem?_cons_zero, List.getElem?_cons_succ, List.getElem?_nil, List.length_cons, List.length_nil, List.cons_append, List.nil_append, List.replicate_succ, List.replicate_zero, Option.join, Option.bind_some, Option.bind, Option.map_some, Option.map_none, Nat.reduceSub, Nat.reduceAdd, Nat.add_zero, Nat.zero_add, List.append_nil, if_true, if_false, Bool.false_eq_true, Bool.not_true, Bool.not_false, reduceIte, decide_true, decide_false, Nat.reduceLeDiff, TP.mkTup, TP.mkLst, TP.fits_eq, eL]
  rw [fin_loop lp']
  simp only [TP.sem_fin, TP.fin_ret, TP.fin_ret1, TP.fin_set, TP.fin_ownP, TP.fin_par, TP.fin_kill, TP.fin_if, TP.fin_if1, TP.fin_asg, TP.fin_expr, TP.fin_for, TP.fin_loop_nil, TP.fin_sNil, TP.seq_seq, TP.seq_nil, TP.startE, TP.ap_eVar, TP.ap_eC, TP.ap_aNil, TP.ap_aCons, TP.ap_eCall, TP.ap_e2, TP.ap_e1, TP.ap_e2B, TP.ap_eB, TP.ap_eT, TP.ap_eNot, TP.ap_eAnd, TP.ap_eOr, TP.ap_eIf, TP.ap_cNot, TP.ap_cAnd, TP.ap_cOr, TP.ap_cYes, TP.ap_cChain, TP.ap_iSeq, TP.ap_iArgs, TP.ap_oNone, TP.ap_pP, TP.ap_pLb, TP.ap_pLr, TP.ap_tgName, TP.ap_pgName, TP.ap_tgTup, TP.ap_tgTupL, TP.ap_pgTup, TP.ap_tgNil, TP.ap_pgNil, TP.ap_tgCons, TP.ap_pgCons, TP.plain, TP.lent, TP.Slot.plain, TP.Slot.lent, TP.itemsD, TP.wipeP, TP.eSlice, TP.oSome, TP.truthB, TP.Out.ofO, id_eq, TP.kill, TP.ok_bind, TP.exc_bind, TP.fail_bind, TP.ofO_some, TP.ofO_none, List.map_cons, List.map_nil, List.set_cons_zero, List.set_cons_succ, List.getElem?_cons_zero, List.getElem?_cons_succ, List.getElem?_nil, List.length_cons, List.length_nil, List.cons_append, List.nil_append, List.replicate_succ, List.replicate_zero, Option.join, Option.bind_some, Option.bind, Option.map_some, Option.map_none, Nat.reduceSub, Nat.reduceAdd, Nat.add_zero, Nat.zero_add, List.append_nil, if_true, if_false, Bool.false_eq_true, Bool.not_true, Bool.not_false, reduceIte, decide_true, decide_false, Nat.reduceLeDiff, TP.mkTup, TP.mkLst, TP.fits_eq]
  rfl
end K20

end
set_option Elab.async false
set_option linter.all false
set_option maxRecDepth 100000
noncomputable section
namespace K20
open PySem L2 TP
theorem same_loop (a b : TP.D) (l ds : List TP.D) (hz : ds.length + l.length ≤ 100000) : loop (tgName 5) l1__law_same (rangeL 0 l.length) [.val a, .val b, .own (.lst (ds.map pair)), .val (.tup l), .val (.tup l), .un] =
    .nx [.val a, .val b, .own (.lst ((ds ++ l).map pair)), .val (.tup l), .val (.tup l), .un] := by
  obtain ⟨ρ', e, q⟩ := loop_inv (t := tgName 5) (b := l1__law_same) (fun i ρ => ρ = [.val a, .val b, .own (.lst ((ds ++ l.take i).map pair)), .val (.tup l), .val (.tup l), .un]) (rangeL 0 l.length) 0 [.val a, .val b, .own (.lst (ds.map pair)), .val (.tup l), .val (.tup l), .un] (by simp) (by
    rintro j d ρ hj rfl
    obtain ⟨hj1, rfl⟩ := rangeL_get _ _ _ _ hj
    obtain ⟨x, hx⟩ : ∃ x, l[j]? = some x := ⟨_, List.getElem?_eq_getElem hj1⟩
    refine ⟨_, _, rfl, .inl ?_, rfl⟩
    unfold l1__law_same
    simp only [TP.ap_sSeq, TP.ap_sNil, TP.ap_sSet, TP.ap_sIf, TP.ap_sKill, TP.ap_sAsg, TP.ap_sExpr, TP.ap_sOwnP, TP.ap_sRet, TP.ap_sAppend, TP.ap_sPop, TP.ap_sPar, TP.ap_sPut, TP.ap_sFor, TP.ap_sRetN, TP.ap_sBreak, TP.ap_sCont, TP.ap_eVar, TP.ap_eC, TP.ap_aNil, TP.ap_aCons, TP.ap_eCall, TP.ap_e2, TP.ap_e1, TP.ap_e2B, TP.ap_eB, TP.ap_eT, TP.ap_eNot, TP.ap_eAnd, TP.ap_eOr, TP.ap_eIf, TP.ap_cNot, TP.ap_cAnd, TP.ap_cOr, TP.ap_cYes, TP.ap_cChain, TP.ap_iSeq, TP.ap_iArgs, TP.ap_oNone, TP.ap_pP, TP.ap_pLb, TP.ap_pLr, TP.ap_tgName, TP.ap_pgName, TP.ap_tgTup, TP.ap_tgTupL, TP.ap_pgTup, TP.ap_tgNil, TP.ap_pgNil, TP.ap_tgCons, TP.ap_pgCons, TP.plain, TP.lent, TP.Slot.plain, TP.Slot.lent, TP.itemsD, TP.wipeP, TP.eSlice, TP.oSome, TP.truthB, TP.Out.ofO, id_eq, TP.kill, TP.ok_bind, TP.exc_bind, TP.fail_bind, TP.ofO_some, TP.ofO_none, List.map_cons, List.map_nil, List.set_cons_zero, List.set_cons_succ, List.getElem?_cons_zero, List.getElem?_cons_succ, List.getElem?_nil, List.length_cons, List.length_nil, List.cons_append, List.nil_append, List.replicate_succ, List.replicate_zero, Option.join, Option.bind_some, Option.bind, Option.map_some, Option.map_none, Nat.reduceSub, Nat.reduceAdd, Nat.add_zero, Nat.zero_add, List.append_nil, if_true, if_false, Bool.false_eq_true, Bool.not_true, Bool.not_false, reduceIte, decide_true, decide_false, Nat.reduceLeDiff, TP.mkTup, TP.mkLst, TP.fits_eq, Int.zero_add, getX_nat l j x hx, List.length_map, List.length_append, List.length_take]
    rw [if_pos (decide_eq_true (by omega)), List.take_succ, hx]
    simp)
  rw [e, q, rangeL_len, Nat.zero_add, List.take_length]
theorem same_turn (a b d : TP.D) (ds : List TP.D) (h : d.isKey = true) (hz : wts (ds ++ [d]) ≤ 100000) :
    ∃ ds', wts ds' < wts (ds ++ [d]) ∧ (∀ e ∈ ds', e ∈ ds ∨ ∃ l, d = .tup l ∧ e ∈ l) ∧ l2__law_same [.val a, .val b, .own (.lst ((ds ++ [d]).map pair)), .un, .un, .un] = .nx [.val a, .val b, .own (.lst (ds'.map pair)), .un, .un, .un] := by
  unfold l2__law_same
  cases d with
  | non =>
    refine ⟨ds, by rw [wts_app]; simp [wts, wt], fun e he => .inl he, ?_⟩
    simp only [TP.ap_sSeq, TP.ap_sNil, TP.ap_sSet, TP.ap_sIf, TP.ap_sKill, TP.ap_sAsg, TP.ap_sExpr, TP.ap_sOwnP, TP.ap_sRet, TP.ap_sAppend, TP.ap_sPop, TP.ap_sPar, TP.ap_sPut, TP.ap_sFor, TP.ap_sRetN, TP.ap_sBreak, TP.ap_sCont, TP.ap_eVar, TP.ap_eC, TP.ap_aNil, TP.ap_aCons, TP.ap_eCall, TP.ap_e2, TP.ap_e1, TP.ap_e2B, TP.ap_eB, TP.ap_eT, TP.ap_eNot, TP.ap_eAnd, TP.ap_eOr, TP.ap_eIf, TP.ap_cNot, TP.ap_cAnd, TP.ap_cOr, TP.ap_cYes, TP.ap_cChain, TP.ap_iSeq, TP.ap_iArgs, TP.ap_oNone, TP.ap_pP, TP.ap_pLb, TP.ap_pLr, TP.ap_tgName, TP.ap_pgName, TP.ap_tgTup, TP.ap_tgTupL, TP.ap_pgTup, TP.ap_tgNil, TP.ap_pgNil, TP.ap_tgCons, TP.ap_pgCons, TP.plain, TP.lent, TP.Slot.plain, TP.Slot.lent, TP.itemsD, TP.wipeP, TP.eSlice, TP.oSome, TP.truthB, TP.Out.ofO, id_eq, TP.kill, TP.ok_bind, TP.exc_bind, TP.fail_bind, TP.ofO_some, TP.ofO_none, List.map_cons, List.map_nil, List.set_cons_zero, List.set_cons_succ, List.getElem?_cons_zero, List.getElem?_cons_succ, List.getElem?_nil, List.length_cons, List.length_nil, List.cons_append, List.nil_append, List.replicate_succ, List.replicate_zero, Option.join, Option.bind_some, Option.bind, Option.map_some, Option.map_none, Nat.reduceSub, Nat.reduceAdd, Nat.add_zero, Nat.zero_add, List.append_nil, if_true, if_false, Bool.false_eq_true, Bool.not_true, Bool.not_false, reduceIte, decide_true, decide_false, Nat.reduceLeDiff, TP.mkTup, TP.mkLst, TP.fits_eq, getLast_pair, dropLast_pair, rootFlat, isi2_n, isD, isNonB, isNotD]
  | bl x =>
    refine ⟨ds, by rw [wts_app]; simp [wts, wt], fun e he => .inl he, ?_⟩
    simp only [TP.ap_sSeq, TP.ap_sNil, TP.ap_sSet, TP.ap_sIf, TP.ap_sKill, TP.ap_sAsg, TP.ap_sExpr, TP.ap_sOwnP, TP.ap_sRet, TP.ap_sAppend, TP.ap_sPop, TP.ap_sPar, TP.ap_sPut, TP.ap_sFor, TP.ap_sRetN, TP.ap_sBreak, TP.ap_sCont, TP.ap_eVar, TP.ap_eC, TP.ap_aNil, TP.ap_aCons, TP.ap_eCall, TP.ap_e2, TP.ap_e1, TP.ap_e2B, TP.ap_eB, TP.ap_eT, TP.ap_eNot, TP.ap_eAnd, TP.ap_eOr, TP.ap_eIf, TP.ap_cNot, TP.ap_cAnd, TP.ap_cOr, TP.ap_cYes, TP.ap_cChain, TP.ap_iSeq, TP.ap_iArgs, TP.ap_oNone, TP.ap_pP, TP.ap_pLb, TP.ap_pLr, TP.ap_tgName, TP.ap_pgName, TP.ap_tgTup, TP.ap_tgTupL, TP.ap_pgTup, TP.ap_tgNil, TP.ap_pgNil, TP.ap_tgCons, TP.ap_pgCons, TP.plain, TP.lent, TP.Slot.plain, TP.Slot.lent, TP.itemsD, TP.wipeP, TP.eSlice, TP.oSome, TP.truthB, TP.Out.ofO, id_eq, TP.kill, TP.ok_bind, TP.exc_bind, TP.fail_bind, TP.ofO_some, TP.ofO_none, List.map_cons, List.map_nil, List.set_cons_zero, List.set_cons_succ, List.getElem?_cons_zero, List.getElem?_cons_succ, List.getElem?_nil, List.length_cons, List.length_nil, List.cons_append, List.nil_append, List.replicate_succ, List.replicate_zero, Option.join, Option.bind_some, Option.bind, Option.map_some, Option.map_none, Nat.reduceSub, Nat.reduceAdd, Nat.add_zero, Nat.zero_add, List.append_nil, if_true, if_false, Bool.false_eq_true, Bool.not_true, Bool.not_false, reduceIte, decide_true, decide_false, Nat.reduceLeDiff, TP.mkTup, TP.mkLst, TP.fits_eq, getLast_pair, dropLast_pair, rootFlat, isi2_b, isD, isNonB, isNotD, isiD, i_bb, ne_bl]
  | int x =>
    refine ⟨ds, by rw [wts_app]; simp [wts, wt], fun e he => .inl he, ?_⟩
    simp only [TP.ap_sSeq, TP.ap_sNil, TP.ap_sSet, TP.ap_sIf, TP.ap_sKill, TP.ap_sAsg, TP.ap_sExpr, TP.ap_sOwnP, TP.ap_sRet, TP.ap_sAppend, TP.ap_sPop, TP.ap_sPar, TP.ap_sPut, TP.ap_sFor, TP.ap_sRetN, TP.ap_sBreak, TP.ap_sCont, TP.ap_eVar, TP.ap_eC, TP.ap_aNil, TP.ap_aCons, TP.ap_eCall, TP.ap_e2, TP.ap_e1, TP.ap_e2B, TP.ap_eB, TP.ap_eT, TP.ap_eNot, TP.ap_eAnd, TP.ap_eOr, TP.ap_eIf, TP.ap_cNot, TP.ap_cAnd, TP.ap_cOr, TP.ap_cYes, TP.ap_cChain, TP.ap_iSeq, TP.ap_iArgs, TP.ap_oNone, TP.ap_pP, TP.ap_pLb, TP.ap_pLr, TP.ap_tgName, TP.ap_pgName, TP.ap_tgTup, TP.ap_tgTupL, TP.ap_pgTup, TP.ap_tgNil, TP.ap_pgNil, TP.ap_tgCons, TP.ap_pgCons, TP.plain, TP.lent, TP.Slot.plain, TP.Slot.lent, TP.itemsD, TP.wipeP, TP.eSlice, TP.oSome, TP.truthB, TP.Out.ofO, id_eq, TP.kill, TP.ok_bind, TP.exc_bind, TP.fail_bind, TP.ofO_some, TP.ofO_none, List.map_cons, List.map_nil, List.set_cons_zero, List.set_cons_succ, List.getElem?_cons_zero, List.getElem?_cons_succ, List.getElem?_nil, List.length_cons, List.length_nil, List.cons_append, List.nil_append, List.replicate_succ, List.replicate_zero, Option.join, Option.bind_some, Option.bind, Option.map_some, Option.map_none, Nat.reduceSub, Nat.reduceAdd, Nat.add_zero, Nat.zero_add, List.append_nil, if_true, if_false, Bool.false_eq_true, Bool.not_true, Bool.not_false, reduceIte, decide_true, decide_false, Nat.reduceLeDiff, TP.mkTup, TP.mkLst, TP.fits_eq, getLast_pair, dropLast_pair, rootFlat, isi2_i, isD, isNonB, isNotD, isiD, i_bi, i_si, i_ii, ne_int]
  | str x =>
    refine ⟨ds, by rw [wts_app]; simp [wts, wt], fun e he => .inl he, ?_⟩
    simp only [TP.ap_sSeq, TP.ap_sNil, TP.ap_sSet, TP.ap_sIf, TP.ap_sKill, TP.ap_sAsg, TP.ap_sExpr, TP.ap_sOwnP, TP.ap_sRet, TP.ap_sAppend, TP.ap_sPop, TP.ap_sPar, TP.ap_sPut, TP.ap_sFor, TP.ap_sRetN, TP.ap_sBreak, TP.ap_sCont, TP.ap_eVar, TP.ap_eC, TP.ap_aNil, TP.ap_aCons, TP.ap_eCall, TP.ap_e2, TP.ap_e1, TP.ap_e2B, TP.ap_eB, TP.ap_eT, TP.ap_eNot, TP.ap_eAnd, TP.ap_eOr, TP.ap_eIf, TP.ap_cNot, TP.ap_cAnd, TP.ap_cOr, TP.ap_cYes, TP.ap_cChain, TP.ap_iSeq, TP.ap_iArgs, TP.ap_oNone, TP.ap_pP, TP.ap_pLb, TP.ap_pLr, TP.ap_tgName, TP.ap_pgName, TP.ap_tgTup, TP.ap_tgTupL, TP.ap_pgTup, TP.ap_tgNil, TP.ap_pgNil, TP.ap_tgCons, TP.ap_pgCons, TP.plain, TP.lent, TP.Slot.plain, TP.Slot.lent, TP.itemsD, TP.wipeP, TP.eSlice, TP.oSome, TP.truthB, TP.Out.ofO, id_eq, TP.kill, TP.ok_bind, TP.exc_bind, TP.fail_bind, TP.ofO_some, TP.ofO_none, List.map_cons, List.map_nil, List.set_cons_zero, List.set_cons_succ, List.getElem?_cons_zero, List.getElem?_cons_succ, List.getElem?_nil, List.length_cons, List.length_nil, List.cons_append, List.nil_append, List.replicate_succ, List.replicate_zero, Option.join, Option.bind_some, Option.bind, Option.map_some, Option.map_none, Nat.reduceSub, Nat.reduceAdd, Nat.add_zero, Nat.zero_add, List.append_nil, if_true, if_false, Bool.false_eq_true, Bool.not_true, Bool.not_false, reduceIte, decide_true, decide_false, Nat.reduceLeDiff, TP.mkTup, TP.mkLst, TP.fits_eq, getLast_pair, dropLast_pair, rootFlat, isi2_s, isD, isNonB, isNotD, isiD, i_bs, i_ss, ne_str]
  | tup l =>
    rw [wts_app] at hz
    simp only [wts, wt] at hz
    have h1 := wts_len ds
    have h2 := wts_len l
    refine ⟨ds ++ l, by rw [wts_app, wts_app]; simp only [wts, wt]; omega, fun e he => ?_, ?_⟩
    · rcases List.mem_append.mp he with he | he
      · exact .inl he
      · exact .inr ⟨l, rfl, he⟩
    · simp only [TP.ap_sSeq, TP.ap_sNil, TP.ap_sSet, TP.ap_sIf, TP.ap_sKill, TP.ap_sAsg, TP.ap_sExpr, TP.ap_sOwnP, TP.ap_sRet, TP.ap_sAppend, TP.ap_sPop, TP.ap_sPar, TP.ap_sPut, TP.ap_sFor, TP.ap_sRetN, TP.ap_sBreak, TP.ap_sCont, TP.ap_eVar, TP.ap_eC, TP.ap_aNil, TP.ap_aCons, TP.ap_eCall, TP.ap_e2, TP.ap_e1, TP.ap_e2B, TP.ap_eB, TP.ap_eT, TP.ap_eNot, TP.ap_eAnd, TP.ap_eOr, TP.ap_eIf, TP.ap_cNot, TP.ap_cAnd, TP.ap_cOr, TP.ap_cYes, TP.ap_cChain, TP.ap_iSeq, TP.ap_iArgs, TP.ap_oNone, TP.ap_pP, TP.ap_pLb, TP.ap_pLr, TP.ap_tgName, TP.ap_pgName, TP.ap_tgTup, TP.ap_tgTupL, TP.ap_pgTup, TP.ap_tgNil, TP.ap_pgNil, TP.ap_tgCons, TP.ap_pgCons, TP.plain, TP.lent, TP.Slot.plain, TP.Slot.lent, TP.itemsD, TP.wipeP, TP.eSlice, TP.oSome, TP.truthB, TP.Out.ofO, id_eq, TP.kill, TP.ok_bind, TP.exc_bind, TP.fail_bind, TP.ofO_some, TP.ofO_none, List.map_cons, List.map_nil, List.set_cons_zero, List.set_cons_succ, List.getElem?_cons_zero, List.getElem?_cons_succ, List.getElem?_nil, List.length_cons, List.length_nil, List.cons_append, List.nil_append, List.replicate_succ, List.replicate_zero, Option.join, Option.bind_some, Option.bind, Option.map_some, Option.map_none, Nat.reduceSub, Nat.reduceAdd, Nat.add_zero, Nat.zero_add, List.append_nil, if_true, if_false, Bool.false_eq_true, Bool.not_true, Bool.not_false, reduceIte, decide_true, decide_false, Nat.reduceLeDiff, TP.mkTup, TP.mkLst, TP.fits_eq, getLast_pair, dropLast_pair, rootFlat, isi2_t, isD, isNonB, isNotD, isiD, i_bt, i_st, i_it, i_tt, i_lt, ne_bl, len_tup, ne_int, rd1 l.length (by omega), same_loop a b l ds (by omega)]
  | lst _ => unfold D.isKey at h; cases h
  | scr _ => unfold D.isKey at h; cases h
  | dct _ => unfold D.isKey at h; cases h
  | set _ => unfold D.isKey at h; cases h
theorem same_while (a b : TP.D) : ∀ (n : Nat) (ds : List TP.D), (∀ d ∈ ds, d.isKey = true) → wts ds ≤ 100000 → wts ds < n → whileN c1__law_same l2__law_same n [.val a, .val b, .own (.lst (ds.map pair)), .un, .un, .un] = .nx [.val a, .val b, .own (.lst []), .un, .un, .un]
  | 0, _, _, _, h => absurd h (by omega)
  | n + 1, ds, hk, hz, hn => by
    unfold whileN
    rcases List.eq_nil_or_concat ds with rfl | ⟨ds, d, rfl⟩
    · have e : c1__law_same [.val a, .val b, .own (.lst ([].map pair)), .un, .un, .un] = .ok false := by
        unfold c1__law_same
        simp only [TP.ap_sSeq, TP.ap_sNil, TP.ap_sSet, TP.ap_sIf, TP.ap_sKill, TP.ap_sAsg, TP.ap_sExpr, TP.ap_sOwnP, TP.ap_sRet, TP.ap_sAppend, TP.ap_sPop, TP.ap_sPar, TP.ap_sPut, TP.ap_sFor, TP.ap_sRetN, TP.ap_sBreak, TP.ap_sCont, TP.ap_eVar, TP.ap_eC, TP.ap_aNil, TP.ap_aCons, TP.ap_eCall, TP.ap_e2, TP.ap_e1, TP.ap_e2B, TP.ap_eB, TP.ap_eT, TP.ap_eNot, TP.ap_eAnd, TP.ap_eOr, TP.ap_eIf, TP.ap_cNot, TP.ap_cAnd, TP.ap_cOr, TP.ap_cYes, TP.ap_cChain, TP.ap_iSeq, TP.ap_iArgs, TP.ap_oNone, TP.ap_pP, TP.ap_pLb, TP.ap_pLr, TP.ap_tgName, TP.ap_pgName, TP.ap_tgTup, TP.ap_tgTupL, TP.ap_pgTup, TP.ap_tgNil, TP.ap_pgNil, TP.ap_tgCons, TP.ap_pgCons, TP.plain, TP.lent, TP.Slot.plain, TP.Slot.lent, TP.itemsD, TP.wipeP, TP.eSlice, TP.oSome, TP.truthB, TP.Out.ofO, id_eq, TP.kill, TP.ok_bind, TP.exc_bind, TP.fail_bind, TP.ofO_some, TP.ofO_none, List.map_cons, List.map_nil, List.set_cons_zero, List.set_cons_succ, List.getElem?_cons_zero, List.getElem?_cons_succ, List.getElem?_nil, List.length_cons, List.length_nil, List.cons_append, List.nil_append, List.replicate_succ, List.replicate_zero, Option.join, Option.bind_some, Option.bind, Option.map_some, Option.map_none, Nat.reduceSub, Nat.reduceAdd, Nat.add_zero, Nat.zero_add, List.append_nil, if_true, if_false, Bool.false_eq_true, Bool.not_true, Bool.not_false, reduceIte, decide_true, decide_false, Nat.reduceLeDiff, TP.mkTup, TP.mkLst, TP.fits_eq, len_lst, gtD_int]
        rfl
      rw [e]
      rfl
    · rw [List.concat_eq_append] at *
      have e : c1__law_same [.val a, .val b, .own (.lst ((ds ++ [d]).map pair)), .un, .un, .un] = .ok true := by
        unfold c1__law_same
        simp only [TP.ap_sSeq, TP.ap_sNil, TP.ap_sSet, TP.ap_sIf, TP.ap_sKill, TP.ap_sAsg, TP.ap_sExpr, TP.ap_sOwnP, TP.ap_sRet, TP.ap_sAppend, TP.ap_sPop, TP.ap_sPar, TP.ap_sPut, TP.ap_sFor, TP.ap_sRetN, TP.ap_sBreak, TP.ap_sCont, TP.ap_eVar, TP.ap_eC, TP.ap_aNil, TP.ap_aCons, TP.ap_eCall, TP.ap_e2, TP.ap_e1, TP.ap_e2B, TP.ap_eB, TP.ap_eT, TP.ap_eNot, TP.ap_eAnd, TP.ap_eOr, TP.ap_eIf, TP.ap_cNot, TP.ap_cAnd, TP.ap_cOr, TP.ap_cYes, TP.ap_cChain, TP.ap_iSeq, TP.ap_iArgs, TP.ap_oNone, TP.ap_pP, TP.ap_pLb, TP.ap_pLr, TP.ap_tgName, TP.ap_pgName, TP.ap_tgTup, TP.ap_tgTupL, TP.ap_pgTup, TP.ap_tgNil, TP.ap_pgNil, TP.ap_tgCons, TP.ap_pgCons, TP.plain, TP.lent, TP.Slot.plain, TP.Slot.lent, TP.itemsD, TP.wipeP, TP.eSlice, TP.oSome, TP.truthB, TP.Out.ofO, id_eq, TP.kill, TP.ok_bind, TP.exc_bind, TP.fail_bind, TP.ofO_some, TP.ofO_none, List.map_cons, List.map_nil, List.set_cons_zero, List.set_cons_succ, List.getElem?_cons_zero, List.getElem?_cons_succ, List.getElem?_nil, List.length_cons, List.length_nil, List.cons_append, List.nil_append, List.replicate_succ, List.replicate_zero, Option.join, Option.bind_some, Option.bind, Option.map_some, Option.map_none, Nat.reduceSub, Nat.reduceAdd, Nat.add_zero, Nat.zero_add, List.append_nil, if_true, if_false, Bool.false_eq_true, Bool.not_true, Bool.not_false, reduceIte, decide_true, decide_false, Nat.reduceLeDiff, TP.mkTup, TP.mkLst, TP.fits_eq, len_lst, gtD_int, List.length_map, List.length_append]
        rw [decide_eq_true (by omega)]
      rw [e]
      obtain ⟨ds', h1, h2, h3⟩ := same_turn a b d ds (hk d (by simp)) hz
      dsimp only
      rw [if_pos rfl, h3]
      dsimp only
      refine same_while a b n ds' (fun x hx => ?_) (by omega) (by omega)
      rcases h2 x hx with h | ⟨l, rfl, h⟩
      · exact hk x (List.mem_append_left _ h)
      · have hd := hk (.tup l) (by simp)
        unfold D.isKey at hd
        exact keys_mem hd x h
theorem same_ok (d : TP.D) (h : d.isKey = true) (hz : wt d ≤ 100000) : g__law_same [d, d] = .ok (.bl true) := by
  unfold g__law_same b__law_same
  simp only [TP.sem_fin, TP.fin_ret, TP.fin_ret1, TP.fin_set, TP.fin_ownP, TP.fin_par, TP.fin_kill, TP.fin_if, TP.fin_if1, TP.fin_asg, TP.fin_expr, TP.fin_for, TP.fin_loop_nil, TP.fin_sNil, TP.seq_seq, TP.seq_nil, TP.startE, TP.ap_eVar, TP.ap_eC, TP.ap_aNil, TP.ap_aCons, TP.ap_eCall, TP.ap_e2, TP.ap_e1, TP.ap_e2B, TP.ap_eB, TP.ap_eT, TP.ap_eNot, TP.ap_eAnd, TP.ap_eOr, TP.ap_eIf, TP.ap_cNot, TP.ap_cAnd, TP.ap_cOr, TP.ap_cYes, TP.ap_cChain, TP.ap_iSeq, TP.ap_iArgs, TP.ap_oNone, TP.ap_pP, TP.ap_pLb, TP.ap_pLr, TP.ap_tgName, TP.ap_pgName, TP.ap_tgTup, TP.ap_tgTupL, TP.ap_pgTup, TP.ap_tgNil, TP.ap_pgNil, TP.ap_tgCons, TP.ap_pgCons, TP.plain, TP.lent, TP.Slot.plain, TP.Slot.lent, TP.itemsD, TP.wipeP, TP.eSlice, TP.oSome, TP.truthB, TP.Out.ofO, id_eq, TP.kill, TP.ok_bind, TP.exc_bind, TP.fail_bind, TP.ofO_some, TP.ofO_none, List.map_cons, List.map_nil, List.set_cons_zero, List.set_cons_succ, List.getElem?_cons_zero, List.getElem?_cons_succ, List.getElem?_nil, List.length_cons, List.length_nil, List.cons_append, List.nil_append, List.replicate_succ, List.replicate_zero, Option.join, Option.bind_some, Option.bind, Option.map_some, Option.map_none, Nat.reduceSub, Nat.reduceAdd, Nat.add_zero, Nat.zero_add, List.append_nil, if_true, if_false, Bool.false_eq_true, Bool.not_true, Bool.not_false, reduceIte, decide_true, decide_false, Nat.reduceLeDiff, TP.mkTup, TP.mkLst, TP.fits_eq]
  have e := same_while d d (wt d + 1) [d] (fun x hx => by rw [List.mem_singleton.mp hx]; exact h) (by simpa [wts] using hz) (by simp [wts])
  have e2 := sWhile_of (c := c1__law_same) (b := l2__law_same) _ e (fun z => nomatch z)
  have e3 : sWhile c1__law_same l2__law_same [.val d, .val d, .own (.lst [.tup [d, d]]), .un, .un, .un] = _ := e2
  rw [seq_nx e3]
  simp only [TP.sem_fin, TP.fin_ret, TP.fin_ret1, TP.fin_set, TP.fin_ownP, TP.fin_par, TP.fin_kill, TP.fin_if, TP.fin_if1, TP.fin_asg, TP.fin_expr, TP.fin_for, TP.fin_loop_nil, TP.fin_sNil, TP.seq_seq, TP.seq_nil, TP.startE, TP.ap_eVar, TP.ap_eC, TP.ap_aNil, TP.ap_aCons, TP.ap_eCall, TP.ap_e2, TP.ap_e1, TP.ap_e2B, TP.ap_eB, TP.ap_eT, TP.ap_eNot, TP.ap_eAnd, TP.ap_eOr, TP.ap_eIf, TP.ap_cNot, TP.ap_cAnd, TP.ap_cOr, TP.ap_cYes, TP.ap_cChain, TP.ap_iSeq, TP.ap_iArgs, TP.ap_oNone, TP.ap_pP, TP.ap_pLb, TP.ap_pLr, TP.ap_tgName, TP.ap_pgName, TP.ap_tgTup, TP.ap_tgTupL, TP.ap_pgTup, TP.ap_tgNil, TP.ap_pgNil, TP.ap_tgCons, TP.ap_pgCons, TP.plain, TP.lent, TP.Slot.plain, TP.Slot.lent, TP.itemsD, TP.wipeP, TP.eSlice, TP.oSome, TP.truthB, TP.Out.ofO, id_eq, TP.kill, TP.ok_bind, TP.exc_bind, TP.fail_bind, TP.ofO_some, TP.ofO_none, List.map_cons, List.map_nil, List.set_cons_zero, List.set_cons_succ, List.getElem?_cons_zero, List.getElem?_cons_succ, List.getElem?_nil, List.length_cons, List.length_nil, List.cons_append, List.nil_append, List.replicate_succ, List.replicate_zero, Option.join, Option.bind_some, Option.bind, Option.map_some, Option.map_none, Nat.reduceSub, Nat.reduceAdd, Nat.add_zero, Nat.zero_add, List.append_nil, if_true, if_false, Bool.false_eq_true, Bool.not_true, Bool.not_false, reduceIte, decide_true, decide_false, Nat.reduceLeDiff, TP.mkTup, TP.mkLst, TP.fits_eq]
end K20

end
set_option Elab.async false
set_option linter.all false
set_option maxRecDepth 100000
noncomputable section
namespace K20
open PySem L2 TP
def sortsL : List Str := ["write", "write", "add", "write"]
theorem sortsL_ok : ∀ x ∈ sortsL, x = "write" ∨ x = "add" := by decide
theorem sorts_comp {cs : List Int} (h : Cells cs) (at' : Int) (wide : Nat) (hw : wide ≤ 4) (a2 a4 a5 a6 a7 a8 a9 a10 a11 : Option TP.D) :
    ∃ ss : List Str, ss.length = wide ∧ (∀ s ∈ ss, s = "write" ∨ s = "add") ∧ eComp [7] (iArgs rangeD1 (aCons (eVar 3) aNil)) (pgName 7) cYes (e2 getX (eCall mkTup (aCons (eC (.str "write")) (aCons (eC (.str "write")) (aCons (eC (.str "add")) (aCons (eC (.str "write")) aNil))))) (eCall g__law_pick (aCons (eVar 0) (aCons (e2 addD (e2 addD (eVar 1) (eC (.int 10))) (eVar 7)) (aCons (eC (.int 4)) aNil)))))
      [some (.lst (cs.map .int)), some (.int at'), a2, some (.int wide), a4, a5, a6, a7, a8, a9, a10, a11] = .ok (.lst (ss.map .str)) := by
  have rg : ∀ k : Nat, ∃ r : Nat, r < 4 ∧ g__law_pick [.lst (cs.map .int), .int (at' + 10 + (0 + (k : Nat))), .int 4] = .ok (.int (r : Nat)) := fun k => by
    obtain ⟨r, h1, h2⟩ := pick_ok h (at' + 10 + (0 + (k : Nat))) 4 (by decide)
    exact ⟨r, by omega, h2⟩
  obtain ⟨f, hf⟩ : ∃ f : Nat → Nat, ∀ k, f k < 4 ∧ g__law_pick [.lst (cs.map .int), .int (at' + 10 + (0 + (k : Nat))), .int 4] = .ok (.int (f k : Nat)) := ⟨fun k => Classical.choose (rg k), fun k => Classical.choose_spec (rg k)⟩
  refine ⟨(List.range wide).map fun k => sortsL.getD (f k) "write", by simp, fun s hs => ?_, ?_⟩
  · obtain ⟨k, _, rfl⟩ := List.mem_map.mp hs
    have hr := (hf k).1
    have : sortsL.getD (f k) "write" ∈ sortsL := getD_mem (by have : sortsL.length = 4 := rfl; omega) _
    exact sortsL_ok _ this
  · simp only [TP.sem_fin, TP.fin_ret, TP.fin_ret1, TP.fin_set, TP.fin_ownP, TP.fin_par, TP.fin_kill, TP.fin_if, TP.fin_if1, TP.fin_asg, TP.fin_expr, TP.fin_for, TP.fin_loop_nil, TP.fin_sNil, TP.seq_seq, TP.seq_nil, TP.startE, TP.ap_eVar, TP.ap_eC, TP.ap_aNil, TP.ap_aCons, TP.ap_eCall, TP.ap_e2, TP.ap_e1, TP.ap_e2B, TP.ap_eB, TP.ap_eT, TP.ap_eNot, TP.ap_eAnd, TP.ap_eOr, TP.ap_eIf, TP.ap_cNot, TP.ap_cAnd, TP.ap_cOr, TP.ap_cYes, TP.ap_cChain, TP.ap_iSeq, TP.ap_iArgs, TP.ap_oNone, TP.ap_pP, TP.ap_pLb, TP.ap_pLr, TP.ap_tgName, TP.ap_pgName, TP.ap_tgTup, TP.ap_tgTupL, TP.ap_pgTup, TP.ap_tgNil, TP.ap_pgNil, TP.ap_tgCons, TP.ap_pgCons, TP.plain, TP.lent, TP.Slot.plain, TP.Slot.lent, TP.itemsD, TP.wipeP, TP.eSlice, TP.oSome, TP.truthB, TP.Out.ofO, id_eq, TP.kill, TP.ok_bind, TP.exc_bind, TP.fail_bind, TP.ofO_some, TP.ofO_none, List.map_cons, List.map_nil, List.set_cons_zero, List.set_cons_succ, List.getElem?_cons_zero, List.getElem?_cons_succ, List.getElem?_nil, List.length_cons, List.length_nil, List.cons_append, List.nil_append, List.replicate_succ, List.replicate_zero, Option.join, Option.bind_some, Option.bind, Option.map_some, Option.map_none, Nat.reduceSub, Nat.reduceAdd, Nat.add_zero, Nat.zero_add, List.append_nil, if_true, if_false, Bool.false_eq_true, Bool.not_true, Bool.not_false, reduceIte, decide_true, decide_false, Nat.reduceLeDiff, TP.mkTup, TP.mkLst, TP.fits_eq, eComp, rd1 wide (by omega), rangeL_map]
    rw [comp_map (fun k : Nat => D.int (0 + (k : Nat))) (fun _ => true) (fun k => .str (sortsL.getD (f k) "write"))]
    · rw [List.filter_eq_self.mpr (fun _ _ => rfl), ok_bind, List.length_map, List.length_range, if_pos (decide_eq_true (by omega)), List.map_map]
      rfl
    · intro k _
      refine ⟨_, rfl, rfl, fun _ => ?_⟩
      have hr := (hf k).1
      have hp := (hf k).2
      have eL : ([D.str "write", D.str "write", D.str "add", D.str "write"] : List TP.D) = sortsL.map .str := rfl
      simp only [TP.sem_fin, TP.fin_ret, TP.fin_ret1, TP.fin_set, TP.fin_ownP, TP.fin_par, TP.fin_kill, TP.fin_if, TP.fin_if1, TP.fin_asg, TP.fin_expr, TP.fin_for, TP.fin_loop_nil, TP.fin_sNil, TP.seq_seq, TP.seq_nil, TP.startE, TP.ap_eVar, TP.ap_eC, TP.ap_aNil, TP.ap_aCons, TP.ap_eCall, TP.ap_e2, TP.ap_e1, TP.ap_e2B, TP.ap_eB, TP.ap_eT, TP.ap_eNot, TP.ap_eAnd, TP.ap_eOr, TP.ap_eIf, TP.ap_cNot, TP.ap_cAnd, TP.ap_cOr, TP.ap_cYes, TP.ap_cChain, TP.ap_iSeq, TP.ap_iArgs, TP.ap_oNone, TP.ap_pP, TP.ap_pLb, TP.ap_pLr, TP.ap_tgName, TP.ap_pgName, TP.ap_tgTup, TP.ap_tgTupL, TP.ap_pgTup, TP.ap_tgNil, TP.ap_pgNil, TP.ap_tgCons, TP.ap_pgCons, TP.plain, TP.lent, TP.Slot.plain, TP.Slot.lent, TP.itemsD, TP.wipeP, TP.eSlice, TP.oSome, TP.truthB, TP.Out.ofO, id_eq, TP.kill, TP.ok_bind, TP.exc_bind, TP.fail_bind, TP.ofO_some, TP.ofO_none, List.map_cons, List.map_nil, List.set_cons_zero, List.set_cons_succ, List.getElem?_cons_zero, List.getElem?_cons_succ, List.getElem?_nil, List.length_cons, List.length_nil, List.cons_append, List.nil_append, List.replicate_succ, List.replicate_zero, Option.join, Option.bind_some, Option.bind, Option.map_some, Option.map_none, Nat.reduceSub, Nat.reduceAdd, Nat.add_zero, Nat.zero_add, List.append_nil, if_true, if_false, Bool.false_eq_true, Bool.not_true, Bool.not_false, reduceIte, decide_true, decide_false, Nat.reduceLeDiff, TP.mkTup, TP.mkLst, TP.fits_eq, add_ok, hp]
      rw [eL]
      have hg : sortsL[f k]? = some (sortsL.getD (f k) "write") := by
        rw [List.getD_eq_getElem?_getD, List.getElem?_eq_getElem (by have : sortsL.length = 4 := rfl; omega)]
        rfl
      exact getX_tupM hg
def enI (k : Nat) : TP.D := .int (k : Nat)
theorem ses_loop {cs : List Int} (h : Cells cs) (at' : Int) (a2 a3 a4 : Slot) (steps : List S3) (hs : 0 < steps.length) (a6 : Slot) (k : Nat) (a8 a9 : Slot) (n : Nat) (hn : n ≤ 1000) :
    ∃ S : Sess, S.length = n ∧ (∀ d ∈ S, 0 < d.length ∧ d.length ≤ 3 ∧ d.Nodup ∧ (∀ t ∈ d, t ∈ steps) ∧ d = srt en3 d) ∧ loop (tgName 11) l1__law_lot (rangeL 0 n) [.val (.lst (cs.map .int)), .val (.int at'), a2, a3, a4, .val (.lst (steps.map en3)), a6, .val (.int (0 + (k : Nat))), a8, a9, .own (.lst []), .un] =
      .nx [.val (.lst (cs.map .int)), .val (.int at'), a2, a3, a4, .val (.lst (steps.map en3)), a6, .val (.int (0 + (k : Nat))), a8, a9, .own (.lst (S.map enT)), .un] := by
  obtain ⟨ρ', e, q⟩ := loop_inv (t := tgName 11) (b := l1__law_lot) (fun i ρ => i ≤ n ∧ ∃ S : Sess, S.length = i ∧ (∀ d ∈ S, 0 < d.length ∧ d.length ≤ 3 ∧ d.Nodup ∧ (∀ t ∈ d, t ∈ steps) ∧ d = srt en3 d) ∧ ρ = [.val (.lst (cs.map .int)), .val (.int at'), a2, a3, a4, .val (.lst (steps.map en3)), a6, .val (.int (0 + (k : Nat))), a8, a9, .own (.lst (S.map enT)), .un]) (rangeL 0 n) 0
    [.val (.lst (cs.map .int)), .val (.int at'), a2, a3, a4, .val (.lst (steps.map en3)), a6, .val (.int (0 + (k : Nat))), a8, a9, .own (.lst []), .un] ⟨by omega, [], rfl, (fun d hd => by cases hd), rfl⟩ (by
    rintro j x ρ hj ⟨hi, S, hl, hS, rfl⟩
    obtain ⟨hj1, rfl⟩ := rangeL_get _ _ _ _ hj
    obtain ⟨T, t1, t2, t3, t4, t5, t6⟩ := deal_ok h (at' + 16 + 20 * (0 + (k : Int)) + 5 * (0 + (j : Int))) steps hs 3 (by decide) (by decide)
    refine ⟨_, _, rfl, .inl ?_, by omega, S ++ [T], by simp [hl], ?_, rfl⟩
    · have ff : decide (S.length ≤ 16777215) = true := decide_eq_true (by omega)
      have t6' : g__law_deal [.lst (cs.map .int), .int (at' + 16 + 20 * (0 + (k : Int)) + 5 * (0 + (j : Int))), .lst (steps.map en3), .int 3] = .ok (enT T) := t6
      unfold l1__law_lot
      simp only [TP.ap_sSeq, TP.ap_sNil, TP.ap_sSet, TP.ap_sIf, TP.ap_sKill, TP.ap_sAsg, TP.ap_sExpr, TP.ap_sOwnP, TP.ap_sRet, TP.ap_sAppend, TP.ap_sPop, TP.ap_sPar, TP.ap_sPut, TP.ap_sFor, TP.ap_sRetN, TP.ap_sBreak, TP.ap_sCont, TP.ap_eVar, TP.ap_eC, TP.ap_aNil, TP.ap_aCons, TP.ap_eCall, TP.ap_e2, TP.ap_e1, TP.ap_e2B, TP.ap_eB, TP.ap_eT, TP.ap_eNot, TP.ap_eAnd, TP.ap_eOr, TP.ap_eIf, TP.ap_cNot, TP.ap_cAnd, TP.ap_cOr, TP.ap_cYes, TP.ap_cChain, TP.ap_iSeq, TP.ap_iArgs, TP.ap_oNone, TP.ap_pP, TP.ap_pLb, TP.ap_pLr, TP.ap_tgName, TP.ap_pgName, TP.ap_tgTup, TP.ap_tgTupL, TP.ap_pgTup, TP.ap_tgNil, TP.ap_pgNil, TP.ap_tgCons, TP.ap_pgCons, TP.plain, TP.lent, TP.Slot.plain, TP.Slot.lent, TP.itemsD, TP.wipeP, TP.eSlice, TP.oSome, TP.truthB, TP.Out.ofO, id_eq, TP.kill, TP.ok_bind, TP.exc_bind, TP.fail_bind, TP.ofO_some, TP.ofO_none, List.map_cons, List.map_nil, List.set_cons_zero, List.set_cons_succ, List.getElem?_cons_zero, List.getElem?_cons_succ, List.getElem?_nil, List.length_cons, List.length_nil, List.cons_append, List.nil_append, List.replicate_succ, List.replicate_zero, Option.join, Option.bind_some, Option.bind, Option.map_some, Option.map_none, Nat.reduceSub, Nat.reduceAdd, Nat.add_zero, Nat.zero_add, List.append_nil, if_true, if_false, Bool.false_eq_true, Bool.not_true, Bool.not_false, reduceIte, decide_true, decide_false, Nat.reduceLeDiff, TP.mkTup, TP.mkLst, TP.fits_eq, add_ok, mulL_ok (i := 20) (j := (0 + (k : Int))) (by decide), mulL_ok (i := 5) (j := (0 + (j : Int))) (by decide), t6', List.length_map, ff]
      rw [List.map_append]
      rfl
    · intro d hd
      rcases List.mem_append.mp hd with hd | hd
      · exact hS d hd
      · rw [List.mem_singleton.mp hd]
        exact ⟨t1, t2, t3, t4, t5⟩)
  obtain ⟨_, S, hl, hS, rfl⟩ := q
  rw [rangeL_len, Nat.zero_add] at hl
  exact ⟨S, hl, hS, e⟩
/-- a lot as drawn -/
structure LotA (L : Lot) (shape : List Nat) (steps : List S3) : Prop where
  shape : L.map List.length = shape
  deals : ∀ s ∈ L, ∀ d ∈ s, 0 < d.length ∧ d.length ≤ 3 ∧ d.Nodup ∧ (∀ t ∈ d, t ∈ steps) ∧ d = srt en3 d
theorem LotA.s {L : Lot} {shape : List Nat} {steps : List S3} (h : LotA L shape steps) {n m : Nat} (hn : shape.length ≤ n) (hm : ∀ k ∈ shape, k ≤ m) : LotS L n m 3 where
  lots := by rw [← h.shape, List.length_map] at hn; exact hn
  sess := fun s hs => hm _ (by rw [← h.shape]; exact List.mem_map.mpr ⟨s, hs, rfl⟩)
  deals := fun s hs d hd => (h.deals s hs d hd).2.1
/-- the steps that a lot may have -/
def StepsA (steps : List S3) : Prop := ∃ cols rows, ColsA cols ∧ RowsA rows ∧ 0 < steps.length ∧ ∀ t ∈ steps, t.2.1 ∈ cols ∧ t.2.2 ∈ rows ∧ (t.1 = "read" ∨ t.1 = "write" ∨ t.1 = "add")
theorem lot_ok {cs : List Int} (h : Cells cs) (at' : Int) (shape : List Nat) (hsh : shape.length ≤ 100) (hsm : ∀ k ∈ shape, k ≤ 1000) (wide : Nat) (hw : 0 < wide) (hw4 : wide ≤ 4) :
    ∃ L steps, StepsA steps ∧ LotA L shape steps ∧ g__law_lot [.lst (cs.map .int), .int at', .tup (shape.map enI), .int wide] = .ok (enL L) := by
  obtain ⟨cols, rows, hc, hr, en⟩ := names_ok h at'
  obtain ⟨r, r1, r2⟩ := pick_ok h (at' + 14) 2 (by decide)
  obtain ⟨n, hn, hn0, hn2⟩ : ∃ n : Nat, (1 : Int) + (r : Int) = (n : Nat) ∧ 0 < n ∧ n ≤ 2 := ⟨1 + r, by omega, by omega, by omega⟩
  obtain ⟨ss, s1, s2, s3⟩ := sorts_comp h at' wide hw4 (some (.tup (shape.map enI))) none none none none (some (.lst (cols.map .str))) (some (.lst (rows.map .str))) none none
  have hcl : (cols.take wide).length = ss.length := by rw [List.length_take, hc.1, s1]; omega
  have hrl : (rows.take n).length = n := by rw [List.length_take, hr.nd.2]; omega
  have hst := steps_ok (cols.take wide) ss (rows.take n) hcl (by rw [hcl, s1]; exact hw4) (by rw [hrl]; omega)
  have hlen := stepsL_len (rows.take n) ((cols.take wide).zip ss)
  have hpos : 0 < (stepsL (rows.take n) ((cols.take wide).zip ss)).length := by
    rw [hlen, List.length_zip, hcl, Nat.min_self, s1, hrl]
    exact Nat.mul_pos hw (by omega)
  generalize hgen : stepsL (rows.take n) ((cols.take wide).zip ss) = steps at hst hpos
  have hA : StepsA steps := ⟨cols, rows, hc, hr, hpos, fun t ht => by
    rw [← hgen] at ht
    obtain ⟨h1, p, h2, h3, h4⟩ := stepsL_mem ht
    obtain ⟨p1, p2⟩ := p
    have hz := List.of_mem_zip h2
    refine ⟨?_, List.mem_of_mem_take h1, ?_⟩
    · rw [h3]; exact List.mem_of_mem_take hz.1
    · rcases h4 with h4 | h4
      · exact .inl h4
      · rcases s2 _ hz.2 with h5 | h5
        · exact .inr (.inl (h4.trans h5))
        · exact .inr (.inr (h4.trans h5))⟩
  obtain ⟨ρ', e, q⟩ := loop_inv (t := tgName 7) (b := l2__law_lot) (fun i ρ => i ≤ shape.length ∧ ∃ L : Lot, L.map List.length = shape.take i ∧ (∀ s ∈ L, ∀ d ∈ s, 0 < d.length ∧ d.length ≤ 3 ∧ d.Nodup ∧ (∀ t ∈ d, t ∈ steps) ∧ d = srt en3 d) ∧ ρ = [.val (.lst (cs.map .int)), .val (.int at'), .val (.tup (shape.map enI)), .val (.int wide), .val (.lst (ss.map .str)), .val (.lst (steps.map en3)), .own (.lst (L.map enSs)), .un, .val (.lst (cols.map .str)), .val (.lst (rows.map .str)), .un, .un]) (rangeL 0 shape.length) 0
    [.val (.lst (cs.map .int)), .val (.int at'), .val (.tup (shape.map enI)), .val (.int wide), .val (.lst (ss.map .str)), .val (.lst (steps.map en3)), .own (.lst []), .un, .val (.lst (cols.map .str)), .val (.lst (rows.map .str)), .un, .un] ⟨by omega, [], rfl, (fun d hd => by cases hd), rfl⟩ (by
    rintro j x ρ hj ⟨hi, L, hl, hL, rfl⟩
    obtain ⟨hj1, rfl⟩ := rangeL_get _ _ _ _ hj
    have hsj : shape[j]? = some shape[j] := List.getElem?_eq_getElem hj1
    obtain ⟨S, S1, S2, S3⟩ := ses_loop h at' (.val (.tup (shape.map enI))) (.val (.int wide)) (.val (.lst (ss.map .str))) steps hpos (.own (.lst (L.map enSs))) j (.val (.lst (cols.map .str))) (.val (.lst (rows.map .str))) shape[j] (hsm _ (List.getElem_mem hj1))
    have hlL : L.length ≤ 100 := by have := congrArg List.length hl; rw [List.length_map, List.length_take] at this; omega
    have gx : getX (.tup (shape.map enI)) (.int (0 + (j : Nat))) = .ok (.int (shape[j] : Nat)) := by rw [Int.zero_add]; exact getX_tupM hsj
    refine ⟨_, _, rfl, .inl ?_, by omega, L ++ [S], ?_, ?_, rfl⟩
    · have ff : decide (L.length ≤ 16777215) = true := decide_eq_true (by omega)
      have kS : keyed (.tup (S.map enT)) = .ok (enSs S) := keyedS S
      unfold l2__law_lot
      simp only [TP.ap_sSeq, TP.ap_sNil, TP.ap_sSet, TP.ap_sIf, TP.ap_sKill, TP.ap_sAsg, TP.ap_sExpr, TP.ap_sOwnP, TP.ap_sRet, TP.ap_sAppend, TP.ap_sPop, TP.ap_sPar, TP.ap_sPut, TP.ap_sFor, TP.ap_sRetN, TP.ap_sBreak, TP.ap_sCont, TP.ap_eVar, TP.ap_eC, TP.ap_aNil, TP.ap_aCons, TP.ap_eCall, TP.ap_e2, TP.ap_e1, TP.ap_e2B, TP.ap_eB, TP.ap_eT, TP.ap_eNot, TP.ap_eAnd, TP.ap_eOr, TP.ap_eIf, TP.ap_cNot, TP.ap_cAnd, TP.ap_cOr, TP.ap_cYes, TP.ap_cChain, TP.ap_iSeq, TP.ap_iArgs, TP.ap_oNone, TP.ap_pP, TP.ap_pLb, TP.ap_pLr, TP.ap_tgName, TP.ap_pgName, TP.ap_tgTup, TP.ap_tgTupL, TP.ap_pgTup, TP.ap_tgNil, TP.ap_pgNil, TP.ap_tgCons, TP.ap_pgCons, TP.plain, TP.lent, TP.Slot.plain, TP.Slot.lent, TP.itemsD, TP.wipeP, TP.eSlice, TP.oSome, TP.truthB, TP.Out.ofO, id_eq, TP.kill, TP.ok_bind, TP.exc_bind, TP.fail_bind, TP.ofO_some, TP.ofO_none, List.map_cons, List.map_nil, List.set_cons_zero, List.set_cons_succ, List.getElem?_cons_zero, List.getElem?_cons_succ, List.getElem?_nil, List.length_cons, List.length_nil, List.cons_append, List.nil_append, List.replicate_succ, List.replicate_zero, Option.join, Option.bind_some, Option.bind, Option.map_some, Option.map_none, Nat.reduceSub, Nat.reduceAdd, Nat.add_zero, Nat.zero_add, List.append_nil, if_true, if_false, Bool.false_eq_true, Bool.not_true, Bool.not_false, reduceIte, decide_true, decide_false, Nat.reduceLeDiff, TP.mkTup, TP.mkLst, TP.fits_eq, gx, rd1 shape[j] (by have := hsm _ (List.getElem_mem hj1); omega), S3, ap_pL, tup_lst, kS, List.length_map, ff]
      rw [List.map_append]
      rfl
    · rw [Nat.zero_add] at hl
      rw [List.map_append, hl, Nat.zero_add, List.take_succ, hsj, ← S1]
      rfl
    · intro s hs
      rcases List.mem_append.mp hs with hs | hs
      · exact hL s hs
      · rw [List.mem_singleton.mp hs]
        exact S2)
  obtain ⟨_, L, hl, hL, rfl⟩ := q
  rw [rangeL_len, Nat.zero_add, List.take_length] at hl
  refine ⟨L, steps, hA, ⟨hl, hL⟩, ?_⟩
  unfold g__law_lot b__law_lot
  simp only [TP.sem_fin, TP.fin_ret, TP.fin_ret1, TP.fin_set, TP.fin_ownP, TP.fin_par, TP.fin_kill, TP.fin_if, TP.fin_if1, TP.fin_asg, TP.fin_expr, TP.fin_for, TP.fin_loop_nil, TP.fin_sNil, TP.seq_seq, TP.seq_nil, TP.startE, TP.ap_eVar, TP.ap_eC, TP.ap_aNil, TP.ap_aCons, TP.ap_eCall, TP.ap_e2, TP.ap_e1, TP.ap_e2B, TP.ap_eB, TP.ap_eT, TP.ap_eNot, TP.ap_eAnd, TP.ap_eOr, TP.ap_eIf, TP.ap_cNot, TP.ap_cAnd, TP.ap_cOr, TP.ap_cYes, TP.ap_cChain, TP.ap_iSeq, TP.ap_iArgs, TP.ap_oNone, TP.ap_pP, TP.ap_pLb, TP.ap_pLr, TP.ap_tgName, TP.ap_pgName, TP.ap_tgTup, TP.ap_tgTupL, TP.ap_pgTup, TP.ap_tgNil, TP.ap_pgNil, TP.ap_tgCons, TP.ap_pgCons, TP.plain, TP.lent, TP.Slot.plain, TP.Slot.lent, TP.itemsD, TP.wipeP, TP.eSlice, TP.oSome, TP.truthB, TP.Out.ofO, id_eq, TP.kill, TP.ok_bind, TP.exc_bind, TP.fail_bind, TP.ofO_some, TP.ofO_none, List.map_cons, List.map_nil, List.set_cons_zero, List.set_cons_succ, List.getElem?_cons_zero, List.getElem?_cons_succ, List.getElem?_nil, List.length_cons, List.length_nil, List.cons_append, List.nil_append, List.replicate_succ, List.replicate_zero, Option.join, Option.bind_some, Option.bind, Option.map_some, Option.map_none, Nat.reduceSub, Nat.reduceAdd, Nat.add_zero, Nat.zero_add, List.append_nil, if_true, if_false, Bool.false_eq_true, Bool.not_true, Bool.not_false, reduceIte, decide_true, decide_false, Nat.reduceLeDiff, TP.mkTup, TP.mkLst, TP.fits_eq, en, s3, asInt, sl_toM, r2, add_ok, hn, hst, lenT, rd1 shape.length (by omega)]
  rw [fin_loop e]
  simp only [TP.sem_fin, TP.fin_ret, TP.fin_ret1, TP.fin_set, TP.fin_ownP, TP.fin_par, TP.fin_kill, TP.fin_if, TP.fin_if1, TP.fin_asg, TP.fin_expr, TP.fin_for, TP.fin_loop_nil, TP.fin_sNil, TP.seq_seq, TP.seq_nil, TP.startE, TP.ap_eVar, TP.ap_eC, TP.ap_aNil, TP.ap_aCons, TP.ap_eCall, TP.ap_e2, TP.ap_e1, TP.ap_e2B, TP.ap_eB, TP.ap_eT, TP.ap_eNot, TP.ap_eAnd, TP.ap_eOr, TP.ap_eIf, TP.ap_cNot, TP.ap_cAnd, TP.ap_cOr, TP.ap_cYes, TP.ap_cChain, TP.ap_iSeq, TP.ap_iArgs, TP.ap_oNone, TP.ap_pP, TP.ap_pLb, TP.ap_pLr, TP.ap_tgName, TP.ap_pgName, TP.ap_tgTup, TP.ap_tgTupL, TP.ap_pgTup, TP.ap_tgNil, TP.ap_pgNil, TP.ap_tgCons, TP.ap_pgCons, TP.plain, TP.lent, TP.Slot.plain, TP.Slot.lent, TP.itemsD, TP.wipeP, TP.eSlice, TP.oSome, TP.truthB, TP.Out.ofO, id_eq, TP.kill, TP.ok_bind, TP.exc_bind, TP.fail_bind, TP.ofO_some, TP.ofO_none, List.map_cons, List.map_nil, List.set_cons_zero, List.set_cons_succ, List.getElem?_cons_zero, List.getElem?_cons_succ, List.getElem?_nil, List.length_cons, List.length_nil, List.cons_append, List.nil_append, List.replicate_succ, List.replicate_zero, Option.join, Option.bind_some, Option.bind, Option.map_some, Option.map_none, Nat.reduceSub, Nat.reduceAdd, Nat.add_zero, Nat.zero_add, List.append_nil, if_true, if_false, Bool.false_eq_true, Bool.not_true, Bool.not_false, reduceIte, decide_true, decide_false, Nat.reduceLeDiff, TP.mkTup, TP.mkLst, TP.fits_eq]
  rfl
end K20

end
set_option Elab.async false
set_option linter.all false
set_option maxRecDepth 100000
noncomputable section
namespace K20
open PySem L2 TP
theorem words_wt (p w : Bool) : wt (.tup ((wordsB p w).map .str)) ≤ 100000 := by cases p <;> cases w <;> simp [wordsB, wt, wts]
theorem words_key (p w : Bool) : (D.tup ((wordsB p w).map .str)).isKey = true := by cases p <;> cases w <;> rfl
theorem words_ok {L : Lot} {a b : M3} (ha : a ∈ membersR L) (hb : b ∈ membersR L) : g__law_words [enL L, enM a, enM b] = .ok (.tup ((wordsB (looksB (dealAt L a.1 a.2.2) (dealAt L b.1 b.2.1)) (bothB (dealAt L a.1 a.2.2) (dealAt L b.1 b.2.1))).map .str)) := by
  have i1 : intD [.bl true] = .ok (.int 1) := rfl
  have i0 : intD [.bl false] = .ok (.int 0) := rfl
  have m1 : ∀ x : Str, mulD (.tup [.str x]) (.int 1) = .ok (.tup [.str x]) := fun _ => rfl
  have m0 : ∀ x : Str, mulD (.tup [.str x]) (.int 0) = .ok (.tup []) := fun _ => rfl
  unfold g__law_words b__law_words
  cases h1 : looksB (dealAt L a.1 a.2.2) (dealAt L b.1 b.2.1) <;> cases h2 : bothB (dealAt L a.1 a.2.2) (dealAt L b.1 b.2.1) <;>
    (simp only [TP.sem_fin, TP.fin_ret, TP.fin_ret1, TP.fin_set, TP.fin_ownP, TP.fin_par, TP.fin_kill, TP.fin_if, TP.fin_if1, TP.fin_asg, TP.fin_expr, TP.fin_for, TP.fin_loop_nil, TP.fin_sNil, TP.seq_seq, TP.seq_nil, TP.startE, TP.ap_eVar, TP.ap_eC, TP.ap_aNil, TP.ap_aCons, TP.ap_eCall, TP.ap_e2, TP.ap_e1, TP.ap_e2B, TP.ap_eB, TP.ap_eT, TP.ap_eNot, TP.ap_eAnd, TP.ap_eOr, TP.ap_eIf, TP.ap_cNot, TP.ap_cAnd, TP.ap_cOr, TP.ap_cYes, TP.ap_cChain, TP.ap_iSeq, TP.ap_iArgs, TP.ap_oNone, TP.ap_pP, TP.ap_pLb, TP.ap_pLr, TP.ap_tgName, TP.ap_pgName, TP.ap_tgTup, TP.ap_tgTupL, TP.ap_pgTup, TP.ap_tgNil, TP.ap_pgNil, TP.ap_tgCons, TP.ap_pgCons, TP.plain, TP.lent, TP.Slot.plain, TP.Slot.lent, TP.itemsD, TP.wipeP, TP.eSlice, TP.oSome, TP.truthB, TP.Out.ofO, id_eq, TP.kill, TP.ok_bind, TP.exc_bind, TP.fail_bind, TP.ofO_some, TP.ofO_none, List.map_cons, List.map_nil, List.set_cons_zero, List.set_cons_succ, List.getElem?_cons_zero, List.getElem?_cons_succ, List.getElem?_nil, List.length_cons, List.length_nil, List.cons_append, List.nil_append, List.replicate_succ, List.replicate_zero, Option.join, Option.bind_some, Option.bind, Option.map_some, Option.map_none, Nat.reduceSub, Nat.reduceAdd, Nat.add_zero, Nat.zero_add, List.append_nil, if_true, if_false, Bool.false_eq_true, Bool.not_true, Bool.not_false, reduceIte, decide_true, decide_false, Nat.reduceLeDiff, TP.mkTup, TP.mkLst, TP.fits_eq, law_cut_ok ha hb, h1, h2, i1, i0, m1, m0]; rw [add_tup _ _ (by decide)]; rfl)
abbrev PM := M3 × M3
def enPM (p : PM) : TP.D := .tup [enM p.1, enM p.2]
def pairsF (R : List M3) (a : M3) : List PM := (R.filter fun b => decide ((a.1 : Int) ≠ (b.1 : Int))).map fun b => (a, b)
theorem pairs_len (R : List M3) (p : List M3) : (p.flatMap (pairsF R)).length ≤ p.length * R.length :=
  flatMap_len_le _ _ p fun a _ => by unfold pairsF; rw [List.length_map]; exact List.length_filter_le _ _
theorem pairs_loop (a0 a1 a2 a3 : Slot) (R : List M3) (hR : R.length ≤ 200) (e7 e8 e9 : Slot) :
    loop (tgName 6) l1__law_asked (R.map enM) [a0, a1, a2, a3, .val (.lst (R.map enM)), .val (.lst []), .un, e7, e8, e9] = .nx [a0, a1, a2, a3, .val (.lst (R.map enM)), .val (.lst ((R.flatMap (pairsF R)).map enPM)), .un, e7, e8, e9] := by
  have lp := loop_over (t := tgName 6) (b := l1__law_asked) enM (fun pre => [a0, a1, a2, a3, .val (.lst (R.map enM)), .val (.lst ((pre.flatMap (pairsF R)).map enPM)), .un, e7, e8, e9]) R [] (fun p a post e => by
    rw [List.nil_append] at e
    have hl : p.length < R.length := by have := congrArg List.length e; rw [List.length_append, List.length_cons] at this; omega
    have hp := pairs_len R p
    have hp2 : p.length * R.length ≤ 200 * 200 := Nat.mul_le_mul (by omega) hR
    have hf : (pairsF R a).length ≤ 200 := by unfold pairsF; rw [List.length_map]; exact Nat.le_trans (List.length_filter_le _ _) hR
    refine ⟨_, rfl, .inl ?_⟩
    have hc : ∀ x : List (Option TP.D), x[4]? = some (some (.lst (R.map enM))) → x[6]? = some (some (enM a)) → x.length = 10 → eComp [9] (iSeq (eVar 4)) (pgName 9) (e2B neD (e2 getX (eVar 6) (eC (.int 0))) (e2 getX (eVar 9) (eC (.int 0)))) (eCall mkTup (aCons (eVar 6) (aCons (eVar 9) aNil))) x = .ok (.lst ((pairsF R a).map enPM)) := fun x h4 h6 hx => by
      match x, hx with
      | [x0, x1, x2, x3, x4, x5, x6, x7, x8, x9], _ =>
        simp at h4 h6
        subst h4 h6
        simp only [TP.sem_fin, TP.fin_ret, TP.fin_ret1, TP.fin_set, TP.fin_ownP, TP.fin_par, TP.fin_kill, TP.fin_if, TP.fin_if1, TP.fin_asg, TP.fin_expr, TP.fin_for, TP.fin_loop_nil, TP.fin_sNil, TP.seq_seq, TP.seq_nil, TP.startE, TP.ap_eVar, TP.ap_eC, TP.ap_aNil, TP.ap_aCons, TP.ap_eCall, TP.ap_e2, TP.ap_e1, TP.ap_e2B, TP.ap_eB, TP.ap_eT, TP.ap_eNot, TP.ap_eAnd, TP.ap_eOr, TP.ap_eIf, TP.ap_cNot, TP.ap_cAnd, TP.ap_cOr, TP.ap_cYes, TP.ap_cChain, TP.ap_iSeq, TP.ap_iArgs, TP.ap_oNone, TP.ap_pP, TP.ap_pLb, TP.ap_pLr, TP.ap_tgName, TP.ap_pgName, TP.ap_tgTup, TP.ap_tgTupL, TP.ap_pgTup, TP.ap_tgNil, TP.ap_pgNil, TP.ap_tgCons, TP.ap_pgCons, TP.plain, TP.lent, TP.Slot.plain, TP.Slot.lent, TP.itemsD, TP.wipeP, TP.eSlice, TP.oSome, TP.truthB, TP.Out.ofO, id_eq, TP.kill, TP.ok_bind, TP.exc_bind, TP.fail_bind, TP.ofO_some, TP.ofO_none, List.map_cons, List.map_nil, List.set_cons_zero, List.set_cons_succ, List.getElem?_cons_zero, List.getElem?_cons_succ, List.getElem?_nil, List.length_cons, List.length_nil, List.cons_append, List.nil_append, List.replicate_succ, List.replicate_zero, Option.join, Option.bind_some, Option.bind, Option.map_some, Option.map_none, Nat.reduceSub, Nat.reduceAdd, Nat.add_zero, Nat.zero_add, List.append_nil, if_true, if_false, Bool.false_eq_true, Bool.not_true, Bool.not_false, reduceIte, decide_true, decide_false, Nat.reduceLeDiff, TP.mkTup, TP.mkLst, TP.fits_eq, eComp]
        rw [comp_map enM (fun b => decide ((a.1 : Int) ≠ (b.1 : Int))) (fun b => enPM (a, b))]
        · have e2 : ((R.filter fun b => decide ((a.1 : Int) ≠ (b.1 : Int))).map fun b => enPM (a, b)) = (pairsF R a).map enPM := by unfold pairsF; rw [List.map_map]; rfl
          rw [e2, ok_bind, List.length_map, if_pos (decide_eq_true (by omega))]
        · intro b _
          refine ⟨_, rfl, ?_, fun _ => ?_⟩
          · simp only [TP.sem_fin, TP.fin_ret, TP.fin_ret1, TP.fin_set, TP.fin_ownP, TP.fin_par, TP.fin_kill, TP.fin_if, TP.fin_if1, TP.fin_asg, TP.fin_expr, TP.fin_for, TP.fin_loop_nil, TP.fin_sNil, TP.seq_seq, TP.seq_nil, TP.startE, TP.ap_eVar, TP.ap_eC, TP.ap_aNil, TP.ap_aCons, TP.ap_eCall, TP.ap_e2, TP.ap_e1, TP.ap_e2B, TP.ap_eB, TP.ap_eT, TP.ap_eNot, TP.ap_eAnd, TP.ap_eOr, TP.ap_eIf, TP.ap_cNot, TP.ap_cAnd, TP.ap_cOr, TP.ap_cYes, TP.ap_cChain, TP.ap_iSeq, TP.ap_iArgs, TP.ap_oNone, TP.ap_pP, TP.ap_pLb, TP.ap_pLr, TP.ap_tgName, TP.ap_pgName, TP.ap_tgTup, TP.ap_tgTupL, TP.ap_pgTup, TP.ap_tgNil, TP.ap_pgNil, TP.ap_tgCons, TP.ap_pgCons, TP.plain, TP.lent, TP.Slot.plain, TP.Slot.lent, TP.itemsD, TP.wipeP, TP.eSlice, TP.oSome, TP.truthB, TP.Out.ofO, id_eq, TP.kill, TP.ok_bind, TP.exc_bind, TP.fail_bind, TP.ofO_some, TP.ofO_none, List.map_cons, List.map_nil, List.set_cons_zero, List.set_cons_succ, List.getElem?_cons_zero, List.getElem?_cons_succ, List.getElem?_nil, List.length_cons, List.length_nil, List.cons_append, List.nil_append, List.replicate_succ, List.replicate_zero, Option.join, Option.bind_some, Option.bind, Option.map_some, Option.map_none, Nat.reduceSub, Nat.reduceAdd, Nat.add_zero, Nat.zero_add, List.append_nil, if_true, if_false, Bool.false_eq_true, Bool.not_true, Bool.not_false, reduceIte, decide_true, decide_false, Nat.reduceLeDiff, TP.mkTup, TP.mkLst, TP.fits_eq, enM0, ne_int']
          · simp only [TP.sem_fin, TP.fin_ret, TP.fin_ret1, TP.fin_set, TP.fin_ownP, TP.fin_par, TP.fin_kill, TP.fin_if, TP.fin_if1, TP.fin_asg, TP.fin_expr, TP.fin_for, TP.fin_loop_nil, TP.fin_sNil, TP.seq_seq, TP.seq_nil, TP.startE, TP.ap_eVar, TP.ap_eC, TP.ap_aNil, TP.ap_aCons, TP.ap_eCall, TP.ap_e2, TP.ap_e1, TP.ap_e2B, TP.ap_eB, TP.ap_eT, TP.ap_eNot, TP.ap_eAnd, TP.ap_eOr, TP.ap_eIf, TP.ap_cNot, TP.ap_cAnd, TP.ap_cOr, TP.ap_cYes, TP.ap_cChain, TP.ap_iSeq, TP.ap_iArgs, TP.ap_oNone, TP.ap_pP, TP.ap_pLb, TP.ap_pLr, TP.ap_tgName, TP.ap_pgName, TP.ap_tgTup, TP.ap_tgTupL, TP.ap_pgTup, TP.ap_tgNil, TP.ap_pgNil, TP.ap_tgCons, TP.ap_pgCons, TP.plain, TP.lent, TP.Slot.plain, TP.Slot.lent, TP.itemsD, TP.wipeP, TP.eSlice, TP.oSome, TP.truthB, TP.Out.ofO, id_eq, TP.kill, TP.ok_bind, TP.exc_bind, TP.fail_bind, TP.ofO_some, TP.ofO_none, List.map_cons, List.map_nil, List.set_cons_zero, List.set_cons_succ, List.getElem?_cons_zero, List.getElem?_cons_succ, List.getElem?_nil, List.length_cons, List.length_nil, List.cons_append, List.nil_append, List.replicate_succ, List.replicate_zero, Option.join, Option.bind_some, Option.bind, Option.map_some, Option.map_none, Nat.reduceSub, Nat.reduceAdd, Nat.add_zero, Nat.zero_add, List.append_nil, if_true, if_false, Bool.false_eq_true, Bool.not_true, Bool.not_false, reduceIte, decide_true, decide_false, Nat.reduceLeDiff, TP.mkTup, TP.mkLst, TP.fits_eq]
            rfl
    unfold l1__law_asked
    simp only [List.set_cons_zero, List.set_cons_succ]
    rw [ap_sKill, ap_sSeq, ap_sSet, ap_pP, ap_e2, hc _ rfl rfl rfl]
    simp only [TP.ap_sSeq, TP.ap_sNil, TP.ap_sSet, TP.ap_sIf, TP.ap_sKill, TP.ap_sAsg, TP.ap_sExpr, TP.ap_sOwnP, TP.ap_sRet, TP.ap_sAppend, TP.ap_sPop, TP.ap_sPar, TP.ap_sPut, TP.ap_sFor, TP.ap_sRetN, TP.ap_sBreak, TP.ap_sCont, TP.ap_eVar, TP.ap_eC, TP.ap_aNil, TP.ap_aCons, TP.ap_eCall, TP.ap_e2, TP.ap_e1, TP.ap_e2B, TP.ap_eB, TP.ap_eT, TP.ap_eNot, TP.ap_eAnd, TP.ap_eOr, TP.ap_eIf, TP.ap_cNot, TP.ap_cAnd, TP.ap_cOr, TP.ap_cYes, TP.ap_cChain, TP.ap_iSeq, TP.ap_iArgs, TP.ap_oNone, TP.ap_pP, TP.ap_pLb, TP.ap_pLr, TP.ap_tgName, TP.ap_pgName, TP.ap_tgTup, TP.ap_tgTupL, TP.ap_pgTup, TP.ap_tgNil, TP.ap_pgNil, TP.ap_tgCons, TP.ap_pgCons, TP.plain, TP.lent, TP.Slot.plain, TP.Slot.lent, TP.itemsD, TP.wipeP, TP.eSlice, TP.oSome, TP.truthB, TP.Out.ofO, id_eq, TP.kill, TP.ok_bind, TP.exc_bind, TP.fail_bind, TP.ofO_some, TP.ofO_none, List.map_cons, List.map_nil, List.set_cons_zero, List.set_cons_succ, List.getElem?_cons_zero, List.getElem?_cons_succ, List.getElem?_nil, List.length_cons, List.length_nil, List.cons_append, List.nil_append, List.replicate_succ, List.replicate_zero, Option.join, Option.bind_some, Option.bind, Option.map_some, Option.map_none, Nat.reduceSub, Nat.reduceAdd, Nat.add_zero, Nat.zero_add, List.append_nil, if_true, if_false, Bool.false_eq_true, Bool.not_true, Bool.not_false, reduceIte, decide_true, decide_false, Nat.reduceLeDiff, TP.mkTup, TP.mkLst, TP.fits_eq, add_lst ((p.flatMap (pairsF R)).map enPM) ((pairsF R a).map enPM) (by rw [List.length_map, List.length_map]; omega)]
    rw [List.flatMap_append, List.map_append, List.flatMap_cons, List.flatMap_nil, List.append_nil])
  rw [List.nil_append] at lp
  exact lp
theorem asked_ok {cs : List Int} (h : Cells cs) (at' : Int) {L : Lot} (hL : LotS L 8 5 3) (most : Nat) (hm : most ≤ 1000) : g__law_asked [.lst (cs.map .int), .int at', enL L, .int most] = .ok (.bl true) := by
  have hR : (membersR L).length ≤ 200 := by
    have h1 := membersR_len hL.sess
    have h2 := hL.lots
    have h3 : L.length * (5 * 5) ≤ 8 * (5 * 5) := Nat.mul_le_mul h2 (Nat.le_refl _)
    omega
  have hmem := law_members_ok hL (by decide) (by decide)
  have hmof := members_of_ok hL (by decide) (by decide)
  have hin : ∀ p ∈ (membersR L).flatMap (pairsF (membersR L)), p.1 ∈ membersR L ∧ p.2 ∈ membersR L := fun p hp => by
    rw [List.mem_flatMap] at hp
    obtain ⟨a, ha, hp⟩ := hp
    unfold pairsF at hp
    obtain ⟨b, hb, rfl⟩ := List.mem_map.mp hp
    exact ⟨ha, (List.mem_filter.mp hb).1⟩
  have hw : wt (.tup ((membersR L).map enM)) ≤ 100000 := by
    have := wts_map wt_M (membersR L)
    rw [wt_tup]
    omega
  have hs := same_ok (.tup ((membersR L).map enM)) (by rw [ik_tup]; exact keys_M _) hw
  have lp := pairs_loop (.val (.lst (cs.map .int))) (.val (.int at')) (.val (enL L)) (.val (.int (most : Nat))) (membersR L) hR .un .un .un
  have hpl := pairs_len (membersR L) (membersR L)
  have hpl2 : (membersR L).length * (membersR L).length ≤ 200 * 200 := Nat.mul_le_mul hR hR
  generalize hP : (membersR L).flatMap (pairsF (membersR L)) = P at *
  obtain ⟨r, r1, r2⟩ := pick_ok h at' 997 (by decide)
  have hmin : minD [.int (most : Nat), .int (P.length : Nat)] = .ok (.int (min most P.length : Nat)) := by
    rw [min2]
    congr 2
    omega
  have lp2 := loop_upto (t := tgName 8) (b := l2__law_asked) (min most P.length) (fun _ => [.val (.lst (cs.map .int)), .val (.int at'), .val (enL L), .val (.int (most : Nat)), .val (.lst ((membersR L).map enM)), .val (.lst (P.map enPM)), .un, .val (.int (r : Nat)), .un, .un]) (fun k hk => by
    have hp : (0 : Int) < (P.length : Int) := by omega
    have q0 := Int.emod_nonneg ((r : Int) + (0 + (k : Int))) (show (P.length : Int) ≠ 0 by omega)
    have q1 := Int.emod_lt_of_pos ((r : Int) + (0 + (k : Int))) hp
    obtain ⟨j, hj⟩ : ∃ j : Nat, ((r : Int) + (0 + (k : Int))) % P.length = (j : Nat) := ⟨_, (Int.toNat_of_nonneg q0).symm⟩
    obtain ⟨p, p1, _, p2⟩ := getX_lt enPM P j (by omega)
    obtain ⟨m1, m2⟩ := hin p p1
    refine ⟨_, rfl, .inl ?_⟩
    unfold l2__law_asked
    have pe : enPM p = .tup [enM p.1, enM p.2] := rfl
    simp only [TP.ap_sSeq, TP.ap_sNil, TP.ap_sSet, TP.ap_sIf, TP.ap_sKill, TP.ap_sAsg, TP.ap_sExpr, TP.ap_sOwnP, TP.ap_sRet, TP.ap_sAppend, TP.ap_sPop, TP.ap_sPar, TP.ap_sPut, TP.ap_sFor, TP.ap_sRetN, TP.ap_sBreak, TP.ap_sCont, TP.ap_eVar, TP.ap_eC, TP.ap_aNil, TP.ap_aCons, TP.ap_eCall, TP.ap_e2, TP.ap_e1, TP.ap_e2B, TP.ap_eB, TP.ap_eT, TP.ap_eNot, TP.ap_eAnd, TP.ap_eOr, TP.ap_eIf, TP.ap_cNot, TP.ap_cAnd, TP.ap_cOr, TP.ap_cYes, TP.ap_cChain, TP.ap_iSeq, TP.ap_iArgs, TP.ap_oNone, TP.ap_pP, TP.ap_pLb, TP.ap_pLr, TP.ap_tgName, TP.ap_pgName, TP.ap_tgTup, TP.ap_tgTupL, TP.ap_pgTup, TP.ap_tgNil, TP.ap_pgNil, TP.ap_tgCons, TP.ap_pgCons, TP.plain, TP.lent, TP.Slot.plain, TP.Slot.lent, TP.itemsD, TP.wipeP, TP.eSlice, TP.oSome, TP.truthB, TP.Out.ofO, id_eq, TP.kill, TP.ok_bind, TP.exc_bind, TP.fail_bind, TP.ofO_some, TP.ofO_none, List.map_cons, List.map_nil, List.set_cons_zero, List.set_cons_succ, List.getElem?_cons_zero, List.getElem?_cons_succ, List.getElem?_nil, List.length_cons, List.length_nil, List.cons_append, List.nil_append, List.replicate_succ, List.replicate_zero, Option.join, Option.bind_some, Option.bind, Option.map_some, Option.map_none, Nat.reduceSub, Nat.reduceAdd, Nat.add_zero, Nat.zero_add, List.append_nil, if_true, if_false, Bool.false_eq_true, Bool.not_true, Bool.not_false, reduceIte, decide_true, decide_false, Nat.reduceLeDiff, TP.mkTup, TP.mkLst, TP.fits_eq, add_ok, int_ok, lenL, mod_ok hp, hj, p2, pe, cut_words_ok hL (by decide) m1 m2, words_ok m1 m2, same_ok _ (words_key _ _) (words_wt _ _)])
  unfold g__law_asked b__law_asked
  simp only [TP.sem_fin, TP.fin_ret, TP.fin_ret1, TP.fin_set, TP.fin_ownP, TP.fin_par, TP.fin_kill, TP.fin_if, TP.fin_if1, TP.fin_asg, TP.fin_expr, TP.fin_for, TP.fin_loop_nil, TP.fin_sNil, TP.seq_seq, TP.seq_nil, TP.startE, TP.ap_eVar, TP.ap_eC, TP.ap_aNil, TP.ap_aCons, TP.ap_eCall, TP.ap_e2, TP.ap_e1, TP.ap_e2B, TP.ap_eB, TP.ap_eT, TP.ap_eNot, TP.ap_eAnd, TP.ap_eOr, TP.ap_eIf, TP.ap_cNot, TP.ap_cAnd, TP.ap_cOr, TP.ap_cYes, TP.ap_cChain, TP.ap_iSeq, TP.ap_iArgs, TP.ap_oNone, TP.ap_pP, TP.ap_pLb, TP.ap_pLr, TP.ap_tgName, TP.ap_pgName, TP.ap_tgTup, TP.ap_tgTupL, TP.ap_pgTup, TP.ap_tgNil, TP.ap_pgNil, TP.ap_tgCons, TP.ap_pgCons, TP.plain, TP.lent, TP.Slot.plain, TP.Slot.lent, TP.itemsD, TP.wipeP, TP.eSlice, TP.oSome, TP.truthB, TP.Out.ofO, id_eq, TP.kill, TP.ok_bind, TP.exc_bind, TP.fail_bind, TP.ofO_some, TP.ofO_none, List.map_cons, List.map_nil, List.set_cons_zero, List.set_cons_succ, List.getElem?_cons_zero, List.getElem?_cons_succ, List.getElem?_nil, List.length_cons, List.length_nil, List.cons_append, List.nil_append, List.replicate_succ, List.replicate_zero, Option.join, Option.bind_some, Option.bind, Option.map_some, Option.map_none, Nat.reduceSub, Nat.reduceAdd, Nat.add_zero, Nat.zero_add, List.append_nil, if_true, if_false, Bool.false_eq_true, Bool.not_true, Bool.not_false, reduceIte, decide_true, decide_false, Nat.reduceLeDiff, TP.mkTup, TP.mkLst, TP.fits_eq, hmem, hmof, tup_lst, hs]
  rw [fin_loop lp]
  simp only [TP.sem_fin, TP.fin_ret, TP.fin_ret1, TP.fin_set, TP.fin_ownP, TP.fin_par, TP.fin_kill, TP.fin_if, TP.fin_if1, TP.fin_asg, TP.fin_expr, TP.fin_for, TP.fin_loop_nil, TP.fin_sNil, TP.seq_seq, TP.seq_nil, TP.startE, TP.ap_eVar, TP.ap_eC, TP.ap_aNil, TP.ap_aCons, TP.ap_eCall, TP.ap_e2, TP.ap_e1, TP.ap_e2B, TP.ap_eB, TP.ap_eT, TP.ap_eNot, TP.ap_eAnd, TP.ap_eOr, TP.ap_eIf, TP.ap_cNot, TP.ap_cAnd, TP.ap_cOr, TP.ap_cYes, TP.ap_cChain, TP.ap_iSeq, TP.ap_iArgs, TP.ap_oNone, TP.ap_pP, TP.ap_pLb, TP.ap_pLr, TP.ap_tgName, TP.ap_pgName, TP.ap_tgTup, TP.ap_tgTupL, TP.ap_pgTup, TP.ap_tgNil, TP.ap_pgNil, TP.ap_tgCons, TP.ap_pgCons, TP.plain, TP.lent, TP.Slot.plain, TP.Slot.lent, TP.itemsD, TP.wipeP, TP.eSlice, TP.oSome, TP.truthB, TP.Out.ofO, id_eq, TP.kill, TP.ok_bind, TP.exc_bind, TP.fail_bind, TP.ofO_some, TP.ofO_none, List.map_cons, List.map_nil, List.set_cons_zero, List.set_cons_succ, List.getElem?_cons_zero, List.getElem?_cons_succ, List.getElem?_nil, List.length_cons, List.length_nil, List.cons_append, List.nil_append, List.replicate_succ, List.replicate_zero, Option.join, Option.bind_some, Option.bind, Option.map_some, Option.map_none, Nat.reduceSub, Nat.reduceAdd, Nat.add_zero, Nat.zero_add, List.append_nil, if_true, if_false, Bool.false_eq_true, Bool.not_true, Bool.not_false, reduceIte, decide_true, decide_false, Nat.reduceLeDiff, TP.mkTup, TP.mkLst, TP.fits_eq, r2, lenL, hmin, rd1 (min most P.length) (by omega)]
  rw [fin_loop lp2]
  simp only [TP.sem_fin, TP.fin_ret, TP.fin_ret1, TP.fin_set, TP.fin_ownP, TP.fin_par, TP.fin_kill, TP.fin_if, TP.fin_if1, TP.fin_asg, TP.fin_expr, TP.fin_for, TP.fin_loop_nil, TP.fin_sNil, TP.seq_seq, TP.seq_nil, TP.startE, TP.ap_eVar, TP.ap_eC, TP.ap_aNil, TP.ap_aCons, TP.ap_eCall, TP.ap_e2, TP.ap_e1, TP.ap_e2B, TP.ap_eB, TP.ap_eT, TP.ap_eNot, TP.ap_eAnd, TP.ap_eOr, TP.ap_eIf, TP.ap_cNot, TP.ap_cAnd, TP.ap_cOr, TP.ap_cYes, TP.ap_cChain, TP.ap_iSeq, TP.ap_iArgs, TP.ap_oNone, TP.ap_pP, TP.ap_pLb, TP.ap_pLr, TP.ap_tgName, TP.ap_pgName, TP.ap_tgTup, TP.ap_tgTupL, TP.ap_pgTup, TP.ap_tgNil, TP.ap_pgNil, TP.ap_tgCons, TP.ap_pgCons, TP.plain, TP.lent, TP.Slot.plain, TP.Slot.lent, TP.itemsD, TP.wipeP, TP.eSlice, TP.oSome, TP.truthB, TP.Out.ofO, id_eq, TP.kill, TP.ok_bind, TP.exc_bind, TP.fail_bind, TP.ofO_some, TP.ofO_none, List.map_cons, List.map_nil, List.set_cons_zero, List.set_cons_succ, List.getElem?_cons_zero, List.getElem?_cons_succ, List.getElem?_nil, List.length_cons, List.length_nil, List.cons_append, List.nil_append, List.replicate_succ, List.replicate_zero, Option.join, Option.bind_some, Option.bind, Option.map_some, Option.map_none, Nat.reduceSub, Nat.reduceAdd, Nat.add_zero, Nat.zero_add, List.append_nil, if_true, if_false, Bool.false_eq_true, Bool.not_true, Bool.not_false, reduceIte, decide_true, decide_false, Nat.reduceLeDiff, TP.mkTup, TP.mkLst, TP.fits_eq]
end K20

end
set_option Elab.async false
set_option linter.all false
set_option maxRecDepth 100000
noncomputable section
namespace K20
open PySem L2 TP
abbrev T1 := Deal × List Str × List Str
def enT1 (e : T1) : TP.D := .tup [enT e.1, .tup (e.2.1.map .str), .tup (e.2.2.map .str)]
section
variable (a b c d row other : Str)
def rawH : Deal := [("read", a, row), ("read", d, row), ("write", b, row), ("add", c, row)]
def toldH : List T1 := [([("write", a, row)], ["past"], []), ([("write", b, row)], ["write"], ["write"]), (srt en3 [("write", a, row), ("write", b, row)], ["past", "write"], ["write"]),
  (srt en3 [("write", a, other), ("write", b, other), ("read", a, row), ("add", c, row)], [], []), ([("read", c, row)], [], ["past"]),
  (srt en3 [("read", b, row), ("write", b, row)], ["write"], ["past", "write"]), ([("add", d, row)], ["past"], [])]
def goodE (D : Deal) (e : T1) : Prop := e.1.length ≤ 4 ∧ wordsB (looksB D e.1) (bothB D e.1) = e.2.1 ∧ wordsB (looksB e.1 D) (bothB e.1 D) = e.2.2
theorem toldH_good (hab : a ≠ b) (hac : a ≠ c) (had : a ≠ d) (hbc : b ≠ c) (hbd : b ≠ d) (hcd : c ≠ d) (hro : row ≠ other) : ∀ e ∈ toldH a b c d row other, goodE (srt en3 (rawH a b c d row)) e := by
  intro e he
  simp only [toldH, List.mem_cons, List.not_mem_nil, or_false] at he
  rcases he with rfl | rfl | rfl | rfl | rfl | rfl | rfl <;> refine ⟨by simp [srt_len], ?_, ?_⟩ <;>
    simp [srt_mem, looksB_srt, looksB_srt', bothB_srt, bothB_srt', looksB, bothB, rawH, wordsB, n_rw, n_wr, n_ra, n_ar, n_wa, n_aw, hab, hac, had, hbc, hbd, hcd, hro, hab.symm, hac.symm, had.symm, hbc.symm, hbd.symm, hcd.symm, hro.symm]
theorem other_none (hro : row ≠ other) : wordsB (looksB (srt en3 (rawH a b c d row)) [("read", d, other)]) (bothB (srt en3 (rawH a b c d row)) [("read", d, other)]) = [] := by
  simp [looksB_srt, bothB_srt, looksB, bothB, rawH, wordsB, n_rw, n_wr, n_ra, n_ar, n_wa, n_aw, hro, hro.symm]
end
def lotH (D x one : Deal) : Lot := [[D], [x, one]]
theorem m000 (D x one : Deal) : ((0, 0, 0) : M3) ∈ membersR (lotH D x one) := mem_membersR.mpr (by simp [lotH])
theorem m111 (D x one : Deal) : ((1, 1, 1) : M3) ∈ membersR (lotH D x one) := mem_membersR.mpr (by simp [lotH])
theorem m101 (D x one : Deal) : ((1, 0, 1) : M3) ∈ membersR (lotH D x one) := mem_membersR.mpr (by simp [lotH])
theorem lotH_s {D x one : Deal} (h1 : D.length ≤ 4) (h2 : x.length ≤ 4) (h3 : one.length ≤ 4) : LotS (lotH D x one) 8 5 4 where
  lots := by simp [lotH]
  sess := by intro s hs; simp [lotH] at hs; rcases hs with rfl | rfl <;> simp
  deals := by intro s hs d hd; simp [lotH] at hs; rcases hs with rfl | rfl <;> simp at hd <;> (first | (rcases hd with rfl | rfl <;> assumption) | (subst hd; assumption))
theorem kw102 (g : List TP.D → Out TP.D) (x y z : TP.D) : kwD 0 3 [1, 0, 2] g [] [x, y, z] = g [y, x, z] := rfl
theorem kw0 (g : List TP.D → Out TP.D) (x : TP.D) : kwD 0 1 [0] g [] [x] = g [x] := rfl
theorem strs_key (l : List Str) : (D.tup (l.map .str)).isKey = true := by rw [ik_tup]; exact encA_keys encA_str l
theorem same_words (p w : Bool) (l : List Str) (e : wordsB p w = l) : g__law_same [.tup ((wordsB p w).map .str), .tup (l.map .str)] = .ok (.bl true) := by
  subst e
  exact same_ok _ (words_key p w) (words_wt p w)
theorem hand_turn (Dl : Deal) (hD : Dl.length ≤ 4) (told : List T1) (c0 c4 c5 c6 c7 c8 c10 s12 : Slot) (d other : Str) (hn : wordsB (looksB Dl [("read", d, other)]) (bothB Dl [("read", d, other)]) = []) (k : Nat) (e : T1) (he : told[k]? = some e) (hg : goodE Dl e) :
    l1__law_hand [c0, .val (enT Dl), .val (.lst (told.map enT1)), .val (.int (0 + (k : Nat))), c4, c5, c6, c7, c8, .val (.str d), c10, .val (.str other), s12, .un, .un, .un] =
      .nx [c0, .val (enT Dl), .val (.lst (told.map enT1)), .un, c4, c5, c6, c7, c8, .val (.str d), c10, .val (.str other), .val (enL (lotH Dl [("read", d, other)] e.1)), .un, .un, .un] := by
  obtain ⟨g1, g2, g3⟩ := hg
  have hS := lotH_s (D := Dl) (x := [("read", d, other)]) (one := e.1) hD (by simp) g1
  have gx : getX (.lst (told.map enT1)) (.int (0 + (k : Nat))) = .ok (.tup [enT e.1, .tup (e.2.1.map .str), .tup (e.2.2.map .str)]) := by rw [Int.zero_add]; exact getX_lstM he
  have w1 := cut_words_ok hS (by decide) (m000 Dl [("read", d, other)] e.1) (m111 Dl [("read", d, other)] e.1)
  have w2 := cut_words_ok hS (by decide) (m111 Dl [("read", d, other)] e.1) (m000 Dl [("read", d, other)] e.1)
  have w3 := cut_words_ok hS (by decide) (m101 Dl [("read", d, other)] e.1) (m000 Dl [("read", d, other)] e.1)
  have w4 := cut_words_ok hS (by decide) (m000 Dl [("read", d, other)] e.1) (m101 Dl [("read", d, other)] e.1)
  have w1' : g_cut_words [enL (lotH Dl [("read", d, other)] e.1), .tup [.int 0, .int 0, .int 0], .tup [.int 1, .int 1, .int 1]] = .ok (.tup ((wordsB (looksB Dl e.1) (bothB Dl e.1)).map .str)) := w1
  have w2' : g_cut_words [enL (lotH Dl [("read", d, other)] e.1), .tup [.int 1, .int 1, .int 1], .tup [.int 0, .int 0, .int 0]] = .ok (.tup ((wordsB (looksB e.1 Dl) (bothB e.1 Dl)).map .str)) := w2
  have w3' : g_cut_words [enL (lotH Dl [("read", d, other)] e.1), .tup [.int 1, .int 0, .int 1], .tup [.int 0, .int 0, .int 0]] = .ok (.tup ((wordsB (looksB e.1 Dl) (bothB e.1 Dl)).map .str)) := w3
  have w4' : g_cut_words [enL (lotH Dl [("read", d, other)] e.1), .tup [.int 0, .int 0, .int 0], .tup [.int 1, .int 0, .int 1]] = .ok (.tup ((wordsB (looksB Dl [("read", d, other)]) (bothB Dl [("read", d, other)])).map .str)) := w4
  have eL : D.tup [.tup [enT Dl], .tup [.tup [.tup [.str "read", .str d, .str other]], enT e.1]] = enL (lotH Dl [("read", d, other)] e.1) := rfl
  have s4 : g__law_same [.tup ((wordsB (looksB Dl [("read", d, other)]) (bothB Dl [("read", d, other)])).map .str), .tup []] = .ok (.bl true) := same_words _ _ [] hn
  unfold l1__law_hand
  simp only [TP.ap_sSeq, TP.ap_sNil, TP.ap_sSet, TP.ap_sIf, TP.ap_sKill, TP.ap_sAsg, TP.ap_sExpr, TP.ap_sOwnP, TP.ap_sRet, TP.ap_sAppend, TP.ap_sPop, TP.ap_sPar, TP.ap_sPut, TP.ap_sFor, TP.ap_sRetN, TP.ap_sBreak, TP.ap_sCont, TP.ap_eVar, TP.ap_eC, TP.ap_aNil, TP.ap_aCons, TP.ap_eCall, TP.ap_e2, TP.ap_e1, TP.ap_e2B, TP.ap_eB, TP.ap_eT, TP.ap_eNot, TP.ap_eAnd, TP.ap_eOr, TP.ap_eIf, TP.ap_cNot, TP.ap_cAnd, TP.ap_cOr, TP.ap_cYes, TP.ap_cChain, TP.ap_iSeq, TP.ap_iArgs, TP.ap_oNone, TP.ap_pP, TP.ap_pLb, TP.ap_pLr, TP.ap_tgName, TP.ap_pgName, TP.ap_tgTup, TP.ap_tgTupL, TP.ap_pgTup, TP.ap_tgNil, TP.ap_pgNil, TP.ap_tgCons, TP.ap_pgCons, TP.plain, TP.lent, TP.Slot.plain, TP.Slot.lent, TP.itemsD, TP.wipeP, TP.eSlice, TP.oSome, TP.truthB, TP.Out.ofO, id_eq, TP.kill, TP.ok_bind, TP.exc_bind, TP.fail_bind, TP.ofO_some, TP.ofO_none, List.map_cons, List.map_nil, List.set_cons_zero, List.set_cons_succ, List.getElem?_cons_zero, List.getElem?_cons_succ, List.getElem?_nil, List.length_cons, List.length_nil, List.cons_append, List.nil_append, List.replicate_succ, List.replicate_zero, Option.join, Option.bind_some, Option.bind, Option.map_some, Option.map_none, Nat.reduceSub, Nat.reduceAdd, Nat.add_zero, Nat.zero_add, List.append_nil, if_true, if_false, Bool.false_eq_true, Bool.not_true, Bool.not_false, reduceIte, decide_true, decide_false, Nat.reduceLeDiff, TP.mkTup, TP.mkLst, TP.fits_eq, gx]
  simp only [eL]
  simp only [TP.ap_sSeq, TP.ap_sNil, TP.ap_sSet, TP.ap_sIf, TP.ap_sKill, TP.ap_sAsg, TP.ap_sExpr, TP.ap_sOwnP, TP.ap_sRet, TP.ap_sAppend, TP.ap_sPop, TP.ap_sPar, TP.ap_sPut, TP.ap_sFor, TP.ap_sRetN, TP.ap_sBreak, TP.ap_sCont, TP.ap_eVar, TP.ap_eC, TP.ap_aNil, TP.ap_aCons, TP.ap_eCall, TP.ap_e2, TP.ap_e1, TP.ap_e2B, TP.ap_eB, TP.ap_eT, TP.ap_eNot, TP.ap_eAnd, TP.ap_eOr, TP.ap_eIf, TP.ap_cNot, TP.ap_cAnd, TP.ap_cOr, TP.ap_cYes, TP.ap_cChain, TP.ap_iSeq, TP.ap_iArgs, TP.ap_oNone, TP.ap_pP, TP.ap_pLb, TP.ap_pLr, TP.ap_tgName, TP.ap_pgName, TP.ap_tgTup, TP.ap_tgTupL, TP.ap_pgTup, TP.ap_tgNil, TP.ap_pgNil, TP.ap_tgCons, TP.ap_pgCons, TP.plain, TP.lent, TP.Slot.plain, TP.Slot.lent, TP.itemsD, TP.wipeP, TP.eSlice, TP.oSome, TP.truthB, TP.Out.ofO, id_eq, TP.kill, TP.ok_bind, TP.exc_bind, TP.fail_bind, TP.ofO_some, TP.ofO_none, List.map_cons, List.map_nil, List.set_cons_zero, List.set_cons_succ, List.getElem?_cons_zero, List.getElem?_cons_succ, List.getElem?_nil, List.length_cons, List.length_nil, List.cons_append, List.nil_append, List.replicate_succ, List.replicate_zero, Option.join, Option.bind_some, Option.bind, Option.map_some, Option.map_none, Nat.reduceSub, Nat.reduceAdd, Nat.add_zero, Nat.zero_add, List.append_nil, if_true, if_false, Bool.false_eq_true, Bool.not_true, Bool.not_false, reduceIte, decide_true, decide_false, Nat.reduceLeDiff, TP.mkTup, TP.mkLst, TP.fits_eq, ap_eCallK, kw102, w1', w2', w3', w4', same_words _ _ _ g2, same_words _ _ _ g3, s4]
end K20

end
set_option Elab.async false
set_option linter.all false
set_option maxRecDepth 100000
noncomputable section
namespace K20
open PySem L2 TP
theorem add32 (x1 x2 x3 x4 x5 : TP.D) : addD (.lst [x1, x2, x3]) (.lst [x4, x5]) = .ok (.lst [x1, x2, x3, x4, x5]) := add_lst _ _ (by simp only [List.length_cons, List.length_nil]; decide)
theorem add52 (x1 x2 x3 x4 x5 x6 x7 : TP.D) : addD (.lst [x1, x2, x3, x4, x5]) (.lst [x6, x7]) = .ok (.lst [x1, x2, x3, x4, x5, x6, x7]) := add_lst _ _ (by simp only [List.length_cons, List.length_nil]; decide)
theorem cols4 {cols : List Str} (h : ColsA cols) : ∃ a b c d, cols = [a, b, c, d] ∧ a ≠ b ∧ a ≠ c ∧ a ≠ d ∧ b ≠ c ∧ b ≠ d ∧ c ≠ d := by
  have hl := h.1
  match cols, hl, h with
  | [a, b, c, d], _, h =>
    exact ⟨a, b, c, d, rfl, h.ne (i := 0) (j := 1) (by decide) rfl rfl, h.ne (i := 0) (j := 2) (by decide) rfl rfl, h.ne (i := 0) (j := 3) (by decide) rfl rfl, h.ne (i := 1) (j := 2) (by decide) rfl rfl, h.ne (i := 1) (j := 3) (by decide) rfl rfl, h.ne (i := 2) (j := 3) (by decide) rfl rfl⟩
theorem rows3 {rows : List Str} (h : RowsA rows) : ∃ r o z, rows = [r, o, z] ∧ r ≠ o := by
  obtain ⟨h1, h2⟩ := h.nd
  match rows, h2, h1 with
  | [r, o, z], _, h1 =>
    refine ⟨r, o, z, rfl, ?_⟩
    rw [List.nodup_cons] at h1
    exact fun e => h1.1 (by simp [e])
theorem hand_ok {cs : List Int} (h : Cells cs) : g__law_hand [.lst (cs.map .int)] = .ok (.bl true) := by
  obtain ⟨cols, rows, hc, hr, en⟩ := names_ok h 3
  obtain ⟨a, b, c, d, rfl, hab, hac, had, hbc, hbd, hcd⟩ := cols4 hc
  obtain ⟨row, other, z, rfl, hro⟩ := rows3 hr
  have good := toldH_good a b c d row other hab hac had hbc hbd hcd hro
  have nono := other_none a b c d row other hro
  have hDl : (srt en3 (rawH a b c d row)).length ≤ 4 := by rw [srt_len]; exact Nat.le_refl _
  have q0 : sortedD [.lst [.tup [.str "read", .str a, .str row], .tup [.str "read", .str d, .str row], .tup [.str "write", .str b, .str row], .tup [.str "add", .str c, .str row]]] = .ok (.lst ((srt en3 (rawH a b c d row)).map en3)) := sorted_enc enc3 (rawH a b c d row) (by show (4 : Nat) ≤ _; decide)
  have q3 : sortedD [.lst [.tup [.str "write", .str a, .str row], .tup [.str "write", .str b, .str row]]] = .ok (.lst ((srt en3 [("write", a, row), ("write", b, row)]).map en3)) := sorted_enc enc3 [("write", a, row), ("write", b, row)] (by show (2 : Nat) ≤ _; decide)
  have q4 : sortedD [.lst [.tup [.str "write", .str a, .str other], .tup [.str "write", .str b, .str other], .tup [.str "read", .str a, .str row], .tup [.str "add", .str c, .str row]]] = .ok (.lst ((srt en3 [("write", a, other), ("write", b, other), ("read", a, row), ("add", c, row)]).map en3)) := sorted_enc enc3 [("write", a, other), ("write", b, other), ("read", a, row), ("add", c, row)] (by show (4 : Nat) ≤ _; decide)
  have q6 : sortedD [.lst [.tup [.str "read", .str b, .str row], .tup [.str "write", .str b, .str row]]] = .ok (.lst ((srt en3 [("read", b, row), ("write", b, row)]).map en3)) := sorted_enc enc3 [("read", b, row), ("write", b, row)] (by show (2 : Nat) ≤ _; decide)
  have sl2 : sliceD none (some 2) (.lst [.str row, .str other, .str z]) = .ok (.lst [.str row, .str other]) := rfl
  obtain ⟨ρ', e, q⟩ := loop_inv (t := tgName 3) (b := l1__law_hand) (fun i ρ => i ≤ 7 ∧ ∃ s12, (0 < i → ∃ one : Deal, one.length ≤ 4 ∧ s12 = .val (enL (lotH (srt en3 (rawH a b c d row)) [("read", d, other)] one))) ∧ ρ = [.val (.lst (cs.map .int)), .val (enT (srt en3 (rawH a b c d row))), .val (.lst ((toldH a b c d row other).map enT1)), .un, .val (.lst [.str a, .str b, .str c, .str d]), .val (.lst [.str row, .str other, .str z]), .val (.str a), .val (.str b), .val (.str c), .val (.str d), .val (.str row), .val (.str other), s12, .un, .un, .un]) (rangeL 0 7) 0
    [.val (.lst (cs.map .int)), .val (enT (srt en3 (rawH a b c d row))), .val (.lst ((toldH a b c d row other).map enT1)), .un, .val (.lst [.str a, .str b, .str c, .str d]), .val (.lst [.str row, .str other, .str z]), .val (.str a), .val (.str b), .val (.str c), .val (.str d), .val (.str row), .val (.str other), .un, .un, .un, .un] ⟨by omega, .un, (fun h => absurd h (by decide)), rfl⟩ (by
    rintro j x ρ hj ⟨hi, s12, _, rfl⟩
    obtain ⟨hj1, rfl⟩ := rangeL_get _ _ _ _ hj
    have hlen : (toldH a b c d row other).length = 7 := rfl
    have he : (toldH a b c d row other)[j]? = some (toldH a b c d row other)[j] := List.getElem?_eq_getElem (by omega)
    have hg := good _ (List.getElem_mem (by omega : j < (toldH a b c d row other).length))
    have t := hand_turn (srt en3 (rawH a b c d row)) hDl (toldH a b c d row other) (.val (.lst (cs.map .int))) (.val (.lst [.str a, .str b, .str c, .str d])) (.val (.lst [.str row, .str other, .str z])) (.val (.str a)) (.val (.str b)) (.val (.str c)) (.val (.str row)) s12 d other nono j _ he hg
    exact ⟨_, _, rfl, .inl t, by omega, _, fun _ => ⟨_, hg.1, rfl⟩, rfl⟩)
  obtain ⟨_, s12, hs, rfl⟩ := q
  obtain ⟨one, ho, rfl⟩ := hs (by decide)
  have hS := lotH_s (D := srt en3 (rawH a b c d row)) (x := [("read", d, other)]) (one := one) hDl (by simp) ho
  have mo := members_of_ok hS (by decide) (by decide)
  have mo' : g_members_of [enL (lotH (srt en3 (rawH a b c d row)) [("read", d, other)] one)] = .ok (.tup [.tup [.int 0, .int 0, .int 0], .tup [.int 1, .int 0, .int 0], .tup [.int 1, .int 0, .int 1], .tup [.int 1, .int 1, .int 1]]) := mo
  have sm : g__law_same [.tup [.tup [.int 0, .int 0, .int 0], .tup [.int 1, .int 0, .int 0], .tup [.int 1, .int 0, .int 1], .tup [.int 1, .int 1, .int 1]], .tup [.tup [.int 0, .int 0, .int 0], .tup [.int 1, .int 0, .int 0], .tup [.int 1, .int 0, .int 1], .tup [.int 1, .int 1, .int 1]]] = .ok (.bl true) := same_ok _ rfl (by simp [wt, wts])
  have eT : ([D.tup [D.tup [D.tup [.str "write", .str a, .str row]], D.tup [.str "past"], D.tup []], D.tup [D.tup [D.tup [.str "write", .str b, .str row]], D.tup [.str "write"], D.tup [.str "write"]], D.tup [D.tup ((srt en3 [("write", a, row), ("write", b, row)]).map en3), D.tup [.str "past", .str "write"], D.tup [.str "write"]],
      D.tup [D.tup ((srt en3 [("write", a, other), ("write", b, other), ("read", a, row), ("add", c, row)]).map en3), D.tup [], D.tup []], D.tup [D.tup [D.tup [.str "read", .str c, .str row]], D.tup [], D.tup [.str "past"]],
      D.tup [D.tup ((srt en3 [("read", b, row), ("write", b, row)]).map en3), D.tup [.str "write"], D.tup [.str "past", .str "write"]], D.tup [D.tup [D.tup [.str "add", .str d, .str row]], D.tup [.str "past"], D.tup []]] : List TP.D) = (toldH a b c d row other).map enT1 := rfl
  have l7 : lenD [.lst ((toldH a b c d row other).map enT1)] = .ok (.int (7 : Nat)) := rfl
  unfold g__law_hand b__law_hand
  simp only [TP.sem_fin, TP.fin_ret, TP.fin_ret1, TP.fin_set, TP.fin_ownP, TP.fin_par, TP.fin_kill, TP.fin_if, TP.fin_if1, TP.fin_asg, TP.fin_expr, TP.fin_for, TP.fin_loop_nil, TP.fin_sNil, TP.seq_seq, TP.seq_nil, TP.startE, TP.ap_eVar, TP.ap_eC, TP.ap_aNil, TP.ap_aCons, TP.ap_eCall, TP.ap_e2, TP.ap_e1, TP.ap_e2B, TP.ap_eB, TP.ap_eT, TP.ap_eNot, TP.ap_eAnd, TP.ap_eOr, TP.ap_eIf, TP.ap_cNot, TP.ap_cAnd, TP.ap_cOr, TP.ap_cYes, TP.ap_cChain, TP.ap_iSeq, TP.ap_iArgs, TP.ap_oNone, TP.ap_pP, TP.ap_pLb, TP.ap_pLr, TP.ap_tgName, TP.ap_pgName, TP.ap_tgTup, TP.ap_tgTupL, TP.ap_pgTup, TP.ap_tgNil, TP.ap_pgNil, TP.ap_tgCons, TP.ap_pgCons, TP.plain, TP.lent, TP.Slot.plain, TP.Slot.lent, TP.itemsD, TP.wipeP, TP.eSlice, TP.oSome, TP.truthB, TP.Out.ofO, id_eq, TP.kill, TP.ok_bind, TP.exc_bind, TP.fail_bind, TP.ofO_some, TP.ofO_none, List.map_cons, List.map_nil, List.set_cons_zero, List.set_cons_succ, List.getElem?_cons_zero, List.getElem?_cons_succ, List.getElem?_nil, List.length_cons, List.length_nil, List.cons_append, List.nil_append, List.replicate_succ, List.replicate_zero, Option.join, Option.bind_some, Option.bind, Option.map_some, Option.map_none, Nat.reduceSub, Nat.reduceAdd, Nat.add_zero, Nat.zero_add, List.append_nil, if_true, if_false, Bool.false_eq_true, Bool.not_true, Bool.not_false, reduceIte, decide_true, decide_false, Nat.reduceLeDiff, TP.mkTup, TP.mkLst, TP.fits_eq, en, asInt, sl2, q0, q3, q4, q6, tup_lst, add32, add52]
  simp only [eT]
  simp only [TP.sem_fin, TP.fin_ret, TP.fin_ret1, TP.fin_set, TP.fin_ownP, TP.fin_par, TP.fin_kill, TP.fin_if, TP.fin_if1, TP.fin_asg, TP.fin_expr, TP.fin_for, TP.fin_loop_nil, TP.fin_sNil, TP.seq_seq, TP.seq_nil, TP.startE, TP.ap_eVar, TP.ap_eC, TP.ap_aNil, TP.ap_aCons, TP.ap_eCall, TP.ap_e2, TP.ap_e1, TP.ap_e2B, TP.ap_eB, TP.ap_eT, TP.ap_eNot, TP.ap_eAnd, TP.ap_eOr, TP.ap_eIf, TP.ap_cNot, TP.ap_cAnd, TP.ap_cOr, TP.ap_cYes, TP.ap_cChain, TP.ap_iSeq, TP.ap_iArgs, TP.ap_oNone, TP.ap_pP, TP.ap_pLb, TP.ap_pLr, TP.ap_tgName, TP.ap_pgName, TP.ap_tgTup, TP.ap_tgTupL, TP.ap_pgTup, TP.ap_tgNil, TP.ap_pgNil, TP.ap_tgCons, TP.ap_pgCons, TP.plain, TP.lent, TP.Slot.plain, TP.Slot.lent, TP.itemsD, TP.wipeP, TP.eSlice, TP.oSome, TP.truthB, TP.Out.ofO, id_eq, TP.kill, TP.ok_bind, TP.exc_bind, TP.fail_bind, TP.ofO_some, TP.ofO_none, List.map_cons, List.map_nil, List.set_cons_zero, List.set_cons_succ, List.getElem?_cons_zero, List.getElem?_cons_succ, List.getElem?_nil, List.length_cons, List.length_nil, List.cons_append, List.nil_append, List.replicate_succ, List.replicate_zero, Option.join, Option.bind_some, Option.bind, Option.map_some, Option.map_none, Nat.reduceSub, Nat.reduceAdd, Nat.add_zero, Nat.zero_add, List.append_nil, if_true, if_false, Bool.false_eq_true, Bool.not_true, Bool.not_false, reduceIte, decide_true, decide_false, Nat.reduceLeDiff, TP.mkTup, TP.mkLst, TP.fits_eq, l7, rd1 7 (by decide)]
  rw [fin_loop e]
  simp only [TP.sem_fin, TP.fin_ret, TP.fin_ret1, TP.fin_set, TP.fin_ownP, TP.fin_par, TP.fin_kill, TP.fin_if, TP.fin_if1, TP.fin_asg, TP.fin_expr, TP.fin_for, TP.fin_loop_nil, TP.fin_sNil, TP.seq_seq, TP.seq_nil, TP.startE, TP.ap_eVar, TP.ap_eC, TP.ap_aNil, TP.ap_aCons, TP.ap_eCall, TP.ap_e2, TP.ap_e1, TP.ap_e2B, TP.ap_eB, TP.ap_eT, TP.ap_eNot, TP.ap_eAnd, TP.ap_eOr, TP.ap_eIf, TP.ap_cNot, TP.ap_cAnd, TP.ap_cOr, TP.ap_cYes, TP.ap_cChain, TP.ap_iSeq, TP.ap_iArgs, TP.ap_oNone, TP.ap_pP, TP.ap_pLb, TP.ap_pLr, TP.ap_tgName, TP.ap_pgName, TP.ap_tgTup, TP.ap_tgTupL, TP.ap_pgTup, TP.ap_tgNil, TP.ap_pgNil, TP.ap_tgCons, TP.ap_pgCons, TP.plain, TP.lent, TP.Slot.plain, TP.Slot.lent, TP.itemsD, TP.wipeP, TP.eSlice, TP.oSome, TP.truthB, TP.Out.ofO, id_eq, TP.kill, TP.ok_bind, TP.exc_bind, TP.fail_bind, TP.ofO_some, TP.ofO_none, List.map_cons, List.map_nil, List.set_cons_zero, List.set_cons_succ, List.getElem?_cons_zero, List.getElem?_cons_succ, List.getElem?_nil, List.length_cons, List.length_nil, List.cons_append, List.nil_append, List.replicate_succ, List.replicate_zero, Option.join, Option.bind_some, Option.bind, Option.map_some, Option.map_none, Nat.reduceSub, Nat.reduceAdd, Nat.add_zero, Nat.zero_add, List.append_nil, if_true, if_false, Bool.false_eq_true, Bool.not_true, Bool.not_false, reduceIte, decide_true, decide_false, Nat.reduceLeDiff, TP.mkTup, TP.mkLst, TP.fits_eq, ap_eCallK, kw0, mo', sm]
def shapesL : List (List Nat) := [[1, 1], [2, 1], [1, 1, 1], [3, 2], [2, 1, 2], [1, 2, 1, 1], [4], [1, 3]]
theorem shapesL_ok : ∀ s ∈ shapesL, s.length ≤ 8 ∧ ∀ k ∈ s, k ≤ 5 := by decide
theorem law_turn {cs : List Int} (h : Cells cs) (a0 : Slot) (k : Nat) : l1_law [a0, .val (.lst (cs.map .int)), .val (.int (0 + (k : Nat))), .un] = .nx [a0, .val (.lst (cs.map .int)), .un, .un] := by
  obtain ⟨r, r1, r2⟩ := pick_ok h (20 + (0 + (k : Int))) 8 (by decide)
  obtain ⟨sh, s1, _, s2⟩ := getX_ltT (fun s : List Nat => D.tup (s.map enI)) shapesL r (by have : shapesL.length = 8 := rfl; omega)
  obtain ⟨w, w1, w2⟩ := pick_ok h (26 + (0 + (k : Int))) 3 (by decide)
  obtain ⟨n, hn, hn0, hn3⟩ : ∃ n : Nat, (1 : Int) + (w : Int) = (n : Nat) ∧ 0 < n ∧ n ≤ 4 := ⟨1 + w, by omega, by omega, by omega⟩
  obtain ⟨o1, o2⟩ := shapesL_ok sh s1
  obtain ⟨L, steps, _, hA, hL⟩ := lot_ok h (30 + 90 * (0 + (k : Int))) sh (by omega) (fun x hx => by have := o2 x hx; omega) n hn0 hn3
  have ask := asked_ok h (23 + (0 + (k : Int))) (hA.s o1 o2) 60 (by decide)
  have ask' : g__law_asked [.lst (cs.map .int), .int (23 + (0 + (k : Int))), enL L, .int 60] = .ok (.bl true) := ask
  have eL : D.tup [.tup [.int 1, .int 1], .tup [.int 2, .int 1], .tup [.int 1, .int 1, .int 1], .tup [.int 3, .int 2], .tup [.int 2, .int 1, .int 2], .tup [.int 1, .int 2, .int 1, .int 1], .tup [.int 4], .tup [.int 1, .int 3]] = .tup (shapesL.map fun s : List Nat => D.tup (s.map enI)) := rfl
  unfold l1_law
  simp only [TP.ap_sSeq, TP.ap_sNil, TP.ap_sSet, TP.ap_sIf, TP.ap_sKill, TP.ap_sAsg, TP.ap_sExpr, TP.ap_sOwnP, TP.ap_sRet, TP.ap_sAppend, TP.ap_sPop, TP.ap_sPar, TP.ap_sPut, TP.ap_sFor, TP.ap_sRetN, TP.ap_sBreak, TP.ap_sCont, TP.ap_eVar, TP.ap_eC, TP.ap_aNil, TP.ap_aCons, TP.ap_eCall, TP.ap_e2, TP.ap_e1, TP.ap_e2B, TP.ap_eB, TP.ap_eT, TP.ap_eNot, TP.ap_eAnd, TP.ap_eOr, TP.ap_eIf, TP.ap_cNot, TP.ap_cAnd, TP.ap_cOr, TP.ap_cYes, TP.ap_cChain, TP.ap_iSeq, TP.ap_iArgs, TP.ap_oNone, TP.ap_pP, TP.ap_pLb, TP.ap_pLr, TP.ap_tgName, TP.ap_pgName, TP.ap_tgTup, TP.ap_tgTupL, TP.ap_pgTup, TP.ap_tgNil, TP.ap_pgNil, TP.ap_tgCons, TP.ap_pgCons, TP.plain, TP.lent, TP.Slot.plain, TP.Slot.lent, TP.itemsD, TP.wipeP, TP.eSlice, TP.oSome, TP.truthB, TP.Out.ofO, id_eq, TP.kill, TP.ok_bind, TP.exc_bind, TP.fail_bind, TP.ofO_some, TP.ofO_none, List.map_cons, List.map_nil, List.set_cons_zero, List.set_cons_succ, List.getElem?_cons_zero, List.getElem?_cons_succ, List.getElem?_nil, List.length_cons, List.length_nil, List.cons_append, List.nil_append, List.replicate_succ, List.replicate_zero, Option.join, Option.bind_some, Option.bind, Option.map_some, Option.map_none, Nat.reduceSub, Nat.reduceAdd, Nat.add_zero, Nat.zero_add, List.append_nil, if_true, if_false, Bool.false_eq_true, Bool.not_true, Bool.not_false, reduceIte, decide_true, decide_false, Nat.reduceLeDiff, TP.mkTup, TP.mkLst, TP.fits_eq, add_ok, r2]
  simp only [eL]
  simp only [TP.ap_sSeq, TP.ap_sNil, TP.ap_sSet, TP.ap_sIf, TP.ap_sKill, TP.ap_sAsg, TP.ap_sExpr, TP.ap_sOwnP, TP.ap_sRet, TP.ap_sAppend, TP.ap_sPop, TP.ap_sPar, TP.ap_sPut, TP.ap_sFor, TP.ap_sRetN, TP.ap_sBreak, TP.ap_sCont, TP.ap_eVar, TP.ap_eC, TP.ap_aNil, TP.ap_aCons, TP.ap_eCall, TP.ap_e2, TP.ap_e1, TP.ap_e2B, TP.ap_eB, TP.ap_eT, TP.ap_eNot, TP.ap_eAnd, TP.ap_eOr, TP.ap_eIf, TP.ap_cNot, TP.ap_cAnd, TP.ap_cOr, TP.ap_cYes, TP.ap_cChain, TP.ap_iSeq, TP.ap_iArgs, TP.ap_oNone, TP.ap_pP, TP.ap_pLb, TP.ap_pLr, TP.ap_tgName, TP.ap_pgName, TP.ap_tgTup, TP.ap_tgTupL, TP.ap_pgTup, TP.ap_tgNil, TP.ap_pgNil, TP.ap_tgCons, TP.ap_pgCons, TP.plain, TP.lent, TP.Slot.plain, TP.Slot.lent, TP.itemsD, TP.wipeP, TP.eSlice, TP.oSome, TP.truthB, TP.Out.ofO, id_eq, TP.kill, TP.ok_bind, TP.exc_bind, TP.fail_bind, TP.ofO_some, TP.ofO_none, List.map_cons, List.map_nil, List.set_cons_zero, List.set_cons_succ, List.getElem?_cons_zero, List.getElem?_cons_succ, List.getElem?_nil, List.length_cons, List.length_nil, List.cons_append, List.nil_append, List.replicate_succ, List.replicate_zero, Option.join, Option.bind_some, Option.bind, Option.map_some, Option.map_none, Nat.reduceSub, Nat.reduceAdd, Nat.add_zero, Nat.zero_add, List.append_nil, if_true, if_false, Bool.false_eq_true, Bool.not_true, Bool.not_false, reduceIte, decide_true, decide_false, Nat.reduceLeDiff, TP.mkTup, TP.mkLst, TP.fits_eq, s2, w2, add_ok, hn, mulL_ok (i := 90) (j := (0 + (k : Int))) (by decide), hL, ask']
theorem g_law_ok (ns : List Int) (hns : ns.length ≤ 63) : g_law [.scr ns] = .ok (.bl true) := by
  obtain ⟨cs, h, hcs⟩ := cells_ok ns hns
  have lp := loop_upto (t := tgName 2) (b := l1_law) 3 (fun _ => [.val (.scr ns), .val (.lst (cs.map .int)), .un, .un]) (fun k _ => ⟨_, rfl, .inl (law_turn h (.val (.scr ns)) k)⟩)
  obtain ⟨r, r1, r2⟩ := pick_ok h 29 7 (by decide)
  obtain ⟨L, steps, _, hA, hL⟩ := lot_ok h 40 [1, 1, 5, 1, 1, 1, 1, 1] (by decide) (by decide) 3 (by decide) (by decide)
  have hL' : g__law_lot [.lst (cs.map .int), .int 40, .tup [.int 1, .int 1, .int 5, .int 1, .int 1, .int 1, .int 1, .int 1], .int 3] = .ok (enL L) := hL
  have ask : g__law_asked [.lst (cs.map .int), .int 28, enL L, .int 80] = .ok (.bl true) := asked_ok h 28 (hA.s (n := 8) (m := 5) (by decide) (by decide)) 80 (by decide)
  have r3 : rangeD1 [.int 3] = .ok (rangeL 0 3) := rd1 3 (by decide)
  unfold g_law b_law
  simp only [TP.sem_fin, TP.fin_ret, TP.fin_ret1, TP.fin_set, TP.fin_ownP, TP.fin_par, TP.fin_kill, TP.fin_if, TP.fin_if1, TP.fin_asg, TP.fin_expr, TP.fin_for, TP.fin_loop_nil, TP.fin_sNil, TP.seq_seq, TP.seq_nil, TP.startE, TP.ap_eVar, TP.ap_eC, TP.ap_aNil, TP.ap_aCons, TP.ap_eCall, TP.ap_e2, TP.ap_e1, TP.ap_e2B, TP.ap_eB, TP.ap_eT, TP.ap_eNot, TP.ap_eAnd, TP.ap_eOr, TP.ap_eIf, TP.ap_cNot, TP.ap_cAnd, TP.ap_cOr, TP.ap_cYes, TP.ap_cChain, TP.ap_iSeq, TP.ap_iArgs, TP.ap_oNone, TP.ap_pP, TP.ap_pLb, TP.ap_pLr, TP.ap_tgName, TP.ap_pgName, TP.ap_tgTup, TP.ap_tgTupL, TP.ap_pgTup, TP.ap_tgNil, TP.ap_pgNil, TP.ap_tgCons, TP.ap_pgCons, TP.plain, TP.lent, TP.Slot.plain, TP.Slot.lent, TP.itemsD, TP.wipeP, TP.eSlice, TP.oSome, TP.truthB, TP.Out.ofO, id_eq, TP.kill, TP.ok_bind, TP.exc_bind, TP.fail_bind, TP.ofO_some, TP.ofO_none, List.map_cons, List.map_nil, List.set_cons_zero, List.set_cons_succ, List.getElem?_cons_zero, List.getElem?_cons_succ, List.getElem?_nil, List.length_cons, List.length_nil, List.cons_append, List.nil_append, List.replicate_succ, List.replicate_zero, Option.join, Option.bind_some, Option.bind, Option.map_some, Option.map_none, Nat.reduceSub, Nat.reduceAdd, Nat.add_zero, Nat.zero_add, List.append_nil, if_true, if_false, Bool.false_eq_true, Bool.not_true, Bool.not_false, reduceIte, decide_true, decide_false, Nat.reduceLeDiff, TP.mkTup, TP.mkLst, TP.fits_eq, hcs, hand_ok h, r3]
  rw [fin_loop lp]
  simp only [TP.sem_fin, TP.fin_ret, TP.fin_ret1, TP.fin_set, TP.fin_ownP, TP.fin_par, TP.fin_kill, TP.fin_if, TP.fin_if1, TP.fin_asg, TP.fin_expr, TP.fin_for, TP.fin_loop_nil, TP.fin_sNil, TP.seq_seq, TP.seq_nil, TP.startE, TP.ap_eVar, TP.ap_eC, TP.ap_aNil, TP.ap_aCons, TP.ap_eCall, TP.ap_e2, TP.ap_e1, TP.ap_e2B, TP.ap_eB, TP.ap_eT, TP.ap_eNot, TP.ap_eAnd, TP.ap_eOr, TP.ap_eIf, TP.ap_cNot, TP.ap_cAnd, TP.ap_cOr, TP.ap_cYes, TP.ap_cChain, TP.ap_iSeq, TP.ap_iArgs, TP.ap_oNone, TP.ap_pP, TP.ap_pLb, TP.ap_pLr, TP.ap_tgName, TP.ap_pgName, TP.ap_tgTup, TP.ap_tgTupL, TP.ap_pgTup, TP.ap_tgNil, TP.ap_pgNil, TP.ap_tgCons, TP.ap_pgCons, TP.plain, TP.lent, TP.Slot.plain, TP.Slot.lent, TP.itemsD, TP.wipeP, TP.eSlice, TP.oSome, TP.truthB, TP.Out.ofO, id_eq, TP.kill, TP.ok_bind, TP.exc_bind, TP.fail_bind, TP.ofO_some, TP.ofO_none, List.map_cons, List.map_nil, List.set_cons_zero, List.set_cons_succ, List.getElem?_cons_zero, List.getElem?_cons_succ, List.getElem?_nil, List.length_cons, List.length_nil, List.cons_append, List.nil_append, List.replicate_succ, List.replicate_zero, Option.join, Option.bind_some, Option.bind, Option.map_some, Option.map_none, Nat.reduceSub, Nat.reduceAdd, Nat.add_zero, Nat.zero_add, List.append_nil, if_true, if_false, Bool.false_eq_true, Bool.not_true, Bool.not_false, reduceIte, decide_true, decide_false, Nat.reduceLeDiff, TP.mkTup, TP.mkLst, TP.fits_eq, r2, ne_int', hL', ask]
  by_cases hr : (r : Int) ≠ 3
  · rw [decide_eq_true hr]; rfl
  · rw [decide_eq_false hr]; rfl
end K20

end
noncomputable section
namespace K20
open PySem PySem.Spec PyProof.Rows L2 TP
def dd_deal_at : He.DefD := ⟨("deal_at", none), "deal_at", "deal_at", defArgs s_deal_at, defBody s_deal_at, defScope s_deal_at, [], []⟩
def dd_slots_by : He.DefD := ⟨("slots_by", none), "slots_by", "slots_by", defArgs s_slots_by, defBody s_slots_by, defScope s_slots_by, [], []⟩
def dd_reads_of : He.DefD := ⟨("reads_of", none), "reads_of", "reads_of", defArgs s_reads_of, defBody s_reads_of, defScope s_reads_of, [], []⟩
def dd_changes_of : He.DefD := ⟨("changes_of", none), "changes_of", "changes_of", defArgs s_changes_of, defBody s_changes_of, defScope s_changes_of, [], []⟩
def dd_writes_of : He.DefD := ⟨("writes_of", none), "writes_of", "writes_of", defArgs s_writes_of, defBody s_writes_of, defScope s_writes_of, [], []⟩
def dd_shared : He.DefD := ⟨("shared", none), "shared", "shared", defArgs s_shared, defBody s_shared, defScope s_shared, [], []⟩
def dd_looks_past : He.DefD := ⟨("looks_past", none), "looks_past", "looks_past", defArgs s_looks_past, defBody s_looks_past, defScope s_looks_past, [], []⟩
def dd_both_write : He.DefD := ⟨("both_write", none), "both_write", "both_write", defArgs s_both_write, defBody s_both_write, defScope s_both_write, [], []⟩
def dd_members_of : He.DefD := ⟨("members_of", none), "members_of", "members_of", defArgs s_members_of, defBody s_members_of, defScope s_members_of, [], []⟩
def dd_first_deal : He.DefD := ⟨("first_deal", none), "first_deal", "first_deal", defArgs s_first_deal, defBody s_first_deal, defScope s_first_deal, [], []⟩
def dd_last_deal : He.DefD := ⟨("last_deal", none), "last_deal", "last_deal", defArgs s_last_deal, defBody s_last_deal, defScope s_last_deal, [], []⟩
def dd_cut_words : He.DefD := ⟨("cut_words", none), "cut_words", "cut_words", defArgs s_cut_words, defBody s_cut_words, defScope s_cut_words, [], []⟩
def dd__law_cells : He.DefD := ⟨("_law_cells", none), "_law_cells", "_law_cells", defArgs s__law_cells, defBody s__law_cells, defScope s__law_cells, [], []⟩
def dd__law_pick : He.DefD := ⟨("_law_pick", none), "_law_pick", "_law_pick", defArgs s__law_pick, defBody s__law_pick, defScope s__law_pick, [], []⟩
def dd__law_names : He.DefD := ⟨("_law_names", none), "_law_names", "_law_names", defArgs s__law_names, defBody s__law_names, defScope s__law_names, [], []⟩
def dd__law_steps : He.DefD := ⟨("_law_steps", none), "_law_steps", "_law_steps", defArgs s__law_steps, defBody s__law_steps, defScope s__law_steps, [], []⟩
def dd__law_deal : He.DefD := ⟨("_law_deal", none), "_law_deal", "_law_deal", defArgs s__law_deal, defBody s__law_deal, defScope s__law_deal, [], []⟩
def dd__law_lot : He.DefD := ⟨("_law_lot", none), "_law_lot", "_law_lot", defArgs s__law_lot, defBody s__law_lot, defScope s__law_lot, [], []⟩
def dd__law_looks : He.DefD := ⟨("_law_looks", none), "_law_looks", "_law_looks", defArgs s__law_looks, defBody s__law_looks, defScope s__law_looks, [], []⟩
def dd__law_both : He.DefD := ⟨("_law_both", none), "_law_both", "_law_both", defArgs s__law_both, defBody s__law_both, defScope s__law_both, [], []⟩
def dd__law_meets : He.DefD := ⟨("_law_meets", none), "_law_meets", "_law_meets", defArgs s__law_meets, defBody s__law_meets, defScope s__law_meets, [], []⟩
def dd__law_members : He.DefD := ⟨("_law_members", none), "_law_members", "_law_members", defArgs s__law_members, defBody s__law_members, defScope s__law_members, [], []⟩
def dd__law_cut : He.DefD := ⟨("_law_cut", none), "_law_cut", "_law_cut", defArgs s__law_cut, defBody s__law_cut, defScope s__law_cut, [], []⟩
def dd__law_same : He.DefD := ⟨("_law_same", none), "_law_same", "_law_same", defArgs s__law_same, defBody s__law_same, defScope s__law_same, [], []⟩
def dd__law_words : He.DefD := ⟨("_law_words", none), "_law_words", "_law_words", defArgs s__law_words, defBody s__law_words, defScope s__law_words, [], []⟩
def dd__law_asked : He.DefD := ⟨("_law_asked", none), "_law_asked", "_law_asked", defArgs s__law_asked, defBody s__law_asked, defScope s__law_asked, [], []⟩
def dd__law_hand : He.DefD := ⟨("_law_hand", none), "_law_hand", "_law_hand", defArgs s__law_hand, defBody s__law_hand, defScope s__law_hand, [], []⟩
def dd_law : He.DefD := ⟨("law", none), "law", "law", defArgs s_law, defBody s_law, defScope s_law, [], []⟩
def fnL : List He.DefD := [dd_deal_at, dd_slots_by, dd_reads_of, dd_changes_of, dd_writes_of, dd_shared, dd_looks_past, dd_both_write, dd_members_of, dd_first_deal, dd_last_deal, dd_cut_words, dd__law_cells, dd__law_pick, dd__law_names, dd__law_steps, dd__law_deal, dd__law_lot, dd__law_looks, dd__law_both, dd__law_meets, dd__law_members, dd__law_cut, dd__law_same, dd__law_words, dd__law_asked, dd__law_hand, dd_law]
def faL : List He.Fa := [.glo "deal_at", .glo "slots_by", .glo "reads_of", .glo "changes_of", .glo "writes_of", .glo "shared", .glo "looks_past", .glo "both_write", .glo "members_of", .glo "first_deal", .glo "last_deal", .glo "cut_words", .glo "_law_cells", .glo "_law_pick", .glo "_law_names", .glo "_law_steps", .glo "_law_deal", .glo "_law_lot", .glo "_law_looks", .glo "_law_both", .glo "_law_meets", .glo "_law_members", .glo "_law_cut", .glo "_law_same", .glo "_law_words", .glo "_law_asked", .glo "_law_hand", .glo "law", .free "abs", .free "bool", .free "enumerate", .free "int", .free "isinstance", .free "len", .free "list", .free "min", .free "range", .free "sorted", .free "str", .free "tuple"]
abbrev RR : PySem.W.OpenRow := PySem.W.OpenLaw.row PySem.Challenge.rw_twoplaces_k20_members_and_cuts
abbrev hk : PySem.W.Hook := He.hookD 4 faL fnL
def ob (s : PySem.W.SharedT) : He.AlD := He.obsDG 4 faL fnL (HandSHeadRun.getT s)
theorem ob_eq (s : PySem.W.SharedT) : ob s = hk.obs s.abs := He.obsDG_eq (HandSHeadRun.getT_eq s)
abbrev loose : List Str := ["deal_at", "slots_by", "reads_of", "changes_of", "writes_of", "shared", "looks_past", "both_write", "members_of", "first_deal", "last_deal", "cut_words", "_law_cells", "_law_pick", "_law_names", "_law_steps", "_law_deal", "_law_lot", "_law_looks", "_law_both", "_law_meets", "_law_members", "_law_cut", "_law_same", "_law_words", "_law_asked", "_law_hand"]
set_option maxHeartbeats 0 in
theorem run (w : World) : HandSHeadRun.RunEq RR (PySem.W.view RR.prog [32]) hk ob 4000 loose w := by
  intro os
  kernel_rfl
theorem facts {P : Program} {w : World} {K : PySem.W.Frag} {h : Heap} {mg : Str → Option Value} {f : Addr} (X : K.In h) (G : h.Ns mainGlobals mg) (hfa : mg ("law" : Str) = some (.ref f)) (c : He.SaysD faL fnL K) :
    ∃ fd : FuncData, (∀ (s : Shared) (v : Value), BindsTo s fd ⟨[v], []⟩ [("script", v)]) ∧ ∀ base : Heap, K.In base → base.Ns mainGlobals mg → FnOk P w K mg base L2.CX0 7 f fd ["script"] (spLawV K) := by
  obtain ⟨fd0, F0⟩ := c.def_ 0 (d := dd_deal_at) rfl
  obtain ⟨fd1, F1⟩ := c.def_ 1 (d := dd_slots_by) rfl
  obtain ⟨fd2, F2⟩ := c.def_ 2 (d := dd_reads_of) rfl
  obtain ⟨fd3, F3⟩ := c.def_ 3 (d := dd_changes_of) rfl
  obtain ⟨fd4, F4⟩ := c.def_ 4 (d := dd_writes_of) rfl
  obtain ⟨fd5, F5⟩ := c.def_ 5 (d := dd_shared) rfl
  obtain ⟨fd6, F6⟩ := c.def_ 6 (d := dd_looks_past) rfl
  obtain ⟨fd7, F7⟩ := c.def_ 7 (d := dd_both_write) rfl
  obtain ⟨fd8, F8⟩ := c.def_ 8 (d := dd_members_of) rfl
  obtain ⟨fd9, F9⟩ := c.def_ 9 (d := dd_first_deal) rfl
  obtain ⟨fd10, F10⟩ := c.def_ 10 (d := dd_last_deal) rfl
  obtain ⟨fd11, F11⟩ := c.def_ 11 (d := dd_cut_words) rfl
  obtain ⟨fd12, F12⟩ := c.def_ 12 (d := dd__law_cells) rfl
  obtain ⟨fd13, F13⟩ := c.def_ 13 (d := dd__law_pick) rfl
  obtain ⟨fd14, F14⟩ := c.def_ 14 (d := dd__law_names) rfl
  obtain ⟨fd15, F15⟩ := c.def_ 15 (d := dd__law_steps) rfl
  obtain ⟨fd16, F16⟩ := c.def_ 16 (d := dd__law_deal) rfl
  obtain ⟨fd17, F17⟩ := c.def_ 17 (d := dd__law_lot) rfl
  obtain ⟨fd18, F18⟩ := c.def_ 18 (d := dd__law_looks) rfl
  obtain ⟨fd19, F19⟩ := c.def_ 19 (d := dd__law_both) rfl
  obtain ⟨fd20, F20⟩ := c.def_ 20 (d := dd__law_meets) rfl
  obtain ⟨fd21, F21⟩ := c.def_ 21 (d := dd__law_members) rfl
  obtain ⟨fd22, F22⟩ := c.def_ 22 (d := dd__law_cut) rfl
  obtain ⟨fd23, F23⟩ := c.def_ 23 (d := dd__law_same) rfl
  obtain ⟨fd24, F24⟩ := c.def_ 24 (d := dd__law_words) rfl
  obtain ⟨fd25, F25⟩ := c.def_ 25 (d := dd__law_asked) rfl
  obtain ⟨fd26, F26⟩ := c.def_ 26 (d := dd__law_hand) rfl
  obtain ⟨fd27, F27⟩ := c.def_ 27 (d := dd_law) rfl
  have m0 := He.glo_ok X G (c.fact 0 (f := .glo "deal_at") rfl)
  have m1 := He.glo_ok X G (c.fact 1 (f := .glo "slots_by") rfl)
  have m2 := He.glo_ok X G (c.fact 2 (f := .glo "reads_of") rfl)
  have m3 := He.glo_ok X G (c.fact 3 (f := .glo "changes_of") rfl)
  have m4 := He.glo_ok X G (c.fact 4 (f := .glo "writes_of") rfl)
  have m5 := He.glo_ok X G (c.fact 5 (f := .glo "shared") rfl)
  have m6 := He.glo_ok X G (c.fact 6 (f := .glo "looks_past") rfl)
  have m7 := He.glo_ok X G (c.fact 7 (f := .glo "both_write") rfl)
  have m8 := He.glo_ok X G (c.fact 8 (f := .glo "members_of") rfl)
  have m9 := He.glo_ok X G (c.fact 9 (f := .glo "first_deal") rfl)
  have m10 := He.glo_ok X G (c.fact 10 (f := .glo "last_deal") rfl)
  have m11 := He.glo_ok X G (c.fact 11 (f := .glo "cut_words") rfl)
  have m12 := He.glo_ok X G (c.fact 12 (f := .glo "_law_cells") rfl)
  have m13 := He.glo_ok X G (c.fact 13 (f := .glo "_law_pick") rfl)
  have m14 := He.glo_ok X G (c.fact 14 (f := .glo "_law_names") rfl)
  have m15 := He.glo_ok X G (c.fact 15 (f := .glo "_law_steps") rfl)
  have m16 := He.glo_ok X G (c.fact 16 (f := .glo "_law_deal") rfl)
  have m17 := He.glo_ok X G (c.fact 17 (f := .glo "_law_lot") rfl)
  have m18 := He.glo_ok X G (c.fact 18 (f := .glo "_law_looks") rfl)
  have m19 := He.glo_ok X G (c.fact 19 (f := .glo "_law_both") rfl)
  have m20 := He.glo_ok X G (c.fact 20 (f := .glo "_law_meets") rfl)
  have m21 := He.glo_ok X G (c.fact 21 (f := .glo "_law_members") rfl)
  have m22 := He.glo_ok X G (c.fact 22 (f := .glo "_law_cut") rfl)
  have m23 := He.glo_ok X G (c.fact 23 (f := .glo "_law_same") rfl)
  have m24 := He.glo_ok X G (c.fact 24 (f := .glo "_law_words") rfl)
  have m25 := He.glo_ok X G (c.fact 25 (f := .glo "_law_asked") rfl)
  have m26 := He.glo_ok X G (c.fact 26 (f := .glo "_law_hand") rfl)
  have m27 := He.glo_ok X G (c.fact 27 (f := .glo "law") rfl)
  have e := hfa.symm.trans m27
  cases e
  have B0 : Binds K fd0 ["lot", "place"] [] := FunD.bindsN F0 fun _ _ _ _ _ _ us hl => match us, hl with | [_, _], _ => rfl
  have B1 : Binds K fd1 ["deal", "kinds"] [] := FunD.bindsN F1 fun _ _ _ _ _ _ us hl => match us, hl with | [_, _], _ => rfl
  have B2 : Binds K fd2 ["deal"] [] := FunD.bindsN F2 fun _ _ _ _ _ _ us hl => match us, hl with | [_], _ => rfl
  have B3 : Binds K fd3 ["deal"] [] := FunD.bindsN F3 fun _ _ _ _ _ _ us hl => match us, hl with | [_], _ => rfl
  have B4 : Binds K fd4 ["deal"] [] := FunD.bindsN F4 fun _ _ _ _ _ _ us hl => match us, hl with | [_], _ => rfl
  have B5 : Binds K fd5 ["one", "other"] [] := FunD.bindsN F5 fun _ _ _ _ _ _ us hl => match us, hl with | [_, _], _ => rfl
  have B6 : Binds K fd6 ["one", "other"] [] := FunD.bindsN F6 fun _ _ _ _ _ _ us hl => match us, hl with | [_, _], _ => rfl
  have B7 : Binds K fd7 ["one", "other"] [] := FunD.bindsN F7 fun _ _ _ _ _ _ us hl => match us, hl with | [_, _], _ => rfl
  have B8 : Binds K fd8 ["lot"] [] := FunD.bindsN F8 fun _ _ _ _ _ _ us hl => match us, hl with | [_], _ => rfl
  have B9 : Binds K fd9 ["lot", "member"] [] := FunD.bindsN F9 fun _ _ _ _ _ _ us hl => match us, hl with | [_, _], _ => rfl
  have B10 : Binds K fd10 ["lot", "member"] [] := FunD.bindsN F10 fun _ _ _ _ _ _ us hl => match us, hl with | [_, _], _ => rfl
  have B11 : Binds K fd11 ["lot", "member", "other"] [] := FunD.bindsN F11 fun _ _ _ _ _ _ us hl => match us, hl with | [_, _, _], _ => rfl
  have B12 : Binds K fd12 ["script"] [] := FunD.bindsN F12 fun _ _ _ _ _ _ us hl => match us, hl with | [_], _ => rfl
  have B13 : Binds K fd13 ["cells", "at", "many"] [] := FunD.bindsN F13 fun _ _ _ _ _ _ us hl => match us, hl with | [_, _, _], _ => rfl
  have B14 : Binds K fd14 ["cells", "at"] [] := FunD.bindsN F14 fun _ _ _ _ _ _ us hl => match us, hl with | [_, _], _ => rfl
  have B15 : Binds K fd15 ["columns", "rows", "sorts"] [] := FunD.bindsN F15 fun _ _ _ _ _ _ us hl => match us, hl with | [_, _, _], _ => rfl
  have B16 : Binds K fd16 ["cells", "at", "steps", "most"] [] := FunD.bindsN F16 fun _ _ _ _ _ _ us hl => match us, hl with | [_, _, _, _], _ => rfl
  have B17 : Binds K fd17 ["cells", "at", "shape", "wide"] [] := FunD.bindsN F17 fun _ _ _ _ _ _ us hl => match us, hl with | [_, _, _, _], _ => rfl
  have B18 : Binds K fd18 ["one", "other"] [] := FunD.bindsN F18 fun _ _ _ _ _ _ us hl => match us, hl with | [_, _], _ => rfl
  have B19 : Binds K fd19 ["one", "other"] [] := FunD.bindsN F19 fun _ _ _ _ _ _ us hl => match us, hl with | [_, _], _ => rfl
  have B20 : Binds K fd20 ["one", "other"] [] := FunD.bindsN F20 fun _ _ _ _ _ _ us hl => match us, hl with | [_, _], _ => rfl
  have B21 : Binds K fd21 ["lot"] [] := FunD.bindsN F21 fun _ _ _ _ _ _ us hl => match us, hl with | [_], _ => rfl
  have B22 : Binds K fd22 ["lot", "one", "other"] [] := FunD.bindsN F22 fun _ _ _ _ _ _ us hl => match us, hl with | [_, _, _], _ => rfl
  have B23 : Binds K fd23 ["told", "due"] [] := FunD.bindsN F23 fun _ _ _ _ _ _ us hl => match us, hl with | [_, _], _ => rfl
  have B24 : Binds K fd24 ["lot", "one", "other"] [] := FunD.bindsN F24 fun _ _ _ _ _ _ us hl => match us, hl with | [_, _, _], _ => rfl
  have B25 : Binds K fd25 ["cells", "at", "lot", "most"] [] := FunD.bindsN F25 fun _ _ _ _ _ _ us hl => match us, hl with | [_, _, _, _], _ => rfl
  have B26 : Binds K fd26 ["cells"] [] := FunD.bindsN F26 fun _ _ _ _ _ _ us hl => match us, hl with | [_], _ => rfl
  have B27 : Binds K fd27 ["script"] [] := FunD.bindsN F27 fun _ _ _ _ _ _ us hl => match us, hl with | [_], _ => rfl
  have b := FunD.bindsA (ps := ["script"]) F27 fun _ _ _ _ _ _ us hl => match us, hl with | [_], _ => rfl
  refine ⟨fd27, fun s v => b s [v] rfl, fun base _ _ => ?_⟩
  have OK := ok_law (P := P) (w := w) (K := K) (mg := mg) (base := base) ⟨⟨_, _, F0, m0, B0⟩, ⟨_, _, F1, m1, B1⟩, ⟨_, _, F2, m2, B2⟩, ⟨_, _, F3, m3, B3⟩, ⟨_, _, F4, m4, B4⟩, ⟨_, _, F5, m5, B5⟩, ⟨_, _, F6, m6, B6⟩, ⟨_, _, F7, m7, B7⟩, ⟨_, _, F8, m8, B8⟩, ⟨_, _, F9, m9, B9⟩, ⟨_, _, F10, m10, B10⟩, ⟨_, _, F11, m11, B11⟩, ⟨_, _, F12, m12, B12⟩, ⟨_, _, F13, m13, B13⟩, ⟨_, _, F14, m14, B14⟩, ⟨_, _, F15, m15, B15⟩, ⟨_, _, F16, m16, B16⟩, ⟨_, _, F17, m17, B17⟩, ⟨_, _, F18, m18, B18⟩, ⟨_, _, F19, m19, B19⟩, ⟨_, _, F20, m20, B20⟩, ⟨_, _, F21, m21, B21⟩, ⟨_, _, F22, m22, B22⟩, ⟨_, _, F23, m23, B23⟩, ⟨_, _, F24, m24, B24⟩, ⟨_, _, F25, m25, B25⟩, ⟨_, _, F26, m26, B26⟩, ⟨_, _, F27, m27, B27⟩, He.free_ok X G (c.fact 28 (f := .free "abs") rfl), He.free_ok X G (c.fact 29 (f := .free "bool") rfl), He.free_ok X G (c.fact 30 (f := .free "enumerate") rfl), He.free_ok X G (c.fact 31 (f := .free "int") rfl), He.free_ok X G (c.fact 32 (f := .free "isinstance") rfl), He.free_ok X G (c.fact 33 (f := .free "len") rfl), He.free_ok X G (c.fact 34 (f := .free "list") rfl), He.free_ok X G (c.fact 35 (f := .free "min") rfl), He.free_ok X G (c.fact 36 (f := .free "range") rfl), He.free_ok X G (c.fact 37 (f := .free "sorted") rfl), He.free_ok X G (c.fact 38 (f := .free "str") rfl), He.free_ok X G (c.fact 39 (f := .free "tuple") rfl)⟩
  exact ok_end OK g_law_ok
end K20
open PySem PySem.W PySem.Calls PyProof.Rows in
set_option maxHeartbeats 0 in
theorem PySem.Challenge.cw_twoplaces_k20_members_and_cuts_holds : PySem.Challenge.rw_twoplaces_k20_members_and_cuts.Holds := by
  w_on; o_law
  refine HandSHeadRun.head_any (r := OpenLaw.row PySem.Challenge.rw_twoplaces_k20_members_and_cuts) (q := view (OpenLaw.row PySem.Challenge.rw_twoplaces_k20_members_and_cuts).prog [32]) (H := K20.hk) (ob := K20.ob) (M := 4000) (loose := K20.loose) (d := HandSHeadRun.topDef (OpenLaw.row PySem.Challenge.rw_twoplaces_k20_members_and_cuts).prog 32) (kwd := []) K20.ob_eq
    (by kernel_rfl) (fun s => by kernel_rfl) K20.run (by kernel_rfl) (by kernel_rfl) (by kernel_rfl) (by rfl) (by first | assumption | decide +kernel) (by decide +kernel) ⟨rfl, rfl, rfl, rfl, rfl, by decide +kernel⟩ ?hw ?hc
  case hw => w_witness2
  case hc =>
    refine L2.walk_ofE (l := PySem.Challenge.rw_twoplaces_k20_members_and_cuts) (n := 63) (k := 7) (x := "script") (CX := L2.CX0) rfl (by decide) (by kernel_rfl) ⟨rfl, by decide, by decide⟩ ?F (fun _ _ _ _ z => z)
    intro w mg fa h Y G hmg0
    obtain ⟨K, KX, c⟩ := Y
    have hmg : mg ("law" : PySem.Str) = some (.ref fa) := by
      have e : (HandSHeadRun.topDef (OpenLaw.row PySem.Challenge.rw_twoplaces_k20_members_and_cuts).prog 32).name = ("law" : PySem.Str) := by kernel_rfl
      rw [← e]
      exact hmg0
    obtain ⟨fd, hb, hF⟩ := K20.facts (P := PySem.Challenge.rw_twoplaces_k20_members_and_cuts.prog) (w := w) KX G hmg c
    exact ⟨K, fd, TP.spLawV K, KX, hb, fun H a ns hl _ hS => ⟨a, ns, rfl, hS, hl, fun _ => rfl⟩, hF⟩

end
