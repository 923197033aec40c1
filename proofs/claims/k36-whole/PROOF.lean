import PyProof.Rows.All
import Wide.All
import OpenK.AllK
import Wide.FinOn
import HandS.ForMost
import HandS.IsInst
import HandS.TupAny
import HandS.TupMul
import HandS.Zip
import HandS.Defaults
import HandS.Wide
import HandS.TupLe
import HandS.TryOnly
import HandS.NoneIn
import HandS.Conv
import HandS.DictComp
import HandS.DictTup
import HandS.TupSets
import HandS.WrittenGet
import HandS.Style
import KE.SortData
import KE.LtData
import KE.KDictKeyed
import KE.GoesSet
import KE.GoesComp2
import KE.GoesEnum
import HandS.Walk
import KE.KUnpackStar
import KE.KDictCopyH
import HandS.SetBool
import PySem.Challenge.RW_lodgewalk_k36_whole_in_and_out
set_option Elab.async false
set_option linter.all false
set_option maxRecDepth 100000
namespace Lw
open PySem L2

/-! data: immutable values by content; mutable objects by address -/
inductive Da where
  | non | bl (b : Bool) | int (i : Int) | str (x : Str) | tup (ds : List Da) | obj (a : Addr) | ty (n : String) | scr (ns : List Int)

/-- a tuple at a: tracked, or (no key) of the written part -/
def TupAt (K : PySem.W.Frag) (H : Hp) (a : Addr) (xs : List V) (ds : List Da) : Prop :=
  H a = some (.tup xs) ∨ (SqT K (fun _ => none) a xs ∧ ∀ x r, ds ≠ .str x :: r)

mutual
def Dz (K : PySem.W.Frag) (H : Hp) : Da → V → Prop
  | .non, v => v = .non
  | .bl b, v => v = .bl b
  | .int i, v => v = .int i
  | .str x, v => v = .str x
  | .ty n, v => v = .ty n
  | .obj a, v => v = .ref a
  | .scr ns, v => ∃ a, v = .ref a ∧ ((∃ o, H a = some (.frz o (.lst (ns.map V.int)))) ∨ SqL K (fun _ => none) a (ns.map V.int))
  | .tup ds, v => ∃ a xs, v = .ref a ∧ TupAt K H a xs ds ∧ Dzs K H ds xs
def Dzs (K : PySem.W.Frag) (H : Hp) : List Da → List V → Prop
  | [], xs => xs = []
  | d :: ds, xs => ∃ x r, xs = x :: r ∧ Dz K H d x ∧ Dzs K H ds r
end

/-- mutable objects -/
inductive AO where
  | lst (ds : List Da) | dK (kds : List (Key × Da)) | dT (kds : List (List Key × Da)) | ins (C : Addr) (fs : List (Str × Da))

abbrev Gp := Addr → Option AO
def up (G : Gp) (a : Addr) (o : AO) : Gp := fun b => if b = a then some o else G b
theorem up_same {G : Gp} {a : Addr} {o : AO} : up G a o a = some o := if_pos rfl
theorem up_ne {G : Gp} {a b : Addr} {o : AO} (h : b ≠ a) : up G a o b = G b := if_neg h

def KZ {κ : Type} (K : PySem.W.Frag) (H : Hp) : List (κ × Da) → List (κ × V) → Prop :=
  Paired fun p q => p.1 = q.1 ∧ Dz K H p.2 q.2

def AOk (K : PySem.W.Frag) (H : Hp) (a : Addr) : AO → Prop
  | .lst ds => ∃ xs, H a = some (.lst xs) ∧ Dzs K H ds xs
  | .dK kds => ∃ kvs, H a = some (.dK kvs) ∧ KZ K H kds kvs
  | .dT kds => ∃ kvs, H a = some (.dT kvs) ∧ KZ K H kds kvs
  | .ins C fs => ∃ dx fvs, H a = some (.ins C dx fvs) ∧ KZ K H fs fvs

def R0 (K : PySem.W.Frag) (H : Hp) (G : Gp) : Prop := ∀ a o, G a = some o → AOk K H a o

/-- what never changes stays -/
def Fix : HO → Prop
  | .tup _ => True
  | .frz _ _ => True
  | _ => False
def Tk (H H' : Hp) : Prop := ∀ a o, Fix o → H a = some o → H' a = some o
theorem Tk.refl (H : Hp) : Tk H H := fun _ _ _ h => h
theorem Tk.trans {H H1 H2 : Hp} (a : Tk H H1) (b : Tk H1 H2) : Tk H H2 := fun x o f h => b x o f (a x o f h)

theorem TupAt.mono {K : PySem.W.Frag} {H H' : Hp} {a : Addr} {xs : List V} {ds : List Da} (t : Tk H H') (h : TupAt K H a xs ds) : TupAt K H' a xs ds := by
  rcases h with h | h
  · exact .inl (t _ _ trivial h)
  · exact .inr h
theorem TupAt.sq {K : PySem.W.Frag} {H : Hp} {a : Addr} {xs : List V} {ds : List Da} (h : TupAt K H a xs ds) : SqT K H a xs := by
  rcases h with h | ⟨(h | ⟨o, h⟩) | h, _⟩
  · exact .inl (.inl h)
  · cases h
  · cases h
  · exact .inr h

mutual
theorem Dz.mono {K : PySem.W.Frag} {H H' : Hp} (t : Tk H H') : ∀ (d : Da) (v : V), Dz K H d v → Dz K H' d v
  | .non, _, h => h
  | .bl _, _, h => h
  | .int _, _, h => h
  | .str _, _, h => h
  | .ty _, _, h => h
  | .obj _, _, h => h
  | .scr _, _, h => by
    obtain ⟨a, e, h⟩ := h
    refine ⟨a, e, ?_⟩
    rcases h with ⟨o, h⟩ | h
    · exact .inl ⟨o, t _ _ trivial h⟩
    · exact .inr h
  | .tup ds, _, h => by
    obtain ⟨a, xs, e, h1, h2⟩ := h
    exact ⟨a, xs, e, h1.mono t, Dzs.mono t ds xs h2⟩
theorem Dzs.mono {K : PySem.W.Frag} {H H' : Hp} (t : Tk H H') : ∀ (ds : List Da) (xs : List V), Dzs K H ds xs → Dzs K H' ds xs
  | [], _, h => h
  | d :: ds, _, h => by
    obtain ⟨x, r, e, h1, h2⟩ := h
    exact ⟨x, r, e, Dz.mono t d x h1, Dzs.mono t ds r h2⟩
end

theorem Dzs.length {K : PySem.W.Frag} {H : Hp} : ∀ {ds : List Da} {xs : List V}, Dzs K H ds xs → xs.length = ds.length
  | [], _, h => by
    rw [show _ = [] from h]; rfl
  | d :: ds, _, h => by
    obtain ⟨x, r, rfl, _, h2⟩ := h
    rw [List.length_cons, List.length_cons, Dzs.length h2]
theorem Dzs.get {K : PySem.W.Frag} {H : Hp} : ∀ {ds : List Da} {xs : List V} {i : Nat} {d : Da}, Dzs K H ds xs → ds[i]? = some d → ∃ x, xs[i]? = some x ∧ Dz K H d x
  | [], _, _, _, _, e => by cases e
  | d :: ds, _, 0, _, h, e => by
    obtain ⟨x, r, rfl, h1, _⟩ := h
    cases e
    exact ⟨x, rfl, h1⟩
  | d :: ds, _, i + 1, _, h, e => by
    obtain ⟨x, r, rfl, _, h2⟩ := h
    obtain ⟨y, e2, z⟩ := Dzs.get h2 (i := i) e
    exact ⟨y, e2, z⟩
theorem Dzs.back {K : PySem.W.Frag} {H : Hp} : ∀ {ds : List Da} {xs : List V} {i : Nat} {x : V}, Dzs K H ds xs → xs[i]? = some x → ∃ d, ds[i]? = some d ∧ Dz K H d x
  | [], _, _, _, h, e => by
    rw [show _ = [] from h] at e; cases e
  | d :: ds, _, 0, _, h, e => by
    obtain ⟨x, r, rfl, h1, _⟩ := h
    cases e
    exact ⟨d, rfl, h1⟩
  | d :: ds, _, i + 1, _, h, e => by
    obtain ⟨x, r, rfl, _, h2⟩ := h
    obtain ⟨y, e2, z⟩ := Dzs.back h2 (i := i) e
    exact ⟨y, e2, z⟩
theorem Dzs.append {K : PySem.W.Frag} {H : Hp} : ∀ {ds es : List Da} {xs ys : List V}, Dzs K H ds xs → Dzs K H es ys → Dzs K H (ds ++ es) (xs ++ ys)
  | [], _, _, _, h, h' => by
    rw [show _ = [] from h]; exact h'
  | d :: ds, _, _, _, h, h' => by
    obtain ⟨x, r, rfl, h1, h2⟩ := h
    exact ⟨x, r ++ _, rfl, h1, Dzs.append h2 h'⟩
theorem Dzs.take {K : PySem.W.Frag} {H : Hp} : ∀ (n : Nat) {ds : List Da} {xs : List V}, Dzs K H ds xs → Dzs K H (ds.take n) (xs.take n)
  | 0, _, _, _ => rfl
  | n + 1, [], _, h => by
    rw [show _ = [] from h]; rfl
  | n + 1, d :: ds, _, h => by
    obtain ⟨x, r, rfl, h1, h2⟩ := h
    exact ⟨x, r.take n, rfl, h1, Dzs.take n h2⟩
theorem Dzs.drop {K : PySem.W.Frag} {H : Hp} : ∀ (n : Nat) {ds : List Da} {xs : List V}, Dzs K H ds xs → Dzs K H (ds.drop n) (xs.drop n)
  | 0, _, _, h => h
  | n + 1, [], _, h => by
    rw [show _ = [] from h]; rfl
  | n + 1, d :: ds, _, h => by
    obtain ⟨x, r, rfl, _, h2⟩ := h
    exact Dzs.drop n h2
theorem Dzs.set {K : PySem.W.Frag} {H : Hp} {d : Da} {x : V} (z : Dz K H d x) : ∀ (i : Nat) {ds : List Da} {xs : List V}, Dzs K H ds xs → Dzs K H (ds.set i d) (xs.set i x)
  | _, [], _, h => by
    rw [show _ = [] from h]; rfl
  | 0, e :: ds, _, h => by
    obtain ⟨y, r, rfl, _, h2⟩ := h
    exact ⟨x, r, rfl, z, h2⟩
  | i + 1, e :: ds, _, h => by
    obtain ⟨y, r, rfl, h1, h2⟩ := h
    exact ⟨y, r.set i x, rfl, h1, Dzs.set z i h2⟩
theorem KZ.mono {κ : Type} {K : PySem.W.Frag} {H H' : Hp} (t : Tk H H') {l : List (κ × Da)} {r : List (κ × V)} (h : KZ K H l r) : KZ K H' l r :=
  Paired.mapP h fun p q z => ⟨z.1, Dz.mono t _ _ z.2⟩
theorem KZ.length {κ : Type} {K : PySem.W.Frag} {H : Hp} {l : List (κ × Da)} {r : List (κ × V)} (h : KZ K H l r) : r.length = l.length := (Paired.length h).symm

/-- what a step may do: untracked things stay, and stay untracked; what is there stays there -/
structure Go (H : Hp) (G : Gp) (H' : Hp) (G' : Gp) : Prop where
  hid : ∀ p o, H p = some o → G p = none → H' p = some o ∧ G' p = none
  dom : ∀ p, H p ≠ none → H' p ≠ none
theorem Go.refl (H : Hp) (G : Gp) : Go H G H G := ⟨fun _ _ h g => ⟨h, g⟩, fun _ h => h⟩
theorem Go.trans {H H1 H2 : Hp} {G G1 G2 : Gp} (a : Go H G H1 G1) (b : Go H1 G1 H2 G2) : Go H G H2 G2 :=
  ⟨fun p o h g => let ⟨h1, g1⟩ := a.hid p o h g; b.hid p o h1 g1, fun p h => b.dom p (a.dom p h)⟩
theorem AOk.nofix {K : PySem.W.Frag} {H : Hp} {a : Addr} {o : AO} (h : AOk K H a o) {u : HO} (f : Fix u) : H a ≠ some u := by
  intro e
  cases o with
  | lst ds => obtain ⟨_, h, _⟩ := h; rw [e] at h; cases h; exact f
  | dK ds => obtain ⟨_, h, _⟩ := h; rw [e] at h; cases h; exact f
  | dT ds => obtain ⟨_, h, _⟩ := h; rw [e] at h; cases h; exact f
  | ins C fs => obtain ⟨_, _, h, _⟩ := h; rw [e] at h; cases h; exact f
theorem AOk.there {K : PySem.W.Frag} {H : Hp} {a : Addr} {o : AO} (h : AOk K H a o) : H a ≠ none := by
  intro e
  cases o with
  | lst ds => obtain ⟨_, h, _⟩ := h; rw [e] at h; cases h
  | dK ds => obtain ⟨_, h, _⟩ := h; rw [e] at h; cases h
  | dT ds => obtain ⟨_, h, _⟩ := h; rw [e] at h; cases h
  | ins C fs => obtain ⟨_, _, h, _⟩ := h; rw [e] at h; cases h
theorem Go.tk {K : PySem.W.Frag} {H H' : Hp} {G G' : Gp} (g : Go H G H' G') (r : R0 K H G) : Tk H H' := fun a u f h => by
  cases e : G a with
  | none => exact (g.hid a _ h e).1
  | some o => exact absurd h ((r a o e).nofix f)

/-- slots -/
abbrev St3 := List (Option Da)
def Sz (K : PySem.W.Frag) (H : Hp) : St3 → St → Prop := Paired fun p q => match p with
  | none => True
  | some d => ∃ v, q = some v ∧ Dz K H d v
theorem Sz.mono {K : PySem.W.Frag} {H H' : Hp} (t : Tk H H') {τ : St3} {σ : St} (h : Sz K H τ σ) : Sz K H' τ σ := by
  refine Paired.mapP h fun p q z => ?_
  cases p with
  | none => trivial
  | some d =>
    obtain ⟨v, e, z⟩ := z
    exact ⟨v, e, Dz.mono t d v z⟩
theorem Sz.get {K : PySem.W.Frag} {H : Hp} : ∀ {τ : St3} {σ : St} {i : Nat} {d : Da}, Sz K H τ σ → τ[i]? = some (some d) → ∃ v, σ[i]? = some (some v) ∧ Dz K H d v
  | _, _, i, d, .nil, e => by cases e
  | _, _, 0, d, .cons r _, e => by
    cases e
    obtain ⟨v, rfl, z⟩ := r
    exact ⟨v, rfl, z⟩
  | _, _, i + 1, d, .cons _ t, e => Sz.get (i := i) t e
theorem Sz.set {K : PySem.W.Frag} {H : Hp} {d : Da} {v : V} (z : Dz K H d v) : ∀ (i : Nat) {τ : St3} {σ : St}, Sz K H τ σ → Sz K H (τ.set i (some d)) (σ.set i (some v))
  | _, _, _, .nil => .nil
  | 0, _, _, .cons _ t => .cons ⟨v, rfl, z⟩ t
  | i + 1, _, _, .cons r t => .cons r (Sz.set z i t)
theorem Sz.unset {K : PySem.W.Frag} {H : Hp} : ∀ (i : Nat) {τ : St3} {σ : St}, Sz K H τ σ → Sz K H (τ.set i none) (σ.set i none)
  | _, _, _, .nil => .nil
  | 0, _, _, .cons _ t => .cons trivial t
  | i + 1, _, _, .cons r t => .cons r (Sz.unset i t)
def wip (τ : St3) : List Nat → St3
  | [] => τ
  | v :: vs => (wip τ vs).set v none
theorem Sz.wipe {K : PySem.W.Frag} {H : Hp} {τ : St3} {σ : St} (h : Sz K H τ σ) : ∀ vs : List Nat, Sz K H (wip τ vs) (wipe σ vs)
  | [] => h
  | v :: vs => Sz.unset v (Sz.wipe h vs)

abbrev VK3 := Da → Gp → Prop
abbrev TE3 := St3 → Gp → VK3 → Prop
abbrev TL3 := St3 → Gp → (List Da → Gp → Prop) → Prop
abbrev TT3 := St3 → Gp → (Bool → Gp → Prop) → Prop

/-- an L3 reading as an L2 one -/
def lift (K : PySem.W.Frag) (t : TE3) : TE := fun σ H Q => ∃ τ G Q3, Sz K H τ σ ∧ R0 K H G ∧ t τ G Q3 ∧
  ∀ v H' d G', Go H G H' G' → R0 K H' G' → Dz K H' d v → Q3 d G' → Q v H'
def liftL (K : PySem.W.Frag) (t : TL3) : TE := fun σ H Q => ∃ τ G Q3, Sz K H τ σ ∧ R0 K H G ∧ t τ G Q3 ∧
  ∀ p xs H' ds G', Go H G H' G' → R0 K H' G' → H p = none → H' p = some (.lst xs) → G' p = none → Dzs K H' ds xs → Q3 ds G' → Q (.ref p) H'
def liftT (K : PySem.W.Frag) (t : TT3) : TT := fun σ H Q => ∃ τ G Q3, Sz K H τ σ ∧ R0 K H G ∧ t τ G Q3 ∧
  ∀ b H' G', Go H G H' G' → R0 K H' G' → Q3 b G' → Q b H'
abbrev TA3 := St3 → Gp → (List Da → Gp → Prop) → Prop
def liftA (K : PySem.W.Frag) (t : TA3) : TA := fun σ H Q => ∃ τ G Q3, Sz K H τ σ ∧ R0 K H G ∧ t τ G Q3 ∧
  ∀ vs H' ds G', Go H G H' G' → R0 K H' G' → Dzs K H' ds vs → Q3 ds G' → Q vs H'

abbrev PE3 (X : Cx) (e : Expr) (t : TE3) : Prop := PE X e (lift X.K t)
abbrev PL3 (X : Cx) (e : Expr) (t : TL3) : Prop := PE X e (liftL X.K t)
abbrev PT3 (X : Cx) (e : Expr) (t : TT3) : Prop := PT X e (liftT X.K t)
abbrev PW3 (X : Cx) (e : Expr) (t : TT3) : Prop := PW X e (liftT X.K t)
abbrev PA3 (X : Cx) (es : List Expr) (t : TA3) : Prop := PA X es (liftA X.K t)

theorem pe_imp {X : Cx} {e : Expr} {t t' : TE} (h : PE X e t) (w : ∀ σ H Q, t' σ H Q → t σ H Q) : PE X e t' :=
  ⟨fun pins s σ H Q I q => h.run pins s σ H Q I (w σ H Q q)⟩
theorem pt_imp {X : Cx} {e : Expr} {t t' : TT} (h : PT X e t) (w : ∀ σ H Q, t' σ H Q → t σ H Q) : PT X e t' :=
  ⟨fun pins s σ H Q I q => h.run pins s σ H Q I (w σ H Q q)⟩
theorem pw_imp {X : Cx} {e : Expr} {t t' : TT} (h : PW X e t) (w : ∀ σ H Q, t' σ H Q → t σ H Q) : PW X e t' :=
  ⟨fun wh pins s σ H Q I q => h.run wh pins s σ H Q I (w σ H Q q)⟩
theorem pa_imp {X : Cx} {es : List Expr} {t t' : TA} (h : PA X es t) (w : ∀ σ H Q, t' σ H Q → t σ H Q) : PA X es t' :=
  ⟨fun pos pins s σ H Q I q => h.run pos pins s σ H Q I (w σ H Q q)⟩
theorem ps_imp {X : Cx} {e : Stmt} {t t' : TS} (h : PS X e t) (w : ∀ D σ H, t' D σ H → t D σ H) : PS X e t' :=
  ⟨fun pins s σ H D I q => h.run pins s σ H D I (w D σ H q)⟩
theorem pss_imp {X : Cx} {e : List Stmt} {t t' : TS} (h : PSs X e t) (w : ∀ D σ H, t' D σ H → t D σ H) : PSs X e t' :=
  ⟨fun pins s σ H D I q => h.run pins s σ H D I (w D σ H q)⟩

/-- running a lifted reading from a state that is represented -/
theorem lift_run {K : PySem.W.Frag} {t : TE3} {σ : St} {H : Hp} {Q : VK} {τ : St3} {G : Gp} {Q3 : VK3} (s : Sz K H τ σ) (r : R0 K H G) (h : t τ G Q3)
    (k : ∀ v H' d G', Go H G H' G' → R0 K H' G' → Sz K H' τ σ → Dz K H' d v → Q3 d G' → Q v H') : lift K t σ H Q :=
  ⟨τ, G, Q3, s, r, h, fun v H' d G' g r' z q => k v H' d G' g r' (s.mono (g.tk r)) z q⟩
theorem liftL_run {K : PySem.W.Frag} {t : TL3} {σ : St} {H : Hp} {Q : VK} {τ : St3} {G : Gp} {Q3 : List Da → Gp → Prop} (s : Sz K H τ σ) (r : R0 K H G) (h : t τ G Q3)
    (k : ∀ p xs H' ds G', Go H G H' G' → R0 K H' G' → Sz K H' τ σ → H p = none → H' p = some (.lst xs) → G' p = none → Dzs K H' ds xs → Q3 ds G' → Q (.ref p) H') : liftL K t σ H Q :=
  ⟨τ, G, Q3, s, r, h, fun p xs H' ds G' g r' n e n' z q => k p xs H' ds G' g r' (s.mono (g.tk r)) n e n' z q⟩
theorem liftT_run {K : PySem.W.Frag} {t : TT3} {σ : St} {H : Hp} {Q : Bool → Hp → Prop} {τ : St3} {G : Gp} {Q3 : Bool → Gp → Prop} (s : Sz K H τ σ) (r : R0 K H G) (h : t τ G Q3)
    (k : ∀ b H' G', Go H G H' G' → R0 K H' G' → Sz K H' τ σ → Q3 b G' → Q b H') : liftT K t σ H Q :=
  ⟨τ, G, Q3, s, r, h, fun b H' G' g r' q => k b H' G' g r' (s.mono (g.tk r)) q⟩
theorem liftA_run {K : PySem.W.Frag} {t : TA3} {σ : St} {H : Hp} {Q : List V → Hp → Prop} {τ : St3} {G : Gp} {Q3 : List Da → Gp → Prop} (s : Sz K H τ σ) (r : R0 K H G) (h : t τ G Q3)
    (k : ∀ vs H' ds G', Go H G H' G' → R0 K H' G' → Sz K H' τ σ → Dzs K H' ds vs → Q3 ds G' → Q vs H') : liftA K t σ H Q :=
  ⟨τ, G, Q3, s, r, h, fun vs H' ds G' g r' z q => k vs H' ds G' g r' (s.mono (g.tk r)) z q⟩

/-! heap steps -/
theorem R0.new {K : PySem.W.Frag} {H : Hp} {G : Gp} {p : Addr} {o : HO} (r : R0 K H G) (h : H p = none) : Go H G (upd H p o) G :=
  ⟨fun q u e g => ⟨by rw [upd_ne (ne_of_none e h)]; exact e, g⟩, fun q e => by
    unfold upd
    split
    · exact fun z => nomatch z
    · exact e⟩
theorem AOk.ex {K : PySem.W.Frag} {H H' : Hp} {a : Addr} {o : AO} (h : AOk K H a o) (e : ∀ u, H a = some u → H' a = some u) (t : Tk H H') : AOk K H' a o := by
  cases o with
  | lst ds => obtain ⟨xs, h1, h2⟩ := h; exact ⟨xs, e _ h1, Dzs.mono t _ _ h2⟩
  | dK ds => obtain ⟨xs, h1, h2⟩ := h; exact ⟨xs, e _ h1, h2.mono t⟩
  | dT ds => obtain ⟨xs, h1, h2⟩ := h; exact ⟨xs, e _ h1, h2.mono t⟩
  | ins C fs => obtain ⟨dx, xs, h1, h2⟩ := h; exact ⟨dx, xs, e _ h1, h2.mono t⟩
theorem R0.gnone {K : PySem.W.Frag} {H : Hp} {G : Gp} {p : Addr} (r : R0 K H G) (h : H p = none) : G p = none := by
  cases e : G p with
  | none => rfl
  | some o => exact absurd h (r p o e).there
/-- a new untracked object -/
theorem go_new {H : Hp} {G : Gp} {p : Addr} {o : HO} (h : H p = none) : Go H G (upd H p o) G :=
  ⟨fun q u e g => ⟨by rw [upd_ne (ne_of_none e h)]; exact e, g⟩, fun q e => by
    unfold upd
    split
    · exact fun z => nomatch z
    · exact e⟩
theorem tk_new {H : Hp} {p : Addr} {o : HO} (h : H p = none) : Tk H (upd H p o) := fun a u f e => by
  rw [upd_ne (ne_of_none e h)]; exact e
theorem r0_new {K : PySem.W.Frag} {H : Hp} {G : Gp} {p : Addr} {o : HO} (r : R0 K H G) (h : H p = none) : R0 K (upd H p o) G := fun a u e =>
  (r a u e).ex (fun v z => by rw [upd_ne (ne_of_none z h)]; exact z) (tk_new h)
/-- .. tracked -/
theorem go_track {H : Hp} {G : Gp} {p : Addr} {o : HO} {ao : AO} (h : H p = none) : Go H G (upd H p o) (up G p ao) :=
  ⟨fun q u e g => ⟨by rw [upd_ne (ne_of_none e h)]; exact e, by rw [up_ne (ne_of_none e h)]; exact g⟩, (go_new (G := G) h).dom⟩
theorem r0_track {K : PySem.W.Frag} {H : Hp} {G : Gp} {p : Addr} {o : HO} {ao : AO} (r : R0 K H G) (h : H p = none) (a : AOk K (upd H p o) p ao) : R0 K (upd H p o) (up G p ao) := fun b u e => by
  by_cases hb : b = p
  · subst hb
    rw [up_same] at e
    cases e
    exact a
  · rw [up_ne hb] at e
    exact r0_new r h b u e
/-- what is there already is tracked from now on -/
theorem go_show {H : Hp} {G : Gp} {p : Addr} {ao : AO} {H' : Hp} {G' : Gp} (g : Go H G H' G') (h : H p = none) : Go H G H' (up G' p ao) :=
  ⟨fun q u e z => ⟨(g.hid q u e z).1, by rw [up_ne (ne_of_none e h)]; exact (g.hid q u e z).2⟩, g.dom⟩
theorem r0_show {K : PySem.W.Frag} {H : Hp} {G : Gp} {p : Addr} {ao : AO} (r : R0 K H G) (a : AOk K H p ao) : R0 K H (up G p ao) := fun b u e => by
  by_cases hb : b = p
  · subst hb
    rw [up_same] at e
    cases e
    exact a
  · rw [up_ne hb] at e
    exact r b u e
/-- a tracked object is written -/
theorem tk_write {K : PySem.W.Frag} {H : Hp} {G : Gp} {p : Addr} {o : HO} {ao : AO} (r : R0 K H G) (h : G p = some ao) : Tk H (upd H p o) := fun a u f e => by
  have : a ≠ p := fun z => by
    subst z
    exact (r a ao h).nofix f e
  rw [upd_ne this]; exact e
theorem go_write {H : Hp} {G : Gp} {p : Addr} {o : HO} {ao ao' : AO} (h : G p = some ao) : Go H G (upd H p o) (up G p ao') :=
  ⟨fun q u e g => by
    have : q ≠ p := fun z => by
      subst z
      rw [h] at g; cases g
    rw [upd_ne this, up_ne this]
    exact ⟨e, g⟩, (fun q e => by
    unfold upd
    split
    · exact fun z => nomatch z
    · exact e)⟩
theorem r0_write {K : PySem.W.Frag} {H : Hp} {G : Gp} {p : Addr} {o : HO} {ao ao' : AO} (r : R0 K H G) (h : G p = some ao) (a : AOk K (upd H p o) p ao') : R0 K (upd H p o) (up G p ao') := fun b u e => by
  by_cases hb : b = p
  · subst hb
    rw [up_same] at e
    cases e
    exact a
  · rw [up_ne hb] at e
    exact (r b u e).ex (fun v z => by rw [upd_ne hb]; exact z) (tk_write r h)
end Lw
namespace Lw
open PySem L2

abbrev O3 := Da → Da → Gp → VK3 → Prop
def Cnt (K : PySem.W.Frag) (H : Hp) (G : Gp) (Q3 : VK3) (Q : VK) : Prop := ∀ v H' d G', Go H G H' G' → R0 K H' G' → Dz K H' d v → Q3 d G' → Q v H'
theorem Cnt.here {K : PySem.W.Frag} {H : Hp} {G : Gp} {Q3 : VK3} {Q : VK} (k : Cnt K H G Q3 Q) (r : R0 K H G) {v : V} {d : Da} (z : Dz K H d v) (q : Q3 d G) : Q v H := k v H d G (Go.refl H G) r z q
theorem Cnt.after {K : PySem.W.Frag} {H H1 : Hp} {G G1 : Gp} {Q3 : VK3} {Q : VK} (k : Cnt K H G Q3 Q) (g : Go H G H1 G1) : Cnt K H1 G1 Q3 Q := fun v H' d G' g' r z q => k v H' d G' (g.trans g') r z q
/-- a new tuple as a value -/
theorem Cnt.tup {K : PySem.W.Frag} {H : Hp} {G : Gp} {Q3 : VK3} {Q : VK} (k : Cnt K H G Q3 Q) (r : R0 K H G) {ds : List Da} {xs : List V} (z : Dzs K H ds xs) (q : Q3 (.tup ds) G) (p : Addr) (h : H p = none) : Q (.ref p) (upd H p (.tup xs)) :=
  k _ _ (.tup ds) G (go_new h) (r0_new r h) ⟨p, xs, rfl, .inl upd_same, Dzs.mono (tk_new h) _ _ z⟩ q

def OImp (K : PySem.W.Frag) (r : R2) (r3 : O3) : Prop := ∀ H G dx dy x y Q3 Q, R0 K H G → Dz K H dx x → Dz K H dy y → r3 dx dy G Q3 → Cnt K H G Q3 Q → r x y H Q
def eOp (r3 : O3) (ta tb : TE3) : TE3 := fun τ G Q => ta τ G fun x G1 => tb τ G1 fun y G2 => r3 x y G2 Q

section
variable {X : Cx} {a b c e : Expr} {ta tb tc te : TE3} {pos : Pos} {r r' : R2} {r3 r3' : O3}
theorem op_lift {K : PySem.W.Frag} (w : OImp K r r3) (σ : St) (H : Hp) (Q : VK) (h : lift K (eOp r3 ta tb) σ H Q) : tOp r (lift K ta) (lift K tb) σ H Q := by
  obtain ⟨τ, G, Q3, s, rr, h, k⟩ := h
  refine lift_run s rr h fun v H1 d G1 g1 r1 s1 z1 q1 => ?_
  refine lift_run s1 r1 q1 fun v2 H2 d2 G2 g2 r2 s2 z2 q2 => ?_
  exact w H2 G2 d d2 v v2 Q3 Q r2 (Dz.mono (g2.tk r1) _ _ z1) z2 q2 (Cnt.after (H := H) (G := G) k (g1.trans g2))
theorem e_op {op : Operator} (ho : OpR X (binaryOp op) r) (w : OImp X.K r r3) (ha : PE3 X a ta) (hb : PE3 X b tb) : PE3 X (.BinOp a op b pos) (eOp r3 ta tb) :=
  pe_imp (pe_op ho ha hb) (op_lift w)
theorem e_cmp {op : CmpOp} (ho : OpR X (compareOp op) r) (w : OImp X.K r r3) (ha : PE3 X a ta) (hb : PE3 X b tb) (hm : behindInMarks op b = false := by first | exact nomark _ | rfl) : PE3 X (.Compare a [op] [b] pos) (eOp r3 ta tb) :=
  pe_imp (pe_cmpR ho ha hb hm) (op_lift w)

def eChain (r3 r3' : O3) (ta tb tc : TE3) : TE3 := fun τ G Q => ta τ G fun x G1 => tb τ G1 fun y G2 => r3 x y G2 fun z G3 => ∃ k, z = .bl k ∧ (if k = true then tc τ G3 fun w' G4 => r3' y w' G4 Q else Q (.bl false) G3)
theorem e_chain {op op' : CmpOp} (ho : OpR X (compareOp op) r) (w : OImp X.K r r3) (ho' : OpR X (compareOp op') r') (w' : OImp X.K r' r3') (ha : PE3 X a ta) (hb : PE3 X b tb) (hc : PE3 X c tc)
    (hm : lastMarks [op, op'] [b, c] = false := by with_unfolding_all rfl) : PE3 X (.Compare a [op, op'] [b, c] pos) (eChain r3 r3' ta tb tc) :=
  pe_imp (pe_chain ho ho' ha hb hc hm) fun σ H Q h => by
    obtain ⟨τ, G, Q3, s, rr, h, k⟩ := h
    refine lift_run s rr h fun v H1 d G1 g1 r1 s1 z1 q1 => ?_
    refine lift_run s1 r1 q1 fun v2 H2 d2 G2 g2 r2 s2 z2 q2 => ?_
    refine w H2 G2 d d2 v v2 _ _ r2 (Dz.mono (g2.tk r1) _ _ z1) z2 q2 fun v3 H3 d3 G3 g3 r3 z3 q3 => ?_
    obtain ⟨kk, rfl, q3⟩ := q3
    refine ⟨kk, z3, ?_⟩
    cases kk with
    | true =>
      rw [if_pos rfl] at q3 ⊢
      refine lift_run (s2.mono (g3.tk r2)) r3 q3 fun v4 H4 d4 G4 g4 r4 s4 z4 q4 => ?_
      exact w' H4 G4 d2 d4 v2 v4 Q3 Q r4 (Dz.mono ((g3.tk r2).trans (g4.tk r3)) _ _ z2) z4 q4 (Cnt.after (H := H) (G := G) k (g1.trans (g2.trans (g3.trans g4))))
    | false =>
      rw [if_neg Bool.false_ne_true] at q3 ⊢
      exact k _ H3 (.bl false) G3 (g1.trans (g2.trans g3)) r3 rfl q3

/-! names and constants -/
def eV (i : Nat) : TE3 := fun τ G Q => ∃ d, τ[i]? = some (some d) ∧ Q d G
def eC (d : Da) : TE3 := fun _ G Q => Q d G
theorem e_var {i : Nat} (h : PE X e (tVar i)) : PE3 X e (eV i) := pe_imp h fun σ H Q h => by
  obtain ⟨τ, G, Q3, s, rr, ⟨d, e, h⟩, k⟩ := h
  obtain ⟨v, e2, z⟩ := s.get e
  exact ⟨v, e2, k v H d G (Go.refl H G) rr z h⟩
theorem v (i : Nat) {x : Str} {pos : Pos} (hN : X.N[i]? = some x := by rfl) (hv : Vis X.env.scope x := by first | exact Or.inl rfl | exact Or.inr (Or.inl rfl) | exact Or.inr (Or.inr rfl)) (hd : (x == ("__debug__" : Str)) = false := by decide)
    (hcd : (x == ("__classdict__" : Str)) = false := by decide) : PE3 X (.Name x pos) (eV i) := e_var (pe_var hN hv hd hcd)
theorem e_const {d : Da} {w : V} (h : PE X e (tC w)) (z : ∀ H, Dz X.K H d w) : PE3 X e (eC d) := pe_imp h fun σ H Q h => by
  obtain ⟨τ, G, Q3, s, rr, h, k⟩ := h
  exact k w H d G (Go.refl H G) rr (z H) h
theorem e_int {i j pos} : PE3 X (.Constant (.int i) j pos) (eC (.int i)) := e_const pe_int fun _ => rfl
theorem e_bl {i j pos} : PE3 X (.Constant (.bool i) j pos) (eC (.bl i)) := e_const pe_bl fun _ => rfl
theorem e_non {j pos} : PE3 X (.Constant .none j pos) (eC .non) := e_const pe_non fun _ => rfl
theorem e_str {i j pos} : PE3 X (.Constant (.str i) j pos) (eC (.str i)) := e_const pe_str fun _ => rfl
/-- a module's constant -/
theorem e_gl {x : Str} {d : Da} {w : V} {u : Value} {pos : Pos} (hm : X.mg x = some u) (r : RelV w u) (z : ∀ H, Dz X.K H d w) (hg : Gl X x := by rfl) (hd : (x == ("__debug__" : Str)) = false := by decide) : PE3 X (.Name x pos) (eC d) := e_const (pe_glob hg hm r hd) z
theorem e_gi {x : Str} {i : Int} {t : Tok} {pos : Pos} (hm : X.mg x = some (.int i t)) (hg : Gl X x := by rfl) (hd : (x == ("__debug__" : Str)) = false := by decide) : PE3 X (.Name x pos) (eC (.int i)) := e_gl (w := .int i) (d := .int i) hm ⟨t, rfl⟩ (fun _ => rfl) hg hd
theorem e_gs {x : Str} {i : Str} {t : Tok} {pos : Pos} (hm : X.mg x = some (.str i t)) (hg : Gl X x := by rfl) (hd : (x == ("__debug__" : Str)) = false := by decide) : PE3 X (.Name x pos) (eC (.str i)) := e_gl (w := .str i) (d := .str i) hm ⟨t, rfl⟩ (fun _ => rfl) hg hd
/-- a built-in's class as a value -/
theorem e_ty {x : Str} {n : String} {pos : Pos} (hm : X.mg x = none) (hv : bootBuiltins x = some (.type n)) (hg : Gl X x := by rfl) (hn : x ≠ "__name__" := by decide) (hd : (x == ("__debug__" : Str)) = false := by decide) : PE3 X (.Name x pos) (eC (.ty n)) := e_const (pe_bltn hg hm hv (v := .ty n) rfl hn hd) fun _ => rfl

/-! and, or, not, if as values -/
def eAnd (ta tb : TE3) : TE3 := fun τ G Q => ta τ G fun x G1 => ∃ c, x = .bl c ∧ if c = true then tb τ G1 Q else Q (.bl false) G1
def eOr (ta tb : TE3) : TE3 := fun τ G Q => ta τ G fun x G1 => ∃ c, x = .bl c ∧ if c = true then Q (.bl true) G1 else tb τ G1 Q
def eNot (ta : TE3) : TE3 := fun τ G Q => ta τ G fun x G1 => ∃ c, x = .bl c ∧ Q (.bl (!c)) G1
theorem e_one {op} (h : PE3 X a ta) : PE3 X (.BoolOp op [a] pos) ta := pe_one h
theorem e_and {rest : List Expr} (ha : PE3 X a ta) (hb : PE3 X (.BoolOp .And (b :: rest) pos) tb) : PE3 X (.BoolOp .And (a :: b :: rest) pos) (eAnd ta tb) := pe_imp (pe_and ha hb) fun σ H Q h => by
  obtain ⟨τ, G, Q3, s, rr, h, k⟩ := h
  refine lift_run s rr h fun v H1 d G1 g1 r1 s1 z1 q1 => ?_
  obtain ⟨c, rfl, q1⟩ := q1
  refine ⟨c, z1, ?_⟩
  cases c with
  | true =>
    rw [if_pos rfl] at q1 ⊢
    exact lift_run s1 r1 q1 fun v2 H2 d2 G2 g2 r2 s2 z2 q2 => k v2 H2 d2 G2 (g1.trans g2) r2 z2 q2
  | false =>
    rw [if_neg Bool.false_ne_true] at q1 ⊢
    exact k _ H1 (.bl false) G1 g1 r1 rfl q1
theorem e_or {rest : List Expr} (ha : PE3 X a ta) (hb : PE3 X (.BoolOp .Or (b :: rest) pos) tb) : PE3 X (.BoolOp .Or (a :: b :: rest) pos) (eOr ta tb) := pe_imp (pe_or ha hb) fun σ H Q h => by
  obtain ⟨τ, G, Q3, s, rr, h, k⟩ := h
  refine lift_run s rr h fun v H1 d G1 g1 r1 s1 z1 q1 => ?_
  obtain ⟨c, rfl, q1⟩ := q1
  refine ⟨c, z1, ?_⟩
  cases c with
  | true =>
    rw [if_pos rfl] at q1 ⊢
    exact k _ H1 (.bl true) G1 g1 r1 rfl q1
  | false =>
    rw [if_neg Bool.false_ne_true] at q1 ⊢
    exact lift_run s1 r1 q1 fun v2 H2 d2 G2 g2 r2 s2 z2 q2 => k v2 H2 d2 G2 (g1.trans g2) r2 z2 q2
theorem e_not (ha : PE3 X a ta) : PE3 X (.UnaryOp .Not a pos) (eNot ta) := pe_imp (pe_not ha) fun σ H Q h => by
  obtain ⟨τ, G, Q3, s, rr, h, k⟩ := h
  refine lift_run s rr h fun v H1 d G1 g1 r1 s1 z1 q1 => ?_
  obtain ⟨c, rfl, q1⟩ := q1
  exact ⟨c, z1, k _ H1 (.bl (!c)) G1 g1 r1 rfl q1⟩

/-! tests -/
def tB3 (te : TE3) : TT3 := fun τ G Q => te τ G fun x G1 => ∃ c, x = .bl c ∧ Q c G1
def tNot3 (t : TT3) : TT3 := fun τ G Q => t τ G fun b G1 => Q (!b) G1
def tAnd3 (t u : TT3) : TT3 := fun τ G Q => t τ G fun c G1 => if c = true then u τ G1 Q else Q false G1
def tOr3 (t u : TT3) : TT3 := fun τ G Q => t τ G fun c G1 => if c = true then Q true G1 else u τ G1 Q
variable {tt tu : TT3} {rest : List Expr}
theorem tB_lift {K : PySem.W.Frag} (σ : St) (H : Hp) (Q : Bool → Hp → Prop) (h : liftT K (tB3 te) σ H Q) : tB (lift K te) σ H Q := by
  obtain ⟨τ, G, Q3, s, rr, h, k⟩ := h
  refine lift_run s rr h fun v H1 d G1 g1 r1 s1 z1 q1 => ?_
  obtain ⟨c, rfl, q1⟩ := q1
  exact ⟨c, z1, k _ H1 G1 g1 r1 q1⟩
theorem t_val (h : PE3 X e te) (he : ∀ whole, isTrue e X.env whole = (do let v ← whole; standAt e.pos; holding [v] (truthy v)) := by intro _; rfl) : PT3 X e (tB3 te) := pt_imp (pt_val h he) tB_lift
theorem t_cmp {op : CmpOp} (ho : OpR X (compareOp op) r) (w : OImp X.K r r3) (ha : PE3 X a ta) (hb : PE3 X b tb) (hm : behindInMarks op b = false := by first | exact nomark _ | rfl) : PT3 X (.Compare a [op] [b] pos) (tB3 (eOp r3 ta tb)) :=
  pt_imp (pt_cmpR ho ha hb hm) fun σ H Q h => by
    obtain ⟨τ, G, Q3, s, rr, h, k⟩ := h
    refine op_lift w σ H (fun x H' => ∃ k, x = .bl k ∧ Q k H') ⟨τ, G, _, s, rr, h, fun v H1 d G1 g1 r1 z1 q1 => ?_⟩
    obtain ⟨c, rfl, q1⟩ := q1
    exact ⟨c, z1, k _ H1 G1 g1 r1 q1⟩
theorem t_chain {op op' : CmpOp} (ho : OpR X (compareOp op) r) (w : OImp X.K r r3) (ho' : OpR X (compareOp op') r') (w' : OImp X.K r' r3') (ha : PE3 X a ta) (hb : PE3 X b tb) (hc : PE3 X c tc)
    (hm : lastMarks [op, op'] [b, c] = false := by with_unfolding_all rfl) : PT3 X (.Compare a [op, op'] [b, c] pos) (tB3 (eChain r3 r3' ta tb tc)) :=
  pt_imp (pt_chain ho ho' ha hb hc hm) fun σ H Q h => by
    obtain ⟨τ, G, Q3, s, rr, h, k⟩ := h
    refine lift_run s rr h fun v H1 d G1 g1 r1 s1 z1 q1 => ?_
    refine lift_run s1 r1 q1 fun v2 H2 d2 G2 g2 r2 s2 z2 q2 => ?_
    refine w H2 G2 d d2 v v2 _ _ r2 (Dz.mono (g2.tk r1) _ _ z1) z2 q2 fun v3 H3 d3 G3 g3 r3 z3 q3 => ?_
    obtain ⟨kk, rfl, q3⟩ := q3
    refine ⟨kk, z3, ?_⟩
    cases kk with
    | true =>
      rw [if_pos rfl] at q3 ⊢
      refine lift_run (s2.mono (g3.tk r2)) r3 q3 fun v4 H4 d4 G4 g4 r4 s4 z4 q4 => ?_
      refine w' H4 G4 d2 d4 v2 v4 _ _ r4 (Dz.mono ((g3.tk r2).trans (g4.tk r3)) _ _ z2) z4 q4 fun v5 H5 d5 G5 g5 r5 z5 q5 => ?_
      obtain ⟨c5, rfl, q5⟩ := q5
      exact ⟨c5, z5, k _ H5 G5 (g1.trans (g2.trans (g3.trans (g4.trans g5)))) r5 q5⟩
    | false =>
      rw [if_neg Bool.false_ne_true] at q3 ⊢
      obtain ⟨c5, e5, q5⟩ := q3
      cases e5
      exact ⟨false, rfl, k _ H3 G3 (g1.trans (g2.trans g3)) r3 q5⟩
theorem t_not (h : PT3 X a tt) : PT3 X (.UnaryOp .Not a pos) (tNot3 tt) := pt_imp (pt_not h) fun σ H Q h => by
  obtain ⟨τ, G, Q3, s, rr, h, k⟩ := h
  exact liftT_run s rr h fun b H1 G1 g1 r1 s1 q1 => k _ H1 G1 g1 r1 q1
theorem w_and1 (ha : PT3 X a tt) : PW3 X (.BoolOp .And [a] pos) tt := pw_and1 ha
theorem w_or1 (ha : PT3 X a tt) : PW3 X (.BoolOp .Or [a] pos) tt := pw_or1 ha
theorem w_and (ha : PT3 X a tt) (hb : PW3 X (.BoolOp .And (b :: rest) pos) tu) : PW3 X (.BoolOp .And (a :: b :: rest) pos) (tAnd3 tt tu) := pw_imp (pw_and ha hb) fun σ H Q h => by
  obtain ⟨τ, G, Q3, s, rr, h, k⟩ := h
  refine liftT_run s rr h fun c H1 G1 g1 r1 s1 q1 => ?_
  cases c with
  | true =>
    rw [if_pos rfl] at q1 ⊢
    exact liftT_run s1 r1 q1 fun v2 H2 G2 g2 r2 s2 q2 => k v2 H2 G2 (g1.trans g2) r2 q2
  | false =>
    rw [if_neg Bool.false_ne_true] at q1 ⊢
    exact k _ H1 G1 g1 r1 q1
theorem w_or (ha : PT3 X a tt) (hb : PW3 X (.BoolOp .Or (b :: rest) pos) tu) : PW3 X (.BoolOp .Or (a :: b :: rest) pos) (tOr3 tt tu) := pw_imp (pw_or ha hb) fun σ H Q h => by
  obtain ⟨τ, G, Q3, s, rr, h, k⟩ := h
  refine liftT_run s rr h fun c H1 G1 g1 r1 s1 q1 => ?_
  cases c with
  | true =>
    rw [if_pos rfl] at q1 ⊢
    exact k _ H1 G1 g1 r1 q1
  | false =>
    rw [if_neg Bool.false_ne_true] at q1 ⊢
    exact liftT_run s1 r1 q1 fun v2 H2 G2 g2 r2 s2 q2 => k v2 H2 G2 (g1.trans g2) r2 q2
theorem w_pt (h : PW3 X e tt) : PT3 X e tt := h.pt
def eIf (t : TT3) (ta tb : TE3) : TE3 := fun τ G Q => t τ G fun c G1 => if c = true then ta τ G1 Q else tb τ G1 Q
theorem e_if (hc : PT3 X c tt) (ha : PE3 X a ta) (hb : PE3 X b tb) : PE3 X (.IfExp c a b pos) (eIf tt ta tb) := pe_imp (pe_ifExp hc ha hb) fun σ H Q h => by
  obtain ⟨τ, G, Q3, s, rr, h, k⟩ := h
  refine liftT_run s rr h fun c H1 G1 g1 r1 s1 q1 => ?_
  cases c with
  | true =>
    rw [if_pos rfl] at q1 ⊢
    exact lift_run s1 r1 q1 fun v2 H2 d2 G2 g2 r2 s2 z2 q2 => k v2 H2 d2 G2 (g1.trans g2) r2 z2 q2
  | false =>
    rw [if_neg Bool.false_ne_true] at q1 ⊢
    exact lift_run s1 r1 q1 fun v2 H2 d2 G2 g2 r2 s2 z2 q2 => k v2 H2 d2 G2 (g1.trans g2) r2 z2 q2

/-! arguments, displays -/
def aNil : TA3 := fun _ G Q => Q [] G
def aCons (te : TE3) (t : TA3) : TA3 := fun τ G Q => te τ G fun x G1 => t τ G1 fun xs G2 => Q (x :: xs) G2
variable {es : List Expr} {tA : TA3}
theorem a_nil : PA3 X [] aNil := pa_imp pa_nil fun σ H Q h => by
  obtain ⟨τ, G, Q3, s, rr, h, k⟩ := h
  exact k [] H [] G (Go.refl H G) rr rfl h
theorem a_cons (ha : PE3 X e te) (hr : PA3 X es tA) (hs : starEach (e :: es) X.env = (false, eval e X.env) :: starEach es X.env := by rfl) : PA3 X (e :: es) (aCons te tA) := pa_imp (pa_cons ha hr hs) fun σ H Q h => by
  obtain ⟨τ, G, Q3, s, rr, h, k⟩ := h
  refine lift_run s rr h fun v H1 d G1 g1 r1 s1 z1 q1 => ?_
  refine liftA_run s1 r1 q1 fun vs H2 ds G2 g2 r2 s2 z2 q2 => ?_
  exact k (v :: vs) H2 (d :: ds) G2 (g1.trans g2) r2 ⟨v, vs, rfl, Dz.mono (g2.tk r1) _ _ z1, z2⟩ q2
/-- (a, b, ..) -/
def eTup (t : TA3) : TE3 := fun τ G Q => t τ G fun ds G1 => ds.length ≤ sizeLine ∧ Q (.tup ds) G1
theorem e_tup {x1} (h : PA3 X es tA) : PE3 X (.Tuple es x1 pos) (eTup tA) := pe_imp (pe_tup h) fun σ H Q h => by
  obtain ⟨τ, G, Q3, s, rr, h, k⟩ := h
  refine liftA_run s rr h fun vs H1 ds G1 g1 r1 s1 z1 q1 => ?_
  obtain ⟨hz, q1⟩ := q1
  exact ⟨by rw [z1.length]; exact hz, Cnt.tup (Q3 := Q3) (Cnt.after (H := H) (G := G) k g1) r1 z1 q1⟩
def lLst (t : TA3) : TL3 := fun τ G Q => t τ G fun ds G1 => ds.length ≤ sizeLine ∧ Q ds G1
theorem none_back {K : PySem.W.Frag} {H H1 : Hp} {G G1 : Gp} (g : Go H G H1 G1) {p : Addr} (h : H1 p = none) : H p = none := by
  cases e : H p with
  | none => rfl
  | some o => exact absurd h (g.dom p (by rw [e]; exact fun z => nomatch z))
theorem l_lst (h : PA3 X es tA) : PL3 X (.List es pos) (lLst tA) := pe_imp (pe_lst h) fun σ H Q h => by
  obtain ⟨τ, G, Q3, s, rr, h, k⟩ := h
  refine liftA_run s rr h fun vs H1 ds G1 g1 r1 s1 z1 q1 => ?_
  obtain ⟨hz, q1⟩ := q1
  refine ⟨by rw [z1.length]; exact hz, fun p hp => ?_⟩
  exact k p vs _ ds G1 (g1.trans (go_new hp)) (r0_new r1 hp) (none_back (K := X.K) g1 hp) upd_same (r1.gnone hp) (Dzs.mono (tk_new hp) _ _ z1) q1
/-- a new list that is kept -/
def eNew (t : TL3) : TE3 := fun τ G Q => t τ G fun ds G1 => ∀ p, G1 p = none → Q (.obj p) (up G1 p (.lst ds))
theorem e_new {tl : TL3} (h : PL3 X e tl) : PE3 X e (eNew tl) := pe_imp h fun σ H Q h => by
  obtain ⟨τ, G, Q3, s, rr, h, k⟩ := h
  refine liftL_run s rr h fun p xs H1 ds G1 g1 r1 s1 hp e1 gp z1 q1 => ?_
  exact k _ H1 (.obj p) _ (go_show g1 hp) (r0_show (ao := .lst ds) r1 ⟨xs, e1, z1⟩) rfl (q1 p gp)
end
end Lw
namespace Lw
open PySem L2

/-! association lists -/
section
variable {κ : Type} [DecidableEq κ]
def look (l : List (κ × Da)) (k : κ) : Option Da := (l.find? fun p => decide (p.1 = k)).map (·.2)
def putA (l : List (κ × Da)) (k : κ) (d : Da) : List (κ × Da) :=
  if (l.any fun p => decide (p.1 = k)) = true then l.map (fun p => if p.1 = k then (p.1, d) else p) else l ++ [(k, d)]
def delA (l : List (κ × Da)) (k : κ) : List (κ × Da) := l.filter fun p => decide (p.1 ≠ k)
theorem look_nil {k : κ} : look ([] : List (κ × Da)) k = none := rfl
theorem look_pos {p : κ × Da} {r : List (κ × Da)} {k : κ} (e : p.1 = k) : look (p :: r) k = some p.2 := by
  unfold look
  rw [List.find?_cons_of_pos (by simpa using e)]; rfl
theorem look_neg {p : κ × Da} {r : List (κ × Da)} {k : κ} (e : ¬ p.1 = k) : look (p :: r) k = look r k := by
  unfold look
  rw [List.find?_cons_of_neg (by simpa using e)]
theorem look_any (k : κ) : ∀ l : List (κ × Da), (l.any fun p => decide (p.1 = k)) = (look l k).isSome
  | [] => rfl
  | p :: r => by
    by_cases e : p.1 = k
    · rw [look_pos e, List.any_cons, decide_eq_true e]; rfl
    · rw [look_neg e, List.any_cons, decide_eq_false e, look_any k r]; rfl
theorem look_map (k j : κ) (y : Da) : ∀ l : List (κ × Da), look (l.map fun p => if p.1 = k then (p.1, y) else p) j = (look l j).map fun x => if j = k then y else x
  | [] => rfl
  | p :: r => by
    rw [List.map_cons]
    by_cases e : p.1 = k
    · rw [if_pos e]
      by_cases e2 : p.1 = j
      · rw [look_pos (p := (p.1, y)) e2, look_pos e2]
        simp [← e2, e]
      · rw [look_neg (p := (p.1, y)) e2, look_neg e2, look_map k j y r]
    · rw [if_neg e]
      by_cases e2 : p.1 = j
      · rw [look_pos e2, look_pos e2]
        have : ¬ j = k := fun z => e (e2.trans z)
        simp [this]
      · rw [look_neg e2, look_neg e2, look_map k j y r]
theorem look_append (j : κ) (m : List (κ × Da)) : ∀ l : List (κ × Da), look (l ++ m) j = (look l j).or (look m j)
  | [] => by simp [look_nil]
  | p :: r => by
    by_cases e : p.1 = j
    · rw [List.cons_append, look_pos e, look_pos e]; rfl
    · rw [List.cons_append, look_neg e, look_neg e, look_append j m r]
theorem look_put (l : List (κ × Da)) (k j : κ) (y : Da) : look (putA l k y) j = if j = k then some y else look l j := by
  unfold putA
  rw [look_any]
  split
  · rename_i h
    rw [look_map]
    by_cases e : j = k
    · subst e
      rw [if_pos rfl]
      obtain ⟨x, hx⟩ := Option.isSome_iff_exists.mp h
      rw [hx]; simp
    · simp [e]
  · rename_i h
    rw [look_append]
    by_cases e : j = k
    · subst e
      have : look l j = none := by simpa using h
      rw [this, if_pos rfl, look_pos (p := (j, y)) rfl]; rfl
    · rw [if_neg e, look_neg (p := (k, y)) (Ne.symm e), look_nil]
      simp
theorem look_del (l : List (κ × Da)) (k j : κ) : look (delA l k) j = if j = k then none else look l j := by
  induction l with
  | nil => simp [delA, look_nil]
  | cons p r ih =>
    unfold delA at ih ⊢
    rw [List.filter_cons]
    by_cases e : p.1 = k
    · rw [if_neg (by simp [e]), ih]
      by_cases e2 : j = k
      · simp [e2]
      · rw [if_neg e2, if_neg e2, look_neg (fun z => e2 (z.symm.trans e))]
    · rw [if_pos (by simp [e])]
      by_cases e2 : p.1 = j
      · rw [look_pos e2, look_pos e2, if_neg (fun z => e (e2.trans z))]
      · rw [look_neg e2, look_neg e2, ih]
theorem len_put (l : List (κ × Da)) (k : κ) (d : Da) : (putA l k d).length ≤ l.length + 1 := by
  unfold putA
  split <;> simp
theorem len_del (l : List (κ × Da)) (k : κ) : (delA l k).length ≤ l.length := List.length_filter_le _ _
theorem len_put_new {l : List (κ × Da)} {k : κ} {d : Da} (h : look l k = none) : (putA l k d).length = l.length + 1 := by
  unfold putA
  rw [look_any, h]
  simp

variable {K : PySem.W.Frag} {H : Hp} {l : List (κ × Da)} {r : List (κ × V)}
theorem KZ.look_some (z : KZ K H l r) {k : κ} {d : Da} (h : look l k = some d) : ∃ v, valV r k = some v ∧ Dz K H d v := by
  induction z with
  | nil => cases h
  | @cons p q l r hp hr ih =>
    obtain ⟨e1, e2⟩ := hp
    by_cases e : p.1 = k
    · rw [look_pos e] at h
      cases h
      exact ⟨q.2, valV_pos (e1.symm.trans e), e2⟩
    · rw [look_neg e] at h
      obtain ⟨v, h1, h2⟩ := ih h
      exact ⟨v, (valV_neg (fun z => e (e1.trans z))).trans h1, h2⟩
theorem KZ.look_none (z : KZ K H l r) {k : κ} (h : look l k = none) : valV r k = none := by
  induction z with
  | nil => rfl
  | @cons p q l r hp hr ih =>
    obtain ⟨e1, e2⟩ := hp
    by_cases e : p.1 = k
    · rw [look_pos e] at h
      cases h
    · rw [look_neg e] at h
      exact (valV_neg (fun z => e (e1.trans z))).trans (ih h)
theorem KZ.isSome (z : KZ K H l r) (k : κ) : (valV r k).isSome = (look l k).isSome := by
  cases e : look l k with
  | none => rw [z.look_none e]; rfl
  | some d =>
    obtain ⟨v, h, _⟩ := z.look_some e
    rw [h]; rfl
theorem KZ.append {κ : Type} {K : PySem.W.Frag} {H : Hp} {l l' : List (κ × Da)} {r r' : List (κ × V)} (z : KZ K H l r) (z' : KZ K H l' r') : KZ K H (l ++ l') (r ++ r') := by
  induction z with
  | nil => exact z'
  | cons h _ ih => exact .cons h ih
theorem KZ.repl (z : KZ K H l r) (k : κ) {d : Da} {v : V} (zd : Dz K H d v) : KZ K H (l.map fun p => if p.1 = k then (p.1, d) else p) (r.map fun q => if q.1 = k then (q.1, v) else q) := by
  induction z with
  | nil => exact .nil
  | @cons p q l r hp hr ih =>
    refine .cons ?_ ih
    show (if p.1 = k then (p.1, d) else p).1 = (if q.1 = k then (q.1, v) else q).1 ∧ Dz K H (if p.1 = k then (p.1, d) else p).2 (if q.1 = k then (q.1, v) else q).2
    rw [← hp.1]
    by_cases e : p.1 = k
    · rw [if_pos e, if_pos e]; exact ⟨rfl, zd⟩
    · rw [if_neg e, if_neg e]; exact hp
theorem KZ.put (z : KZ K H l r) (k : κ) {d : Da} {v : V} (zd : Dz K H d v) : KZ K H (putA l k d) (putK r k v) := by
  unfold putA putK
  rw [look_any, valV_any, z.isSome]
  split
  · exact KZ.repl z k zd
  · exact z.append (.cons ⟨rfl, zd⟩ .nil)
theorem KZ.del (z : KZ K H l r) (k : κ) : KZ K H (delA l k) (dropK r k) := by
  unfold delA dropK
  induction z with
  | nil => exact .nil
  | @cons p q l r hp hr ih =>
    rw [List.filter_cons, List.filter_cons, ← hp.1]
    by_cases e : p.1 = k
    · rw [if_neg (by simp [e]), if_neg (by simp [e])]; exact ih
    · rw [if_pos (by simp [e]), if_pos (by simp [e])]; exact .cons hp ih
end

theorem KZ.field {K : PySem.W.Frag} {H : Hp} {l : List (Str × Da)} {r : List (Str × V)} (z : KZ K H l r) {f : Str} {d : Da} (h : l.lookup f = some d) : ∃ v, r.lookup f = some v ∧ Dz K H d v := by
  induction z with
  | nil => cases h
  | @cons p q l r hp hr ih =>
    obtain ⟨p1, p2⟩ := p
    obtain ⟨q1, q2⟩ := q
    obtain ⟨e1, e2⟩ := hp
    simp only at e1 e2
    subst e1
    rw [List.lookup_cons] at h ⊢
    split at h
    · cases h
      exact ⟨_, rfl, e2⟩
    · exact ih h
theorem KZ.nofield {K : PySem.W.Frag} {H : Hp} {l : List (Str × Da)} {r : List (Str × V)} (z : KZ K H l r) {f : Str} (h : l.lookup f = none) : r.lookup f = none := by
  induction z with
  | nil => rfl
  | @cons p q l r hp hr ih =>
    obtain ⟨p1, p2⟩ := p
    obtain ⟨q1, q2⟩ := q
    obtain ⟨e1, e2⟩ := hp
    simp only at e1 e2
    subst e1
    rw [List.lookup_cons] at h ⊢
    split at h
    · cases h
    · exact ih h
/-- a field put -/
def putD (f : Str) (d : Da) : List (Str × Da) → List (Str × Da)
  | [] => [(f, d)]
  | (g, x) :: r => if g = f then (g, d) :: r else (g, x) :: putD f d r
theorem KZ.store {K : PySem.W.Frag} {H : Hp} {f : Str} {d : Da} {v : V} (zd : Dz K H d v) {l : List (Str × Da)} {r : List (Str × V)} (z : KZ K H l r) : KZ K H (putD f d l) (L2.putF f v r) := by
  induction z with
  | nil => exact .cons ⟨rfl, zd⟩ .nil
  | @cons p q l r hp hr ih =>
    obtain ⟨p1, p2⟩ := p
    obtain ⟨q1, q2⟩ := q
    obtain ⟨e1, e2⟩ := hp
    simp only at e1 e2
    subst e1
    show KZ K H (if p1 = f then (p1, d) :: l else (p1, p2) :: putD f d l) (if p1 = f then (p1, v) :: r else (p1, q2) :: L2.putF f v r)
    by_cases e : p1 = f
    · rw [if_pos e, if_pos e]; exact .cons ⟨rfl, zd⟩ hr
    · rw [if_neg e, if_neg e]; exact .cons ⟨rfl, e2⟩ ih
end Lw
namespace Lw
open PySem L2

section
variable {X : Cx} {a b c e o : Expr} {ta tb tc te td ty tx : TE3} {pos apos cpos : Pos}

/-! fields -/
def eFld (C : Addr) (f : Str) (te : TE3) : TE3 := fun τ G Q => te τ G fun x G1 => ∃ a fs d, x = .obj a ∧ G1 a = some (.ins C fs) ∧ fs.lookup f = some d ∧ Q d G1
theorem e_fld {C : Addr} {f : Str} (cl : Cls X.K C) (na : NoAttr X.K C f) (he : PE3 X e te) (hb : attributeBase e f X.env (eval e X.env) = eval e X.env := by rfl) : PE3 X (.Attribute e f pos) (eFld C f te) :=
  pe_imp (pe_fld he hb) fun σ H Q h => by
    obtain ⟨τ, G, Q3, s, rr, h, k⟩ := h
    refine lift_run s rr h fun v H1 d G1 g1 r1 s1 z1 q1 => ?_
    obtain ⟨a, fs, d', rfl, ga, hl, q1⟩ := q1
    obtain ⟨dx, fvs, ha, kz⟩ := r1 a _ ga
    obtain ⟨w, hw, zw⟩ := kz.field hl
    exact ⟨a, C, dx, fvs, w, z1, ha, cl, na, hw, k w H1 d' G1 g1 r1 zw q1⟩

/-! subscripts -/
theorem atI_z {K : PySem.W.Frag} {H : Hp} {ds : List Da} {xs : List V} {i : Int} {d : Da} (z : Dzs K H ds xs) (h : atI ds i = some d) : ∃ v, atI xs i = some v ∧ Dz K H d v := by
  unfold atI at h ⊢
  rw [z.length]
  cases e : ixN ds.length i with
  | none => rw [e] at h; cases h
  | some j =>
    rw [e] at h
    exact z.get h
def oIxT : O3 := fun x y G Q => ∃ ds i d, x = .tup ds ∧ y = .int i ∧ atI ds i = some d ∧ Q d G
def oIxL : O3 := fun x y G Q => ∃ a ds i d, x = .obj a ∧ y = .int i ∧ G a = some (.lst ds) ∧ atI ds i = some d ∧ Q d G
def oIxS : O3 := fun x y G Q => ∃ ns i n, x = .scr ns ∧ y = .int i ∧ atI ns i = some n ∧ Q (.int n) G
theorem i_ixT {K : PySem.W.Frag} : OImp K (rIxT K) oIxT := fun H G dx dy x y Q3 Q r zx zy h k => by
  obtain ⟨ds, i, d, rfl, rfl, h, q⟩ := h
  obtain ⟨a, xs, rfl, ht, zs⟩ := zx
  obtain ⟨w, hw, zw⟩ := atI_z zs h
  exact ⟨a, xs, i, w, rfl, zy, ht.sq, hw, k.here r zw q⟩
theorem i_ixL {K : PySem.W.Frag} : OImp K (rIxL K) oIxL := fun H G dx dy x y Q3 Q r zx zy h k => by
  obtain ⟨a, ds, i, d, rfl, rfl, ga, h, q⟩ := h
  obtain ⟨xs, ha, zs⟩ := r a _ ga
  obtain ⟨w, hw, zw⟩ := atI_z zs h
  exact ⟨a, xs, i, w, zx, zy, SqL.of ha, hw, k.here r zw q⟩
theorem scr_sq {K : PySem.W.Frag} {H : Hp} {ns : List Int} {v : V} (z : Dz K H (.scr ns) v) : ∃ a, v = .ref a ∧ SqL K H a (ns.map V.int) := by
  obtain ⟨a, e, h⟩ := z
  refine ⟨a, e, ?_⟩
  rcases h with ⟨o, h⟩ | (h | ⟨o, h⟩) | h
  · exact .inl (.inr ⟨o, h⟩)
  · cases h
  · cases h
  · exact .inr h
theorem atI_map {α β : Type} (f : α → β) (l : List α) (i : Int) : atI (l.map f) i = (atI l i).map f := by
  unfold atI
  rw [List.length_map]
  cases ixN l.length i with
  | none => rfl
  | some j => simp
theorem i_ixS {K : PySem.W.Frag} : OImp K (rIxL K) oIxS := fun H G dx dy x y Q3 Q r zx zy h k => by
  obtain ⟨ns, i, n, rfl, rfl, h, q⟩ := h
  obtain ⟨a, rfl, hs⟩ := scr_sq zx
  exact ⟨a, _, i, .int n, rfl, zy, hs, by rw [atI_map, h]; rfl, k.here (d := .int n) r rfl q⟩
theorem e_ixT (ha : PE3 X a ta) (hb : PE3 X b tb) (hs : PlainIx b := by exact fun _ _ => rfl) : PE3 X (.Subscript a b pos) (eOp oIxT ta tb) := pe_imp (pe_ix ix_tup ha hb hs) (op_lift i_ixT)
theorem e_ixL (ha : PE3 X a ta) (hb : PE3 X b tb) (hs : PlainIx b := by exact fun _ _ => rfl) : PE3 X (.Subscript a b pos) (eOp oIxL ta tb) := pe_imp (pe_ix ix_list ha hb hs) (op_lift i_ixL)
theorem e_ixS (ha : PE3 X a ta) (hb : PE3 X b tb) (hs : PlainIx b := by exact fun _ _ => rfl) : PE3 X (.Subscript a b pos) (eOp oIxS ta tb) := pe_imp (pe_ix ix_list ha hb hs) (op_lift i_ixS)
/-- [..][i] -/
def eIxN (tl : TL3) (tb : TE3) : TE3 := fun τ G Q => tl τ G fun ds G1 => tb τ G1 fun y G2 => ∃ i d, y = .int i ∧ atI ds i = some d ∧ Q d G2
theorem e_ixN {tl : TL3} (ha : PL3 X a tl) (hb : PE3 X b tb) (hs : PlainIx b := by exact fun _ _ => rfl) : PE3 X (.Subscript a b pos) (eIxN tl tb) := pe_imp (pe_ix ix_list ha hb hs) fun σ H Q h => by
  obtain ⟨τ, G, Q3, s, rr, h, k⟩ := h
  refine liftL_run s rr h fun p xs H1 ds G1 g1 r1 s1 hp e1 gp z1 q1 => ?_
  refine lift_run s1 r1 q1 fun v2 H2 d2 G2 g2 r2 s2 z2 q2 => ?_
  obtain ⟨i, d, rfl, h, q2⟩ := q2
  obtain ⟨w, hw, zw⟩ := atI_z (Dzs.mono (g2.tk r1) _ _ z1) h
  exact ⟨p, xs, i, w, rfl, z2, SqL.of (g2.hid p _ e1 gp).1, hw, k w H2 d G2 (g1.trans g2) r2 zw q2⟩

/-! dicts -/
def kD : Key → Da
  | .inl i => .int i
  | .inr x => .str x
/-- a tuple key begins with a text -/
def KeyT (k : List Key) : Prop := ∃ x r, k = .inr x :: r
theorem kD_z {K : PySem.W.Frag} {H : Hp} {k : Key} {v : V} (z : Dz K H (kD k) v) : v = kV k := by
  cases k <;> exact z
theorem kDs_z {K : PySem.W.Frag} {H : Hp} : ∀ {ks : List Key} {xs : List V}, Dzs K H (ks.map kD) xs → xs = ks.map kV
  | [], _, h => h
  | k :: ks, _, h => by
    obtain ⟨x, r, rfl, h1, h2⟩ := h
    rw [List.map_cons, kD_z h1, kDs_z h2]
theorem key_at {K : PySem.W.Frag} {H : Hp} {k : List Key} {v : V} (z : Dz K H (.tup (k.map kD)) v) (t : KeyT k) : ∃ b, v = .ref b ∧ H b = some (.tup (k.map kV)) := by
  obtain ⟨a, xs, rfl, ht, zs⟩ := z
  obtain rfl := kDs_z zs
  rcases ht with h | ⟨_, h⟩
  · exact ⟨a, rfl, h⟩
  · obtain ⟨x, r, rfl⟩ := t
    exact absurd rfl (h x (r.map kD))
def oGetK : O3 := fun x y G Q => ∃ a kds i d, x = .obj a ∧ y = .int i ∧ G a = some (.dK kds) ∧ look kds (.inl i) = some d ∧ Q d G
theorem e_dgetK (hu : X.A.units + 1 < cLine) (ha : PE3 X a ta) (hb : PE3 X b tb) (hs : NoSl b := by exact fun _ _ => rfl) : PE3 X (.Subscript a b pos) (eOp oGetK ta tb) :=
  pe_imp (pe_dget hu ha hb hs) (op_lift (r := fun x y H Q => ∃ a v, x = .ref a ∧ DGet H a y (some v) ∧ Q v H) fun H G dx dy x y Q3 Q r zx zy h k => by
    obtain ⟨a, kds, i, d, rfl, rfl, ga, h, q⟩ := h
    obtain ⟨kvs, ha, kz⟩ := r a _ ga
    obtain ⟨w, hw, zw⟩ := kz.look_some h
    obtain rfl : y = kV (.inl i) := zy
    exact ⟨a, w, zx, by rw [← hw]; exact DGet.k ha, k.here r zw q⟩)
def oInK (neg : Bool) : O3 := fun y x G Q => ∃ a kds i, x = .obj a ∧ y = .int i ∧ G a = some (.dK kds) ∧ Q (.bl (if neg then !(look kds (.inl i)).isSome else (look kds (.inl i)).isSome)) G
def oInT : O3 := fun y x G Q => ∃ a kds k, x = .obj a ∧ y = .tup (k.map kD) ∧ KeyT k ∧ G a = some (.dT kds) ∧ Q (.bl (look kds k).isSome) G
theorem i_inK {K : PySem.W.Frag} : OImp K (fun y x H Q => ∃ a o, x = .ref a ∧ DGet H a y o ∧ Q (.bl (!o.isSome)) H) (oInK true) := fun H G dx dy x y Q3 Q r zx zy h k => by
  obtain ⟨a, kds, i, rfl, rfl, ga, q⟩ := h
  obtain ⟨kvs, ha, kz⟩ := r a _ ga
  obtain rfl : x = kV (.inl i) := zx
  refine ⟨a, _, zy, DGet.k ha, ?_⟩
  rw [kz.isSome]
  exact k.here (d := .bl _) r rfl q
theorem i_inT {K : PySem.W.Frag} : OImp K (fun y x H Q => ∃ a o, x = .ref a ∧ DGet H a y o ∧ Q (.bl o.isSome) H) oInT := fun H G dx dy x y Q3 Q r zx zy h k => by
  obtain ⟨a, kds, kk, rfl, rfl, hk, ga, q⟩ := h
  obtain ⟨kvs, ha, kz⟩ := r a _ ga
  obtain ⟨b, rfl, hb⟩ := key_at zx hk
  refine ⟨a, _, zy, DGet.t ha hb, ?_⟩
  rw [kz.isSome]
  exact k.here (d := .bl _) r rfl q
theorem e_notinK (hu : X.A.units + 1 < cLine) (ha : PE3 X a ta) (hb : PE3 X b tb) (h1 : behindInMarks .NotIn b = false := by rfl) : PE3 X (.Compare a [.NotIn] [b] pos) (eOp (oInK true) ta tb) :=
  pe_imp (pe_cmp (pc_dnotin hu ha hb) h1) (op_lift i_inK)
theorem e_inT (hu : X.A.units + 1 < cLine) (ha : PE3 X a ta) (hb : PE3 X b tb) (h1 : behindInMarks .In b = false := by rfl) : PE3 X (.Compare a [.In] [b] pos) (eOp oInT ta tb) :=
  pe_imp (pe_cmp (pc_din hu ha hb) h1) (op_lift i_inT)
theorem t_notinK (hu : X.A.units + 1 < cLine) (ha : PE3 X a ta) (hb : PE3 X b tb) (h1 : behindInMarks .NotIn b = false := by rfl) : PT3 X (.Compare a [.NotIn] [b] pos) (tB3 (eOp (oInK true) ta tb)) :=
  pt_imp (pt_cmp (pc_dnotin hu ha hb) h1) fun σ H Q h => by
    obtain ⟨τ, G, Q3, s, rr, h, k⟩ := h
    refine op_lift i_inK σ H (fun x H' => ∃ c, x = .bl c ∧ Q c H') ⟨τ, G, _, s, rr, h, fun v H1 d G1 g1 r1 z1 q1 => ?_⟩
    obtain ⟨c, rfl, q1⟩ := q1
    exact ⟨c, z1, k _ H1 G1 g1 r1 q1⟩
/-- d.get(k), tuple keys -/
def eGetT (td ty : TE3) : TE3 := fun τ G Q => td τ G fun x G1 => ∃ a kds, x = .obj a ∧ G1 a = some (.dT kds) ∧ ty τ G1 fun y G2 => ∃ kds k, G2 a = some (.dT kds) ∧ y = .tup (k.map kD) ∧ KeyT k ∧ Q ((look kds k).getD .non) G2
theorem e_getT (hu : X.A.units + 1 < cLine) (ho : PE3 X o td) (he : PE3 X e ty) (m : M1 X o "get" apos e cpos := by exact ⟨rfl, rfl, rfl, rfl⟩) : PE3 X (.Call (.Attribute o "get" apos) [e] [] cpos) (eGetT td ty) :=
  pe_imp (pe_dget1 hu ho he m) fun σ H Q h => by
    obtain ⟨τ, G, Q3, s, rr, h, k⟩ := h
    refine lift_run s rr h fun v H1 d G1 g1 r1 s1 z1 q1 => ?_
    obtain ⟨a, kds, rfl, ga, q1⟩ := q1
    obtain ⟨kvs, ha, _⟩ := r1 a _ ga
    refine ⟨a, z1, .inr ⟨kvs, .inl ha⟩, lift_run s1 r1 q1 fun v2 H2 d2 G2 g2 r2 s2 z2 q2 => ?_⟩
    obtain ⟨kds2, kk, ga2, rfl, hk, q2⟩ := q2
    obtain ⟨kvs2, ha2, kz⟩ := r2 a _ ga2
    obtain ⟨b, rfl, hb⟩ := key_at z2 hk
    refine ⟨_, DGet.t ha2 hb, ?_⟩
    cases e : look kds2 kk with
    | none =>
      rw [kz.look_none e]
      rw [e] at q2
      exact k _ H2 .non G2 (g1.trans g2) r2 rfl q2
    | some d =>
      obtain ⟨w, hw, zw⟩ := kz.look_some e
      rw [hw]
      rw [e] at q2
      exact k _ H2 d G2 (g1.trans g2) r2 zw q2
/-- d.get(i, x), number keys -/
def eGetK2 (td ty tx : TE3) : TE3 := fun τ G Q => td τ G fun x G1 => ∃ a kds, x = .obj a ∧ G1 a = some (.dK kds) ∧ ty τ G1 fun y G2 => tx τ G2 fun z G3 => ∃ kds i, G3 a = some (.dK kds) ∧ y = .int i ∧ Q ((look kds (.inl i)).getD z) G3
theorem e_getK2 {f : Expr} (hu : X.A.units + 1 < cLine) (ho : PE3 X o td) (he : PE3 X e ty) (hf : PE3 X f tx) (m : M2 X o "get" apos e f cpos := by exact ⟨rfl, rfl, rfl, rfl⟩) : PE3 X (.Call (.Attribute o "get" apos) [e, f] [] cpos) (eGetK2 td ty tx) :=
  pe_imp (pe_dget2 hu ho he hf m) fun σ H Q h => by
    obtain ⟨τ, G, Q3, s, rr, h, k⟩ := h
    refine lift_run s rr h fun v H1 d G1 g1 r1 s1 z1 q1 => ?_
    obtain ⟨a, kds, rfl, ga, q1⟩ := q1
    obtain ⟨kvs, ha, _⟩ := r1 a _ ga
    refine ⟨a, z1, .inl ⟨kvs, .inl ha⟩, lift_run s1 r1 q1 fun v2 H2 d2 G2 g2 r2 s2 z2 q2 => ?_⟩
    refine lift_run s2 r2 q2 fun v3 H3 d3 G3 g3 r3 s3 z3 q3 => ?_
    obtain ⟨kds2, i, ga2, rfl, q3⟩ := q3
    obtain ⟨kvs2, ha2, kz⟩ := r3 a _ ga2
    obtain rfl : v2 = kV (.inl i) := z2
    refine ⟨_, DGet.k ha2, ?_⟩
    cases e : look kds2 (.inl i) with
    | none =>
      rw [kz.look_none e]
      rw [e] at q3
      exact k _ H3 d3 G3 (g1.trans (g2.trans g3)) r3 z3 q3
    | some d =>
      obtain ⟨w, hw, zw⟩ := kz.look_some e
      rw [hw]
      rw [e] at q3
      exact k _ H3 d G3 (g1.trans (g2.trans g3)) r3 zw q3
/-- d.pop(i), number keys -/
def ePopK (td ty : TE3) : TE3 := fun τ G Q => td τ G fun x G1 => ∃ a kds, x = .obj a ∧ G1 a = some (.dK kds) ∧ ty τ G1 fun y G2 => ∃ kds i d, G2 a = some (.dK kds) ∧ y = .int i ∧ look kds (.inl i) = some d ∧ Q d (up G2 a (.dK (delA kds (.inl i))))
theorem e_popK (ho : PE3 X o td) (he : PE3 X e ty) (m : M1 X o "pop" apos e cpos := by exact ⟨rfl, rfl, rfl, rfl⟩) : PE3 X (.Call (.Attribute o "pop" apos) [e] [] cpos) (ePopK td ty) :=
  pe_imp (pe_dpop1 ho he m) fun σ H Q h => by
    obtain ⟨τ, G, Q3, s, rr, h, k⟩ := h
    refine lift_run s rr h fun v H1 d G1 g1 r1 s1 z1 q1 => ?_
    obtain ⟨a, kds, rfl, ga, q1⟩ := q1
    obtain ⟨kvs, ha, _⟩ := r1 a _ ga
    refine ⟨a, z1, .inl ⟨kvs, .inl ha⟩, lift_run s1 r1 q1 fun v2 H2 d2 G2 g2 r2 s2 z2 q2 => ?_⟩
    obtain ⟨kds2, i, d, ga2, rfl, hl, q2⟩ := q2
    obtain ⟨kvs2, ha2, kz⟩ := r2 a _ ga2
    obtain ⟨w, hw, zw⟩ := kz.look_some hl
    refine ⟨kvs2, .inl i, w, ha2, z2, hw, ?_⟩
    have t := tk_write (o := .dK (dropK kvs2 (.inl i))) r2 ga2
    exact k w _ d _ (g1.trans (g2.trans (go_write ga2))) (r0_write (ao' := .dK (delA kds2 (.inl i))) r2 ga2 ⟨_, upd_same, (kz.del _).mono t⟩) (Dz.mono t _ _ zw) q2

/-! slices of tuples -/
def cutD (xs : List Da) (lo hi : Option Int) : List Da := (xs.drop (HT.sIx xs.length 0 lo)).take (HT.sIx xs.length xs.length hi - HT.sIx xs.length 0 lo)
abbrev TO3 := St3 → Gp → (Option Int → Gp → Prop) → Prop
def liftO (K : PySem.W.Frag) (t : TO3) : TO := fun σ H Q => ∃ τ G Q3, Sz K H τ σ ∧ R0 K H G ∧ t τ G Q3 ∧
  ∀ b H' G', Go H G H' G' → R0 K H' G' → Q3 b G' → Q b H'
abbrev PO3 (X : Cx) (e : Option Expr) (t : TO3) : Prop := PO X e (liftO X.K t)
def oNone : TO3 := fun _ G Q => Q none G
def oSome (te : TE3) : TO3 := fun τ G Q => te τ G fun x G1 => ∃ i, x = .int i ∧ Q (some i) G1
theorem po_imp {e : Option Expr} {t t' : TO} (h : PO X e t) (w : ∀ σ H Q, t' σ H Q → t σ H Q) : PO X e t' :=
  ⟨fun pins s σ H Q I q => h.run pins s σ H Q I (w σ H Q q)⟩
theorem o_none : PO3 X none oNone := po_imp po_none fun σ H Q h => by
  obtain ⟨τ, G, Q3, s, rr, h, k⟩ := h
  exact k none H G (Go.refl H G) rr h
theorem o_some (h : PE3 X e te) : PO3 X (some e) (oSome te) := po_imp (po_some h) fun σ H Q h => by
  obtain ⟨τ, G, Q3, s, rr, h, k⟩ := h
  refine lift_run s rr h fun v H1 d G1 g1 r1 s1 z1 q1 => ?_
  obtain ⟨i, rfl, q1⟩ := q1
  exact ⟨i, z1, k _ H1 G1 g1 r1 q1⟩
theorem liftO_run {K : PySem.W.Frag} {t : TO3} {σ : St} {H : Hp} {Q : Option Int → Hp → Prop} {τ : St3} {G : Gp} {Q3 : Option Int → Gp → Prop} (s : Sz K H τ σ) (r : R0 K H G) (h : t τ G Q3)
    (k : ∀ b H' G', Go H G H' G' → R0 K H' G' → Sz K H' τ σ → Q3 b G' → Q b H') : liftO K t σ H Q :=
  ⟨τ, G, Q3, s, r, h, fun b H' G' g r' q => k b H' G' g r' (s.mono (g.tk r)) q⟩
def eSl (te : TE3) (tl th : TO3) : TE3 := fun τ G Q => te τ G fun x G1 => tl τ G1 fun lo G2 => th τ G2 fun hi G3 => ∃ ds, x = .tup ds ∧ Q (.tup (cutD ds lo hi)) G3
theorem e_sl {lo hi : Option Expr} {tl th : TO3} {p2 : Pos} (he : PE3 X e te) (hl : PO3 X lo tl) (hu : PO3 X hi th) : PE3 X (.Subscript e (.Slice lo hi none p2) pos) (eSl te tl th) :=
  pe_imp (pe_slice sl_tupA he hl hu) fun σ H Q h => by
    obtain ⟨τ, G, Q3, s, rr, h, k⟩ := h
    refine lift_run s rr h fun v H1 d G1 g1 r1 s1 z1 q1 => ?_
    refine liftO_run s1 r1 q1 fun lo H2 G2 g2 r2 s2 q2 => ?_
    refine liftO_run s2 r2 q2 fun hi H3 G3 g3 r3 s3 q3 => ?_
    obtain ⟨ds, rfl, q3⟩ := q3
    obtain ⟨a, xs, rfl, ht, zs⟩ := Dz.mono ((g2.trans g3).tk r1) _ _ z1
    have kk : Cnt X.K H3 G3 Q3 Q := Cnt.after (H := H) (G := G) k (g1.trans (g2.trans g3))
    have hl := zs.length
    refine ⟨a, xs, rfl, ht.sq, fun hw => ?_, fun _ => ?_⟩
    · have e : cutD ds lo hi = ds := by
        unfold cutD
        rw [hl] at hw
        rw [hw.1, hw.2]
        simp
      rw [e] at q3
      exact kk.here r3 (d := .tup ds) ⟨a, xs, rfl, ht, zs⟩ q3
    · refine Cnt.tup kk r3 ?_ q3
      unfold cutD cutV
      rw [hl]
      exact Dzs.take _ (Dzs.drop _ zs)
end
end Lw
namespace Lw
open PySem L2

/-! promises -/
abbrev Sp3 := List Da → Gp → VK3 → Prop
def spl (K : PySem.W.Frag) (S : Sp3) : Sp := fun vs H Q _ => ∃ ds G Q3, Dzs K H ds vs ∧ R0 K H G ∧ S ds G Q3 ∧ Cnt K H G Q3 Q

/-- a def of the module, with what a call of it needs: dd its defaults -/
structure DefOk (P : Program) (w : World) (K : PySem.W.Frag) (mg : Str → Option Value) (base : Heap) (k : Nat) (x : Str) (dd : List Da) (S : Sp3) : Prop where
  ex : ∃ (f : Addr) (fd : FuncData) (ps : List Str) (dvs : List V) (dus : List Value), FnOk P w K mg base CX0 k f fd ps (spl K S) ∧ mg x = some (.ref f) ∧ PySem.W.keepIn K (.ref f) = true ∧
    Binds K fd ps dus ∧ Vals dvs dus ∧ ∀ H, Dzs K H dd dvs
/-- a method of the class at C -/
structure MethOk (P : Program) (w : World) (K : PySem.W.Frag) (mg : Str → Option Value) (base : Heap) (k : Nat) (C : Addr) (m : Str) (dd : List Da) (S : Sp3) : Prop where
  ex : ∃ (f : Addr) (fd : FuncData) (ps : List Str) (dvs : List V) (dus : List Value), FnOk P w K mg base CX0 k f fd ps (spl K S) ∧ Meth K C m f ∧
    Binds K fd ps dus ∧ Vals dvs dus ∧ ∀ H, Dzs K H dd dvs
/-- a class that is made: its __init__ keeps S -/
structure MakeOk (P : Program) (w : World) (K : PySem.W.Frag) (mg : Str → Option Value) (base : Heap) (k : Nat) (C : Addr) (x : Str) (S : Sp3) : Prop where
  ex : ∃ (f : Addr) (fd : FuncData) (ps : List Str), FnOk P w K mg base CX0 k f fd ps (spl K S) ∧ mg x = some (.ref C) ∧ Mk K C f ∧ Binds K fd ps []

section
variable {X : Cx} {e o : Expr} {es : List Expr} {te ta : TE3} {t : TA3} {pos apos p : Pos} {x m : Str} {k j : Nat} {dd : List Da} {S : Sp3} {C : Addr}
def eCall (S : Sp3) (dd : List Da) (t : TA3) : TE3 := fun τ G Q => t τ G fun ds G1 => S (ds ++ dd) G1 Q
theorem call_spl {K : PySem.W.Frag} {H : Hp} {G : Gp} {ds : List Da} {vs : List V} {Q3 : VK3} {Q : VK} {E : XK} (z : Dzs K H ds vs) (r : R0 K H G) (s : S ds G Q3) (k : Cnt K H G Q3 Q) : spl K S vs H Q E := ⟨ds, G, Q3, z, r, s, k⟩
theorem e_call (D : DefOk X.prog X.w X.K X.mg X.base k x dd S) (hr : Room j X.A) (ha : PA3 X (e :: es) t) (hkj : k ≤ j := by decide) (hg : Gl X x := by rfl) (hdb : (x == ("__debug__" : Str)) = false := by decide)
    (he : starEach (e :: es) X.env = (false, eval e X.env) :: starEach es X.env := by rfl) (hpl : (backTo pos (starEach es X.env)).any (·.1) = false := by rfl) : PE3 X (.Call (.Name x p) (e :: es) [] pos) (eCall S dd t) := by
  obtain ⟨f, fd, ps, dvs, dus, F, hm, hk, hb, hd, zd⟩ := D.ex
  refine pe_imp (pe_call F (hr.mono hkj) hg hm hk hb hd pass0 ha hdb he hpl) fun σ H Q h => ?_
  obtain ⟨τ, G, Q3, s, rr, h, kk⟩ := h
  refine liftA_run s rr h fun vs H1 ds G1 g1 r1 s1 z1 q1 => ?_
  exact call_spl (z1.append (zd H1)) r1 q1 (Cnt.after (H := H) (G := G) kk g1)
theorem e_call0 (D : DefOk X.prog X.w X.K X.mg X.base k x dd S) (hr : Room j X.A) (hkj : k ≤ j := by decide) (hg : Gl X x := by rfl) (hdb : (x == ("__debug__" : Str)) = false := by decide) :
    PE3 X (.Call (.Name x p) [] [] pos) (eCall S dd aNil) := by
  obtain ⟨f, fd, ps, dvs, dus, F, hm, hk, hb, hd, zd⟩ := D.ex
  refine pe_imp (pe_call0 F (hr.mono hkj) hg hm hk hb hd pass0 hdb) fun σ H Q h => ?_
  obtain ⟨τ, G, Q3, s, rr, h, kk⟩ := h
  exact call_spl (E := E0) (zd H) rr h kk
def eMeth (C : Addr) (m : Str) (S : Sp3) (dd : List Da) (te : TE3) (t : TA3) : TE3 := fun τ G Q => te τ G fun x G1 => ∃ a fs, x = .obj a ∧ G1 a = some (.ins C fs) ∧ fs.lookup m = none ∧ t τ G1 fun ds G2 => S (x :: (ds ++ dd)) G2 Q
theorem e_meth {pl : Sem Bool} (D : MethOk X.prog X.w X.K X.mg X.base k C m dd S) (c : Cls X.K C) (hr : Room j X.A) (he : PE3 X o te) (ha : PA3 X (e :: es) t) (hkj : k ≤ j := by decide)
    (hst : starEach (e :: es) X.env = (false, eval e X.env) :: starEach es X.env := by rfl) (hpl : (backTo pos (starEach es X.env)).any (·.1) = false := by rfl)
    (ht : eval (.Call (.Attribute o m apos) (e :: es) [] pos) X.env = (do
      let ov ← eval o X.env
      standAt apos.atName
      let (f, first) ← holding [ov] (getMethod ov m pl)
      callWith pos f first (backTo pos (starEach (e :: es) X.env)) (backToKw pos (keywordEach [] X.env))) := by rfl) :
    PE3 X (.Call (.Attribute o m apos) (e :: es) [] pos) (eMeth C m S dd te t) := by
  obtain ⟨f, fd, ps, dvs, dus, F, hm, hb, hd, zd⟩ := D.ex
  refine pe_imp (pe_meth he c hm F (hr.mono hkj) hb hd pass0 ha hst hpl ht) fun σ H Q h => ?_
  obtain ⟨τ, G, Q3, s, rr, h, kk⟩ := h
  refine lift_run s rr h fun v H1 d G1 g1 r1 s1 z1 q1 => ?_
  obtain ⟨a, fs, rfl, ga, hl, q1⟩ := q1
  obtain ⟨dx, fvs, ha', kz⟩ := r1 a _ ga
  refine ⟨a, dx, fvs, z1, ha', kz.nofield hl, liftA_run s1 r1 q1 fun vs H2 ds G2 g2 r2 s2 z2 q2 => ?_⟩
  exact call_spl (ds := .obj a :: (ds ++ dd)) ⟨v, _, rfl, z1, z2.append (zd H2)⟩ r2 q2 (Cnt.after (H := H) (G := G) kk (g1.trans g2))
theorem e_meth0 {pl : Sem Bool} (D : MethOk X.prog X.w X.K X.mg X.base k C m dd S) (c : Cls X.K C) (hr : Room j X.A) (he : PE3 X o te) (hkj : k ≤ j := by decide)
    (ht : eval (.Call (.Attribute o m apos) [] [] pos) X.env = (do
      let ov ← eval o X.env
      standAt apos.atName
      let (f, first) ← holding [ov] (getMethod ov m pl)
      callWith pos f first (backTo pos (starEach [] X.env)) (backToKw pos (keywordEach [] X.env))) := by rfl) :
    PE3 X (.Call (.Attribute o m apos) [] [] pos) (eMeth C m S dd te aNil) := by
  obtain ⟨f, fd, ps, dvs, dus, F, hm, hb, hd, zd⟩ := D.ex
  refine pe_imp (pe_meth0 he c hm F (hr.mono hkj) hb hd pass0 ht) fun σ H Q h => ?_
  obtain ⟨τ, G, Q3, s, rr, h, kk⟩ := h
  refine lift_run s rr h fun v H1 d G1 g1 r1 s1 z1 q1 => ?_
  obtain ⟨a, fs, rfl, ga, hl, q1⟩ := q1
  obtain ⟨dx, fvs, ha', kz⟩ := r1 a _ ga
  refine ⟨a, dx, fvs, z1, ha', kz.nofield hl, ?_⟩
  exact call_spl (E := E0) (ds := .obj a :: dd) ⟨v, _, rfl, z1, zd H1⟩ r1 q1 (Cnt.after (H := H) (G := G) kk g1)
/-- C(..) -/
def eMake (C : Addr) (S : Sp3) (t : TA3) : TE3 := fun τ G Q => t τ G fun ds G1 => ∀ p, G1 p = none → S (.obj p :: ds) (up G1 p (.ins C [])) fun d G2 => d = .non ∧ Q (.obj p) G2
theorem make_fin {K : PySem.W.Frag} {H H1 : Hp} {G G1 : Gp} {Q3 : VK3} {Q : VK} {E : XK} {ds : List Da} {vs : List V} (kk : Cnt K H G Q3 Q) (g1 : Go H G H1 G1) (r1 : R0 K H1 G1) (z1 : Dzs K H1 ds vs)
    (q1 : ∀ p, G1 p = none → S (.obj p :: ds) (up G1 p (.ins C [])) fun d G2 => d = .non ∧ Q3 (.obj p) G2) (p dx : Addr) (hp : H1 p = none) (hdx : H1 dx = none) (hne : dx ≠ p) :
    spl K S (.ref p :: vs) (upd (upd H1 dx (.own p)) p (.ins C dx [])) (fun v H2 => v = .non ∧ Q (.ref p) H2) E := by
  have hp2 : upd H1 dx (.own p) p = none := by rw [upd_ne (Ne.symm hne)]; exact hp
  have ra := r0_new (o := .own p) r1 hdx
  refine call_spl (ds := .obj p :: ds) ⟨_, _, rfl, rfl, Dzs.mono ((tk_new hdx).trans (tk_new hp2)) _ _ z1⟩ (r0_track (ao := .ins C []) ra hp2 ⟨dx, [], upd_same, .nil⟩) (q1 p (r1.gnone hp)) ?_
  rintro v H' d G' g' r' z' ⟨rfl, q'⟩
  exact ⟨z', kk (.ref p) H' (.obj p) G' (g1.trans ((go_new hdx).trans ((go_track hp2).trans g'))) r' rfl q'⟩
theorem e_make (D : MakeOk X.prog X.w X.K X.mg X.base k C x S) (hr : Room j X.A) (ha : PA3 X (e :: es) t) (hkj : k + 1 ≤ j := by decide) (hg : Gl X x := by rfl) (hdb : (x == ("__debug__" : Str)) = false := by decide)
    (he : starEach (e :: es) X.env = (false, eval e X.env) :: starEach es X.env := by rfl) (hpl : (backTo pos (starEach es X.env)).any (·.1) = false := by rfl) : PE3 X (.Call (.Name x p) (e :: es) [] pos) (eMake C S t) := by
  obtain ⟨f, fd, ps, F, hm, M, hb⟩ := D.ex
  refine pe_imp (pe_make M F (hr.mono hkj) hg hm hb .nil pass0 ha hdb he hpl) fun σ H Q h => ?_
  obtain ⟨τ, G, Q3, s, rr, h, kk⟩ := h
  refine liftA_run s rr h fun vs H1 ds G1 g1 r1 s1 z1 q1 => ?_
  intro p dx hp hdx hne
  rw [List.append_nil]
  exact make_fin kk g1 r1 z1 q1 p dx hp hdx hne
theorem e_make0 (D : MakeOk X.prog X.w X.K X.mg X.base k C x S) (hr : Room j X.A) (hkj : k + 1 ≤ j := by decide) (hg : Gl X x := by rfl) (hdb : (x == ("__debug__" : Str)) = false := by decide) :
    PE3 X (.Call (.Name x p) [] [] pos) (eMake C S aNil) := by
  obtain ⟨f, fd, ps, F, hm, M, hb⟩ := D.ex
  refine pe_imp (pe_make0 M F (hr.mono hkj) hg hm hb .nil pass0 hdb) fun σ H Q h => ?_
  obtain ⟨τ, G, Q3, s, rr, h, kk⟩ := h
  intro p dx hp hdx hne
  exact make_fin (ds := []) kk (Go.refl H G) rr rfl h p dx hp hdx hne

/-! keywords -/
abbrev PK3 (X : Cx) (kws : List Keyword) (t : TA3) : Prop := PK X kws (liftA X.K t)
variable {kws : List Keyword} {tk : TA3} {nm : Option Str} {kpos : Pos}
theorem pk_imp {t t' : TA} (h : PK X kws t) (w : ∀ σ H Q, t' σ H Q → t σ H Q) : PK X kws t' :=
  ⟨fun pos pins s σ H Q I q => h.run pos pins s σ H Q I (w σ H Q q)⟩
theorem k_nil : PK3 X [] aNil := pk_imp pk_nil fun σ H Q h => by
  obtain ⟨τ, G, Q3, s, rr, h, k⟩ := h
  exact k [] H [] G (Go.refl H G) rr rfl h
theorem k_cons (ha : PE3 X e te) (hr : PK3 X kws t) : PK3 X (⟨nm, e, kpos⟩ :: kws) (aCons te t) := pk_imp (pk_cons ha hr) fun σ H Q h => by
  obtain ⟨τ, G, Q3, s, rr, h, k⟩ := h
  refine lift_run s rr h fun v H1 d G1 g1 r1 s1 z1 q1 => ?_
  refine liftA_run s1 r1 q1 fun vs H2 ds G2 g2 r2 s2 z2 q2 => ?_
  exact k (v :: vs) H2 (d :: ds) G2 (g1.trans g2) r2 ⟨v, vs, rfl, Dz.mono (g2.tk r1) _ _ z1, z2⟩ q2
/-- a def called with keywords ks: gd puts the n positional and the keywords' data in the parameters' order -/
structure KwOk (P : Program) (w : World) (K : PySem.W.Frag) (mg : Str → Option Value) (base : Heap) (k : Nat) (f : Addr) (n : Nat) (ks : List Str) (gd : List Da → List Da → List Da) (S : Sp3) : Prop where
  ex : ∃ (fd : FuncData) (ps : List Str) (g : List Value → List Value → List Value) (gV : List V → List V → List V), FnOk P w K mg base CX0 k f fd ps (spl K S) ∧ KBn K fd ps n ks g gV ∧
    ∀ H ds es vs us, Dzs K H ds vs → Dzs K H es us → ds.length = n → es.length = ks.length → Dzs K H (gd ds es) (gV vs us)
def eCallN (S : Sp3) (n m : Nat) (gd : List Da → List Da → List Da) (t tk : TA3) : TE3 := fun τ G Q => t τ G fun ds G1 => tk τ G1 fun es G2 => ds.length = n ∧ es.length = m ∧ S (gd ds es) G2 Q
theorem e_callN {f : Addr} {n : Nat} {ks : List Str} {gd : List Da → List Da → List Da} (D : KwOk X.prog X.w X.K X.mg X.base k f n ks gd S) (hm : X.mg x = some (.ref f)) (hk : PySem.W.keepIn X.K (.ref f) = true) (hr : Room j X.A)
    (ha : PA3 X (e :: es) t) (hkw : PK3 X kws tk) (hkj : k ≤ j := by decide) (hg : Gl X x := by rfl) (hall : (backToKw pos (keywordEach kws X.env)).all (·.1.isSome) = true := by rfl) (hks : (backToKw pos (keywordEach kws X.env)).filterMap (·.1) = ks := by rfl)
    (hdb : (x == ("__debug__" : Str)) = false := by decide) (he : starEach (e :: es) X.env = (false, eval e X.env) :: starEach es X.env := by rfl)
    (hpl : ((backTo pos (starEach (e :: es) X.env)).any (·.1) || (backToKw pos (keywordEach kws X.env)).any (·.1.isNone)) = false := by rfl) :
    PE3 X (.Call (.Name x p) (e :: es) kws pos) (eCallN S n ks.length gd t tk) := by
  obtain ⟨fd, ps, g, gV, F, hb, zb⟩ := D.ex
  refine pe_imp (pe_callN F (hr.mono hkj) hg hm hk hb pass0 ha hkw hall hks hdb he hpl) fun σ H Q h => ?_
  obtain ⟨τ, G, Q3, s, rr, h, kk⟩ := h
  refine liftA_run s rr h fun vs H1 ds G1 g1 r1 s1 z1 q1 => ?_
  refine liftA_run s1 r1 q1 fun us H2 es' G2 g2 r2 s2 z2 q2 => ?_
  obtain ⟨l1, l2, q2⟩ := q2
  have z1' := Dzs.mono (g2.tk r1) _ _ z1
  exact ⟨z1'.length.trans l1, z2.length.trans l2, call_spl (zb H2 _ _ _ _ z1' z2 l1 l2) r2 q2 (Cnt.after (H := H) (G := G) kk (g1.trans g2))⟩
/-- o.m(e, .., k = v, ..) -/
def eMethN (C : Addr) (m : Str) (S : Sp3) (n l : Nat) (gd : List Da → List Da → List Da) (te : TE3) (t tk : TA3) : TE3 := fun τ G Q => te τ G fun x G1 => ∃ a fs, x = .obj a ∧ G1 a = some (.ins C fs) ∧ fs.lookup m = none ∧
  t τ G1 fun ds G2 => tk τ G2 fun es G3 => ds.length + 1 = n ∧ es.length = l ∧ S (gd (x :: ds) es) G3 Q
theorem e_methN {f : Addr} {n : Nat} {ks : List Str} {gd : List Da → List Da → List Da} {pl : Sem Bool} (D : KwOk X.prog X.w X.K X.mg X.base k f n ks gd S) (c : Cls X.K C) (hm : Meth X.K C m f) (hr : Room j X.A) (ho : PE3 X o te)
    (ha : PA3 X (e :: es) t) (hkw : PK3 X kws tk) (hkj : k ≤ j := by decide) (hall : (backToKw pos (keywordEach kws X.env)).all (·.1.isSome) = true := by rfl) (hks : (backToKw pos (keywordEach kws X.env)).filterMap (·.1) = ks := by rfl)
    (he : starEach (e :: es) X.env = (false, eval e X.env) :: starEach es X.env := by rfl)
    (hpl : ((backTo pos (starEach (e :: es) X.env)).any (·.1) || (backToKw pos (keywordEach kws X.env)).any (·.1.isNone)) = false := by rfl)
    (ht : eval (.Call (.Attribute o m apos) (e :: es) kws pos) X.env = (do
      let ov ← eval o X.env
      standAt apos.atName
      let (f, first) ← holding [ov] (getMethod ov m pl)
      callWith pos f first (backTo pos (starEach (e :: es) X.env)) (backToKw pos (keywordEach kws X.env))) := by rfl) :
    PE3 X (.Call (.Attribute o m apos) (e :: es) kws pos) (eMethN C m S n ks.length gd te t tk) := by
  obtain ⟨fd, ps, g, gV, F, hb, zb⟩ := D.ex
  refine ⟨fun pins s σ H Q I h => ?_⟩
  obtain ⟨τ, G, Q3, sz, rr, h, kk⟩ := h
  have h' : lift X.K te σ H (fun v H1 => ∃ a fs G1, v = .ref a ∧ Go H G H1 G1 ∧ R0 X.K H1 G1 ∧ Sz X.K H1 τ σ ∧ G1 a = some (.ins C fs) ∧ fs.lookup m = none ∧
      t τ G1 fun ds G2 => tk τ G2 fun es G3 => ds.length + 1 = n ∧ es.length = ks.length ∧ S (gd (.obj a :: ds) es) G3 Q3) := by
    refine lift_run sz rr h fun v H1 d G1 g1 r1 s1 z1 q1 => ?_
    obtain ⟨a, fs, rfl, ga, hl, q1⟩ := q1
    exact ⟨a, fs, G1, z1, g1, r1, s1, ga, hl, q1⟩
  refine PySem.W.methodCall_KW (pl := pl) (thn (ho.run pins s σ H _ I h') fun u s1 ⟨x, H1, I1, rx, a, fs, G1, ex, g1, r1, sz1, ga, hl, q1⟩ => ?_) ht
  subst ex
  obtain rfl : u = Value.ref a := rx
  obtain ⟨dx, fvs, ha', kz⟩ := r1 a _ ga
  refine getmeth_ok I1 ha' c hm (kz.nofield hl) ?_
  have hA : liftA X.K t σ H1 (fun vs H2 => ∃ ds G2, Go H1 G1 H2 G2 ∧ R0 X.K H2 G2 ∧ Sz X.K H2 τ σ ∧ Dzs X.K H2 ds vs ∧ tk τ G2 fun es G3 => ds.length + 1 = n ∧ es.length = ks.length ∧ S (gd (.obj a :: ds) es) G3 Q3) :=
    liftA_run sz1 r1 q1 fun vs H2 ds G2 g2 r2 s2 z2 q2 => ⟨ds, G2, g2, r2, s2, z2, q2⟩
  refine PySem.W.callWith_KW (first := [.ref a]) (h₀ := X.base) I.ok.mod.kin hm.kp hall (thn (ha.run pos pins s1 σ H1 _ I1 hA) fun us s2 ⟨vs, H2, I2, r, ds, G2, g2, r2, sz2, z2, q2⟩ => ?_) hpl he
  have hK : liftA X.K tk σ H2 (fun zs H3 => ∃ es' G3, Go H2 G2 H3 G3 ∧ R0 X.K H3 G3 ∧ Dzs X.K H3 es' zs ∧ ds.length + 1 = n ∧ es'.length = ks.length ∧ S (gd (.obj a :: ds) es') G3 Q3) :=
    liftA_run sz2 r2 q2 fun vs H3 ds G3 g3 r3 s3 z3 q3 => ⟨ds, G3, g3, r3, z3, q3⟩
  refine thn (hkw.run pos pins s2 σ H2 _ I2 hK) fun ws s3 ⟨zs, H3, I3, rz, es', G3, g3, r3, z3, l1, l2, q3⟩ => ⟨I3.kIn, ?_⟩
  rw [hks]
  have z2' : Dzs X.K H3 (.obj a :: ds) (.ref a :: vs) := ⟨_, _, rfl, rfl, Dzs.mono (g3.tk r2) _ _ z2⟩
  exact run_fnN (vs := .ref a :: vs) (us := .ref a :: us) F (hr.mono hkj) hb pass0 I3 (.cons rfl r) rz (z2'.length.trans (by rw [List.length_cons]; exact l1)) (z3.length.trans l2)
    (call_spl (zb H3 _ _ _ _ z2' z3 (by rw [List.length_cons]; exact l1) l2) r3 q3 (Cnt.after (H := H) (G := G) kk (g1.trans (g2.trans g3))))
end
end Lw
namespace Lw
open PySem PySem.Spec PyProof.Rows L2

/-! statements -/
structure Ends3 where
  nx : St3 → Gp → Prop
  rt : VK3
  bk : St3 → Gp → Prop := fun _ _ => False
  ct : St3 → Gp → Prop := fun _ _ => False
abbrev TS3 := Ends3 → St3 → Gp → Prop
structure EndsOk (K : PySem.W.Frag) (H : Hp) (G : Gp) (D3 : Ends3) (D : Ends) : Prop where
  nx : ∀ σ' H' τ' G', Go H G H' G' → Sz K H' τ' σ' → R0 K H' G' → D3.nx τ' G' → D.nx σ' H'
  rt : Cnt K H G D3.rt D.rt
  bk : ∀ σ' H' τ' G', Go H G H' G' → Sz K H' τ' σ' → R0 K H' G' → D3.bk τ' G' → D.bk σ' H'
  ct : ∀ σ' H' τ' G', Go H G H' G' → Sz K H' τ' σ' → R0 K H' G' → D3.ct τ' G' → D.ct σ' H'
theorem EndsOk.after {K : PySem.W.Frag} {H H1 : Hp} {G G1 : Gp} {D3 : Ends3} {D : Ends} (e : EndsOk K H G D3 D) (g : Go H G H1 G1) : EndsOk K H1 G1 D3 D :=
  ⟨fun σ' H' τ' G' g' s r q => e.nx σ' H' τ' G' (g.trans g') s r q, Cnt.after e.rt g, fun σ' H' τ' G' g' s r q => e.bk σ' H' τ' G' (g.trans g') s r q, fun σ' H' τ' G' g' s r q => e.ct σ' H' τ' G' (g.trans g') s r q⟩
def liftS (K : PySem.W.Frag) (t : TS3) : TS := fun D σ H => ∃ τ G D3, Sz K H τ σ ∧ R0 K H G ∧ t D3 τ G ∧ EndsOk K H G D3 D
abbrev PS3 (X : Cx) (st : Stmt) (t : TS3) : Prop := PS X st (liftS X.K t)
abbrev PSs3 (X : Cx) (st : List Stmt) (t : TS3) : Prop := PSs X st (liftS X.K t)
abbrev TG3 := Da → St3 → Gp → (St3 → Gp → Prop) → Prop
/-- only the slots ms are written -/
def Wp (ms : List Nat) (σ σ' : L2.St) : Prop := ∀ vs : List Nat, (∀ i ∈ ms, i ∈ vs) → wipe σ' vs = wipe σ vs
theorem wipe_at {i : Nat} {x : Option V} : ∀ (vs : List Nat) (σ : L2.St), wipe (σ.set i x) vs = if i ∈ vs then wipe σ vs else (wipe σ vs).set i x
  | [], σ => rfl
  | v :: vs, σ => by
    show (wipe (σ.set i x) vs).set v none = if i ∈ v :: vs then (wipe σ vs).set v none else ((wipe σ vs).set v none).set i x
    rw [wipe_at vs σ]
    by_cases h : i ∈ vs
    · rw [if_pos h, if_pos (List.mem_cons_of_mem _ h)]
    · rw [if_neg h]
      by_cases e : i = v
      · subst e
        rw [if_pos List.mem_cons_self, List.set_set]
      · rw [if_neg (fun z => (List.mem_cons.mp z).elim e h), List.set_comm _ _ e]
theorem Wp.refl (ms : List Nat) (σ : L2.St) : Wp ms σ σ := fun _ _ => rfl
theorem Wp.one {i : Nat} {x : Option V} (σ : L2.St) : Wp [i] σ (σ.set i x) := fun vs h => by
  rw [wipe_at vs σ, if_pos (h i List.mem_cons_self)]
theorem Wp.trans {a b : List Nat} {σ σ1 σ2 : L2.St} (h1 : Wp a σ σ1) (h2 : Wp b σ1 σ2) : Wp (a ++ b) σ σ2 := fun vs h =>
  (h2 vs fun i hi => h i (List.mem_append_right _ hi)).trans (h1 vs fun i hi => h i (List.mem_append_left _ hi))
def liftG (K : PySem.W.Frag) (ms : List Nat) (g : TG3) : TG := fun v σ H Q => ∃ d τ G Q3, Dz K H d v ∧ Sz K H τ σ ∧ R0 K H G ∧ g d τ G Q3 ∧
  ∀ σ' H' τ' G', Go H G H' G' → Sz K H' τ' σ' → R0 K H' G' → Wp ms σ σ' → Q3 τ' G' → Q σ' H'
abbrev PG3 (X : Cx) (tg : Expr) (ms : List Nat) (g : TG3) : Prop := PG X tg (liftG X.K ms g)
theorem pg_imp {X : Cx} {e : Expr} {t t' : TG} (h : PG X e t) (w : ∀ v σ H Q, t' v σ H Q → t v σ H Q) : PG X e t' :=
  ⟨fun pins s σ H v u Q I r q => h.run pins s σ H v u Q I r (w v σ H Q q)⟩

section
variable {X : Cx} {st : Stmt} {rest sa sb : List Stmt} {e c : Expr} {te : TE3} {tt : TT3} {t u : TS3} {pos : Pos}
def sNext : TS3 := fun D τ G => D.nx τ G
def sSeq (t u : TS3) : TS3 := fun D τ G => t { D with nx := u D } τ G
theorem s_nil : PSs3 X [] sNext := pss_imp pss_nil fun D σ H h => by
  obtain ⟨τ, G, D3, s, r, h, k⟩ := h
  exact k.nx σ H τ G (Go.refl H G) s r h
theorem s_cons (h1 : PS3 X st t) (h2 : PSs3 X rest u) : PSs3 X (st :: rest) (sSeq t u) := pss_imp (pss_cons h1 h2) fun D σ H h => by
  obtain ⟨τ, G, D3, s, r, h, k⟩ := h
  exact ⟨τ, G, { D3 with nx := u D3 }, s, r, h, fun σ' H' τ' G' g' s' r' q => ⟨τ', G', D3, s', r', q, k.after g'⟩, k.rt, k.bk, k.ct⟩
theorem s_one (h1 : PS3 X st t) : PSs3 X [st] t := pss_one h1
def sDrop (te : TE3) : TS3 := fun D τ G => te τ G fun _ G1 => D.nx τ G1
theorem s_expr (he : PE3 X e te) (hs : swapsWith e none pos.line X.env = pure false := by rfl) : PS3 X (.Expr e pos) (sDrop te) := ps_imp (ps_expr he hs) fun D σ H h => by
  obtain ⟨τ, G, D3, s, r, h, k⟩ := h
  exact lift_run s r h fun v H1 d G1 g1 r1 s1 z1 q1 => k.nx σ H1 τ G1 g1 s1 r1 q1
def sRet (te : TE3) : TS3 := fun D τ G => te τ G D.rt
theorem s_ret (he : PE3 X e te) : PS3 X (.Return (some e) pos) (sRet te) := ps_imp (ps_ret he) fun D σ H h => by
  obtain ⟨τ, G, D3, s, r, h, k⟩ := h
  exact lift_run s r h fun v H1 d G1 g1 r1 s1 z1 q1 => k.rt v H1 d G1 g1 r1 z1 q1
def sIf (c : TT3) (t u : TS3) : TS3 := fun D τ G => c τ G fun b G1 => if b = true then t D τ G1 else u D τ G1
theorem s_if (hc : PT3 X c tt) (ha : PSs3 X sa t) (hb : PSs3 X sb u) : PS3 X (.If c sa sb pos) (sIf tt t u) := ps_imp (ps_if hc ha hb) fun D σ H h => by
  obtain ⟨τ, G, D3, s, r, h, k⟩ := h
  refine liftT_run s r h fun b H1 G1 g1 r1 s1 q1 => ?_
  cases b with
  | true =>
    rw [if_pos rfl] at q1 ⊢
    exact ⟨τ, G1, D3, s1, r1, q1, k.after g1⟩
  | false =>
    rw [if_neg Bool.false_ne_true] at q1 ⊢
    exact ⟨τ, G1, D3, s1, r1, q1, k.after g1⟩
def sNever : TS3 := fun _ _ _ => False
theorem s_never : PS3 X st sNever := ps_imp ps_never fun D σ H h => by
  obtain ⟨τ, G, D3, s, r, h, k⟩ := h
  exact h
theorem ss_never : PSs3 X rest sNever := pss_imp pss_never fun D σ H h => by
  obtain ⟨τ, G, D3, s, r, h, k⟩ := h
  exact h

/-! targets -/
def gN (i : Nat) : TG3 := fun d τ G Q => Q (τ.set i (some d)) G
theorem g_name {i : Nat} {x : Str} (hN : X.N.Nodup) (hi : X.N[i]? = some x := by rfl) (hx : Loc X.env.scope x := by first | exact Or.inl rfl | exact Or.inr rfl) (hf : X.fn x = true ∨ X.env.scope.names.lookup x = some .local := by first | exact .inl rfl | exact .inr rfl) : PG3 X (.Name x pos) [i] (gN i) :=
  pg_imp (pg_name hN hi hx hf) fun v σ H Q h => by
    obtain ⟨d, τ, G, Q3, z, s, r, h, k⟩ := h
    exact k _ H _ G (Go.refl H G) (s.set z i) r (Wp.one σ) h
abbrev TGs3 := List Da → St3 → Gp → (St3 → Gp → Prop) → Prop
def liftGs (K : PySem.W.Frag) (ms : List Nat) (g : TGs3) : TGs := fun vs σ H Q => ∃ ds τ G Q3, Dzs K H ds vs ∧ Sz K H τ σ ∧ R0 K H G ∧ g ds τ G Q3 ∧
  ∀ σ' H' τ' G', Go H G H' G' → Sz K H' τ' σ' → R0 K H' G' → Wp ms σ σ' → Q3 τ' G' → Q σ' H'
abbrev PGs3 (X : Cx) (ts : List Expr) (ms : List Nat) (g : TGs3) : Prop := PGs X ts (liftGs X.K ms g)
theorem pgs_imp {ts : List Expr} {t t' : TGs} (h : PGs X ts t) (w : ∀ v σ H Q, t' v σ H Q → t v σ H Q) : PGs X ts t' :=
  ⟨fun pins s σ H vs us Q I r q => h.run pins s σ H vs us Q I r (w vs σ H Q q)⟩
def gsNil : TGs3 := fun ds τ G Q => ds = [] ∧ Q τ G
def gsCons (t : TG3) (u : TGs3) : TGs3 := fun ds τ G Q => ∃ d r, ds = d :: r ∧ t d τ G fun τ' G' => u r τ' G' Q
theorem gs_nil : PGs3 X [] [] gsNil := pgs_imp pgs_nil fun vs σ H Q h => by
  obtain ⟨ds, τ, G, Q3, z, s, r, ⟨rfl, h⟩, k⟩ := h
  exact ⟨z, k σ H τ G (Go.refl H G) s r (Wp.refl _ _) h⟩
theorem gs_cons {es : List Expr} {g : TG3} {gs : TGs3} {m1 m2 : List Nat} (h1 : PG3 X e m1 g) (h2 : PGs3 X es m2 gs) (hs : (assignEach (e :: es) X.env).map (·.2) = assign e X.env :: (assignEach es X.env).map (·.2) := by rfl) : PGs3 X (e :: es) (m1 ++ m2) (gsCons g gs) :=
  pgs_imp (pgs_cons h1 h2 hs) fun vs σ H Q h => by
    obtain ⟨ds, τ, G, Q3, z, s, r, ⟨d, ds', rfl, h⟩, k⟩ := h
    obtain ⟨v, vs', rfl, z1, z2⟩ := z
    refine ⟨v, vs', rfl, d, τ, G, _, z1, s, r, h, fun σ' H' τ' G' g' s' r' w' q => ?_⟩
    exact ⟨ds', τ', G', Q3, Dzs.mono (g'.tk r) _ _ z2, s', r', q, fun σ2 H2 τ2 G2 g2 s2 r2 w2 q2 => k σ2 H2 τ2 G2 (g'.trans g2) s2 r2 (w'.trans w2) q2⟩
/-- a, b = a tuple -/
def gT (n : Nat) (gs : TGs3) : TG3 := fun d τ G Q => ∃ ds, d = .tup ds ∧ ds.length = n ∧ gs ds τ G Q
theorem g_tup {es : List Expr} {k n : Nat} {gs : TGs3} {ms : List Nat} (hc : X.calm = true) (h : PGs3 X es ms gs) (hn : (assignEach es X.env).length = n := by rfl) (hst : (assignEach es X.env).findIdx? (·.1) = none := by rfl) : PG3 X (.Tuple es k pos) ms (gT n gs) :=
  pg_imp (pg_tup hc h hn hst) fun v σ H Q h => by
    obtain ⟨d, τ, G, Q3, z, s, r, ⟨ds, rfl, hl, h⟩, k⟩ := h
    obtain ⟨a, xs, rfl, ht, zs⟩ := z
    exact ⟨a, xs, rfl, ht.sq, zs.length.trans hl, ds, τ, G, Q3, zs, s, r, h, k⟩
/-- a, b = a list that is kept -/
def gL (n : Nat) (gs : TGs3) : TG3 := fun d τ G Q => ∃ a ds, d = .obj a ∧ G a = some (.lst ds) ∧ ds.length = n ∧ gs ds τ G Q
theorem g_lst {es : List Expr} {k n : Nat} {gs : TGs3} {ms : List Nat} (hc : X.calm = true) (h : PGs3 X es ms gs) (hn : (assignEach es X.env).length = n := by rfl) (hst : (assignEach es X.env).findIdx? (·.1) = none := by rfl) : PG3 X (.Tuple es k pos) ms (gL n gs) :=
  pg_imp (pg_lst hc h hn hst) fun v σ H Q h => by
    obtain ⟨d, τ, G, Q3, z, s, r, ⟨a, ds, rfl, ga, hl, h⟩, k⟩ := h
    obtain ⟨xs, ha, zs⟩ := r a _ ga
    exact ⟨a, xs, z, SqL.of ha, zs.length.trans hl, ds, τ, G, Q3, zs, s, r, h, k⟩
/-- o[i] = .., a list -/
def gSet (to ti : TE3) : TG3 := fun d τ G Q => to τ G fun o G1 => ti τ G1 fun i G2 => ∃ a ds k j, o = .obj a ∧ i = .int k ∧ G2 a = some (.lst ds) ∧ ixN ds.length k = some j ∧ Q τ (up G2 a (.lst (ds.set j d)))
theorem g_set {o i : Expr} {to ti : TE3} (ho : PE3 X o to) (hi : PE3 X i ti)
    (ha : ∀ v, assign (.Subscript o i pos) X.env v = (do
      let ov ← holding [v] (eval o X.env)
      let iv ← holding [v, ov] (eval i X.env)
      standAt pos
      holding [v, ov, iv] (setItem ov iv v)
      release [v, ov, iv] []) := by intro _; rfl) : PG3 X (.Subscript o i pos) [] (gSet to ti) :=
  pg_imp (pg_sub ho hi set_list ha) fun v σ H Q h => by
    obtain ⟨d, τ, G, Q3, z, s, r, h, k⟩ := h
    refine lift_run s r h fun v1 H1 d1 G1 g1 r1 s1 z1 q1 => ?_
    refine lift_run s1 r1 q1 fun v2 H2 d2 G2 g2 r2 s2 z2 q2 => ?_
    obtain ⟨a, ds, kk, j, rfl, rfl, ga, hj, q2⟩ := q2
    obtain ⟨xs, hxs, zs⟩ := r2 a _ ga
    have z1' := Dz.mono (g2.tk r1) _ _ z1
    have z' := Dz.mono ((g1.tk r).trans (g2.tk r1)) _ _ z
    refine ⟨a, xs, kk, j, z1', z2, hxs, by rw [zs.length]; exact hj, ?_⟩
    have t := tk_write (o := .lst (xs.set j v)) r2 ga
    exact k σ _ τ _ (g1.trans (g2.trans (go_write ga))) (s2.mono t) (r0_write (ao' := .lst (ds.set j d)) r2 ga ⟨_, upd_same, Dzs.mono t _ _ (zs.set z' j)⟩) (Wp.refl _ _) q2

/-! assignments -/
def sAsg (te : TE3) (g : TG3) : TS3 := fun D τ G => te τ G fun d G1 => g d τ G1 D.nx
theorem asg_lift {K : PySem.W.Frag} {te : TE3} {g : TG3} {ms : List Nat} (D : Ends) (σ : L2.St) (H : Hp) (h : liftS K (sAsg te g) D σ H) : tAsg (lift K te) (liftG K ms g) D σ H := by
  obtain ⟨τ, G, D3, s, r, h, k⟩ := h
  refine lift_run s r h fun v H1 d G1 g1 r1 s1 z1 q1 => ?_
  exact ⟨d, τ, G1, D3.nx, z1, s1, r1, q1, fun σ' H' τ' G' g' s' r' _ q => k.nx σ' H' τ' G' (g1.trans g') s' r' q⟩
theorem s_asg {tg : Expr} {g : TG3} {ms : List Nat} (he : PE3 X e te) (hg : PG3 X tg ms g) (hs : swapsWithSole [tg] e pos.line X.env = pure false := by rfl) (hw : swappedStores [tg] e X.env = pure none := by rfl)
    (h1 : (assignEach [tg] X.env).map (·.2) = [assign tg X.env] := by rfl) : PS3 X (.Assign [tg] e pos) (sAsg te g) := ps_imp (ps_asg he hg hs hw h1) asg_lift
theorem s_set {i : Nat} {x : Str} {pos' : Pos} (hN : X.N.Nodup) (he : PE3 X e te) (hi : X.N[i]? = some x := by rfl) (hx : Loc X.env.scope x := by first | exact Or.inl rfl | exact Or.inr rfl) (hs : swapsWith e (some (.Name x pos')) pos.line X.env = pure false := by rfl) (hf : X.fn x = true ∨ X.env.scope.names.lookup x = some .local := by first | exact .inl rfl | exact .inr rfl) :
    PS3 X (.Assign [.Name x pos'] e pos) (sAsg te (gN i)) := ps_imp (ps_set hN hi hx he hs hf) fun D σ H h => by
  obtain ⟨τ, G, D3, s, r, h, k⟩ := h
  refine lift_run s r h fun v H1 d G1 g1 r1 s1 z1 q1 => ?_
  exact k.nx _ H1 _ G1 g1 (s1.set z1 i) r1 q1
/-- a, b = e1, e2 with local names -/
def sPar (i j : Nat) (ta : TA3) : TS3 := fun D τ G => ta τ G fun ds G1 => ∃ v w, ds = [v, w] ∧ D.nx ((τ.set i (some v)).set j (some w)) G1
theorem s_par {i j : Nat} {x y : Str} {a b : Expr} {ta : TA3} {px py pt : Pos} {kt k2 pt2} (hc : X.calm = true) (hN : X.N.Nodup) (ha : PA3 X [a, b] ta) (hi : X.N[i]? = some x := by rfl) (hj : X.N[j]? = some y := by rfl) (hij : i ≠ j := by decide)
    (hx : X.env.scope.names.lookup x = some .local := by rfl) (hy : X.env.scope.names.lookup y = some .local := by rfl)
    (hw : swappedStores [.Tuple [.Name x px, .Name y py] kt pt] (.Tuple [a, b] k2 pt2) X.env = pure (some [x, y]) := by rfl)
    (hs : swapsWithSole [.Tuple [.Name x px, .Name y py] kt pt] (.Tuple [a, b] k2 pt2) pos.line X.env = pure false := by rfl) :
    PS3 X (.Assign [.Tuple [.Name x px, .Name y py] kt pt] (.Tuple [a, b] k2 pt2) pos) (sPar i j ta) := ps_imp (ps_par hc hN hi hj hij hx hy ha hw hs) fun D σ H h => by
  obtain ⟨τ, G, D3, s, r, h, k⟩ := h
  refine liftA_run s r h fun vs H1 ds G1 g1 r1 s1 z1 q1 => ?_
  obtain ⟨v, w, rfl, q1⟩ := q1
  obtain ⟨v', r', rfl, zv, w', r'', rfl, zw, rfl⟩ := z1
  exact ⟨v', w', rfl, k.nx _ H1 _ G1 g1 ((s1.set zv i).set zw j) r1 q1⟩
/-- o.f = e -/
def sFld3 (C : Addr) (f : Str) (to tv : TE3) : TS3 := fun D τ G => tv τ G fun y G1 => to τ G1 fun x G2 => ∃ a fs, x = .obj a ∧ G2 a = some (.ins C fs) ∧ fs.length < 1000 ∧ D.nx τ (up G2 a (.ins C (putD f y fs)))
theorem s_fld {C : Addr} {f : Str} {o : Expr} {to : TE3} {pos' : Pos} (cl : Cls X.K C) (na : NoAttr X.K C f) (ho : PE3 X o to) (hv : PE3 X e te) (hs : swapsWith e (some (.Attribute o f pos')) pos.line X.env = pure false := by rfl) :
    PS3 X (.Assign [.Attribute o f pos'] e pos) (sFld3 C f to te) := ps_imp (ps_fld ho hv hs) fun D σ H h => by
  obtain ⟨τ, G, D3, s, r, h, k⟩ := h
  refine lift_run s r h fun v1 H1 d1 G1 g1 r1 s1 z1 q1 => ?_
  refine lift_run s1 r1 q1 fun v2 H2 d2 G2 g2 r2 s2 z2 q2 => ?_
  obtain ⟨a, fs, rfl, ga, hl, q2⟩ := q2
  obtain ⟨dx, fvs, ha, kz⟩ := r2 a _ ga
  have z1' := Dz.mono (g2.tk r1) _ _ z1
  refine ⟨a, C, dx, fvs, z2, ha, cl, na, by rw [kz.length]; exact hl, ?_⟩
  have t := tk_write (o := .ins C dx (putF f v1 fvs)) r2 ga
  exact k.nx σ _ τ _ (g1.trans (g2.trans (go_write ga))) (s2.mono t) (r0_write (ao' := .ins C (putD f d1 fs)) r2 ga ⟨dx, _, upd_same, KZ.store (Dz.mono t _ _ z1') (kz.mono t)⟩) q2
/-- d[k] = e -/
def sPutK (td ty tv : TE3) : TS3 := fun D τ G => tv τ G fun v G1 => td τ G1 fun x G2 => ty τ G2 fun y G3 => ∃ a kds i, x = .obj a ∧ y = .int i ∧ G3 a = some (.dK kds) ∧ kds.length < sizeLine ∧ D.nx τ (up G3 a (.dK (putA kds (.inl i) v)))
def sPutT (td ty tv : TE3) : TS3 := fun D τ G => tv τ G fun v G1 => td τ G1 fun x G2 => ty τ G2 fun y G3 => ∃ a kds k, x = .obj a ∧ y = .tup (k.map kD) ∧ KeyT k ∧ G3 a = some (.dT kds) ∧ kds.length < sizeLine ∧ D.nx τ (up G3 a (.dT (putA kds k v)))
variable {o i : Expr} {td ty tv : TE3} {pos' : Pos}
theorem s_putK (hu : X.A.units + 1 < cLine) (ho : PE3 X o td) (hi : PE3 X i ty) (hv : PE3 X e tv) (hs : swapsWith e (some (.Subscript o i pos')) pos.line X.env = pure false := by rfl) :
    PS3 X (.Assign [.Subscript o i pos'] e pos) (sPutK td ty tv) := ps_imp (ps_dput hu ho hi hv hs) fun D σ H h => by
  obtain ⟨τ, G, D3, s, r, h, k⟩ := h
  refine lift_run s r h fun v1 H1 d1 G1 g1 r1 s1 z1 q1 => ?_
  refine lift_run s1 r1 q1 fun v2 H2 d2 G2 g2 r2 s2 z2 q2 => ?_
  refine lift_run s2 r2 q2 fun v3 H3 d3 G3 g3 r3 s3 z3 q3 => ?_
  obtain ⟨a, kds, i, rfl, rfl, ga, hl, q3⟩ := q3
  obtain ⟨kvs, ha, kz⟩ := r3 a _ ga
  have z1' := Dz.mono ((g2.tk r1).trans (g3.tk r2)) _ _ z1
  have z2' := Dz.mono (g3.tk r2) _ _ z2
  obtain rfl : v3 = kV (.inl i) := z3
  refine ⟨a, _, z2', DPut.k ha (by rw [kz.length]; exact hl), ?_⟩
  have t := tk_write (o := .dK (putK kvs (.inl i) v1)) r3 ga
  exact k.nx σ _ τ _ (g1.trans (g2.trans (g3.trans (go_write ga)))) (s3.mono t) (r0_write (ao' := .dK (putA kds (.inl i) d1)) r3 ga ⟨_, upd_same, KZ.put (kz.mono t) _ (Dz.mono t _ _ z1')⟩) q3
theorem s_putT (hu : X.A.units + 1 < cLine) (ho : PE3 X o td) (hi : PE3 X i ty) (hv : PE3 X e tv) (hs : swapsWith e (some (.Subscript o i pos')) pos.line X.env = pure false := by rfl) :
    PS3 X (.Assign [.Subscript o i pos'] e pos) (sPutT td ty tv) := ps_imp (ps_dput hu ho hi hv hs) fun D σ H h => by
  obtain ⟨τ, G, D3, s, r, h, k⟩ := h
  refine lift_run s r h fun v1 H1 d1 G1 g1 r1 s1 z1 q1 => ?_
  refine lift_run s1 r1 q1 fun v2 H2 d2 G2 g2 r2 s2 z2 q2 => ?_
  refine lift_run s2 r2 q2 fun v3 H3 d3 G3 g3 r3 s3 z3 q3 => ?_
  obtain ⟨a, kds, kk, rfl, rfl, hk, ga, hl, q3⟩ := q3
  obtain ⟨kvs, ha, kz⟩ := r3 a _ ga
  have z1' := Dz.mono ((g2.tk r1).trans (g3.tk r2)) _ _ z1
  have z2' := Dz.mono (g3.tk r2) _ _ z2
  obtain ⟨b, rfl, hb⟩ := key_at z3 hk
  refine ⟨a, _, z2', DPut.t ha hb (by rw [kz.length]; exact hl), ?_⟩
  have t := tk_write (o := .dT (putK kvs kk v1)) r3 ga
  exact k.nx σ _ τ _ (g1.trans (g2.trans (g3.trans (go_write ga)))) (s3.mono t) (r0_write (ao' := .dT (putA kds kk d1)) r3 ga ⟨_, upd_same, KZ.put (kz.mono t) _ (Dz.mono t _ _ z1')⟩) q3
/-- x |= e and the like, ints -/
def sAug (i : Nat) (te : TE3) (f : Int → Int → Int) : TS3 := fun D τ G => ∃ a, τ[i]? = some (some (.int a)) ∧ te τ G fun y G1 => ∃ b, y = .int b ∧ D.nx (τ.set i (some (.int (f a b)))) G1
theorem s_aug {i : Nat} {x : Str} {op : Operator} {f : Int → Int → Int} (ho : PIp X op (ipI f)) (hN : X.N.Nodup) (he : PE3 X e te) (hi : X.N[i]? = some x := by rfl) (hx : Loc X.env.scope x := by first | exact Or.inl rfl | exact Or.inr rfl) (hf : X.fn x = true ∨ X.env.scope.names.lookup x = some .local := by first | exact .inl rfl | exact .inr rfl) :
    PS3 X (.AugAssign (.Name x pos') op e pos) (sAug i te f) := ps_imp (ps_aug hN hi hx he ho hf) fun D σ H h => by
  obtain ⟨τ, G, D3, s, r, ⟨a, ha, h⟩, k⟩ := h
  obtain ⟨v, hv, zv⟩ := s.get ha
  refine ⟨v, hv, lift_run s r h fun v1 H1 d1 G1 g1 r1 s1 z1 q1 => ?_⟩
  obtain ⟨b, rfl, q1⟩ := q1
  exact ⟨a, b, zv, z1, k.nx _ H1 _ G1 g1 (s1.set (d := .int (f a b)) rfl i) r1 q1⟩
end

/-! a def's body -/
def start3 (N : List Str) (ds : List Da) : St3 := ds.map some ++ List.replicate (N.length - ds.length) none
theorem Sz.start {K : PySem.W.Frag} {H : Hp} {N : List Str} : ∀ {ds : List Da} {vs : List V}, Dzs K H ds vs → Sz K H (start3 N ds) (L2.start N vs) := by
  have key : ∀ (n : Nat) {ds : List Da} {vs : List V}, Dzs K H ds vs → Sz K H (ds.map some ++ List.replicate n none) (vs.map some ++ List.replicate n none) := by
    intro n ds
    induction ds with
    | nil =>
      intro vs h
      rw [show vs = [] from h]
      show Sz K H (List.replicate n none) (List.replicate n none)
      induction n with
      | zero => exact .nil
      | succ n ih => exact .cons trivial ih
    | cons d ds ih =>
      intro vs h
      obtain ⟨x, r, rfl, h1, h2⟩ := h
      exact .cons ⟨x, rfl, h1⟩ (ih h2)
  intro ds vs h
  unfold start3 L2.start
  rw [h.length]
  exact key _ h
section
variable {P : Program} {w : World} {K : PySem.W.Frag} {mg : Str → Option Value} {base : Heap} {x qual : Str} {st : Stmt} {f : Addr} {fd : FuncData} {N ps : List Str} {k : Nat} {S : Sp3}
theorem Fun3 (F : Fun K x qual st f fd) (sc : FnScope N ps (defScope st)) (len : ∀ ds G Q, S ds G Q → ds.length = ps.length)
    (hbody : ∀ (cdv : Value) (A : Around) (outer : List Env) (s : Shared) (H : Hp) (E : XK), Room k (A.deeper (envOfC qual (defScope st) s.heap.objs.size f cdv)) →
      ∃ t, PSs3 (cxOf CX0 P w K mg base N qual (defScope st) f cdv A outer s H E).nox (defBody st) t ∧ ∀ ds G Q, S ds G Q → t { nx := fun _ G' => Q .non G', rt := Q } (start3 N ds) G) :
    FnOk P w K mg base CX0 (k + 1) f fd ps (spl K S) := by
  refine F.ok sc (fun vs H Q E h => ?_) fun cdv A outer s H vs Q E hr h => ?_
  · obtain ⟨ds, G, Q3, z, r, h, c⟩ := h
    exact z.length.trans (len ds G Q3 h)
  · obtain ⟨t, ht, q⟩ := hbody cdv A outer s H E hr
    obtain ⟨ds, G, Q3, z, r, h, c⟩ := h
    refine ⟨_, ht, start3 N ds, G, { nx := fun _ G' => Q3 .non G', rt := Q3 }, Sz.start z, r, q ds G Q3 h, ⟨fun σ' H' τ' G' g' s' r' q' => c .non H' .non G' g' r' rfl q', c, fun _ _ _ _ _ _ _ z => z, fun _ _ _ _ _ _ _ z => z⟩⟩
/-- the same for a def with defaults (it is a FunD) -/
theorem Fun3D {params : Arguments} {body : List Stmt} {scope : Scope} {dvs : List V} {kws : List (Str × V)} (F : FunD K x qual params body scope dvs kws f fd) (sc : FnScope N ps scope) (len : ∀ ds G Q, S ds G Q → ds.length = ps.length)
    (hbody : ∀ (cdv : Value) (A : Around) (outer : List Env) (s : Shared) (H : Hp) (E : XK), Room k (A.deeper (envOfC qual scope s.heap.objs.size f cdv)) →
      ∃ t, PSs3 (cxOf CX0 P w K mg base N qual scope f cdv A outer s H E).nox body t ∧ ∀ ds G Q, S ds G Q → t { nx := fun _ G' => Q .non G', rt := Q } (start3 N ds) G) :
    FnOk P w K mg base CX0 (k + 1) f fd ps (spl K S) := by
  refine F.ok sc (fun vs H Q E h => ?_) fun cdv A outer s H vs Q E hr h => ?_
  · obtain ⟨ds, G, Q3, z, r, h, c⟩ := h
    exact z.length.trans (len ds G Q3 h)
  · obtain ⟨t, ht, q⟩ := hbody cdv A outer s H E hr
    obtain ⟨ds, G, Q3, z, r, h, c⟩ := h
    refine ⟨_, ht.nox, start3 N ds, G, { nx := fun _ G' => Q3 .non G', rt := Q3 }, Sz.start z, r, q ds G Q3 h, ⟨fun σ' H' τ' G' g' s' r' q' => c .non H' .non G' g' r' rfl q', c, fun _ _ _ _ _ _ _ z => z, fun _ _ _ _ _ _ _ z => z⟩⟩
end
end Lw
namespace Lw
open PySem PySem.Spec PyProof.Rows L2

/-! what is walked -/
/-- J gives the items ds, while kp holds -/
def WkOk (K : PySem.W.Frag) (J : It) (H' : Hp) (G' : Gp) (ds : List Da) (kp : Gp → Prop) : Prop := ∀ H2 G2, Go H' G' H2 G2 → R0 K H2 G2 → kp G2 →
  (∀ i, i < ds.length → J.go i H2) ∧ J.stop ds.length H2 ∧ ∀ i x H3, i < ds.length → J.yld i H2 x H3 → ∃ d, ds[i]? = some d ∧ Go H2 G2 H3 G2 ∧ R0 K H3 G2 ∧ Dz K H3 d x
abbrev TI3 := St3 → Gp → (List Da → (Gp → Prop) → Gp → Prop) → Prop
def liftI (K : PySem.W.Frag) (wi : TI3) : TI := fun σ H R => ∃ τ G R3, Sz K H τ σ ∧ R0 K H G ∧ wi τ G R3 ∧
  ∀ J H' G' ds kp, Go H G H' G' → R0 K H' G' → WkOk K J H' G' ds kp → R3 ds kp G' → R J H'
abbrev PI3 (X : Cx) (tg e : Expr) (wi : TI3) : Prop := PI X tg e (liftI X.K wi)
theorem pi_imp {X : Cx} {tg e : Expr} {t t' : TI} (h : PI X tg e t) (w : ∀ σ H R, t' σ H R → t σ H R) : PI X tg e t' :=
  ⟨fun pins s σ H R I q => h.run pins s σ H R I (w σ H R q)⟩
theorem liftI_run {K : PySem.W.Frag} {wi : TI3} {σ : L2.St} {H : Hp} {R : It → Hp → Prop} {τ : St3} {G : Gp} {R3 : List Da → (Gp → Prop) → Gp → Prop} (s : Sz K H τ σ) (r : R0 K H G) (h : wi τ G R3)
    (k : ∀ J H' G' ds kp, Go H G H' G' → R0 K H' G' → Sz K H' τ σ → WkOk K J H' G' ds kp → R3 ds kp G' → R J H') : liftI K wi σ H R :=
  ⟨τ, G, R3, s, r, h, fun J H' G' ds kp g r' w q => k J H' G' ds kp g r' (s.mono (g.tk r)) w q⟩

section
variable {X : Cx} {tg e e2 : Expr} {te te2 : TE3} {tl : TL3} {p pos tpos : Pos}
def iT (te : TE3) : TI3 := fun τ G R => te τ G fun x G1 => ∃ ds, x = .tup ds ∧ R ds (fun _ => True) G1
theorem i_tup (he : PE3 X e te) : PI3 X tg e (iT te) := pi_imp (pi_tup he) fun σ H R h => by
  obtain ⟨τ, G, R3, s, r, h, k⟩ := h
  refine lift_run s r h fun v H1 d G1 g1 r1 s1 z1 q1 => ?_
  obtain ⟨ds, rfl, q1⟩ := q1
  obtain ⟨a, xs, rfl, ht, zs⟩ := z1
  refine ⟨a, rfl, ⟨xs, ht.sq⟩, k _ H1 G1 ds _ g1 r1 (fun H2 G2 g2 r2 _ => ?_) q1⟩
  have ht2 := (ht.mono (g2.tk r1)).sq
  have zs2 := Dzs.mono (g2.tk r1) _ _ zs
  have hl := zs.length
  refine ⟨fun i hi => walk_tup.goes i H2 (by omega) ht2, by rw [← hl]; exact walk_tup.stops H2 ht2, fun i x H3 hi y => ?_⟩
  obtain ⟨rfl, hx⟩ := walk_tup.yields i H2 x H3 (by omega) ht2 y
  obtain ⟨d, hd, zd⟩ := zs2.back hx
  exact ⟨d, hd, Go.refl _ _, r2, zd⟩
def iL (te : TE3) : TI3 := fun τ G R => te τ G fun x G1 => ∃ a ds, x = .obj a ∧ G1 a = some (.lst ds) ∧ R ds (fun G2 => G2 a = some (.lst ds)) G1
theorem i_list (he : PE3 X e te) : PI3 X tg e (iL te) := pi_imp (pi_list he) fun σ H R h => by
  obtain ⟨τ, G, R3, s, r, h, k⟩ := h
  refine lift_run s r h fun v H1 d G1 g1 r1 s1 z1 q1 => ?_
  obtain ⟨a, ds, rfl, ga, q1⟩ := q1
  obtain ⟨xs, ha, zs⟩ := r1 a _ ga
  refine ⟨a, z1, ⟨xs, SqL.of ha⟩, k _ H1 G1 ds _ g1 r1 (fun H2 G2 g2 r2 kp => ?_) q1⟩
  obtain ⟨xs2, ha2, zs2⟩ := r2 a _ kp
  have hl := zs2.length
  have sq : SqL X.K H2 a xs2 := SqL.of ha2
  refine ⟨fun i hi => walk_list.goes i H2 (by omega) sq, by rw [← hl]; exact walk_list.stops H2 sq, fun i x H3 hi y => ?_⟩
  obtain ⟨rfl, hx⟩ := walk_list.yields i H2 x H3 (by omega) sq y
  obtain ⟨d, hd, zd⟩ := zs2.back hx
  exact ⟨d, hd, Go.refl _ _, r2, zd⟩
def intsD (n : Nat) : List Da := (List.range n).map fun i => .int (i : Nat)
theorem intsD_len (n : Nat) : (intsD n).length = n := by simp [intsD]
theorem intsD_get {n i : Nat} (h : i < n) : (intsD n)[i]? = some (.int (i : Nat)) := by simp [intsD, h]
def iR (te : TE3) : TI3 := fun τ G R => te τ G fun x G1 => ∃ n : Int, x = .int n ∧ -(2 ^ 62) ≤ n ∧ n < 2 ^ 62 ∧ R (intsD n.toNat) (fun _ => True) G1
theorem i_range (hm : X.mg "range" = none) (he : PE3 X e te) (hg : Gl X "range" := by rfl) (hs : starEach [e] X.env = [(false, eval e X.env)] := by rfl) (hs2 : starEach (e :: []) X.env = (false, eval e X.env) :: starEach [] X.env := by rfl) :
    PI3 X tg (.Call (.Name "range" p) [e] [] pos) (iR te) := pi_imp (pi_range1 hg hm (pa_cons he pa_nil hs2) hs) fun σ H R h => by
  obtain ⟨τ, G, R3, s, r, h, k⟩ := h
  refine lift_run s r h fun v H1 d G1 g1 r1 s1 z1 q1 => ?_
  obtain ⟨n, rfl, b1, b2, q1⟩ := q1
  obtain rfl : v = .int n := z1
  refine ⟨n, rfl, b1, b2, k _ H1 G1 (intsD n.toNat) _ g1 r1 (fun H2 G2 g2 r2 _ => ?_) q1⟩
  rw [intsD_len]
  refine ⟨fun i hi => walk_range.goes i H2 hi trivial, walk_range.stops H2 trivial, fun i x H3 hi y => ?_⟩
  obtain ⟨rfl, rfl⟩ := walk_range.yields i H2 x H3 hi trivial y
  refine ⟨.int (i : Nat), intsD_get hi, Go.refl _ _, r2, ?_⟩
  show V.int (0 + (i : Nat)) = .int (i : Nat)
  rw [Int.zero_add]
/-- (0, d0), (1, d1), .. -/
def enumD (ds : List Da) : List Da := ds.mapIdx fun i d => .tup [.int (i : Nat), d]
theorem enumD_len (ds : List Da) : (enumD ds).length = ds.length := by simp [enumD]
theorem enumD_get {ds : List Da} {i : Nat} {d : Da} (h : ds[i]? = some d) : (enumD ds)[i]? = some (.tup [.int (i : Nat), d]) := by simp [enumD, h]
theorem enumD_of {ds : List Da} {i : Nat} {e : Da} (h : (enumD ds)[i]? = some e) : ∃ d, ds[i]? = some d ∧ e = .tup [.int (i : Nat), d] := by
  unfold enumD at h
  rw [List.getElem?_mapIdx] at h
  cases q : ds[i]? with
  | none => rw [q] at h; cases h
  | some d => rw [q] at h; cases h; exact ⟨d, rfl, rfl⟩
theorem pair_new {K : PySem.W.Frag} {H2 : Hp} {G2 : Gp} {T : Addr} {x y : V} {dx dy : Da} (r : R0 K H2 G2) (hT : H2 T = none) (zx : Dz K H2 dx x) (zy : Dz K H2 dy y) :
    Go H2 G2 (upd H2 T (.tup [x, y])) G2 ∧ R0 K (upd H2 T (.tup [x, y])) G2 ∧ Dz K (upd H2 T (.tup [x, y])) (.tup [dx, dy]) (.ref T) :=
  ⟨go_new hT, r0_new r hT, T, [x, y], rfl, .inl upd_same, x, [y], rfl, Dz.mono (tk_new hT) _ _ zx, y, [], rfl, Dz.mono (tk_new hT) _ _ zy, rfl⟩
def iEL (te : TE3) : TI3 := fun τ G R => te τ G fun x G1 => ∃ a ds, x = .obj a ∧ G1 a = some (.lst ds) ∧ R (enumD ds) (fun G2 => G2 a = some (.lst ds)) G1
theorem i_enumL {elts : List Expr} {kk : Nat} (hm : X.mg "enumerate" = none) (he : PE3 X e te) (hg : Gl X "enumerate" := by rfl) (hs : starEach [e] X.env = [(false, eval e X.env)] := by rfl) (hs2 : starEach (e :: []) X.env = (false, eval e X.env) :: starEach [] X.env := by rfl) :
    PI3 X (.Tuple elts kk tpos) (.Call (.Name "enumerate" p) [e] [] pos) (iEL te) := pi_imp (pi_enum hg hm (pa_cons he pa_nil hs2) hs) fun σ H R h => by
  obtain ⟨τ, G, R3, s, r, h, k⟩ := h
  refine lift_run s r h fun v H1 d G1 g1 r1 s1 z1 q1 => ?_
  obtain ⟨a, ds, rfl, ga, q1⟩ := q1
  obtain ⟨xs, ha, zs⟩ := r1 a _ ga
  obtain rfl : v = .ref a := z1
  refine ⟨a, xs, rfl, SqL.of ha, k _ H1 G1 (enumD ds) _ g1 r1 (fun H2 G2 g2 r2 kp => ?_) q1⟩
  obtain ⟨xs2, ha2, zs2⟩ := r2 a _ kp
  have hl := zs2.length
  have sq : SqL X.K H2 a xs2 := SqL.of ha2
  rw [enumD_len]
  refine ⟨fun i hi => walk_enum.goes i H2 (by omega) sq, by rw [← hl]; exact walk_enum.stops H2 sq, fun i x H3 hi y => ?_⟩
  obtain ⟨T, x1, x2, rfl, hT, rfl, e1, e2⟩ := walk_enum.yields i H2 x H3 (by omega) sq y
  cases e1
  obtain ⟨d, hd, zd⟩ := zs2.back e2
  exact ⟨_, enumD_get hd, pair_new (dx := .int (i : Nat)) r2 hT rfl zd⟩
/-- pairs of two tuples -/
def zipD (ds es : List Da) : List Da := List.zipWith (fun a b => .tup [a, b]) ds es
theorem zipD_len (ds es : List Da) : (zipD ds es).length = min ds.length es.length := by simp [zipD]
theorem zipD_of {ds es : List Da} {i : Nat} {e : Da} (h : (zipD ds es)[i]? = some e) : ∃ a b, ds[i]? = some a ∧ es[i]? = some b ∧ e = .tup [a, b] := by
  unfold zipD at h
  rw [List.getElem?_zipWith] at h
  cases q : ds[i]? with
  | none => rw [q] at h; simp at h
  | some a =>
    cases q2 : es[i]? with
    | none => rw [q, q2] at h; simp at h
    | some b => rw [q, q2] at h; simp at h; exact ⟨a, b, rfl, rfl, h.symm⟩
def iZ (te te2 : TE3) : TI3 := fun τ G R => te τ G fun x G1 => te2 τ G1 fun y G2 => ∃ ds es, x = .tup ds ∧ y = .tup es ∧ R (zipD ds es) (fun _ => True) G2
theorem i_zip {elts : List Expr} {kk : Nat} (hm : X.mg "zip" = none) (he : PE3 X e te) (he2 : PE3 X e2 te2) (hg : Gl X "zip" := by rfl)
    (hs : starEach [e, e2] X.env = (false, eval e X.env) :: starEach [e2] X.env := by rfl) (hs2 : starEach (e2 :: []) X.env = (false, eval e2 X.env) :: starEach [] X.env := by rfl) (hpl : (backTo pos (starEach [e2] X.env)).any (·.1) = false := by rfl) :
    PI3 X (.Tuple elts kk tpos) (.Call (.Name "zip" p) [e, e2] [] pos) (iZ te te2) := pi_imp (RZ.pi_zipA hg hm (pa_cons he (pa_cons he2 pa_nil hs2) hs) hs hpl) fun σ H R h => by
  obtain ⟨τ, G, R3, s, r, h, k⟩ := h
  refine lift_run s r h fun v H1 d G1 g1 r1 s1 z1 q1 => ?_
  refine lift_run s1 r1 q1 fun v2 H2 d2 G2 g2 r2 s2 z2 q2 => ?_
  obtain ⟨ds, es, rfl, rfl, q2⟩ := q2
  obtain ⟨a, xs, rfl, ht, zs⟩ := Dz.mono (g2.tk r1) _ _ z1
  obtain ⟨b, ys, rfl, hu, zu⟩ := z2
  refine ⟨a, b, xs, ys, rfl, .inr ⟨ht.sq, hu.sq, k _ H2 G2 (zipD ds es) _ (g1.trans g2) r2 (fun H3 G3 g3 r3 _ => ?_) q2⟩⟩
  have hta := (ht.mono (g3.tk r2)).sq
  have htb := (hu.mono (g3.tk r2)).sq
  have za := Dzs.mono (g3.tk r2) _ _ zs
  have zb := Dzs.mono (g3.tk r2) _ _ zu
  have la := zs.length
  have lb := zu.length
  rw [zipD_len]
  refine ⟨fun i hi => ?_, ⟨xs, ys, hta, htb, by omega⟩, fun i x H4 hi y => ?_⟩
  · exact ⟨xs, ys, xs[i]'(by omega), ys[i]'(by omega), hta, htb, List.getElem?_eq_getElem _, List.getElem?_eq_getElem _⟩
  · obtain ⟨T, x1, y1, rfl, hT, rfl, e1, e2⟩ := y
    obtain ⟨d1, hd1, zd1⟩ := za.back (e1 xs hta)
    obtain ⟨d2, hd2, zd2⟩ := zb.back (e2 ys htb)
    refine ⟨.tup [d1, d2], ?_, pair_new r3 hT zd1 zd2⟩
    unfold zipD
    rw [List.getElem?_zipWith, hd1, hd2] <;> rfl
end

/-! for -/
section
variable {X : Cx} {tg iter elt : Expr} {body : List Stmt} {ifs : List Expr} {wi : TI3} {g : TG3} {ms : List Nat} {tb : TS3} {pos : Pos}
def sFor (wi : TI3) (g : TG3) (tb : TS3) : TS3 := fun D τ G => wi τ G fun ds kp G1 => ∃ Pv : Nat → St3 → Gp → Prop, Pv 0 τ G1 ∧ (∀ i τ' G', i ≤ ds.length → Pv i τ' G' → kp G') ∧
  (∀ i d τ' G', ds[i]? = some d → Pv i τ' G' → g d τ' G' fun τ2 G2 => tb { D with nx := Pv (i + 1), ct := Pv (i + 1), bk := D.nx } τ2 G2) ∧ ∀ τ' G', Pv ds.length τ' G' → D.nx τ' G'
theorem s_for (hc : X.calm = true) (hi : PI3 X tg iter wi) (hg : PG3 X tg ms g) (hb : PSs3 X body tb) (hp : PassesOwn (model X.prog X.w) X.A X.env X.xe := by exact PassesOwn.never) (hs : ∀ x, foldedSetIterable iter X.env x = pure x := by intro _; rfl) :
    PS3 X (.For tg iter body [] pos) (sFor wi g tb) := ps_imp (ps_for hp hc hi hg hb hs) fun D σ H h => by
  obtain ⟨τ, G, D3, s, r, h, k⟩ := h
  refine liftI_run s r h fun J H1 G1 ds kp g1 r1 s1 wk q1 => ?_
  obtain ⟨Pv, p0, pk, ps, pd⟩ := q1
  refine ⟨fun i m σ' H' => i + m = ds.length ∧ ∃ τ' G', Go H1 G1 H' G' ∧ Sz X.K H' τ' σ' ∧ R0 X.K H' G' ∧ Pv i τ' G', ⟨ds.length, Nat.zero_add _, τ, G1, Go.refl _ _, s1, r1, p0⟩, ?_⟩
  rintro i m σ' H' ⟨him, τ', G', g', s', r', pv⟩
  obtain ⟨w1, w2, w3⟩ := wk H' G' g' r' (pk i τ' G' (by omega) pv)
  by_cases hlt : i < ds.length
  · refine .inr ⟨w1 i hlt, fun σ2 H2 => ∃ τ2 G2, Go H1 G1 H2 G2 ∧ Sz X.K H2 τ2 σ2 ∧ R0 X.K H2 G2 ∧ Pv (i + 1) τ2 G2, fun σ2 H2 ⟨τ2, G2, a, b, c, d⟩ => ⟨m - 1, by omega, by omega, τ2, G2, a, b, c, d⟩, fun x H3 y => ?_⟩
    obtain ⟨d, hd, g3, r3, z3⟩ := w3 i x H3 hlt y
    refine ⟨d, τ', G', _, z3, s'.mono (g3.tk r'), r3, ps i d τ' G' hd pv, fun σ4 H4 τ4 G4 g4 s4 r4 _ q4 => ?_⟩
    have gg : Go H1 G1 H4 G4 := g'.trans (g3.trans g4)
    exact ⟨τ4, G4, _, s4, r4, q4, ⟨fun σ5 H5 τ5 G5 g5 s5 r5 q5 => ⟨τ5, G5, gg.trans g5, s5, r5, q5⟩, Cnt.after k.rt (g1.trans gg), fun σ5 H5 τ5 G5 g5 s5 r5 q5 => k.nx σ5 H5 τ5 G5 (g1.trans (gg.trans g5)) s5 r5 q5, fun σ5 H5 τ5 G5 g5 s5 r5 q5 => ⟨τ5, G5, gg.trans g5, s5, r5, q5⟩⟩⟩
  · have e : i = ds.length := by omega
    subst e
    exact .inl ⟨w2, k.nx σ' H' τ' G' (g1.trans g') s' r' (pd τ' G' pv)⟩

/-! list comprehensions -/
theorem wipe_mem : ∀ (vs : List Nat) (σ : L2.St) (j : Nat), (wipe σ vs)[j]? = if j ∈ vs ∧ j < σ.length then some none else σ[j]?
  | [], σ, j => by simp [wipe]
  | v :: vs, σ, j => by
    show ((wipe σ vs).set v none)[j]? = _
    rw [List.getElem?_set, wipe_mem vs σ j, wipe_length]
    by_cases e : v = j
    · subst e
      by_cases h : v < σ.length
      · simp [h]
      · simp [h, List.getElem?_eq_none (Nat.le_of_not_lt h)]
    · have : ¬ j = v := fun z => e z.symm
      simp [e, this]
theorem wipe_idem (σ : L2.St) (vs : List Nat) : wipe (wipe σ vs) vs = wipe σ vs := by
  apply List.ext_getElem?
  intro j
  rw [wipe_mem vs (wipe σ vs) j, wipe_length, wipe_mem vs σ j]
  split <;> rfl
abbrev PTs3 (X : Cx) (ifs : List Expr) (t : TT3) : Prop := PTs X ifs (liftT X.K t)
theorem pts_imp {X : Cx} {ifs : List Expr} {t t' : TT} (h : PTs X ifs t) (w : ∀ σ H Q, t' σ H Q → t σ H Q) : PTs X ifs t' :=
  ⟨fun pins s σ H Q I q => h.run pins s σ H Q I (w σ H Q q)⟩
def tY : TT3 := fun _ G Q => Q true G
theorem ts_nil : PTs3 X [] tY := pts_imp pts_nil fun σ H Q h => by
  obtain ⟨τ, G, Q3, s, r, h, k⟩ := h
  exact k true H G (Go.refl H G) r h
theorem ts_one {c : Expr} {t : TT3} (h : PT3 X c t) : PTs3 X [c] t := pts_one h
def lLc (wi : TI3) (g : TG3) (tt : TT3) (te : TE3) (vs : List Nat) : TL3 := fun τ G Q => wi τ G fun ds kp G1 => ∃ Pv : Nat → List Da → Gp → Prop, Pv 0 [] G1 ∧ (∀ i acc G', i ≤ ds.length → Pv i acc G' → kp G' ∧ acc.length < sizeLine) ∧
  (∀ i d acc G', ds[i]? = some d → Pv i acc G' → g d (wip τ vs) G' fun τ2 G2 => tt τ2 G2 fun b G3 => if b = true then te τ2 G3 fun y G4 => Pv (i + 1) (acc ++ [y]) G4 else Pv (i + 1) acc G3) ∧ ∀ acc G', Pv ds.length acc G' → Q acc G'
theorem lc_lift {K : PySem.W.Frag} {tt : TT3} {te : TE3} {vs : List Nat} (hms : ∀ i ∈ ms, i ∈ vs) (σ : L2.St) (H : Hp) (Q : VK) (h : liftL K (lLc wi g tt te vs) σ H Q) : tLc (liftI K wi) (liftG K ms g) (liftT K tt) (lift K te) vs σ H Q := by
  obtain ⟨τ, G, Q3, s, r, h, k⟩ := h
  refine liftI_run s r h fun J H1 G1 ds kp g1 r1 s1 wk q1 => ?_
  obtain ⟨Pv, p0, pk, ps, pd⟩ := q1
  intro Dl hD
  have gD : G1 Dl = none := r1.gnone hD
  have s1' : Sz K (upd H1 Dl (.lst [])) (wip τ vs) (wipe σ vs) := (s1.mono (tk_new hD)).wipe vs
  have iv : ∀ (i : Nat) (acc : List Da) (H' : Hp) (G' : Gp) , True := fun _ _ _ _ => trivial
  refine ⟨fun i m H' => i + m = ds.length ∧ ∃ acc xs G', Go H1 G1 H' G' ∧ R0 K H' G' ∧ G' Dl = none ∧ H' Dl = some (.lst xs) ∧ Dzs K H' acc xs ∧ Pv i acc G',
    ⟨ds.length, Nat.zero_add _, [], [], G1, go_new hD, r0_new r1 hD, gD, upd_same, rfl, p0⟩, ?_⟩
  rintro i m H' ⟨him, acc, xs, G', g', r', gn, hx, zx, pv⟩
  obtain ⟨w1, w2, w3⟩ := wk H' G' g' r' (pk i acc G' (by omega) pv).1
  by_cases hlt : i < ds.length
  · refine .inr ⟨w1 i hlt, fun H2 => ∃ acc xs G2, Go H1 G1 H2 G2 ∧ R0 K H2 G2 ∧ G2 Dl = none ∧ H2 Dl = some (.lst xs) ∧ Dzs K H2 acc xs ∧ Pv (i + 1) acc G2, fun H2 ⟨acc2, xs2, G2, a, b, c, d, e, f⟩ => ⟨m - 1, by omega, by omega, acc2, xs2, G2, a, b, c, d, e, f⟩, fun x H3 y => ?_⟩
    obtain ⟨d, hd, g3, r3, z3⟩ := w3 i x H3 hlt y
    have g13 := g'.trans g3
    refine ⟨d, wip τ vs, G', _, z3, (s1.mono (g13.tk r1)).wipe vs, r3, ps i d acc G' hd pv, fun σ4 H4 τ4 G4 g4 s4 r4 w4 q4 => ⟨(w4 vs hms).trans (wipe_idem σ vs), ?_⟩⟩
    refine liftT_run s4 r4 q4 fun b H5 G5 g5 r5 s5 q5 => ?_
    have h5 := g3.trans (g4.trans g5)
    cases b with
    | true =>
      rw [if_pos rfl] at q5 ⊢
      refine lift_run s5 r5 q5 fun v H6 dv G6 g6 r6 s6 z6 q6 => ?_
      have h6 := h5.trans g6
      obtain ⟨hx6, gn6⟩ := h6.hid Dl _ hx gn
      have zx6 := Dzs.mono (h6.tk r') _ _ zx
      refine ⟨xs, hx6, by rw [zx6.length]; exact (pk i acc G' (by omega) pv).2, acc ++ [dv], xs ++ [v], G6, ?_, ?_, gn6, upd_same, ?_, q6⟩
      · refine ⟨fun q o e gq => ?_, fun q e => ?_⟩
        · have hq : q ≠ Dl := fun z => by
            subst z
            rw [hD] at e; cases e
          obtain ⟨a1, a2⟩ := (g'.trans h6).hid q o e gq
          exact ⟨by rw [upd_ne hq]; exact a1, a2⟩
        · unfold upd
          split
          · exact fun z => nomatch z
          · exact (g'.trans h6).dom q e
      · intro b u eb
        have hb : b ≠ Dl := fun z => by
          subst z
          rw [gn6] at eb; cases eb
        refine (r6 b u eb).ex (fun v0 e => by rw [upd_ne hb]; exact e) fun c u0 f e => ?_
        have hc : c ≠ Dl := fun z => by
          subst z
          rw [hx6] at e; cases e; exact f
        rw [upd_ne hc]; exact e
      · have tk6 : Tk H6 (upd H6 Dl (.lst (xs ++ [v]))) := fun c u0 f e => by
          have hc : c ≠ Dl := fun z => by
            subst z
            rw [hx6] at e; cases e; exact f
          rw [upd_ne hc]; exact e
        exact Dzs.mono tk6 _ _ (zx6.append ⟨v, [], rfl, z6, rfl⟩)
    | false =>
      rw [if_neg Bool.false_ne_true] at q5 ⊢
      obtain ⟨hx5, gn5⟩ := h5.hid Dl _ hx gn
      exact ⟨acc, xs, G5, g'.trans h5, r5, gn5, hx5, Dzs.mono (h5.tk r') _ _ zx, q5⟩
  · have e : i = ds.length := by omega
    subst e
    exact .inl ⟨w2, k Dl xs H' acc G' (g1.trans g') r' (none_back (K := K) g1 hD) hx gn zx (pd acc G' pv)⟩
theorem l_lc {scope : Scope} {own : List (Str × Nat)} {tt : TT3} {te : TE3} (hc : X.calm = true) (hN : X.N.Nodup) (hi : PI3 X tg iter wi) (ok : BlkOk X.N X.env.scope scope own)
    (hg : ∀ (s : Shared) (H : Hp) (C : Addr) (cl : List (Str × Addr)) (fp : List Addr), PG3 (X.blk s H scope (compEnvC scope cl C X.env) fp) tg ms g) (ht : ∀ (s : Shared) (H : Hp) (C : Addr) (cl : List (Str × Addr)) (fp : List Addr), PTs3 (X.blk s H scope (compEnvC scope cl C X.env) fp) ifs tt)
    (he : ∀ (s : Shared) (H : Hp) (C : Addr) (cl : List (Str × Addr)) (fp : List Addr), PE3 (X.blk s H scope (compEnvC scope cl C X.env) fp) elt te) (hms : ∀ i ∈ ms, i ∈ own.map (·.2) := by decide) (hs : ∀ x, foldedSetIterable iter X.env x = pure x := by intro _; rfl) :
    PL3 X (.ListComp elt [⟨tg, iter, ifs, 0⟩] scope pos) (lLc wi g tt te (own.map (·.2))) := pe_imp (pe_lc hc hN hi ok hg ht he hs) (lc_lift hms)
/-- name = [..], kept -/
theorem s_setLc {i : Nat} {y : Str} {py spos : Pos} {scope : Scope} {own : List (Str × Nat)} {tt : TT3} {te : TE3} (hc : X.calm = true) (hN : X.N.Nodup) (hi : PI3 X tg iter wi) (ok : BlkOk X.N X.env.scope scope own)
    (hg : ∀ (s : Shared) (H : Hp) (C : Addr) (cl : List (Str × Addr)) (fp : List Addr), PG3 (X.blk s H scope (compEnvC scope cl C X.env) fp) tg ms g) (ht : ∀ (s : Shared) (H : Hp) (C : Addr) (cl : List (Str × Addr)) (fp : List Addr), PTs3 (X.blk s H scope (compEnvC scope cl C X.env) fp) ifs tt)
    (he : ∀ (s : Shared) (H : Hp) (C : Addr) (cl : List (Str × Addr)) (fp : List Addr), PE3 (X.blk s H scope (compEnvC scope cl C X.env) fp) elt te)
    (hy : X.N[i]? = some y := by rfl) (hyl : X.env.scope.names.lookup y = some .local := by rfl)
    (hsw : swapsWith (.ListComp elt [⟨tg, iter, ifs, 0⟩] scope pos) (some (.Name y py)) spos.line X.env = pure true := by exact sw_true rfl rfl rfl (by decide +kernel)) (hms : ∀ i ∈ ms, i ∈ own.map (·.2) := by decide) (hs : ∀ x, foldedSetIterable iter X.env x = pure x := by intro _; rfl) :
    PS3 X (.Assign [.Name y py] (.ListComp elt [⟨tg, iter, ifs, 0⟩] scope pos) spos) (sAsg (eNew (lLc wi g tt te (own.map (·.2)))) (gN i)) :=
  ps_imp (ps_setLc hc hN hy hyl hsw hi ok hg ht he hs) fun D σ H h => by
    obtain ⟨τ, G, D3, s, r, h, k⟩ := h
    refine lc_lift hms σ H _ ⟨τ, G, _, s, r, h, fun p xs H' ds G' g' r' hp e1 gp z q => ?_⟩
    have z' : Dz X.K H' (.obj p) (.ref p) := rfl
    exact k.nx _ H' _ _ (go_show g' hp) ((s.mono (g'.tk r)).set z' i) (r0_show (ao := .lst ds) r' ⟨xs, e1, z⟩) (q p gp)
end
end Lw
namespace Lw
open PySem PySem.Spec PyProof.Rows L2

/-! ints -/
def oI (C : Int → Int → Prop) (g : Int → Int → Int) : O3 := fun x y G Q => ∃ i j, x = .int i ∧ y = .int j ∧ C i j ∧ Q (.int (g i j)) G
def oI0 (g : Int → Int → Int) : O3 := fun x y G Q => ∃ i j, x = .int i ∧ y = .int j ∧ Q (.int (g i j)) G
def oB0 (g : Int → Int → Bool) : O3 := fun x y G Q => ∃ i j, x = .int i ∧ y = .int j ∧ Q (.bl (g i j)) G
section
variable {K : PySem.W.Frag}
theorem i_I {C : Int → Int → Prop} {g : Int → Int → Int} : OImp K (rI C fun i j => .int (g i j)) (oI C g) := fun H G dx dy x y Q3 Q r zx zy h k => by
  obtain ⟨i, j, rfl, rfl, c, q⟩ := h
  exact ⟨i, j, zx, zy, c, k.here (d := .int (g i j)) r rfl q⟩
theorem i_I0 {g : Int → Int → Int} : OImp K (rI0 fun i j => .int (g i j)) (oI0 g) := fun H G dx dy x y Q3 Q r zx zy h k => by
  obtain ⟨i, j, rfl, rfl, q⟩ := h
  exact ⟨i, j, zx, zy, k.here (d := .int (g i j)) r rfl q⟩
theorem i_B0 {g : Int → Int → Bool} : OImp K (rI0 fun i j => .bl (g i j)) (oB0 g) := fun H G dx dy x y Q3 Q r zx zy h k => by
  obtain ⟨i, j, rfl, rfl, q⟩ := h
  exact ⟨i, j, zx, zy, k.here (d := .bl (g i j)) r rfl q⟩
end
section
variable {X : Cx} {a b c e : Expr} {ta tb te : TE3} {pos : Pos}
theorem e_add (ha : PE3 X a ta) (hb : PE3 X b tb) : PE3 X (.BinOp a .Add b pos) (eOp (oI0 fun i j => i + j) ta tb) := e_op op_add i_I0 ha hb
theorem e_sub (ha : PE3 X a ta) (hb : PE3 X b tb) : PE3 X (.BinOp a .Sub b pos) (eOp (oI0 fun i j => i - j) ta tb) := e_op op_sub i_I0 ha hb
theorem e_mul (ha : PE3 X a ta) (hb : PE3 X b tb) : PE3 X (.BinOp a .Mult b pos) (eOp (oI CMul fun i j => i * j) ta tb) := e_op op_mul i_I ha hb
theorem e_mulW (ha : PE3 X a ta) (hb : PE3 X b tb) : PE3 X (.BinOp a .Mult b pos) (eOp (oI CMulW fun i j => i * j) ta tb) := e_op op_mulW i_I ha hb
theorem e_mod (ha : PE3 X a ta) (hb : PE3 X b tb) : PE3 X (.BinOp a .Mod b pos) (eOp (oI (fun _ j => 0 < j) fun i j => i % j) ta tb) := e_op op_mod i_I ha hb
theorem e_fdiv (ha : PE3 X a ta) (hb : PE3 X b tb) : PE3 X (.BinOp a .FloorDiv b pos) (eOp (oI CDiv fun i j => i / j) ta tb) := e_op op_fdiv i_I ha hb
theorem e_pow (ha : PE3 X a ta) (hb : PE3 X b tb) : PE3 X (.BinOp a .Pow b pos) (eOp (oI CPow fun i j => i ^ j.toNat) ta tb) := e_op op_pow i_I ha hb
theorem e_shl (ha : PE3 X a ta) (hb : PE3 X b tb) : PE3 X (.BinOp a .LShift b pos) (eOp (oI CPow fun i j => i * 2 ^ j.toNat) ta tb) := e_op op_shl i_I ha hb
theorem e_band (ha : PE3 X a ta) (hb : PE3 X b tb) : PE3 X (.BinOp a .BitAnd b pos) (eOp (oI0 Builtin.bitAnd) ta tb) := e_op op_and i_I0 ha hb
def oLt : O3 := oB0 fun i j => decide (i < j)
def oLe : O3 := oB0 fun i j => decide (i ≤ j)
def oGt : O3 := oB0 fun i j => decide (j < i)
def oGe : O3 := oB0 fun i j => decide (j ≤ i)
theorem e_lt (ha : PE3 X a ta) (hb : PE3 X b tb) : PE3 X (.Compare a [.Lt] [b] pos) (eOp oLt ta tb) := e_cmp op_lt i_B0 ha hb
theorem e_gt (ha : PE3 X a ta) (hb : PE3 X b tb) : PE3 X (.Compare a [.Gt] [b] pos) (eOp oGt ta tb) := e_cmp op_gt i_B0 ha hb
theorem e_ge (ha : PE3 X a ta) (hb : PE3 X b tb) : PE3 X (.Compare a [.GtE] [b] pos) (eOp oGe ta tb) := e_cmp op_ge i_B0 ha hb
theorem t_lt (ha : PE3 X a ta) (hb : PE3 X b tb) : PT3 X (.Compare a [.Lt] [b] pos) (tB3 (eOp oLt ta tb)) := t_cmp op_lt i_B0 ha hb
theorem t_gt (ha : PE3 X a ta) (hb : PE3 X b tb) : PT3 X (.Compare a [.Gt] [b] pos) (tB3 (eOp oGt ta tb)) := t_cmp op_gt i_B0 ha hb
theorem e_lele (ha : PE3 X a ta) (hb : PE3 X b tb) {tc : TE3} (hc : PE3 X c tc) (hm : lastMarks [CmpOp.LtE, CmpOp.LtE] [b, c] = false := by with_unfolding_all rfl) : PE3 X (.Compare a [.LtE, .LtE] [b, c] pos) (eChain oLe oLe ta tb tc) := e_chain op_le i_B0 op_le i_B0 ha hb hc hm
theorem t_lele (ha : PE3 X a ta) (hb : PE3 X b tb) {tc : TE3} (hc : PE3 X c tc) (hm : lastMarks [CmpOp.LtE, CmpOp.LtE] [b, c] = false := by with_unfolding_all rfl) : PT3 X (.Compare a [.LtE, .LtE] [b, c] pos) (tB3 (eChain oLe oLe ta tb tc)) := t_chain op_le i_B0 op_le i_B0 ha hb hc hm
/-- x |= m -/
theorem ip_or : PIp X .BitOr (ipI Builtin.bitOr) := fun pins s σ H x y v u Q I rx ry h => by
  obtain ⟨i, j, rfl, rfl, q⟩ := h
  exact iop_or pins s σ H (.int i) (.int j) v u Q I rx ry ⟨i, j, rfl, rfl, q⟩
end

/-! == of plain data -/
mutual
def toP : Da → PyData
  | .non => .none
  | .bl b => .bool b
  | .int i => .int i
  | .str x => .str x
  | .tup ds => .tuple (toPs ds)
  | .obj _ => .none
  | .ty _ => .none
  | .scr _ => .none
def toPs : List Da → List PyData
  | [] => []
  | d :: ds => toP d :: toPs ds
end
theorem toPs_map : ∀ ds : List Da, toPs ds = ds.map toP
  | [] => rfl
  | d :: ds => by rw [toPs, toPs_map ds, List.map_cons]
theorem toP_tup (ds : List Da) : toP (.tup ds) = .tuple (ds.map toP) := by rw [toP, toPs_map]
/-- numbers, texts, None, tuples of them, at most n deep -/
def okD : Nat → Da → Bool
  | _, .non => true
  | _, .int _ => true
  | _, .str x => PyData.strOk x
  | 0, .tup _ => false
  | n + 1, .tup ds => ds.all (okD n)
  | _, _ => false
noncomputable def eqB (x y : Da) : Bool := @decide (x = y) (Classical.propDecidable _)
theorem eqB_t {x y : Da} (h : x = y) : eqB x y = true := by
  exact @decide_eq_true (x = y) (Classical.propDecidable _) h
theorem eqB_f {x y : Da} (h : x ≠ y) : eqB x y = false := by
  exact @decide_eq_false (x = y) (Classical.propDecidable _) h
theorem eqB_iff {x y : Da} : eqB x y = true ↔ x = y := by
  exact @decide_eq_true_iff (x = y) (Classical.propDecidable _)
theorem eqB_int (i j : Int) : eqB (.int i) (.int j) = decide (i = j) := by
  by_cases h : i = j
  · rw [eqB_t (by rw [h]), decide_eq_true h]
  · rw [eqB_f (fun z => h (by injection z)), decide_eq_false h]
theorem eqB_str (i j : Str) : eqB (.str i) (.str j) = decide (i = j) := by
  by_cases h : i = j
  · rw [eqB_t (by rw [h]), decide_eq_true h]
  · rw [eqB_f (fun z => h (by injection z)), decide_eq_false h]
theorem eqvAll_iff : ∀ {ds es : List Da}, (∀ d ∈ ds, ∀ e ∈ es, (PyData.eqv (toP d) (toP e) = true ↔ d = e)) → (PyData.eqvAll (ds.map toP) (es.map toP) = true ↔ ds = es)
  | [], [], _ => by simp [PyData.eqvAll]
  | [], e :: es, _ => by simp [PyData.eqvAll]
  | d :: ds, [], _ => by simp [PyData.eqvAll]
  | d :: ds, e :: es, h => by
    have ih := eqvAll_iff (ds := ds) (es := es) fun a ha b hb => h a (List.mem_cons_of_mem _ ha) b (List.mem_cons_of_mem _ hb)
    have h0 := h d List.mem_cons_self e List.mem_cons_self
    show (PyData.eqv (toP d) (toP e) && PyData.eqvAll (ds.map toP) (es.map toP)) = true ↔ _
    rw [Bool.and_eq_true, h0, ih]
    constructor
    · rintro ⟨rfl, rfl⟩; rfl
    · intro z; injection z with z1 z2; exact ⟨z1, z2⟩
theorem eqv_iff : ∀ (n : Nat) {d e : Da}, okD n d = true → okD n e = true → (PyData.eqv (toP d) (toP e) = true ↔ d = e) := by
  intro n
  induction n with
  | zero =>
    intro d e hd he
    cases d <;> cases e <;> simp_all [okD, toP, PyData.eqv]
  | succ n ih =>
    intro d e hd he
    cases d with
    | tup ds =>
      cases e with
      | tup es =>
        have hd' : ∀ a ∈ ds, okD n a = true := by simpa [okD] using hd
        have he' : ∀ a ∈ es, okD n a = true := by simpa [okD] using he
        rw [toP_tup, toP_tup, PyData.eqv, eqvAll_iff fun a ha b hb => ih (hd' a ha) (he' b hb)]
        constructor
        · rintro rfl; rfl
        · intro z; injection z
      | _ => simp_all [okD, toP, PyData.eqv]
    | _ => cases e <;> simp_all [okD, toP, PyData.eqv]
theorem eqv_eqB {n : Nat} {d e : Da} (hd : okD n d = true) (he : okD n e = true) : PyData.eqv (toP d) (toP e) = eqB d e := by
  have h := eqv_iff n hd he
  by_cases z : d = e
  · rw [eqB_t z, h.mpr z]
  · rw [eqB_f z]
    cases q : PyData.eqv (toP d) (toP e) with
    | false => rfl
    | true => exact absurd (h.mp q) z
theorem canLay_ok : ∀ (n : Nat) {d : Da}, okD n d = true → (toP d).canLay0 = true ∧ (toP d).depth ≤ n + 1 := by
  have all : ∀ (n : Nat), (∀ {d : Da}, okD n d = true → (toP d).canLay0 = true ∧ (toP d).depth ≤ n + 1) → ∀ ds : List Da, (∀ d ∈ ds, okD n d = true) → PyData.canLayAll0 (ds.map toP) = true ∧ PyData.depthAll (ds.map toP) ≤ n + 1 := by
    intro n ih ds
    induction ds with
    | nil => intro _; exact ⟨rfl, by simp [PyData.depthAll]⟩
    | cons d ds ih2 =>
      intro h
      obtain ⟨a1, a2⟩ := ih (h d List.mem_cons_self)
      obtain ⟨b1, b2⟩ := ih2 fun e he => h e (List.mem_cons_of_mem _ he)
      refine ⟨by simp [PyData.canLayAll0, a1, b1], ?_⟩
      simp only [List.map_cons, PyData.depthAll]
      omega
  intro n
  induction n with
  | zero =>
    intro d h
    cases d <;> simp_all [okD, toP, PyData.canLay0, PyData.depth]
  | succ n ih =>
    intro d h
    cases d with
    | tup ds =>
      have hd' : ∀ a ∈ ds, okD n a = true := by simpa [okD] using h
      obtain ⟨a1, a2⟩ := all n ih ds hd'
      rw [toP_tup]
      refine ⟨by simpa [PyData.canLay0] using a1, ?_⟩
      simp only [PyData.depth]
      omega
    | _ => simp_all [okD, toP, PyData.canLay0, PyData.depth]
theorem shaped_ok {n : Nat} {d : Da} (hn : n ≤ 60) (h : okD n d = true) : SeqAt.shaped (toP d) = true := by
  obtain ⟨a, b⟩ := canLay_ok n h
  unfold SeqAt.shaped
  rw [a]
  simp; omega
theorem dp_ok {K : PySem.W.Frag} {H : Hp} : ∀ (n : Nat) {d : Da} {v : V}, okD n d = true → Dz K H d v → Dp K H v (toP d) := by
  have all : ∀ (n : Nat), (∀ {d : Da} {v : V}, okD n d = true → Dz K H d v → Dp K H v (toP d)) → ∀ (ds : List Da) (vs : List V), (∀ d ∈ ds, okD n d = true) → Dzs K H ds vs → DpAll K H vs (ds.map toP) := by
    intro n ih ds
    induction ds with
    | nil =>
      intro vs _ z
      rw [show vs = [] from z]
      exact .nil
    | cons d ds ih2 =>
      intro vs h z
      obtain ⟨x, r, rfl, z1, z2⟩ := z
      exact .cons (ih (h d List.mem_cons_self) z1) (ih2 r (fun e he => h e (List.mem_cons_of_mem _ he)) z2)
  intro n
  induction n with
  | zero =>
    intro d v h z
    cases d with
    | non => obtain rfl : v = .non := z; exact .non
    | int i => obtain rfl : v = .int i := z; exact .int i
    | str x => obtain rfl : v = .str x := z; exact .str x
    | _ => simp [okD] at h
  | succ n ih =>
    intro d v h z
    cases d with
    | non => obtain rfl : v = .non := z; exact .non
    | int i => obtain rfl : v = .int i := z; exact .int i
    | str x => obtain rfl : v = .str x := z; exact .str x
    | tup ds =>
      have hd' : ∀ a ∈ ds, okD n a = true := by simpa [okD] using h
      obtain ⟨a, xs, rfl, ht, zs⟩ := z
      rw [toP_tup]
      exact .tup ht.sq (all n ih ds xs hd' zs)
    | _ => simp [okD] at h
/-- data that == may be asked of -/
def Ok (d : Da) : Prop := okD 4 d = true
def oEq : O3 := fun x y G Q => Ok x ∧ Ok y ∧ Q (.bl (eqB x y)) G
def oNe : O3 := fun x y G Q => Ok x ∧ Ok y ∧ Q (.bl (!eqB x y)) G
section
variable {K : PySem.W.Frag}
theorem i_eq : OImp K (rEqD K) oEq := fun H G dx dy x y Q3 Q r zx zy h k => by
  obtain ⟨hx, hy, q⟩ := h
  refine ⟨toP dx, toP dy, dp_ok 4 hx zx, dp_ok 4 hy zy, shaped_ok (by decide) hx, shaped_ok (by decide) hy, ?_⟩
  rw [eqv_eqB hx hy]
  exact k.here (d := .bl _) r rfl q
theorem i_ne : OImp K (rNeD K) oNe := fun H G dx dy x y Q3 Q r zx zy h k => by
  obtain ⟨hx, hy, q⟩ := h
  refine ⟨toP dx, toP dy, dp_ok 4 hx zx, dp_ok 4 hy zy, shaped_ok (by decide) hx, shaped_ok (by decide) hy, ?_⟩
  rw [eqv_eqB hx hy]
  exact k.here (d := .bl _) r rfl q
end
section
variable {X : Cx} {a b c e : Expr} {ta tb te : TE3} {pos : Pos}
theorem e_eq (hu : X.A.units + 64 < cLine) (ha : PE3 X a ta) (hb : PE3 X b tb) : PE3 X (.Compare a [.Eq] [b] pos) (eOp oEq ta tb) := e_cmp (op_eqD hu) i_eq ha hb
theorem e_ne (hu : X.A.units + 64 < cLine) (ha : PE3 X a ta) (hb : PE3 X b tb) : PE3 X (.Compare a [.NotEq] [b] pos) (eOp oNe ta tb) := e_cmp (op_neD hu) i_ne ha hb
theorem t_eq (hu : X.A.units + 64 < cLine) (ha : PE3 X a ta) (hb : PE3 X b tb) : PT3 X (.Compare a [.Eq] [b] pos) (tB3 (eOp oEq ta tb)) := t_cmp (op_eqD hu) i_eq ha hb
theorem t_ne (hu : X.A.units + 64 < cLine) (ha : PE3 X a ta) (hb : PE3 X b tb) : PT3 X (.Compare a [.NotEq] [b] pos) (tB3 (eOp oNe ta tb)) := t_cmp (op_neD hu) i_ne ha hb
/-- is not None -/
def oNotN : O3 := fun x y G Q => y = .non ∧ ((x = .non ∧ Q (.bl false) G) ∨ (∃ i, x = .int i ∧ Q (.bl true) G))
theorem e_notN (ha : PE3 X a ta) (hb : PE3 X b tb) : PE3 X (.Compare a [.IsNot] [b] pos) (eOp oNotN ta tb) := e_cmp op_notN (fun H G dx dy x y Q3 Q r zx zy h k => by
  obtain ⟨rfl, h⟩ := h
  refine ⟨zy, ?_⟩
  rcases h with ⟨rfl, q⟩ | ⟨i, rfl, q⟩
  · obtain rfl : x = .non := zx
    exact k.here (d := .bl false) r rfl q
  · obtain rfl : x = .int i := zx
    exact k.here (d := .bl true) r rfl q) ha hb
theorem t_notN (ha : PE3 X a ta) (hb : PE3 X b tb) : PT3 X (.Compare a [.IsNot] [b] pos) (tB3 (eOp oNotN ta tb)) := t_cmp op_notN (fun H G dx dy x y Q3 Q r zx zy h k => by
  obtain ⟨rfl, h⟩ := h
  refine ⟨zy, ?_⟩
  rcases h with ⟨rfl, q⟩ | ⟨i, rfl, q⟩
  · obtain rfl : x = .non := zx
    exact k.here (d := .bl false) r rfl q
  · obtain rfl : x = .int i := zx
    exact k.here (d := .bl true) r rfl q) ha hb
/-- is not True -/
def oNotB : O3 := fun x y G Q => ∃ a b, x = .bl a ∧ y = .bl b ∧ Q (.bl (!decide (a = b))) G
theorem t_notB (ha : PE3 X a ta) (hb : PE3 X b tb) : PT3 X (.Compare a [.IsNot] [b] pos) (tB3 (eOp oNotB ta tb)) := t_cmp op_isnot_bl (fun H G dx dy x y Q3 Q r zx zy h k => by
  obtain ⟨a, b, rfl, rfl, q⟩ := h
  exact ⟨a, b, zx, zy, k.here (d := .bl _) r rfl q⟩) ha hb
/-- x not in a tuple -/
def oNotIn : O3 := fun x y G Q => ∃ ds, y = .tup ds ∧ Ok x ∧ Ok y ∧ ∀ b : Bool, (b = true ↔ x ∉ ds) → Q (.bl b) G
theorem op_notInTup (hu : X.A.units + 65 < cLine) : OpR X (compareOp .NotIn) (fun x y H Q => ∃ d ds, Dp X.K H x d ∧ Dp X.K H y (.tuple ds) ∧ SeqAt.shaped d = true ∧ SeqAt.shaped (.tuple ds) = true ∧ Q (.bl (!ds.any fun z => PyData.eqv z d)) H) := by
  intro pins s σ H x y v u Q I rx ry h
  obtain ⟨d, ds, hd, he, sd, se, q⟩ := h
  obtain ⟨as, h1⟩ := Dp.reads I d x v hd rx
  obtain ⟨bs, h2⟩ := Dp.reads I (.tuple ds) y u he ry
  exact SeqAt.notIn_tuple_reads h2 h1 (SeqAt.canLay_of_shaped se) (SeqAt.canLay_of_shaped sd) (room_in_shaped sd hu) ⟨.bl _, H, I, rfl, q⟩
theorem t_notIn (hu : X.A.units + 65 < cLine) (ha : PE3 X a ta) (hb : PE3 X b tb) (hm : behindInMarks .NotIn b = false := by rfl) : PT3 X (.Compare a [.NotIn] [b] pos) (tB3 (eOp oNotIn ta tb)) := t_cmp (op_notInTup hu) (fun H G dx dy x y Q3 Q r zx zy h k => by
  obtain ⟨ds, rfl, hx, hy, q⟩ := h
  refine ⟨toP dx, ds.map toP, dp_ok 4 hx zx, by rw [← toP_tup]; exact dp_ok 4 hy zy, shaped_ok (by decide) hx, by rw [← toP_tup]; exact shaped_ok (by decide) hy, ?_⟩
  refine k.here (d := .bl _) r rfl (q _ ?_)
  have hd' : ∀ a ∈ ds, okD 4 a = true := fun a ha => by
    have h3 : ∀ a ∈ ds, okD 3 a = true := by simpa [Ok, okD] using hy
    have up : ∀ (n : Nat) (d : Da), okD n d = true → okD (n + 1) d = true := by
      intro n
      induction n with
      | zero => intro d h; cases d <;> simp_all [okD]
      | succ n ih =>
        intro d h
        cases d with
        | tup es =>
          have h' : ∀ a ∈ es, okD n a = true := by simpa [okD] using h
          show es.all (okD (n + 1)) = true
          exact List.all_eq_true.mpr fun e he => ih e (h' e he)
        | _ => simp_all [okD]
    exact up 3 a (h3 a ha)
  rw [Bool.not_eq_true', List.any_eq_false]
  constructor
  · intro h hm
    exact h (toP dx) (List.mem_map_of_mem hm) ((eqv_iff 4 hx hx).mpr rfl)
  · intro h z hz e
    obtain ⟨w, hw, rfl⟩ := List.mem_map.mp hz
    exact h (by rw [← (eqv_iff 4 (hd' w hw) hx).mp e]; exact hw)) ha hb hm
/-- == and != of two new lists -/
def tNeL (tl tm : TL3) : TT3 := fun τ G Q => tl τ G fun ds G1 => tm τ G1 fun es G2 => ds.all (okD 3) = true ∧ es.all (okD 3) = true ∧ ∀ b : Bool, (b = true ↔ ds ≠ es) → Q b G2
theorem t_neL {tl tm : TL3} (hu : X.A.units + 64 < cLine) (ha : PL3 X a tl) (hb : PL3 X b tm) : PT3 X (.Compare a [.NotEq] [b] pos) (tNeL tl tm) := pt_imp (pt_cmpR (op_neD hu) ha hb (nomark _)) fun σ H Q h => by
  obtain ⟨τ, G, Q3, s, r, h, k⟩ := h
  unfold tTest tOp
  refine liftL_run s r h fun p xs H1 ds G1 g1 r1 s1 hp e1 gp z1 q1 => ?_
  refine liftL_run s1 r1 q1 fun p2 xs2 H2 es G2 g2 r2 s2 hp2 e2 gp2 z2 q2 => ?_
  obtain ⟨hd, he, q2⟩ := q2
  have z1' := Dzs.mono (g2.tk r1) _ _ z1
  have hd' : okD 4 (.tup ds) = true := hd
  have he' : okD 4 (.tup es) = true := he
  have list : ∀ (l : List Da) (vs : List V), l.all (okD 3) = true → Dzs X.K H2 l vs → DpAll X.K H2 vs (l.map toP) := by
    intro l
    induction l with
    | nil =>
      intro vs _ z
      rw [show vs = [] from z]; exact .nil
    | cons d l ih =>
      intro vs h z
      obtain ⟨x, rr, rfl, a1, a2⟩ := z
      have h' : okD 3 d = true ∧ l.all (okD 3) = true := by simpa using h
      exact .cons (dp_ok 3 h'.1 a1) (ih rr h'.2 a2)
  have sh : ∀ l : List Da, okD 4 (.tup l) = true → SeqAt.shaped (.list (l.map toP)) = true := fun l h => by
    have hh := shaped_ok (n := 4) (by decide) h
    rw [toP_tup] at hh
    unfold SeqAt.shaped at hh ⊢
    simpa [PyData.canLay0, PyData.depth] using hh
  refine ⟨.list (ds.map toP), .list (es.map toP), .lst (SqL.of (g2.hid p _ e1 gp).1) (list _ _ hd z1'), .lst (SqL.of e2) (list _ _ he z2), sh ds hd', sh es he', _, rfl, k _ H2 G2 (g1.trans g2) r2 (q2 _ ?_)⟩
  have e := eqv_iff 4 hd' he'
  rw [toP_tup, toP_tup, PyData.eqv] at e
  rw [PyData.eqv, Bool.not_eq_true', ← Bool.not_eq_true, e]
  constructor
  · intro h z; exact h (by rw [z])
  · intro h z; injection z with z; exact h z

/-! tuples joined, repeated -/
def oCat : O3 := fun x y G Q => ∃ ds es, x = .tup ds ∧ y = .tup es ∧ ds.length + es.length ≤ sizeLine ∧ Q (.tup (ds ++ es)) G
theorem e_cat (ha : PE3 X a ta) (hb : PE3 X b tb) : PE3 X (.BinOp a .Add b pos) (eOp oCat ta tb) := e_op op_catA (fun H G dx dy x y Q3 Q r zx zy h k => by
  obtain ⟨ds, es, rfl, rfl, hl, q⟩ := h
  obtain ⟨p1, xs, rfl, h1, z1⟩ := zx
  obtain ⟨p2, ys, rfl, h2, z2⟩ := zy
  have l1 := z1.length
  have l2 := z2.length
  refine ⟨p1, p2, xs, ys, rfl, rfl, h1.sq, h2.sq, by omega, fun e => ?_, fun _ e => ?_, fun _ _ => Cnt.tup k r (z1.append z2) q⟩
  · have : ds = [] := List.length_eq_zero_iff.mp (by rw [← l1, e]; rfl)
    subst this
    exact k.here (d := .tup es) r ⟨p2, ys, rfl, h2, z2⟩ q
  · have : es = [] := List.length_eq_zero_iff.mp (by rw [← l2, e]; rfl)
    subst this
    rw [List.append_nil] at q
    exact k.here (d := .tup ds) r ⟨p1, xs, rfl, h1, z1⟩ q) ha hb
def oRepT : O3 := fun x y G Q => ∃ ds k, x = .tup ds ∧ y = .int k ∧ ds ≠ [] ∧ 2 ≤ k ∧ k ≤ 1000 ∧ ds.length ≤ 1000 ∧ Q (.tup (List.replicate k.toNat ds).flatten) G
theorem dzs_rep {K : PySem.W.Frag} {H : Hp} {ds : List Da} {xs : List V} (z : Dzs K H ds xs) : ∀ n, Dzs K H (List.replicate n ds).flatten (List.replicate n xs).flatten
  | 0 => rfl
  | n + 1 => by
    rw [List.replicate_succ, List.replicate_succ, List.flatten_cons, List.flatten_cons]
    exact z.append (dzs_rep z n)
theorem e_repT (ha : PE3 X a ta) (hb : PE3 X b tb) : PE3 X (.BinOp a .Mult b pos) (eOp oRepT ta tb) := e_op op_repT (fun H G dx dy x y Q3 Q r zx zy h k => by
  obtain ⟨ds, i, rfl, rfl, hne, h1, h2, h3, q⟩ := h
  obtain ⟨p1, xs, rfl, ht, z1⟩ := zx
  have l1 := z1.length
  exact ⟨p1, i, xs, rfl, zy, ht.sq, fun e => hne (List.length_eq_zero_iff.mp (by rw [← l1, e]; rfl)), h1, h2, by omega, Cnt.tup k r (dzs_rep z1 _) q⟩) ha hb
/-- [..] * k -/
def lRep (tl : TL3) (tb : TE3) : TL3 := fun τ G Q => tl τ G fun ds G1 => tb τ G1 fun y G2 => ∃ k, y = .int k ∧ -(2 ^ 63) ≤ k ∧ k < 2 ^ 63 ∧ ds.length * k.toNat ≤ sizeLine ∧ Q (List.replicate k.toNat ds).flatten G2
theorem l_rep {tl : TL3} (ha : PL3 X a tl) (hb : PE3 X b tb) : PL3 X (.BinOp a .Mult b pos) (lRep tl tb) := pe_imp (pe_op op_rep ha hb) fun σ H Q h => by
  obtain ⟨τ, G, Q3, s, r, h, k⟩ := h
  show liftL X.K tl σ H _
  refine liftL_run s r h fun p xs H1 ds G1 g1 r1 s1 hp e1 gp z1 q1 => ?_
  refine lift_run s1 r1 q1 fun v H2 d G2 g2 r2 s2 z2 q2 => ?_
  obtain ⟨i, rfl, b1, b2, b3, q2⟩ := q2
  have z1' := Dzs.mono (g2.tk r1) _ _ z1
  have hl := z1'.length
  obtain ⟨e2, gp2⟩ := g2.hid p _ e1 gp
  refine ⟨p, i, xs, rfl, z2, e2, b1, b2, by rw [hl]; exact b3, fun p2 hp2 => ?_⟩
  have gg := g1.trans g2
  exact k p2 _ _ _ G2 (gg.trans (go_new hp2)) (r0_new r2 hp2) (none_back (K := X.K) gg hp2) upd_same (r2.gnone hp2) (Dzs.mono (tk_new hp2) _ _ (dzs_rep z1' _)) q2
end
end Lw
namespace Lw
open PySem PySem.Spec PyProof.Rows L2

abbrev C3 := List Da → Gp → VK3 → Prop
def CImp (K : PySem.W.Frag) (r : List V → Hp → VK → Prop) (r3 : C3) : Prop := ∀ H G ds vs Q3 Q, R0 K H G → Dzs K H ds vs → r3 ds G Q3 → Cnt K H G Q3 Q → r vs H Q
/-- the one argument a new list -/
def LImp (K : PySem.W.Frag) (r : List V → Hp → VK → Prop) (r3 : C3) : Prop := ∀ H G p xs ds Q3 Q, R0 K H G → H p = some (.lst xs) → G p = none → Dzs K H ds xs → r3 ds G Q3 → Cnt K H G Q3 Q → r [.ref p] H Q
section
variable {X : Cx} {e : Expr} {es : List Expr} {t : TA3} {tl : TL3} {x : Str} {id T : String} {r : List V → Hp → VK → Prop} {r3 : C3} {p pos : Pos}
def eCB (r3 : C3) (t : TA3) : TE3 := fun τ G Q => t τ G fun ds G1 => r3 ds G1 Q
theorem cb_lift {K : PySem.W.Frag} (w : CImp K r r3) (σ : L2.St) (H : Hp) (Q : VK) (h : lift K (eCB r3 t) σ H Q) : tCB r (liftA K t) σ H Q := by
  obtain ⟨τ, G, Q3, s, rr, h, k⟩ := h
  refine liftA_run s rr h fun vs H1 ds G1 g1 r1 s1 z1 q1 => ?_
  exact w H1 G1 ds vs Q3 Q r1 z1 q1 (Cnt.after (H := H) (G := G) k g1)
theorem e_cB (hc : CallR X (.builtin id) r) (w : CImp X.K r r3) (hm : X.mg x = none) (hv : bootBuiltins x = some (.builtin id)) (ha : PA3 X (e :: es) t) (hg : Gl X x := by rfl) (hn : x ≠ "__name__" := by decide) (hdb : (x == ("__debug__" : Str)) = false := by decide)
    (he : starEach (e :: es) X.env = (false, eval e X.env) :: starEach es X.env := by rfl) (hpl : (backTo pos (starEach es X.env)).any (·.1) = false := by rfl) : PE3 X (.Call (.Name x p) (e :: es) [] pos) (eCB r3 t) :=
  pe_imp (pe_callB hc hg hm hv ha hn hdb he hpl) (cb_lift w)
theorem e_cT (hc : CallR X (.type T) r) (w : CImp X.K r r3) (hm : X.mg x = none) (hv : bootBuiltins x = some (.type T)) (ha : PA3 X (e :: es) t) (hg : Gl X x := by rfl) (hn : x ≠ "__name__" := by decide) (hdb : (x == ("__debug__" : Str)) = false := by decide)
    (he : starEach (e :: es) X.env = (false, eval e X.env) :: starEach es X.env := by rfl) (hpl : (backTo pos (starEach es X.env)).any (·.1) = false := by rfl) : PE3 X (.Call (.Name x p) (e :: es) [] pos) (eCB r3 t) :=
  pe_imp (pe_callTy hc hg hm hv ha hn hdb he hpl) (cb_lift w)
def eCL (r3 : C3) (tl : TL3) : TE3 := fun τ G Q => tl τ G fun ds G1 => r3 ds G1 Q
theorem cl_lift {K : PySem.W.Frag} (w : LImp K r r3) (σ : L2.St) (H : Hp) (Q : VK) (h : lift K (eCL r3 tl) σ H Q) : tCB r (tCons (liftL K tl) tNil) σ H Q := by
  obtain ⟨τ, G, Q3, s, rr, h, k⟩ := h
  unfold tCB tCons tNil
  refine liftL_run s rr h fun p xs H1 ds G1 g1 r1 s1 hp e1 gp z1 q1 => ?_
  exact w H1 G1 p xs ds Q3 Q r1 e1 gp z1 q1 (Cnt.after (H := H) (G := G) k g1)
theorem e_cBL (hc : CallR X (.builtin id) r) (w : LImp X.K r r3) (hm : X.mg x = none) (hv : bootBuiltins x = some (.builtin id)) (ha : PL3 X e tl) (hg : Gl X x := by rfl)
    (he : starEach (e :: []) X.env = (false, eval e X.env) :: starEach [] X.env := by rfl) (hn : x ≠ "__name__" := by decide) (hdb : (x == ("__debug__" : Str)) = false := by decide) : PE3 X (.Call (.Name x p) [e] [] pos) (eCL r3 tl) :=
  pe_imp (pe_callB hc hg hm hv (pa_cons ha pa_nil he) hn hdb he) (cl_lift w)
theorem e_cTL (hc : CallR X (.type T) r) (w : LImp X.K r r3) (hm : X.mg x = none) (hv : bootBuiltins x = some (.type T)) (ha : PL3 X e tl) (hg : Gl X x := by rfl)
    (he : starEach (e :: []) X.env = (false, eval e X.env) :: starEach [] X.env := by rfl) (hn : x ≠ "__name__" := by decide) (hdb : (x == ("__debug__" : Str)) = false := by decide) : PE3 X (.Call (.Name x p) [e] [] pos) (eCL r3 tl) :=
  pe_imp (pe_callTy hc hg hm hv (pa_cons ha pa_nil he) hn hdb he) (cl_lift w)
end

section
variable {K : PySem.W.Frag}
theorem dz1 {H : Hp} {d : Da} {vs : List V} (z : Dzs K H [d] vs) : ∃ v, vs = [v] ∧ Dz K H d v := by
  obtain ⟨v, r, rfl, h, e⟩ := z
  rw [show r = [] from e]
  exact ⟨v, rfl, h⟩
theorem dz2 {H : Hp} {d e : Da} {vs : List V} (z : Dzs K H [d, e] vs) : ∃ v w, vs = [v, w] ∧ Dz K H d v ∧ Dz K H e w := by
  obtain ⟨v, r, rfl, h, z⟩ := z
  obtain ⟨w, rfl, h2⟩ := dz1 z
  exact ⟨v, w, rfl, h, h2⟩
/-- len -/
def cLen : C3 := fun ds G Q => ∃ d, ds = [d] ∧ ((∃ es, d = .tup es ∧ Q (.int es.length) G) ∨ (∃ a es, d = .obj a ∧ G a = some (.lst es) ∧ Q (.int es.length) G) ∨ (∃ ns, d = .scr ns ∧ Q (.int ns.length) G))
theorem i_len : CImp K (fun xs H Q => ∃ p ys, xs = [.ref p] ∧ (SqL K H p ys ∨ SqT K H p ys) ∧ Q (.int ys.length) H) cLen := fun H G ds vs Q3 Q r z h k => by
  obtain ⟨d, rfl, h⟩ := h
  obtain ⟨v, rfl, zv⟩ := dz1 z
  rcases h with ⟨es, rfl, q⟩ | ⟨a, es, rfl, ga, q⟩ | ⟨ns, rfl, q⟩
  · obtain ⟨a, xs, rfl, ht, zs⟩ := zv
    refine ⟨a, xs, rfl, .inr ht.sq, ?_⟩
    rw [zs.length]
    exact k.here (d := .int _) r rfl q
  · obtain ⟨xs, ha, zs⟩ := r a _ ga
    obtain rfl : v = .ref a := zv
    refine ⟨a, xs, rfl, .inl (SqL.of ha), ?_⟩
    rw [zs.length]
    exact k.here (d := .int _) r rfl q
  · obtain ⟨a, rfl, hs⟩ := scr_sq zv
    refine ⟨a, _, rfl, .inl hs, ?_⟩
    rw [List.length_map]
    exact k.here (d := .int _) r rfl q
def cLenK : C3 := fun ds G Q => ∃ a kds, ds = [.obj a] ∧ G a = some (.dK kds) ∧ Q (.int kds.length) G
theorem i_lenK : CImp K (fun xs H Q => ∃ (d : Addr) (kvs : List (Key × V)), xs = [V.ref d] ∧ H d = some (.dK kvs) ∧ Q (.int kvs.length) H) cLenK := fun H G ds vs Q3 Q r z h k => by
  obtain ⟨a, kds, rfl, ga, q⟩ := h
  obtain ⟨v, rfl, zv⟩ := dz1 z
  obtain ⟨kvs, ha, kz⟩ := r a _ ga
  obtain rfl : v = .ref a := zv
  refine ⟨a, kvs, rfl, ha, ?_⟩
  rw [kz.length]
  exact k.here (d := .int _) r rfl q
/-- tuple of a kept list; of a new one -/
def rTupOf (K : PySem.W.Frag) : List V → Hp → VK → Prop := fun xs H Q => ∃ p ys, xs = [.ref p] ∧ ((SqL K H p ys ∧ ∀ l, H l = none → Q (.ref l) (upd H l (.tup ys))) ∨ (SqT K H p ys ∧ Q (.ref p) H))
def cTupL : C3 := fun ds G Q => ∃ a es, ds = [.obj a] ∧ G a = some (.lst es) ∧ Q (.tup es) G
theorem i_tupL : CImp K (rTupOf K) cTupL := fun H G ds vs Q3 Q r z h k => by
  obtain ⟨a, es, rfl, ga, q⟩ := h
  obtain ⟨v, rfl, zv⟩ := dz1 z
  obtain ⟨xs, ha, zs⟩ := r a _ ga
  obtain rfl : v = .ref a := zv
  exact ⟨a, xs, rfl, .inl ⟨SqL.of ha, Cnt.tup k r zs q⟩⟩
def cTup : C3 := fun ds G Q => Q (.tup ds) G
theorem l_tup : LImp K (rTupOf K) cTup := fun H G p xs ds Q3 Q r e gp z q k => ⟨p, xs, rfl, .inl ⟨SqL.of e, Cnt.tup k r z q⟩⟩
theorem bls_z {H : Hp} : ∀ {bs : List Bool} {xs : List V}, Dzs K H (bs.map .bl) xs → xs = bs.map .bl
  | [], _, h => h
  | b :: bs, _, h => by
    obtain ⟨x, r, rfl, h1, h2⟩ := h
    obtain rfl : x = .bl b := h1
    rw [bls_z h2]; rfl
theorem ints_z {H : Hp} : ∀ {bs : List Int} {xs : List V}, Dzs K H (bs.map .int) xs → xs = bs.map .int
  | [], _, h => h
  | b :: bs, _, h => by
    obtain ⟨x, r, rfl, h1, h2⟩ := h
    obtain rfl : x = .int b := h1
    rw [ints_z h2]; rfl
def cAll : C3 := fun ds G Q => ∃ bs : List Bool, ds = bs.map .bl ∧ Q (.bl (bs.all fun b => b)) G
def cAny : C3 := fun ds G Q => ∃ bs : List Bool, ds = bs.map .bl ∧ Q (.bl (bs.any fun b => b)) G
def cSum : C3 := fun ds G Q => ∃ ns : List Int, ds = ns.map .int ∧ Q (.int ns.sum) G
def cMin : C3 := fun ds G Q => ∃ ns : List Int, ds = ns.map .int ∧ 0 < ns.length ∧ ∀ m, m ∈ ns → (∀ y, y ∈ ns → m ≤ y) → Q (.int m) G
theorem l_all : LImp K (rAll K) cAll := fun H G p xs ds Q3 Q r e gp z q k => by
  obtain ⟨bs, rfl, q⟩ := q
  obtain rfl := bls_z z
  exact ⟨p, bs, rfl, SqL.of e, k.here (d := .bl _) r rfl q⟩
theorem l_any : LImp K (rAny K) cAny := fun H G p xs ds Q3 Q r e gp z q k => by
  obtain ⟨bs, rfl, q⟩ := q
  obtain rfl := bls_z z
  exact ⟨p, bs, rfl, SqL.of e, k.here (d := .bl _) r rfl q⟩
theorem l_sum : LImp K (rSum K) cSum := fun H G p xs ds Q3 Q r e gp z q k => by
  obtain ⟨bs, rfl, q⟩ := q
  obtain rfl := ints_z z
  exact ⟨p, bs, rfl, SqL.of e, k.here (d := .int _) r rfl q⟩
theorem l_min : LImp K (rMin K) cMin := fun H G p xs ds Q3 Q r e gp z q k => by
  obtain ⟨bs, rfl, hl, q⟩ := q
  obtain rfl := ints_z z
  exact ⟨p, bs, rfl, SqL.of e, hl, fun m h1 h2 => k.here (d := .int m) r rfl (q m h1 h2)⟩
def cAbs : C3 := fun ds G Q => ∃ i, ds = [.int i] ∧ Q (.int (if i < 0 then -i else i)) G
theorem i_abs : CImp K (fun xs H Q => ∃ i, xs = [.int i] ∧ Q (.int (if i < 0 then -i else i)) H) cAbs := fun H G ds vs Q3 Q r z h k => by
  obtain ⟨i, rfl, q⟩ := h
  obtain ⟨v, rfl, zv⟩ := dz1 z
  obtain rfl : v = .int i := zv
  exact ⟨i, rfl, k.here (d := .int _) r rfl q⟩
def cMax2 : C3 := fun ds G Q => ∃ i j, ds = [.int i, .int j] ∧ Q (.int (if j > i then j else i)) G
def cMin2 : C3 := fun ds G Q => ∃ i j, ds = [.int i, .int j] ∧ Q (.int (if j < i then j else i)) G
theorem i_max2 : CImp K (fun xs H Q => ∃ i j, xs = [.int i, .int j] ∧ Q (.int (if j > i then j else i)) H) cMax2 := fun H G ds vs Q3 Q r z h k => by
  obtain ⟨i, j, rfl, q⟩ := h
  obtain ⟨v, w, rfl, zv, z2⟩ := dz2 z
  obtain rfl : v = .int i := zv
  obtain rfl : w = .int j := z2
  exact ⟨i, j, rfl, k.here (d := .int _) r rfl q⟩
theorem i_min2 : CImp K (fun xs H Q => ∃ i j, xs = [.int i, .int j] ∧ Q (.int (if j < i then j else i)) H) cMin2 := fun H G ds vs Q3 Q r z h k => by
  obtain ⟨i, j, rfl, q⟩ := h
  obtain ⟨v, w, rfl, zv, z2⟩ := dz2 z
  obtain rfl : v = .int i := zv
  obtain rfl : w = .int j := z2
  exact ⟨i, j, rfl, k.here (d := .int _) r rfl q⟩
/-- int(truth) -/
def cIntB : C3 := fun ds G Q => ∃ b, ds = [.bl b] ∧ Q (.int (if b then 1 else 0)) G
theorem i_intB : CImp K (fun xs H Q => (∃ i, xs = [.int i] ∧ Q (.int i) H) ∨ ∃ k, xs = [.bl k] ∧ Q (.int (if k then 1 else 0)) H) cIntB := fun H G ds vs Q3 Q r z h k => by
  obtain ⟨i, rfl, q⟩ := h
  obtain ⟨v, rfl, zv⟩ := dz1 z
  obtain rfl : v = .bl i := zv
  exact .inr ⟨i, rfl, k.here (d := .int _) r rfl q⟩
/-- isinstance -/
def isT : Da → String → Option Bool
  | .int _, "int" => some true
  | .int _, "bool" => some false
  | .tup _, "tuple" => some true
  | .str _, "str" => some true
  | _, _ => none
def cIsi : C3 := fun ds G Q => ∃ d n b, ds = [d, .ty n] ∧ isT d n = some b ∧ Q (.bl b) G
theorem ty_tup {H : Hp} {a : Addr} {xs : List V} {ds : List Da} (h : TupAt K H a xs ds) : TyX K H (.ref a) (.type "tuple") := by
  rcases h with h | ⟨(h | ⟨o, h⟩) | ⟨o, its, n, hk, hc, _⟩, _⟩
  · exact .base (.tup h)
  · cases h
  · cases h
  · exact .kTuple hk hc
theorem i_isi : CImp K (rIsi K) cIsi := fun H G ds vs Q3 Q r z h k => by
  obtain ⟨d, n, b, rfl, hb, q⟩ := h
  obtain ⟨v, w, rfl, zv, z2⟩ := dz2 z
  obtain rfl : w = .ty n := z2
  have fin := k.here (d := .bl b) r rfl q
  unfold isT at hb
  split at hb
  · cases hb
    have zz : v = .int _ := zv
    subst zz
    exact ⟨_, _, _, _, _, rfl, .ty _, .base (.int _), kit_ty (by decide +kernel), fin⟩
  · cases hb
    have zz : v = .int _ := zv
    subst zz
    exact ⟨_, _, _, _, _, rfl, .ty _, .base (.int _), kit_ty (by decide +kernel), fin⟩
  · cases hb
    obtain ⟨a, xs, rfl, ht, _⟩ := zv
    exact ⟨_, _, _, _, _, rfl, .ty _, ty_tup ht, kit_ty (by decide +kernel), fin⟩
  · cases hb
    have zz : v = .str _ := zv
    subst zz
    exact ⟨_, _, _, _, _, rfl, .ty _, .base (.str _), kit_ty (by decide +kernel), fin⟩
  · cases hb
end
section
variable {X : Cx} {e e2 : Expr} {te te2 : TE3} {tl : TL3} {p p2 pos : Pos}
abbrev a1 (te : TE3) : TA3 := aCons te aNil
abbrev a2 (te te2 : TE3) : TA3 := aCons te (aCons te2 aNil)
theorem e_len (hm : X.mg "len" = none) (ha : PE3 X e te) (hg : Gl X "len" := by rfl) (he : starEach (e :: []) X.env = (false, eval e X.env) :: starEach [] X.env := by rfl) : PE3 X (.Call (.Name "len" p) [e] [] pos) (eCB cLen (a1 te)) :=
  e_cB call_len_seq i_len hm PySem.boot_len (a_cons ha a_nil he) hg (by decide) (by decide) he
theorem e_lenK (hm : X.mg "len" = none) (ha : PE3 X e te) (hg : Gl X "len" := by rfl) (he : starEach (e :: []) X.env = (false, eval e X.env) :: starEach [] X.env := by rfl) : PE3 X (.Call (.Name "len" p) [e] [] pos) (eCB cLenK (a1 te)) :=
  e_cB call_lenD i_lenK hm PySem.boot_len (a_cons ha a_nil he) hg (by decide) (by decide) he
theorem e_tupleL (hm : X.mg "tuple" = none) (ha : PE3 X e te) (hg : Gl X "tuple" := by rfl) (he : starEach (e :: []) X.env = (false, eval e X.env) :: starEach [] X.env := by rfl) : PE3 X (.Call (.Name "tuple" p) [e] [] pos) (eCB cTupL (a1 te)) :=
  e_cT call_tuple_of i_tupL hm (by decide +kernel) (a_cons ha a_nil he) hg (by decide) (by decide) he
theorem e_tuple (hm : X.mg "tuple" = none) (ha : PL3 X e tl) (hg : Gl X "tuple" := by rfl) (he : starEach (e :: []) X.env = (false, eval e X.env) :: starEach [] X.env := by rfl) : PE3 X (.Call (.Name "tuple" p) [e] [] pos) (eCL cTup tl) :=
  e_cTL call_tuple_of l_tup hm (by decide +kernel) ha hg he
theorem e_all (hc : X.calm = true) (hm : X.mg "all" = none) (ha : PL3 X e tl) (hg : Gl X "all" := by rfl) (he : starEach (e :: []) X.env = (false, eval e X.env) :: starEach [] X.env := by rfl) : PE3 X (.Call (.Name "all" p) [e] [] pos) (eCL cAll tl) :=
  e_cBL (cr_all hc) l_all hm (by decide +kernel) ha hg he
theorem e_any (hc : X.calm = true) (hm : X.mg "any" = none) (ha : PL3 X e tl) (hg : Gl X "any" := by rfl) (he : starEach (e :: []) X.env = (false, eval e X.env) :: starEach [] X.env := by rfl) : PE3 X (.Call (.Name "any" p) [e] [] pos) (eCL cAny tl) :=
  e_cBL (cr_any hc) l_any hm (by decide +kernel) ha hg he
theorem e_sum (hc : X.calm = true) (hm : X.mg "sum" = none) (ha : PL3 X e tl) (hg : Gl X "sum" := by rfl) (he : starEach (e :: []) X.env = (false, eval e X.env) :: starEach [] X.env := by rfl) : PE3 X (.Call (.Name "sum" p) [e] [] pos) (eCL cSum tl) :=
  e_cBL (cr_sum hc) l_sum hm (by decide +kernel) ha hg he
theorem e_minL (hc : X.calm = true) (hm : X.mg "min" = none) (ha : PL3 X e tl) (hg : Gl X "min" := by rfl) (he : starEach (e :: []) X.env = (false, eval e X.env) :: starEach [] X.env := by rfl) : PE3 X (.Call (.Name "min" p) [e] [] pos) (eCL cMin tl) :=
  e_cBL (cr_min hc) l_min hm (by decide +kernel) ha hg he
theorem e_abs (hm : X.mg "abs" = none) (ha : PE3 X e te) (hg : Gl X "abs" := by rfl) (he : starEach (e :: []) X.env = (false, eval e X.env) :: starEach [] X.env := by rfl) : PE3 X (.Call (.Name "abs" p) [e] [] pos) (eCB cAbs (a1 te)) :=
  e_cB call_abs i_abs hm (by decide +kernel) (a_cons ha a_nil he) hg (by decide) (by decide) he
theorem e_intB (hm : X.mg "int" = none) (ha : PE3 X e te) (hg : Gl X "int" := by rfl) (he : starEach (e :: []) X.env = (false, eval e X.env) :: starEach [] X.env := by rfl) : PE3 X (.Call (.Name "int" p) [e] [] pos) (eCB cIntB (a1 te)) :=
  e_cT call_int1 i_intB hm (by decide +kernel) (a_cons ha a_nil he) hg (by decide) (by decide) he
theorem e_max2 (hc : X.calm = true) (hm : X.mg "max" = none) (ha : PE3 X e te) (hb : PE3 X e2 te2) (hg : Gl X "max" := by rfl) (he : starEach [e, e2] X.env = (false, eval e X.env) :: starEach [e2] X.env := by rfl) (he2 : starEach (e2 :: []) X.env = (false, eval e2 X.env) :: starEach [] X.env := by rfl) (hpl : (backTo pos (starEach [e2] X.env)).any (·.1) = false := by rfl) :
    PE3 X (.Call (.Name "max" p) [e, e2] [] pos) (eCB cMax2 (a2 te te2)) := e_cB (call_max2 hc) i_max2 hm (by decide +kernel) (a_cons ha (a_cons hb a_nil he2) he) hg (by decide) (by decide) he hpl
theorem e_min2 (hc : X.calm = true) (hm : X.mg "min" = none) (ha : PE3 X e te) (hb : PE3 X e2 te2) (hg : Gl X "min" := by rfl) (he : starEach [e, e2] X.env = (false, eval e X.env) :: starEach [e2] X.env := by rfl) (he2 : starEach (e2 :: []) X.env = (false, eval e2 X.env) :: starEach [] X.env := by rfl) (hpl : (backTo pos (starEach [e2] X.env)).any (·.1) = false := by rfl) :
    PE3 X (.Call (.Name "min" p) [e, e2] [] pos) (eCB cMin2 (a2 te te2)) := e_cB (call_min2 hc) i_min2 hm (by decide +kernel) (a_cons ha (a_cons hb a_nil he2) he) hg (by decide) (by decide) he hpl
/-- isinstance(e, T), T a built-in class that the text names -/
theorem e_isi {nm : Str}  {n : String} (hm : X.mg "isinstance" = none) (hm2 : X.mg nm = none) (hv : bootBuiltins nm = some (.type n)) (ha : PE3 X e te) (hg : Gl X "isinstance" := by rfl) (hg2 : Gl X nm := by rfl) (hn : nm ≠ "__name__" := by decide) (hd : (nm == ("__debug__" : Str)) = false := by decide)
    (he : starEach [e, .Name nm p2] X.env = (false, eval e X.env) :: starEach [.Name nm p2] X.env := by rfl) (he2 : starEach (.Name nm p2 :: []) X.env = (false, eval (.Name nm p2) X.env) :: starEach [] X.env := by rfl) (hpl : (backTo pos (starEach [.Name nm p2] X.env)).any (·.1) = false := by rfl) :
    PE3 X (.Call (.Name "isinstance" p) [e, .Name nm p2] [] pos) (eCB cIsi (a2 te (eC (.ty n)))) := e_cB call_isi i_isi hm (by decide +kernel) (a_cons ha (a_cons (e_ty hm2 hv hg2 hn hd) a_nil he2) he) hg (by decide) (by decide) he hpl
end
end Lw
namespace Lw
open PySem PySem.Spec PyProof.Rows L2

/-! a, *rest = .. -/
section
variable {prog : Program} {w : World} {A : Around} {E : Value → Shared → Prop} {s : Shared} {env : Env}
theorem star_t {l : Addr} {items : Array Value} {x : Value} {xs : List Value} {Q : List Value → Shared → Prop} (hl : IsTup s.heap l items) (hh : A.handled = none) (hit : items.toList = x :: xs) (hz : items.size ≤ 16384)
    (h : ∀ (g : Heap) (tk : Nat), (∀ b o, s.heap.get? b = some o → g.get? b = some o) → Q [x, .ref g.objs.size] { s with heap := g.push { cls := .type "list", data := .seq xs.toArray }, toks := tk }) :
    wpAny (model prog w) A (unpackItems (.ref l) 2 (some 1)) Q E s := by
  have hsz : items.size = xs.length + 1 := by
    have e := congrArg List.length hit
    simpa using e
  have hlt : l ≠ s.heap.objs.size := by obtain ⟨o, ho, _⟩ := hl; exact Nat.ne_of_lt (Heap.lt_size ho)
  unfold unpackItems
  refine wpAny_bind ?_
  unfold notIterableAtAll
  refine wpAny_bind (wpAny_specialOf hl.typeIs slot_tuple_iter.lookup ?_)
  refine wpAny_pure ?_
  simp only [Bool.false_eq_true, if_false]
  refine wpAny_bind (wpAny_holding (iter_tuple hl ?_))
  refine wpAny_bind (wpAny_holding (draw_tuple hlt 1 0 _ _ ⟨_, Heap.get?_push_size _ rfl, rfl, rfl⟩ (hl.push _) (by omega) fun g1 hit1 sb1 => ?_))
  have hl1 : IsTup g1 l items := (hl.push _).extBut sb1.extBut hlt
  rw [Nat.zero_add] at hit1
  have c1 := hit1
  obtain ⟨oi, hoi, _⟩ := c1
  have c2 := hl1
  obtain ⟨ol, hol, _⟩ := c2
  rw [List.drop_zero, hit]
  show wpAny _ _ (if ([x] : List Value).length < 1 then _ else _) _ _ _
  rw [if_neg (show ¬ ([x] : List Value).length < 1 from Nat.lt_irrefl 1)]
  refine wpAny_bind (wpAny_holding (PySem.W.kun_collect (s := { s with heap := g1 }) (T := "tuple_iterator") (.inr (.inr (.inr rfl))) (Walks.tuple (A := A.in1) hh s.heap.objs.size l hlt items) (fun j u st => st.1.typeIs) (k := 1) (by omega) ⟨hit1, hl1⟩ (Heap.lt_size hoi) (Heap.lt_size hol) (fun g2 tk hk => ?_) (by rw [sizeLine_eq]; omega)))
  rw [hit]
  show wpAny _ _ (if xs.length < 0 then _ else _) _ _ _
  rw [if_neg (Nat.not_lt_zero _)]
  show wpAny _ _ (newList (xs.take (xs.length - 0)) >>= fun d => pure ([x] ++ [d] ++ xs.drop (xs.length - 0))) _ _ _
  rw [Nat.sub_zero, List.take_length, List.drop_length]
  refine wpAny_bind (wpAny_newList (s := { s with heap := g2, toks := tk }) (wpAny_pure (h g2 tk fun b o e => ?_)) (by rw [sizeLine_eq]; omega))
  exact hk b o (Nat.ne_of_lt (Heap.lt_size e)) (sb1.extBut b o (Nat.ne_of_lt (Heap.lt_size e)) (Heap.get?_push_of_some _ e))
theorem star_l {l : Addr} {items : Array Value} {x : Value} {xs : List Value} {Q : List Value → Shared → Prop} (hl : s.heap.IsList l items) (hh : A.handled = none) (hit : items.toList = x :: xs) (hz : items.size ≤ 16384)
    (h : ∀ (g : Heap) (tk : Nat), (∀ b o, s.heap.get? b = some o → g.get? b = some o) → Q [x, .ref g.objs.size] { s with heap := g.push { cls := .type "list", data := .seq xs.toArray }, toks := tk }) :
    wpAny (model prog w) A (unpackItems (.ref l) 2 (some 1)) Q E s := by
  have hsz : items.size = xs.length + 1 := by
    have e := congrArg List.length hit
    simpa using e
  have hlt : l ≠ s.heap.objs.size := by obtain ⟨o, ho, _⟩ := hl; exact Nat.ne_of_lt (Heap.lt_size ho)
  unfold unpackItems
  refine wpAny_bind ?_
  unfold notIterableAtAll
  refine wpAny_bind (wpAny_specialOf hl.typeIs slot_list_iter.lookup ?_)
  refine wpAny_pure ?_
  simp only [Bool.false_eq_true, if_false]
  refine wpAny_bind (wpAny_holding (wpAny_pyIter_list hl ?_))
  refine wpAny_bind (wpAny_holding (PySem.W.kun_draw hlt 1 0 _ _ ⟨_, Heap.get?_push_size _ rfl, rfl, rfl⟩ (hl.push _) (by omega) fun g1 hit1 sb1 => ?_))
  have hl1 : g1.IsList l items := (hl.push _).extBut sb1.extBut hlt
  rw [Nat.zero_add] at hit1
  have c1 := hit1
  obtain ⟨oi, hoi, _⟩ := c1
  have c2 := hl1
  obtain ⟨ol, hol, _⟩ := c2
  rw [List.drop_zero, hit]
  show wpAny _ _ (if ([x] : List Value).length < 1 then _ else _) _ _ _
  rw [if_neg (show ¬ ([x] : List Value).length < 1 from Nat.lt_irrefl 1)]
  refine wpAny_bind (wpAny_holding (PySem.W.kun_collect (s := { s with heap := g1 }) (T := "list_iterator") (.inr (.inr (.inl rfl))) (Walks.list (A := A.in1) hh s.heap.objs.size l hlt items) (fun j u st => st.1.typeIs) (k := 1) (by omega) ⟨hit1, hl1⟩ (Heap.lt_size hoi) (Heap.lt_size hol) (fun g2 tk hk => ?_) (by rw [sizeLine_eq]; omega)))
  rw [hit]
  show wpAny _ _ (if xs.length < 0 then _ else _) _ _ _
  rw [if_neg (Nat.not_lt_zero _)]
  show wpAny _ _ (newList (xs.take (xs.length - 0)) >>= fun d => pure ([x] ++ [d] ++ xs.drop (xs.length - 0))) _ _ _
  rw [Nat.sub_zero, List.take_length, List.drop_length]
  refine wpAny_bind (wpAny_newList (s := { s with heap := g2, toks := tk }) (wpAny_pure (h g2 tk fun b o e => ?_)) (by rw [sizeLine_eq]; omega))
  exact hk b o (Nat.ne_of_lt (Heap.lt_size e)) (sb1.extBut b o (Nat.ne_of_lt (Heap.lt_size e)) (Heap.get?_push_of_some _ e))
end
section
variable {X : Cx} {e1 e2 : Expr} {pos sp : Pos} {k : Nat} {g1 g2 : TG}
/-- a target (a, *rest) by values: the first, the rest as a new list -/
def gStar (K : PySem.W.Frag) (g1 g2 : TG) : TG := fun v σ H Q => ∃ a x xs, v = .ref a ∧ (SqT K H a (x :: xs) ∨ SqL K H a (x :: xs)) ∧ xs.length ≤ 16000 ∧
  ∀ p, H p = none → g1 x σ (upd H p (.lst xs)) fun σ1 H1 => g2 (.ref p) σ1 H1 Q
theorem pg_star (hc : X.calm = true) (h1 : PG X e1 g1) (h2 : PG X e2 g2) (he : assignEach [e1, .Starred e2 sp] X.env = [(false, assign e1 X.env), (true, assign e2 X.env)] := by rfl) : PG X (.Tuple [e1, .Starred e2 sp] k pos) (gStar X.K g1 g2) := by
  refine ⟨fun pins s σ H v u Q I r hw => ?_⟩
  obtain ⟨a, x, xs, rfl, hq, hl, hw⟩ := hw
  cases r
  have fin : ∀ (y : Value) (ys : List Value) (g : Heap) (tk : Nat), RelV x y → Vals xs ys → (∀ b o, s.heap.get? b = some o → g.get? b = some o) →
      wpAny (model X.prog X.w) X.A (assignInOrder [assign e1 X.env, assign e2 X.env] [y, .ref g.objs.size]) (fun _ s' => ∃ σ' H', Inv X pins σ' H' s' ∧ Q σ' H') X.xe { s with heap := g.push { cls := .type "list", data := .seq ys.toArray }, toks := tk } := by
    intro y ys g tk ry rys kept
    have I2 : Inv X pins σ H { s with heap := g, toks := tk } := I.kept (t' := tk) kept
    have hn : H g.objs.size = none := I2.hok.fresh (Nat.le_refl _)
    have I3 : Inv X pins σ (upd H g.objs.size (.lst xs)) { s with heap := g.push { cls := .type "list", data := .seq ys.toArray }, toks := tk } :=
      I2.laid (t' := tk) (fun b o e => Heap.get?_push_of_some _ e) (Nat.le_refl _) ⟨by have := rys.length; rw [sizeLine_eq]; omega, ys, 0, rys, Heap.get?_push_size _ rfl⟩
    show wpAny _ _ (do holding [.ref g.objs.size] (assign e1 X.env y); assignInOrder [assign e2 X.env] [.ref g.objs.size]) _ _ _
    refine wpAny_bind (wpAny_holding (thn (h1.run pins _ σ _ x y _ I3 ry (hw _ hn)) fun _ s4 ⟨σ4, H4, I4, q4⟩ => ?_))
    show wpAny _ _ (do holding [] (assign e2 X.env (.ref g.objs.size)); assignInOrder [] []) _ _ _
    refine wpAny_bind (wpAny_holding (thn (h2.run pins _ σ4 H4 (.ref g.objs.size) (.ref g.objs.size) _ I4 rfl q4) fun _ s5 q5 => ?_))
    exact wpAny_pure q5
  rw [assign_Tuple]
  refine wpAny_bind (wpAny_standAt ?_)
  unfold unpack
  rw [he]
  show wpAny _ _ (holding [Value.ref a] (unpackItems (Value.ref a) 2 (some 1)) >>= fun vs => assignInOrder [assign e1 X.env, assign e2 X.env] vs) _ _ _
  rcases hq with hq | hq
  · obtain ⟨its, rv, ht, hz⟩ := I.tuple hq
    cases rv with
    | @cons _ y _ ys ry rys =>
      have l2 := rys.length
      exact wpAny_bind (wpAny_holding (star_t ht (I.ok.hd hc) (x := y) (xs := ys) (by simp) (by simp; omega) fun g tk kept => fin y ys g tk ry rys kept))
  · obtain ⟨its, rv, ht, hz⟩ := I.list hq
    cases rv with
    | @cons _ y _ ys ry rys =>
      have l2 := rys.length
      exact wpAny_bind (wpAny_holding (star_l ht.isList (I.ok.hd hc) (x := y) (xs := ys) (by simp) (by simp; omega) fun g tk kept => fin y ys g tk ry rys kept))
/-! .. at this layer: the rest dropped; or kept -/
/-- a, *rest = a tuple: rest is not looked at any more -/
def gStarD (g : TG3) (j : Nat) : TG3 := fun d τ G Q => ∃ d0 ds, d = .tup (d0 :: ds) ∧ ds.length ≤ 16000 ∧ g d0 τ G fun τ1 G1 => Q (τ1.set j none) G1
theorem Sz.hide {K : PySem.W.Frag} {H : Hp} {x : Option V} : ∀ (j : Nat) {τ : St3} {σ : L2.St}, Sz K H τ σ → Sz K H (τ.set j none) (σ.set j x)
  | _, _, _, .nil => .nil
  | 0, _, _, .cons _ t => .cons trivial t
  | j + 1, _, _, .cons r t => .cons r (Sz.hide j t)
theorem g_starD {g : TG3} {ms : List Nat} {j : Nat} {x : Str} {p2 : Pos} (hc : X.calm = true) (hN : X.N.Nodup) (h1 : PG3 X e1 ms g) (hi : X.N[j]? = some x := by rfl) (hx : Loc X.env.scope x := by first | exact Or.inl rfl | exact Or.inr rfl) (hf : X.fn x = true ∨ X.env.scope.names.lookup x = some .local := by first | exact .inl rfl | exact .inr rfl)
    (he : assignEach [e1, .Starred (.Name x p2) sp] X.env = [(false, assign e1 X.env), (true, assign (.Name x p2) X.env)] := by rfl) : PG3 X (.Tuple [e1, .Starred (.Name x p2) sp] k pos) (ms ++ [j]) (gStarD g j) :=
  pg_imp (pg_star hc h1 (pg_name (pos := p2) hN hi hx hf) he) fun v σ H Q h => by
    obtain ⟨d, τ, G, Q3, z, s, r, ⟨d0, ds, rfl, hl, h⟩, kk⟩ := h
    obtain ⟨a, xs, rfl, ht, y, ys, rfl, zy, zs⟩ := z
    refine ⟨a, y, ys, rfl, .inl ht.sq, by rw [zs.length]; exact hl, fun p hp => ?_⟩
    refine ⟨d0, τ, G, _, Dz.mono (tk_new hp) _ _ zy, s.mono (tk_new hp), r0_new r hp, h, fun σ' H' τ' G' g' s' r' w' q => ?_⟩
    exact kk _ H' _ G' ((go_new hp).trans g') (s'.hide j) r' (w'.trans (Wp.one σ')) q
/-- a, *rest = a new list: rest is a list that is kept -/
def gsStarL (g1 g2 : TG3) : TGs3 := fun ds τ G Q => ∃ d0 r, ds = d0 :: r ∧ r.length ≤ 16000 ∧ ∀ p, G p = none → g1 d0 τ (up G p (.lst r)) fun τ1 G1 => g2 (.obj p) τ1 G1 Q
def sAsgL (tl : TL3) (gs : TGs3) : TS3 := fun D τ G => tl τ G fun ds G1 => gs ds τ G1 D.nx
theorem s_starL {e : Expr} {apos : Pos} {tl : TL3} {g1 g2 : TG3} {m1 m2 : List Nat} (hc : X.calm = true) (he : PL3 X e tl) (h1 : PG3 X e1 m1 g1) (h2 : PG3 X e2 m2 g2)
    (hs : swapsWithSole [.Tuple [e1, .Starred e2 sp] k pos] e apos.line X.env = pure false := by rfl) (hw : swappedStores [.Tuple [e1, .Starred e2 sp] k pos] e X.env = pure none := by rfl)
    (h0 : (assignEach [.Tuple [e1, .Starred e2 sp] k pos] X.env).map (·.2) = [assign (.Tuple [e1, .Starred e2 sp] k pos) X.env] := by rfl)
    (hE : assignEach [e1, .Starred e2 sp] X.env = [(false, assign e1 X.env), (true, assign e2 X.env)] := by rfl) :
    PS3 X (.Assign [.Tuple [e1, .Starred e2 sp] k pos] e apos) (sAsgL tl (gsStarL g1 g2)) := ps_imp (ps_asg he (pg_star hc h1 h2 hE) hs hw h0) fun D σ H h => by
  obtain ⟨τ, G, D3, s, r, h, kk⟩ := h
  refine liftL_run s r h fun p xs H1 ds G1 g1' r1 s1 hp e1' gp z1 q1 => ?_
  obtain ⟨d0, ds', rfl, hl, q1⟩ := q1
  obtain ⟨y, ys, rfl, zy, zs⟩ := z1
  refine ⟨p, y, ys, rfl, .inr (SqL.of e1'), by rw [zs.length]; exact hl, fun q hq => ?_⟩
  have gg : Go H G (upd H1 q (.lst ys)) (up G1 q (.lst ds')) := g1'.trans (go_track hq)
  refine ⟨d0, τ, _, _, Dz.mono (tk_new hq) _ _ zy, s1.mono (tk_new hq), r0_track (ao := .lst ds') r1 hq ⟨ys, upd_same, Dzs.mono (tk_new hq) _ _ zs⟩, q1 q (r1.gnone hq), fun σ' H' τ' G' g' s' r' _ q' => ?_⟩
  refine ⟨.obj q, τ', G', _, rfl, s', r', q', fun σ2 H2 τ2 G2 g2' s2 r2 _ q2 => ?_⟩
  exact kk.nx σ2 H2 τ2 G2 (gg.trans (g'.trans g2')) s2 r2 q2
/-- a, b, c = a new list -/
def gsAll (n : Nat) (gs : TGs3) : TGs3 := fun ds τ G Q => ds.length = n ∧ gs ds τ G Q
theorem s_asgL {e : Expr} {tl : TL3} {es : List Expr} {n : Nat} {gs : TGs3} {ms : List Nat} (hc : X.calm = true) (he : PL3 X e tl) (h : PGs3 X es ms gs) (hn : (assignEach es X.env).length = n := by rfl) (hst : (assignEach es X.env).findIdx? (·.1) = none := by rfl)
    (hs : swapsWithSole [.Tuple es k pos] e sp.line X.env = pure false := by rfl) (hw : swappedStores [.Tuple es k pos] e X.env = pure none := by rfl)
    (h0 : (assignEach [.Tuple es k pos] X.env).map (·.2) = [assign (.Tuple es k pos) X.env] := by rfl) :
    PS3 X (.Assign [.Tuple es k pos] e sp) (sAsgL tl (gsAll n gs)) := ps_imp (ps_asg he (pg_lst hc h hn hst) hs hw h0) fun D σ H hh => by
  obtain ⟨τ, G, D3, s, r, hh, kk⟩ := hh
  refine liftL_run s r hh fun p xs H1 ds G1 g1' r1 s1 hp e1' gp z1 q1 => ?_
  obtain ⟨hl, q1⟩ := q1
  exact ⟨p, xs, rfl, SqL.of e1', z1.length.trans hl, ds, τ, G1, _, z1, s1, r1, q1, fun σ' H' τ' G' g' s' r' _ q' => kk.nx σ' H' τ' G' (g1'.trans g') s' r' q'⟩
end
end Lw
set_option maxHeartbeats 2000000
namespace Lw
open PySem PySem.Spec PyProof.Rows L2

section
variable {X : Cx}
/-- what a comprehension's block is given, and what it owes: cx the comprehension, D its container (tracked as o0 at first), Y the block's context -/
structure Blk (X Y : Cx) (σ0 : L2.St) (H3 : Hp) (fp : List Addr) : Prop where
  prog : Y.prog = X.prog
  w : Y.w = X.w
  K : Y.K = X.K
  A : Y.A = X.A
  calm : Y.calm = X.calm
  ex : Y.ex = fp
  pn : Y.pn = []
  xe : Y.xe = fun _ _ => False
  nofp : ∀ b ∈ fp, H3 b = none
theorem Blk.stat {Y : Cx} {σ0 : L2.St} {H3 : Hp} {fp : List Addr} (B : Blk X Y σ0 H3 fp) {σ' : L2.St} {H' : Hp} {s' : Shared} (I' : Inv Y [] σ' H' s') (hn : ∀ b ∈ fp, H' b = none) : ∀ b ∈ fp, FpOk Y [] H' b := fun b hb => by
  have hx : b ∈ Y.ex := by rw [B.ex]; exact hb
  refine ⟨hn b hb, (I'.ok.exf b hx).1, I'.ok.exfs b hx, .inl hx, fun x c e => (I'.ok.exf b hx).2 x c e, fun p hp => ?_⟩
  rw [B.pn] at hp
  exact absurd hp (by simp)
theorem box_core {pins : List (Addr × Obj)} {s : Shared} {σ : L2.St} {H : Hp} {Q : VK} {cx tg iter : Expr} {ifs : List Expr} {more : List Comprehension} {scope : Scope} {own : List (Str × Nat)} {pos' : Pos} {wi : TI} {mk : Sem Value} {ob : Obj} {o0 : Addr → HO}
    (hcl : clausesOf cx = ⟨tg, iter, ifs, 0⟩ :: more) (hc : X.calm = true) (hN : X.N.Nodup) (I : Inv X pins σ H s) (hi : PI X tg iter wi) (ok : BlkOk X.N X.env.scope scope own) (hs : ∀ x, foldedSetIterable iter X.env x = pure x)
    (mkW : ∀ (s : Shared) (Qm : Value → Shared → Prop), Qm (.ref s.heap.objs.size) { s with heap := s.heap.push ob } → wpAny (model X.prog X.w) X.A mk Qm X.xe s) (fr : ob.isFreed = false)
    (new : ∀ (h : Heap) (H : Hp), sysModules < h.objs.size → ObjOk X.prog X.w (upd H h.objs.size (o0 h.objs.size)) (h.push ob) h.objs.size (o0 h.objs.size))
    (start : ∀ (it acc : Value) (env : Env) (R : Result → Shared → Prop) (s : Shared), codeAny (model X.prog X.w) X.A (.compLoop cx 0 it acc env) R s →
      wpAny (model X.prog X.w) X.A (pyIter it) (fun it' s' => codeAny (model X.prog X.w) X.A (.compLoop cx 0 it' acc env) R s') (notedBy (model X.prog X.w) X.A env fun x s' => R (.error x) s') s → codeAny (model X.prog X.w) X.A (.compStart cx 0 it acc env) R s)
    {Rw : It → Hp → Prop} (h : wi σ H Rw) (imp : ∀ J H1, Rw J H1 → ∀ D, H1 D = none → ∃ Qe : Hp → Prop, (∀ H', Qe H' → Q (.ref D) H') ∧
      ∀ (s3 : Shared) (C : Addr) (cl : List (Str × Addr)) (fp : List Addr) (it : Addr) (tn : Nat → Heap → Prop) (s4 : Shared), Blk X (X.blk s3 (upd H1 D (o0 D)) scope (compEnvC scope cl C X.env) fp) (wipe σ (own.map (·.2))) (upd H1 D (o0 D)) fp →
        Turn X.prog X.w X.K tg J fp it tn → tn 0 s4.heap → Inv (X.blk s3 (upd H1 D (o0 D)) scope (compEnvC scope cl C X.env) fp) [] (wipe σ (own.map (·.2))) (upd H1 D (o0 D)) s4 →
        ∀ R : Result → Shared → Prop, (∀ H' s', Inv (X.blk s3 (upd H1 D (o0 D)) scope (compEnvC scope cl C X.env) fp) [] (wipe σ (own.map (·.2))) H' s' → Qe H' → R (.ok .next) s') →
        codeAny (model X.prog X.w) X.A (.compLoop cx 0 (.ref it) (.ref D) (compEnvC scope cl C X.env)) R s4) :
    wpAny (model X.prog X.w) X.A (comprehension cx scope X.env pos' mk false (eval iter X.env) none) (EP X pins σ Q) X.xe s := by
  have hfree : ∀ y ∈ scope.names, y.2 = .free → ∃ c, X.env.cells.lookup y.1 = some c := fun y hy e => (ok.free y hy e).elim (fun k => I.ok.has _ (.inl k)) fun k => I.ok.has _ (.inr k)
  refine wpAny_comprehension_free (use := none) hcl hs (closure_ok hfree) ok.kind (fun y hy e => (ok.uniq y hy).trans (by rw [e])) ?_
  refine thn (hi.run pins s σ H _ I h) fun xv s1 hx => thn hx fun itv s2 h2 => ?_
  obtain ⟨it, fp, tn, J, H2, rfl, I2, T, st2, f2, q⟩ := h2
  have hDn : H2 s2.heap.objs.size = none := I2.hok.fresh (Nat.le_refl _)
  obtain ⟨Qe, qe, loop⟩ := imp J H2 q _ hDn
  refine mkW s2 _ (newEnv_comp ?_)
  generalize hs3 : ({ s2 with heap := s2.heap.push ob } : Shared) = s3
  have h3 : s3.heap = s2.heap.push ob := by rw [← hs3]
  have I3 : Inv X pins σ (upd H2 s2.heap.objs.size (o0 s2.heap.objs.size)) s3 := by
    rw [← hs3]
    exact I2.laid (t' := s2.toks) (fun b o e => Heap.get?_push_of_some _ e) (Nat.le_refl _) (new s2.heap H2 I2.big)
  have sz : ∀ b ∈ fp, b < s2.heap.objs.size := fun b hb => by
    obtain ⟨o, e, _⟩ := T.obj _ _ st2 b hb
    exact Heap.lt_size e
  have f3 : ∀ b ∈ fp, FpOk X pins (upd H2 s2.heap.objs.size (o0 s2.heap.objs.size)) b ∧ b < s3.heap.objs.size := fun b hb => by
    have hlt := sz b hb
    refine ⟨⟨by rw [upd_ne (Nat.ne_of_lt hlt)]; exact (f2 b hb).1, (f2 b hb).2⟩, ?_⟩
    rw [h3, Heap.size_push]
    exact Nat.lt_succ_of_lt hlt
  have st3 : tn 0 s3.heap := T.keep _ _ _ st2 fun b _ o e => by rw [h3]; exact Heap.get?_push_of_some _ e
  have I4 := block_start I3 ok hN f3
  have st4 : tn 0 (pushCells (s3.heap.push { cls := .type "dict", data := .dict #[] }) scope.names) := T.keep _ _ _ st3 fun b _ o e => pushCells_keeps _ _ _ _ (Heap.get?_push_of_some _ e)
  have B : Blk X (X.blk s3 (upd H2 s2.heap.objs.size (o0 s2.heap.objs.size)) scope (compEnvC scope (cellsFrom (s3.heap.objs.size + 1) scope.names (cloFrom X.env.cells scope.names [])) s3.heap.objs.size X.env) fp) (wipe σ (own.map (·.2))) (upd H2 s2.heap.objs.size (o0 s2.heap.objs.size)) fp :=
    ⟨rfl, rfl, rfl, rfl, rfl, rfl, rfl, rfl, fun b hb => (f3 b hb).1.1⟩
  have body := loop s3 s3.heap.objs.size (cellsFrom (s3.heap.objs.size + 1) scope.names (cloFrom X.env.cells scope.names [])) fp it tn _ B T st4 I4
    (compPost (model X.prog X.w) X.A X.xe none (EP X pins σ Q) (.ref s2.heap.objs.size) s3.heap.objs.size) fun H5 s6 I6 q6 => ?_
  · exact start _ _ _ _ _ body (T.self X.A 0 _ _ _ st4 body)
  · have I7 : Inv X pins σ H5 s6 := I3.call' (ch := fp) I6.os I6.base I6.hok I6.bare fun b hb => ⟨(f3 b hb).1.2.2.2.1, (f3 b hb).1.2.1, (f3 b hb).1.2.2.2.2.1, (f3 b hb).1.2.2.2.2.2⟩
    obtain ⟨m, hn, _⟩ := I6.loc
    have nC : H5 s3.heap.objs.size = none := I6.free
    obtain ⟨f0, f1, f2', f3', f4, f5⟩ := I3.fpOk (Nat.le_refl _) nC
    exact ⟨m, hn, fun h'' sb => ⟨.ref _, H5, I7.turned (t' := s6.toks) (fun b o hb e => (sb.2 b hb).trans e) f0 f1 f3' f4 f5, rfl, qe H5 q6⟩⟩

/-- d[k] = v in a new dict with tuple keys -/
theorem dictSet_t {pins : List (Addr × Obj)} {σ : L2.St} {H : Hp} {s : Shared} {E : Value → Shared → Prop} {D b : Addr} {kvs : List (List Key × V)} {k : List Key} {v : V} {r : Value} {Q : Unit → Shared → Prop} (hu : X.A.units + 1 < cLine) (I : Inv X pins σ H s) (hD : H D = some (.dT kvs)) (hz : kvs.length < sizeLine)
    (hb : H b = some (.tup (k.map kV))) (rv : RelV v r) (h : ∀ s', Inv X pins σ (upd H D (.dT (putK kvs k v))) s' → Q () s') : wpAny (model X.prog X.w) X.A (dictSet D (.ref b) r) Q E s := by
  obtain ⟨z, hd, xs, rel, dd⟩ := dt_of I.hok hD
  have hz2 : xs.length ≤ sizeLine := by rw [← Paired.length rel]; exact z
  have hl : (putK kvs k v).length ≤ sizeLine := by have := length_putK kvs k v; omega
  refine wpAny_dictSet_heap (hsz := hz2) (Nat.lt_of_succ_lt hu) (key_of I.hok hb) dd fun h' dd' hs => h _ ?_
  obtain ⟨q, es, ep, hq, h2, h3, h4, _, h5⟩ := dd'
  refine d_write I (by rw [hD]; exact True.intro) hs ⟨q, hq⟩ ⟨hl, hd, _, (rel.put k hb rv).keeps fun c ys ec => ?_, q, es, ep, hq, h2, h3, h4, h5⟩
  rw [upd_ne (ne_of ec hD (fun z => nomatch z))]
  exact ec
/-- {k: v for target in iter}, the keys tuples -/
def tDcT (wi : TI) (g : TG) (tk tv : TE) (vs : List Nat) : TE := fun σ H Q => wi σ H fun J H1 => ∀ D, H1 D = none → ∃ W : Nat → Nat → Hp → Prop, (∃ m, W 0 m (upd H1 D (.dT []))) ∧ ∀ i m H, W i m H →
  (J.stop i H ∧ Q (.ref D) H) ∨ (J.go i H ∧ ∃ Nx : Hp → Prop, (∀ H', Nx H' → ∃ m', m' < m ∧ W (i + 1) m' H') ∧ ∀ x H', J.yld i H x H' → g x (wipe σ vs) H' fun σ2 H2 => wipe σ2 vs = wipe σ vs ∧
    tk σ2 H2 fun y H4 => tv σ2 H4 fun z H5 => ∃ kvs k b, y = .ref b ∧ H5 b = some (.tup (k.map kV)) ∧ H5 D = some (.dT kvs) ∧ kvs.length < sizeLine ∧ Nx (upd H5 D (.dT (putK kvs k z))))
theorem pe_dcT {kx vx tg iter : Expr} {scope : Scope} {own : List (Str × Nat)} {pos : Pos} {wi : TI} {g : TG} {tk tv : TE} (hu : X.A.units + 1 < cLine) (hc : X.calm = true) (hN : X.N.Nodup) (hi : PI X tg iter wi) (ok : BlkOk X.N X.env.scope scope own)
    (hg : ∀ (s : Shared) (H : Hp) (C : Addr) (cl : List (Str × Addr)) (fp : List Addr), PG (X.blk s H scope (compEnvC scope cl C X.env) fp) tg g)
    (hk : ∀ (s : Shared) (H : Hp) (C : Addr) (cl : List (Str × Addr)) (fp : List Addr), PE (X.blk s H scope (compEnvC scope cl C X.env) fp) kx tk)
    (he : ∀ (s : Shared) (H : Hp) (C : Addr) (cl : List (Str × Addr)) (fp : List Addr), PE (X.blk s H scope (compEnvC scope cl C X.env) fp) vx tv) (hs : ∀ x, foldedSetIterable iter X.env x = pure x := by intro _; rfl) :
    PE X (.DictComp kx vx [⟨tg, iter, [], 0⟩] scope pos) (tDcT wi g tk tv (own.map (·.2))) := by
  refine ⟨fun pins s σ H Q I h => ?_⟩
  rw [arm_eval_DictComp]
  refine box_core (ob := { cls := .type "dict", data := .dict #[] }) (o0 := fun _ => .dT []) rfl hc hN I hi ok hs (fun s Qm q => wpAny_newObj_type q) rfl (fun h H hb => dt_empty h hb) (fun it acc env R s a b => codeAny_compStart_dict a b) h ?_
  intro J H1 hJ D hD
  obtain ⟨W, ⟨m0, w0⟩, turn⟩ := hJ D hD
  refine ⟨fun H' => Q (.ref D) H', fun _ z => z, fun s3 C cl fp it tn s4 B T st4 I4 R hR => ?_⟩
  have pg := hg s3 (upd H1 D (.dT [])) C cl fp
  have pk := hk s3 (upd H1 D (.dT [])) C cl fp
  have pe := he s3 (upd H1 D (.dT [])) C cl fp
  generalize hY : X.blk s3 (upd H1 D (.dT [])) scope (compEnvC scope cl C X.env) fp = Y at B I4 hR pg pk pe
  have hYe : Y.env = compEnvC scope cl C X.env := by rw [← hY]
  have hYp : Y.prog = X.prog := B.prog
  have hYw : Y.w = X.w := B.w
  have hYA : Y.A = X.A := B.A
  have hYK : Y.K = X.K := B.K
  have hYc : Y.calm = true := B.calm.trans hc
  have hYx : Y.xe = fun _ _ => False := B.xe
  have hYu : Y.A.units + 1 < cLine := by rw [hYA]; exact hu
  rw [← hYe, ← hYp, ← hYw, ← hYA]
  refine compLoop_anyD (fun n s' => ∃ i H', Inv Y [] (wipe σ (own.map (·.2))) H' s' ∧ tn i s'.heap ∧ (∀ b ∈ fp, H' b = none) ∧ W i n H') ?_ m0 ⟨0, _, I4, st4, B.nofp, w0⟩
  rintro n s5 ⟨i, H5, I5, st5, n5, w5⟩
  rcases turn i n H5 w5 with ⟨stop, qq⟩ | ⟨go, Nx, hNx, step⟩
  · have td := T.done Y hYp hYw hYK hYc i [] s5 _ H5 (fun _ _ => False) I5 (B.stat I5 n5) st5 stop
    rw [← hYp, ← hYw] at td
    refine thnF td fun r s6 ⟨hr, I6⟩ => ?_
    subst hr
    exact hR H5 s6 I6 qq
  · have ti := T.item Y hYp hYw hYK hYc i [] s5 _ H5 (fun _ _ => False) I5 (B.stat I5 n5) st5 go
    rw [← hYp, ← hYw] at ti
    refine thnF ti fun r s6 ⟨u, hr, h6⟩ => ?_
    subst hr
    refine thnF h6 fun _ s7 ⟨x, H7, I7, r7, y7, st7, n7⟩ => ?_
    have I7' := I7.pinned (B.stat I7 n7) (T.obj _ _ st7)
    have pgr := pg.run _ s7 _ H7 x u _ I7' r7 (step x H7 y7)
    rw [hYx] at pgr
    refine thnF pgr fun _ s8 ⟨σ8, H8, I8, hw8, q8⟩ => ?_
    show wpAny _ _ (pure true) _ _ s8
    refine wpAny_pure ?_
    rw [if_pos rfl]
    have pkr := pk.run _ s8 σ8 H8 _ I8 q8
    rw [hYx] at pkr
    refine thnF pkr fun z s10 ⟨yk, H10, I10, r10, q10⟩ => ?_
    have per := pe.run _ s10 σ8 H10 _ I10 q10
    rw [hYx] at per
    refine thnF per fun z2 s11 ⟨yv, H11, I11, r11, kvs, k, b, ek, hb, hD11, hz11, nx⟩ => ?_
    subst ek
    obtain rfl : z = .ref b := r10
    refine dictSet_t hYu I11 hD11 hz11 hb r11 fun s12 I12 => ?_
    obtain ⟨m', hm, w'⟩ := hNx _ nx
    have pin' : ∀ c ∈ fp, ∀ o, s7.heap.get? c = some o → s12.heap.get? c = some o ∧ upd H11 D (.dT (putK kvs k yv)) c = none := fun c hc' o e =>
      let z := I12.pin (c, o) (List.mem_append_right _ (List.mem_append_right _ (mem_pinsAt hc' e)))
      ⟨z.1, z.2.1⟩
    refine ⟨m', hm, i + 1, _, (I12.unpinned (pins := [])).weak (by rw [← hw8, wipe_length]) (fun j v e => ?_), T.keep _ _ _ st7 fun c hc' o e => (pin' c hc' o e).1, fun c hc' => ?_, w'⟩
    · rw [← hw8] at e
      exact (wipe_some e).1
    · obtain ⟨o, e, _⟩ := T.obj _ _ st7 c hc'
      exact (pin' c hc' o e).2
end
end Lw
set_option maxHeartbeats 2000000
namespace Lw
open PySem PySem.Spec PyProof.Rows L2

section
variable {X : Cx}
/-- d.pop(k), tuple keys, there -/
def rPop1 : V → List V → Hp → VK → Prop := fun x xs H Q => ∃ (a : Addr) (kvs : List (List Key × V)) (k : List Key) (b : Addr) (v : V), x = .ref a ∧ xs = [.ref b] ∧ H a = some (.dT kvs) ∧ H b = some (.tup (k.map kV)) ∧ valV kvs k = some v ∧ Q v (upd H a (.dT (dropK kvs k)))
theorem mt_pop1 (hu : X.A.units + 1 < cLine) : MtR X "dict.pop" rPop1 := by
  intro pins s σ H x xs v us Q I rx rxs h
  obtain ⟨a, kvs, k, b, d, rfl, rfl, ha, hb, hv, q⟩ := h
  cases rx
  obtain ⟨u1, rfl, r1⟩ := vals1 rxs
  cases r1
  obtain ⟨z, hd, xs', rel, dd⟩ := dt_of I.hok ha
  have hz : xs'.length ≤ sizeLine := by rw [← Paired.length rel]; exact z
  have r := rel.val k
  rw [hv] at r
  cases hp : atKey xs' k with
  | none => rw [hp] at r; exact (show False from r).elim
  | some p =>
    rw [hp] at r
    refine call_pop_heap (hsz := hz) (.inl rfl) (PySem.F.args_dict_pop_2 _ _) (tupleKind_room_in1 hu) (key_of I.hok hb) hd dd hp fun h' dd' hs => ?_
    obtain ⟨o, es, ep, hq, h2, h3, h4, _, h5⟩ := dd'
    exact ⟨d, _, d_write (ob := .dT (dropK kvs k)) I (by rw [ha]; exact True.intro) hs ⟨o, hq⟩ ⟨Nat.le_trans (dropK_le kvs k) z, hd, _, (DX.KT_drop k rel).keeps (fun c ys ec => (by rw [upd_ne (ne_of ec ha (fun z => nomatch z))]; exact ec)), o, es, ep, hq, h2, h3, h4, h5⟩, r, q⟩
/-- d.update(another dict), tuple keys -/
def mergeT (kvs more : List (List Key × V)) : List (List Key × V) := more.foldl (fun acc kv => putK acc kv.1 kv.2) kvs
theorem mergeT_len : ∀ (more kvs : List (List Key × V)), (mergeT kvs more).length ≤ kvs.length + more.length
  | [], kvs => Nat.le_refl _
  | p :: more, kvs => by
    have h1 := mergeT_len more (putK kvs p.1 p.2)
    have h2 := length_putK kvs p.1 p.2
    show (mergeT (putK kvs p.1 p.2) more).length ≤ _
    simp only [List.length_cons]
    omega
theorem KT_merge {H : Hp} : ∀ {more : List (List Key × V)} {ys : List (List Key × Addr × Value)} {kvs : List (List Key × V)} {xs : List (List Key × Addr × Value)}, KT H more ys → KT H kvs xs → KT H (mergeT kvs more) (storedAllH xs ys)
  | _, _, _, _, .nil, r => r
  | _, _, _, _, .cons (a := p) (b := q) h t, r => by
    obtain ⟨h1, h2, h3⟩ := h
    have r2 := KT.put r p.1 h2 h3
    rw [h1] at r2
    show KT H (mergeT (putK _ p.1 p.2) _) (storedAllH (storedH _ q.1 q.2.1 q.2.2) _)
    rw [h1]
    exact KT_merge t r2
abbrev keyHash (P : Program) (w : World) (k : List Key) : Int := tupleKeyHash (mixKind P w) k
def rUpd (P : Program) (w : World) : V → List V → Hp → VK → Prop := fun x xs H Q => ∃ (a d : Addr) (kvs more : List (List Key × V)), x = .ref a ∧ xs = [.ref d] ∧ a ≠ d ∧ H a = some (.dT kvs) ∧ H d = some (.dT more) ∧ kvs.length + more.length ≤ sizeLine ∧
  (kvs ≠ [] ∨ (more.map fun p => keyHash P w p.1).Nodup) ∧ Q .non (upd H a (.dT (mergeT kvs more)))
theorem mt_upd (hu : X.A.units + 1 < cLine) : MtR X "dict.update" (rUpd X.prog X.w) := by
  intro pins s σ H x xs v us Q I rx rxs h
  obtain ⟨a, d, kvs, more, rfl, rfl, hne, ha, hd', hl, hap, q⟩ := h
  cases rx
  obtain ⟨u1, rfl, r1⟩ := vals1 rxs
  cases r1
  obtain ⟨z, hda, xs', rel, dd⟩ := dt_of I.hok ha
  obtain ⟨z2, hdd, ys', rel2, dd2⟩ := dt_of I.hok hd'
  have l1 := Paired.length rel
  have l2 := Paired.length rel2
  have hap' : xs' ≠ [] ∨ ((∀ x ∈ ys', s.TypeIs (.ref x.2.1) "tuple") ∧ (ys'.map fun x => (tupleKind (mixKind X.prog X.w)).hash x.1).Nodup) := by
    rcases hap with e | e
    · refine .inl fun e2 => e ?_
      rw [e2] at l1
      exact List.length_eq_zero_iff.mp l1
    · refine .inr ⟨?_, ?_⟩
      · intro x hx
        have : ∃ k, H x.2.1 = some (.tup k) := by
          clear e dd2 l2 hl q z2 hd'
          induction rel2 with
          | nil => cases hx
          | cons h t ih =>
            rcases List.mem_cons.mp hx with rfl | hx
            · exact ⟨_, h.2.1⟩
            · exact ih hx
        obtain ⟨k, hk⟩ := this
        obtain ⟨_, its, _, ht⟩ := I.hok _ _ hk
        exact ht.typeIs
      · have e2 : (ys'.map fun x => (tupleKind (mixKind X.prog X.w)).hash x.1) = more.map fun p => keyHash X.prog X.w p.1 := by
          clear e dd2 l2 hl q z2 hd'
          induction rel2 with
          | nil => rfl
          | cons h t ih => rw [List.map_cons, List.map_cons, ih, h.1]; rfl
        rw [e2]
        exact e
  refine call_update_dictH (tupleKind_room_in1 hu) hne hdd dd dd2 hap' (by omega) fun h' dd' _ hs => ?_
  obtain ⟨o, es, ep, hq, h2, h3, h4, _, h5⟩ := dd'
  have hl2 := mergeT_len more kvs
  exact ⟨.non, _, d_write (ob := .dT (mergeT kvs more)) (t' := s.toks) I (by rw [ha]; exact True.intro) hs ⟨o, hq⟩ ⟨by omega, hda, _, (KT_merge rel2 rel).keeps (fun c ys ec => (by rw [upd_ne (ne_of ec ha (fun z => nomatch z))]; exact ec)), o, es, ep, hq, h2, h3, h4, h5⟩, rfl, q⟩
end

/-! at this layer -/
section
variable {X : Cx} {o e kx vx tg iter : Expr} {td ty tk tv : TE3} {apos cpos pos : Pos} {wi : TI3} {g : TG3} {ms : List Nat}
def ePopT (td ty : TE3) : TE3 := fun τ G Q => td τ G fun x G1 => ∃ a kds, x = .obj a ∧ G1 a = some (.dT kds) ∧ ty τ G1 fun y G2 => ∃ kds k d, G2 a = some (.dT kds) ∧ y = .tup (k.map kD) ∧ KeyT k ∧ look kds k = some d ∧ Q d (up G2 a (.dT (delA kds k)))
theorem e_popT (hu : X.A.units + 1 < cLine) (ho : PE3 X o td) (he : PE3 X e ty) (hbase : attributeBase o "pop" X.env (eval o X.env) = eval o X.env := by rfl)
    (hfew : ((backTo cpos (starEach (e :: []) X.env)).all (fun x => !x.1) && (backToKw cpos (keywordEach [] X.env)).all (fun x => x.1.isSome)
      && decide ((e :: ([] : List Expr)).length + ([] : List Keyword).length + (if ([] : List Keyword).isEmpty then 0 else 1) < 30)) = true := by rfl)
    (hline : (apos.endLine == cpos.line) = true := by rfl) (hs : starEach (e :: []) X.env = (false, eval e X.env) :: starEach [] X.env := by rfl) :
    PE3 X (.Call (.Attribute o "pop" apos) [e] [] cpos) (ePopT td ty) := pe_imp (pe_bm PySem.F.plainAttrs_dict PySem.F.slot_dict_pop PySem.F.type_dict_pop (mt_pop1 hu) ho (pa_cons he pa_nil hs) hbase hfew hline hs) fun σ H Q h => by
  obtain ⟨τ, G, Q3, s, rr, h, k⟩ := h
  refine lift_run s rr h fun v H1 d G1 g1 r1 s1 z1 q1 => ?_
  obtain ⟨a, kds, rfl, ga, q1⟩ := q1
  obtain ⟨kvs, ha, _⟩ := r1 a _ ga
  obtain rfl : v = .ref a := z1
  refine ⟨.inr (.inr (.inl ⟨rfl, .inr ⟨kvs, ha⟩⟩)), ?_⟩
  unfold tCons tNil
  refine lift_run s1 r1 q1 fun v2 H2 d2 G2 g2 r2 s2 z2 q2 => ?_
  obtain ⟨kds2, kk, d, ga2, rfl, hk, hl, q2⟩ := q2
  obtain ⟨kvs2, ha2, kz⟩ := r2 a _ ga2
  obtain ⟨b, rfl, hb⟩ := key_at z2 hk
  obtain ⟨w, hw, zw⟩ := kz.look_some hl
  refine ⟨a, kvs2, kk, b, w, rfl, rfl, ha2, hb, hw, ?_⟩
  have t := tk_write (o := .dT (dropK kvs2 kk)) r2 ga2
  exact k w _ d _ (g1.trans (g2.trans (go_write ga2))) (r0_write (ao' := .dT (delA kds2 kk)) r2 ga2 ⟨_, upd_same, (kz.del _).mono t⟩) (Dz.mono t _ _ zw) q2
/-- a new dict with tuple keys -/
abbrev TD3 := St3 → Gp → (List (List Key × Da) → Gp → Prop) → Prop
def liftD (K : PySem.W.Frag) (t : TD3) : TE := fun σ H Q => ∃ τ G Q3, Sz K H τ σ ∧ R0 K H G ∧ t τ G Q3 ∧
  ∀ p xs H' ds G', Go H G H' G' → R0 K H' G' → H p = none → H' p = some (.dT xs) → G' p = none → KZ K H' ds xs → Q3 ds G' → Q (.ref p) H'
abbrev PD3 (X : Cx) (e : Expr) (t : TD3) : Prop := PE X e (liftD X.K t)
def dDc (wi : TI3) (g : TG3) (tk tv : TE3) (vs : List Nat) : TD3 := fun τ G Q => wi τ G fun ds kp G1 => ∃ Pv : Nat → List (List Key × Da) → Gp → Prop, Pv 0 [] G1 ∧ (∀ i acc G', i ≤ ds.length → Pv i acc G' → kp G' ∧ acc.length < sizeLine) ∧
  (∀ i d acc G', ds[i]? = some d → Pv i acc G' → g d (wip τ vs) G' fun τ2 G2 => tk τ2 G2 fun y G3 => tv τ2 G3 fun z G4 => ∃ k, y = .tup (k.map kD) ∧ KeyT k ∧ Pv (i + 1) (putA acc k z) G4) ∧ ∀ acc G', Pv ds.length acc G' → Q acc G'
theorem dc_lift {K : PySem.W.Frag} {vs : List Nat} (hms : ∀ i ∈ ms, i ∈ vs) (σ : L2.St) (H : Hp) (Q : VK) (h : liftD K (dDc wi g tk tv vs) σ H Q) : tDcT (liftI K wi) (liftG K ms g) (lift K tk) (lift K tv) vs σ H Q := by
  obtain ⟨τ, G, Q3, s, r, h, k⟩ := h
  refine liftI_run s r h fun J H1 G1 ds kp g1 r1 s1 wk q1 => ?_
  obtain ⟨Pv, p0, pk, ps, pd⟩ := q1
  intro Dl hD
  have gD : G1 Dl = none := r1.gnone hD
  refine ⟨fun i m H' => i + m = ds.length ∧ ∃ acc xs G', Go H1 G1 H' G' ∧ R0 K H' G' ∧ G' Dl = none ∧ H' Dl = some (.dT xs) ∧ KZ K H' acc xs ∧ Pv i acc G',
    ⟨ds.length, Nat.zero_add _, [], [], G1, go_new hD, r0_new r1 hD, gD, upd_same, .nil, p0⟩, ?_⟩
  rintro i m H' ⟨him, acc, xs, G', g', r', gn, hx, zx, pv⟩
  obtain ⟨w1, w2, w3⟩ := wk H' G' g' r' (pk i acc G' (by omega) pv).1
  by_cases hlt : i < ds.length
  · refine .inr ⟨w1 i hlt, fun H2 => ∃ acc xs G2, Go H1 G1 H2 G2 ∧ R0 K H2 G2 ∧ G2 Dl = none ∧ H2 Dl = some (.dT xs) ∧ KZ K H2 acc xs ∧ Pv (i + 1) acc G2, fun H2 ⟨acc2, xs2, G2, a, b, c, d, e, f⟩ => ⟨m - 1, by omega, by omega, acc2, xs2, G2, a, b, c, d, e, f⟩, fun x H3 y => ?_⟩
    obtain ⟨d, hd, g3, r3, z3⟩ := w3 i x H3 hlt y
    have g13 := g'.trans g3
    refine ⟨d, wip τ vs, G', _, z3, (s1.mono (g13.tk r1)).wipe vs, r3, ps i d acc G' hd pv, fun σ4 H4 τ4 G4 g4 s4 r4 w4 q4 => ⟨(w4 vs hms).trans (wipe_idem σ vs), ?_⟩⟩
    refine lift_run s4 r4 q4 fun vk H5 dk G5 g5 r5 s5 z5 q5 => ?_
    refine lift_run s5 r5 q5 fun vv H6 dv G6 g6 r6 s6 z6 q6 => ?_
    obtain ⟨kk, rfl, hk, q6⟩ := q6
    obtain ⟨b, rfl, hb⟩ := key_at (Dz.mono (g6.tk r5) _ _ z5) hk
    have h6 := g3.trans (g4.trans (g5.trans g6))
    obtain ⟨hx6, gn6⟩ := h6.hid Dl _ hx gn
    have zx6 := zx.mono (h6.tk r')
    have tk6 : Tk H6 (upd H6 Dl (.dT (putK xs kk vv))) := fun c u0 f e => by
      have hc : c ≠ Dl := fun z => by
        subst z
        rw [hx6] at e; cases e; exact f
      rw [upd_ne hc]; exact e
    refine ⟨xs, kk, b, rfl, hb, hx6, by rw [zx6.length]; exact (pk i acc G' (by omega) pv).2, putA acc kk dv, putK xs kk vv, G6, ⟨fun q o e gq => ?_, fun q e => ?_⟩, ?_, gn6, upd_same, KZ.put (zx6.mono tk6) kk (Dz.mono tk6 _ _ z6), q6⟩
    · have hq : q ≠ Dl := fun z => by
        subst z
        rw [hD] at e; cases e
      obtain ⟨a1, a2⟩ := (g'.trans h6).hid q o e gq
      exact ⟨by rw [upd_ne hq]; exact a1, a2⟩
    · unfold upd
      split
      · exact fun z => nomatch z
      · exact (g'.trans h6).dom q e
    · intro b u eb
      have hb : b ≠ Dl := fun z => by
        subst z
        rw [gn6] at eb; cases eb
      exact (r6 b u eb).ex (fun v0 e => by rw [upd_ne hb]; exact e) tk6
  · have e : i = ds.length := by omega
    subst e
    exact .inl ⟨w2, k Dl xs H' acc G' (g1.trans g') r' (none_back (K := K) g1 hD) hx gn zx (pd acc G' pv)⟩
theorem d_dc {scope : Scope} {own : List (Str × Nat)} (hu : X.A.units + 1 < cLine) (hc : X.calm = true) (hN : X.N.Nodup) (hi : PI3 X tg iter wi) (ok : BlkOk X.N X.env.scope scope own)
    (hg : ∀ (s : Shared) (H : Hp) (C : Addr) (cl : List (Str × Addr)) (fp : List Addr), PG3 (X.blk s H scope (compEnvC scope cl C X.env) fp) tg ms g)
    (hk : ∀ (s : Shared) (H : Hp) (C : Addr) (cl : List (Str × Addr)) (fp : List Addr), PE3 (X.blk s H scope (compEnvC scope cl C X.env) fp) kx tk)
    (he : ∀ (s : Shared) (H : Hp) (C : Addr) (cl : List (Str × Addr)) (fp : List Addr), PE3 (X.blk s H scope (compEnvC scope cl C X.env) fp) vx tv) (hms : ∀ i ∈ ms, i ∈ own.map (·.2) := by decide) (hs : ∀ x, foldedSetIterable iter X.env x = pure x := by intro _; rfl) :
    PD3 X (.DictComp kx vx [⟨tg, iter, [], 0⟩] scope pos) (dDc wi g tk tv (own.map (·.2))) := pe_imp (pe_dcT hu hc hN hi ok hg hk he hs) (dc_lift hms)
def mergeA (kds more : List (List Key × Da)) : List (List Key × Da) := more.foldl (fun acc p => putA acc p.1 p.2) kds
theorem KZ.merge {K : PySem.W.Frag} {H : Hp} : ∀ {more : List (List Key × Da)} {mv : List (List Key × V)} {kds : List (List Key × Da)} {kvs : List (List Key × V)}, KZ K H more mv → KZ K H kds kvs → KZ K H (mergeA kds more) (mergeT kvs mv)
  | _, _, _, _, .nil, r => r
  | _, _, _, _, .cons (a := p) (b := q) h t, r => by
    obtain ⟨h1, h2⟩ := h
    show KZ K H (mergeA (putA _ p.1 p.2) _) (mergeT (putK _ q.1 q.2) _)
    rw [← h1]
    exact KZ.merge t (r.put p.1 h2)
/-- d.update({..}) -/
def eUpd (P : Program) (w : World) (td : TE3) (t : TD3) : TE3 := fun τ G Q => td τ G fun x G1 => ∃ a kds, x = .obj a ∧ G1 a = some (.dT kds) ∧ t τ G1 fun more G2 => ∃ kds, G2 a = some (.dT kds) ∧ kds.length + more.length ≤ sizeLine ∧
  (kds ≠ [] ∨ (more.map fun p => keyHash P w p.1).Nodup) ∧ Q .non (up G2 a (.dT (mergeA kds more)))
theorem e_upd {t : TD3} (hu : X.A.units + 1 < cLine) (ho : PE3 X o td) (he : PD3 X e t) (hbase : attributeBase o "update" X.env (eval o X.env) = eval o X.env := by rfl)
    (hfew : ((backTo cpos (starEach (e :: []) X.env)).all (fun x => !x.1) && (backToKw cpos (keywordEach [] X.env)).all (fun x => x.1.isSome)
      && decide ((e :: ([] : List Expr)).length + ([] : List Keyword).length + (if ([] : List Keyword).isEmpty then 0 else 1) < 30)) = true := by rfl)
    (hline : (apos.endLine == cpos.line) = true := by rfl) (hs : starEach (e :: []) X.env = (false, eval e X.env) :: starEach [] X.env := by rfl) :
    PE3 X (.Call (.Attribute o "update" apos) [e] [] cpos) (eUpd X.prog X.w td t) := pe_imp (pe_bm PySem.F.plainAttrs_dict PySem.F.slot_dict_update PySem.F.type_dict_update (mt_upd hu) ho (pa_cons he pa_nil hs) hbase hfew hline hs) fun σ H Q h => by
  obtain ⟨τ, G, Q3, s, rr, h, k⟩ := h
  refine lift_run s rr h fun v H1 d G1 g1 r1 s1 z1 q1 => ?_
  obtain ⟨a, kds, rfl, ga, q1⟩ := q1
  obtain ⟨kvs, ha, _⟩ := r1 a _ ga
  obtain rfl : v = .ref a := z1
  refine ⟨.inr (.inr (.inl ⟨rfl, .inr ⟨kvs, ha⟩⟩)), ?_⟩
  unfold tCons tNil
  refine ⟨τ, G1, _, s1, r1, q1, fun p xs H2 ds G2 g2 r2 hp e2 gp z2 q2 => ?_⟩
  obtain ⟨kds2, ga2, hl, hap, q2⟩ := q2
  obtain ⟨kvs2, ha2, kz⟩ := r2 a _ ga2
  have l1 := kz.length
  have l2 := z2.length
  refine ⟨a, p, kvs2, xs, rfl, rfl, fun e => ?_, ha2, e2, by omega, ?_, ?_⟩
  · subst e
    rw [ga2] at gp; cases gp
  · rcases hap with e | e
    · exact .inl fun e2 => e (List.length_eq_zero_iff.mp (by rw [← l1, e2]; rfl))
    · refine .inr ?_
      have e3 : (xs.map fun p => keyHash X.prog X.w p.1) = ds.map fun p => keyHash X.prog X.w p.1 := by
        clear q2 e hl l2 e2
        induction z2 with
        | nil => rfl
        | cons h t ih => rw [List.map_cons, List.map_cons, ih, h.1]
      rw [e3]
      exact e
  · have t := tk_write (o := .dT (mergeT kvs2 xs)) r2 ga2
    exact k .non _ .non _ (g1.trans (g2.trans (go_write ga2))) (r0_write (ao' := .dT (mergeA kds2 ds)) r2 ga2 ⟨_, upd_same, KZ.merge (z2.mono t) (kz.mono t)⟩) rfl q2
end
end Lw
set_option maxHeartbeats 2000000
/-! holders as data: (text, number, number); their order; sorted(t); a < b -/
namespace Lw
open PySem PySem.Spec PyProof.Rows L2 PySem.W PySem.SeqAt

structure Hd where
  w : Str
  l : Int
  p : Int
deriving DecidableEq
def hk (h : Hd) : List L2.Key := [.inr h.w, .inl h.l, .inl h.p]
abbrev hD (h : Hd) : Da := .tup ((hk h).map kD)
def hX (h : Hd) : PyData := .tuple [.str h.w, .int h.l, .int h.p]
theorem hk_inj {h g : Hd} (e : hk h = hk g) : h = g := by
  cases h; cases g
  unfold hk at e
  simp only [List.cons.injEq, Sum.inr.injEq, Sum.inl.injEq, and_true] at e
  obtain ⟨a, b, c⟩ := e
  subst a b c
  rfl
theorem hD_inj {h g : Hd} (e : hD h = hD g) : h = g := by
  cases h; cases g
  unfold hD hk at e
  simp only [List.map, kD, Da.tup.injEq, List.cons.injEq, Da.str.injEq, Da.int.injEq, and_true] at e
  obtain ⟨a, b, c⟩ := e
  subst a b c
  rfl
theorem hk_t (h : Hd) : KeyT (hk h) := ⟨_, _, rfl⟩
def hLt (h g : Hd) : Bool := dataLt (hX h) (hX g)
def hLe (h g : Hd) : Bool := !hLt g h
theorem hX_alike (h g : Hd) : alike (hX h) (hX g) = true := by simp [hX, alike, alikeAll]
theorem hX_depth (h : Hd) : (hX h).depth ≤ 1 := by simp [hX, PyData.depth, PyData.depthAll]
theorem hX_inj {h g : Hd} (e : hX h = hX g) : h = g := by
  cases h; cases g
  unfold hX at e
  simp only [PyData.tuple.injEq, List.cons.injEq, PyData.str.injEq, PyData.int.injEq, and_true] at e
  obtain ⟨a, b, c⟩ := e
  subst a b c
  rfl
theorem hLt_tot {h g : Hd} (ne : h ≠ g) : hLt h g = true ∨ hLt g h = true := by
  cases e1 : hLt h g with
  | true => exact .inl rfl
  | false =>
    cases e2 : hLt g h with
    | true => exact .inr rfl
    | false =>
      refine absurd ?_ ne
      have t : keyToks (hX h) = keyToks (hX g) := lex_total _ _ e1 e2
      cases h; cases g
      simp only [hX, keyToks, keyToksAll, List.cons_append, List.nil_append, List.cons.injEq, Sum.inl.injEq, Sum.inr.injEq, true_and, and_true] at t
      obtain ⟨a, b, c⟩ := t
      have a' := str_of_cps a
      subst a' b c
      rfl
theorem hLt_irr (h : Hd) : hLt h h = false := lex_irrefl _
theorem hLt_trans {a b c : Hd} (h1 : hLt a b = true) (h2 : hLt b c = true) : hLt a c = true := lex_trans _ _ _ h1 h2
theorem pw_lt {hs : List Hd} (nd : hs.Nodup) (p : hs.Pairwise fun a b => hLe a b = true) : hs.Pairwise fun a b => hLt a b = true := by
  refine (List.Pairwise.and nd p).imp ?_
  intro a b ⟨ne, le⟩
  rcases hLt_tot ne with h | h
  · exact h
  · unfold hLe at le
    rw [h] at le; cases le
theorem hs_sorted (hs : List Hd) : (hs.mergeSort (dataLe false hX)).Pairwise fun a b => hLe a b = true :=
  List.pairwise_mergeSort (le := dataLe false hX) (fun a b c h1 h2 => (sortLe_total (listOrd itemOrd) false fun b => keyToks (hX b)).trans a b c h1 h2) (fun a b => Bool.or_eq_true_iff.mpr ((sortLe_total (listOrd itemOrd) false fun b => keyToks (hX b)).total a b)) hs

/-- a value that is a holder -/
def HdAt (H : Hp) (h : Hd) (v : V) : Prop := ∃ b, v = .ref b ∧ H b = some (.tup ((hk h).map kV))
theorem hd_z {K : PySem.W.Frag} {H : Hp} {h : Hd} {v : V} (z : Dz K H (hD h) v) : HdAt H h v := key_at z (hk_t h)
theorem hds_z {K : PySem.W.Frag} {H : Hp} : ∀ {hs : List Hd} {xs : List V}, Dzs K H (hs.map hD) xs → Paired (HdAt H) hs xs
  | [], _, h => by
    rw [show _ = [] from h]; exact .nil
  | h :: hs, _, z => by
    obtain ⟨x, r, rfl, h1, h2⟩ := z
    exact .cons (hd_z h1) (hds_z h2)
theorem z_hd {K : PySem.W.Frag} {H : Hp} {h : Hd} {v : V} (z : HdAt H h v) : Dz K H (hD h) v := by
  obtain ⟨b, rfl, e⟩ := z
  exact ⟨b, _, rfl, .inl e, _, _, rfl, rfl, _, _, rfl, rfl, _, _, rfl, rfl, rfl⟩
theorem z_hds {K : PySem.W.Frag} {H : Hp} : ∀ {hs : List Hd} {xs : List V}, Paired (HdAt H) hs xs → Dzs K H (hs.map hD) xs
  | [], _, .nil => rfl
  | h :: hs, _, .cons a t => ⟨_, _, rfl, z_hd a, z_hds t⟩

section
variable {X : Cx} {pins : List (Addr × Obj)} {σ : L2.St} {H : Hp} {s : Shared}
theorem hd_reads (I : L2.Inv X pins σ H s) {h : Hd} {v : V} {u : Value} (z : HdAt H h v) (r : L2.RelV v u) : ∃ as, Reads s.heap u (hX h) as := by
  obtain ⟨b, rfl, e⟩ := z
  obtain rfl : u = .ref b := r
  obtain ⟨_, its, rv, o, ho, hc, n, hd⟩ := I.hok _ _ e
  cases rv with
  | cons r1 t =>
    cases t with
    | cons r2 t =>
      cases t with
      | cons r3 t =>
        cases t
        obtain ⟨t1, rfl⟩ := r1
        obtain ⟨t2, rfl⟩ := r2
        obtain ⟨t3, rfl⟩ := r3
        exact ⟨_, .tuple ho hc hd (.cons (.str _ _) (.cons (.int _ _) (.cons (.int _ _) .nil)))⟩
end

section
variable {prog : Program} {w : World} {A : Around} {E : Value → Shared → Prop} {s : Shared}
theorem collect_tuple {l : Addr} {vs : List Value} {Q : List Value → Shared → Prop} (hl : s.heap.IsTuple l vs.toArray)
    (h : Q vs { s with heap := (s.heap.push (seqObj "list" #[] 0)).update s.heap.objs.size (Obj.mapSeq (· ++ vs.toArray)) }) (hsz : vs.length ≤ sizeLine) :
    wpAny (model prog w) A (collect (.ref l)) Q E s := by
  obtain ⟨o, ho, hc, n, hd⟩ := id hl
  unfold collect
  refine wpAny_bind (wpAny_runValue (codeAny_builtin entry_proto_collect' ?_))
  show wpAny _ _ (do again (.builtin "list.__iadd__" ⟨[← newList [], .ref l], []⟩)) _ _ s
  refine wpAny_bind (wpAny_newList (wpAny_pure ⟨Code.quiet_builtin _ (by decide +kernel), codeAny_builtin entry_list_iadd' ?_⟩))
  show wpAny _ _ (Builtin.List.listExtendWith (.ref s.heap.objs.size) (.ref l) (.ref s.heap.objs.size)) _ _ { s with heap := s.heap.push (seqObj "list" #[] 0) }
  unfold Builtin.List.listExtendWith
  have ho' : (s.heap.push (seqObj "list" #[] 0)).get? l = some o := Heap.get?_push_of_some _ ho
  refine wpAny_bind (wpAny_typeOf (T := "tuple") ⟨o, ho', hc⟩ ?_)
  have ht : (Value.type "tuple" == Value.type "tuple") = true := by rfl
  rw [if_pos (by rw [ht]; simp)]
  refine wpAny_bind (listItems_at ho' hd ?_)
  refine wpAny_bind (listItems_at (xs := #[]) (n := 0) (Heap.get?_push_size _ rfl) rfl ?_)
  rw [if_neg (by simp)]
  refine wpAny_bind (listUpdate_at (xs := #[]) (n := 0) (Heap.get?_push_size _ rfl) rfl ?_ (Nat.zero_le _) (by show (#[] ++ vs.toArray).size ≤ sizeLine + 1; simp only [Array.size_append, List.size_toArray, List.length_nil]; omega))
  refine wpAny_pure ?_
  show wpAny (model prog w) A (do
      let o ← load s.heap.objs.size
      match o.data with
      | .seq xs _ => pure xs.toList
      | _ => unsupported "internal:collect") Q E { s with heap := (s.heap.push (seqObj "list" #[] 0)).update s.heap.objs.size (Obj.mapSeq (· ++ vs.toArray)) }
  refine wpAny_bind (wpAny_load (get?_update_seq (Heap.get?_push_size _ rfl) _) ?_)
  show wpAny _ _ (pure ((#[] : Array Value) ++ vs.toArray).toList) Q E _
  rw [show ((#[] : Array Value) ++ vs.toArray).toList = vs by simp]
  exact wpAny_pure h
theorem sorted_tuple {β : Type} {vs : List Value} {bs : List β} {enc : β → PyData} {R : Value → β → Prop} {l : Addr} {Q : Value → Shared → Prop} (hl : s.heap.IsTuple l vs.toArray) (e : EachIs R vs bs) (er : EachIs (fun v b => ∃ as, Reads s.heap v (enc b) as) vs bs) (hal : AllAlike (bs.map enc)) (hk : Sortable (bs.map enc)) (hL : bs.length ≤ sizeLine)
    (hu : ∀ b, b ∈ bs → A.units + 2 + (enc b).depth < cLine) (h : ∀ out, out.length = bs.length → EachIs R out (bs.mergeSort (dataLe false enc)) → Q (.ref (s.heap.objs.size + 1)) { s with heap := sortedAll s.heap vs (List.toArray out) }) :
    wpAny (model prog w) A (call (.builtin "sorted") [.ref l]) Q E s := by
  have hL' : vs.length ≤ sizeLine := by rw [e.length]; exact hL
  have er' : EachIs (fun v b => ∃ as, Reads (sortingHeap (copyHeap s.heap vs) (s.heap.objs.size + 1) vs) v (enc b) as) vs bs := er.mono fun _ _ ⟨as, r⟩ => ⟨as, PyProof.Rows.Reads.keeps (fun _ _ => sorting_copy_old) r⟩
  have S := SortsAt.data (prog := prog) (w := w) (A := A.in1.in1) (s := { s with heap := sortingHeap (copyHeap s.heap vs) (s.heap.objs.size + 1) vs }) (each_map (R := fun v d => ∃ as, Reads (sortingHeap (copyHeap s.heap vs) (s.heap.objs.size + 1) vs) v d as) enc er') hal hk (bound_map hu)
  have hq := h _ (by rw [sortVals_length false rfl]; exact e.length) (sortVals_data false e er' hal)
  refine Calls.call_function_entry kind_sorted plain_sorted entry_sorted (args_sorted1 _) ?_
  unfold Builtin.«sorted»
  refine wpAny_bind (m := checkCount "sorted" 1 1 _) (wpAny_pure ?_)
  refine wpAny_bind (collect_tuple hl ?_ hL')
  refine wpAny_bind (wpAny_newList ?_ hL')
  have hsz : ((s.heap.push (seqObj "list" #[] 0)).update s.heap.objs.size (Obj.mapSeq (· ++ vs.toArray))).objs.size = s.heap.objs.size + 1 := by
    rw [Heap.size_update, size_push']
  show wpAny _ _ _ _ _ { s with heap := copyHeap s.heap vs }
  rw [hsz]
  refine wpAny_bind (wpAny_holding (wpAny_call_entry slot_list_sort ⟨_, copyHeap_at s.heap vs, rfl⟩ entry_list_sort ?body (args_list_sort _)))
  case body =>
    show wpAny (model prog w) A.in1.in1 (Builtin.«list.sort» ⟨[.ref (s.heap.objs.size + 1)], []⟩) _ _ _
    exact list_sort_vals (s := { s with heap := copyHeap s.heap vs }) (copyHeap_at s.heap vs) S hL' ⟨_, rfl, wpAny_pure ⟨_, rfl, hq⟩⟩
end

section
variable {X : Cx}
def rSortH (K : PySem.W.Frag) : List V → Hp → VK → Prop := fun xs H Q => ∃ (a : Addr) (ys : List V) (hs : List Hd), xs = [.ref a] ∧ SqT K H a ys ∧ Paired (HdAt H) hs ys ∧
  ∀ hs' zs p, hs'.Perm hs → (hs'.Pairwise fun a b => hLe a b = true) → Paired (HdAt H) hs' zs → H p = none → Q (.ref p) (upd H p (.lst zs))
theorem cr_sortH (hu : X.A.units + 4 < cLine) : CallR X (.builtin "sorted") (rSortH X.K) := by
  intro pins s σ H xs us Q I r h
  obtain ⟨a, ys, hs, rfl, ha, hp, q⟩ := h
  rw [Vals.ref1 r]
  obtain ⟨its, rv, pl, hz⟩ := I.tuple ha
  have l1 := Paired.length hp
  have e : EachIs (fun (v : Value) (h : Hd) => ∃ y, HdAt H h y ∧ L2.RelV y v) its hs := by
    clear pl hz q l1 r ha
    induction hp generalizing its with
    | nil => cases rv; exact .nil
    | cons h t ih =>
      cases rv with
      | cons r1 rt => exact .cons ⟨_, h, r1⟩ (ih _ rt)
  refine sorted_tuple (enc := hX) (R := fun (v : Value) (h : Hd) => ∃ y, HdAt H h y ∧ L2.RelV y v) pl e (e.mono fun v h ⟨y, z, r⟩ => hd_reads I z r) (AllAlike.of hX_alike) (Sortable.tuples fun b => ⟨_, _, rfl⟩) (by rw [l1]; exact hz) (fun b _ => by
    have := hX_depth b
    omega) fun out hl ho => ?_
  have back : ∀ {vs : List Value} {gs : List Hd}, EachIs (fun (v : Value) (h : Hd) => ∃ y, HdAt H h y ∧ L2.RelV y v) vs gs → ∃ zs, Vals zs vs ∧ Paired (HdAt H) gs zs := by
    intro vs gs h
    induction h with
    | nil => exact ⟨[], .nil, .nil⟩
    | cons h t ih =>
      obtain ⟨y, z, r⟩ := h
      obtain ⟨zs, r2, p2⟩ := ih
      exact ⟨y :: zs, .cons r r2, .cons z p2⟩
  obtain ⟨zs, r2, p2⟩ := back ho
  obtain ⟨ep, he'⟩ := PyProof.Rows.sortedAll_at s.heap its out.toArray
  have hlen : zs.length ≤ sizeLine := by rw [r2.length, hl, l1]; exact hz
  exact ⟨.ref _, upd H (s.heap.objs.size + 1) (.lst zs), I.laid (t' := s.toks) (fun _ _ => PyProof.Rows.sortedAll_old) (Nat.le_succ _) ⟨hlen, out, ep, r2, he'⟩, rfl, q _ _ _ (List.mergeSort_perm _ _) (hs_sorted hs) p2 (I.hok.fresh (Nat.le_succ _))⟩
/-- sorted(a tuple of holders) -/
def lSort (te : TE3) : TL3 := fun τ G Q => te τ G fun x G1 => ∃ hs : List Hd, x = .tup (hs.map hD) ∧ ∀ hs' : List Hd, hs'.Perm hs → (hs'.Pairwise fun a b => hLe a b = true) → Q (hs'.map hD) G1
theorem l_sort {e : Expr} {te : TE3} {p pos : Pos} (hu : X.A.units + 4 < cLine) (hm : X.mg "sorted" = none) (ha : PE3 X e te) (hg : Gl X "sorted" := by rfl) (he : starEach (e :: []) X.env = (false, eval e X.env) :: starEach [] X.env := by rfl) : PL3 X (.Call (.Name "sorted" p) [e] [] pos) (lSort te) :=
  pe_imp (pe_callB (cr_sortH hu) hg hm boot_sorted (pa_cons ha pa_nil he) (by decide) (by decide) he) fun σ H Q h => by
  obtain ⟨τ, G, Q3, s, r, h, k⟩ := h
  unfold tCB tCons tNil
  refine lift_run s r h fun v H1 d G1 g1 r1 s1 z1 q1 => ?_
  obtain ⟨hs, rfl, q1⟩ := q1
  obtain ⟨a, ys, rfl, ht, zs⟩ := z1
  refine ⟨a, ys, hs, rfl, ht.sq, hds_z zs, fun hs' zs p h1 h2 h3 h4 => ?_⟩
  have h0 : H p = none := none_back (K := X.K) g1 h4
  exact k p zs _ (hs'.map hD) G1 (g1.trans (go_new h4)) (r0_new r1 h4) h0 upd_same (r1.gnone h4) (Dzs.mono (tk_new h4) _ _ (z_hds h3)) (q1 hs' h1 h2)

/-- a < b, holders -/
def rLtH : R2 := fun x y H Q => ∃ h g, HdAt H h x ∧ HdAt H g y ∧ Q (.bl (hLt h g)) H
theorem op_ltH (hu : X.A.units + 1 < cLine) : OpR X (compareOp .Lt) rLtH := by
  intro pins s σ H x y v u Q I rx ry h
  obtain ⟨h, g, zx, zy, q⟩ := h
  obtain ⟨as, r1⟩ := hd_reads I zx rx
  obtain ⟨bs, r2⟩ := hd_reads I zy ry
  refine rcLt_alike (hX h) (hX g) X.A s v u as bs r1 r2 (hX_alike h g) (fun z => nomatch z) (by have := hX_depth h; omega) _ _ _ _ ?_
  exact ⟨.bl _, H, I, rfl, q⟩
def oLtH : O3 := fun x y G Q => ∃ h g : Hd, x = hD h ∧ y = hD g ∧ Q (.bl (hLt h g)) G
theorem e_ltH {a b : Expr} {ta tb : TE3} {pos : Pos} (hu : X.A.units + 1 < cLine) (ha : PE3 X a ta) (hb : PE3 X b tb) : PE3 X (.Compare a [.Lt] [b] pos) (eOp oLtH ta tb) := e_cmp (op_ltH hu) (fun H G dx dy x y Q3 Q r zx zy h k => by
  obtain ⟨h, g, rfl, rfl, q⟩ := h
  exact ⟨h, g, hd_z zx, hd_z zy, k.here (d := .bl _) r rfl q⟩) ha hb
end
end Lw
set_option maxHeartbeats 2000000
/-! enumerate(a tuple) -/
namespace Lw
open PySem PySem.Spec PyProof.Rows L2
open AutoSeq1 (wpAny_loadPart')

theorem meets_enumT {v : Value} {o : Obj} {H : Heap → Prop} (B : Begins v o H) :
    Meets (Builtin.«enumerate.__new__» ⟨[.type "enumerate", v], []⟩) (fun _ R s => H s.heap ∧
      R (.ok (.ret (.ref (s.heap.push o).objs.size))) { s with heap := (s.heap.push o).push { cls := .type "enumerate", data := .fields #[.none, .bool false, .ref s.heap.objs.size, rawInt 0, .none, .none] } }) :=
  .of_wp fun prog w A R s h => by
    obtain ⟨hp, g, d, tk, os⟩ := s; obtain ⟨h1, h⟩ := h
    have hsub := sub_enumerate
    have q1 : ∀ {A' : Around} {E : Value → Shared → Prop} {Q : Value → Shared → Prop}, Q (.ref hp.objs.size) ⟨hp.push o, g, d, tk, os⟩ → wpAny (model prog w) A' (pyIter v) Q E ⟨hp, g, d, tk, os⟩ :=
      fun q => B.iter prog w _ _ ⟨hp, g, d, tk, os⟩ _ h1 q
    wp_walk using q1
    refine wpAny_stack_any fun st => wpAny_pure ?_
    split
    · rename_i c _ _ _ _ _
      cases (c == Value.type "enumerate")
      · wp_walk using q1
        exact ⟨_, rfl, h⟩
      · wp_walk using q1
        exact ⟨_, rfl, h⟩
    · wp_walk using q1
      exact ⟨_, rfl, h⟩
theorem enum_beginsT {prog : Program} {w : World} {A : Around} {E : Value → Shared → Prop} {s : Shared} {v : Value} {o : Obj} {H : Heap → Prop} {Q : Value → Shared → Prop} (B : Begins v o H) (h1 : H s.heap)
    (h : ∀ h', IsEnum h' (s.heap.objs.size + 1) s.heap.objs.size 0 .none → h'.get? s.heap.objs.size = some o → h'.objs.size = s.heap.objs.size + 2 →
      (∀ b o, s.heap.get? b = some o → h'.get? b = some o) → Q (.ref (s.heap.objs.size + 1)) { s with heap := h' }) :
    wpAny (model prog w) A (call (.type "enumerate") [v]) Q E s := by
  refine callType_new F.called_enumerate (by decide) (F.typeCall_enumerate_1 _) (F.newCall_enumerate_1 _) (fun obj => F.args_object_init_2 obj _) F.entry_enumerate_new
    (meets_enumT B) ⟨h1, ?_⟩
  have hz : (s.heap.push o).objs.size = s.heap.objs.size + 1 := Heap.size_push ..
  show _ ∧ _
  rw [hz]
  have he : IsEnum ((s.heap.push o).push { cls := .type "enumerate", data := .fields #[.none, .bool false, .ref s.heap.objs.size, rawInt 0, .none, .none] }) (s.heap.objs.size + 1) s.heap.objs.size 0 .none := by
    have := Heap.get?_push_size (s.heap.push o) (o := { cls := .type "enumerate", data := .fields #[.none, .bool false, .ref s.heap.objs.size, rawInt 0, .none, .none] }) rfl
    rw [hz] at this; exact this
  refine ⟨⟨_, he, rfl⟩, h _ he (Heap.get?_push_of_some _ (Heap.get?_push_size _ B.free)) (by rw [Heap.size_push, hz]) fun b o x => Heap.get?_push_of_some _ (Heap.get?_push_of_some _ x)⟩

def Iet (K : PySem.W.Frag) (a : Addr) : It :=
  ⟨fun i H => ∃ (xs : List V) (x : V), SqT K H a xs ∧ xs[i]? = some x, fun i H v H' => ∃ T x, v = .ref T ∧ H T = none ∧ H' = upd H T (.tup [.int (i : Nat), x]) ∧ ∀ xs, SqT K H a xs → xs[i]? = some x, fun i H => ∃ xs : List V, SqT K H a xs ∧ xs.length ≤ i⟩
theorem cls_ne {h : Heap} {a b : Addr} {o u : Obj} (ha : h.get? a = some o) (hb : h.get? b = some u) (ne : o.cls ≠ u.cls) : a ≠ b := by
  rintro rfl
  rw [ha] at hb; cases hb
  exact ne rfl
theorem turn_enumT {P : Program} {w : World} {K : PySem.W.Frag} {elts : List Expr} {kk : Nat} {tpos : Pos} (a e it : Addr) :
    Turn P w K (.Tuple elts kk tpos) (Iet K a) [e, it] e (fun i h => (∃ old, IsEnum h e it ((i : Nat) : Int) old) ∧ h.IsTupleIter it a i ∧ e ≠ it) where
  mem := by simp
  obj := fun i h st b hb => by
    obtain ⟨⟨old, he⟩, ⟨o, ho, hc, hd⟩, _⟩ := st
    have e' : b = e ∨ b = it := by simpa using hb
    rcases e' with z | z
    · rw [z]; exact ⟨_, he, fun v q => nomatch q⟩
    · rw [z]; exact ⟨o, ho, fun v q => by rw [hd] at q; cases q⟩
  keep := fun i h h' st k => let ⟨⟨old, he⟩, hi, hne⟩ := st; ⟨⟨old, k e (by simp) _ he⟩, hi.at fun o q => k it (by simp) o q, hne⟩
  item := by
    intro X hP hw hK hc i pins s σ H E I hf st hg
    subst hP hw hK
    obtain ⟨⟨old, he⟩, hit, hne⟩ := st
    obtain ⟨xs, x, hq, hx⟩ := hg
    obtain ⟨its, rv, p, hz⟩ := I.tuple hq
    obtain ⟨u, hu, ru⟩ := rv.get hx
    have hel : e < s.heap.objs.size := Heap.lt_size he
    have hil : it < s.heap.objs.size := by obtain ⟨_, q, _⟩ := hit; exact Heap.lt_size q
    have p' : s.heap.IsTuple a its.toArray := p
    have hai : a ≠ it := by
      obtain ⟨o1, a1, b1, _⟩ := p'
      obtain ⟨o2, a2, b2, _⟩ := hit
      exact cls_ne a1 a2 (by rw [b1, b2]; decide)
    have hae : a ≠ e := by
      obtain ⟨o1, a1, b1, _⟩ := p'
      exact cls_ne a1 he (by rw [b1]; show Value.type "tuple" ≠ Value.type "enumerate"; decide)
    have hn : i < its.toArray.size := by
      have := List.getElem?_eq_some_iff.mp hu
      obtain ⟨h, _⟩ := this
      simpa using h
    refine wpAny_pyNext_enum_itemD (Draws.tuple (A := X.A.in1) (I.ok.hd hc) it a hai its.toArray) he ⟨hit, p'⟩ hn hne (by simp [hne, Ne.symm hae]) fun x' h' tk hP ho hst' hT hsz hk => ?_
    obtain rfl : x' = u := by
      have : its.toArray[i]? = some u := by simpa using hu
      rw [this] at hP
      exact (Option.some.inj hP).symm
    refine ⟨_, rfl, wpAny_letOwnedTupleGo_enum (s := { s with heap := h', toks := tk + 1 }) ho fun h'' he' sb => ?_⟩
    have hT2 : h''.get? s.heap.objs.size = some { cls := .type "tuple", data := .seq #[.int i tk, x'] } := (sb.2 _ (Nat.ne_of_gt hel)).trans hT
    have new : ObjOk X.prog X.w (upd H s.heap.objs.size (.tup [.int (i : Nat), x])) h'' s.heap.objs.size (.tup [.int (i : Nat), x]) :=
      ⟨by show 2 ≤ sizeLine; decide, [.int i tk, x'], .cons ⟨_, rfl⟩ (.cons ru .nil), ⟨_, hT2, rfl, _, rfl⟩⟩
    have I1 : L2.Inv X pins σ (upd H s.heap.objs.size (.tup [.int (i : Nat), x])) { s with heap := h'', toks := tk + 1 } :=
      I.turnedNew (ch := [e, it]) (fun b ob hb q => (sb.2 b (fun z => hb (by simp [z]))).trans (hk b ob (fun z => hb (by simp [z])) (fun z => hb (by simp [z])) q)) hf (Nat.le_refl _) new
    refine ⟨.ref s.heap.objs.size, _, I1, rfl, ⟨_, x, rfl, I.hok.fresh (Nat.le_refl _), rfl, fun ys hy => by rw [I.tuple_inj hy hq]; exact hx⟩, ⟨⟨x', ?_⟩, hst'.1.at fun o q => (sb.2 it (Ne.symm hne)).trans q, hne⟩, fun b hb => ?_⟩
    · have e1 : ((i + 1 : Nat) : Int) = (i : Int) + 1 := by omega
      rw [e1]; exact he'
    · have hb' : b < s.heap.objs.size := by
        have e' : b = e ∨ b = it := by simpa using hb
        rcases e' with z | z
        · rw [z]; exact hel
        · rw [z]; exact hil
      rw [upd_ne (Nat.ne_of_lt hb')]
      exact (hf b hb).1
  done := by
    intro X hP hw hK hc i pins s σ H E I hf st hg
    subst hP hw hK
    obtain ⟨⟨old, he⟩, hit, hne⟩ := st
    obtain ⟨xs, hq, hx⟩ := hg
    obtain ⟨its, rv, p, hz⟩ := I.tuple hq
    obtain ⟨f0, f1, f2, f3, f4, f5⟩ := hf it (by simp)
    have hl := rv.length
    have p' : s.heap.IsTuple a its.toArray := p
    have hT : s.TypeIs (.ref e) "enumerate" := ⟨_, he, rfl⟩
    unfold pyNext
    refine wpAny_bind (wpAny_attempt (wpAny_callSpecial?_slot (name := Str.ofString "__next__") hT F.slot_enumerate_next
      (wpAny_call_entry F.slot_enumerate_next hT F.entry_enumerate_next ?_ (F.args_enumerate_next_1 _))))
    show wpAny _ _ (field (.ref e) 2 >>= _) _ _ _
    refine wpAny_bind (wpAny_field he rfl (x := .ref it) rfl ?_)
    refine wpAny_bind (wpAny_nextOf_tuple_end (show X.A.in1.handled = none from I.ok.hd hc) hit p' (by simp; omega) fun h' x he' hx' => ?_)
    obtain ⟨o, ho, hc'⟩ := hx'
    refine wpAny_bind (wpAny_isInstance (T := "StopIteration") (b := true) ⟨o, ho, hc'⟩ isSubtype_stop ?_)
    exact wpAny_pure ⟨rfl, I.turned (t' := s.toks) (fun b o hb q => he' b o hb q) f0 f1 f3 f4 f5⟩
  self := fun A i s Q E st h => let ⟨⟨_, he⟩, _⟩ := st; wpAny_pyIter_enum he h
section
variable {X : Cx} {e : Expr} {te : TE3} {p pos tpos : Pos} {elts : List Expr} {kk : Nat}
def iEnumT (K : PySem.W.Frag) (ta : TA) : TI := fun σ H R => ta σ H fun vs H1 => ∃ a xs, vs = [.ref a] ∧ SqT K H1 a xs ∧ R (Iet K a) H1
theorem pi_enumT {ta : TA} (hg : Gl X "enumerate") (hm : X.mg "enumerate" = none) (ha : PA X [e] ta) (hs : starEach [e] X.env = [(false, eval e X.env)] := by rfl) :
    PI X (.Tuple elts kk tpos) (.Call (.Name "enumerate" p) [e] [] pos) (iEnumT X.K ta) := by
  refine ⟨fun pins s σ H R I h => ?_⟩
  refine Call_ (ld_blt I hg hm boot_enumerate (PyProof.Rows.callWith_type1 (thn (ha.run pos pins s σ H _ I h) fun us s1 ⟨vs, H1, I1, r1, q1⟩ => ?_) hs rfl))
  obtain ⟨a, xs, ex, hq, q⟩ := q1
  subst ex
  cases r1 with
  | cons r rr =>
    cases rr
    cases r
    obtain ⟨its, rv, p', hz⟩ := I1.tuple hq
    refine enum_beginsT (begins_tuple a its.toArray) p' fun h' he hit hsz hk => wpAny_pyIter_enum he ?_
    have I2 : L2.Inv X pins σ H1 { s1 with heap := h' } := I1.kept (t' := s1.toks) hk
    refine ⟨s1.heap.objs.size + 1, [s1.heap.objs.size + 1, s1.heap.objs.size], _, _, H1, rfl, I2, turn_enumT a (s1.heap.objs.size + 1) s1.heap.objs.size, ⟨⟨.none, he⟩, ⟨_, hit, rfl, rfl⟩, Nat.succ_ne_self _⟩, fun b hb => ?_, q⟩
    have e' : b = s1.heap.objs.size + 1 ∨ b = s1.heap.objs.size := by simpa using hb
    have hle : s1.heap.objs.size ≤ b := by
      rcases e' with z | z
      · rw [z]; exact Nat.le_add_right _ _
      · rw [z]; exact Nat.le_refl _
    exact I1.fpOk hle (I1.hok.fresh hle)
def iET (te : TE3) : TI3 := fun τ G R => te τ G fun x G1 => ∃ ds, x = .tup ds ∧ R (enumD ds) (fun _ => True) G1
theorem i_enumT (hm : X.mg "enumerate" = none) (he : PE3 X e te) (hg : Gl X "enumerate" := by rfl) (hs : starEach [e] X.env = [(false, eval e X.env)] := by rfl) (hs2 : starEach (e :: []) X.env = (false, eval e X.env) :: starEach [] X.env := by rfl) :
    PI3 X (.Tuple elts kk tpos) (.Call (.Name "enumerate" p) [e] [] pos) (iET te) := pi_imp (pi_enumT hg hm (pa_cons he pa_nil hs2) hs) fun σ H R h => by
  obtain ⟨τ, G, R3, s, r, h, k⟩ := h
  refine lift_run s r h fun v H1 d G1 g1 r1 s1 z1 q1 => ?_
  obtain ⟨ds, rfl, q1⟩ := q1
  obtain ⟨a, xs, rfl, ht, zs⟩ := z1
  refine ⟨a, xs, rfl, ht.sq, k _ H1 G1 (enumD ds) _ g1 r1 (fun H2 G2 g2 r2 _ => ?_) q1⟩
  have ht2 := (ht.mono (g2.tk r1)).sq
  have zs2 := Dzs.mono (g2.tk r1) _ _ zs
  have hl := zs.length
  rw [enumD_len]
  refine ⟨fun i hi => ⟨xs, xs[i]'(by omega), ht2, List.getElem?_eq_getElem _⟩, ⟨xs, ht2, by omega⟩, fun i x H3 hi y => ?_⟩
  obtain ⟨T, x1, rfl, hT, rfl, e2⟩ := y
  obtain ⟨d, hd, zd⟩ := zs2.back (e2 xs ht2)
  exact ⟨_, enumD_get hd, pair_new (dx := .int (i : Nat)) r2 hT rfl zd⟩
end
end Lw
set_option maxHeartbeats 4000000
/-! a set that only ever gets tuples it has not got: its rows, the search that finds nothing, set.add -/
namespace Lw
open PySem PySem.Spec PyProof.Rows L2

section
variable {P : Program} {w : World} {A : Around} {E : Value → Shared → Prop} {s : Shared}
abbrev TupK (P : Program) (w : World) (h : Heap) (k : List L2.Key) (b : Addr) : Prop := IsTupleKey (mixKind P w) h k b
theorem items_mix {k : List L2.Key} {vs : List Value} (h : ItemsAre (mixKind P w) k vs) : ∀ v ∈ vs, (∃ i t, v = Value.int i t) ∨ ∃ x t, v = Value.str x t := by
  induction h with
  | nil => intro v hv; cases hv
  | @cons k0 v' ks vs h1 _ ih =>
    intro v hv
    rcases List.mem_cons.mp hv with e | hv
    · rcases keyIs_shape h1 with ⟨i, t, _, e2⟩ | ⟨x, t, _, e2⟩
      · exact .inl ⟨i, t, by rw [e]; assumption⟩
      · exact .inr ⟨x, t, by rw [e]; assumption⟩
    · exact ih v hv
theorem cls_plain (n : Nat) {v : Value} (h : (∃ i t, v = Value.int i t) ∨ ∃ x t, v = Value.str x t) : ofAClassStatement n v = pure false := by
  rcases h with ⟨i, t, rfl⟩ | ⟨x, t, rfl⟩
  · cases n <;> rfl
  · cases n <;> rfl
theorem ofAClass_k {k : List L2.Key} {b : Addr} {Q : Bool → Shared → Prop} (hk : TupK P w s.heap k b) (h : Q false s) : wpAny (model P w) A (ofAClassStatement 8 (.ref b)) Q E s := by
  have hT := hk.typeIs
  obtain ⟨o, items, n, ho, _, hd, hi⟩ := hk
  unfold ofAClassStatement
  refine wpAny_bind (wpAny_typeOf hT ?_)
  dsimp only
  have e : (("tuple" : String) == "tuple") = true := by decide
  simp only [e, if_true, Bool.not_true, Bool.false_eq_true, if_false]
  try refine wpAny_bind (wpAny_pure ?_)
  try simp only [Bool.not_true, Bool.false_eq_true, if_false]
  show wpAny _ _ (seqItems? (.ref b) >>= _) _ _ s
  refine wpAny_bind (wpAny_seqItems ho hd ?_)
  dsimp only
  refine wpAny_bind ?_
  show wpAny _ _ (forIn items _ _) _ _ s
  rw [← Array.forIn_toList]
  refine wpAny_forIn_list _ (fun rest r s' => r.1 = none ∧ s' = s ∧ ∀ v ∈ rest, (∃ i t, v = Value.int i t) ∨ ∃ x t, v = Value.str x t) _ ?_ ?_ _ _ ⟨rfl, rfl, items_mix hi⟩
  · rintro v rest r s' ⟨hr, rfl, hall⟩
    rw [cls_plain _ (hall v List.mem_cons_self)]
    refine wpAny_bind (wpAny_pure ?_)
    simp only [Bool.false_eq_true, if_false]
    exact wpAny_pure ⟨rfl, rfl, fun u hu' => hall u (List.mem_cons_of_mem _ hu')⟩
  · rintro ⟨r1, r2⟩ s' ⟨hr, rfl, _⟩
    simp only at hr
    subst hr
    exact wpAny_pure h
theorem hashBy_k {k : List L2.Key} {b : Addr} {Q : Bool → Shared → Prop} (kt : KeyT k) (hk : TupK P w s.heap k b) (h : Q false s) : wpAny (model P w) A (hashByValue 8 (.ref b)) Q E s := by
  have hT := hk.typeIs
  obtain ⟨o, items, n, ho, _, hd, hi⟩ := hk
  obtain ⟨x, r, rfl⟩ := kt
  unfold hashByValue
  refine wpAny_bind (wpAny_specialOf hT F.slot_tuple_hash.lookup ?_)
  show wpAny _ _ (seqItems? (.ref b) >>= _) _ _ s
  refine wpAny_bind (wpAny_seqItems ho hd ?_)
  refine wpAny_bind ?_
  show wpAny _ _ (forIn items _ _) _ _ s
  rw [← Array.forIn_toList]
  generalize items.toList = l at hi
  cases hi with
  | cons h1 _ =>
    rcases keyIs_shape (show keyIs (Sum.inr x) _ = true from h1) with ⟨i, t, e, _⟩ | ⟨y, t, _, e2⟩
    · exact nomatch e
    · rw [e2, List.forIn_cons]
      have e3 : hashByValue 7 (Value.str y t) = pure false := rfl
      rw [e3]
      refine wpAny_bind (wpAny_bind (wpAny_pure ?_))
      simp only [Bool.not_false, if_true]
      refine wpAny_pure ?_
      try dsimp only
      refine wpAny_pure ?_
      try dsimp only
      exact wpAny_pure h
theorem seen_k {k : List L2.Key} {b : Addr} {Q : Bool → Shared → Prop} (hk : TupK P w s.heap k b) {ys : List Value} (hy : ∀ y ∈ ys, ∃ k' c, y = Value.ref c ∧ TupK P w s.heap k' c) (h : Q false s) :
    wpAny (model P w) A (searchCouldBeSeen (.ref b) ys) Q E s := by
  unfold searchCouldBeSeen
  refine wpAny_bind ?_
  refine wpAny_forIn_list _ (fun rest r s' => r.1 = none ∧ s' = s ∧ ∀ y ∈ rest, ∃ k' c, y = Value.ref c ∧ TupK P w s.heap k' c) _ ?_ ?_ _ _ ⟨rfl, rfl, hy⟩
  · rintro v rest r s' ⟨hr, rfl, hall⟩
    obtain ⟨k', c, rfl, hc⟩ := hall v List.mem_cons_self
    have rest' : ∀ y ∈ rest, ∃ k' c, y = Value.ref c ∧ TupK P w s'.heap k' c := fun u hu' => hall u (List.mem_cons_of_mem _ hu')
    dsimp only
    by_cases hv : (b == c || (carriedByValue (.ref b) && carriedByValue (.ref c))) = true
    · refine wp_if_pos hv ?_
      exact wpAny_pure ⟨rfl, rfl, rest'⟩
    · refine wp_if_neg hv ?_
      refine wpAny_bind (wpAny_eqIsQuiet_tuple hk ?_)
      simp only [Bool.not_true, Bool.false_eq_true, if_false]
      refine wpAny_bind (wpAny_eqIsQuiet_tuple hc ?_)
      simp only [Bool.not_true, Bool.false_eq_true, if_false]
      refine wpAny_bind (ofAClass_k hk ?_)
      simp only [Bool.false_eq_true, if_false]
      refine wpAny_bind (ofAClass_k hc ?_)
      simp only [Bool.false_eq_true, if_false]
      exact wpAny_pure ⟨rfl, rfl, rest'⟩
  · rintro ⟨r1, r2⟩ s' ⟨hr, rfl, _⟩
    simp only at hr
    subst hr
    exact wpAny_pure h

/-- the rows of the set at a -/
structure SetN (w : World) (h : Heap) (a : Addr) (es : Array (Int × Value)) (ep : Nat) (t : SetTable) : Prop where
  ob : ∃ o, h.get? a = some o ∧ o.ExactSet ∧ o.data = .set es ep t
  tab : TabOk t (es.toList.map (·.1))
  led : w.params.followText "set-order" = true ∨ t.led = true
  room : es.size * 5 < t.mask * 3
  few : es.size < 64
variable {a : Addr} {es : Array (Int × Value)} {ep : Nat} {t : SetTable}
theorem SetN.fits (R : SetN w s.heap a es ep t) : t.fits es.size = true := by
  have h1 := R.tab.sz
  rw [List.length_map, Array.length_toList] at h1
  have h3 := R.room
  unfold SetTable.fits SetTable.fill
  rw [R.tab.dm, Bool.and_eq_true, beq_iff_eq, decide_eq_true_eq]
  show t.place.size = es.size ∧ t.place.size + 0 ≤ t.mask
  omega
/-- other tuples than k, with their hashes -/
def Oth (P : Program) (w : World) (h : Heap) (k : List L2.Key) (es : Array (Int × Value)) : Prop := ∀ e ∈ es.toList, ∃ k' b, e = (keyHash P w k', Value.ref b) ∧ TupK P w h k' b ∧ k' ≠ k
theorem search_new (R : SetN w s.heap a es ep t) {x : Addr} {k : List L2.Key} (hx : TupK P w s.heap k x) (oth : Oth P w s.heap k es) (hu : A.units < cLine) {K : Nat} (hKf : K < 10 * SetTable.turns t.mask)
    (hK : way t.mask (keyHash P w k) K ∉ t.place.toList) (hKb : ∀ c, c < K → way t.mask (keyHash P w k) c ∈ t.place.toList) {Q : SetFound → Shared → Prop}
    (hout : Q (.free (way t.mask (keyHash P w k) K) false) s) :
    ∀ (f c : Nat) (stand : Option SetTable.Probe), stand.getD (t.probeStart (keyHash P w k)) = nth t.mask (runAt t.mask (SetTable.bits (keyHash P w k) % (t.mask + 1)) (SetTable.bits (keyHash P w k))) c → c ≤ K → K - c < f →
      wpAny (model P w) A (setSearchFrom a (.ref x) (keyHash P w k) true f stand) Q E s
  | 0, c, stand, _, _, hf => absurd hf (Nat.not_lt_zero _)
  | f + 1, c, stand, hst, hc, hf => by
    obtain ⟨o, ho, hex, hd⟩ := R.ob
    have gw : ¬ t.gaveWay = true := by
      unfold SetTable.gaveWay
      rw [mask_odd R.tab.mok]
      decide
    rw [setSearchFrom_succ]
    refine wpAny_bind (wpAny_setState_of ho hd R.fits ?_)
    dsimp only
    refine wp_if_neg gw ?_
    try refine wpAny_bind (wpAny_pure ?_)
    generalize hs0 : runAt t.mask (SetTable.bits (keyHash P w k) % (t.mask + 1)) (SetTable.bits (keyHash P w k)) = p0 at hst
    have wy : ∀ q, (nth t.mask p0 q).j = way t.mask (keyHash P w k) q := fun q => by rw [← hs0]
    have hnd : (nth t.mask p0 c).dummy = none := by
      have key : ∀ (n : Nat) (p : SetTable.Probe), p.dummy = none → (nth t.mask p n).dummy = none := by
        intro n
        induction n with
        | zero => intro p h; exact h
        | succ n ih =>
          intro p h
          refine ih (adv t.mask p) ?_
          unfold adv
          split <;> exact h
      exact key c _ (by rw [← hs0]; rfl)
    have e1 : ∀ q, (nth t.mask (nth t.mask p0 c) q).j = way t.mask (keyHash P w k) (c + q) := fun q => by rw [← nth_add]; exact wy _
    have spec := go_spec t R.tab.ris R.tab.dm (fun i => (es[i]?.map (·.1)).getD 0) (keyHash P w k) (10 * SetTable.turns t.mask) (K - c) _ hnd (by omega)
      (fun q hq => by rw [e1]; exact hKb (c + q) (by omega)) (by rw [e1, show c + (K - c) = K by omega]; exact hK)
    rcases spec with ⟨q, i, hq, hi, hh, hno, hpr⟩ | ⟨hno, hpr⟩
    · have hpr' : t.probe (fun i => (es[i]?.map (·.1)).getD 0) (keyHash P w k) (stand.getD (t.probeStart (keyHash P w k))) = some (.candidate (way t.mask (keyHash P w k) (c + q)) i (nth t.mask p0 (c + (q + 1)))) := by
        rw [hst, ← e1, nth_add]
        exact hpr
      rw [hpr']
      dsimp only
      rw [e1] at hi
      have hil : i < es.size := by
        have h1 : i < t.place.toList.length := (List.getElem?_eq_some_iff.mp hi).1
        have h2 := R.tab.sz
        rw [List.length_map, Array.length_toList] at h2
        rw [Array.length_toList] at h1
        omega
      have hp : es[i]? = some es[i] := Array.getElem?_eq_getElem hil
      have hmem : es[i] ∈ es.toList := by simp
      obtain ⟨k', b, ee, hb, hne⟩ := oth _ hmem
      have rest : wpAny (model P w) A (searchRest a (.ref x) (keyHash P w k) true f es t (way t.mask (keyHash P w k) (c + q)) i (nth t.mask p0 (c + (q + 1)))) Q E s := by
        unfold searchRest
        rw [hp, ee]
        dsimp only
        refine wpAny_bind (wpAny_holding (wpAny_eqBool_tuple hu hb hx ?_))
        refine wpAny_bind (wpAny_setState_of ho hd R.fits ?_)
        dsimp only
        refine wp_if_neg (by simp [hne]) ?_
        try refine wpAny_bind (wpAny_pure ?_)
        rw [show t.sameMemory t.moves t.mask = some true by unfold SetTable.sameMemory; rw [if_pos (beq_self_eq_true _)]]
        dsimp only
        have hsl : t.slot (way t.mask (keyHash P w k) (c + q)) = .live i := slot_live R.tab.ris hi
        simp only [if_true, hsl, hp, ee]
        refine wpAny_bind (wpAny_isSame_ref_self (wpAny_bind (wpAny_pure ?_)))
        simp only [if_true]
        refine wp_if_neg (by simp [hne]) ?_
        exact search_new R hx oth hu hKf hK hKb hout f (c + (q + 1)) _ (by rw [hs0]; rfl) (by omega) (by omega)
      by_cases hl : t.led = true
      · refine wp_if_neg (by simp [hl]) ?_
        try refine wpAny_bind (wpAny_pure ?_)
        exact rest
      · refine wp_if_pos (by simp [hl]) ?_
        refine wpAny_bind (seen_k hx (fun y hy => ?_) ?_)
        · obtain ⟨e, he, ey⟩ := List.mem_map.mp hy
          have he1 : e ∈ es ∧ e.1 = keyHash P w k := by simpa using he
          have he2 : e ∈ es.toList := by simpa using he1.1
          obtain ⟨k2, b2, e2, hb2, _⟩ := oth _ he2
          exact ⟨k2, b2, by rw [← ey, e2], hb2⟩
        · refine wp_if_neg (by decide) ?_
          try refine wpAny_bind (wpAny_pure ?_)
          exact rest
    · have hpr' : t.probe (fun i => (es[i]?.map (·.1)).getD 0) (keyHash P w k) (stand.getD (t.probeStart (keyHash P w k))) = some (.empty (way t.mask (keyHash P w k) K) none) := by
        have e2 : way t.mask (keyHash P w k) K = (nth t.mask (nth t.mask p0 c) (K - c)).j := by
          rw [e1, show c + (K - c) = K by omega]
        rw [hst, e2]
        exact hpr
      rw [hpr']
      dsimp only
      exact wpAny_pure hout

theorem filt_rows (es : Array (Int × Value)) (order : Array Nat) (hp : order.toList.Perm (List.range es.size)) :
    (order.filterMap (es[·]?)).toList.Perm es.toList ∧ (order.filterMap (es[·]?)).toList.map (·.1) = order.toList.map fun i => (es.map (·.1)).getD i 0 := by
  have h0 : (order.filterMap (es[·]?)).toList = order.toList.filterMap fun i => es.toList[i]? := by simp
  rw [h0]
  constructor
  · have h1 : (order.toList.filterMap fun i => es.toList[i]?).Perm ((List.range es.size).filterMap fun i => es.toList[i]?) := hp.filterMap _
    have h2 : ∀ l : List (Int × Value), (List.range l.length).filterMap (fun i => l[i]?) = l := by
      intro l
      induction l with
      | nil => rfl
      | cons x l ih =>
        rw [List.length_cons, List.range_succ_eq_map, List.filterMap_cons, List.filterMap_map]
        exact congrArg (x :: ·) ih
    have h3 := h2 es.toList
    rw [Array.length_toList] at h3
    rw [h3] at h1
    exact h1
  · have hb : ∀ i ∈ order.toList, i < es.size := fun i hi => List.mem_range.mp (hp.mem_iff.mp hi)
    revert hb
    generalize order.toList = l
    intro hb
    induction l with
    | nil => rfl
    | cons i l ih =>
      have hi := hb i List.mem_cons_self
      rw [List.filterMap_cons_some (b := es[i]) (by simp [hi]), List.map_cons, List.map_cons, ih fun j hj => hb j (List.mem_cons_of_mem _ hj)]
      have hi2 : i < (es.map (·.1)).size := by rw [Array.size_map]; exact hi
      congr 1
      simp [Array.getD, hi]
theorem relay_new {o : Obj} (ho : s.heap.get? a = some o) (hex : o.ExactSet) (hd : o.data = .set es ep t) (hsz : t.place.size = es.size) (hdm : t.dummies = #[]) (hfl : es.size ≤ t.mask)
    (ld : w.params.followText "set-order" = true ∨ t.led = true) (few : es.size < 64) {wanted M : Nat}
    (hw : SetTable.sizeAbove wanted - 1 = M) (hM : MaskOk M) (hw2 : SetTable.sizeAbove wanted ≤ 128) (hn : es.size * 5 < M * 3) {Q : Unit → Shared → Prop}
    (hQ : ∀ h' es' ep' t', Heap.SameBut a s.heap h' → SetN w h' a es' ep' t' → es'.toList.Perm es.toList → Q () { s with heap := h' }) : wpAny (model P w) A (setRelay a wanted) Q E s := by
  have hfits : t.fits es.size = true := by
    unfold SetTable.fits SetTable.fill
    rw [hdm, Bool.and_eq_true, beq_iff_eq, decide_eq_true_eq]
    show t.place.size = es.size ∧ t.place.size + 0 ≤ t.mask
    omega
  obtain ⟨t', order, e, hp, T, em, el, ep', ed⟩ := relaid_ok t (hs := es.map (·.1)) (wanted := wanted) hw hM (by rw [Array.size_map]; omega)
  rw [Array.size_map] at hp
  obtain ⟨r2, r3⟩ := filt_rows es order hp
  rw [← r3] at T
  have hs2 : (order.filterMap (es[·]?)).size = es.size := by
    have h := r2.length_eq
    rw [Array.length_toList, Array.length_toList] at h
    exact h
  rw [setRelay_eq]
  refine wpAny_bind (wpAny_setState_of ho hd hfits ?_)
  dsimp only
  refine wp_if_neg (by rw [sizeLine_eq]; omega) ?_
  try refine wpAny_bind (wpAny_pure ?_)
  rw [e]
  dsimp only
  refine wpAny_bind ?_
  refine wp_if_neg (by rw [hs2]; simp) ?_
  try refine wpAny_bind (wpAny_pure ?_)
  refine wpAny_pure ?_
  dsimp only
  refine wpAny_storeSet_of ho hd ?_ (by rw [hs2, sizeLine_eq]; omega)
  have sb : Heap.SameBut a s.heap (s.heap.update a (Obj.putSet (order.filterMap (es[·]?)) t')) := Heap.SameBut.update ..
  exact hQ _ (order.filterMap (es[·]?)) (ep + 1) t' sb ⟨⟨_, store_at ho hd, ⟨hex.1, hex.2.1, hex.2.2⟩, rfl⟩, T, by rw [el]; exact ld, by rw [hs2, em]; exact hn, by rw [hs2]; exact few⟩ r2

theorem add_new (R : SetN w s.heap a es ep t) {x : Addr} {k : List L2.Key} (kt : KeyT k) (hx : TupK P w s.heap k x) (oth : Oth P w s.heap k es) (hu : A.units < cLine) (hfew : es.size + 1 < 64) {Q : Bool → Shared → Prop}
    (hQ : ∀ h' es' ep' t', Heap.SameBut a s.heap h' → SetN w h' a es' ep' t' → es'.toList.Perm ((keyHash P w k, Value.ref x) :: es.toList) → Q true { s with heap := h' }) :
    wpAny (model P w) A (setAddHashed a (.ref x) (keyHash P w k)) Q E s := by
  obtain ⟨o, ho, hex, hd⟩ := R.ob
  have hroom := R.room
  obtain ⟨K, hKf, hK, hKb⟩ := R.tab.first (by rw [List.length_map, Array.length_toList]; omega) (keyHash P w k)
  have hbig : K < 100000 := by
    have : 10 * SetTable.turns t.mask ≤ 1420 := by
      unfold SetTable.turns
      rcases R.tab.mok with e | e | e <;> omega
    omega
  unfold setAddHashed
  refine wpAny_holding ?_
  rw [show (100000 : Nat) = 99999 + 1 from rfl, setAddHashedIn_succ]
  refine wpAny_bind (wpAny_setState_of ho hd R.fits ?_)
  dsimp only
  refine wp_if_neg (by simp [byScan, Value.scannable]) ?_
  try refine wpAny_bind (wpAny_pure ?_)
  refine wpAny_bind ?_
  unfold setSearch
  refine search_new R hx oth hu hKf hK hKb ?_ 100000 0 none rfl (Nat.zero_le _) (by omega)
  dsimp only
  refine wpAny_bind (wpAny_setState_of ho hd R.fits ?_)
  dsimp only
  obtain ⟨q1, q2, q3, q4, q5, q6, q7, q8, q9⟩ := R.tab.put hK hKb
  generalize hpt : t.put (way t.mask (keyHash P w k) K) = pt at q1 q3 q4 q5 q6 q7 q8 q9 ⊢
  obtain ⟨t1, p⟩ := pt
  dsimp only at q1 q3 q4 q5 q6 q7 q8 q9 ⊢
  subst q1
  have fork : ∀ (g : Bool → Sem Bool), (∀ b, wpAny (model P w) A (g b) Q E s) → wpAny (model P w) A (if t1.plain = true then hashByValue 8 (.ref x) >>= g else pure true >>= g) Q E s := fun g h => by
    split
    · exact wpAny_bind (hashBy_k kt hx (h false))
    · exact wpAny_bind (wpAny_pure (h true))
  refine fork _ fun bv => ?_
  generalize ht2 : (if bv = true then t1 else { t1 with plain := false }) = t2
  have e2 : t2.place = t1.place ∧ t2.dummies = t1.dummies ∧ t2.mask = t1.mask ∧ t2.led = t1.led ∧ t2.fill = t1.fill ∧ t2.tooFull = t1.tooFull := by
    rw [← ht2]
    cases bv <;> exact ⟨rfl, rfl, rfl, rfl, rfl, rfl⟩
  obtain ⟨f1, f2, f3, f4, f5, f6⟩ := e2
  replace q3 : TabOk t2 _ := ⟨by rw [f1]; exact q3.ris, by rw [f2]; exact q3.dm, by rw [f1]; exact q3.sz, by rw [f3]; exact q3.mok, by rw [f1, f3]; exact q3.bd, by rw [f1, f3]; exact q3.reach⟩
  replace q4 := f3.trans q4
  replace q5 := f4.trans q5
  replace q9 := f5.trans q9
  clear ht2 f1 f2 f3 f4 f5 f6 q6 q7 q8 hpt fork
  clear bv
  generalize t2 = t1 at q3 q4 q5 q9 ⊢
  have hin := SetTable.toList_insertAt es (SetTable.below t.place (way t.mask (keyHash P w k) K)) (keyHash P w k, Value.ref x)
  generalize hpp : SetTable.below t.place (way t.mask (keyHash P w k) K) = p at q2 q3 hin ⊢
  have pm : (es.toList.take p ++ (keyHash P w k, Value.ref x) :: es.toList.drop p).Perm ((keyHash P w k, Value.ref x) :: es.toList) := put_perm _ _ _
  rw [← hin] at pm
  have hhs : (SetTable.insertAt es p (keyHash P w k, Value.ref x)).toList.map (·.1) = (es.toList.map (·.1)).take p ++ keyHash P w k :: (es.toList.map (·.1)).drop p := by
    rw [hin, List.map_append, List.map_cons, List.map_take, List.map_drop]
  rw [← hhs] at q3
  have hes : (SetTable.insertAt es p (keyHash P w k, Value.ref x)).size = es.size + 1 := by
    have h := pm.length_eq
    rw [Array.length_toList, List.length_cons, Array.length_toList] at h
    exact h
  generalize SetTable.insertAt es p (keyHash P w k, Value.ref x) = es1 at hin hes pm q3 ⊢
  refine wpAny_bind (wpAny_storeSet_of ho hd ?_ (by rw [hes, sizeLine_eq]; omega))
  have sb : Heap.SameBut a s.heap (s.heap.update a (Obj.putSet es1 t1)) := Heap.SameBut.update ..
  have ho1 := store_at (es' := es1) (t' := t1) ho hd
  generalize s.heap.update a (Obj.putSet es1 t1) = h1 at sb ho1 ⊢
  have ld1 : w.params.followText "set-order" = true ∨ t1.led = true := by rw [q5]; exact R.led
  by_cases hf : t1.tooFull = true
  · first
      | (refine wpAny_bind ?_; refine wp_if_pos (by simp [hf]) ?_)
      | (refine wp_if_pos (by simp [hf]) ?_; refine wpAny_bind ?_)
    have hfull : (es.size + 1) * 5 ≥ t1.mask * 3 := by
      have h := hf
      unfold SetTable.tooFull at h
      rw [decide_eq_true_eq, q9, List.length_map, Array.length_toList] at h
      exact h
    have hsz1 : t1.place.size = es1.size := by
      have h := q3.sz
      rw [List.length_map, Array.length_toList] at h
      exact h
    have cases2 : (t.mask = 7 ∧ es.size = 4) ∨ (t.mask = 31 ∧ es.size = 18) := by
      rcases R.tab.mok with e | e | e
      · left; rw [q4, e] at hfull; rw [e] at hroom; exact ⟨e, by omega⟩
      · right; rw [q4, e] at hfull; rw [e] at hroom; exact ⟨e, by omega⟩
      · exfalso; rw [q4, e] at hfull; omega
    have go : ∀ M, SetTable.sizeAbove (SetTable.grown (es.size + 1)) - 1 = M → MaskOk M → SetTable.sizeAbove (SetTable.grown (es.size + 1)) ≤ 128 → (es.size + 1) * 5 < M * 3 →
        wpAny (model P w) A (setRelay a (SetTable.grown (es.size + 1))) (fun _ s' => wpAny (model P w) A (pure true) Q E s') E { s with heap := h1 } := fun M h1' h2' h3' h4' => by
      refine relay_new (s := { s with heap := h1 }) ho1 ⟨hex.1, hex.2.1, hex.2.2⟩ rfl hsz1 q3.dm (by rw [hes, q4]; rcases cases2 with ⟨e, e2⟩ | ⟨e, e2⟩ <;> omega) ld1 (by rw [hes]; exact hfew) h1' h2' h3' (by rw [hes]; exact h4') ?_
      intro h2 es2 ep2 t2 sb2 R2 pm2
      exact wpAny_pure (hQ h2 es2 ep2 t2 (sb.trans sb2) R2 (pm2.trans pm))
    rcases cases2 with ⟨_, e2⟩ | ⟨_, e2⟩
    · refine go 31 (by rw [e2, size_20]) (.inr (.inl rfl)) (by rw [e2, size_20]; decide) (by omega)
    · refine go 127 (by rw [e2, size_76]) (.inr (.inr rfl)) (by rw [e2, size_76]; decide) (by omega)
  · first
      | refine wp_if_neg (by simp [hf]) ?_
      | (refine wpAny_bind ?_; refine wp_if_neg (by simp [hf]) ?_; refine wpAny_pure ?_)
    refine wpAny_pure (hQ h1 es1 (ep + 1) t1 sb ⟨⟨_, ho1, ⟨hex.1, hex.2.1, hex.2.2⟩, rfl⟩, q3, ld1, ?_, by rw [hes]; exact hfew⟩ pm)
    have h := hf
    unfold SetTable.tooFull at h
    rw [decide_eq_true_eq, q9, List.length_map, Array.length_toList] at h
    rw [hes]
    omega
theorem call_add_new (R : SetN w s.heap a es ep t) {x : Addr} {k : List L2.Key} (kt : KeyT k) (hx : TupK P w s.heap k x) (oth : Oth P w s.heap k es) (hu : A.units + 1 < cLine) (hfew : es.size + 1 < 64) {Q : Value → Shared → Prop}
    (hQ : ∀ h' es' ep' t' tk, Heap.SameBut a s.heap h' → SetN w h' a es' ep' t' → es'.toList.Perm ((keyHash P w k, Value.ref x) :: es.toList) → Q .none { s with heap := h', toks := tk }) :
    wpAny (model P w) A (call (.builtin "set.add") [.ref a, .ref x]) Q E s := by
  obtain ⟨o, ho, hex, hd⟩ := R.ob
  refine wpAny_call_entry F.slot_set_add ⟨o, ho, hex.1⟩ F.entry_set_add ?_ (F.args_set_add_2 _ _)
  unfold Builtin.«set.add» Builtin.Frozenset.oneOther
  simp only [List.isEmpty_nil, bind_assoc]
  unfold Builtin.Frozenset.addrOf setAdd
  refine wpAny_bind (wpAny_pure ?_)
  try dsimp only
  refine wpAny_bind (wpAny_pure ?_)
  try dsimp only
  refine wpAny_bind ?_
  refine wpAny_holding ?_
  have hu1 : A.in1.units < cLine := by
    show A.units + 1 < cLine
    exact hu
  refine wpAny_bind (wpAny_pyHash_tuple hu1 hx ?_)
  refine add_new (s := { s with toks := s.toks + (k.length + 1) }) R kt hx oth hu1 hfew fun h' es' ep' t' sb r pm => ?_
  show wpAny _ _ (ret Value.none) _ _ _
  exact wpAny_pure ⟨_, rfl, hQ h' es' ep' t' _ sb r pm⟩
end
end Lw
set_option maxHeartbeats 4000000
/-! len({h for row in rows for h in row}), no holder twice -/
namespace Lw
open PySem PySem.Spec PyProof.Rows L2

section
variable {prog : Program} {w : World} {A : Around} {R : Result → Shared → Prop} {s : Shared} {elt t0 i0 t1 i1 : Expr} {scope : Scope} {pos : Pos} {it acc : Value} {env : Env}
abbrev two (elt t0 i0 t1 i1 : Expr) (scope : Scope) (pos : Pos) : Expr := .SetComp elt [⟨t0, i0, [], 0⟩, ⟨t1, i1, [], 0⟩] scope pos
theorem turnS_out (elt t0 i0 t1 i1 : Expr) (scope : Scope) (pos : Pos) (it acc : Value) (env : Env) :
    compTurn (two elt t0 i0 t1 i1 scope pos) 0 it acc env = (do
      standAt i0.pos
      match ← pyNext it with
      | none => pure (.done .next)
      | some v =>
        letOwnedTupleGo t0 it v
        assign t0 env v
        let x ← eval i1 env
        standAt i1.pos
        let x ← foldedSetIterable i1 env x
        let _ ← runOwn (.compStart (two elt t0 i0 t1 i1 scope pos) 1 (← holding [x] (pyIter x)) acc env) env
        again (.compLoop (two elt t0 i0 t1 i1 scope pos) 0 it acc env)) := by rfl
theorem turnS_in (elt t0 i0 t1 i1 : Expr) (scope : Scope) (pos : Pos) (it acc : Value) (env : Env) :
    compTurn (two elt t0 i0 t1 i1 scope pos) 1 it acc env = (do
      standAt i1.pos
      match ← pyNext it with
      | none => pure (.done .next)
      | some v =>
        letOwnedTupleGo t1 it v
        assign t1 env v
        (do let v ← eval elt env; standAt elt.pos; let _ ← call (.builtin "set.add") [acc, v])
        again (.compLoop (two elt t0 i0 t1 i1 scope pos) 1 it acc env)) := by rfl
theorem loopS_out (hs : ∀ x, foldedSetIterable i1 env x = pure x) (I : Nat → Shared → Prop)
    (turn : ∀ n s, I n s → wpAny (model prog w) A (pyNext it) (fun r s₁ => match r with
      | none => R (.ok .next) s₁
      | some v => wpAny (model prog w) A (letOwnedTupleGo t0 it v) (fun _ s₁' => wpAny (model prog w) A (assign t0 env v) (fun _ s₂ =>
          wpAny (model prog w) A (eval i1 env) (fun x s₄ => wpAny (model prog w) A (pyIter x) (fun it1 s₅ =>
              codeAny (model prog w) A (.compStart (two elt t0 i0 t1 i1 scope pos) 1 it1 acc env) (fun r s' => match r with
                | .ok _ => ∃ m, m < n ∧ I m s'
                | .error _ => False) s₅) (fun _ _ => False) s₄) (fun _ _ => False) s₂) (fun _ _ => False) s₁') (fun _ _ => False) s₁) (fun _ _ => False) s)
    (n : Nat) (h : I n s) : codeAny (model prog w) A (.compLoop (two elt t0 i0 t1 i1 scope pos) 0 it acc env) R s := by
  refine codeAny_loop rfl I (fun n s hI => ?_) n h
  show wpAny _ A ((compTurn (two elt t0 i0 t1 i1 scope pos) 0 it acc env).onRaise (fun x => do noteFrame x env; theTreesLotGoes x)) _ _ s
  refine wpAny_noted ?_
  rw [turnS_out]
  refine wpAny_bind (wpAny_standAt (wpAny_bind (wpAny_mono (turn n s hI) (fun r s₁ h₁ => ?_) fun _ _ h' => h'.elim)))
  cases r with
  | none => exact wpAny_pure h₁
  | some v =>
    refine wpAny_bind (wpAny_mono h₁ (fun _ s₁' h₁' => ?_) fun _ _ h' => h'.elim)
    refine wpAny_bind (wpAny_mono h₁' (fun _ s₂ h₂ => ?_) fun _ _ h' => h'.elim)
    refine wpAny_bind (wpAny_mono h₂ (fun x s₄ h₄ => ?_) fun _ _ h' => h'.elim)
    refine wpAny_bind (wpAny_standAt (wpAny_bind (wpAny_of_eq (hs x) (wpAny_bind (wpAny_holding (wpAny_mono h₄ (fun it1 s₅ h₅ => ?_) fun _ _ h' => h'.elim))))))
    refine wpAny_bind (wpAny_runOwn ?_)
    rw [Around.mark_none]
    refine codeAny_mono h₅ fun r s' hr => ?_
    cases r with
    | ok f => exact wpAny_pure ⟨rfl, hr⟩
    | error e => exact hr.elim
theorem loopS_in (I : Nat → Shared → Prop)
    (turn : ∀ n s, I n s → wpAny (model prog w) A (pyNext it) (fun r s₁ => match r with
      | none => R (.ok .next) s₁
      | some v => wpAny (model prog w) A (letOwnedTupleGo t1 it v) (fun _ s₁' => wpAny (model prog w) A (assign t1 env v) (fun _ s₂ =>
          wpAny (model prog w) A (eval elt env) (fun x s₄ =>
              wpAny (model prog w) A (call (.builtin "set.add") [acc, x]) (fun _ s₅ => ∃ m, m < n ∧ I m s₅) (fun _ _ => False) s₄) (fun _ _ => False) s₂) (fun _ _ => False) s₁') (fun _ _ => False) s₁) (fun _ _ => False) s)
    (n : Nat) (h : I n s) : codeAny (model prog w) A (.compLoop (two elt t0 i0 t1 i1 scope pos) 1 it acc env) R s := by
  refine codeAny_loop rfl I (fun n s hI => ?_) n h
  show wpAny _ A ((compTurn (two elt t0 i0 t1 i1 scope pos) 1 it acc env).onRaise (fun x => do noteFrame x env; theTreesLotGoes x)) _ _ s
  refine wpAny_noted ?_
  rw [turnS_in]
  refine wpAny_bind (wpAny_standAt (wpAny_bind (wpAny_mono (turn n s hI) (fun r s₁ h₁ => ?_) fun _ _ h' => h'.elim)))
  cases r with
  | none => exact wpAny_pure h₁
  | some v =>
    refine wpAny_bind (wpAny_mono h₁ (fun _ s₁' h₁' => ?_) fun _ _ h' => h'.elim)
    refine wpAny_bind (wpAny_mono h₁' (fun _ s₂ h₂ => ?_) fun _ _ h' => h'.elim)
    exact wpAny_bind (wpAny_bind (wpAny_mono h₂ (fun x s₄ h₄ => wpAny_bind (wpAny_standAt (wpAny_bind (wpAny_mono h₄ (fun _ s₅ h₅ => wpAny_pure (wpAny_pure ⟨rfl, h₅⟩)) fun _ _ h' => h'.elim)))) fun _ _ h' => h'.elim))
theorem start1S (h0 : codeAny (model prog w) A (.compLoop (two elt t0 i0 t1 i1 scope pos) 1 it acc env) R s)
    (h : wpAny (model prog w) A (pyIter it) (fun it' s' => codeAny (model prog w) A (.compLoop (two elt t0 i0 t1 i1 scope pos) 1 it' acc env) R s')
      (notedBy (model prog w) A env fun x s' => R (.error x) s') s) :
    codeAny (model prog w) A (.compStart (two elt t0 i0 t1 i1 scope pos) 1 it acc env) R s := by
  refine codeAny_of_tree ?_
  show wpAny _ _ ((compStart (two elt t0 i0 t1 i1 scope pos) 1 it acc env).onRaise (fun x => do noteFrame x env; standAt theWindowsPlace)) _ _ s
  refine wpAny_notedAt ?_
  unfold compStart
  show wpAny _ _ (ask >>= _) _ _ s
  refine wpAny_bind (wpAny_askSetting (wpAny_ite ?_))
  split
  · first
      | exact wpAny_bind (wpAny_pure (wpAny_pure (And.intro rfl h0)))
      | exact wpAny_pure (And.intro rfl h0)
  · first
      | exact wpAny_bind (wpAny_rule (wpAny_bind (wpAny_standAt (wpAny_bind (wpAny_mono h (fun it' s' h' => wpAny_pure (And.intro rfl h')) fun _ _ x => x)))))
      | (refine wpAny_bind (wpAny_rule ?_); show wpAny _ _ (standAt i1.pos >>= _) _ _ s; exact wpAny_bind (wpAny_standAt (wpAny_bind (wpAny_mono h (fun it' s' h' => wpAny_pure (And.intro rfl h')) fun _ _ x => x))))
end

/-- the set at a, of the tuples L -/
def SetL (P : Program) (w : World) (h : Heap) (a : Addr) (L : List (List L2.Key × Addr)) : Prop := ∃ es ep t, SetN w h a es ep t ∧ es.toList.Perm (L.map fun p => (keyHash P w p.1, Value.ref p.2))
def setO (P : Program) (w : World) (a : Addr) (L : List (List L2.Key × Addr)) : HO := .ext fun h => SetL P w h a L
theorem SetN.at {w : World} {h h' : Heap} {a : Addr} {es : Array (Int × Value)} {ep : Nat} {t : SetTable} (R : SetN w h a es ep t) (k : ∀ o, h.get? a = some o → h'.get? a = some o) : SetN w h' a es ep t :=
  ⟨let ⟨o, ho, r⟩ := R.ob; ⟨o, k o ho, r⟩, R.tab, R.led, R.room, R.few⟩
theorem setO_ok {P : Program} {w : World} {H : Hp} {h : Heap} {a : Addr} {L : List (List L2.Key × Addr)} (R : SetL P w h a L) : ObjOk P w H h a (setO P w a L) := by
  refine ⟨R, ?_, fun h1 h2 ⟨es, ep, t, p, q⟩ k => ⟨es, ep, t, p.at k, q⟩⟩
  obtain ⟨es, ep, t, p, q⟩ := R
  obtain ⟨o, ho, _⟩ := p.ob
  exact ⟨o, ho⟩
theorem setN_fresh {w : World} {h : Heap} {a : Addr} (ho : h.get? a = some { cls := .type "set", dict := none, data := .set #[] 0 (.fresh 0 0 (!w.params.followText "set-order")) }) : SetN w h a #[] 0 (.fresh 0 0 (!w.params.followText "set-order")) where
  ob := ⟨_, ho, ⟨rfl, rfl, rfl⟩, rfl⟩
  tab := ⟨List.Pairwise.nil, rfl, rfl, .inl rfl, fun x hx => (by cases hx), fun i h j hi => (by simp at hi)⟩
  led := by
    show _ ∨ (!w.params.followText "set-order") = true
    cases w.params.followText "set-order"
    · exact .inr rfl
    · exact .inl rfl
  room := by
    show 0 * 5 < 7 * 3
    decide
  few := by
    show 0 < 64
    decide
section
variable {X : Cx}
theorem setO_get {pins : List (Addr × Obj)} {σ : L2.St} {H : Hp} {s : Shared} {a : Addr} {L : List (List L2.Key × Addr)} (I : L2.Inv X pins σ H s) (ha : H a = some (setO X.prog X.w a L)) : SetL X.prog X.w s.heap a L := (I.hok a _ ha).1
theorem setO_add {pins : List (Addr × Obj)} {σ : L2.St} {H : Hp} {s : Shared} {E : Value → Shared → Prop} {D b : Addr} {L : List (List L2.Key × Addr)} {k : List L2.Key} {Q : Value → Shared → Prop} (hu : X.A.units + 1 < cLine) (I : L2.Inv X pins σ H s) (hD : H D = some (setO X.prog X.w D L)) (kt : KeyT k)
    (hb : H b = some (.tup (k.map kV))) (hl : ∀ p ∈ L, p.1 ≠ k ∧ H p.2 = some (.tup (p.1.map kV))) (few : L.length + 1 < 64)
    (h : ∀ s', L2.Inv X pins (σ) (upd H D (setO X.prog X.w D ((k, b) :: L))) s' → Q .none s') : wpAny (model X.prog X.w) X.A (call (.builtin "set.add") [.ref D, .ref b]) Q E s := by
  obtain ⟨es, ep, t, R, pm⟩ := setO_get I hD
  have hsz : es.size = L.length := by
    have := pm.length_eq
    rw [Array.length_toList, List.length_map] at this
    exact this
  refine call_add_new (P := X.prog) R kt (key_of I.hok hb) (fun e he => ?_) hu (by omega) fun h' es' ep' t' tk sb R' pm' => h _ ?_
  · obtain ⟨p, hp, rfl⟩ := List.mem_map.mp (pm.mem_iff.mp he)
    obtain ⟨ne, hp2⟩ := hl p hp
    exact ⟨p.1, p.2, rfl, key_of I.hok hp2, ne⟩
  · obtain ⟨o, ho, _⟩ := R'.ob
    exact I.write (e := D) (t' := tk) (by rw [hD]; trivial) (.inl rfl) (fun b u hb hu => (sb.2 b hb).trans hu) ⟨o, ho⟩ (setO_ok ⟨es', ep', t', R', pm'.trans (pm.cons _)⟩)

/-- the reading -/
def tSet2 (P : Program) (w : World) (wi : TI) (g : TG) (wi1 : TI) (g1 : TG) (te : TE) (vs vs1 : List Nat) : TE := fun σ H Q => wi σ H fun J H1 => ∀ D, H1 D = none → ∃ W : Nat → Nat → Hp → Prop, (∃ m, W 0 m (upd H1 D (setO P w D []))) ∧ ∀ i m H, W i m H →
  (J.stop i H ∧ Q (.ref D) H) ∨ (J.go i H ∧ ∃ Nx : Hp → Prop, (∀ H', Nx H' → ∃ m', m' < m ∧ W (i + 1) m' H') ∧ ∀ x H', J.yld i H x H' → g x (wipe σ vs) H' fun σ2 H2 => wipe σ2 vs = wipe σ vs ∧
    wi1 σ2 H2 fun J1 H4 => ∃ W1 : Nat → Nat → Hp → Prop, (∃ m, W1 0 m H4) ∧ ∀ j k H, W1 j k H →
      (J1.stop j H ∧ Nx H) ∨ (J1.go j H ∧ ∃ Nx1 : Hp → Prop, (∀ H', Nx1 H' → ∃ k', k' < k ∧ W1 (j + 1) k' H') ∧ ∀ x H', J1.yld j H x H' → g1 x (wipe σ2 vs1) H' fun σ3 H5 => wipe σ3 vs1 = wipe σ2 vs1 ∧
        te σ3 H5 fun y H7 => ∃ L k b, y = .ref b ∧ H7 b = some (.tup (k.map kV)) ∧ KeyT k ∧ H7 D = some (setO P w D L) ∧ (∀ p ∈ L, p.1 ≠ k ∧ H7 p.2 = some (.tup (p.1.map kV))) ∧ L.length + 1 < 64 ∧ Nx1 (upd H7 D (setO P w D ((k, b) :: L)))))
theorem pe_set2 {elt tg iter tg1 iter1 : Expr} {scope : Scope} {own : List (Str × Nat)} {vs1 : List Nat} {pos : Pos} {wi wi1 : TI} {g g1 : TG} {te : TE} (hu : X.A.units + 1 < cLine) (hc : X.calm = true) (hN : X.N.Nodup) (hi : PI X tg iter wi) (ok : BlkOk X.N X.env.scope scope own) (hv : ∀ i ∈ vs1, i ∈ own.map (·.2))
    (hg : ∀ (s : Shared) (H : Hp) (C : Addr) (cl : List (Str × Addr)) (fp : List Addr), PG (X.blk s H scope (compEnvC scope cl C X.env) fp) tg g)
    (hi1 : ∀ (s : Shared) (H : Hp) (C : Addr) (cl : List (Str × Addr)) (fp : List Addr), PI (X.blk s H scope (compEnvC scope cl C X.env) fp) tg1 iter1 wi1)
    (hg1 : ∀ (s : Shared) (H : Hp) (C : Addr) (cl : List (Str × Addr)) (fp : List Addr), PG (X.blk s H scope (compEnvC scope cl C X.env) fp) tg1 g1)
    (he : ∀ (s : Shared) (H : Hp) (C : Addr) (cl : List (Str × Addr)) (fp : List Addr), PE (X.blk s H scope (compEnvC scope cl C X.env) fp) elt te) (hs : ∀ x, foldedSetIterable iter X.env x = pure x := by intro _; rfl) (hs1 : ∀ env x, foldedSetIterable iter1 env x = pure x := by intro _ _; rfl) :
    PE X (two elt tg iter tg1 iter1 scope pos) (tSet2 X.prog X.w wi g wi1 g1 te (own.map (·.2)) vs1) := by
  refine ⟨fun pins s σ H Q I h => ?_⟩
  show wpAny (model X.prog X.w) X.A (comprehension (two elt tg iter tg1 iter1 scope pos) scope X.env (firstIterPos [⟨tg, iter, [], 0⟩, ⟨tg1, iter1, [], 0⟩] pos) (newSet (.type "set")) false (eval iter X.env)) _ _ s
  refine box_core (cx := two elt tg iter tg1 iter1 scope pos) (ob := { cls := .type "set", dict := none, data := .set #[] 0 (.fresh 0 0 (!X.w.params.followText "set-order")) }) (o0 := fun a => setO X.prog X.w a []) rfl hc hN I hi ok hs (fun s Qm q => PpSet.newSet_ok q) rfl
    (fun h H hb => setO_ok ⟨#[], 0, _, setN_fresh (Heap.get?_push_size _ rfl), List.Perm.refl _⟩) (fun it acc env R s a b => PpSet.codeAny_compStart_set a b) h ?_
  intro J H1 hJ D hD
  obtain ⟨W, ⟨m0, w0⟩, turn⟩ := hJ D hD
  refine ⟨fun H' => Q (.ref D) H', fun _ z => z, fun s3 C cl fp it tn s4 B T st4 I4 R hR => ?_⟩
  dsimp only at B I4 hR ⊢
  have pg := hg s3 (upd H1 D (setO X.prog X.w D [])) C cl fp
  have pi1 := hi1 s3 (upd H1 D (setO X.prog X.w D [])) C cl fp
  have pg1 := hg1 s3 (upd H1 D (setO X.prog X.w D [])) C cl fp
  have pe := he s3 (upd H1 D (setO X.prog X.w D [])) C cl fp
  generalize hY : X.blk s3 (upd H1 D (setO X.prog X.w D [])) scope (compEnvC scope cl C X.env) fp = Y at B I4 hR pg pi1 pg1 pe
  have hYe : Y.env = compEnvC scope cl C X.env := by rw [← hY]
  have hYp : Y.prog = X.prog := B.prog
  have hYw : Y.w = X.w := B.w
  have hYA : Y.A = X.A := B.A
  have hYK : Y.K = X.K := B.K
  have hYc : Y.calm = true := B.calm.trans hc
  have hYx : Y.xe = fun _ _ => False := B.xe
  have hYu : Y.A.units + 1 < cLine := by rw [hYA]; exact hu
  rw [← hYe, ← hYp, ← hYw, ← hYA]
  refine loopS_out (hs1 Y.env) (fun n s' => ∃ i H', L2.Inv Y [] (wipe σ (own.map (·.2))) H' s' ∧ tn i s'.heap ∧ (∀ b ∈ fp, H' b = none) ∧ W i n H') ?_ m0 ⟨0, _, I4, st4, B.nofp, w0⟩
  rintro n s5 ⟨i, H5, I5, st5, n5, w5⟩
  rcases turn i n H5 w5 with ⟨stop, qq⟩ | ⟨go, Nx, hNx, step⟩
  · have td := T.done Y hYp hYw hYK hYc i [] s5 _ H5 (fun _ _ => False) I5 (B.stat I5 n5) st5 stop
    rw [← hYp, ← hYw] at td
    refine thnF td fun r s6 ⟨hr, I6⟩ => ?_
    subst hr
    exact hR H5 s6 I6 qq
  · have ti := T.item Y hYp hYw hYK hYc i [] s5 _ H5 (fun _ _ => False) I5 (B.stat I5 n5) st5 go
    rw [← hYp, ← hYw] at ti
    refine thnF ti fun r s6 ⟨u, hr, h6⟩ => ?_
    subst hr
    refine thnF h6 fun _ s7 ⟨x, H7, I7, r7, y7, st7, n7⟩ => ?_
    have I7' := I7.pinned (B.stat I7 n7) (T.obj _ _ st7)
    have pgr := pg.run _ s7 _ H7 x u _ I7' r7 (step x H7 y7)
    rw [hYx] at pgr
    refine thnF pgr fun _ s8 ⟨σ8, H8, I8, hw8, q8⟩ => ?_
    have pir := pi1.run _ s8 σ8 H8 _ I8 q8
    rw [hYx] at pir
    refine thnF pir fun xv s10 hx => thnF hx fun itv s11 h11 => ?_
    obtain ⟨it1, fp1, tn1, J1, H11, e1, I11, T1, st11, f11, W1, ⟨m1, w1⟩, turn1⟩ := h11
    subst e1
    have hl8 : (wipe σ (own.map (·.2))).length = σ8.length := by rw [← hw8, wipe_length]
    have hk9 : ∀ (j : Nat) v, (wipe σ (own.map (·.2)))[j]? = some (some v) → (wipe σ8 vs1)[j]? = some (some v) := fun j v e => by
      rw [← hw8] at e
      obtain ⟨e1, e2⟩ := wipe_some e
      rw [wipe_out fun z => e2 (hv j z)]
      exact e1
    have fin : ∀ {σ9 : L2.St} {s' : Shared} {H' : Hp}, L2.Inv Y ([] ++ pinsAt fp s7.heap) σ9 H' s' → (wipe σ (own.map (·.2))).length = σ9.length → (∀ (j : Nat) v, (wipe σ (own.map (·.2)))[j]? = some (some v) → σ9[j]? = some (some v)) → Nx H' →
        ∃ m, m < n ∧ ∃ i H', L2.Inv Y [] (wipe σ (own.map (·.2))) H' s' ∧ tn i s'.heap ∧ (∀ b ∈ fp, H' b = none) ∧ W i m H' := fun {σ9 s' H'} I' hl hk nx => by
      obtain ⟨m', hm, w'⟩ := hNx H' nx
      have pin' : ∀ b ∈ fp, ∀ o, s7.heap.get? b = some o → s'.heap.get? b = some o ∧ H' b = none := fun b hb o e =>
        let z := I'.pin (b, o) (List.mem_append_right _ (List.mem_append_right _ (mem_pinsAt hb e)))
        ⟨z.1, z.2.1⟩
      refine ⟨m', hm, i + 1, H', (I'.unpinned (pins := [])).weak hl hk, T.keep _ _ _ st7 fun b hb o e => (pin' b hb o e).1, fun b hb => ?_, w'⟩
      obtain ⟨o, e, _⟩ := T.obj _ _ st7 b hb
      exact (pin' b hb o e).2
    have stat1 : ∀ {H' : Hp}, (∀ b ∈ fp1, H' b = none) → ∀ b ∈ fp1, FpOk Y ([] ++ pinsAt fp s7.heap) H' b := fun hn b hb => ⟨hn b hb, (f11 b hb).2⟩
    have loop1 : codeAny (model Y.prog Y.w) Y.A (.compLoop (two elt tg iter tg1 iter1 scope pos) 1 (.ref it1) (.ref D) Y.env)
        (fun r s' => match r with
          | .ok _ => ∃ m, m < n ∧ ∃ i H', L2.Inv Y [] (wipe σ (own.map (·.2))) H' s' ∧ tn i s'.heap ∧ (∀ b ∈ fp, H' b = none) ∧ W i m H'
          | .error _ => False) s11 := by
      refine loopS_in (fun k s' => ∃ j H', L2.Inv Y ([] ++ pinsAt fp s7.heap) (wipe σ8 vs1) H' s' ∧ tn1 j s'.heap ∧ (∀ b ∈ fp1, H' b = none) ∧ W1 j k H') ?_ m1 ⟨0, H11, I11.weak (wipe_length _ _) (fun j v e => (wipe_some e).1), st11, fun b hb => (f11 b hb).1, w1⟩
      rintro k s12 ⟨j, H12, I12, st12, n12, w12⟩
      rcases turn1 j k H12 w12 with ⟨stop1, nx1⟩ | ⟨go1, Nx1, hNx1, step1⟩
      · refine thnF (T1.done Y rfl rfl rfl hYc j _ s12 (wipe σ8 vs1) H12 (fun _ _ => False) I12 (stat1 n12) st12 stop1) fun r s13 ⟨hr, I13⟩ => ?_
        subst hr
        exact fin I13 (hl8.trans (wipe_length σ8 vs1).symm) hk9 nx1
      · refine thnF (T1.item Y rfl rfl rfl hYc j _ s12 (wipe σ8 vs1) H12 (fun _ _ => False) I12 (stat1 n12) st12 go1) fun r s13 ⟨u1, hr, h13⟩ => ?_
        subst hr
        refine thnF h13 fun _ s14 ⟨x1, H14, I14, r14, y14, st14, n14⟩ => ?_
        have I14' := I14.pinned (stat1 n14) (T1.obj _ _ st14)
        have pgr1 := pg1.run _ s14 (wipe σ8 vs1) H14 x1 u1 _ I14' r14 (step1 x1 H14 y14)
        rw [hYx] at pgr1
        refine thnF pgr1 fun _ s15 ⟨σ15, H15, I15, hw15, q15⟩ => ?_
        have per := pe.run _ s15 σ15 H15 _ I15 q15
        rw [hYx] at per
        refine thnF per fun z s17 ⟨yv, H17, I17, r17, L, kk, b, ey, hb, kt, hD17, hl17, few, nx⟩ => ?_
        subst ey
        obtain rfl : z = .ref b := r17
        rw [← hYp, ← hYw] at hD17
        refine setO_add hYu I17 hD17 kt hb hl17 few fun s18 I18 => ?_
        rw [hYp, hYw] at I18
        obtain ⟨m', hm, w'⟩ := hNx1 _ nx
        have pin' : ∀ b ∈ fp1, ∀ o, s14.heap.get? b = some o → s18.heap.get? b = some o ∧ _ := fun b hb o e =>
          let z := I18.pin (b, o) (List.mem_append_right _ (List.mem_append_right _ (mem_pinsAt hb e)))
          ⟨z.1, z.2.1⟩
        refine ⟨m', hm, j + 1, _, I18.unpinned.weak (by rw [← hw15, wipe_length]) (fun j v e => by rw [← hw15] at e; exact (wipe_some e).1), T1.keep _ _ _ st14 fun b hb o e => (pin' b hb o e).1, fun b hb => ?_, w'⟩
        obtain ⟨o, e, _⟩ := T1.obj _ _ st14 b hb
        exact (pin' b hb o e).2
    exact start1S loop1 (T1.self Y.A 0 _ _ _ st11 loop1)
end
end Lw
set_option maxHeartbeats 4000000
namespace Lw
open PySem PySem.Spec PyProof.Rows L2
section
variable {X : Cx}
def rLenS (P : Program) (w : World) : List V → Hp → VK → Prop := fun xs H Q => ∃ D L, xs = [.ref D] ∧ H D = some (setO P w D L) ∧ L.length < 64 ∧ Q (.int (L.length : Nat)) H
theorem cr_lenS : CallR X (.builtin "len") (rLenS X.prog X.w) := by
  intro pins s σ H xs us Q I r h
  obtain ⟨D, L, rfl, hD, few, q⟩ := h
  rw [Vals.ref1 r]
  obtain ⟨es, ep, t, R, pm⟩ := setO_get I hD
  have hsz : es.size = L.length := by
    have := pm.length_eq
    rw [Array.length_toList, List.length_map] at this
    exact this
  obtain ⟨o, ho, hex, hd⟩ := R.ob
  exact call_len_set ho hex hd R.fits (by rw [hsz]; omega) ⟨.int (L.length : Nat), H, I.tok _, ⟨_, by rw [hsz]⟩, q⟩
theorem flat_cut {α : Type} : ∀ (rows : List (List α)) (i : Nat) (row : List α), rows[i]? = some row → rows.flatten = (rows.take i).flatten ++ row ++ (rows.drop (i + 1)).flatten
  | [], i, row, h => by cases h
  | r :: rows, 0, row, h => by
    cases h
    simp
  | r :: rows, i + 1, row, h => by
    have h' : rows[i]? = some row := h
    simp only [List.flatten_cons, List.take_succ_cons, List.drop_succ_cons, List.append_assoc]
    rw [flat_cut rows i row h']
    simp
def eLenSet (i j : Nat) (te : TE3) : TE3 := fun τ G Q => i < τ.length ∧ j < τ.length ∧ te τ G fun x G1 => ∃ rows : List (List Hd), x = .tup (rows.map fun r => .tup (r.map hD)) ∧ rows.flatten.Nodup ∧ rows.flatten.length < 63 ∧ Q (.int (rows.flatten.length : Nat)) G1
theorem wip_len (τ : St3) : ∀ vs : List Nat, (wip τ vs).length = τ.length
  | [] => rfl
  | v :: vs => by
    show ((wip τ vs).set v none).length = _
    rw [List.length_set, wip_len τ vs]
theorem lenset_lift {K : PySem.W.Frag} {P : Program} {w : World} {te : TE3} {i j : Nat} (σ : L2.St) (H : Hp) (Q : VK) (hij : i ≠ j) {vs : List Nat} (hi : i ∈ vs) (hj : j ∈ vs) (h : lift K (eLenSet i j te) σ H Q) :
    tSet2 P w (iTup K (lift K te)) (liftG K [i] (gN i)) (iTup K (lift K (eV i))) (liftG K [j] (gN j)) (lift K (eV j)) vs [j] σ H (fun x H1 => rLenS P w [x] H1 Q) := by
  obtain ⟨τ, G, Q3, s, r, ⟨li, lj, h⟩, k⟩ := h
  refine lift_run s r h fun v H1 d G1 g1 r1 s1 z1 q1 => ?_
  obtain ⟨rows, rfl, nd, few, q1⟩ := q1
  obtain ⟨a, xs, rfl, ht, zs⟩ := z1
  have hlx := zs.length
  rw [List.length_map] at hlx
  refine ⟨a, rfl, ⟨xs, ht.sq⟩, fun D hDn => ?_⟩
  have gD : G1 D = none := r1.gnone hDn
  refine ⟨fun n m H' => n + m = rows.length ∧ ∃ L, Go H1 G1 H' G1 ∧ R0 K H' G1 ∧ H' D = some (setO P w D L) ∧ L.map (·.1) = (rows.take n).flatten.reverse.map hk ∧ ∀ p ∈ L, H' p.2 = some (.tup (p.1.map kV)),
    ⟨rows.length, Nat.zero_add _, [], go_new hDn, r0_new r1 hDn, upd_same, rfl, fun p hp => nomatch hp⟩, ?_⟩
  rintro n m H' ⟨hnm, L, g', r', hL, kL, tL⟩
  have ht2 := (ht.mono (g'.tk r1)).sq
  have zs2 := Dzs.mono (g'.tk r1) _ _ zs
  by_cases hlt : n < rows.length
  · have hrow : rows[n]? = some rows[n] := List.getElem?_eq_getElem hlt
    generalize rows[n] = row at hrow
    have cut := flat_cut rows n row hrow
    refine .inr ⟨walk_tup.goes n H' (by omega) ht2, fun H2 => ∃ L, Go H1 G1 H2 G1 ∧ R0 K H2 G1 ∧ H2 D = some (setO P w D L) ∧ L.map (·.1) = (rows.take (n + 1)).flatten.reverse.map hk ∧ ∀ p ∈ L, H2 p.2 = some (.tup (p.1.map kV)),
      fun H2 hx => ⟨m - 1, by omega, by omega, hx⟩, fun x H3 y => ?_⟩
    obtain ⟨rfl, hx⟩ := walk_tup.yields n H' x H3 (by omega) ht2 y
    obtain ⟨dr, hdr, zr⟩ := zs2.back hx
    rw [List.getElem?_map, hrow] at hdr
    obtain rfl : Da.tup (row.map hD) = dr := Option.some.inj hdr
    refine ⟨.tup (row.map hD), wip τ vs, G1, fun τ' G' => τ' = (wip τ vs).set i (some (.tup (row.map hD))) ∧ G' = G1, zr, (s1.mono (g'.tk r1)).wipe vs, r', ⟨rfl, rfl⟩, fun σ4 H4 τ4 G4 g4 s4 r4 w4 q4 => ⟨(w4 vs (fun y hy => by rw [List.mem_singleton.mp hy]; exact hi)).trans (wipe_idem σ vs), ?_⟩⟩
    obtain ⟨rfl, rfl⟩ := q4
    have h14 := g'.trans g4
    refine lift_run s4 r4 (t := eV i) (Q3 := fun d G' => d = .tup (row.map hD) ∧ G' = G4) ⟨.tup (row.map hD), by rw [List.getElem?_set_self (by rw [wip_len]; exact li)], rfl, rfl⟩ fun v5 H5 d5 G5 g5 r5 s5 z5 q5 => ?_
    obtain ⟨rfl, rfl⟩ := q5
    obtain ⟨b, ys, rfl, hb, zy⟩ := z5
    have hly := zy.length
    rw [List.length_map] at hly
    have h15 := h14.trans g5
    refine ⟨b, rfl, ⟨ys, hb.sq⟩, ?_⟩
    refine ⟨fun c e H6 => c + e = row.length ∧ ∃ L, Go H1 G5 H6 G5 ∧ Tk H5 H6 ∧ R0 K H6 G5 ∧ H6 D = some (setO P w D L) ∧ L.map (·.1) = ((rows.take n).flatten ++ row.take c).reverse.map hk ∧ ∀ p ∈ L, H6 p.2 = some (.tup (p.1.map kV)),
      ⟨row.length, Nat.zero_add _, L, h15, Tk.refl _, r5, (( g4.trans g5).hid D _ hL gD).1, by rw [List.take_zero, List.append_nil]; exact kL, fun p hp => (g4.trans g5).tk r' _ _ trivial (tL p hp)⟩, ?_⟩
    rintro c e H6 ⟨hce, L6, g6, g56, r6, hL6, kL6, tL6⟩
    have hb6 := (hb.mono (g56)).sq
    have zy6 := Dzs.mono (g56) _ _ zy
    by_cases hc : c < row.length
    · have hh : row[c]? = some row[c] := List.getElem?_eq_getElem hc
      generalize row[c] = hd at hh
      have htk : row.take (c + 1) = row.take c ++ [hd] := by rw [List.take_add_one, hh]; rfl
      refine .inr ⟨walk_tup.goes c H6 (by omega) hb6, fun H2 => ∃ L, Go H1 G5 H2 G5 ∧ Tk H5 H2 ∧ R0 K H2 G5 ∧ H2 D = some (setO P w D L) ∧ L.map (·.1) = ((rows.take n).flatten ++ row.take (c + 1)).reverse.map hk ∧ ∀ p ∈ L, H2 p.2 = some (.tup (p.1.map kV)),
        fun H2 hx => ⟨e - 1, by omega, by omega, hx⟩, fun x6 H7 y6 => ?_⟩
      obtain ⟨rfl, hx6⟩ := walk_tup.yields c H6 x6 H7 (by omega) hb6 y6
      obtain ⟨d6, hd6, z6⟩ := zy6.back hx6
      rw [List.getElem?_map, hh] at hd6
      obtain rfl : hD hd = d6 := Option.some.inj hd6
      have s6 := (s5.mono (g56)).wipe [j]
      refine ⟨hD hd, _, G5, fun τ' G' => τ' = (wip ((wip τ vs).set i (some (.tup (row.map hD)))) [j]).set j (some (hD hd)) ∧ G' = G5, z6, s6, r6, ⟨rfl, rfl⟩, fun σ8 H8 τ8 G8 g8 s8 r8 w8 q8 => ⟨(w8 [j] (fun y hy => hy)).trans (wipe_idem σ4 [j]), ?_⟩⟩
      obtain ⟨rfl, rfl⟩ := q8
      refine lift_run s8 r8 (t := eV j) (Q3 := fun d G' => d = hD hd ∧ G' = G8) ⟨hD hd, by rw [List.getElem?_set_self (by rw [wip_len, List.length_set, wip_len]; exact lj)], rfl, rfl⟩ fun v9 H9 d9 G9 g9 r9 s9 z9 q9 => ?_
      obtain ⟨rfl, rfl⟩ := q9
      obtain ⟨bb, rfl, hbb⟩ := hd_z z9
      have h69 := g8.trans g9
      have hL9 := (h69.hid D _ hL6 gD).1
      have tL9 : ∀ p ∈ L6, H9 p.2 = some (.tup (p.1.map kV)) := fun p hp => h69.tk r6 _ _ trivial (tL6 p hp)
      have llen : L6.length = ((rows.take n).flatten ++ row.take c).length := by
        have := congrArg List.length kL6
        rw [List.length_map, List.length_map, List.length_reverse] at this
        exact this
      have pre : (rows.take n).flatten ++ row.take c ++ [hd] <+: rows.flatten := by
        rw [cut, List.append_assoc, ← htk, List.append_assoc]
        refine List.prefix_append_right_inj _ |>.mpr ?_
        exact (List.take_prefix _ _).trans (List.prefix_append _ _)
      have plen := pre.length_le
      rw [List.length_append, List.length_singleton] at plen
      have tk9 : Tk H9 (upd H9 D (setO P w D ((hk hd, bb) :: L6))) := fun c' u f e => by
        have : c' ≠ D := fun z => by
          subst z
          rw [hL9] at e; cases e; exact f
        rw [upd_ne this]; exact e
      refine ⟨L6, hk hd, bb, rfl, hbb, hk_t hd, hL9, fun p hp => ⟨fun e => ?_, tL9 p hp⟩, by omega, (hk hd, bb) :: L6, ?_, ?_, ?_, upd_same, ?_, fun p hp => ?_⟩
      · have hm : hk hd ∈ L6.map (·.1) := List.mem_map.mpr ⟨p, hp, e⟩
        rw [kL6] at hm
        obtain ⟨h', hm', e'⟩ := List.mem_map.mp hm
        obtain rfl := hk_inj e'
        have nd2 := pre.sublist.nodup nd
        rw [List.nodup_append] at nd2
        exact nd2.2.2 _ (List.mem_reverse.mp hm') _ (List.mem_singleton.mpr rfl) rfl
      · refine ⟨fun q o e gq => ?_, fun q e => ?_⟩
        · have hq : q ≠ D := fun z => by
            subst z
            rw [hDn] at e; cases e
          rw [upd_ne hq]
          exact (g6.trans h69).hid q o e gq
        · unfold upd
          split
          · exact fun z => nomatch z
          · exact (g6.trans h69).dom q e
      · exact (g56.trans (h69.tk r6)).trans tk9
      · intro c' u e
        have : c' ≠ D := fun z => by
          subst z
          rw [gD] at e; cases e
        exact (r9 c' u e).ex (fun v0 e => by rw [upd_ne this]; exact e) tk9
      · rw [htk, List.map_cons, kL6, ← List.append_assoc]
        simp
      · rcases List.mem_cons.mp hp with rfl | hp
        · exact tk9 _ _ trivial hbb
        · exact tk9 _ _ trivial (tL9 p hp)
    · have e0 : c = row.length := by omega
      subst e0
      refine .inl ⟨⟨ys, hb6, by omega⟩, L6, g6, r6, hL6, ?_, tL6⟩
      rw [kL6, List.take_length, List.take_add_one, hrow]
      simp
  · have e0 : n = rows.length := by omega
    subst e0
    refine .inl ⟨⟨xs, ht2, by omega⟩, D, L, rfl, hL, ?_, ?_⟩
    · have := congrArg List.length kL
      rw [List.take_length, List.length_map, List.length_map, List.length_reverse] at this
      omega
    · have e1 : L.length = rows.flatten.length := by
        have := congrArg List.length kL
        rw [List.take_length, List.length_map, List.length_map, List.length_reverse] at this
        exact this
      rw [e1]
      exact k _ H' (.int _) G1 (g1.trans g') r' rfl q1
theorem e_lenSet {scope : Scope} {i j : Nat} {row h1 h2 row2 : Str} {p pos spos p1 p2 p3 p4 : Pos} {own : List (Str × Nat)} {iter : Expr} {te : TE3} (hu : X.A.units + 1 < cLine) (hc : X.calm = true) (hN : X.N.Nodup) (hm : X.mg "len" = none) (ok : BlkOk X.N X.env.scope scope own) (he : PE3 X iter te)
    (hg : ∀ (s : Shared) (H : Hp) (C : Addr) (cl : List (Str × Addr)) (fp : List Addr), PG3 (X.blk s H scope (compEnvC scope cl C X.env) fp) (.Name row p1) [i] (gN i))
    (hi1 : ∀ (s : Shared) (H : Hp) (C : Addr) (cl : List (Str × Addr)) (fp : List Addr), PE3 (X.blk s H scope (compEnvC scope cl C X.env) fp) (.Name row2 p2) (eV i))
    (hg1 : ∀ (s : Shared) (H : Hp) (C : Addr) (cl : List (Str × Addr)) (fp : List Addr), PG3 (X.blk s H scope (compEnvC scope cl C X.env) fp) (.Name h1 p3) [j] (gN j))
    (hel : ∀ (s : Shared) (H : Hp) (C : Addr) (cl : List (Str × Addr)) (fp : List Addr), PE3 (X.blk s H scope (compEnvC scope cl C X.env) fp) (.Name h2 p4) (eV j))
    (hij : i ≠ j := by decide) (hvi : i ∈ own.map (·.2) := by decide) (hvj : j ∈ own.map (·.2) := by decide) (hgl : Gl X "len" := by rfl) (hs : ∀ x, foldedSetIterable iter X.env x = pure x := by intro _; rfl)
    (hst : starEach (two (.Name h2 p4) (.Name row p1) iter (.Name h1 p3) (.Name row2 p2) scope spos :: []) X.env = (false, eval (two (.Name h2 p4) (.Name row p1) iter (.Name h1 p3) (.Name row2 p2) scope spos) X.env) :: starEach [] X.env := by rfl) :
    PE3 X (.Call (.Name "len" p) [two (.Name h2 p4) (.Name row p1) iter (.Name h1 p3) (.Name row2 p2) scope spos] [] pos) (eLenSet i j te) :=
  pe_imp (pe_callB cr_lenS hgl hm boot_len (pa_cons (pe_set2 (vs1 := [j]) hu hc hN (pi_tup he) ok (fun y hy => by rw [List.mem_singleton.mp hy]; exact hvj) hg (fun s H C cl fp => pi_tup (hi1 s H C cl fp)) hg1 hel hs) pa_nil hst) (by decide) (by decide) hst) fun σ H Q h =>
    lenset_lift σ H Q hij hvi hvj h
end
end Lw
set_option maxHeartbeats 2000000
/-! a great power; a module's dict of texts; tuple(range(n)); keyword-only parameters -/
namespace Lw
open PySem PySem.Spec PyProof.Rows L2
section
variable {X : Cx} {a b : Expr} {ta tb : TE3} {pos p p2 pos2 : Pos}
def CPowL (i j : Int) : Prop := 0 ≤ j ∧ (Builtin.Int.intBits i : Int) * j ≤ 2 ^ 27
theorem op_powL : OpR X (binaryOp .Pow) (rI CPowL fun i j => .int (i ^ j.toNat)) := opI fun _ _ _ _ _ _ _ hc q => pow_int hc.1 hc.2 q
theorem e_powL (ha : PE3 X a ta) (hb : PE3 X b tb) : PE3 X (.BinOp a .Pow b pos) (eOp (oI CPowL fun i j => i ^ j.toNat) ta tb) := e_op op_powL i_I ha hb

/-- a dict of the module with text keys that never changes -/
def oNotKD (d : Addr) (f : Str → Option Int) : O3 := fun x y G Q => ∃ z, x = .str z ∧ y = .obj d ∧ (f z).isSome = true ∧ Q (.bl false) G
theorem t_notKD {d : Addr} {es : Array DictEntry} {n : Nat} {f : Str → Option Int} (D : KDict X.K X.w d es n) (hf : ∀ z i, f z = some i → ∃ t, PySem.W.nsIn X.K d z = some (some (.int i t))) (ha : PE3 X a ta) (hb : PE3 X b tb) (hm : behindInMarks .NotIn b = false := by first | exact nomark _ | rfl) :
    PT3 X (.Compare a [.NotIn] [b] pos) (tB3 (eOp (oNotKD d f) ta tb)) := t_cmp (op_notIn_kd D) (fun H G dx dy x y Q3 Q r zx zy h k => by
  obtain ⟨z, rfl, rfl, hs, q⟩ := h
  obtain ⟨i, e⟩ := Option.isSome_iff_exists.mp hs
  obtain ⟨t, ht⟩ := hf z i e
  exact ⟨z, _, zx, zy, ht, k.here (d := .bl false) r rfl q⟩) ha hb hm
def oIxKD (d : Addr) (f : Str → Option Int) : O3 := fun x y G Q => ∃ z i, x = .obj d ∧ y = .str z ∧ f z = some i ∧ Q (.int i) G
theorem e_ixKD {d : Addr} {es : Array DictEntry} {n : Nat} {f : Str → Option Int} (D : KDict X.K X.w d es n) (hf : ∀ z i, f z = some i → ∃ t, PySem.W.nsIn X.K d z = some (some (.int i t))) (ha : PE3 X a ta) (hb : PE3 X b tb) (hs : PlainIx b := by exact fun _ _ => rfl) :
    PE3 X (.Subscript a b pos) (eOp (oIxKD d f) ta tb) := pe_imp (pe_ix ix_kdict ha hb hs) (op_lift fun H G dx dy x y Q3 Q r zx zy h k => by
  obtain ⟨z, i, rfl, rfl, e, q⟩ := h
  obtain ⟨t, ht⟩ := hf z i e
  exact ⟨d, z, .int i, zx, zy, ⟨es, n, _, D.at_, D.lit, ht, ⟨t, rfl⟩⟩, k.here (d := .int i) r rfl q⟩)
/-- tuple(range(n)) -/
def eTupR (ta : TE3) : TE3 := fun τ G Q => ta τ G fun x G1 => ∃ n : Nat, x = .int n ∧ n < 10000 ∧ Q (.tup (intsD n)) G1
theorem e_tupR (hc : X.calm = true) (hm : X.mg "tuple" = none) (hm2 : X.mg "range" = none) (ha : PE3 X a ta) (hg : Gl X "tuple" := by rfl) (hg2 : Gl X "range" := by rfl) (na : starEach [a] X.env = (false, eval a X.env) :: starEach [] X.env := by rfl)
    (na2 : starEach [.Call (.Name "range" p2) [a] [] pos2] X.env = (false, eval (.Call (.Name "range" p2) [a] [] pos2) X.env) :: starEach [] X.env := by rfl) : PE3 X (.Call (.Name "tuple" p) [.Call (.Name "range" p2) [a] [] pos2] [] pos) (eTupR ta) := pe_imp (pe_tupRg hc hg hm (prg_1 hg2 hm2 ha na) na2) fun σ H Q h => by
  obtain ⟨τ, G, Q3, s, r, h, k⟩ := h
  unfold tTupRg tRg1
  refine lift_run s r h fun v H1 d G1 g1 r1 s1 z1 q1 => ?_
  obtain ⟨n, rfl, hn, q1⟩ := q1
  refine ⟨n, z1, ⟨by omega, by omega, by omega, by omega, by omega⟩, fun q hq => ?_⟩
  have e : rgV 0 n = (List.range n).map fun i => V.int (i : Nat) := by
    unfold rgV
    have e1 : ((n : Int) - 0).toNat = n := by omega
    rw [e1]
    refine List.map_congr_left fun i _ => ?_
    rw [Int.zero_add]
  rw [e]
  have zz : ∀ l : List Nat, Dzs X.K (upd H1 q (.tup ((List.range n).map fun i => V.int (i : Nat)))) (l.map fun i => .int (i : Nat)) (l.map fun i => V.int (i : Nat)) := by
    intro l
    induction l with
    | nil => rfl
    | cons i l ih => exact ⟨_, _, rfl, rfl, ih⟩
  exact k (.ref q) _ (.tup (intsD n)) G1 (g1.trans (go_new hq)) (r0_new r1 hq) ⟨q, _, rfl, .inl upd_same, zz _⟩ q1
end

/-! keyword-only parameters -/
section
variable {K : PySem.W.Frag} {x qual : Str} {params : Arguments} {body : List Stmt} {scope : Scope} {kws : List (Str × V)} {f : Addr} {fd : FuncData} {ps : List Str}
theorem kbinds0 (F : FunD K x qual params body scope [] kws f fd) (n : Nat) (ks : List Str) (ms : List (Str × V)) (g : {α : Type} → List α → List α → List α → List α) (hk : kws ≠ []) (hms : ∀ q ∈ ms, q ∈ kws)
    (hrel : ∀ {vs mz zs : List V} {us mv ws : List Value}, Vals vs us → Vals mz mv → Vals zs ws → Vals (g vs mz zs) (g us mv ws))
    (h : ∀ (D : Addr) (doc pm : Value) (an : Option Addr) (cdv ct : Value) (us mv ws : List Value), us.length = n → mv.length = ms.length → ws.length = ks.length →
      KwChain D ((ms.map (·.1)).zip mv) (bindArgs (PySem.W.fnOf x qual params body scope .none (.ref D) doc pm an cdv ct) ⟨us, ks.zip ws⟩) (ps.zip (g us mv ws))) :
    ∃ mv : List Value, KBn K fd ps n ks (fun us ws => g us mv ws) (fun vs zs => g vs (ms.map (·.2)) zs) := by
  obtain ⟨oc, od, dV, kV, doc, pm, an, cdv, ct, osl, rfl, lk, hcd, hD, hK⟩ := F.ex
  rcases hD with ⟨_, rfl⟩ | ⟨e, _⟩
  · rcases hK with e | ⟨D, rfl, hq⟩
    · exact absurd e hk
    · obtain ⟨mv, hl, rk, hks⟩ := kwd_vals (ms := ms) fun q hm => hq q (hms q hm)
      exact ⟨mv, ⟨fun s us ws X l1 l2 => BindsTo.of_looks fun M => KwChain.looks X hks (h D doc pm an cdv ct us mv ws l1 hl l2), fun r1 r2 => hrel r1 rk r2⟩⟩
  · exact absurd rfl e
end
end Lw
set_option maxRecDepth 10000
set_option maxHeartbeats 1000000
/-! tuples (text, l, p) with one text, l < 3 and p < 16 have different hashes, whatever the text's hash is -/
namespace Lw
open PySem
namespace Hsh
def rot (x : Nat) : Nat := (x * 2147483648) % 18446744073709551616 + x / 8589934592
theorem rot_eq (x : Nat) : rot x = (x % 8589934592) * 2147483648 + x / 8589934592 := by
  unfold rot
  have : x * 2147483648 % (8589934592 * 2147483648) = x % 8589934592 * 2147483648 := Nat.mul_mod_mul_right 2147483648 x 8589934592
  omega
theorem rot_inj {x y : Nat} (hx : x < 18446744073709551616) (hy : y < 18446744073709551616) (h : rot x = rot y) : x = y := by
  rw [rot_eq, rot_eq] at h
  omega
theorem cut (a b : Nat) (hb : b < 8589934592) : (a * 8589934592 + b) % 8589934592 = b ∧ (a * 8589934592 + b) / 8589934592 = a := by
  constructor <;> omega
theorem rot_ab (a b : Nat) (hb : b < 8589934592) : rot (a * 8589934592 + b) = b * 2147483648 + a := by
  rw [rot_eq, (cut a b hb).1, (cut a b hb).2]
theorem s1 (a b u v a' b' c e : Nat) (ha : a < 2147483648) (hb : b < 8589934592) (hu : u < 2147483648) (hv : v < 8589934592) (ha' : a' < 2147483648) (hb' : b' < 8589934592) (h1 : b + v = b' + c * 8589934592) (h2 : a + u + c = a' + e * 2147483648) :
   (a * 8589934592 + b + (u * 8589934592 + v)) % 18446744073709551616 = a' * 8589934592 + b' := by
  have e0 : a * 8589934592 + b + (u * 8589934592 + v) = a' * 8589934592 + b' + e * 18446744073709551616 := by omega
  have e2 : a' * 8589934592 + b' < 18446744073709551616 := by omega
  rw [e0, Nat.add_mul_mod_self_right, Nat.mod_eq_of_lt e2]
theorem s2 (a b u v a' b' c e : Nat) (h1 : b + v = b' + c * 8589934592) (h2 : a + u + c = a' + e * 2147483648) :
   (b' * 2147483648 + a' + e * 2147483648) % 18446744073709551616 = (b * 2147483648 + a + v * 2147483648 + u + c) % 18446744073709551616 := by
  have e0 : b * 2147483648 + a + v * 2147483648 + u + c = b' * 2147483648 + a' + e * 2147483648 + c * 18446744073709551616 := by omega
  rw [e0, Nat.add_mul_mod_self_right]
theorem ex2 (n k : Nat) (h : n < 2 * k) : ∃ r c, c < 2 ∧ r < k ∧ n = r + c * k := by
  by_cases h1 : n < k
  · exact ⟨n, 0, by omega, h1, by omega⟩
  · exact ⟨n - k, 1, by omega, by omega, by omega⟩
theorem rot_step (x d : Nat) (hx : x < 18446744073709551616) (hd : d < 18446744073709551616) : ∃ c e, c < 2 ∧ e < 2 ∧
    (rot ((x + d) % 18446744073709551616) + e * 2147483648) % 18446744073709551616 = (rot x + (d % 8589934592) * 2147483648 + d / 8589934592 + c) % 18446744073709551616 := by
  have ha : x / 8589934592 < 2147483648 := by omega
  have hb : x % 8589934592 < 8589934592 := Nat.mod_lt _ (by decide)
  have hu : d / 8589934592 < 2147483648 := by omega
  have hv : d % 8589934592 < 8589934592 := Nat.mod_lt _ (by decide)
  have ex : x = x / 8589934592 * 8589934592 + x % 8589934592 := by omega
  have ed : d = d / 8589934592 * 8589934592 + d % 8589934592 := by omega
  rw [rot_eq x]
  generalize x / 8589934592 = a at *
  generalize x % 8589934592 = b at *
  generalize d / 8589934592 = u at *
  generalize d % 8589934592 = v at *
  clear hx hd
  obtain ⟨b', c, hc, hb', e1⟩ := ex2 (b + v) 8589934592 (by omega)
  obtain ⟨a', e, he, ha', e2⟩ := ex2 (a + u + c) 2147483648 (by omega)
  refine ⟨c, e, hc, he, ?_⟩
  rw [ex, ed, s1 a b u v a' b' c e ha hb hu hv ha' hb' e1 e2, rot_ab a' b' hb']
  exact s2 a b u v a' b' c e e1 e2
theorem rot_lt (x : Nat) (hx : x < 18446744073709551616) : rot x < 18446744073709551616 := by
  rw [rot_eq]
  omega
theorem mul_inv (r : Nat) (hr : r < 18446744073709551616) : ((r * 11400714785074694791) % 18446744073709551616 * 614540362697595703) % 18446744073709551616 = r := by
  omega
theorem mul_inj {r s : Nat} (hr : r < 18446744073709551616) (hs : s < 18446744073709551616) (h : (r * 11400714785074694791) % 18446744073709551616 = (s * 11400714785074694791) % 18446744073709551616) : r = s := by
  rw [← mul_inv r hr, ← mul_inv s hs, h]
def fin (y : Nat) : Nat := ((rot y * 11400714785074694791) % 18446744073709551616 + 2870177450013471925) % 18446744073709551616
theorem fin_cc (u v : Nat) (h : (u % 18446744073709551616 + 2870177450013471925) % 18446744073709551616 = (v % 18446744073709551616 + 2870177450013471925) % 18446744073709551616) : u % 18446744073709551616 = v % 18446744073709551616 := by
  omega
theorem fin_inj {y z : Nat} (hy : y < 18446744073709551616) (hz : z < 18446744073709551616) (h : fin y = fin z) : y = z := by
  refine rot_inj hy hz (mul_inj (rot_lt y hy) (rot_lt z hz) ?_)
  exact fin_cc _ _ h
def sg (a : Nat) : Int := if a == 18446744073709551616 - 1 then 1546275796 else if a < 9223372036854775808 then a else (a : Int) - 18446744073709551616
theorem sg_inj {a b : Nat} (ha : a < 18446744073709551616) (hb : b < 18446744073709551616) (h : sg a = sg b) : a = b ∨ (a = 18446744073709551615 ∧ b = 1546275796) ∨ (b = 18446744073709551615 ∧ a = 1546275796) := by
  unfold sg at h
  simp only [beq_iff_eq] at h
  split at h <;> split at h <;> (try split at h) <;> (try split at h) <;> omega
def step (a h : Nat) : Nat := (rot ((a + h * 14029467366897019727) % 18446744073709551616) * 11400714785074694791) % 18446744073709551616
theorem step_lt (a h : Nat) : step a h < 18446744073709551616 := Nat.mod_lt _ (by decide)
/-- the last element's table place -/
def yy (a l p : Nat) : Nat := (step a l + p * 14029467366897019727) % 18446744073709551616
theorem yy_lt (a l p : Nat) : yy a l p < 18446744073709551616 := Nat.mod_lt _ (by decide)
theorem yyo (r r' c e d1 d2 p q : Nat) (h : (r' + e * 2147483648) % 18446744073709551616 = (r + d1 * 2147483648 + d2 + c) % 18446744073709551616) :
  ((r' * 11400714785074694791 % 18446744073709551616 + q * 14029467366897019727) % 18446744073709551616 + 11400714785074694791 * (e * 2147483648) + p * 14029467366897019727) % 18446744073709551616 =
      ((r * 11400714785074694791 % 18446744073709551616 + p * 14029467366897019727) % 18446744073709551616 + 11400714785074694791 * (d1 * 2147483648 + d2 + c) + q * 14029467366897019727) % 18446744073709551616 := by
  have h' : (r' + e * 2147483648) * 11400714785074694791 % 18446744073709551616 = (r + d1 * 2147483648 + d2 + c) * 11400714785074694791 % 18446744073709551616 := by
    rw [Nat.mul_mod, h, ← Nat.mul_mod]
  omega
/-- the difference of two places, l' > l: off by one of four -/
theorem yy_diff (a l dl p q : Nat) : ∃ c e, c < 2 ∧ e < 2 ∧
    (yy a (l + dl) q + 11400714785074694791 * (e * 2147483648) + p * 14029467366897019727) % 18446744073709551616 =
      (yy a l p + 11400714785074694791 * (((dl * 14029467366897019727 % 18446744073709551616) % 8589934592) * 2147483648 + (dl * 14029467366897019727 % 18446744073709551616) / 8589934592 + c) + q * 14029467366897019727) % 18446744073709551616 := by
  have h1 : (a + l * 14029467366897019727) % 18446744073709551616 < 18446744073709551616 := Nat.mod_lt _ (by decide)
  have h2 : dl * 14029467366897019727 % 18446744073709551616 < 18446744073709551616 := Nat.mod_lt _ (by decide)
  obtain ⟨c, e, hc, he, h⟩ := rot_step _ _ h1 h2
  refine ⟨c, e, hc, he, ?_⟩
  have h3 : ((a + l * 14029467366897019727) % 18446744073709551616 + dl * 14029467366897019727 % 18446744073709551616) % 18446744073709551616 = (a + (l + dl) * 14029467366897019727) % 18446744073709551616 := by
    rw [← Nat.add_mod, Nat.add_mul, Nat.add_assoc]
  rw [h3] at h
  unfold yy step
  exact yyo _ _ c e _ _ p q h
/-- what the four may not be -/
def clash (dl c e p q yl yr : Nat) : Bool :=
  (yr + 11400714785074694791 * (e * 2147483648) + p * 14029467366897019727) % 18446744073709551616 == (yl + 11400714785074694791 * (((dl * 14029467366897019727 % 18446744073709551616) % 8589934592) * 2147483648 + (dl * 14029467366897019727 % 18446744073709551616) / 8589934592 + c) + q * 14029467366897019727) % 18446744073709551616
def YA : Nat := 1837738906727985164
def YB : Nat := 8570342753019038081
theorem no_clash : ((List.range 2).all fun dl => (List.range 2).all fun c => (List.range 2).all fun e => (List.range 16).all fun p => (List.range 16).all fun q =>
    !clash (dl + 1) c e p q 0 0 && !clash (dl + 1) c e p q YA YB && !clash (dl + 1) c e p q YB YA) = true := by decide +kernel
theorem clash_no {dl c e p q : Nat} (h1 : dl = 1 ∨ dl = 2) (hc : c < 2) (he : e < 2) (hp : p < 16) (hq : q < 16) : clash dl c e p q 0 0 = false ∧ clash dl c e p q YA YB = false ∧ clash dl c e p q YB YA = false := by
  have h := no_clash
  rw [List.all_eq_true] at h
  have hd : dl - 1 ∈ List.range 2 := List.mem_range.mpr (by omega)
  have h := h _ hd
  rw [List.all_eq_true] at h
  have h := h c (List.mem_range.mpr hc)
  rw [List.all_eq_true] at h
  have h := h e (List.mem_range.mpr he)
  rw [List.all_eq_true] at h
  have h := h p (List.mem_range.mpr hp)
  rw [List.all_eq_true] at h
  have h := h q (List.mem_range.mpr hq)
  have e1 : dl - 1 + 1 = dl := by omega
  rw [e1] at h
  simp only [Bool.and_eq_true, Bool.not_eq_true'] at h
  exact ⟨h.1.1, h.1.2, h.2⟩
theorem fin_max {y : Nat} (hy : y < 18446744073709551616) (h : fin y = 18446744073709551615) : y = YA := fin_inj hy (by decide) (h.trans (by decide +kernel))
theorem fin_alt {y : Nat} (hy : y < 18446744073709551616) (h : fin y = 1546275796) : y = YB := fin_inj hy (by decide) (h.trans (by decide +kernel))
/-- places that the hash can't tell apart -/
def same (y z : Nat) : Prop := y = z ∨ (y = YA ∧ z = YB) ∨ (z = YA ∧ y = YB)
theorem same_of {y z : Nat} (hy : y < 18446744073709551616) (hz : z < 18446744073709551616) (h : sg (fin y) = sg (fin z)) : same y z := by
  rcases sg_inj (Nat.mod_lt _ (by decide)) (Nat.mod_lt _ (by decide)) h with e | ⟨e1, e2⟩ | ⟨e1, e2⟩
  · exact .inl (fin_inj hy hz e)
  · exact .inr (.inl ⟨fin_max hy e1, fin_alt hz e2⟩)
  · exact .inr (.inr ⟨fin_max hz e1, fin_alt hy e2⟩)
theorem shed (y u v : Nat) (h : (y + u) % 18446744073709551616 = (y + v) % 18446744073709551616) : (0 + u) % 18446744073709551616 = (0 + v) % 18446744073709551616 := by
  omega
theorem apart {a l dl p q : Nat} (h1 : dl = 1 ∨ dl = 2) (hp : p < 16) (hq : q < 16) (h : same (yy a l p) (yy a (l + dl) q)) : False := by
  obtain ⟨c, e, hc, he, hd⟩ := yy_diff a l dl p q
  obtain ⟨n1, n2, n3⟩ := clash_no h1 hc he hp hq
  rcases h with h | ⟨h2, h3⟩ | ⟨h2, h3⟩
  · rw [h, Nat.add_assoc, Nat.add_assoc (yy a (l + dl) q)] at hd
    have hd := shed _ _ _ hd
    rw [← Nat.add_assoc, ← Nat.add_assoc] at hd
    have : clash dl c e p q 0 0 = true := by
      unfold clash
      rw [beq_iff_eq]
      exact hd
    rw [this] at n1; cases n1
  · rw [h2, h3] at hd
    have : clash dl c e p q YA YB = true := by
      unfold clash
      rw [beq_iff_eq]
      exact hd
    rw [this] at n2; cases n2
  · rw [h2, h3] at hd
    have : clash dl c e p q YB YA = true := by
      unfold clash
      rw [beq_iff_eq]
      exact hd
    rw [this] at n3; cases n3
theorem cc0 (s u v : Nat) (h : (s + u) % 18446744073709551616 = (s + v) % 18446744073709551616) : u % 18446744073709551616 = v % 18446744073709551616 := by
  omega
theorem dd0 : ((List.range 16).all fun p => (List.range 16).all fun q => p == q || !(p * 14029467366897019727 % 18446744073709551616 == q * 14029467366897019727 % 18446744073709551616)) = true := by decide +kernel
theorem cc1 (s u v : Nat) (h1 : (s + u) % 18446744073709551616 = 1837738906727985164) (h2 : (s + v) % 18446744073709551616 = 8570342753019038081) : (u + 8570342753019038081) % 18446744073709551616 = (v + 1837738906727985164) % 18446744073709551616 := by
  omega
theorem dd1 : ((List.range 16).all fun p => (List.range 16).all fun q => !((p * 14029467366897019727 + 8570342753019038081) % 18446744073709551616 == (q * 14029467366897019727 + 1837738906727985164) % 18446744073709551616)) = true := by decide +kernel
theorem all2 {f : Nat → Nat → Bool} (h : ((List.range 16).all fun p => (List.range 16).all fun q => f p q) = true) {p q : Nat} (hp : p < 16) (hq : q < 16) : f p q = true := by
  rw [List.all_eq_true] at h
  have h := h p (List.mem_range.mpr hp)
  rw [List.all_eq_true] at h
  exact h q (List.mem_range.mpr hq)
theorem apart0 {a l p q : Nat} (hp : p < 16) (hq : q < 16) (h : same (yy a l p) (yy a l q)) : p = q := by
  unfold yy at h
  generalize step a l = s at h
  rcases h with h | ⟨h2, h3⟩ | ⟨h2, h3⟩
  · have e := cc0 _ _ _ h
    have d := all2 dd0 hp hq
    rw [e, beq_self_eq_true, Bool.not_true, Bool.or_false, beq_iff_eq] at d
    exact d
  · have e := cc1 _ _ _ h2 h3
    have d := all2 dd1 hp hq
    rw [e, beq_self_eq_true] at d
    cases d
  · have e := cc1 _ _ _ h2 h3
    have d := all2 dd1 hq hp
    rw [e, beq_self_eq_true] at d
    cases d
theorem all_apart {a l l' p q : Nat} (hl : l < 3) (hl' : l' < 3) (hp : p < 16) (hq : q < 16) (h : sg (fin (yy a l p)) = sg (fin (yy a l' q))) : l = l' ∧ p = q := by
  have s := same_of (yy_lt a l p) (yy_lt a l' q) h
  rcases Nat.lt_trichotomy l l' with c | c | c
  · exact (apart (a := a) (l := l) (dl := l' - l) (by omega) hp hq (by rw [show l + (l' - l) = l' by omega]; exact s)).elim
  · subst c
    exact ⟨rfl, apart0 hp hq s⟩
  · refine (apart (a := a) (l := l') (dl := l - l') (p := q) (q := p) (by omega) hq hp ?_).elim
    rw [show l' + (l - l') = l by omega]
    rcases s with s | ⟨s1, s2⟩ | ⟨s1, s2⟩
    · exact .inl s.symm
    · exact .inr (.inr ⟨s1, s2⟩)
    · exact .inr (.inl ⟨s1, s2⟩)
end Hsh
end Lw
set_option maxRecDepth 10000
set_option maxHeartbeats 1000000
namespace Lw
open PySem L2
namespace Hsh
theorem sg_red (x : Nat) (hx : x < 18446744073709551616) : reduceHash (sg x) = sg x := by
  have h1 : -(2 ^ 63 : Int) ≤ sg x ∧ sg x < 2 ^ 63 ∧ sg x ≠ -1 := by
    unfold sg
    simp only [beq_iff_eq]
    split
    · omega
    · split <;> omega
  unfold reduceHash
  rw [if_pos (by rw [Bool.and_eq_true, decide_eq_true_eq, decide_eq_true_eq]; exact ⟨h1.1, h1.2.1⟩), if_neg (by rw [beq_iff_eq]; exact h1.2.2)]
theorem hash_small (i : Int) (h0 : 0 ≤ i) (h1 : i < 16) : hashInt i = i := by
  have : i = 0 ∨ i = 1 ∨ i = 2 ∨ i = 3 ∨ i = 4 ∨ i = 5 ∨ i = 6 ∨ i = 7 ∨ i = 8 ∨ i = 9 ∨ i = 10 ∨ i = 11 ∨ i = 12 ∨ i = 13 ∨ i = 14 ∨ i = 15 := by omega
  rcases this with e | e | e | e | e | e | e | e | e | e | e | e | e | e | e | e <;> subst e <;> decide +kernel
def F (acc : Nat) (h : Int) : Nat :=
  let acc := (acc + (h % ((2 ^ 64 : Nat) : Int)).toNat * 14029467366897019727) % 2 ^ 64
  let acc := (acc * 2 ^ 31) % 2 ^ 64 + acc / 2 ^ 33
  (acc * 11400714785074694791) % 2 ^ 64
def L (n acc : Nat) : Int :=
  let acc : Nat := (acc + (n ^^^ (2870177450012600261 ^^^ 3527539))) % 2 ^ 64
  if acc == 2 ^ 64 - 1 then 1546275796 else if acc < 2 ^ 63 then acc else (acc : Int) - ((2 ^ 64 : Nat) : Int)
theorem e64 : (2 : Nat) ^ 64 = 18446744073709551616 := by decide
theorem e31 : (2 : Nat) ^ 31 = 2147483648 := by decide
theorem e33 : (2 : Nat) ^ 33 = 8589934592 := by decide
theorem e63 : (2 : Nat) ^ 63 = 9223372036854775808 := by decide
theorem ex3 : (3 ^^^ (2870177450012600261 ^^^ 3527539) : Nat) = 2870177450013471925 := by decide
theorem ec : ((18446744073709551616 : Nat) : Int) = 18446744073709551616 := by decide
theorem F_eq (acc : Nat) (h : Int) : F acc h = step acc (h % 18446744073709551616).toNat := by
  unfold F step rot
  simp only [e64, e31, e33, ec]
theorem L_eq (y : Nat) : L 3 ((rot y * 11400714785074694791) % 18446744073709551616) = sg (fin y) := by
  unfold L sg fin
  simp only [e64, e63, ex3, ec]
theorem thf (hs : List Int) : Builtin.Tuple.tupleHashOf hs = L hs.length (hs.foldl F 2870177450012600261) := by
  unfold Builtin.Tuple.tupleHashOf L
  dsimp only
  have e : (fun (acc : Nat) (h : Int) => ((acc + (h % ((2 ^ 64 : Nat) : Int)).toNat * 14029467366897019727) % 2 ^ 64 * 2 ^ 31 % 2 ^ 64 + (acc + (h % ((2 ^ 64 : Nat) : Int)).toNat * 14029467366897019727) % 2 ^ 64 / 2 ^ 33) * 11400714785074694791 % 2 ^ 64) = F := by
    funext acc h
    unfold F
    dsimp only
  rw [e]
theorem foldF (f : Nat → Int → Nat) (s : Nat) (a b c : Int) : [a, b, c].foldl f s = f (f (f s a) b) c := rfl
theorem lenF (f : Nat → Nat → Int) (a b c : Int) (x y : Nat) (h : x = y) : f [a, b, c].length x = f 3 y := by
  subst h
  rfl
theorem fold3 (a b c : Int) : Builtin.Tuple.tupleHashOf [a, b, c] = L 3 (F (F (F 2870177450012600261 a) b) c) :=
  (thf _).trans (lenF L a b c _ _ (foldF F _ a b c))
theorem tup3 (a b c : Int) : Builtin.Tuple.tupleHashOf [a, b, c] = sg (fin (yy (step 2870177450012600261 (a % 18446744073709551616).toNat) (b % 18446744073709551616).toNat (c % 18446744073709551616).toNat)) := by
  rw [fold3, F_eq, F_eq, F_eq, ← L_eq]
  rfl
end Hsh
theorem key_apart {P : Program} {w : World} {x : Str} {l p l' p' : Int} (h0 : 0 ≤ l) (h1 : l < 3) (h2 : 0 ≤ p) (h3 : p < 16) (h4 : 0 ≤ l') (h5 : l' < 3) (h6 : 0 ≤ p') (h7 : p' < 16) (e : keyHash P w (hk ⟨x, l, p⟩) = keyHash P w (hk ⟨x, l', p'⟩)) : l = l' ∧ p = p' := by
  have key : ∀ l p : Int, 0 ≤ l → l < 3 → 0 ≤ p → p < 16 → keyHash P w (hk ⟨x, l, p⟩) = Hsh.sg (Hsh.fin (Hsh.yy (Hsh.step 2870177450012600261 (hashStr w x % 18446744073709551616).toNat) l.toNat p.toNat)) := by
    intro l p h0 h1 h2 h3
    show reduceHash (Builtin.Tuple.tupleHashOf [hashStr w x, hashInt l, hashInt p]) = _
    rw [Hsh.tup3, Hsh.hash_small l h0 (by omega), Hsh.hash_small p h2 h3, Int.emod_eq_of_lt h0 (by omega), Int.emod_eq_of_lt h2 (by omega)]
    exact Hsh.sg_red _ (Nat.mod_lt _ (by decide))
  rw [key l p h0 h1 h2 h3, key l' p' h4 h5 h6 h7] at e
  obtain ⟨a, b⟩ := Hsh.all_apart (by omega) (by omega) (by omega) (by omega) e
  omega
end Lw
set_option maxHeartbeats 4000000
/-! the program's text by places; what the walks need of the world; entries -/
namespace Lw
open PySem PySem.Spec PyProof.Rows L2
def top (i : Nat) : Stmt := PySem.Challenge.pw_lodgewalk_k36_whole_in_and_out.main.body.getD i (.Pass ⟨0, 0, 0, 0⟩)
abbrev dWithin : Stmt := top 22
abbrev dCell : Stmt := top 23
abbrev dPage : Stmt := top 24
abbrev dNumber : Stmt := top 25
abbrev dNeedCell : Stmt := top 26
abbrev dNumIn : Stmt := top 27
abbrev dMark : Stmt := top 28
abbrev dEntWith : Stmt := top 29
abbrev dEntOf : Stmt := top 30

/-- the holders' last parts -/
def lastP (z : Str) : Option Int := if z = "table" then some 2 else if z = "page" then some 15 else if z = "kept" then some 15 else none
structure Txt (K : PySem.W.Frag) (w : World) (mg : Str → Option Value) : Prop where
  PL : ∃ t, mg "PLACES" = some (.int 8 t)
  ME : ∃ t, mg "MOST_entries" = some (.int 65535 t)
  MN : ∃ t, mg "MOST_NUMBER" = some (.int 4095 t)
  HE : ∃ t, mg "HERE" = some (.int 1 t)
  WR : ∃ t, mg "WRITE" = some (.int 2 t)
  SE : ∃ t, mg "SEEN" = some (.int 4 t)
  PU : ∃ t, mg "PUT" = some (.int 8 t)
  MA : ∃ t, mg "MARKS" = some (.int 16 t)
  FE : ∃ t, mg "FEWEST" = some (.int 4 t)
  MP : ∃ t, mg "MOST_pool" = some (.int 48 t)
  FA : ∃ t, mg "FARTHEST" = some (.int 1000000 t)
  TA : ∃ t, mg "TABLE" = some (.str "table" t)
  BL : ∃ a, mg "BLANK" = some (.ref a) ∧ SqT K (fun _ => none) a (List.replicate 8 (.int 0))
  LP : ∃ a es n, mg "LAST_PART" = some (.ref a) ∧ KDict K w a es n ∧ ∀ z i, lastP z = some i → ∃ t, PySem.W.nsIn K a z = some (some (.int i t))
  len : mg "len" = none
  isi : mg "isinstance" = none
  all : mg "all" = none
  any : mg "any" = none
  sum : mg "sum" = none
  min : mg "min" = none
  max : mg "max" = none
  abs : mg "abs" = none
  int : mg "int" = none
  bool : mg "bool" = none
  str : mg "str" = none
  tuple : mg "tuple" = none
  sorted : mg "sorted" = none
  range : mg "range" = none
  enum : mg "enumerate" = none
  zip : mg "zip" = none
theorem e_gi' {X : Cx} {x : Str} {i : Int} {pos : Pos} (hm : ∃ t, X.mg x = some (.int i t)) (hg : Gl X x := by rfl) (hd : (x == ("__debug__" : Str)) = false := by decide) : PE3 X (.Name x pos) (eC (.int i)) := by
  obtain ⟨t, h⟩ := hm
  exact e_gi h hg hd
theorem e_gs' {X : Cx} {x : Str} {i : Str} {pos : Pos} (hm : ∃ t, X.mg x = some (.str i t)) (hg : Gl X x := by rfl) (hd : (x == ("__debug__" : Str)) = false := by decide) : PE3 X (.Name x pos) (eC (.str i)) := by
  obtain ⟨t, h⟩ := hm
  exact e_gs h hg hd
/-- a page's cells -/
abbrev pD (s : List Int) : Da := .tup (s.map .int)
abbrev blank : List Int := List.replicate 8 0
theorem e_blank {X : Cx} {pos : Pos} (T : Txt X.K X.w X.mg) (hg : Gl X "BLANK" := by rfl) : PE3 X (.Name "BLANK" pos) (eC (pD blank)) := by
  obtain ⟨a, h, s⟩ := T.BL
  refine e_gl (w := .ref a) h rfl (fun H => ⟨a, _, rfl, .inr ⟨s, fun x r => nofun⟩, ?_⟩) hg (by decide)
  exact ⟨_, _, rfl, rfl, _, _, rfl, rfl, _, _, rfl, rfl, _, _, rfl, rfl, _, _, rfl, rfl, _, _, rfl, rfl, _, _, rfl, rfl, _, _, rfl, rfl, rfl⟩
def bkB (N : List Str) (sc scope : Scope) (own : List (Str × Nat)) : Bool :=
  (match scope.kind with | .function => true | _ => false) &&
  scope.names.all (fun y => scope.names.lookup y.1 == some y.2) &&
  own.all (fun p => N[p.2]? == some p.1) &&
  scope.names.all (fun y => !(y.2 == .free) || sc.names.lookup y.1 == some .cell || sc.names.lookup y.1 == some .free) &&
  scope.names.all (fun y => !(y.2 == .local || y.2 == .cell) || (own.map (·.1)).contains y.1 || !N.contains y.1)
theorem bk (N : List Str) (sc : Scope) {scope : Scope} {own : List (Str × Nat)} (h : bkB N sc scope own = true) : BlkOk N sc scope own := by
  unfold bkB at h
  simp only [Bool.and_eq_true] at h
  obtain ⟨⟨⟨⟨h1, h2⟩, h3⟩, h4⟩, h5⟩ := h
  rw [List.all_eq_true] at h2 h3 h4 h5
  refine ⟨?_, fun y hy => eq_of_beq (h2 y hy), fun p hp => eq_of_beq (h3 p hp), fun y hy e => ?_, fun y hy e => ?_⟩
  · revert h1
    cases scope.kind <;> simp
  · have := h4 y hy
    rw [e] at this
    simpa using this
  · have := h5 y hy
    simp only [Bool.or_eq_true, Bool.not_eq_true', beq_iff_eq, Bool.or_eq_false_iff, List.contains_iff_mem] at this
    rcases this with (⟨a, b⟩ | h) | h
    · rcases e with e | e
      · simp [e] at a
      · simp [e] at b
    · exact .inl h
    · exact .inr (by simpa using h)
/-- a comprehension that leaves everything as it is -/
theorem lc_pure {ds : List Da} {kp : Gp → Prop} {G : Gp} {Q : List Da → Gp → Prop} {g : TG3} {tt : TT3} {te : TE3} {τ : St3} {vs : List Nat} (p : Da → Bool) (f : Da → Da) (hk : kp G) (hl : ds.length < sizeLine)
    (step : ∀ d, d ∈ ds → ∀ (R : Da → Gp → Prop) (S : Gp → Prop), (if p d = true then R (f d) G else S G) → g d (wip τ vs) G fun τ2 G2 => tt τ2 G2 fun b G3 => if b = true then te τ2 G3 R else S G3) (q : Q ((ds.filter p).map f) G) :
    ∃ Pv : Nat → List Da → Gp → Prop, Pv 0 [] G ∧ (∀ i acc G', i ≤ ds.length → Pv i acc G' → kp G' ∧ acc.length < sizeLine) ∧
      (∀ i d acc G', ds[i]? = some d → Pv i acc G' → g d (wip τ vs) G' fun τ2 G2 => tt τ2 G2 fun b G3 => if b = true then te τ2 G3 fun y G4 => Pv (i + 1) (acc ++ [y]) G4 else Pv (i + 1) acc G3) ∧ ∀ acc G', Pv ds.length acc G' → Q acc G' := by
  refine ⟨fun i acc G' => G' = G ∧ acc = ((ds.take i).filter p).map f, ⟨rfl, rfl⟩, ?_, ?_, ?_⟩
  · rintro i acc G' hi ⟨rfl, rfl⟩
    refine ⟨hk, ?_⟩
    rw [List.length_map]
    have := List.length_filter_le p (ds.take i)
    rw [List.length_take] at this
    omega
  · rintro i d acc G' hd ⟨rfl, rfl⟩
    have ht : ds.take (i + 1) = ds.take i ++ [d] := by rw [List.take_add_one, hd]; rfl
    refine step d (List.mem_of_getElem? hd) _ _ ?_
    by_cases hp : p d = true
    · rw [if_pos hp]
      exact ⟨rfl, by rw [ht, List.filter_append, List.map_append, List.filter_cons_of_pos hp]; rfl⟩
    · rw [if_neg hp]
      exact ⟨rfl, by rw [ht, List.filter_append, List.map_append, List.filter_cons_of_neg hp]; simp⟩
  · rintro acc G' ⟨rfl, rfl⟩
    rw [List.take_length]
    exact q
theorem lc_map {ds : List Da} {kp : Gp → Prop} {G : Gp} {Q : List Da → Gp → Prop} {g : TG3} {te : TE3} {τ : St3} {vs : List Nat} (f : Da → Da) (hk : kp G) (hl : ds.length < sizeLine)
    (step : ∀ d, d ∈ ds → ∀ (R : Da → Gp → Prop), R (f d) G → g d (wip τ vs) G fun τ2 G2 => te τ2 G2 R) (q : Q (ds.map f) G) :
    ∃ Pv : Nat → List Da → Gp → Prop, Pv 0 [] G ∧ (∀ i acc G', i ≤ ds.length → Pv i acc G' → kp G' ∧ acc.length < sizeLine) ∧
      (∀ i d acc G', ds[i]? = some d → Pv i acc G' → g d (wip τ vs) G' fun τ2 G2 => tY τ2 G2 fun b G3 => if b = true then te τ2 G3 fun y G4 => Pv (i + 1) (acc ++ [y]) G4 else Pv (i + 1) acc G3) ∧ ∀ acc G', Pv ds.length acc G' → Q acc G' :=
  lc_pure (tt := tY) (fun _ => true) f hk hl (fun d hd R S h => step d hd R h) (by rw [List.filter_eq_self.mpr fun _ _ => rfl]; exact q)
theorem all_t {α : Type} (l : List α) : ((l.map fun _ => true).all fun b => b) = true := by
  rw [List.all_eq_true]
  intro x hx
  obtain ⟨_, _, rfl⟩ := List.mem_map.mp hx
  rfl
theorem bl_map {α : Type} (l : List α) (p : α → Bool) : l.map (fun x => Da.bl (p x)) = (l.map p).map .bl := by
  rw [List.map_map]; rfl
theorem small_len {n : Nat} (h : n ≤ 100000) : n < sizeLine := by rw [sizeLine_eq]; omega
theorem sz1 : 1 ≤ sizeLine := by decide
theorem sz2 : 2 ≤ sizeLine := by decide
theorem sz3 : 3 ≤ sizeLine := by decide
theorem sz4 : 4 ≤ sizeLine := by decide
theorem sz5 : 5 ≤ sizeLine := by decide
theorem sz8 : 8 ≤ sizeLine := by decide
/-- reading an if on a decided test -/
theorem ite_t {c : Prop} {p q : Prop} [Decidable c] (hc : c) (h : p) : if c then p else q := by rw [if_pos hc]; exact h
theorem ite_f {c : Prop} {p q : Prop} [Decidable c] (hc : ¬ c) (h : q) : if c then p else q := by rw [if_neg hc]; exact h

section
variable {P : Program} {w : World} {K : PySem.W.Frag} {mg : Str → Option Value} {base : Heap} {k : Nat}
theorem toDef {x qual : Str} {st : Stmt} {f : Addr} {fd : FuncData} {ps : List Str} {S : Sp3} (F : Fun K x qual st f fd) (G : FnOk P w K mg base CX0 k f fd ps (spl K S)) (hm : mg x = some (.ref f)) (hb : Binds K fd ps []) : DefOk P w K mg base k x [] S :=
  ⟨f, fd, ps, [], [], G, hm, F.kp, hb, .nil, fun _ => rfl⟩
/-! is_within -/
def SWithin : Sp3 := fun ds G Q => ∃ t l m : Int, ds = [.int t, .int l, .int m] ∧ Q (.bl (decide (l ≤ t ∧ t ≤ m))) G
theorem scWithin : FnScope ["thing", "least", "most"] ["thing", "least", "most"] (defScope dWithin) := ⟨rfl, rfl, rfl, by decide +kernel, rfl, by decide +kernel, by decide +kernel⟩
theorem okWithin {f : Addr} {fd : FuncData} (F : Fun K "is_within" "is_within" dWithin f fd) (T : Txt K w mg) : FnOk P w K mg base CX0 1 f fd ["thing", "least", "most"] (spl K SWithin) := by
  refine Fun3 F scWithin (fun ds G Q ⟨t, l, m, h, _⟩ => by rw [h]; rfl) fun cdv A outer s H E hr => ⟨_, s_one (s_ret (e_and (e_isi T.isi T.int (by rfl) (v 0)) (e_and (e_not (e_isi T.isi T.bool (by rfl) (v 0))) (e_one (e_lele (v 1) (v 0) (v 2)))))), ?_⟩
  rintro ds G Q ⟨t, l, m, rfl, q⟩
  refine ⟨_, rfl, _, _, _, rfl, rfl, true, rfl, ite_t rfl ?_⟩
  refine ⟨_, rfl, _, _, _, rfl, rfl, _, rfl, true, rfl, ite_t rfl ?_⟩
  refine ⟨_, rfl, _, rfl, _, _, rfl, rfl, _, rfl, ?_⟩
  by_cases h : l ≤ t
  · refine ite_t (decide_eq_true h) ⟨_, rfl, _, _, rfl, rfl, ?_⟩
    have e : decide (t ≤ m) = decide (l ≤ t ∧ t ≤ m) := by simp [h]
    show Q (.bl (decide (t ≤ m))) G
    rw [e]
    exact q
  · refine ite_f (by simpa using h) ?_
    have e : false = decide (l ≤ t ∧ t ≤ m) := by simp [h]
    show Q (.bl false) G
    rw [e]
    exact q
/-! is_cell, is_number -/
def SCell : Sp3 := fun ds G Q => ∃ t : Int, ds = [.int t] ∧ 0 ≤ t ∧ t ≤ 65535 ∧ Q (.bl true) G
theorem scCell : FnScope ["thing"] ["thing"] (defScope dCell) := ⟨rfl, rfl, rfl, by decide +kernel, rfl, by decide +kernel, by decide +kernel⟩
theorem okCell {f : Addr} {fd : FuncData} (F : Fun K "is_cell" "is_cell" dCell f fd) (T : Txt K w mg) (D : DefOk P w K mg base 1 "is_within" [] SWithin) : FnOk P w K mg base CX0 2 f fd ["thing"] (spl K SCell) := by
  refine Fun3 F scCell (fun ds G Q ⟨t, h, _⟩ => by rw [h]; rfl) fun cdv A outer s H E hr => ⟨_, s_one (s_ret (e_call D hr (a_cons (v 0) (a_cons e_int (a_cons (e_gi' T.ME) a_nil))))), ?_⟩
  rintro ds G Q ⟨t, rfl, h0, h1, q⟩
  refine ⟨_, rfl, t, 0, 65535, rfl, ?_⟩
  rw [decide_eq_true ⟨h0, h1⟩]
  exact q
def SNumber : Sp3 := fun ds G Q => ∃ t : Int, ds = [.int t] ∧ 0 ≤ t ∧ t ≤ 4095 ∧ Q (.bl true) G
theorem scNumber : FnScope ["thing"] ["thing"] (defScope dNumber) := ⟨rfl, rfl, rfl, by decide +kernel, rfl, by decide +kernel, by decide +kernel⟩
theorem okNumber {f : Addr} {fd : FuncData} (F : Fun K "is_number" "is_number" dNumber f fd) (T : Txt K w mg) (D : DefOk P w K mg base 1 "is_within" [] SWithin) : FnOk P w K mg base CX0 2 f fd ["thing"] (spl K SNumber) := by
  refine Fun3 F scNumber (fun ds G Q ⟨t, h, _⟩ => by rw [h]; rfl) fun cdv A outer s H E hr => ⟨_, s_one (s_ret (e_call D hr (a_cons (v 0) (a_cons e_int (a_cons (e_gi' T.MN) a_nil))))), ?_⟩
  rintro ds G Q ⟨t, rfl, h0, h1, q⟩
  refine ⟨_, rfl, t, 0, 4095, rfl, ?_⟩
  rw [decide_eq_true ⟨h0, h1⟩]
  exact q
/-! is_page -/
def PgOk (s : List Int) : Prop := s.length = 8 ∧ ∀ x ∈ s, 0 ≤ x ∧ x ≤ 65535
def SPage : Sp3 := fun ds G Q => ∃ s, ds = [pD s] ∧ PgOk s ∧ Q (.bl true) G
theorem scPage : FnScope ["thing", "cell"] ["thing"] (defScope dPage) := ⟨rfl, rfl, rfl, by decide +kernel, rfl, by decide +kernel, by decide +kernel⟩
theorem okPage {f : Addr} {fd : FuncData} (F : Fun K "is_page" "is_page" dPage f fd) (T : Txt K w mg) (D : DefOk P w K mg base 2 "is_cell" [] SCell) : FnOk P w K mg base CX0 3 f fd ["thing"] (spl K SPage) := by
  refine Fun3 F scPage (fun ds G Q ⟨t, h, _⟩ => by rw [h]; rfl) fun cdv A outer s H E hr => ⟨_, s_one (s_ret (e_and (e_isi T.isi T.tuple (by rfl) (v 0)) (e_and (e_eq hr.units (e_len T.len (v 0)) (e_gi' T.PL))
    (e_one (e_all rfl T.all (l_lc (own := [("cell", 1)]) rfl scPage.nd (i_tup (v 0)) (bk ["thing", "cell"] (defScope dPage) (by decide +kernel)) (fun s H C cl fp => g_name (i := 1) scPage.nd) (fun s H C cl fp => ts_nil) (fun s H C cl fp => e_call D hr (a_cons (v 1) a_nil)))))))), ?_⟩
  rintro ds G Q ⟨s, rfl, ⟨hl, hs⟩, q⟩
  refine ⟨_, rfl, _, _, _, rfl, rfl, true, rfl, ite_t rfl ?_⟩
  refine ⟨_, rfl, _, rfl, .inl ⟨_, rfl, rfl, rfl, true, ?_, ite_t rfl ?_⟩⟩
  · rw [eqB_t (by rw [List.length_map, hl]; rfl)]
  · refine ⟨_, rfl, _, rfl, lc_map (fun _ => .bl true) trivial (small_len (by rw [List.length_map, hl]; decide)) (fun d hd R h => ?_) ?_⟩
    · obtain ⟨x, hx, rfl⟩ := List.mem_map.mp hd
      exact ⟨_, rfl, x, rfl, (hs x hx).1, (hs x hx).2, h⟩
    · refine ⟨_, bl_map _ fun _ => true, ?_⟩
      rw [all_t]
      exact q
/-! need_cell, number_in, has_mark -/
def SNeedCell : Sp3 := fun ds G Q => ∃ t : Int, ds = [.int t] ∧ 0 ≤ t ∧ t ≤ 65535 ∧ Q .non G
theorem scNeedCell : FnScope ["thing"] ["thing"] (defScope dNeedCell) := ⟨rfl, rfl, rfl, by decide +kernel, rfl, by decide +kernel, by decide +kernel⟩
theorem okNeedCell {f : Addr} {fd : FuncData} (F : Fun K "need_cell" "need_cell" dNeedCell f fd) (D : DefOk P w K mg base 2 "is_cell" [] SCell) : FnOk P w K mg base CX0 3 f fd ["thing"] (spl K SNeedCell) := by
  refine Fun3 F scNeedCell (fun ds G Q ⟨t, h, _⟩ => by rw [h]; rfl) fun cdv A outer s H E hr => ⟨_, s_one (s_if (t_not (t_val (e_call D hr (a_cons (v 0) a_nil)))) ss_never s_nil), ?_⟩
  rintro ds G Q ⟨t, rfl, h0, h1, q⟩
  exact ⟨_, rfl, t, rfl, h0, h1, true, rfl, ite_f Bool.false_ne_true q⟩
def SNumIn : Sp3 := fun ds G Q => ∃ t : Int, ds = [.int t] ∧ Q (.int (t / 16)) G
theorem scNumIn : FnScope ["cell"] ["cell"] (defScope dNumIn) := ⟨rfl, rfl, rfl, by decide +kernel, rfl, by decide +kernel, by decide +kernel⟩
theorem okNumIn {f : Addr} {fd : FuncData} (F : Fun K "number_in" "number_in" dNumIn f fd) (T : Txt K w mg) : FnOk P w K mg base CX0 1 f fd ["cell"] (spl K SNumIn) := by
  refine Fun3 F scNumIn (fun ds G Q ⟨t, h, _⟩ => by rw [h]; rfl) fun cdv A outer s H E hr => ⟨_, s_one (s_ret (e_fdiv (v 0) (e_gi' T.MA))), ?_⟩
  rintro ds G Q ⟨t, rfl, q⟩
  exact ⟨_, rfl, _, _, rfl, rfl, ⟨by decide, by decide⟩, q⟩
def SMark : Sp3 := fun ds G Q => ∃ t m : Int, ds = [.int t, .int m] ∧ ∀ b : Bool, Q (.bl b) G
theorem scMark : FnScope ["cell", "mark"] ["cell", "mark"] (defScope dMark) := ⟨rfl, rfl, rfl, by decide +kernel, rfl, by decide +kernel, by decide +kernel⟩
theorem okMark {f : Addr} {fd : FuncData} (F : Fun K "has_mark" "has_mark" dMark f fd) : FnOk P w K mg base CX0 1 f fd ["cell", "mark"] (spl K SMark) := by
  refine Fun3 F scMark (fun ds G Q ⟨t, m, h, _⟩ => by rw [h]; rfl) fun cdv A outer s H E hr => ⟨_, s_one (s_ret (e_ne hr.units (e_band (v 0) (v 1)) e_int)), ?_⟩
  rintro ds G Q ⟨t, m, rfl, q⟩
  exact ⟨_, rfl, _, rfl, _, _, rfl, rfl, rfl, rfl, q _⟩
/-! entry_with, entry_of -/
theorem or1_all : ((List.range 4096).all fun n => (Builtin.bitOr ((n : Int) * 2 ^ (4 : Int).toNat) 1 == (n : Int) * 16 + 1) && (Builtin.bitOr ((n : Int) * 16 + 1) 2 == (n : Int) * 16 + 3) && (Builtin.bitOr ((n : Int) * 2 ^ (4 : Int).toNat) 2 == (n : Int) * 16 + 2)) = true := by decide +kernel
theorem bits_or {n : Int} (h0 : 0 ≤ n) (h1 : n ≤ 4095) : Builtin.bitOr (n * 2 ^ (4 : Int).toNat) 1 = n * 16 + 1 ∧ Builtin.bitOr (n * 16 + 1) 2 = n * 16 + 3 ∧ Builtin.bitOr (n * 2 ^ (4 : Int).toNat) 2 = n * 16 + 2 := by
  obtain ⟨m, rfl⟩ := Int.eq_ofNat_of_zero_le h0
  have h := List.all_eq_true.mp or1_all m (List.mem_range.mpr (by omega))
  simp only [Bool.and_eq_true, beq_iff_eq] at h
  exact ⟨h.1.1, h.1.2, h.2⟩
def SEntWith : Sp3 := fun ds G Q => ∃ (n : Int) (h : Bool), ds = [.int n, .bl h, .bl true, .bl false, .bl false] ∧ 0 ≤ n ∧ n ≤ 4095 ∧ Q (.int (n * 16 + (if h then 1 else 0) + 2)) G
theorem scEntWith : FnScope ["number", "here", "write", "seen", "put", "cell", "mark", "wished"] ["number", "here", "write", "seen", "put"] (defScope dEntWith) := ⟨rfl, rfl, rfl, by decide +kernel, rfl, by decide +kernel, by decide +kernel⟩
theorem okEntWith {f : Addr} {fd : FuncData} {kws : List (Str × V)} (F : FunD K "entry_with" "entry_with" (defArgs dEntWith) (defBody dEntWith) (defScope dEntWith) [] kws f fd) (T : Txt K w mg) (D : DefOk P w K mg base 2 "is_number" [] SNumber) : FnOk P w K mg base CX0 3 f fd ["number", "here", "write", "seen", "put"] (spl K SEntWith) := by
  refine Fun3D F scEntWith (fun ds G Q ⟨n, h, e, _⟩ => by rw [e]; rfl) fun cdv A outer s H E hr => ⟨_, s_cons (s_if (t_not (t_val (e_call D hr (a_cons (v 0) a_nil)))) ss_never s_nil) (s_cons (s_set (i := 5) scEntWith.nd (e_shl (v 0) e_int))
    (s_cons (s_for rfl (i_tup (e_tup (a_cons (e_tup (a_cons (e_gi' T.HE) (a_cons (v 1) a_nil))) (a_cons (e_tup (a_cons (e_gi' T.WR) (a_cons (v 2) a_nil))) (a_cons (e_tup (a_cons (e_gi' T.SE) (a_cons (v 3) a_nil))) (a_cons (e_tup (a_cons (e_gi' T.PU) (a_cons (v 4) a_nil))) a_nil))))))
      (g_tup rfl (gs_cons (g_name (i := 6) scEntWith.nd) (gs_cons (g_name (i := 7) scEntWith.nd) gs_nil))) (s_one (s_if (t_val (v 7)) (s_one (s_aug (i := 5) ip_or scEntWith.nd (v 6))) s_nil))) (s_one (s_ret (v 5))))), ?_⟩
  rintro ds G Q ⟨n, h, rfl, h0, h1, q⟩
  obtain ⟨b1, b2, b3⟩ := bits_or h0 h1
  refine ⟨_, rfl, n, rfl, h0, h1, true, rfl, ite_f Bool.false_ne_true ?_⟩
  refine ⟨_, rfl, _, _, rfl, rfl, ⟨by decide, by decide, by omega⟩, ?_⟩
  -- cell: the marks so far
  have eL : ∀ (x y : Int) (m w : Option Da), x = y → [some (Da.int n), some (.bl h), some (.bl true), some (.bl false), some (.bl false), some (.int x), m, w] = [some (Da.int n), some (.bl h), some (.bl true), some (.bl false), some (.bl false), some (.int y), m, w] := by
    rintro _ _ _ _ rfl
    rfl
  have go : ∀ (c0 c1 c2 : Int), c0 = n * 2 ^ (4 : Int).toNat → c1 = (if h = true then Builtin.bitOr c0 1 else c0) → c2 = Builtin.bitOr c1 2 → c2 = n * 16 + (if h then 1 else 0) + 2 := by
    rintro c0 c1 c2 rfl rfl rfl
    cases h
    · rw [if_neg Bool.false_ne_true, b3]; simp
    · rw [if_pos rfl, b1, b2]; simp; omega
  obtain ⟨c1, e1⟩ : ∃ c, c = (if h = true then Builtin.bitOr (n * 2 ^ (4 : Int).toNat) 1 else n * 2 ^ (4 : Int).toNat) := ⟨_, rfl⟩
  have e2 := go _ c1 _ rfl e1 rfl
  refine ⟨_, rfl, sz2, _, rfl, sz2, _, rfl, sz2, _, rfl, sz2, sz4, _, rfl, ?_⟩
  refine ⟨fun i τ' G' => G' = G ∧ ∃ m w, τ' = [some (.int n), some (.bl h), some (.bl true), some (.bl false), some (.bl false), some (.int (match i with | 0 => n * 2 ^ (4 : Int).toNat | 1 => c1 | _ => n * 16 + (if h then 1 else 0) + 2)), m, w], ⟨rfl, _, _, rfl⟩, fun _ _ _ _ _ => trivial, ?_, ?_⟩
  · rintro i d τ' G' hd ⟨rfl, m, w, rfl⟩
    match i, hd with
    | 0, hd =>
      cases hd
      refine ⟨_, rfl, rfl, _, _, rfl, _, _, rfl, rfl, _, rfl, _, rfl, ?_⟩
      cases h
      · exact ite_f Bool.false_ne_true ⟨rfl, some (.int 1), some (.bl false), eL _ _ _ _ e1.symm⟩
      · exact ite_t rfl ⟨_, rfl, _, rfl, _, rfl, rfl, some (.int 1), some (.bl true), eL _ _ _ _ e1.symm⟩
    | 1, hd =>
      cases hd
      exact ⟨_, rfl, rfl, _, _, rfl, _, _, rfl, rfl, _, rfl, _, rfl, ite_t rfl ⟨_, rfl, _, rfl, _, rfl, rfl, some (.int 2), some (.bl true), eL _ _ _ _ e2⟩⟩
    | 2, hd =>
      cases hd
      exact ⟨_, rfl, rfl, _, _, rfl, _, _, rfl, rfl, _, rfl, _, rfl, ite_f Bool.false_ne_true ⟨rfl, _, _, rfl⟩⟩
    | 3, hd =>
      cases hd
      exact ⟨_, rfl, rfl, _, _, rfl, _, _, rfl, rfl, _, rfl, _, rfl, ite_f Bool.false_ne_true ⟨rfl, _, _, rfl⟩⟩
    | i + 4, hd => cases hd
  · rintro τ' G' ⟨rfl, m, w, rfl⟩
    exact ⟨_, rfl, q⟩
def SEntOf : Sp3 := fun ds G Q => ∃ c : Int, ds = [.int c] ∧ 0 ≤ c ∧ c ≤ 65535 ∧ ∀ b1 b2 b3 b4 : Bool, Q (.tup [.int (c / 16), .bl b1, .bl b2, .bl b3, .bl b4]) G
theorem scEntOf : FnScope ["cell", "here", "write", "seen", "put", "mark"] ["cell"] (defScope dEntOf) := ⟨rfl, rfl, rfl, by decide +kernel, rfl, by decide +kernel, by decide +kernel⟩
theorem okEntOf {f : Addr} {fd : FuncData} (F : Fun K "entry_of" "entry_of" dEntOf f fd) (T : Txt K w mg) (D1 : DefOk P w K mg base 3 "need_cell" [] SNeedCell) (D2 : DefOk P w K mg base 1 "has_mark" [] SMark) (D3 : DefOk P w K mg base 1 "number_in" [] SNumIn) : FnOk P w K mg base CX0 4 f fd ["cell"] (spl K SEntOf) := by
  refine Fun3 F scEntOf (fun ds G Q ⟨n, e, _⟩ => by rw [e]; rfl) fun cdv A outer s H E hr => ⟨_, s_cons (s_expr (e_call D1 hr (a_cons (v 0) a_nil))) (s_cons (s_asgL rfl (l_lc (own := [("mark", 5)]) rfl scEntOf.nd (i_tup (e_tup (a_cons (e_gi' T.HE) (a_cons (e_gi' T.WR) (a_cons (e_gi' T.SE) (a_cons (e_gi' T.PU) a_nil)))))) (bk ["cell", "here", "write", "seen", "put", "mark"] (defScope dEntOf) (by decide +kernel)) (fun s H C cl fp => g_name (i := 5) scEntOf.nd) (fun s H C cl fp => ts_nil) (fun s H C cl fp => e_call D2 hr (a_cons (v 0) (a_cons (v 5) a_nil))))
    (gs_cons (g_name (i := 1) scEntOf.nd) (gs_cons (g_name (i := 2) scEntOf.nd) (gs_cons (g_name (i := 3) scEntOf.nd) (gs_cons (g_name (i := 4) scEntOf.nd) gs_nil)))))
    (s_one (s_ret (e_tup (a_cons (e_call D3 hr (a_cons (v 0) a_nil)) (a_cons (v 1) (a_cons (v 2) (a_cons (v 3) (a_cons (v 4) a_nil))))))))), ?_⟩
  rintro ds G Q ⟨c, rfl, h0, h1, q⟩
  refine ⟨_, rfl, c, rfl, h0, h1, ?_⟩
  refine ⟨by decide, _, rfl, ?_⟩
  refine ⟨fun i acc G' => G' = G ∧ ∃ bs : List Bool, bs.length = i ∧ acc = bs.map .bl, ⟨rfl, [], rfl, rfl⟩, ?_, ?_, ?_⟩
  · rintro i acc G' hi ⟨rfl, bs, hb, rfl⟩
    refine ⟨trivial, small_len ?_⟩
    rw [List.length_map, hb]
    have h4 : i ≤ 4 := hi
    omega
  · rintro i d acc G' hd ⟨rfl, bs, hb, rfl⟩
    have hm : ∃ m : Int, d = .int m := by
      match i, hd with
      | 0, hd => cases hd; exact ⟨_, rfl⟩
      | 1, hd => cases hd; exact ⟨_, rfl⟩
      | 2, hd => cases hd; exact ⟨_, rfl⟩
      | 3, hd => cases hd; exact ⟨_, rfl⟩
      | i + 4, hd => cases hd
    obtain ⟨m, rfl⟩ := hm
    refine ⟨_, rfl, _, rfl, c, m, rfl, fun b => ⟨rfl, bs ++ [b], ?_, ?_⟩⟩
    · rw [List.length_append, hb]; rfl
    · rw [List.map_append]; rfl
  · rintro acc G' ⟨rfl, bs, hb, rfl⟩
    match bs, hb with
    | [b1, b2, b3, b4], _ =>
      exact ⟨rfl, _, _, rfl, _, _, rfl, _, _, rfl, _, _, rfl, rfl, _, rfl, c, rfl, _, rfl, _, rfl, _, rfl, _, rfl, sz5, q b1 b2 b3 b4⟩
end
end Lw
set_option maxHeartbeats 4000000
/-! holders, rows of holders, the ledger -/
namespace Lw
open PySem PySem.Spec PyProof.Rows L2
abbrev dHolder : Stmt := top 37
abbrev dRising : Stmt := top 38
abbrev dHolders : Stmt := top 39
abbrev dOfTable : Stmt := top 40
abbrev dLedger : Stmt := top 41
abbrev dNeedHolder : Stmt := top 42
theorem bl_t {c : Prop} [Decidable c] (h : c) : Da.bl (decide c) = Da.bl true := by rw [decide_eq_true h]
theorem bl_f {c : Prop} [Decidable c] (h : ¬ c) : Da.bl (decide c) = Da.bl false := by rw [decide_eq_false h]
def HdOk (h : Hd) : Prop := ∃ m, lastP h.w = some m ∧ 0 ≤ h.l ∧ h.l ≤ 1000000 ∧ 0 ≤ h.p ∧ h.p ≤ m
abbrev roD (hs : List Hd) : Da := .tup (hs.map hD)
/-- a row as the pool holds it -/
def RowOk (hs : List Hd) : Prop := (∀ h ∈ hs, HdOk h) ∧ hs.Pairwise fun a b => hLt a b = true
theorem cut_tail (ds : List Da) : cutD ds (some 1) none = ds.drop 1 := by
  unfold cutD
  have e : HT.sIx ds.length 0 (some 1) = min 1 ds.length := HT.sIx_nat ds.length 0 1
  rw [HT.sIx_none, e]
  cases ds with
  | nil => rfl
  | cons d ds =>
    have : min 1 (d :: ds).length = 1 := by rw [List.length_cons]; omega
    rw [this]
    show List.take (ds.length + 1 - 1) ds = ds
    rw [Nat.add_sub_cancel, List.take_length]
theorem zip_lt : ∀ {hs : List Hd}, (hs.Pairwise fun a b => hLt a b = true) → ∀ d ∈ zipD (hs.map hD) ((hs.map hD).drop 1), ∃ a b : Hd, d = .tup [hD a, hD b] ∧ hLt a b = true
  | [], _, d, hd => by cases hd
  | [a], _, d, hd => by cases hd
  | a :: b :: hs, hp, d, hd => by
    cases hp with
    | cons h1 h2 =>
      rcases List.mem_cons.mp (show d ∈ Da.tup [hD a, hD b] :: zipD ((b :: hs).map hD) (((b :: hs).map hD).drop 1) from hd) with rfl | hd
      · exact ⟨a, b, rfl, h1 b List.mem_cons_self⟩
      · exact zip_lt h2 d hd
section
variable {P : Program} {w : World} {K : PySem.W.Frag} {mg : Str → Option Value} {base : Heap} {k : Nat}
/-! is_holder -/
def SHolder : Sp3 := fun ds G Q => ∃ h, ds = [hD h] ∧ HdOk h ∧ Q (.bl true) G
theorem scHolder : FnScope ["thing", "word", "number", "part"] ["thing"] (defScope dHolder) := ⟨rfl, rfl, rfl, by decide +kernel, rfl, by decide +kernel, by decide +kernel⟩
theorem okHolder {f : Addr} {fd : FuncData} (F : Fun K "is_holder" "is_holder" dHolder f fd) (T : Txt K w mg) (D : DefOk P w K mg base 1 "is_within" [] SWithin) : FnOk P w K mg base CX0 2 f fd ["thing"] (spl K SHolder) := by
  obtain ⟨la, es, n, hLP, KD, hf⟩ := T.LP
  refine Fun3 F scHolder (fun ds G Q ⟨n, e, _⟩ => by rw [e]; rfl) fun cdv A outer s H E hr => ⟨_, s_cons (s_if (w_pt (w_or (t_not (t_val (e_isi T.isi T.tuple (by rfl) (v 0)))) (w_or (t_ne hr.units (e_len T.len (v 0)) e_int)
    (w_or (t_not (t_val (e_isi T.isi T.str (by rfl) (e_ixT (v 0) e_int)))) (w_or1 (t_notKD KD hf (e_ixT (v 0) e_int) (e_gl (d := .obj la) (w := .ref la) hLP rfl (fun _ => rfl)))))))) (s_one (s_ret e_bl)) s_nil)
    (s_cons (s_asg (v 0) (g_tup rfl (gs_cons (g_name (i := 1) scHolder.nd) (gs_cons (g_name (i := 2) scHolder.nd) (gs_cons (g_name (i := 3) scHolder.nd) gs_nil)))))
    (s_one (s_ret (e_and (e_call D hr (a_cons (v 2) (a_cons e_int (a_cons (e_gi' T.FA) a_nil)))) (e_one (e_call D hr (a_cons (v 3) (a_cons e_int (a_cons (e_ixKD KD hf (e_gl (d := .obj la) (w := .ref la) hLP rfl (fun _ => rfl)) (v 1)) a_nil))))))))), ?_⟩
  rintro ds G Q ⟨⟨z, l, p⟩, rfl, ⟨m, hm, h0, h1, h2, h3⟩, q⟩
  refine ⟨_, rfl, _, _, _, rfl, rfl, true, rfl, ?_⟩
  refine ⟨_, rfl, _, rfl, .inl ⟨_, rfl, rfl, rfl, false, ?_, ?_⟩⟩
  · show Da.bl (!eqB (.int 3) (.int 3)) = _
    rw [eqB_t rfl]; rfl
  refine ⟨_, rfl, _, _, _, rfl, rfl, rfl, _, _, _, rfl, rfl, true, rfl, ?_⟩
  refine ⟨_, rfl, _, _, _, rfl, rfl, rfl, _, rfl, rfl, by rw [hm]; rfl, false, rfl, ?_⟩
  refine ⟨_, rfl, _, rfl, rfl, _, _, rfl, _, _, rfl, _, _, rfl, rfl, ?_⟩
  refine ⟨_, rfl, l, 0, 1000000, rfl, true, by rw [decide_eq_true ⟨h0, h1⟩], ?_⟩
  refine ⟨_, rfl, _, rfl, _, _, rfl, rfl, hm, p, 0, m, rfl, ?_⟩
  rw [decide_eq_true ⟨h2, h3⟩]
  exact q
/-! are_rising, are_holders, of_table -/
def SRising : Sp3 := fun ds G Q => ∃ hs, ds = [roD hs] ∧ hs.length ≤ 60 ∧ (hs.Pairwise fun a b => hLt a b = true) ∧ Q (.bl true) G
theorem scRising : FnScope ["holders", "one", "other"] ["holders"] (defScope dRising) := ⟨rfl, rfl, rfl, by decide +kernel, rfl, by decide +kernel, by decide +kernel⟩
theorem okRising {f : Addr} {fd : FuncData} (F : Fun K "are_rising" "are_rising" dRising f fd) (T : Txt K w mg) : FnOk P w K mg base CX0 1 f fd ["holders"] (spl K SRising) := by
  refine Fun3 F scRising (fun ds G Q ⟨n, e, _⟩ => by rw [e]; rfl) fun cdv A outer s H E hr => ⟨_, s_one (s_ret (e_all rfl T.all (l_lc (own := [("one", 1), ("other", 2)]) rfl scRising.nd (i_zip T.zip (v 0) (e_sl (v 0) (o_some e_int) o_none)) (bk ["holders", "one", "other"] (defScope dRising) (by decide +kernel))
    (fun s H C cl fp => g_tup (n := 2) rfl (gs_cons (g_name (i := 1) scRising.nd) (gs_cons (g_name (i := 2) scRising.nd) gs_nil))) (fun s H C cl fp => ts_nil) (fun s H C cl fp => e_ltH (by have := hr.units; exact Nat.lt_of_le_of_lt (Nat.add_le_add_left (by decide) _) this) (v 1) (v 2))))), ?_⟩
  rintro ds G Q ⟨hs, rfl, hl, hp, q⟩
  refine ⟨_, rfl, _, rfl, _, rfl, _, rfl, _, _, rfl, rfl, ?_⟩
  rw [cut_tail]
  refine lc_map (fun _ => .bl true) trivial (small_len ?_) (fun d hd R h => ?_) ?_
  · rw [zipD_len, List.length_map]; omega
  · obtain ⟨a, b, rfl, hab⟩ := zip_lt hp d hd
    refine ⟨_, rfl, rfl, _, _, rfl, _, _, rfl, rfl, _, rfl, _, rfl, a, b, rfl, rfl, ?_⟩
    rw [hab]
    exact h
  · refine ⟨_, bl_map _ fun _ => true, ?_⟩
    rw [all_t]
    exact q
def SHolders : Sp3 := fun ds G Q => ∃ hs, ds = [roD hs] ∧ hs.length ≤ 60 ∧ RowOk hs ∧ Q (.bl true) G
theorem scHolders : FnScope ["thing", "one"] ["thing"] (defScope dHolders) := ⟨rfl, rfl, rfl, by decide +kernel, rfl, by decide +kernel, by decide +kernel⟩
theorem okHolders {f : Addr} {fd : FuncData} (F : Fun K "are_holders" "are_holders" dHolders f fd) (T : Txt K w mg) (D1 : DefOk P w K mg base 2 "is_holder" [] SHolder) (D2 : DefOk P w K mg base 1 "are_rising" [] SRising) : FnOk P w K mg base CX0 3 f fd ["thing"] (spl K SHolders) := by
  refine Fun3 F scHolders (fun ds G Q ⟨n, e, _⟩ => by rw [e]; rfl) fun cdv A outer s H E hr => ⟨_, s_one (s_ret (e_and (e_isi T.isi T.tuple (by rfl) (v 0)) (e_and (e_all rfl T.all (l_lc (own := [("one", 1)]) rfl scHolders.nd (i_tup (v 0)) (bk ["thing", "one"] (defScope dHolders) (by decide +kernel))
    (fun s H C cl fp => g_name (i := 1) scHolders.nd) (fun s H C cl fp => ts_nil) (fun s H C cl fp => e_call D1 hr (a_cons (v 1) a_nil)))) (e_one (e_call D2 hr (a_cons (v 0) a_nil)))))), ?_⟩
  rintro ds G Q ⟨hs, rfl, hl, ⟨h1, h2⟩, q⟩
  refine ⟨_, rfl, _, _, _, rfl, rfl, true, rfl, ?_⟩
  refine ⟨_, rfl, _, rfl, lc_map (fun _ => .bl true) trivial (small_len (by rw [List.length_map]; omega)) (fun d hd R h => ?_) ?_⟩
  · obtain ⟨x, hx, rfl⟩ := List.mem_map.mp hd
    exact ⟨_, rfl, x, rfl, h1 x hx, h⟩
  · refine ⟨_, bl_map _ fun _ => true, true, by rw [all_t], ?_⟩
    exact ⟨_, rfl, hs, rfl, hl, h2, q⟩
def tabB (hs : List Hd) : Bool := hs.any fun h => decide (h.w = "table")
def SOfTable : Sp3 := fun ds G Q => ∃ hs, ds = [roD hs] ∧ hs.length ≤ 60 ∧ (∀ h ∈ hs, HdOk h) ∧ Q (.bl (tabB hs)) G
theorem lastP_ok {z : Str} {m : Int} (h : lastP z = some m) : okD 4 (.str z) = true := by
  unfold lastP at h
  split at h
  · rename_i e; subst e; decide +kernel
  · split at h
    · rename_i e; subst e; decide +kernel
    · split at h
      · rename_i e; subst e; decide +kernel
      · cases h
theorem scOfTable : FnScope ["holders", "word", "others"] ["holders"] (defScope dOfTable) := ⟨rfl, rfl, rfl, by decide +kernel, rfl, by decide +kernel, by decide +kernel⟩
theorem okOfTable {f : Addr} {fd : FuncData} (F : Fun K "of_table" "of_table" dOfTable f fd) (T : Txt K w mg) : FnOk P w K mg base CX0 1 f fd ["holders"] (spl K SOfTable) := by
  refine Fun3 F scOfTable (fun ds G Q ⟨n, e, _⟩ => by rw [e]; rfl) fun cdv A outer s H E hr => ⟨_, s_one (s_ret (e_any rfl T.any (l_lc (own := [("word", 1), ("others", 2)]) rfl scOfTable.nd (i_tup (v 0)) (bk ["holders", "word", "others"] (defScope dOfTable) (by decide +kernel))
    (fun s H C cl fp => g_starD (j := 2) rfl scOfTable.nd (g_name (i := 1) scOfTable.nd)) (fun s H C cl fp => ts_nil) (fun s H C cl fp => e_eq hr.units (v 1) (e_gs' T.TA))))), ?_⟩
  rintro ds G Q ⟨hs, rfl, hl, ho, q⟩
  refine ⟨_, rfl, _, rfl, ?_⟩
  let f : Da → Bool := fun d => match d with | .tup (.str z :: _) => decide (z = "table") | _ => false
  refine lc_map (fun d => .bl (f d)) trivial (small_len (by rw [List.length_map]; omega)) (fun d hd R h => ?_) ?_
  · obtain ⟨x, hx, rfl⟩ := List.mem_map.mp hd
    obtain ⟨m, hm, _⟩ := ho x hx
    refine ⟨_, _, rfl, (by show 2 ≤ 16000; omega), _, rfl, lastP_ok hm, (show okD 4 (.str "table") = true by decide +kernel), ?_⟩
    show R (.bl (eqB (.str x.w) (.str "table"))) G
    rw [eqB_str]
    exact h
  · refine ⟨_, bl_map _ f, ?_⟩
    have e : (((hs.map hD).map f).any fun b => b) = tabB hs := by
      rw [List.map_map, List.any_map]
      rfl
    rw [e]
    exact q
/-! is_ledger -/
structure LedOk (rows : List (List Hd)) : Prop where
  l0 : 4 ≤ rows.length
  l1 : rows.length ≤ 48
  ok : ∀ r ∈ rows, r.length ≤ 60 ∧ RowOk r
  alone : ∀ r ∈ rows, 1 < r.length → tabB r = false
  nd : rows.flatten.Nodup
  few : rows.flatten.length < 63
abbrev leD (rows : List (List Hd)) : Da := .tup (rows.map roD)
def SLedger : Sp3 := fun ds G Q => ∃ rows, ds = [leD rows] ∧ LedOk rows ∧ Q (.bl true) G
theorem sum_len : ∀ rows : List (List Hd), (rows.map fun r => (r.length : Int)).sum = (rows.flatten.length : Nat)
  | [] => rfl
  | r :: rows => by
    rw [List.map_cons, List.sum_cons, sum_len rows, List.flatten_cons, List.length_append]
    omega
abbrev nLedger : List Str := ["thing", "row", "holder"]
theorem scLedger : FnScope nLedger ["thing"] (defScope dLedger) := ⟨rfl, rfl, rfl, by decide +kernel, rfl, by decide +kernel, by decide +kernel⟩
theorem okLedger {f : Addr} {fd : FuncData} (F : Fun K "is_ledger" "is_ledger" dLedger f fd) (T : Txt K w mg) (D1 : DefOk P w K mg base 3 "are_holders" [] SHolders) (D2 : DefOk P w K mg base 1 "of_table" [] SOfTable) : FnOk P w K mg base CX0 4 f fd ["thing"] (spl K SLedger) := by
  refine Fun3 F scLedger (fun ds G Q ⟨n, e, _⟩ => by rw [e]; rfl) fun cdv A outer s H E hr => ⟨_, s_cons (s_if (w_pt (w_or (t_not (t_val (e_isi T.isi T.tuple (by rfl) (v 0)))) (w_or (t_not (t_lele (e_gi' T.FE) (e_len T.len (v 0)) (e_gi' T.MP)))
      (w_or1 (t_not (t_val (e_all rfl T.all (l_lc (own := [("row", 1)]) rfl scLedger.nd (i_tup (v 0)) (bk nLedger (defScope dLedger) (by decide +kernel)) (fun s H C cl fp => g_name (i := 1) scLedger.nd) (fun s H C cl fp => ts_nil) (fun s H C cl fp => e_call D1 hr (a_cons (v 1) a_nil)))))))))) (s_one (s_ret e_bl)) s_nil)
    (s_cons (s_if (t_val (e_any rfl T.any (l_lc (own := [("row", 1)]) rfl scLedger.nd (i_tup (v 0)) (bk nLedger (defScope dLedger) (by decide +kernel)) (fun s H C cl fp => g_name (i := 1) scLedger.nd) (fun s H C cl fp => ts_nil) (fun s H C cl fp => e_and (e_gt (e_len T.len (v 1)) e_int) (e_one (e_call D2 hr (a_cons (v 1) a_nil))))))) (s_one (s_ret e_bl)) s_nil)
    (s_one (s_ret (e_eq hr.units (e_lenSet (i := 1) (j := 2) (own := [("row", 1), ("holder", 2)]) (by have := hr.units; exact Nat.lt_of_le_of_lt (Nat.add_le_add_left (by decide) _) this) rfl scLedger.nd T.len (bk nLedger (defScope dLedger) (by decide +kernel)) (v 0)
        (fun s H C cl fp => g_name (i := 1) scLedger.nd) (fun s H C cl fp => v 1) (fun s H C cl fp => g_name (i := 2) scLedger.nd) (fun s H C cl fp => v 2))
      (e_sum rfl T.sum (l_lc (own := [("row", 1)]) rfl scLedger.nd (i_tup (v 0)) (bk nLedger (defScope dLedger) (by decide +kernel)) (fun s H C cl fp => g_name (i := 1) scLedger.nd) (fun s H C cl fp => ts_nil) (fun s H C cl fp => e_len T.len (v 1)))))))), ?_⟩
  rintro ds G Q ⟨rows, rfl, R, q⟩
  have hl : (rows.map roD).length < sizeLine := small_len (by rw [List.length_map]; have := R.l1; omega)
  have e1 : ((rows.map roD).length : Int) = (rows.length : Nat) := by rw [List.length_map]
  refine ⟨_, rfl, _, _, _, rfl, rfl, true, rfl, ?_⟩
  refine ⟨_, rfl, _, rfl, .inl ⟨_, rfl, _, _, rfl, rfl, true, ?_, _, _, rfl, rfl, true, ?_, ?_⟩⟩
  · rw [e1]; exact bl_t (c := (4 : Int) ≤ rows.length) (by have := R.l0; omega)
  · rw [e1]; exact bl_t (c := (rows.length : Int) ≤ 48) (by have := R.l1; omega)
  refine ⟨_, rfl, _, rfl, lc_map (fun _ => .bl true) trivial hl (fun d hd R' h => ?_) ?_⟩
  · obtain ⟨x, hx, rfl⟩ := List.mem_map.mp hd
    exact ⟨_, rfl, x, rfl, (R.ok x hx).1, (R.ok x hx).2, h⟩
  refine ⟨_, bl_map _ fun _ => true, true, by rw [all_t], ?_⟩
  refine ⟨_, rfl, _, rfl, lc_map (fun _ => .bl false) trivial hl (fun d hd R' h => ?_) ?_⟩
  · obtain ⟨x, hx, rfl⟩ := List.mem_map.mp hd
    refine ⟨_, rfl, _, rfl, .inl ⟨_, rfl, _, _, rfl, rfl, _, rfl, ?_⟩⟩
    by_cases h1 : (1 : Int) < ((x.map hD).length : Int)
    · refine ite_t (decide_eq_true h1) ⟨_, rfl, x, rfl, (R.ok x hx).1, (R.ok x hx).2.1, ?_⟩
      rw [R.alone x hx (by rw [List.length_map] at h1; omega)]
      exact h
    · refine ite_f (by simpa using h1) ?_
      exact h
  refine ⟨_, bl_map _ fun _ => false, false, ?_, ?_⟩
  · have : ((List.map roD rows).map fun _ => false).any (fun b => b) = false := by
      rw [List.any_eq_false]
      intro b hb
      obtain ⟨_, _, rfl⟩ := List.mem_map.mp hb
      exact Bool.false_ne_true
    rw [this]
  refine ⟨by show 1 < 3; omega, by show 2 < 3; omega, _, rfl, rows, rfl, R.nd, R.few, ?_⟩
  refine ⟨_, rfl, _, rfl, lc_map (fun d => .int (match d with | .tup es => (es.length : Int) | _ => 0)) trivial hl (fun d hd R' h => ?_) ?_⟩
  · obtain ⟨x, hx, rfl⟩ := List.mem_map.mp hd
    exact ⟨_, rfl, _, rfl, .inl ⟨_, rfl, h⟩⟩
  refine ⟨rows.map fun r => (r.length : Int), ?_, rfl, rfl, ?_⟩
  · rw [List.map_map, List.map_map]
    refine List.map_congr_left fun r _ => ?_
    show Da.int ((r.map hD).length : Int) = Da.int (r.length : Int)
    rw [List.length_map]
  · rw [sum_len, eqB_t rfl]
    exact q
def SNeedHolder : Sp3 := fun ds G Q => ∃ h, ds = [hD h] ∧ HdOk h ∧ Q .non G
theorem scNeedHolder : FnScope ["thing"] ["thing"] (defScope dNeedHolder) := ⟨rfl, rfl, rfl, by decide +kernel, rfl, by decide +kernel, by decide +kernel⟩
theorem okNeedHolder {f : Addr} {fd : FuncData} (F : Fun K "need_holder" "need_holder" dNeedHolder f fd) (D : DefOk P w K mg base 2 "is_holder" [] SHolder) : FnOk P w K mg base CX0 3 f fd ["thing"] (spl K SNeedHolder) := by
  refine Fun3 F scNeedHolder (fun ds G Q ⟨t, h, _⟩ => by rw [h]; rfl) fun cdv A outer s H E hr => ⟨_, s_one (s_if (t_not (t_val (e_call D hr (a_cons (v 0) a_nil)))) ss_never s_nil), ?_⟩
  rintro ds G Q ⟨t, rfl, h0, q⟩
  exact ⟨_, rfl, t, rfl, h0, true, rfl, ite_f Bool.false_ne_true q⟩
end
end Lw
set_option maxHeartbeats 4000000
/-! the pool -/
namespace Lw
open PySem PySem.Spec PyProof.Rows L2
/-! new dicts -/
section
variable {X : Cx} {pos : Pos}
def eNewT : TE3 := fun _ G Q => ∀ p, G p = none → Q (.obj p) (up G p (.dT []))
def eNewK : TE3 := fun _ G Q => ∀ p, G p = none → Q (.obj p) (up G p (.dK []))
theorem e_newT : PE3 X (.Dict [] [] pos) eNewT := pe_imp pe_dnewT fun σ H Q h => by
  obtain ⟨τ, G, Q3, s, r, h, k⟩ := h
  intro p hp
  exact k (.ref p) _ (.obj p) _ (go_track hp) (r0_track (ao := .dT []) r hp ⟨[], upd_same, .nil⟩) rfl (h p (r.gnone hp))
theorem e_newK : PE3 X (.Dict [] [] pos) eNewK := pe_imp pe_dnewK fun σ H Q h => by
  obtain ⟨τ, G, Q3, s, r, h, k⟩ := h
  intro p hp
  exact k (.ref p) _ (.obj p) _ (go_track hp) (r0_track (ao := .dK []) r hp ⟨[], upd_same, .nil⟩) rfl (h p (r.gnone hp))
end
/-! places -/
theorem at_nat {α : Type} {l : List α} {i : Nat} {x : α} (h : l[i]? = some x) : atI l (i : Int) = some x := L2.atI_nat h
theorem ix_nat {n i : Nat} (h : i < n) : ixN n (i : Int) = some i := by
  unfold ixN
  rw [if_pos (by omega), if_pos (by omega)]
  simp
/-! a holder's spot -/
def spot (sp : List (Hd × Nat)) (h : Hd) : Option Nat := (sp.find? fun q => decide (q.1 = h)).map (·.2)
abbrev spD (q : Hd × Nat) : List L2.Key × Da := (hk q.1, .int (q.2 : Nat))
theorem spot_nil (h : Hd) : spot [] h = none := rfl
theorem spot_cons (q : Hd × Nat) (r : List (Hd × Nat)) (h : Hd) : spot (q :: r) h = if q.1 = h then some q.2 else spot r h := by
  unfold spot
  rw [List.find?_cons]
  by_cases e : q.1 = h
  · simp [e]
  · simp [e]
theorem look_sp (h : Hd) : ∀ sp : List (Hd × Nat), look (sp.map spD) (hk h) = (spot sp h).map fun f => .int (f : Nat)
  | [] => rfl
  | q :: r => by
    rw [List.map_cons, spot_cons]
    by_cases e : q.1 = h
    · rw [look_pos (by show hk q.1 = hk h; rw [e]), if_pos e]; rfl
    · rw [look_neg (fun z => e (hk_inj z)), if_neg e, look_sp h r]
theorem put_sp {sp : List (Hd × Nat)} {h : Hd} (f : Nat) (n : spot sp h = none) : putA (sp.map spD) (hk h) (.int (f : Nat)) = (sp ++ [(h, f)]).map spD := by
  unfold putA
  rw [look_any, look_sp, n]
  simp
theorem del_sp (h : Hd) : ∀ sp : List (Hd × Nat), delA (sp.map spD) (hk h) = (sp.filter fun q => decide (q.1 ≠ h)).map spD
  | [] => rfl
  | q :: r => by
    have ih := del_sp h r
    unfold delA at ih ⊢
    rw [List.map_cons, List.filter_cons, List.filter_cons, ih]
    by_cases e : q.1 = h
    · have e2 : hk q.1 = hk h := by rw [e]
      simp [e, e2]
    · have e2 : ¬ hk q.1 = hk h := fun z => e (hk_inj z)
      simp [e, e2]

structure PA where
  p : Addr
  a : Addr
  b : Addr
  c : Addr
structure PS where
  sh : List (List Int)
  ha : List (List Hd)
  sp : List (Hd × Nat)
abbrev pF (A : PA) : List (Str × Da) := [("sheets", .obj A.a), ("hands", .obj A.b), ("spots", .obj A.c)]
structure PoolAt (C : Addr) (A : PA) (s : PS) (G : Gp) : Prop where
  p : G A.p = some (.ins C (pF A))
  a : G A.a = some (.lst (s.sh.map pD))
  b : G A.b = some (.lst (s.ha.map roD))
  c : G A.c = some (.dT (s.sp.map spD))
  ab : A.a ≠ A.b
structure PWf (s : PS) : Prop where
  ln : s.sh.length = s.ha.length
  l0 : 4 ≤ s.ha.length
  l1 : s.ha.length ≤ 48
  pg : ∀ g ∈ s.sh, PgOk g
  ok : ∀ r ∈ s.ha, r.length ≤ 60 ∧ RowOk r
  few : s.sp.length ≤ 60
theorem ne_kind {G : Gp} {a b : Addr} {o u : AO} (ha : G a = some o) (hb : G b = some u) (h : o ≠ u) : a ≠ b := by
  rintro rfl
  rw [ha] at hb
  exact h (Option.some.inj hb)
/-- all but the pool's own lists stays -/
def PK (A : PA) (G G' : Gp) : Prop := ∀ x o, x ≠ A.a → x ≠ A.b → x ≠ A.c → G x = some o → G' x = some o
theorem PK.refl (A : PA) (G : Gp) : PK A G G := fun _ _ _ _ _ h => h
theorem PK.trans {A : PA} {G G1 G2 : Gp} (h : PK A G G1) (h' : PK A G1 G2) : PK A G G2 := fun x o a b c e => h' x o a b c (h x o a b c e)
section
variable {C : Addr} {A : PA} {s : PS} {G : Gp}
theorem PoolAt.pa (h : PoolAt C A s G) : A.p ≠ A.a := ne_kind h.p h.a nofun
theorem PoolAt.pb (h : PoolAt C A s G) : A.p ≠ A.b := ne_kind h.p h.b nofun
theorem PoolAt.pc (h : PoolAt C A s G) : A.p ≠ A.c := ne_kind h.p h.c nofun
theorem PoolAt.ac (h : PoolAt C A s G) : A.a ≠ A.c := ne_kind h.a h.c nofun
theorem PoolAt.bc (h : PoolAt C A s G) : A.b ≠ A.c := ne_kind h.b h.c nofun
theorem PoolAt.upA (h : PoolAt C A s G) (l : List (List Int)) : PoolAt C A { s with sh := l } (up G A.a (.lst (l.map pD))) ∧ PK A G (up G A.a (.lst (l.map pD))) :=
  ⟨⟨by rw [up_ne h.pa]; exact h.p, up_same, by rw [up_ne h.ab.symm]; exact h.b, by rw [up_ne h.ac.symm]; exact h.c, h.ab⟩, fun x o n _ _ e => by rw [up_ne n]; exact e⟩
theorem PoolAt.upB (h : PoolAt C A s G) (l : List (List Hd)) : PoolAt C A { s with ha := l } (up G A.b (.lst (l.map roD))) ∧ PK A G (up G A.b (.lst (l.map roD))) :=
  ⟨⟨by rw [up_ne h.pb]; exact h.p, by rw [up_ne h.ab]; exact h.a, up_same, by rw [up_ne h.bc.symm]; exact h.c, h.ab⟩, fun x o _ n _ e => by rw [up_ne n]; exact e⟩
theorem PoolAt.upC (h : PoolAt C A s G) (l : List (Hd × Nat)) : PoolAt C A { s with sp := l } (up G A.c (.dT (l.map spD))) ∧ PK A G (up G A.c (.dT (l.map spD))) :=
  ⟨⟨by rw [up_ne h.pc]; exact h.p, by rw [up_ne h.ac]; exact h.a, by rw [up_ne h.bc]; exact h.b, up_same, h.ab⟩, fun x o _ _ n e => by rw [up_ne n]; exact e⟩
end
abbrev pool (j : Nat) : Stmt := inClass (top 43) j
structure PTx (K : PySem.W.Frag) (mg : Str → Option Value) (C : Addr) : Prop where
  cl : Cls K C
  s : NoAttr K C "sheets"
  h : NoAttr K C "hands"
  t : NoAttr K C "spots"
section
variable {P : Program} {w : World} {K : PySem.W.Frag} {mg : Str → Option Value} {base : Heap} {k : Nat} {C : Addr}
theorem toMeth {x qual : Str} {st : Stmt} {f : Addr} {fd : FuncData} {ps : List Str} {S : Sp3} {m : Str} (G : FnOk P w K mg base CX0 k f fd ps (spl K S)) (hm : Meth K C m f) (hb : Binds K fd ps []) : MethOk P w K mg base k C m [] S :=
  ⟨f, fd, ps, [], [], G, hm, hb, .nil, fun _ => rfl⟩
theorem ub {k : Nat} {A : Around} (hr : Room k A) : A.units + 1 < cLine := by have := hr.units; omega
theorem ub4 {k : Nat} {A : Around} (hr : Room k A) : A.units + 4 < cLine := by have := hr.units; omega
/-! need_frame -/
def SNeedFrame (C : Addr) : Sp3 := fun ds G Q => ∃ A s f, ds = [.obj A.p, .int (f : Nat)] ∧ PoolAt C A s G ∧ f < s.sh.length ∧ Q .non G
theorem scNeedFrame : FnScope ["self", "frame"] ["self", "frame"] (defScope (pool 1)) := ⟨rfl, rfl, rfl, by decide +kernel, rfl, by decide +kernel, by decide +kernel⟩
theorem okNeedFrame {f : Addr} {fd : FuncData} (F : Fun K "need_frame" "Pool.need_frame" (pool 1) f fd) (T : Txt K w mg) (TC : PTx K mg C) (D : DefOk P w K mg base 1 "is_within" [] SWithin) : FnOk P w K mg base CX0 2 f fd ["self", "frame"] (spl K (SNeedFrame C)) := by
  refine Fun3 F scNeedFrame (fun ds G Q ⟨_, _, _, e, _⟩ => by rw [e]; rfl) fun cdv A outer s H E hr => ⟨_, s_one (s_if (t_not (t_val (e_call D hr (a_cons (v 1) (a_cons e_int (a_cons (e_sub (e_len T.len (e_fld TC.cl TC.s (v 0))) e_int) a_nil)))))) ss_never s_nil), ?_⟩
  rintro ds G Q ⟨A, s, f, rfl, p, hf, q⟩
  refine ⟨_, rfl, _, rfl, A.p, _, _, rfl, p.p, rfl, _, rfl, .inr (.inl ⟨_, _, rfl, p.a, _, _, rfl, rfl, f, 0, _, rfl, true, ?_, ?_⟩)⟩
  · refine bl_t ?_
    rw [List.length_map]
    show (0 : Int) ≤ (f : Nat) ∧ ((f : Nat) : Int) ≤ (s.sh.length : Nat) - 1
    omega
  · exact ite_f Bool.false_ne_true q
/-! need_held -/
def SNeedHeld (C : Addr) : Sp3 := fun ds G Q => ∃ A s f r, ds = [.obj A.p, .int (f : Nat)] ∧ PoolAt C A s G ∧ PWf s ∧ s.ha[f]? = some r ∧ r ≠ [] ∧ Q .non G
theorem scNeedHeld : FnScope ["self", "frame"] ["self", "frame"] (defScope (pool 2)) := ⟨rfl, rfl, rfl, by decide +kernel, rfl, by decide +kernel, by decide +kernel⟩
theorem row_ok {r : List Hd} (h : ∀ x ∈ r, HdOk x) : Ok (roD r) := by
  show okD 4 (.tup (r.map hD)) = true
  unfold okD
  rw [List.all_eq_true]
  intro d hd
  obtain ⟨x, hx, rfl⟩ := List.mem_map.mp hd
  obtain ⟨m, hm, _⟩ := h x hx
  have := lastP_ok hm
  unfold okD at this
  show okD 3 (.tup [.str x.w, .int x.l, .int x.p]) = true
  simp [okD, this]
theorem mem_get {α : Type} {l : List α} {i : Nat} {x : α} (h : l[i]? = some x) : x ∈ l := List.mem_of_getElem? h
theorem lt_get {α : Type} {l : List α} {i : Nat} {x : α} (h : l[i]? = some x) : i < l.length := (List.getElem?_eq_some_iff.mp h).1
theorem map_get {α β : Type} (g : α → β) {l : List α} {i : Nat} {x : α} (h : l[i]? = some x) : (l.map g)[i]? = some (g x) := by rw [List.getElem?_map, h]; rfl
theorem ok_nil : Ok (.tup []) := rfl
theorem okNeedHeld {f : Addr} {fd : FuncData} (F : Fun K "need_held" "Pool.need_held" (pool 2) f fd) (T : Txt K w mg) (TC : PTx K mg C) (D : MethOk P w K mg base 2 C "need_frame" [] (SNeedFrame C)) : FnOk P w K mg base CX0 3 f fd ["self", "frame"] (spl K (SNeedHeld C)) := by
  refine Fun3 F scNeedHeld (fun ds G Q ⟨_, _, _, _, e, _⟩ => by rw [e]; rfl) fun cdv A outer s H E hr => ⟨_, s_cons (s_expr (e_meth D TC.cl hr (v 0) (a_cons (v 1) a_nil))) (s_one (s_if (t_eq hr.units (e_ixL (e_fld TC.cl TC.h (v 0)) (v 1)) (e_tup a_nil)) ss_never s_nil)), ?_⟩
  rintro ds G Q ⟨A, s, f, r, rfl, p, W, hf, hne, q⟩
  refine ⟨_, rfl, A.p, _, rfl, p.p, rfl, _, rfl, A, s, f, rfl, p, by rw [W.ln]; exact lt_get hf, ?_⟩
  refine ⟨_, rfl, A.p, _, _, rfl, p.p, rfl, _, rfl, A.b, _, _, _, rfl, rfl, p.b, at_nat (map_get _ hf), by show 0 ≤ sizeLine; decide, row_ok (W.ok r (mem_get hf)).2.1, ok_nil, false, ?_, ?_⟩
  · rw [eqB_f]
    intro e
    cases r with
    | nil => exact hne rfl
    | cons x r => cases e
  · exact ite_f Bool.false_ne_true q
/-! spot_of, need_new -/
def SSpotOf (C : Addr) : Sp3 := fun ds G Q => ∃ A s h, ds = [.obj A.p, hD h] ∧ PoolAt C A s G ∧ Q (((spot s.sp h).map fun f => Da.int (f : Nat)).getD .non) G
theorem scSpotOf : FnScope ["self", "holder"] ["self", "holder"] (defScope (pool 4)) := ⟨rfl, rfl, rfl, by decide +kernel, rfl, by decide +kernel, by decide +kernel⟩
theorem okSpotOf {f : Addr} {fd : FuncData} (F : Fun K "spot_of" "Pool.spot_of" (pool 4) f fd) (TC : PTx K mg C) : FnOk P w K mg base CX0 1 f fd ["self", "holder"] (spl K (SSpotOf C)) := by
  refine Fun3 F scSpotOf (fun ds G Q ⟨_, _, _, e, _⟩ => by rw [e]; rfl) fun cdv A outer s H E hr => ⟨_, s_one (s_ret (e_getT (ub hr) (e_fld TC.cl TC.t (v 0)) (v 1))), ?_⟩
  rintro ds G Q ⟨A, s, h, rfl, p, q⟩
  refine ⟨_, rfl, A.p, _, _, rfl, p.p, rfl, A.c, _, rfl, p.c, _, rfl, _, hk h, p.c, rfl, hk_t h, ?_⟩
  rw [look_sp]
  exact q
def SNeedNew (C : Addr) : Sp3 := fun ds G Q => ∃ A s h, ds = [.obj A.p, hD h] ∧ PoolAt C A s G ∧ spot s.sp h = none ∧ Q .non G
theorem scNeedNew : FnScope ["self", "holder"] ["self", "holder"] (defScope (pool 3)) := ⟨rfl, rfl, rfl, by decide +kernel, rfl, by decide +kernel, by decide +kernel⟩
theorem okNeedNew {f : Addr} {fd : FuncData} (F : Fun K "need_new" "Pool.need_new" (pool 3) f fd) (TC : PTx K mg C) (D : MethOk P w K mg base 1 C "spot_of" [] (SSpotOf C)) : FnOk P w K mg base CX0 2 f fd ["self", "holder"] (spl K (SNeedNew C)) := by
  refine Fun3 F scNeedNew (fun ds G Q ⟨_, _, _, e, _⟩ => by rw [e]; rfl) fun cdv A outer s H E hr => ⟨_, s_one (s_if (t_notN (e_meth D TC.cl hr (v 0) (a_cons (v 1) a_nil)) e_non) ss_never s_nil), ?_⟩
  rintro ds G Q ⟨A, s, h, rfl, p, hn, q⟩
  refine ⟨_, rfl, A.p, _, rfl, p.p, rfl, _, rfl, A, s, h, rfl, p, ?_⟩
  rw [hn]
  exact ⟨rfl, .inl ⟨rfl, false, rfl, ite_f Bool.false_ne_true q⟩⟩
/-! hold -/
def SHold (C : Addr) : Sp3 := fun ds G Q => ∃ A s f h r, ds = [.obj A.p, .int (f : Nat), hD h] ∧ PoolAt C A s G ∧ s.ha[f]? = some r ∧ spot s.sp h = none ∧ r.length ≤ 1000 ∧ s.sp.length ≤ 1000 ∧
  ∀ L' : List Hd, L'.Perm (r ++ [h]) → (L'.Pairwise fun a b => hLe a b = true) → ∀ G', PoolAt C A { s with ha := s.ha.set f L', sp := s.sp ++ [(h, f)] } G' → PK A G G' → Q .non G'
theorem scHold : FnScope ["self", "frame", "holder"] ["self", "frame", "holder"] (defScope (pool 5)) := ⟨rfl, rfl, rfl, by decide +kernel, rfl, by decide +kernel, by decide +kernel⟩
theorem okHold {f : Addr} {fd : FuncData} (F : Fun K "hold" "Pool.hold" (pool 5) f fd) (T : Txt K w mg) (TC : PTx K mg C) : FnOk P w K mg base CX0 1 f fd ["self", "frame", "holder"] (spl K (SHold C)) := by
  refine Fun3 F scHold (fun ds G Q ⟨_, _, _, _, _, e, _⟩ => by rw [e]; rfl) fun cdv A outer s H E hr => ⟨_, s_cons (s_asg (e_tuple T.tuple (l_sort (ub4 hr) T.sorted (e_cat (e_ixL (e_fld TC.cl TC.h (v 0)) (v 1)) (e_tup (a_cons (v 2) a_nil))))) (g_set (e_fld TC.cl TC.h (v 0)) (v 1)))
    (s_one (s_putT (ub hr) (e_fld TC.cl TC.t (v 0)) (v 2) (v 1))), ?_⟩
  rintro ds G Q ⟨A, s, f, h, r, rfl, p, hf, hn, hr', hs, q⟩
  refine ⟨_, rfl, A.p, _, _, rfl, p.p, rfl, _, rfl, A.b, _, _, _, rfl, rfl, p.b, at_nat (map_get _ hf), ?_⟩
  refine ⟨_, rfl, sz1, _, _, rfl, rfl, ?_, r ++ [h], by rw [List.map_append]; rfl, fun L' hL hP => ?_⟩
  · rw [List.length_map, sizeLine_eq]
    show r.length + 1 ≤ _
    omega
  obtain ⟨p1, k1⟩ := p.upB (s.ha.set f L')
  refine ⟨_, rfl, A.p, _, _, rfl, p.p, rfl, _, rfl, A.b, _, f, f, rfl, rfl, p.b, ix_nat (by rw [List.length_map]; exact lt_get hf), ?_⟩
  have e1 : (s.ha.map roD).set f (.tup (L'.map hD)) = (s.ha.set f L').map roD := by rw [List.map_set]
  rw [e1]
  obtain ⟨p2, k2⟩ := p1.upC (s.sp ++ [(h, f)])
  refine ⟨_, rfl, _, rfl, A.p, _, _, rfl, p1.p, rfl, _, rfl, A.c, _, hk h, rfl, rfl, hk_t h, p1.c, ?_, ?_⟩
  · rw [List.length_map]; exact small_len (by show s.sp.length ≤ _; omega)
  · rw [put_sp f hn]
    exact q L' hL hP _ p2 (k1.trans k2)
/-! page, holders, ledger -/
def SPageOf (C : Addr) : Sp3 := fun ds G Q => ∃ A s f g, ds = [.obj A.p, .int (f : Nat)] ∧ PoolAt C A s G ∧ s.sh[f]? = some g ∧ Q (pD g) G
theorem scPageOf : FnScope ["self", "frame"] ["self", "frame"] (defScope (pool 10)) := ⟨rfl, rfl, rfl, by decide +kernel, rfl, by decide +kernel, by decide +kernel⟩
theorem okPageOf {f : Addr} {fd : FuncData} (F : Fun K "page" "Pool.page" (pool 10) f fd) (TC : PTx K mg C) (D : MethOk P w K mg base 2 C "need_frame" [] (SNeedFrame C)) : FnOk P w K mg base CX0 3 f fd ["self", "frame"] (spl K (SPageOf C)) := by
  refine Fun3 F scPageOf (fun ds G Q ⟨_, _, _, _, e, _⟩ => by rw [e]; rfl) fun cdv A outer s H E hr => ⟨_, s_cons (s_expr (e_meth D TC.cl hr (v 0) (a_cons (v 1) a_nil))) (s_one (s_ret (e_ixL (e_fld TC.cl TC.s (v 0)) (v 1)))), ?_⟩
  rintro ds G Q ⟨A, s, f, g, rfl, p, hf, q⟩
  refine ⟨_, rfl, A.p, _, rfl, p.p, rfl, _, rfl, A, s, f, rfl, p, lt_get hf, ?_⟩
  exact ⟨_, rfl, A.p, _, _, rfl, p.p, rfl, _, rfl, A.a, _, _, _, rfl, rfl, p.a, at_nat (map_get _ hf), q⟩
def SHoldersOf (C : Addr) : Sp3 := fun ds G Q => ∃ A s f r, ds = [.obj A.p, .int (f : Nat)] ∧ PoolAt C A s G ∧ s.sh.length = s.ha.length ∧ s.ha[f]? = some r ∧ Q (roD r) G
theorem scHoldersOf : FnScope ["self", "frame"] ["self", "frame"] (defScope (pool 11)) := ⟨rfl, rfl, rfl, by decide +kernel, rfl, by decide +kernel, by decide +kernel⟩
theorem okHoldersOf {f : Addr} {fd : FuncData} (F : Fun K "holders" "Pool.holders" (pool 11) f fd) (TC : PTx K mg C) (D : MethOk P w K mg base 2 C "need_frame" [] (SNeedFrame C)) : FnOk P w K mg base CX0 3 f fd ["self", "frame"] (spl K (SHoldersOf C)) := by
  refine Fun3 F scHoldersOf (fun ds G Q ⟨_, _, _, _, e, _⟩ => by rw [e]; rfl) fun cdv A outer s H E hr => ⟨_, s_cons (s_expr (e_meth D TC.cl hr (v 0) (a_cons (v 1) a_nil))) (s_one (s_ret (e_ixL (e_fld TC.cl TC.h (v 0)) (v 1)))), ?_⟩
  rintro ds G Q ⟨A, s, f, g, rfl, p, ln, hf, q⟩
  refine ⟨_, rfl, A.p, _, rfl, p.p, rfl, _, rfl, A, s, f, rfl, p, by rw [ln]; exact lt_get hf, ?_⟩
  exact ⟨_, rfl, A.p, _, _, rfl, p.p, rfl, _, rfl, A.b, _, _, _, rfl, rfl, p.b, at_nat (map_get _ hf), q⟩
def SLedgerOf (C : Addr) : Sp3 := fun ds G Q => ∃ A s, ds = [.obj A.p] ∧ PoolAt C A s G ∧ Q (leD s.ha) G
theorem scLedgerOf : FnScope ["self"] ["self"] (defScope (pool 12)) := ⟨rfl, rfl, rfl, by decide +kernel, rfl, by decide +kernel, by decide +kernel⟩
theorem okLedgerOf {f : Addr} {fd : FuncData} (F : Fun K "ledger" "Pool.ledger" (pool 12) f fd) (T : Txt K w mg) (TC : PTx K mg C) : FnOk P w K mg base CX0 1 f fd ["self"] (spl K (SLedgerOf C)) := by
  refine Fun3 F scLedgerOf (fun ds G Q ⟨_, _, e, _⟩ => by rw [e]; rfl) fun cdv A outer s H E hr => ⟨_, s_one (s_ret (e_tupleL T.tuple (e_fld TC.cl TC.h (v 0)))), ?_⟩
  rintro ds G Q ⟨A, s, rfl, p, q⟩
  exact ⟨_, rfl, A.p, _, _, rfl, p.p, rfl, A.b, _, rfl, p.b, q⟩
/-! free -/
def frees : Nat → List (List Hd) → List Nat
  | _, [] => []
  | k, r :: rs => if r.isEmpty = true then k :: frees (k + 1) rs else frees (k + 1) rs
def pE (d : Da) : Bool := match d with | .tup [_, .tup es] => es.isEmpty | _ => false
def fE (d : Da) : Da := match d with | .tup [x, _] => x | _ => .non
theorem frees_eq : ∀ (k : Nat) (ha : List (List Hd)), (((ha.map roD).mapIdx fun i d => Da.tup [.int (k + i : Nat), d]).filter pE).map fE = (frees k ha).map fun i => Da.int (i : Nat)
  | _, [] => rfl
  | k, r :: rs => by
    have ih := frees_eq (k + 1) rs
    rw [List.map_cons, List.mapIdx_cons]
    have e : (fun i (d : Da) => Da.tup [.int (k + (i + 1) : Nat), d]) = fun i d => Da.tup [.int (k + 1 + i : Nat), d] := by
      funext i d
      rw [show k + (i + 1) = k + 1 + i by omega]
    rw [e, List.filter_cons]
    have e2 : pE (.tup [.int (k + 0 : Nat), roD r]) = r.isEmpty := by
      show (r.map hD).isEmpty = r.isEmpty
      cases r <;> rfl
    rw [e2]
    unfold frees
    by_cases h : r.isEmpty = true
    · rw [if_pos h, if_pos h, List.map_cons, List.map_cons, ih]
      rfl
    · rw [if_neg h, if_neg h, ih]
theorem frees_mem : ∀ {k : Nat} {ha : List (List Hd)} {f : Nat}, f ∈ frees k ha ↔ k ≤ f ∧ ha[f - k]? = some []
  | k, [], f => by simp [frees]
  | k, r :: rs, f => by
    unfold frees
    have ih := @frees_mem (k + 1) rs f
    by_cases h : r.isEmpty = true
    · rw [if_pos h, List.mem_cons, ih]
      have hr : r = [] := by simpa using h
      subst hr
      rcases Nat.lt_trichotomy f k with c | c | c
      · constructor
        · rintro (e | ⟨e, _⟩) <;> omega
        · rintro ⟨e, _⟩; omega
      · subst c; simp
      · rw [show f - k = (f - (k + 1)) + 1 by omega, List.getElem?_cons_succ]
        constructor
        · rintro (e | ⟨e, e2⟩)
          · omega
          · exact ⟨by omega, e2⟩
        · rintro ⟨e, e2⟩
          exact .inr ⟨by omega, e2⟩
    · rw [if_neg h, ih]
      have hr : r ≠ [] := by simpa using h
      rcases Nat.lt_trichotomy f k with c | c | c
      · constructor
        · rintro ⟨e, _⟩; omega
        · rintro ⟨e, _⟩; omega
      · subst c
        constructor
        · rintro ⟨e, _⟩; omega
        · rintro ⟨_, e⟩
          rw [Nat.sub_self] at e
          cases e; exact absurd rfl hr
      · rw [show f - k = (f - (k + 1)) + 1 by omega, List.getElem?_cons_succ]
        constructor
        · rintro ⟨e, e2⟩; exact ⟨by omega, e2⟩
        · rintro ⟨e, e2⟩; exact ⟨by omega, e2⟩
theorem frees_len : ∀ (k : Nat) (ha : List (List Hd)), (frees k ha).length ≤ ha.length
  | _, [] => Nat.le_refl _
  | k, r :: rs => by
    have ih := frees_len (k + 1) rs
    unfold frees
    split
    · rw [List.length_cons, List.length_cons]; omega
    · rw [List.length_cons]; omega
abbrev intsN (l : List Nat) : Da := .tup (l.map fun i => .int (i : Nat))
def SFree (C : Addr) : Sp3 := fun ds G Q => ∃ A s, ds = [.obj A.p] ∧ PoolAt C A s G ∧ PWf s ∧ Q (intsN (frees 0 s.ha)) G
abbrev nFree : List Str := ["self", "frame", "holders"]
theorem scFree : FnScope nFree ["self"] (defScope (pool 13)) := ⟨rfl, rfl, rfl, by decide +kernel, rfl, by decide +kernel, by decide +kernel⟩
theorem eqB_row {r : List Hd} : eqB (roD r) (.tup []) = r.isEmpty := by
  cases r with
  | nil => exact eqB_t rfl
  | cons x r => exact eqB_f nofun
theorem okFree {f : Addr} {fd : FuncData} (F : Fun K "free" "Pool.free" (pool 13) f fd) (T : Txt K w mg) (TC : PTx K mg C) : FnOk P w K mg base CX0 1 f fd ["self"] (spl K (SFree C)) := by
  refine Fun3 F scFree (fun ds G Q ⟨_, _, e, _⟩ => by rw [e]; rfl) fun cdv A outer s H E hr => ⟨_, s_one (s_ret (e_tuple T.tuple (l_lc (own := [("frame", 1), ("holders", 2)]) rfl scFree.nd (i_enumL T.enum (e_fld TC.cl TC.h (v 0))) (bk nFree (defScope (pool 13)) (by decide +kernel))
    (fun s H C cl fp => g_tup (n := 2) rfl (gs_cons (g_name (i := 1) scFree.nd) (gs_cons (g_name (i := 2) scFree.nd) gs_nil))) (fun s H C cl fp => ts_one (t_eq hr.units (v 2) (e_tup a_nil))) (fun s H C cl fp => v 1)))), ?_⟩
  rintro ds G Q ⟨A, s, rfl, p, W, q⟩
  refine ⟨_, rfl, A.p, _, _, rfl, p.p, rfl, A.b, _, rfl, p.b, lc_pure pE fE p.b (small_len ?_) (fun d hd R S h => ?_) ?_⟩
  · rw [enumD_len, List.length_map]; have := W.l1; omega
  · obtain ⟨i, hi⟩ := List.getElem?_of_mem hd
    obtain ⟨d0, h0, rfl⟩ := enumD_of hi
    rw [List.getElem?_map] at h0
    obtain ⟨r, hr0, rfl⟩ := Option.map_eq_some_iff.mp h0
    refine ⟨_, rfl, rfl, _, _, rfl, _, _, rfl, rfl, _, rfl, by show 0 ≤ sizeLine; decide, row_ok (W.ok r (mem_get hr0)).2.1, ok_nil, _, rfl, ?_⟩
    rw [eqB_row]
    have e : pE (.tup [.int (i : Nat), roD r]) = r.isEmpty := by
      show (r.map hD).isEmpty = r.isEmpty
      cases r <;> rfl
    rw [e] at h
    by_cases hb : r.isEmpty = true
    · rw [if_pos hb] at h
      exact ite_t hb ⟨_, rfl, h⟩
    · rw [if_neg hb] at h
      exact ite_f hb h
  · have e := frees_eq 0 s.ha
    simp only [Nat.zero_add] at e
    unfold enumD
    rw [e]
    exact q
/-! take, share -/
theorem ok_ints (l : List Int) : Ok (pD l) := by
  show okD 4 (.tup (l.map .int)) = true
  unfold okD
  rw [List.all_eq_true]
  intro d hd
  obtain ⟨x, _, rfl⟩ := List.mem_map.mp hd
  rfl
theorem ok_intsN (l : List Nat) : Ok (intsN l) := by
  show okD 4 (.tup (l.map fun i => .int (i : Nat))) = true
  unfold okD
  rw [List.all_eq_true]
  intro d hd
  obtain ⟨x, _, rfl⟩ := List.mem_map.mp hd
  rfl
theorem tup_ne {x : Da} {xs : List Da} : Da.tup (x :: xs) ≠ .tup [] := nofun
def STake (C : Addr) : Sp3 := fun ds G Q => ∃ A s h g f l, ds = [.obj A.p, hD h, pD g] ∧ PoolAt C A s G ∧ PWf s ∧ HdOk h ∧ PgOk g ∧ spot s.sp h = none ∧ frees 0 s.ha = f :: l ∧
  ∀ G', PoolAt C A ⟨s.sh.set f g, s.ha.set f [h], s.sp ++ [(h, f)]⟩ G' → PK A G G' → Q (.int (f : Nat)) G'
abbrev nTake : List Str := ["self", "holder", "page", "frame", "others"]
theorem scTake : FnScope nTake ["self", "holder", "page"] (defScope (pool 6)) := ⟨rfl, rfl, rfl, by decide +kernel, rfl, by decide +kernel, by decide +kernel⟩
theorem okTake {f : Addr} {fd : FuncData} {kws : List (Str × V)} (F : FunD K "take" "Pool.take" (defArgs (pool 6)) (defBody (pool 6)) (defScope (pool 6)) [] kws f fd) (TC : PTx K mg C)
    (D1 : DefOk P w K mg base 3 "need_holder" [] SNeedHolder) (D2 : MethOk P w K mg base 2 C "need_new" [] (SNeedNew C)) (D3 : DefOk P w K mg base 3 "is_page" [] SPage) (D4 : MethOk P w K mg base 1 C "free" [] (SFree C)) (D5 : MethOk P w K mg base 1 C "hold" [] (SHold C)) :
    FnOk P w K mg base CX0 4 f fd ["self", "holder", "page"] (spl K (STake C)) := by
  refine Fun3D F scTake (fun ds G Q ⟨_, _, _, _, _, _, e, _⟩ => by rw [e]; rfl) fun cdv A outer s H E hr => ⟨_, s_cons (s_expr (e_call D1 hr (a_cons (v 1) a_nil))) (s_cons (s_expr (e_meth D2 TC.cl hr (v 0) (a_cons (v 1) a_nil))) (s_cons (s_if (t_not (t_val (e_call D3 hr (a_cons (v 2) a_nil)))) ss_never s_nil)
    (s_cons (s_if (t_eq hr.units (e_meth0 D4 TC.cl hr (v 0)) (e_tup a_nil)) ss_never s_nil) (s_cons (s_asg (e_meth0 D4 TC.cl hr (v 0)) (g_starD (j := 4) rfl scTake.nd (g_name (i := 3) scTake.nd))) (s_cons (s_asg (v 2) (g_set (e_fld TC.cl TC.s (v 0)) (v 3)))
    (s_cons (s_expr (e_meth D5 TC.cl hr (v 0) (a_cons (v 3) (a_cons (v 1) a_nil)))) (s_one (s_ret (v 3))))))))), ?_⟩
  rintro ds G Q ⟨A, s, h, g, f, l, rfl, p, W, hh, hg, hn, hf, q⟩
  have hm : f ∈ frees 0 s.ha := by rw [hf]; exact List.mem_cons_self
  have ha : s.ha[f]? = some [] := (frees_mem.mp hm).2
  have hlt := lt_get ha
  have hll := frees_len 0 s.ha
  rw [hf, List.length_cons] at hll
  refine ⟨_, rfl, h, rfl, hh, ?_⟩
  refine ⟨_, rfl, A.p, _, rfl, p.p, rfl, _, rfl, A, s, h, rfl, p, hn, ?_⟩
  refine ⟨_, rfl, g, rfl, hg, true, rfl, ite_f Bool.false_ne_true ?_⟩
  refine ⟨_, rfl, A.p, _, rfl, p.p, rfl, A, s, rfl, p, W, by show 0 ≤ sizeLine; decide, ok_intsN _, ok_nil, false, ?_, ite_f Bool.false_ne_true ?_⟩
  · rw [hf]
    exact congrArg Da.bl (eqB_f tup_ne)
  refine ⟨_, rfl, A.p, _, rfl, p.p, rfl, A, s, rfl, p, W, .int (f : Nat), l.map fun i => .int (i : Nat), by rw [hf]; rfl, by rw [List.length_map]; have := W.l1; omega, ?_⟩
  obtain ⟨p1, k1⟩ := p.upA (s.sh.set f g)
  refine ⟨_, rfl, _, rfl, A.p, _, _, rfl, p.p, rfl, _, rfl, A.a, _, f, f, rfl, rfl, p.a, ix_nat (by rw [List.length_map, W.ln]; exact hlt), ?_⟩
  have e1 : (s.sh.map pD).set f (pD g) = (s.sh.set f g).map pD := by rw [List.map_set]
  rw [e1]
  refine ⟨_, rfl, A.p, _, rfl, p1.p, rfl, _, rfl, _, rfl, A, _, f, h, [], rfl, p1, ha, hn, Nat.zero_le _, (by show s.sp.length ≤ 1000; have := W.few; omega), fun L' hL _ G' p2 k2 => ?_⟩
  obtain rfl : L' = [h] := List.perm_singleton.mp hL
  exact ⟨_, rfl, q G' p2 (k1.trans k2)⟩
def SShare (C : Addr) : Sp3 := fun ds G Q => ∃ A s f h r, ds = [.obj A.p, .int (f : Nat), hD h] ∧ PoolAt C A s G ∧ PWf s ∧ s.ha[f]? = some r ∧ r ≠ [] ∧ r.length < 60 ∧ HdOk h ∧ tabB (h :: r) = false ∧ spot s.sp h = none ∧
  ∀ L' : List Hd, L'.Perm (r ++ [h]) → (L'.Pairwise fun a b => hLe a b = true) → ∀ G', PoolAt C A { s with ha := s.ha.set f L', sp := s.sp ++ [(h, f)] } G' → PK A G G' → Q .non G'
theorem scShare : FnScope ["self", "frame", "holder"] ["self", "frame", "holder"] (defScope (pool 7)) := ⟨rfl, rfl, rfl, by decide +kernel, rfl, by decide +kernel, by decide +kernel⟩
theorem okShare {f : Addr} {fd : FuncData} (F : Fun K "share" "Pool.share" (pool 7) f fd) (TC : PTx K mg C)
    (D0 : MethOk P w K mg base 3 C "need_held" [] (SNeedHeld C)) (D1 : DefOk P w K mg base 3 "need_holder" [] SNeedHolder) (D2 : MethOk P w K mg base 2 C "need_new" [] (SNeedNew C)) (D3 : DefOk P w K mg base 1 "of_table" [] SOfTable) (D5 : MethOk P w K mg base 1 C "hold" [] (SHold C)) :
    FnOk P w K mg base CX0 4 f fd ["self", "frame", "holder"] (spl K (SShare C)) := by
  refine Fun3 F scShare (fun ds G Q ⟨_, _, _, _, _, e, _⟩ => by rw [e]; rfl) fun cdv A outer s H E hr => ⟨_, s_cons (s_expr (e_meth D0 TC.cl hr (v 0) (a_cons (v 1) a_nil))) (s_cons (s_expr (e_call D1 hr (a_cons (v 2) a_nil))) (s_cons (s_if (t_val (e_call D3 hr (a_cons (e_cat (e_tup (a_cons (v 2) a_nil)) (e_ixL (e_fld TC.cl TC.h (v 0)) (v 1))) a_nil))) ss_never s_nil)
    (s_cons (s_expr (e_meth D2 TC.cl hr (v 0) (a_cons (v 2) a_nil))) (s_one (s_expr (e_meth D5 TC.cl hr (v 0) (a_cons (v 1) (a_cons (v 2) a_nil)))))))), ?_⟩
  rintro ds G Q ⟨A, s, f, h, r, rfl, p, W, hf, hne, hl, hh, ht, hn, q⟩
  refine ⟨_, rfl, A.p, _, rfl, p.p, rfl, _, rfl, A, s, f, r, rfl, p, W, hf, hne, ?_⟩
  refine ⟨_, rfl, h, rfl, hh, ?_⟩
  refine ⟨_, rfl, sz1, _, rfl, A.p, _, _, rfl, p.p, rfl, _, rfl, A.b, _, _, _, rfl, rfl, p.b, at_nat (map_get _ hf), _, _, rfl, rfl, ?_, h :: r, rfl, by rw [List.length_cons]; omega, ?_, ?_⟩
  · rw [List.length_map, sizeLine_eq]
    show 1 + r.length ≤ _
    omega
  · intro x hx
    rcases List.mem_cons.mp hx with rfl | hx
    · exact hh
    · exact (W.ok r (mem_get hf)).2.1 x hx
  rw [ht]
  refine ⟨false, rfl, ite_f Bool.false_ne_true ?_⟩
  refine ⟨_, rfl, A.p, _, rfl, p.p, rfl, _, rfl, A, s, h, rfl, p, hn, ?_⟩
  refine ⟨_, rfl, A.p, _, rfl, p.p, rfl, _, rfl, _, rfl, A, s, f, h, r, rfl, p, hf, hn, by omega, by have := W.few; omega, fun L' hL hP G' p2 k2 => q L' hL hP G' p2 k2⟩
/-! leave, put -/
theorem eqB_hd {x h : Hd} : eqB (hD x) (hD h) = decide (x = h) := by
  by_cases e : x = h
  · subst e; rw [eqB_t rfl, decide_eq_true rfl]
  · rw [eqB_f fun z => e (hD_inj z), decide_eq_false e]
theorem filt_hd (h : Hd) : ∀ r : List Hd, ((r.map hD).filter fun d => !eqB d (hD h)).map (fun d => d) = (r.filter fun x => decide (x ≠ h)).map hD
  | [] => rfl
  | x :: r => by
    have ih := filt_hd h r
    rw [List.map_cons, List.filter_cons, List.filter_cons, eqB_hd]
    by_cases e : x = h
    · simp only [e, decide_true, Bool.not_true, Bool.false_eq_true, if_false, ne_eq, not_true_eq_false, decide_false]
      exact ih
    · simp only [e, decide_false, Bool.not_false, if_true, ne_eq, not_false_eq_true, decide_true, List.map_cons]
      rw [ih]
abbrev drp (r : List Hd) (h : Hd) : List Hd := r.filter fun x => decide (x ≠ h)
def SLeave (C : Addr) : Sp3 := fun ds G Q => ∃ A s f h r, ds = [.obj A.p, .int (f : Nat), hD h] ∧ PoolAt C A s G ∧ PWf s ∧ s.ha[f]? = some r ∧ HdOk h ∧ spot s.sp h = some f ∧
  ∀ G', PoolAt C A ⟨if (drp r h).isEmpty = true then s.sh.set f blank else s.sh, s.ha.set f (drp r h), s.sp.filter fun q => decide (q.1 ≠ h)⟩ G' → PK A G G' → Q .non G'
abbrev nLeave : List Str := ["self", "frame", "holder", "one"]
theorem scLeave : FnScope nLeave ["self", "frame", "holder"] (defScope (pool 8)) := ⟨rfl, rfl, rfl, by decide +kernel, rfl, by decide +kernel, by decide +kernel⟩
theorem ok_hd {h : Hd} (hh : HdOk h) : Ok (hD h) := by
  obtain ⟨m, hm, _⟩ := hh
  have := lastP_ok hm
  unfold okD at this
  show okD 4 (.tup [.str h.w, .int h.l, .int h.p]) = true
  simp [okD, this]
theorem okLeave {f : Addr} {fd : FuncData} (F : Fun K "leave" "Pool.leave" (pool 8) f fd) (T : Txt K w mg) (TC : PTx K mg C)
    (D0 : MethOk P w K mg base 2 C "need_frame" [] (SNeedFrame C)) (D1 : DefOk P w K mg base 2 "is_holder" [] SHolder) (D2 : MethOk P w K mg base 1 C "spot_of" [] (SSpotOf C)) :
    FnOk P w K mg base CX0 3 f fd ["self", "frame", "holder"] (spl K (SLeave C)) := by
  refine Fun3 F scLeave (fun ds G Q ⟨_, _, _, _, _, e, _⟩ => by rw [e]; rfl) fun cdv A outer s H E hr => ⟨_, s_cons (s_expr (e_meth D0 TC.cl hr (v 0) (a_cons (v 1) a_nil)))
    (s_cons (s_if (w_pt (w_or (t_not (t_val (e_call D1 hr (a_cons (v 2) a_nil)))) (w_or1 (t_ne hr.units (e_meth D2 TC.cl hr (v 0) (a_cons (v 2) a_nil)) (v 1))))) ss_never s_nil)
    (s_cons (s_expr (e_popT (ub hr) (e_fld TC.cl TC.t (v 0)) (v 2)))
    (s_cons (s_asg (e_tuple T.tuple (l_lc (own := [("one", 3)]) rfl scLeave.nd (i_tup (e_ixL (e_fld TC.cl TC.h (v 0)) (v 1))) (bk nLeave (defScope (pool 8)) (by decide +kernel)) (fun s H C cl fp => g_name (i := 3) scLeave.nd) (fun s H C cl fp => ts_one (t_ne hr.units (v 3) (v 2))) (fun s H C cl fp => v 3))) (g_set (e_fld TC.cl TC.h (v 0)) (v 1)))
    (s_one (s_if (t_eq hr.units (e_ixL (e_fld TC.cl TC.h (v 0)) (v 1)) (e_tup a_nil)) (s_one (s_asg (e_blank T) (g_set (e_fld TC.cl TC.s (v 0)) (v 1)))) s_nil))))), ?_⟩
  rintro ds G Q ⟨A, s, f, h, r, rfl, p, W, hf, hh, hs, q⟩
  have hlt := lt_get hf
  obtain ⟨rl, ro, _⟩ := W.ok r (mem_get hf)
  refine ⟨_, rfl, A.p, _, rfl, p.p, rfl, _, rfl, A, s, f, rfl, p, by rw [W.ln]; exact hlt, ?_⟩
  refine ⟨_, rfl, h, rfl, hh, true, rfl, ?_⟩
  refine ⟨_, rfl, A.p, _, rfl, p.p, rfl, _, rfl, A, s, h, rfl, p, ?_⟩
  rw [hs]
  refine ⟨_, rfl, rfl, rfl, false, ?_, ite_f Bool.false_ne_true ?_⟩
  · show Da.bl (!eqB (.int (f : Nat)) (.int (f : Nat))) = _
    rw [eqB_t rfl]; rfl
  obtain ⟨p1, k1⟩ := p.upC (s.sp.filter fun q => decide (q.1 ≠ h))
  refine ⟨_, rfl, A.p, _, _, rfl, p.p, rfl, A.c, _, rfl, p.c, _, rfl, _, hk h, .int (f : Nat), p.c, rfl, hk_t h, by rw [look_sp, hs]; rfl, ?_⟩
  rw [del_sp]
  refine ⟨_, rfl, A.p, _, _, rfl, p1.p, rfl, _, rfl, A.b, _, _, _, rfl, rfl, p1.b, at_nat (map_get _ hf), _, rfl, lc_pure (fun d => !eqB d (hD h)) (fun d => d) trivial (small_len (by rw [List.length_map]; omega)) (fun d hd R S hx => ?_) ?_⟩
  · obtain ⟨x, hxr, rfl⟩ := List.mem_map.mp hd
    refine ⟨_, rfl, _, rfl, ok_hd (ro x hxr), ok_hd hh, _, rfl, ?_⟩
    by_cases hb : (!eqB (hD x) (hD h)) = true
    · rw [if_pos hb] at hx
      exact ite_t hb ⟨_, rfl, hx⟩
    · rw [if_neg hb] at hx
      exact ite_f hb hx
  rw [filt_hd]
  obtain ⟨p2, k2⟩ := p1.upB (s.ha.set f (drp r h))
  refine ⟨_, rfl, A.p, _, _, rfl, p1.p, rfl, _, rfl, A.b, _, f, f, rfl, rfl, p1.b, ix_nat (by rw [List.length_map]; exact hlt), ?_⟩
  have e1 : (s.ha.map roD).set f (roD (drp r h)) = (s.ha.set f (drp r h)).map roD := by rw [List.map_set]
  rw [e1]
  have h2 : (s.ha.set f (drp r h))[f]? = some (drp r h) := List.getElem?_set_self hlt
  refine ⟨_, rfl, A.p, _, _, rfl, p2.p, rfl, _, rfl, A.b, _, _, _, rfl, rfl, p2.b, at_nat (map_get _ h2), by show 0 ≤ sizeLine; decide, row_ok (fun x hx => ro x (List.mem_filter.mp hx).1), ok_nil, _, rfl, ?_⟩
  rw [eqB_row]
  by_cases hb : (drp r h).isEmpty = true
  · rw [if_pos hb] at q
    refine ite_t hb ?_
    obtain ⟨p3, k3⟩ := p2.upA (s.sh.set f blank)
    refine ⟨_, rfl, A.p, _, _, rfl, p2.p, rfl, _, rfl, A.a, _, f, f, rfl, rfl, p2.a, ix_nat (by rw [List.length_map]; show f < s.sh.length; rw [W.ln]; exact hlt), ?_⟩
    have e3 : (s.sh.map pD).set f (pD blank) = (s.sh.set f blank).map pD := by rw [List.map_set]
    rw [e3]
    exact q _ p3 (k1.trans (k2.trans k3))
  · rw [if_neg hb] at q
    exact ite_f hb (q _ p2 (k1.trans k2))
theorem cut_put (g : List Int) (pl : Nat) (c : Int) (h : pl < g.length) : cutD (g.map .int) none (some (pl : Int)) ++ [Da.int c] ++ cutD (g.map .int) (some ((pl : Int) + 1)) none = (g.set pl c).map .int := by
  unfold cutD
  rw [HT.sIx_none, HT.sIx_none, HT.sIx_nat, show ((pl : Int) + 1) = ((pl + 1 : Nat) : Int) by omega, HT.sIx_nat, List.length_map]
  have e1 : min pl g.length = pl := by omega
  have e2 : min (pl + 1) g.length = pl + 1 := by omega
  have a : List.take (g.length - (pl + 1)) (List.map Da.int (List.drop (pl + 1) g)) = (g.drop (pl + 1)).map .int := List.take_of_length_le (by rw [List.length_map, List.length_drop]; omega)
  rw [e1, e2, List.drop_zero, Nat.sub_zero, ← List.map_take, ← List.map_drop, a]
  rw [List.set_eq_take_append_cons_drop, if_pos h, List.map_append, List.map_cons, List.append_assoc]
  rfl
theorem cut_len (ds : List Da) (lo hi : Option Int) : (cutD ds lo hi).length ≤ ds.length := by
  unfold cutD
  rw [List.length_take, List.length_drop]
  omega
def SPut (C : Addr) : Sp3 := fun ds G Q => ∃ A s f pl c r g, ds = [.obj A.p, .int (f : Nat), .int (pl : Nat), .int c] ∧ PoolAt C A s G ∧ PWf s ∧ s.ha[f]? = some r ∧ r ≠ [] ∧ s.sh[f]? = some g ∧ pl < 8 ∧ 0 ≤ c ∧ c ≤ 65535 ∧
  ∀ G', PoolAt C A { s with sh := s.sh.set f (g.set pl c) } G' → PK A G G' → Q .non G'
abbrev nPut : List Str := ["self", "frame", "place", "cell", "ahead"]
theorem scPut : FnScope nPut ["self", "frame", "place", "cell"] (defScope (pool 9)) := ⟨rfl, rfl, rfl, by decide +kernel, rfl, by decide +kernel, by decide +kernel⟩
theorem okPut {f : Addr} {fd : FuncData} (F : Fun K "put" "Pool.put" (pool 9) f fd) (T : Txt K w mg) (TC : PTx K mg C)
    (D0 : MethOk P w K mg base 3 C "need_held" [] (SNeedHeld C)) (D1 : DefOk P w K mg base 1 "is_within" [] SWithin) (D2 : DefOk P w K mg base 3 "need_cell" [] SNeedCell) :
    FnOk P w K mg base CX0 4 f fd ["self", "frame", "place", "cell"] (spl K (SPut C)) := by
  refine Fun3 F scPut (fun ds G Q ⟨_, _, _, _, _, _, _, e, _⟩ => by rw [e]; rfl) fun cdv A outer s H E hr => ⟨_, s_cons (s_expr (e_meth D0 TC.cl hr (v 0) (a_cons (v 1) a_nil)))
    (s_cons (s_if (t_not (t_val (e_call D1 hr (a_cons (v 2) (a_cons e_int (a_cons (e_sub (e_gi' T.PL) e_int) a_nil)))))) ss_never s_nil) (s_cons (s_expr (e_call D2 hr (a_cons (v 3) a_nil))) (s_cons (s_set (i := 4) scPut.nd (e_ixL (e_fld TC.cl TC.s (v 0)) (v 1)))
    (s_one (s_asg (e_cat (e_cat (e_sl (v 4) o_none (o_some (v 2))) (e_tup (a_cons (v 3) a_nil))) (e_sl (v 4) (o_some (e_add (v 2) e_int)) o_none)) (g_set (e_fld TC.cl TC.s (v 0)) (v 1))))))), ?_⟩
  rintro ds G Q ⟨A, s, f, pl, c, r, g, rfl, p, W, hf, hne, hg, hpl, h0, h1, q⟩
  have hpg := W.pg g (mem_get hg)
  refine ⟨_, rfl, A.p, _, rfl, p.p, rfl, _, rfl, A, s, f, r, rfl, p, W, hf, hne, ?_⟩
  refine ⟨_, rfl, 8, 1, rfl, rfl, pl, 0, 7, rfl, true, bl_t (by omega), ite_f Bool.false_ne_true ?_⟩
  refine ⟨_, rfl, c, rfl, h0, h1, ?_⟩
  refine ⟨_, rfl, A.p, _, _, rfl, p.p, rfl, _, rfl, A.a, _, _, _, rfl, rfl, p.a, at_nat (map_get _ hg), ?_⟩
  refine ⟨_, rfl, _, rfl, _, rfl, _, rfl, _, rfl, sz1, _, _, rfl, rfl, ?_, _, rfl, _, rfl, _, _, rfl, rfl, _, rfl, _, rfl, _, _, rfl, rfl, ?_, ?_⟩
  · have := cut_len (g.map .int) none (some (pl : Int))
    rw [List.length_map, hpg.1] at this
    show (cutD (g.map .int) none (some (pl : Int))).length + 1 ≤ _
    rw [sizeLine_eq]; omega
  · have h2 := cut_len (g.map .int) none (some (pl : Int))
    have h3 := cut_len (g.map .int) (some ((pl : Int) + 1)) none
    rw [List.length_map, hpg.1] at h2 h3
    show (cutD (g.map .int) none (some (pl : Int)) ++ [Da.int c]).length + (cutD (g.map .int) (some ((pl : Int) + 1)) none).length ≤ _
    rw [List.length_append, sizeLine_eq]
    show _ + 1 + _ ≤ _
    omega
  · obtain ⟨p1, k1⟩ := p.upA (s.sh.set f (g.set pl c))
    refine ⟨_, rfl, A.p, _, _, rfl, p.p, rfl, _, rfl, A.a, _, f, f, rfl, rfl, p.a, ix_nat (by rw [List.length_map]; exact lt_get hg), ?_⟩
    have e1 : (s.sh.map pD).set f (.tup (cutD (g.map .int) none (some (pl : Int)) ++ [Da.int c] ++ cutD (g.map .int) (some ((pl : Int) + 1)) none)) = (s.sh.set f (g.set pl c)).map pD := by
      rw [cut_put g pl c (by rw [hpg.1]; exact hpl)]
      exact List.map_set.symm
    have q' := q _ p1 k1
    rw [← e1] at q'
    exact q'
/-! __init__ -/
def PS.new (m : Nat) : PS := ⟨List.replicate m blank, List.replicate m [], []⟩
theorem putD1 (x y : Da) : putD "hands" y [(("sheets" : Str), x)] = ([("sheets", x), ("hands", y)] : List (Str × Da)) := by
  unfold putD
  rw [if_neg (by decide +kernel)]
  rfl
theorem putD2 (x y z : Da) : putD "spots" z [(("sheets" : Str), x), ("hands", y)] = ([("sheets", x), ("hands", y), ("spots", z)] : List (Str × Da)) := by
  unfold putD
  rw [if_neg (by decide +kernel)]
  unfold putD
  rw [if_neg (by decide +kernel)]
  rfl
theorem rep_flat (d : Da) : ∀ n : Nat, (List.replicate n [d]).flatten = List.replicate n d
  | 0 => rfl
  | n + 1 => by
    rw [List.replicate_succ, List.flatten_cons, rep_flat d n]
    rfl
/-- all that is there stays -/
def Kp (G G' : Gp) : Prop := ∀ x o, G x = some o → G' x = some o
def SPoolInit (C : Addr) : Sp3 := fun ds G Q => ∃ p m, ds = [.obj p, .int (m : Nat)] ∧ G p = some (.ins C []) ∧ 4 ≤ m ∧ m ≤ 48 ∧
  ∀ A G', A.p = p → G A.a = none → G A.b = none → G A.c = none → PoolAt C A (PS.new m) G' → (∀ x o, x ≠ p → G x = some o → G' x = some o) → Q .non G'
theorem scPoolInit : FnScope ["self", "many"] ["self", "many"] (defScope (pool 0)) := ⟨rfl, rfl, rfl, by decide +kernel, rfl, by decide +kernel, by decide +kernel⟩
theorem okPoolInit {f : Addr} {fd : FuncData} (F : Fun K "__init__" "Pool.__init__" (pool 0) f fd) (T : Txt K w mg) (TC : PTx K mg C) (D1 : DefOk P w K mg base 1 "is_within" [] SWithin) :
    FnOk P w K mg base CX0 2 f fd ["self", "many"] (spl K (SPoolInit C)) := by
  refine Fun3 F scPoolInit (fun ds G Q ⟨_, _, e, _⟩ => by rw [e]; rfl) fun cdv A outer s H E hr => ⟨_, s_cons (s_if (t_not (t_val (e_call D1 hr (a_cons (v 1) (a_cons (e_gi' T.FE) (a_cons (e_gi' T.MP) a_nil)))))) ss_never s_nil)
    (s_cons (s_fld TC.cl TC.s (v 0) (e_new (l_rep (l_lst (a_cons (e_blank T) a_nil)) (v 1)))) (s_cons (s_fld TC.cl TC.h (v 0) (e_new (l_rep (l_lst (a_cons (e_tup a_nil) a_nil)) (v 1)))) (s_one (s_fld TC.cl TC.t (v 0) e_newT)))), ?_⟩
  rintro ds G Q ⟨p, m, rfl, gp, h0, h1, q⟩
  refine ⟨_, rfl, m, 4, 48, rfl, true, bl_t (by omega), ite_f Bool.false_ne_true ?_⟩
  refine ⟨sz1, _, rfl, m, rfl, by omega, by omega, ?_, fun a ga => ?_⟩
  · rw [Int.toNat_natCast, sizeLine_eq]
    show 1 * m ≤ _
    omega
  have pa : p ≠ a := fun e => by rw [← e, gp] at ga; cases ga
  refine ⟨_, rfl, p, [], rfl, by rw [up_ne pa]; exact gp, by decide, ?_⟩
  refine ⟨by show 0 ≤ sizeLine; decide, sz1, _, rfl, m, rfl, by omega, by omega, ?_, fun b gb => ?_⟩
  · rw [Int.toNat_natCast, sizeLine_eq]
    show 1 * m ≤ _
    omega
  have pb : p ≠ b := fun e => by rw [← e, up_same] at gb; cases gb
  have ab : a ≠ b := fun e => by rw [← e, up_ne pa.symm, up_same] at gb; cases gb
  have gb0 : G b = none := by rw [up_ne pb.symm, up_ne ab.symm] at gb; exact gb
  refine ⟨_, rfl, p, _, rfl, by rw [up_ne pb, up_same], by show 1 < 1000; omega, ?_⟩
  intro c gc
  have pc : p ≠ c := fun e => by rw [← e, up_same] at gc; cases gc
  have bc : b ≠ c := fun e => by rw [← e, up_ne pb.symm, up_same] at gc; cases gc
  have ac : a ≠ c := fun e => by rw [← e, up_ne pa.symm, up_ne ab, up_ne pa.symm, up_same] at gc; cases gc
  have gc0 : G c = none := by rw [up_ne pc.symm, up_ne bc.symm, up_ne pc.symm, up_ne ac.symm] at gc; exact gc
  refine ⟨_, rfl, p, _, rfl, by rw [up_ne pc, up_same], (by show (putD "hands" (.obj b) [(("sheets" : Str), .obj a)]).length < 1000; rw [putD1]; show 2 < 1000; omega), ?_⟩
  refine q ⟨p, a, b, c⟩ _ rfl ga gb0 gc0 ⟨?_, ?_, ?_, ?_, ab⟩ fun x o nx e => ?_
  · show up _ p _ p = _
    rw [up_same]
    show some (AO.ins C (putD "spots" (.obj c) (putD "hands" (.obj b) [(("sheets" : Str), .obj a)]))) = _
    rw [putD1, putD2]
  · show up _ p _ a = _
    rw [up_ne pa.symm, up_ne ac, up_ne pa.symm, up_ne ab, up_ne pa.symm, up_same]
    show some (AO.lst (List.replicate (Int.toNat m) [pD blank]).flatten) = _
    rw [rep_flat, Int.toNat_natCast]
    show _ = some (AO.lst ((List.replicate m blank).map pD))
    rw [List.map_replicate]
  · show up _ p _ b = _
    rw [up_ne pb.symm, up_ne bc, up_ne pb.symm, up_same]
    show some (AO.lst (List.replicate (Int.toNat m) [Da.tup []]).flatten) = _
    rw [rep_flat, Int.toNat_natCast]
    show _ = some (AO.lst ((List.replicate m []).map roD))
    rw [List.map_replicate]
    rfl
  · show up _ p _ c = _
    rw [up_ne pc.symm, up_same]
    rfl
  · have xa : x ≠ a := fun z => by subst z; rw [ga] at e; cases e
    have xb : x ≠ b := fun z => by subst z; rw [gb0] at e; cases e
    have xc : x ≠ c := fun z => by subst z; rw [gc0] at e; cases e
    rw [up_ne nx, up_ne xc, up_ne nx, up_ne xb, up_ne nx, up_ne xa]
    exact e
end
end Lw
set_option maxHeartbeats 4000000
/-! the slots -/
namespace Lw
open PySem PySem.Spec PyProof.Rows L2
/-! dicts by numbers -/
section
variable {α : Type}
def nl (l : List (Nat × α)) (i : Nat) : Option α := (l.find? fun q => decide (q.1 = i)).map (·.2)
def setN (l : List (Nat × α)) (i : Nat) (x : α) : List (Nat × α) := if (nl l i).isSome = true then l.map (fun q => if q.1 = i then (q.1, x) else q) else l ++ [(i, x)]
def delN (l : List (Nat × α)) (i : Nat) : List (Nat × α) := l.filter fun q => decide (q.1 ≠ i)
def enc (e : α → Da) (l : List (Nat × α)) : List (L2.Key × Da) := l.map fun q => (Sum.inl (q.1 : Int), e q.2)
theorem nl_cons (q : Nat × α) (r : List (Nat × α)) (i : Nat) : nl (q :: r) i = if q.1 = i then some q.2 else nl r i := by
  unfold nl
  rw [List.find?_cons]
  by_cases e : q.1 = i <;> simp [e]
theorem key_nat {i j : Nat} (h : (Sum.inl (i : Int) : L2.Key) = Sum.inl (j : Int)) : i = j := by
  have := Sum.inl.inj h
  omega
theorem look_enc (e : α → Da) (i : Nat) : ∀ l : List (Nat × α), look (enc e l) (Sum.inl (i : Int)) = (nl l i).map e
  | [] => rfl
  | q :: r => by
    have ih := look_enc e i r
    unfold enc at ih ⊢
    rw [List.map_cons, nl_cons]
    by_cases h : q.1 = i
    · rw [look_pos (by show (Sum.inl (q.1 : Int) : L2.Key) = _; rw [h]), if_pos h]; rfl
    · rw [look_neg (fun z => h (key_nat z)), if_neg h, ih]
theorem put_enc (e : α → Da) (l : List (Nat × α)) (i : Nat) (x : α) : putA (enc e l) (Sum.inl (i : Int)) (e x) = enc e (setN l i x) := by
  unfold putA setN
  rw [look_any, look_enc]
  cases h : (nl l i) with
  | none => simp [enc]
  | some y =>
    simp only [Option.map_some, Option.isSome_some, if_true]
    unfold enc
    rw [List.map_map, List.map_map]
    refine List.map_congr_left fun q _ => ?_
    show (if (Sum.inl (q.1 : Int) : L2.Key) = Sum.inl (i : Int) then _ else _) = _
    by_cases hq : q.1 = i
    · rw [if_pos (by rw [hq])]
      simp [hq]
    · rw [if_neg fun z => hq (key_nat z)]
      simp [hq]
theorem del_enc (e : α → Da) (i : Nat) : ∀ l : List (Nat × α), delA (enc e l) (Sum.inl (i : Int)) = enc e (delN l i)
  | [] => rfl
  | q :: r => by
    have ih := del_enc e i r
    unfold delA enc delN at ih ⊢
    rw [List.map_cons, List.filter_cons, List.filter_cons, ih]
    by_cases h : q.1 = i
    · simp [h]
    · have : ¬ ((Sum.inl (q.1 : Int) : L2.Key) = Sum.inl (i : Int)) := fun z => h (key_nat z)
      simp [h, this]
theorem enc_len (e : α → Da) (l : List (Nat × α)) : (enc e l).length = l.length := by simp [enc]
theorem nl_set (l : List (Nat × α)) (i j : Nat) (x : α) : nl (setN l i x) j = if j = i then some x else nl l j := by
  unfold setN
  by_cases h : (nl l i).isSome = true
  · rw [if_pos h]
    have key : ∀ l : List (Nat × α), nl (l.map fun q => if q.1 = i then (q.1, x) else q) j = if j = i then (nl l j).map fun _ => x else nl l j := by
      intro l
      induction l with
      | nil => simp [nl]
      | cons q r ih =>
        rw [List.map_cons, nl_cons, nl_cons, ih]
        by_cases h1 : q.1 = i
        · by_cases h2 : i = j
          · subst h2; simp [h1]
          · have h3 : ¬ j = i := fun z => h2 z.symm
            have h4 : ¬ q.1 = j := by rw [h1]; exact h2
            simp [h1, h2, h3, h4]
        · by_cases h2 : q.1 = j
          · have h3 : ¬ j = i := by rw [← h2]; exact h1
            simp [h1, h2, h3]
          · simp [h1, h2]
    rw [key]
    by_cases h2 : j = i
    · subst h2
      obtain ⟨y, hy⟩ := Option.isSome_iff_exists.mp h
      simp [hy]
    · simp [h2]
  · rw [if_neg h]
    have hn : nl l i = none := by simpa using h
    have key : ∀ l : List (Nat × α), nl (l ++ [(i, x)]) j = (nl l j).or (if i = j then some x else none) := by
      intro l
      induction l with
      | nil => simp [nl_cons, nl]
      | cons q r ih =>
        rw [List.cons_append, nl_cons, nl_cons, ih]
        by_cases h2 : q.1 = j <;> simp [h2]
    rw [key]
    by_cases h2 : j = i
    · subst h2; simp [hn]
    · have h3 : ¬ i = j := fun z => h2 z.symm
      simp [h2, h3]
theorem nl_del (l : List (Nat × α)) (i j : Nat) : nl (delN l i) j = if j = i then none else nl l j := by
  unfold delN
  induction l with
  | nil => simp [nl]
  | cons q r ih =>
    rw [List.filter_cons]
    by_cases h1 : q.1 = i
    · rw [if_neg (by simp [h1]), ih, nl_cons]
      by_cases h2 : j = i
      · simp [h2]
      · have : ¬ q.1 = j := by rw [h1]; exact fun z => h2 z.symm
        simp [h2, this]
    · rw [if_pos (by simp [h1]), nl_cons, nl_cons, ih]
      by_cases h2 : j = i
      · subst h2; simp [h1]
      · simp [h2]
theorem nl_mem {l : List (Nat × α)} {i : Nat} (h : i ∈ l.map (·.1)) : nl l i ≠ none := by
  induction l with
  | nil => cases h
  | cons q r ih =>
    rw [nl_cons]
    by_cases e : q.1 = i
    · simp [e]
    · rw [if_neg e]
      refine ih ?_
      rcases List.mem_cons.mp h with z | z
      · exact absurd z.symm e
      · exact z
theorem mem_nl {l : List (Nat × α)} {i : Nat} {x : α} (h : nl l i = some x) : (i, x) ∈ l := by
  induction l with
  | nil => cases h
  | cons q r ih =>
    rw [nl_cons] at h
    by_cases e : q.1 = i
    · rw [if_pos e] at h
      cases h
      subst e
      exact List.mem_cons_self
    · rw [if_neg e] at h
      exact List.mem_cons_of_mem _ (ih h)
theorem setN_len (l : List (Nat × α)) (i : Nat) (x : α) : (setN l i x).length ≤ l.length + 1 := by
  unfold setN
  split
  · rw [List.length_map]; omega
  · rw [List.length_append]; exact Nat.le_refl _
end

structure SS where
  sl : List (Nat × List Int)
  hs : List (Nat × List Hd)
  sp : List (Hd × Nat)
structure SlotsAt (C : Addr) (A : PA) (s : SS) (G : Gp) : Prop where
  p : G A.p = some (.ins C (pF A))
  a : G A.a = some (.dK (enc pD s.sl))
  b : G A.b = some (.dK (enc roD s.hs))
  c : G A.c = some (.dT (s.sp.map spD))
  ab : A.a ≠ A.b
structure SWf (s : SS) : Prop where
  l1 : s.hs.length ≤ 60
  l2 : s.sl.length ≤ 60
  ok : ∀ i r, nl s.hs i = some r → r.length ≤ 60 ∧ RowOk r
  few : s.sp.length ≤ 60
section
variable {C : Addr} {A : PA} {s : SS} {G : Gp}
theorem SlotsAt.pa (h : SlotsAt C A s G) : A.p ≠ A.a := ne_kind h.p h.a nofun
theorem SlotsAt.pb (h : SlotsAt C A s G) : A.p ≠ A.b := ne_kind h.p h.b nofun
theorem SlotsAt.pc (h : SlotsAt C A s G) : A.p ≠ A.c := ne_kind h.p h.c nofun
theorem SlotsAt.ac (h : SlotsAt C A s G) : A.a ≠ A.c := ne_kind h.a h.c nofun
theorem SlotsAt.bc (h : SlotsAt C A s G) : A.b ≠ A.c := ne_kind h.b h.c nofun
theorem SlotsAt.upA (h : SlotsAt C A s G) (l : List (Nat × List Int)) : SlotsAt C A { s with sl := l } (up G A.a (.dK (enc pD l))) ∧ PK A G (up G A.a (.dK (enc pD l))) :=
  ⟨⟨by rw [up_ne h.pa]; exact h.p, up_same, by rw [up_ne h.ab.symm]; exact h.b, by rw [up_ne h.ac.symm]; exact h.c, h.ab⟩, fun x o n _ _ e => by rw [up_ne n]; exact e⟩
theorem SlotsAt.upB (h : SlotsAt C A s G) (l : List (Nat × List Hd)) : SlotsAt C A { s with hs := l } (up G A.b (.dK (enc roD l))) ∧ PK A G (up G A.b (.dK (enc roD l))) :=
  ⟨⟨by rw [up_ne h.pb]; exact h.p, by rw [up_ne h.ab]; exact h.a, up_same, by rw [up_ne h.bc.symm]; exact h.c, h.ab⟩, fun x o _ n _ e => by rw [up_ne n]; exact e⟩
theorem SlotsAt.upC (h : SlotsAt C A s G) (l : List (Hd × Nat)) : SlotsAt C A { s with sp := l } (up G A.c (.dT (l.map spD))) ∧ PK A G (up G A.c (.dT (l.map spD))) :=
  ⟨⟨by rw [up_ne h.pc]; exact h.p, by rw [up_ne h.ac]; exact h.a, by rw [up_ne h.bc]; exact h.b, up_same, h.ab⟩, fun x o _ _ n e => by rw [up_ne n]; exact e⟩
end
abbrev slots (j : Nat) : Stmt := inClass (top 45) j
section
variable {P : Program} {w : World} {K : PySem.W.Frag} {mg : Str → Option Value} {base : Heap} {k : Nat} {C : Addr}
/-! __init__ -/
def SSlotsInit (C : Addr) : Sp3 := fun ds G Q => ∃ p, ds = [.obj p] ∧ G p = some (.ins C []) ∧
  ∀ A G', A.p = p → G A.a = none → G A.b = none → G A.c = none → SlotsAt C A ⟨[], [], []⟩ G' → (∀ x o, x ≠ p → G x = some o → G' x = some o) → Q .non G'
theorem scSlotsInit : FnScope ["self"] ["self"] (defScope (slots 0)) := ⟨rfl, rfl, rfl, by decide +kernel, rfl, by decide +kernel, by decide +kernel⟩
theorem okSlotsInit {f : Addr} {fd : FuncData} (F : Fun K "__init__" "Slots.__init__" (slots 0) f fd) (TC : PTx K mg C) :
    FnOk P w K mg base CX0 1 f fd ["self"] (spl K (SSlotsInit C)) := by
  refine Fun3 F scSlotsInit (fun ds G Q ⟨_, e, _⟩ => by rw [e]; rfl) fun cdv A outer s H E hr => ⟨_, s_cons (s_fld TC.cl TC.s (v 0) e_newK) (s_cons (s_fld TC.cl TC.h (v 0) e_newK) (s_one (s_fld TC.cl TC.t (v 0) e_newT))), ?_⟩
  rintro ds G Q ⟨p, rfl, gp, q⟩
  intro a ga
  have pa : p ≠ a := fun e => by rw [← e, gp] at ga; cases ga
  refine ⟨_, rfl, p, [], rfl, by rw [up_ne pa]; exact gp, by decide, ?_⟩
  intro b gb
  have pb : p ≠ b := fun e => by rw [← e, up_same] at gb; cases gb
  have ab : a ≠ b := fun e => by rw [← e, up_ne pa.symm, up_same] at gb; cases gb
  have gb0 : G b = none := by rw [up_ne pb.symm, up_ne ab.symm] at gb; exact gb
  refine ⟨_, rfl, p, _, rfl, by rw [up_ne pb, up_same], by show 1 < 1000; omega, ?_⟩
  intro c gc
  have pc : p ≠ c := fun e => by rw [← e, up_same] at gc; cases gc
  have bc : b ≠ c := fun e => by rw [← e, up_ne pb.symm, up_same] at gc; cases gc
  have ac : a ≠ c := fun e => by rw [← e, up_ne pa.symm, up_ne ab, up_ne pa.symm, up_same] at gc; cases gc
  have gc0 : G c = none := by rw [up_ne pc.symm, up_ne bc.symm, up_ne pc.symm, up_ne ac.symm] at gc; exact gc
  refine ⟨_, rfl, p, _, rfl, by rw [up_ne pc, up_same], (by show (putD "hands" (.obj b) [(("sheets" : Str), .obj a)]).length < 1000; rw [putD1]; show 2 < 1000; omega), ?_⟩
  refine q ⟨p, a, b, c⟩ _ rfl ga gb0 gc0 ⟨?_, ?_, ?_, ?_, ab⟩ fun x o nx e => ?_
  · show up _ p _ p = _
    rw [up_same]
    show some (AO.ins C (putD "spots" (.obj c) (putD "hands" (.obj b) [(("sheets" : Str), .obj a)]))) = _
    rw [putD1, putD2]
  · show up _ p _ a = _
    rw [up_ne pa.symm, up_ne ac, up_ne pa.symm, up_ne ab, up_ne pa.symm, up_same]
    rfl
  · show up _ p _ b = _
    rw [up_ne pb.symm, up_ne bc, up_ne pb.symm, up_same]
    rfl
  · show up _ p _ c = _
    rw [up_ne pc.symm, up_same]
    rfl
  · have xa : x ≠ a := fun z => by subst z; rw [ga] at e; cases e
    have xb : x ≠ b := fun z => by subst z; rw [gb0] at e; cases e
    have xc : x ≠ c := fun z => by subst z; rw [gc0] at e; cases e
    rw [up_ne nx, up_ne xc, up_ne nx, up_ne xb, up_ne nx, up_ne xa]
    exact e
/-! need_slot, need_new -/
def SNeedSlot (C : Addr) : Sp3 := fun ds G Q => ∃ A s i r, ds = [.obj A.p, .int (i : Nat)] ∧ SlotsAt C A s G ∧ nl s.hs i = some r ∧ Q .non G
theorem scNeedSlot : FnScope ["self", "slot"] ["self", "slot"] (defScope (slots 1)) := ⟨rfl, rfl, rfl, by decide +kernel, rfl, by decide +kernel, by decide +kernel⟩
theorem okNeedSlot {f : Addr} {fd : FuncData} (F : Fun K "need_slot" "Slots.need_slot" (slots 1) f fd) (T : Txt K w mg) (TC : PTx K mg C) : FnOk P w K mg base CX0 1 f fd ["self", "slot"] (spl K (SNeedSlot C)) := by
  refine Fun3 F scNeedSlot (fun ds G Q ⟨_, _, _, _, e, _⟩ => by rw [e]; rfl) fun cdv A outer s H E hr => ⟨_, s_one (s_if (w_pt (w_or (t_not (t_val (e_isi T.isi T.int (by rfl) (v 1)))) (w_or (t_val (e_isi T.isi T.bool (by rfl) (v 1))) (w_or1 (t_notinK (ub hr) (v 1) (e_fld TC.cl TC.h (v 0))))))) ss_never s_nil), ?_⟩
  rintro ds G Q ⟨A, s, i, r, rfl, p, hi, q⟩
  refine ⟨_, rfl, _, _, _, rfl, rfl, true, rfl, ?_⟩
  refine ⟨_, rfl, _, _, _, rfl, rfl, false, rfl, ?_⟩
  refine ⟨_, rfl, _, rfl, A.p, _, _, rfl, p.p, rfl, A.b, _, i, rfl, rfl, p.b, ?_⟩
  rw [look_enc, hi]
  exact ⟨false, rfl, ite_f Bool.false_ne_true q⟩
def SSNeedNew (C : Addr) : Sp3 := fun ds G Q => ∃ A s hs, ds = [.obj A.p, roD hs] ∧ SlotsAt C A s G ∧ hs.length ≤ 60 ∧ (∀ h ∈ hs, spot s.sp h = none) ∧ Q .non G
theorem scSNeedNew : FnScope ["self", "holders", "holder"] ["self", "holders"] (defScope (slots 2)) := ⟨rfl, rfl, rfl, by decide +kernel, rfl, by decide +kernel, by decide +kernel⟩
theorem okSNeedNew {f : Addr} {fd : FuncData} (F : Fun K "need_new" "Slots.need_new" (slots 2) f fd) (T : Txt K w mg) (TC : PTx K mg C) : FnOk P w K mg base CX0 1 f fd ["self", "holders"] (spl K (SSNeedNew C)) := by
  refine Fun3 F scSNeedNew (fun ds G Q ⟨_, _, _, e, _⟩ => by rw [e]; rfl) fun cdv A outer s H E hr => ⟨_, s_one (s_if (t_val (e_any rfl T.any (l_lc (own := [("holder", 2)]) rfl scSNeedNew.nd (i_tup (v 1)) (bk ["self", "holders", "holder"] (defScope (slots 2)) (by decide +kernel)) (fun s H C cl fp => g_name (i := 2) scSNeedNew.nd) (fun s H C cl fp => ts_nil) (fun s H C' cl fp => e_inT (ub hr) (v 2) (e_fld TC.cl TC.t (v 0)))))) ss_never s_nil), ?_⟩
  rintro ds G Q ⟨A, s, hs, rfl, p, hl, hn, q⟩
  refine ⟨_, rfl, _, rfl, lc_map (fun _ => .bl false) trivial (small_len (by rw [List.length_map]; omega)) (fun d hd R h => ?_) ?_⟩
  · obtain ⟨x, hx, rfl⟩ := List.mem_map.mp hd
    refine ⟨_, rfl, _, rfl, A.p, _, _, rfl, p.p, rfl, A.c, _, hk x, rfl, rfl, hk_t x, p.c, ?_⟩
    rw [look_sp, hn x hx]
    exact h
  · refine ⟨_, bl_map _ fun _ => false, false, ?_, ite_f Bool.false_ne_true q⟩
    have : ((List.map hD hs).map fun _ => false).any (fun b => b) = false := by
      rw [List.any_eq_false]
      intro b hb
      obtain ⟨_, _, rfl⟩ := List.mem_map.mp hb
      exact Bool.false_ne_true
    rw [this]
/-! hold -/
theorem spot_append (l : List (Hd × Nat)) (m : List (Hd × Nat)) (h : Hd) : spot (l ++ m) h = (spot l h).or (spot m h) := by
  induction l with
  | nil => simp [spot_nil]
  | cons q r ih =>
    rw [List.cons_append, spot_cons, spot_cons, ih]
    by_cases e : q.1 = h <;> simp [e]
theorem spot_map (i : Nat) (hs : List Hd) (h : Hd) : spot (hs.map fun x => (x, i)) h = if h ∈ hs then some i else none := by
  induction hs with
  | nil => simp [spot_nil]
  | cons x r ih =>
    rw [List.map_cons, spot_cons, ih]
    by_cases e : x = h
    · subst e; simp
    · have e2 : ¬ h = x := fun z => e z.symm
      simp [e, e2]
theorem spot_filter (l : List (Hd × Nat)) (h h' : Hd) : spot (l.filter fun q => decide (q.1 ≠ h)) h' = if h' = h then none else spot l h' := by
  induction l with
  | nil => simp [spot_nil]
  | cons q r ih =>
    rw [List.filter_cons]
    by_cases e : q.1 = h
    · rw [if_neg (by simp [e]), ih, spot_cons]
      by_cases e2 : h' = h
      · simp [e2]
      · have : ¬ q.1 = h' := by rw [e]; exact fun z => e2 z.symm
        simp [e2, this]
    · rw [if_pos (by simp [e]), spot_cons, spot_cons, ih]
      by_cases e2 : h' = h
      · subst e2; simp [e]
      · simp [e2]
theorem merge_sp (i : Nat) : ∀ {hs : List Hd} {sp : List (Hd × Nat)}, hs.Nodup → (∀ h ∈ hs, spot sp h = none) → mergeA (sp.map spD) ((hs.map fun h => (h, i)).map spD) = (sp ++ hs.map fun h => (h, i)).map spD
  | [], sp, _, _ => by simp [mergeA]
  | x :: r, sp, nd, hn => by
    have nd' := List.nodup_cons.mp nd
    show mergeA (putA (sp.map spD) (hk x) (.int (i : Nat))) ((r.map fun h => (h, i)).map spD) = _
    rw [put_sp i (hn x List.mem_cons_self), merge_sp i nd'.2 fun h hh => ?_]
    · simp
    · rw [spot_append, hn h (List.mem_cons_of_mem _ hh), spot_cons, if_neg fun e => nd'.1 (by rw [show x = h from e]; exact hh)]
      rfl
theorem kh_nodup (f : List L2.Key → Int) (i : Nat) (hs : List Hd) (e : (hs.map fun h => f (hk h)).Nodup) : (((hs.map fun h => (h, i)).map spD).map fun p => f p.1).Nodup := by
  rw [List.map_map, List.map_map]
  exact e
def SSHold (P : Program) (w : World) (C : Addr) : Sp3 := fun ds G Q => ∃ A s i hs, ds = [.obj A.p, .int (i : Nat), roD hs] ∧ SlotsAt C A s G ∧ s.hs.length ≤ 1000 ∧ ((nl s.hs i).getD []).length ≤ 1000 ∧ s.sp.length ≤ 1000 ∧ hs.length ≤ 60 ∧ hs.Nodup ∧ (∀ h ∈ hs, spot s.sp h = none) ∧
  (s.sp ≠ [] ∨ (hs.map fun h => keyHash P w (hk h)).Nodup) ∧
  ∀ L' : List Hd, L'.Perm ((nl s.hs i).getD [] ++ hs) → (L'.Pairwise fun a b => hLe a b = true) → ∀ G', SlotsAt C A { s with hs := setN s.hs i L', sp := s.sp ++ hs.map fun h => (h, i) } G' → PK A G G' → Q .non G'
abbrev nSHold : List Str := ["self", "slot", "holders", "holder"]
theorem scSHold : FnScope nSHold ["self", "slot", "holders"] (defScope (slots 3)) := ⟨rfl, rfl, rfl, by decide +kernel, rfl, by decide +kernel, by decide +kernel⟩
theorem okSHold {f : Addr} {fd : FuncData} (F : Fun K "hold" "Slots.hold" (slots 3) f fd) (T : Txt K w mg) (TC : PTx K mg C) : FnOk P w K mg base CX0 1 f fd ["self", "slot", "holders"] (spl K (SSHold P w C)) := by
  refine Fun3 F scSHold (fun ds G Q ⟨_, _, _, _, e, _⟩ => by rw [e]; rfl) fun cdv A outer s H E hr => ⟨_, s_cons (s_putK (ub hr) (e_fld TC.cl TC.h (v 0)) (v 1) (e_tuple T.tuple (l_sort (ub4 hr) T.sorted (e_cat (e_getK2 (ub hr) (e_fld TC.cl TC.h (v 0)) (v 1) (e_tup a_nil)) (v 2)))))
    (s_one (s_expr (e_upd (ub hr) (e_fld TC.cl TC.t (v 0)) (d_dc (own := [("holder", 3)]) (ub hr) rfl scSHold.nd (i_tup (v 2)) (bk nSHold (defScope (slots 3)) (by decide +kernel)) (fun s H C cl fp => g_name (i := 3) scSHold.nd) (fun s H C cl fp => v 3) (fun s H C cl fp => v 1))))), ?_⟩
  rintro ds G Q ⟨A, s, i, hs, rfl, p, w1, hr, w2, hl, nd, hn, hh, q⟩
  refine ⟨_, rfl, A.p, _, _, rfl, p.p, rfl, A.b, _, rfl, p.b, _, rfl, by show 0 ≤ sizeLine; decide, _, i, p.b, rfl, ?_⟩
  have e0 : (look (enc roD s.hs) (Sum.inl (i : Int))).getD (.tup []) = roD ((nl s.hs i).getD []) := by
    rw [look_enc]
    cases nl s.hs i <;> rfl
  rw [e0]
  refine ⟨_, rfl, _, _, rfl, rfl, ?_, (nl s.hs i).getD [] ++ hs, by rw [List.map_append], fun L' hL hP => ?_⟩
  · rw [List.length_map, List.length_map, sizeLine_eq]; omega
  obtain ⟨p1, k1⟩ := p.upB (setN s.hs i L')
  refine ⟨_, rfl, A.p, _, _, rfl, p.p, rfl, _, rfl, A.b, _, i, rfl, rfl, p.b, small_len (by rw [enc_len]; omega), ?_⟩
  have e1 : putA (enc roD s.hs) (Sum.inl (i : Int)) (.tup (L'.map hD)) = enc roD (setN s.hs i L') := put_enc roD s.hs i L'
  rw [e1]
  refine ⟨_, rfl, A.p, _, _, rfl, p1.p, rfl, A.c, _, rfl, p1.c, ?_⟩
  refine ⟨_, rfl, _, rfl, fun j acc G' => G' = up G A.b (.dK (enc roD (setN s.hs i L'))) ∧ acc = ((hs.take j).map fun h => (h, i)).map spD, ⟨rfl, rfl⟩, ?_, ?_, ?_⟩
  · rintro j acc G' hj ⟨rfl, rfl⟩
    refine ⟨trivial, small_len ?_⟩
    rw [List.length_map, List.length_map, List.length_take]; omega
  · rintro j d acc G' hd ⟨rfl, rfl⟩
    rw [List.getElem?_map] at hd
    obtain ⟨x, hx, rfl⟩ := Option.map_eq_some_iff.mp hd
    refine ⟨_, rfl, _, rfl, hk x, rfl, hk_t x, rfl, ?_⟩
    have ht : hs.take (j + 1) = hs.take j ++ [x] := by rw [List.take_add_one, hx]; rfl
    have hnx : x ∉ hs.take j := by
      intro hm
      have h1 : (hs.take (j + 1)).Nodup := (List.take_sublist _ _).nodup nd
      rw [ht, List.nodup_append] at h1
      exact h1.2.2 x hm x (List.mem_singleton.mpr rfl) rfl
    rw [put_sp i (by rw [spot_map, if_neg hnx]), ht]
    simp
  · rintro acc G' ⟨rfl, rfl⟩
    have et : hs.take (hs.map hD).length = hs := by rw [List.length_map, List.take_length]
    rw [et]
    refine ⟨_, p1.c, ?_, ?_, ?_⟩
    · rw [List.length_map, List.length_map, List.length_map, sizeLine_eq]
      show s.sp.length + _ ≤ _
      omega
    · rcases hh with e | e
      · refine .inl fun z => e ?_
        have := congrArg List.length z
        rw [List.length_map] at this
        exact List.length_eq_zero_iff.mp this
      · refine .inr ?_
        exact kh_nodup (keyHash P w) i hs e
    · obtain ⟨p2, k2⟩ := p1.upC (s.sp ++ hs.map fun h => (h, i))
      have e2 := merge_sp i nd hn
      show Q _ (up _ A.c (.dT (mergeA (s.sp.map spD) ((hs.map fun h => (h, i)).map spD))))
      rw [e2]
      exact q L' hL hP _ p2 (k1.trans k2)
/-! page, holders -/
def SSPageOf (C : Addr) : Sp3 := fun ds G Q => ∃ A s i r g, ds = [.obj A.p, .int (i : Nat)] ∧ SlotsAt C A s G ∧ nl s.hs i = some r ∧ nl s.sl i = some g ∧ Q (pD g) G
theorem scSPageOf : FnScope ["self", "slot"] ["self", "slot"] (defScope (slots 5)) := ⟨rfl, rfl, rfl, by decide +kernel, rfl, by decide +kernel, by decide +kernel⟩
theorem okSPageOf {f : Addr} {fd : FuncData} (F : Fun K "page" "Slots.page" (slots 5) f fd) (TC : PTx K mg C) (D : MethOk P w K mg base 1 C "need_slot" [] (SNeedSlot C)) : FnOk P w K mg base CX0 2 f fd ["self", "slot"] (spl K (SSPageOf C)) := by
  refine Fun3 F scSPageOf (fun ds G Q ⟨_, _, _, _, _, e, _⟩ => by rw [e]; rfl) fun cdv A outer s H E hr => ⟨_, s_cons (s_expr (e_meth D TC.cl hr (v 0) (a_cons (v 1) a_nil))) (s_one (s_ret (e_dgetK (ub hr) (e_fld TC.cl TC.s (v 0)) (v 1)))), ?_⟩
  rintro ds G Q ⟨A, s, i, r, g, rfl, p, hi, hg, q⟩
  refine ⟨_, rfl, A.p, _, rfl, p.p, rfl, _, rfl, A, s, i, r, rfl, p, hi, ?_⟩
  exact ⟨_, rfl, A.p, _, _, rfl, p.p, rfl, _, rfl, A.a, _, i, _, rfl, rfl, p.a, by rw [look_enc, hg]; rfl, q⟩
def SSHoldersOf (C : Addr) : Sp3 := fun ds G Q => ∃ A s i r, ds = [.obj A.p, .int (i : Nat)] ∧ SlotsAt C A s G ∧ nl s.hs i = some r ∧ Q (roD r) G
theorem scSHoldersOf : FnScope ["self", "slot"] ["self", "slot"] (defScope (slots 6)) := ⟨rfl, rfl, rfl, by decide +kernel, rfl, by decide +kernel, by decide +kernel⟩
theorem okSHoldersOf {f : Addr} {fd : FuncData} (F : Fun K "holders" "Slots.holders" (slots 6) f fd) (TC : PTx K mg C) (D : MethOk P w K mg base 1 C "need_slot" [] (SNeedSlot C)) : FnOk P w K mg base CX0 2 f fd ["self", "slot"] (spl K (SSHoldersOf C)) := by
  refine Fun3 F scSHoldersOf (fun ds G Q ⟨_, _, _, _, e, _⟩ => by rw [e]; rfl) fun cdv A outer s H E hr => ⟨_, s_cons (s_expr (e_meth D TC.cl hr (v 0) (a_cons (v 1) a_nil))) (s_one (s_ret (e_dgetK (ub hr) (e_fld TC.cl TC.h (v 0)) (v 1)))), ?_⟩
  rintro ds G Q ⟨A, s, i, r, rfl, p, hi, q⟩
  refine ⟨_, rfl, A.p, _, rfl, p.p, rfl, _, rfl, A, s, i, r, rfl, p, hi, ?_⟩
  exact ⟨_, rfl, A.p, _, _, rfl, p.p, rfl, _, rfl, A.b, _, i, _, rfl, rfl, p.b, by rw [look_enc, hi]; rfl, q⟩
end
end Lw
set_option maxHeartbeats 4000000
/-! the slots: put, share, leave -/
namespace Lw
open PySem PySem.Spec PyProof.Rows L2
section
variable {P : Program} {w : World} {K : PySem.W.Frag} {mg : Str → Option Value} {base : Heap} {k : Nat} {C : Addr}
/-! put -/
def SSPut (P : Program) (w : World) (C : Addr) : Sp3 := fun ds G Q => ∃ A s g hs, ds = [.obj A.p, pD g, roD hs] ∧ SlotsAt C A s G ∧ SWf s ∧ PgOk g ∧ RowOk hs ∧ hs ≠ [] ∧ hs.length ≤ 60 ∧ tabB hs = false ∧ (∀ h ∈ hs, spot s.sp h = none) ∧
  (s.sp ≠ [] ∨ (hs.map fun h => keyHash P w (hk h)).Nodup) ∧
  ∀ i, nl s.hs i = none → (∀ j, j < i → nl s.hs j ≠ none) → ∀ G', SlotsAt C A ⟨setN s.sl i g, setN s.hs i hs, s.sp ++ hs.map fun h => (h, i)⟩ G' → PK A G G' → Q (.int (i : Nat)) G'
theorem rising_one {L hs : List Hd} (hp : L.Perm hs) (hL : L.Pairwise fun a b => hLe a b = true) (hh : hs.Pairwise fun a b => hLt a b = true) : L = hs := by
  have nd : hs.Nodup := hh.imp fun {a b} h e => by
    subst e
    rw [hLt_irr] at h; cases h
  have hL' := pw_lt (hp.nodup_iff.mpr nd) hL
  clear hL nd
  induction L generalizing hs with
  | nil => exact (List.nil_perm.mp hp).symm
  | cons x L ih =>
    cases hs with
    | nil => exact absurd hp.length_eq (by simp)
    | cons y hs =>
      have exy : x = y := by
        rcases List.mem_cons.mp (hp.mem_iff.mp List.mem_cons_self) with e | hx
        · exact e
        · rcases List.mem_cons.mp (hp.symm.mem_iff.mp List.mem_cons_self) with e | hy
          · exact e.symm
          · have h1 := (List.pairwise_cons.mp hh).1 x hx
            have h2 := (List.pairwise_cons.mp hL').1 y hy
            have := hLt_trans h1 h2
            rw [hLt_irr] at this; cases this
      subst exy
      rw [ih ((List.perm_cons x).mp hp) (List.pairwise_cons.mp hh).2 (List.pairwise_cons.mp hL').2]
theorem row_nodup {hs : List Hd} (h : RowOk hs) : hs.Nodup := h.2.imp fun {a b} h e => by
  subst e
  rw [hLt_irr] at h; cases h
abbrev nSPut : List Str := ["self", "page", "holders", "slot", "number"]
theorem scSPut : FnScope nSPut ["self", "page", "holders"] (defScope (slots 4)) := ⟨rfl, rfl, rfl, by decide +kernel, rfl, by decide +kernel, by decide +kernel⟩
theorem okSPut {f : Addr} {fd : FuncData} (F : Fun K "put" "Slots.put" (slots 4) f fd) (T : Txt K w mg) (TC : PTx K mg C)
    (D1 : DefOk P w K mg base 3 "is_page" [] SPage) (D2 : DefOk P w K mg base 3 "are_holders" [] SHolders) (D3 : DefOk P w K mg base 1 "of_table" [] SOfTable) (D4 : MethOk P w K mg base 1 C "need_new" [] (SSNeedNew C)) (D5 : MethOk P w K mg base 1 C "hold" [] (SSHold P w C)) :
    FnOk P w K mg base CX0 4 f fd ["self", "page", "holders"] (spl K (SSPut P w C)) := by
  refine Fun3 F scSPut (fun ds G Q ⟨_, _, _, _, e, _⟩ => by rw [e]; rfl) fun cdv A outer s H E hr => ⟨_, s_cons (s_if (t_not (t_val (e_call D1 hr (a_cons (v 1) a_nil)))) ss_never s_nil)
    (s_cons (s_if (w_pt (w_or (t_not (t_val (e_call D2 hr (a_cons (v 2) a_nil)))) (w_or (t_eq hr.units (v 2) (e_tup a_nil)) (w_or1 (t_val (e_call D3 hr (a_cons (v 2) a_nil))))))) ss_never s_nil)
    (s_cons (s_expr (e_meth D4 TC.cl hr (v 0) (a_cons (v 2) a_nil)))
    (s_cons (s_set (i := 3) scSPut.nd (e_minL rfl T.min (l_lc (own := [("number", 4)]) rfl scSPut.nd (i_range T.range (e_add (e_lenK T.len (e_fld TC.cl TC.h (v 0))) e_int)) (bk nSPut (defScope (slots 4)) (by decide +kernel)) (fun s H C cl fp => g_name (i := 4) scSPut.nd) (fun s H C' cl fp => ts_one (t_notinK (ub hr) (v 4) (e_fld TC.cl TC.h (v 0)))) (fun s H C cl fp => v 4))))
    (s_cons (s_putK (ub hr) (e_fld TC.cl TC.s (v 0)) (v 3) (v 1)) (s_cons (s_expr (e_meth D5 TC.cl hr (v 0) (a_cons (v 3) (a_cons (v 2) a_nil)))) (s_one (s_ret (v 3)))))))), ?_⟩
  rintro ds G Q ⟨A, s, g, hs, rfl, p, W, hg, ro, hne, hl, ht, hn, hh, q⟩
  refine ⟨_, rfl, g, rfl, hg, true, rfl, ite_f Bool.false_ne_true ?_⟩
  refine ⟨_, rfl, hs, rfl, hl, ro, true, rfl, ?_⟩
  refine ⟨_, rfl, by show 0 ≤ sizeLine; decide, row_ok ro.1, ok_nil, false, ?_, ?_⟩
  · rw [eqB_row]
    cases hs with
    | nil => exact absurd rfl hne
    | cons x r => rfl
  refine ⟨_, rfl, hs, rfl, hl, ro.1, false, by rw [ht], ite_f Bool.false_ne_true ?_⟩
  refine ⟨_, rfl, A.p, _, rfl, p.p, rfl, _, rfl, A, s, hs, rfl, p, hl, hn, ?_⟩
  refine ⟨_, rfl, A.p, _, _, rfl, p.p, rfl, A.b, _, rfl, p.b, _, 1, rfl, rfl, _, rfl, ?_, ?_, ?_⟩
  · rw [enc_len]; show -(2 ^ 62) ≤ ((s.hs.length : Nat) : Int) + 1; omega
  · rw [enc_len]; show ((s.hs.length : Nat) : Int) + 1 < 2 ^ 62; have := W.l1; omega
  rw [enc_len]
  have en : Int.toNat ((fun i j => i + j) (s.hs.length : Int) 1) = s.hs.length + 1 := by
    show Int.toNat ((s.hs.length : Int) + 1) = _
    omega
  rw [en]
  let free : Da → Bool := fun d => match d with | .int i => (nl s.hs i.toNat).isNone | _ => false
  refine lc_pure free (fun d => d) trivial (small_len (by rw [intsD_len]; have := W.l1; omega)) (fun d hd R S h => ?_) ?_
  · unfold intsD at hd
    obtain ⟨i, hi, rfl⟩ := List.mem_map.mp hd
    refine ⟨_, rfl, _, rfl, A.p, _, _, rfl, p.p, rfl, A.b, _, i, rfl, rfl, p.b, ?_⟩
    rw [look_enc]
    have ef : free (.int (i : Nat)) = (nl s.hs i).isNone := by
      show (nl s.hs ((i : Int)).toNat).isNone = _
      rw [Int.toNat_natCast]
    rw [ef] at h
    cases hb : nl s.hs i with
    | none =>
      rw [hb] at h
      exact ⟨true, rfl, _, rfl, h⟩
    | some r =>
      rw [hb] at h
      exact ⟨false, rfl, h⟩
  · -- the numbers that are free
    have e1 : ((intsD (s.hs.length + 1)).filter free).map (fun d => d) = (((List.range (s.hs.length + 1)).filter fun i => (nl s.hs i).isNone).map fun i => ((i : Nat) : Int)).map .int := by
      rw [List.map_id']
      unfold intsD
      rw [List.filter_map, List.map_map]
      rfl
    refine ⟨_, e1, ?_, ?_⟩
    · obtain ⟨j, hj, hnj⟩ := st_missing (s.hs.map (·.1)) (s.hs.length + 1) (by rw [List.length_map]; omega)
      rw [List.length_map]
      refine List.length_pos_of_mem (a := j) (List.mem_filter.mpr ⟨List.mem_range.mpr hj, ?_⟩)
      cases hb : nl s.hs j with
      | none => rfl
      | some r => exact absurd (List.mem_map.mpr ⟨_, mem_nl hb, rfl⟩) hnj
    · rintro m hm hmin
      obtain ⟨i, hi, rfl⟩ := List.mem_map.mp hm
      obtain ⟨hi1, hi2⟩ := List.mem_filter.mp hi
      have hni : nl s.hs i = none := by simpa using hi2
      have hleast : ∀ j, j < i → nl s.hs j ≠ none := fun j hj e => by
        have hlt := List.mem_range.mp hi1
        have := hmin (j : Nat) (List.mem_map.mpr ⟨j, List.mem_filter.mpr ⟨List.mem_range.mpr (by omega), by rw [e]; rfl⟩, rfl⟩)
        omega
      obtain ⟨p1, k1⟩ := p.upA (setN s.sl i g)
      refine ⟨_, rfl, _, rfl, A.p, _, _, rfl, p.p, rfl, _, rfl, A.a, _, i, rfl, rfl, p.a, small_len (by rw [enc_len]; have := W.l2; omega), ?_⟩
      have e2 : putA (enc pD s.sl) (Sum.inl (i : Int)) (.tup (g.map .int)) = enc pD (setN s.sl i g) := put_enc pD s.sl i g
      rw [e2]
      refine ⟨_, rfl, A.p, _, rfl, p1.p, rfl, _, rfl, _, rfl, A, _, i, hs, rfl, p1, (by show s.hs.length ≤ 1000; have := W.l1; omega), (by show ((nl s.hs i).getD []).length ≤ 1000; rw [hni]; exact Nat.zero_le _), (by show s.sp.length ≤ 1000; have := W.few; omega), hl, row_nodup ro, hn, hh, fun L' hL hP G' p2 k2 => ?_⟩
      · have eL : L' = hs := by
          refine rising_one ?_ hP ro.2
          show L'.Perm hs
          have : (nl s.hs i).getD [] ++ hs = hs := by rw [hni]; rfl
          rw [← this]
          exact hL
        subst eL
        exact ⟨_, rfl, q i hni hleast G' p2 (k1.trans k2)⟩
/-! share, leave -/
def SSShare (C : Addr) : Sp3 := fun ds G Q => ∃ A s i h r, ds = [.obj A.p, .int (i : Nat), hD h] ∧ SlotsAt C A s G ∧ SWf s ∧ nl s.hs i = some r ∧ r.length < 60 ∧ HdOk h ∧ tabB [h] = false ∧ spot s.sp h = none ∧
  ∀ L' : List Hd, L'.Perm (r ++ [h]) → (L'.Pairwise fun a b => hLe a b = true) → ∀ G', SlotsAt C A { s with hs := setN s.hs i L', sp := s.sp ++ [(h, i)] } G' → PK A G G' → Q .non G'
theorem scSShare : FnScope ["self", "slot", "holder"] ["self", "slot", "holder"] (defScope (slots 7)) := ⟨rfl, rfl, rfl, by decide +kernel, rfl, by decide +kernel, by decide +kernel⟩
theorem okSShare {f : Addr} {fd : FuncData} (F : Fun K "share" "Slots.share" (slots 7) f fd) (TC : PTx K mg C)
    (D0 : MethOk P w K mg base 1 C "need_slot" [] (SNeedSlot C)) (D1 : DefOk P w K mg base 2 "is_holder" [] SHolder) (D3 : DefOk P w K mg base 1 "of_table" [] SOfTable) (D4 : MethOk P w K mg base 1 C "need_new" [] (SSNeedNew C)) (D5 : MethOk P w K mg base 1 C "hold" [] (SSHold P w C)) :
    FnOk P w K mg base CX0 3 f fd ["self", "slot", "holder"] (spl K (SSShare C)) := by
  refine Fun3 F scSShare (fun ds G Q ⟨_, _, _, _, _, e, _⟩ => by rw [e]; rfl) fun cdv A outer s H E hr => ⟨_, s_cons (s_expr (e_meth D0 TC.cl hr (v 0) (a_cons (v 1) a_nil)))
    (s_cons (s_if (w_pt (w_or (t_not (t_val (e_call D1 hr (a_cons (v 2) a_nil)))) (w_or1 (t_val (e_call D3 hr (a_cons (e_tup (a_cons (v 2) a_nil)) a_nil)))))) ss_never s_nil)
    (s_cons (s_expr (e_meth D4 TC.cl hr (v 0) (a_cons (e_tup (a_cons (v 2) a_nil)) a_nil))) (s_one (s_expr (e_meth D5 TC.cl hr (v 0) (a_cons (v 1) (a_cons (e_tup (a_cons (v 2) a_nil)) a_nil))))))), ?_⟩
  rintro ds G Q ⟨A, s, i, h, r, rfl, p, W, hi, hl, hh, ht, hn, q⟩
  have one : ∀ x ∈ [h], HdOk x := fun x hx => by rw [List.mem_singleton.mp hx]; exact hh
  refine ⟨_, rfl, A.p, _, rfl, p.p, rfl, _, rfl, A, s, i, r, rfl, p, hi, ?_⟩
  refine ⟨_, rfl, h, rfl, hh, true, rfl, ?_⟩
  refine ⟨_, rfl, sz1, [h], rfl, by show 1 ≤ 60; omega, one, false, by rw [ht], ite_f Bool.false_ne_true ?_⟩
  refine ⟨_, rfl, A.p, _, rfl, p.p, rfl, _, rfl, sz1, A, s, [h], rfl, p, by show 1 ≤ 60; omega, fun x hx => by rw [List.mem_singleton.mp hx]; exact hn, ?_⟩
  refine ⟨_, rfl, A.p, _, rfl, p.p, rfl, _, rfl, _, rfl, sz1, A, s, i, [h], rfl, p, by have := W.l1; omega, by rw [hi]; show r.length ≤ 1000; omega, by have := W.few; omega, by show 1 ≤ 60; omega, List.nodup_cons.mpr ⟨nofun, List.nodup_nil⟩,
    fun x hx => by rw [List.mem_singleton.mp hx]; exact hn, .inr (List.nodup_cons.mpr ⟨nofun, List.nodup_nil⟩), fun L' hL hP G' p2 k2 => q L' ?_ hP G' p2 k2⟩
  have : (nl s.hs i).getD [] ++ [h] = r ++ [h] := by rw [hi]; rfl
  rw [← this]
  exact hL
def SSLeave (C : Addr) : Sp3 := fun ds G Q => ∃ A s i h r g, ds = [.obj A.p, .int (i : Nat), hD h] ∧ SlotsAt C A s G ∧ SWf s ∧ nl s.hs i = some r ∧ nl s.sl i = some g ∧ HdOk h ∧ spot s.sp h = some i ∧
  ∀ G', SlotsAt C A (if (drp r h).isEmpty = true then ⟨delN s.sl i, delN (setN s.hs i (drp r h)) i, s.sp.filter fun q => decide (q.1 ≠ h)⟩ else ⟨s.sl, setN s.hs i (drp r h), s.sp.filter fun q => decide (q.1 ≠ h)⟩) G' → PK A G G' → Q .non G'
abbrev nSLeave : List Str := ["self", "slot", "holder", "one"]
theorem scSLeave : FnScope nSLeave ["self", "slot", "holder"] (defScope (slots 8)) := ⟨rfl, rfl, rfl, by decide +kernel, rfl, by decide +kernel, by decide +kernel⟩
theorem okSLeave {f : Addr} {fd : FuncData} (F : Fun K "leave" "Slots.leave" (slots 8) f fd) (T : Txt K w mg) (TC : PTx K mg C)
    (D0 : MethOk P w K mg base 1 C "need_slot" [] (SNeedSlot C)) (D1 : DefOk P w K mg base 2 "is_holder" [] SHolder) :
    FnOk P w K mg base CX0 3 f fd ["self", "slot", "holder"] (spl K (SSLeave C)) := by
  refine Fun3 F scSLeave (fun ds G Q ⟨_, _, _, _, _, _, e, _⟩ => by rw [e]; rfl) fun cdv A outer s H E hr => ⟨_, s_cons (s_expr (e_meth D0 TC.cl hr (v 0) (a_cons (v 1) a_nil)))
    (s_cons (s_if (w_pt (w_or (t_not (t_val (e_call D1 hr (a_cons (v 2) a_nil)))) (w_or1 (t_ne hr.units (e_getT (ub hr) (e_fld TC.cl TC.t (v 0)) (v 2)) (v 1))))) ss_never s_nil)
    (s_cons (s_expr (e_popT (ub hr) (e_fld TC.cl TC.t (v 0)) (v 2)))
    (s_cons (s_putK (ub hr) (e_fld TC.cl TC.h (v 0)) (v 1) (e_tuple T.tuple (l_lc (own := [("one", 3)]) rfl scSLeave.nd (i_tup (e_dgetK (ub hr) (e_fld TC.cl TC.h (v 0)) (v 1))) (bk nSLeave (defScope (slots 8)) (by decide +kernel)) (fun s H C cl fp => g_name (i := 3) scSLeave.nd) (fun s H C cl fp => ts_one (t_ne hr.units (v 3) (v 2))) (fun s H C cl fp => v 3))))
    (s_one (s_if (t_eq hr.units (e_dgetK (ub hr) (e_fld TC.cl TC.h (v 0)) (v 1)) (e_tup a_nil)) (s_cons (s_expr (e_popK (e_fld TC.cl TC.h (v 0)) (v 1))) (s_one (s_expr (e_popK (e_fld TC.cl TC.s (v 0)) (v 1))))) s_nil))))), ?_⟩
  rintro ds G Q ⟨A, s, i, h, r, g, rfl, p, W, hi, hg, hh, hs, q⟩
  obtain ⟨rl, ro, _⟩ := W.ok i r hi
  refine ⟨_, rfl, A.p, _, rfl, p.p, rfl, _, rfl, A, s, i, r, rfl, p, hi, ?_⟩
  refine ⟨_, rfl, h, rfl, hh, true, rfl, ?_⟩
  refine ⟨_, rfl, A.p, _, _, rfl, p.p, rfl, A.c, _, rfl, p.c, _, rfl, _, hk h, p.c, rfl, hk_t h, ?_⟩
  rw [look_sp, hs]
  refine ⟨_, rfl, rfl, rfl, false, ?_, ite_f Bool.false_ne_true ?_⟩
  · show Da.bl (!eqB (.int (i : Nat)) (.int (i : Nat))) = _
    rw [eqB_t rfl]; rfl
  obtain ⟨p1, k1⟩ := p.upC (s.sp.filter fun q => decide (q.1 ≠ h))
  refine ⟨_, rfl, A.p, _, _, rfl, p.p, rfl, A.c, _, rfl, p.c, _, rfl, _, hk h, .int (i : Nat), p.c, rfl, hk_t h, by rw [look_sp, hs]; rfl, ?_⟩
  rw [del_sp]
  refine ⟨_, rfl, A.p, _, _, rfl, p1.p, rfl, _, rfl, A.b, _, i, _, rfl, rfl, p1.b, by rw [look_enc]; show (nl s.hs i).map roD = _; rw [hi]; rfl, _, rfl, lc_pure (fun d => !eqB d (hD h)) (fun d => d) trivial (small_len (by rw [List.length_map]; omega)) (fun d hd R S hx => ?_) ?_⟩
  · obtain ⟨x, hxr, rfl⟩ := List.mem_map.mp hd
    refine ⟨_, rfl, _, rfl, ok_hd (ro x hxr), ok_hd hh, _, rfl, ?_⟩
    by_cases hb : (!eqB (hD x) (hD h)) = true
    · rw [if_pos hb] at hx
      exact ite_t hb ⟨_, rfl, hx⟩
    · rw [if_neg hb] at hx
      exact ite_f hb hx
  rw [filt_hd]
  obtain ⟨p2, k2⟩ := p1.upB (setN s.hs i (drp r h))
  refine ⟨_, rfl, A.p, _, _, rfl, p1.p, rfl, _, rfl, A.b, _, i, rfl, rfl, p1.b, small_len (by rw [enc_len]; show s.hs.length ≤ _; have := W.l1; omega), ?_⟩
  have e1 : putA (enc roD s.hs) (Sum.inl (i : Int)) (roD (drp r h)) = enc roD (setN s.hs i (drp r h)) := put_enc roD s.hs i (drp r h)
  rw [e1]
  have h2 : nl (setN s.hs i (drp r h)) i = some (drp r h) := by rw [nl_set, if_pos rfl]
  refine ⟨_, rfl, A.p, _, _, rfl, p2.p, rfl, _, rfl, A.b, _, i, _, rfl, rfl, p2.b, by rw [look_enc]; show (nl (setN s.hs i (drp r h)) i).map roD = _; rw [h2]; rfl, by show 0 ≤ sizeLine; decide, row_ok (fun x hx => ro x (List.mem_filter.mp hx).1), ok_nil, _, rfl, ?_⟩
  rw [eqB_row]
  by_cases hb : (drp r h).isEmpty = true
  · rw [if_pos hb] at q
    refine ite_t hb ?_
    obtain ⟨p3, k3⟩ := p2.upB (delN (setN s.hs i (drp r h)) i)
    refine ⟨_, rfl, A.p, _, _, rfl, p2.p, rfl, A.b, _, rfl, p2.b, _, rfl, _, i, _, p2.b, rfl, by rw [look_enc]; show (nl (setN s.hs i (drp r h)) i).map roD = _; rw [h2]; rfl, ?_⟩
    rw [del_enc]
    obtain ⟨p4, k4⟩ := p3.upA (delN s.sl i)
    refine ⟨_, rfl, A.p, _, _, rfl, p3.p, rfl, A.a, _, rfl, p3.a, _, rfl, _, i, _, p3.a, rfl, by rw [look_enc]; show (nl s.sl i).map pD = _; rw [hg]; rfl, ?_⟩
    rw [del_enc]
    exact q _ p4 (k1.trans (k2.trans (k3.trans k4)))
  · rw [if_neg hb] at q
    exact ite_f hb (q _ p2 (k1.trans k2))
end
end Lw
set_option maxHeartbeats 4000000
/-! a lodge's table -/
namespace Lw
open PySem PySem.Spec PyProof.Rows L2
/-! o.f as a target -/
section
variable {X : Cx} {o : Expr} {f : Str} {pos : Pos} {to : TE3} {C : Addr}
def gAttr (C : Addr) (f : Str) (to : TE3) : TG3 := fun d τ G Q => to τ G fun x G1 => ∃ a fs, x = .obj a ∧ G1 a = some (.ins C fs) ∧ fs.length < 1000 ∧ Q τ (up G1 a (.ins C (putD f d fs)))
theorem g_attr (cl : Cls X.K C) (na : NoAttr X.K C f) (ho : PE3 X o to) : PG3 X (.Attribute o f pos) [] (gAttr C f to) := ⟨fun pins s σ H v u Q I r h => by
  obtain ⟨d, τ, G, Q3, z, sz, rr, h, k⟩ := h
  rw [arm_assign_Attribute]
  have hL : lift X.K to σ H (fun x H1 => ∃ a dx fvs, x = .ref a ∧ H1 a = some (.ins C dx fvs) ∧ fvs.length < 1000 ∧ Q σ (upd H1 a (.ins C dx (L2.putF f v fvs)))) := by
    refine lift_run sz rr h fun x H1 d1 G1 g1 r1 s1 z1 q1 => ?_
    obtain ⟨a, fs, rfl, ga, hl, q1⟩ := q1
    obtain ⟨dx, fvs, ha, kz⟩ := r1 a _ ga
    have t := tk_write (o := .ins C dx (L2.putF f v fvs)) r1 ga
    have z' := Dz.mono (g1.tk rr) _ _ z
    exact ⟨a, dx, fvs, z1, ha, by rw [kz.length]; exact hl, k σ _ τ _ (g1.trans (go_write ga)) (s1.mono t) (r0_write (ao' := .ins C (putD f d fs)) r1 ga ⟨dx, _, upd_same, KZ.store (Dz.mono t _ _ z') (kz.mono t)⟩) (Wp.refl _ _) q1⟩
  refine wpAny_bind (wpAny_holding (thn (ho.run pins s σ H _ I hL) fun ov s1 ⟨x, H1, I1, r1, a, dx, fvs, ex, ha, hl, q1⟩ => ?_))
  subst ex
  obtain rfl : ov = Value.ref a := r1
  refine wpAny_bind (wpAny_standAt (wpAny_bind (wpAny_holding (setattr_ok I1 ha cl na hl r fun s3 I3 => wpAny_release ⟨σ, _, I3, q1⟩))))⟩
end
abbrev dTabHolders : Stmt := top 47
abbrev tabl (j : Nat) : Stmt := inClass (top 48) j
/-- the holders of a table's frames -/
def thold (l n : Nat) : List Hd := (List.range (1 + (n + 7) / 8)).map fun k : Nat => ⟨"table", (l : Nat), (k : Nat)⟩
abbrev tF (A : PA) (o n f0 : Nat) : List (Str × Da) := [("frames_by", .obj A.p), ("owners", .obj o), ("size_told", .int (n : Nat)), ("first", .int (f0 : Nat))]
structure TTx (K : PySem.W.Frag) (mg : Str → Option Value) (D : Addr) : Prop where
  cl : Cls K D
  f : NoAttr K D "frames_by"
  o : NoAttr K D "owners"
  s : NoAttr K D "size_told"
  r : NoAttr K D "first"
/-- the table's own two objects -/
structure TabAt (D : Addr) (A : PA) (t o : Addr) (l n f0 : Nat) (G : Gp) : Prop where
  oa : o ≠ A.a
  ob : o ≠ A.b
  t : G t = some (.ins D (tF A o n f0))
  o : G o = some (.lst ((thold l n).map hD))
theorem TabAt.keep {C D : Addr} {A : PA} {s : PS} {t o l n f0 : Nat} {G G' : Gp} (h : TabAt D A t o l n f0 G) (p : PoolAt C A s G) (k : PK A G G') : TabAt D A t o l n f0 G' :=
  ⟨h.oa, h.ob, k _ _ (ne_kind h.t p.a nofun) (ne_kind h.t p.b nofun) (ne_kind h.t p.c nofun) h.t, k _ _ h.oa h.ob (ne_kind h.o p.c nofun) h.o⟩
section
variable {P : Program} {w : World} {K : PySem.W.Frag} {mg : Str → Option Value} {base : Heap} {k : Nat} {C D : Addr}
/-! table_holders -/
def STabHolders : Sp3 := fun ds G Q => ∃ l n : Nat, ds = [.int (l : Nat), .int (n : Nat)] ∧ n ≤ 16 ∧ ∀ p, G p = none → Q (.obj p) (up G p (.lst ((thold l n).map hD)))
theorem scTabHolders : FnScope ["lodge", "size", "k"] ["lodge", "size"] (defScope dTabHolders) := ⟨rfl, rfl, rfl, by decide +kernel, rfl, by decide +kernel, by decide +kernel⟩
theorem okTabHolders {f : Addr} {fd : FuncData} (F : Fun K "table_holders" "table_holders" dTabHolders f fd) (T : Txt K w mg) : FnOk P w K mg base CX0 1 f fd ["lodge", "size"] (spl K STabHolders) := by
  refine Fun3 F scTabHolders (fun ds G Q ⟨_, _, e, _⟩ => by rw [e]; rfl) fun cdv A outer s H E hr => ⟨_, s_one (s_ret (e_new (l_lc (own := [("k", 2)]) rfl scTabHolders.nd (i_range T.range (e_add e_int (e_fdiv (e_sub (e_add (v 1) (e_gi' T.PL)) e_int) (e_gi' T.PL)))) (bk ["lodge", "size", "k"] (defScope dTabHolders) (by decide +kernel)) (fun s H C cl fp => g_name (i := 2) scTabHolders.nd) (fun s H C cl fp => ts_nil)
    (fun s H C cl fp => e_tup (a_cons (e_gs' T.TA) (a_cons (v 0) (a_cons (v 2) a_nil))))))), ?_⟩
  rintro ds G Q ⟨l, n, rfl, hn, q⟩
  have e0 : (fun (i j : Int) => i + j) 1 ((fun (i j : Int) => i / j) ((fun (i j : Int) => i - j) ((fun (i j : Int) => i + j) (n : Int) 8) 1) 8) = ((1 + (n + 7) / 8 : Nat) : Int) := by
    show (1 : Int) + (((n : Int) + 8) - 1) / 8 = _
    omega
  refine ⟨_, rfl, _, _, rfl, rfl, _, _, rfl, rfl, _, _, rfl, rfl, ⟨by decide, by decide⟩, _, _, rfl, rfl, _, rfl, ?_⟩
  rw [e0]
  refine ⟨by omega, by omega, ?_⟩
  rw [Int.toNat_natCast]
  refine lc_map (fun d => .tup [.str "table", .int (l : Nat), d]) trivial (small_len (by rw [intsD_len]; omega)) (fun d hd R h => ?_) ?_
  · exact ⟨_, rfl, _, rfl, sz3, h⟩
  · have e1 : (intsD (1 + (n + 7) / 8)).map (fun d => Da.tup [.str "table", .int (l : Nat), d]) = (thold l n).map hD := by
      unfold intsD thold
      rw [List.map_map, List.map_map]
      rfl
    rw [e1]
    exact q
/-! need_page, top, lower, cell, put -/
def TabS (C D : Addr) (A : PA) (s : PS) (t o l n f0 : Nat) (G : Gp) : Prop := PoolAt C A s G ∧ TabAt D A t o l n f0 G
def STNeedPage (D : Addr) : Sp3 := fun ds G Q => ∃ A t o l n f0 p, ds = [.obj t, .int (p : Nat)] ∧ TabAt D A t o l n f0 G ∧ p < n ∧ Q .non G
theorem scTNeedPage : FnScope ["self", "page"] ["self", "page"] (defScope (tabl 1)) := ⟨rfl, rfl, rfl, by decide +kernel, rfl, by decide +kernel, by decide +kernel⟩
theorem okTNeedPage {f : Addr} {fd : FuncData} (F : Fun K "need_page" "Table.need_page" (tabl 1) f fd) (TD : TTx K mg D) (D1 : DefOk P w K mg base 1 "is_within" [] SWithin) : FnOk P w K mg base CX0 2 f fd ["self", "page"] (spl K (STNeedPage D)) := by
  refine Fun3 F scTNeedPage (fun ds G Q ⟨_, _, _, _, _, _, _, e, _⟩ => by rw [e]; rfl) fun cdv A outer s H E hr => ⟨_, s_one (s_if (t_not (t_val (e_call D1 hr (a_cons (v 1) (a_cons e_int (a_cons (e_sub (e_fld TD.cl TD.s (v 0)) e_int) a_nil)))))) ss_never s_nil), ?_⟩
  rintro ds G Q ⟨A, t, o, l, n, f0, p, rfl, ta, hp, q⟩
  refine ⟨_, rfl, _, rfl, t, _, _, rfl, ta.t, rfl, n, 1, rfl, rfl, p, 0, _, rfl, true, bl_t ?_, ite_f Bool.false_ne_true q⟩
  show (0 : Int) ≤ (p : Nat) ∧ ((p : Nat) : Int) ≤ (n : Nat) - 1
  omega
def STTop (D : Addr) : Sp3 := fun ds G Q => ∃ A t o l n f0, ds = [.obj t] ∧ TabAt D A t o l n f0 G ∧ Q (.int (f0 : Nat)) G
theorem scTTop : FnScope ["self"] ["self"] (defScope (tabl 3)) := ⟨rfl, rfl, rfl, by decide +kernel, rfl, by decide +kernel, by decide +kernel⟩
theorem okTTop {f : Addr} {fd : FuncData} (F : Fun K "top" "Table.top" (tabl 3) f fd) (TD : TTx K mg D) : FnOk P w K mg base CX0 1 f fd ["self"] (spl K (STTop D)) := by
  refine Fun3 F scTTop (fun ds G Q ⟨_, _, _, _, _, _, e, _⟩ => by rw [e]; rfl) fun cdv A outer s H E hr => ⟨_, s_one (s_ret (e_fld TD.cl TD.r (v 0))), ?_⟩
  rintro ds G Q ⟨A, t, o, l, n, f0, rfl, ta, q⟩
  exact ⟨_, rfl, t, _, _, rfl, ta.t, rfl, q⟩
/-- the top frame's page says that the lower frame of p is lo -/
def LowAt (s : PS) (f0 p lo : Nat) : Prop := ∃ g c, s.sh[f0]? = some g ∧ g[p / 8]? = some c ∧ 0 ≤ c ∧ c ≤ 65535 ∧ c / 16 = (lo : Nat)
def STLower (C D : Addr) : Sp3 := fun ds G Q => ∃ A s t o l n f0 p lo, ds = [.obj t, .int (p : Nat)] ∧ TabS C D A s t o l n f0 G ∧ LowAt s f0 p lo ∧ Q (.int (lo : Nat)) G
theorem scTLower : FnScope ["self", "page", "number", "marks"] ["self", "page"] (defScope (tabl 2)) := ⟨rfl, rfl, rfl, by decide +kernel, rfl, by decide +kernel, by decide +kernel⟩
theorem okTLower {f : Addr} {fd : FuncData} (F : Fun K "lower" "Table.lower" (tabl 2) f fd) (T : Txt K w mg) (TC : PTx K mg C) (TD : TTx K mg D) (D1 : DefOk P w K mg base 4 "entry_of" [] SEntOf) (D2 : MethOk P w K mg base 3 C "page" [] (SPageOf C)) : FnOk P w K mg base CX0 5 f fd ["self", "page"] (spl K (STLower C D)) := by
  refine Fun3 F scTLower (fun ds G Q ⟨_, _, _, _, _, _, _, _, _, e, _⟩ => by rw [e]; rfl) fun cdv A outer s H E hr => ⟨_, s_cons (s_asg (e_call D1 hr (a_cons (e_ixT (e_meth D2 TC.cl hr (e_fld TD.cl TD.f (v 0)) (a_cons (e_fld TD.cl TD.r (v 0)) a_nil)) (e_fdiv (v 1) (e_gi' T.PL))) a_nil)) (g_starD (j := 3) rfl scTLower.nd (g_name (i := 2) scTLower.nd))) (s_one (s_ret (v 2))), ?_⟩
  rintro ds G Q ⟨A, s, t, o, l, n, f0, p, lo, rfl, ⟨pa, ta⟩, ⟨g, c, hg, hc, h0, h1, hl⟩, q⟩
  refine ⟨_, rfl, t, _, _, rfl, ta.t, rfl, A.p, _, rfl, pa.p, rfl, _, rfl, t, _, _, rfl, ta.t, rfl, A, s, f0, g, rfl, pa, hg, ?_⟩
  refine ⟨_, rfl, _, _, rfl, rfl, ⟨by decide, by decide⟩, _, _, .int c, rfl, rfl, ?_, c, rfl, h0, h1, fun b1 b2 b3 b4 => ?_⟩
  · have e : ((p : Int) / 8) = ((p / 8 : Nat) : Int) := by omega
    show atI (g.map Da.int) ((p : Int) / 8) = _
    rw [e]
    exact at_nat (map_get _ hc)
  · rw [hl]
    exact ⟨_, _, rfl, by show 4 ≤ 16000; omega, _, rfl, q⟩
/-- the entry of p stands in the frame lo -/
def EntAt (s : PS) (f0 p lo : Nat) (c : Int) : Prop := LowAt s f0 p lo ∧ ∃ g, s.sh[lo]? = some g ∧ g[p % 8]? = some c
def STCell (C D : Addr) : Sp3 := fun ds G Q => ∃ A s t o l n f0 p lo c, ds = [.obj t, .int (p : Nat)] ∧ TabS C D A s t o l n f0 G ∧ p < n ∧ EntAt s f0 p lo c ∧ Q (.int c) G
theorem scTCell : FnScope ["self", "page"] ["self", "page"] (defScope (tabl 4)) := ⟨rfl, rfl, rfl, by decide +kernel, rfl, by decide +kernel, by decide +kernel⟩
theorem okTCell {f : Addr} {fd : FuncData} (F : Fun K "cell" "Table.cell" (tabl 4) f fd) (T : Txt K w mg) (TC : PTx K mg C) (TD : TTx K mg D) (D0 : MethOk P w K mg base 2 D "need_page" [] (STNeedPage D)) (D1 : MethOk P w K mg base 5 D "lower" [] (STLower C D)) (D2 : MethOk P w K mg base 3 C "page" [] (SPageOf C)) : FnOk P w K mg base CX0 6 f fd ["self", "page"] (spl K (STCell C D)) := by
  refine Fun3 F scTCell (fun ds G Q ⟨_, _, _, _, _, _, _, _, _, _, e, _⟩ => by rw [e]; rfl) fun cdv A outer s H E hr => ⟨_, s_cons (s_expr (e_meth D0 TD.cl hr (v 0) (a_cons (v 1) a_nil))) (s_one (s_ret (e_ixT (e_meth D2 TC.cl hr (e_fld TD.cl TD.f (v 0)) (a_cons (e_meth D1 TD.cl hr (v 0) (a_cons (v 1) a_nil)) a_nil)) (e_mod (v 1) (e_gi' T.PL))))), ?_⟩
  rintro ds G Q ⟨A, s, t, o, l, n, f0, p, lo, c, rfl, ⟨pa, ta⟩, hp, ⟨hl, g, hg, hc⟩, q⟩
  refine ⟨_, rfl, t, _, rfl, ta.t, rfl, _, rfl, A, t, o, l, n, f0, p, rfl, ta, hp, ?_⟩
  refine ⟨_, rfl, t, _, _, rfl, ta.t, rfl, A.p, _, rfl, pa.p, rfl, _, rfl, t, _, rfl, ta.t, rfl, _, rfl, A, s, t, o, l, n, f0, p, lo, rfl, ⟨pa, ta⟩, hl, A, s, lo, g, rfl, pa, hg, ?_⟩
  refine ⟨_, rfl, _, _, rfl, rfl, by show (0 : Int) < 8; omega, _, _, .int c, rfl, rfl, ?_, q⟩
  have e : ((p : Int) % 8) = ((p % 8 : Nat) : Int) := by omega
  show atI (g.map Da.int) ((p : Int) % 8) = _
  rw [e]
  exact at_nat (map_get _ hc)
def STPut (C D : Addr) : Sp3 := fun ds G Q => ∃ A s t o l n f0 p lo c r g, ds = [.obj t, .int (p : Nat), .int c] ∧ TabS C D A s t o l n f0 G ∧ PWf s ∧ p < n ∧ LowAt s f0 p lo ∧ s.ha[lo]? = some r ∧ r ≠ [] ∧ s.sh[lo]? = some g ∧ 0 ≤ c ∧ c ≤ 65535 ∧
  ∀ G', PoolAt C A { s with sh := s.sh.set lo (g.set (p % 8) c) } G' → PK A G G' → Q .non G'
theorem scTPut : FnScope ["self", "page", "cell"] ["self", "page", "cell"] (defScope (tabl 5)) := ⟨rfl, rfl, rfl, by decide +kernel, rfl, by decide +kernel, by decide +kernel⟩
theorem okTPut {f : Addr} {fd : FuncData} (F : Fun K "put" "Table.put" (tabl 5) f fd) (T : Txt K w mg) (TC : PTx K mg C) (TD : TTx K mg D) (D0 : MethOk P w K mg base 2 D "need_page" [] (STNeedPage D)) (D1 : MethOk P w K mg base 5 D "lower" [] (STLower C D)) (D2 : DefOk P w K mg base 3 "need_cell" [] SNeedCell) (D3 : MethOk P w K mg base 4 C "put" [] (SPut C)) : FnOk P w K mg base CX0 6 f fd ["self", "page", "cell"] (spl K (STPut C D)) := by
  refine Fun3 F scTPut (fun ds G Q ⟨_, _, _, _, _, _, _, _, _, _, _, _, e, _⟩ => by rw [e]; rfl) fun cdv A outer s H E hr => ⟨_, s_cons (s_expr (e_meth D0 TD.cl hr (v 0) (a_cons (v 1) a_nil))) (s_cons (s_expr (e_call D2 hr (a_cons (v 2) a_nil))) (s_one (s_expr (e_meth D3 TC.cl hr (e_fld TD.cl TD.f (v 0)) (a_cons (e_meth D1 TD.cl hr (v 0) (a_cons (v 1) a_nil)) (a_cons (e_mod (v 1) (e_gi' T.PL)) (a_cons (v 2) a_nil))))))), ?_⟩
  rintro ds G Q ⟨A, s, t, o, l, n, f0, p, lo, c, r, g, rfl, ⟨pa, ta⟩, W, hp, hl, hr, hne, hg, h0, h1, q⟩
  refine ⟨_, rfl, t, _, rfl, ta.t, rfl, _, rfl, A, t, o, l, n, f0, p, rfl, ta, hp, ?_⟩
  refine ⟨_, rfl, c, rfl, h0, h1, ?_⟩
  refine ⟨_, rfl, t, _, _, rfl, ta.t, rfl, A.p, _, rfl, pa.p, rfl, _, rfl, t, _, rfl, ta.t, rfl, _, rfl, A, s, t, o, l, n, f0, p, lo, rfl, ⟨pa, ta⟩, hl, ?_⟩
  refine ⟨_, rfl, _, _, rfl, rfl, by show (0 : Int) < 8; omega, _, rfl, A, s, lo, p % 8, c, r, g, ?_, pa, W, hr, hne, hg, by omega, h0, h1, q⟩
  have e : ((p : Int) % 8) = ((p % 8 : Nat) : Int) := by omega
  show [Da.obj A.p, .int (lo : Nat), .int ((p : Int) % 8), .int c] = _
  rw [e]
end
end Lw
set_option maxHeartbeats 4000000
/-! a table made and left -/
namespace Lw
open PySem PySem.Spec PyProof.Rows L2
/-! what a row of steps does to the pool -/
def lv1 (s : PS) (h : Hd) : PS :=
  let f := (spot s.sp h).getD 0
  let r := drp (s.ha.getD f []) h
  ⟨if r.isEmpty = true then s.sh.set f blank else s.sh, s.ha.set f r, s.sp.filter fun q => decide (q.1 ≠ h)⟩
def lvL (s : PS) (hs : List Hd) : PS := hs.foldl lv1 s
def LvOk : PS → List Hd → Prop
  | _, [] => True
  | s, h :: hs => PWf s ∧ HdOk h ∧ (∃ f r, spot s.sp h = some f ∧ s.ha[f]? = some r) ∧ LvOk (lv1 s h) hs
theorem lv_at : ∀ {hs : List Hd} {s : PS} {i : Nat} {h : Hd}, LvOk s hs → hs[i]? = some h → PWf (lvL s (hs.take i)) ∧ HdOk h ∧ (∃ f r, spot (lvL s (hs.take i)).sp h = some f ∧ (lvL s (hs.take i)).ha[f]? = some r)
  | [], _, i, h, _, e => by cases e
  | x :: hs, s, 0, h, o, e => by
    cases e
    exact ⟨o.1, o.2.1, o.2.2.1⟩
  | x :: hs, s, i + 1, h, o, e => lv_at (s := lv1 s x) (i := i) o.2.2.2 e
theorem lvL_next {hs : List Hd} {s : PS} {i : Nat} {h : Hd} (e : hs[i]? = some h) : lvL s (hs.take (i + 1)) = lv1 (lvL s (hs.take i)) h := by
  unfold lvL
  rw [List.take_add_one, e, List.foldl_append]
  rfl
def tkF (s : PS) : Nat := (frees 0 s.ha).headD 0
def tk1 (s : PS) (h : Hd) : PS := ⟨s.sh.set (tkF s) blank, s.ha.set (tkF s) [h], s.sp ++ [(h, tkF s)]⟩
def tkL (s : PS) (hs : List Hd) : PS := hs.foldl tk1 s
def tkFs : PS → List Hd → List Nat
  | _, [] => []
  | s, h :: hs => tkF s :: tkFs (tk1 s h) hs
def TkOk : PS → List Hd → Prop
  | _, [] => True
  | s, h :: hs => PWf s ∧ HdOk h ∧ spot s.sp h = none ∧ frees 0 s.ha ≠ [] ∧ TkOk (tk1 s h) hs
theorem tk_at : ∀ {hs : List Hd} {s : PS} {i : Nat} {h : Hd}, TkOk s hs → hs[i]? = some h → PWf (tkL s (hs.take i)) ∧ HdOk h ∧ spot (tkL s (hs.take i)).sp h = none ∧ frees 0 (tkL s (hs.take i)).ha ≠ []
  | [], _, i, h, _, e => by cases e
  | x :: hs, s, 0, h, o, e => by
    cases e
    exact ⟨o.1, o.2.1, o.2.2.1, o.2.2.2.1⟩
  | x :: hs, s, i + 1, h, o, e => tk_at (s := tk1 s x) (i := i) o.2.2.2.2 e
theorem tkL_next {hs : List Hd} {s : PS} {i : Nat} {h : Hd} (e : hs[i]? = some h) : tkL s (hs.take (i + 1)) = tk1 (tkL s (hs.take i)) h := by
  unfold tkL
  rw [List.take_add_one, e, List.foldl_append]
  rfl
theorem tkFs_next : ∀ {hs : List Hd} {s : PS} {i : Nat} {h : Hd}, hs[i]? = some h → tkFs s (hs.take (i + 1)) = tkFs s (hs.take i) ++ [tkF (tkL s (hs.take i))]
  | [], _, i, h, e => by cases e
  | x :: hs, s, 0, h, e => by
    cases e
    rfl
  | x :: hs, s, i + 1, h, e => by
    have ih := tkFs_next (hs := hs) (s := tk1 s x) (i := i) e
    show tkF s :: tkFs (tk1 s x) (hs.take (i + 1)) = tkF s :: (tkFs (tk1 s x) (hs.take i) ++ _)
    rw [ih]
    rfl
theorem tkFs_len : ∀ (hs : List Hd) (s : PS), (tkFs s hs).length = hs.length
  | [], _ => rfl
  | x :: hs, s => congrArg (· + 1) (tkFs_len hs (tk1 s x))
def pt1 (s : PS) (q : Nat × Nat × Int) : PS := { s with sh := s.sh.set q.1 ((s.sh.getD q.1 []).set q.2.1 q.2.2) }
def ptL (s : PS) (qs : List (Nat × Nat × Int)) : PS := qs.foldl pt1 s
def PtOk : PS → List (Nat × Nat × Int) → Prop
  | _, [] => True
  | s, q :: qs => PWf s ∧ (∃ r, s.ha[q.1]? = some r ∧ r ≠ []) ∧ (∃ g, s.sh[q.1]? = some g) ∧ q.2.1 < 8 ∧ 0 ≤ q.2.2 ∧ q.2.2 ≤ 65535 ∧ PtOk (pt1 s q) qs
theorem pt_at : ∀ {qs : List (Nat × Nat × Int)} {s : PS} {i : Nat} {q : Nat × Nat × Int}, PtOk s qs → qs[i]? = some q → PWf (ptL s (qs.take i)) ∧ (∃ r, (ptL s (qs.take i)).ha[q.1]? = some r ∧ r ≠ []) ∧ (∃ g, (ptL s (qs.take i)).sh[q.1]? = some g) ∧ q.2.1 < 8 ∧ 0 ≤ q.2.2 ∧ q.2.2 ≤ 65535
  | [], _, i, h, _, e => by cases e
  | x :: hs, s, 0, h, o, e => by
    cases e
    exact ⟨o.1, o.2.1, o.2.2.1, o.2.2.2.1, o.2.2.2.2.1, o.2.2.2.2.2.1⟩
  | x :: hs, s, i + 1, h, o, e => pt_at (s := pt1 s x) (i := i) o.2.2.2.2.2.2 e
theorem ptL_next {hs : List (Nat × Nat × Int)} {s : PS} {i : Nat} {h : Nat × Nat × Int} (e : hs[i]? = some h) : ptL s (hs.take (i + 1)) = pt1 (ptL s (hs.take i)) h := by
  unfold ptL
  rw [List.take_add_one, e, List.foldl_append]
  rfl
theorem ptOk_append : ∀ {a b : List (Nat × Nat × Int)} {s : PS}, PtOk s (a ++ b) → PtOk s a ∧ PtOk (ptL s a) b
  | [], b, s, h => ⟨trivial, h⟩
  | x :: a, b, s, h => by
    obtain ⟨h1, h2, h3, h4, h5, h6, h7⟩ := h
    obtain ⟨i1, i2⟩ := ptOk_append h7
    exact ⟨⟨h1, h2, h3, h4, h5, h6, i1⟩, i2⟩
def tops (f0 : Nat) (lows : List Nat) : List (Nat × Nat × Int) := lows.mapIdx fun k (lo : Nat) => (f0, k, ((lo : Nat) : Int) * 16 + 3)
def bots (lows : List Nat) (n : Nat) : List (Nat × Nat × Int) := (List.range n).map fun j => (lows.getD (j / 8) 0, j % 8, 2)
theorem getD_some {α : Type} {l : List α} {i : Nat} {x d : α} (h : l[i]? = some x) : l.getD i d = x := by rw [List.getD_eq_getElem?_getD, h]; rfl
/-- a def called with a keyword, by name -/
structure KwDef (P : Program) (w : World) (K : PySem.W.Frag) (mg : Str → Option Value) (base : Heap) (k : Nat) (x : Str) (n : Nat) (ks : List Str) (gd : List Da → List Da → List Da) (S : Sp3) : Prop where
  ex : ∃ f, mg x = some (.ref f) ∧ PySem.W.keepIn K (.ref f) = true ∧ KwOk P w K mg base k f n ks gd S
section
variable {P : Program} {w : World} {K : PySem.W.Frag} {mg : Str → Option Value} {base : Heap} {k : Nat} {C D : Addr}
/-! leave -/
def STLeave (C D : Addr) : Sp3 := fun ds G Q => ∃ A s t o l n f0, ds = [.obj t] ∧ TabS C D A s t o l n f0 G ∧ LvOk s (thold l n) ∧ ∀ G', PoolAt C A (lvL s (thold l n)) G' → PK A G G' → Q .non G'
theorem scTLeave : FnScope ["self", "holder"] ["self"] (defScope (tabl 6)) := ⟨rfl, rfl, rfl, by decide +kernel, rfl, by decide +kernel, by decide +kernel⟩
theorem okTLeave {f : Addr} {fd : FuncData} (F : Fun K "leave" "Table.leave" (tabl 6) f fd) (TC : PTx K mg C) (TD : TTx K mg D) (D0 : MethOk P w K mg base 3 C "leave" [] (SLeave C)) (D1 : MethOk P w K mg base 1 C "spot_of" [] (SSpotOf C)) : FnOk P w K mg base CX0 4 f fd ["self"] (spl K (STLeave C D)) := by
  refine Fun3 F scTLeave (fun ds G Q ⟨_, _, _, _, _, _, _, e, _⟩ => by rw [e]; rfl) fun cdv A outer s H E hr => ⟨_, s_one (s_for rfl (i_list (e_fld TD.cl TD.o (v 0))) (g_name (i := 1) scTLeave.nd) (s_one (s_expr (e_meth D0 TC.cl hr (e_fld TD.cl TD.f (v 0)) (a_cons (e_meth D1 TC.cl hr (e_fld TD.cl TD.f (v 0)) (a_cons (v 1) a_nil)) (a_cons (v 1) a_nil)))))), ?_⟩
  rintro ds G Q ⟨A, s, t, o, l, n, f0, rfl, ⟨pa, ta⟩, lo, q⟩
  refine ⟨_, rfl, t, _, _, rfl, ta.t, rfl, o, _, rfl, ta.o, ?_⟩
  refine ⟨fun i τ' G' => PoolAt C A (lvL s ((thold l n).take i)) G' ∧ PK A G G' ∧ TabAt D A t o l n f0 G' ∧ ∃ d, τ' = [some (.obj t), d], ⟨pa, PK.refl _ _, ta, _, rfl⟩, fun i τ' G' hi ⟨_, _, h, _⟩ => h.o, ?_, ?_⟩
  · rintro i d τ' G' hd ⟨p1, k1, t1, d0, rfl⟩
    rw [List.getElem?_map] at hd
    obtain ⟨h, hh, rfl⟩ := Option.map_eq_some_iff.mp hd
    obtain ⟨W, ho, f, r, hs, hf⟩ := lv_at lo hh
    refine ⟨_, rfl, t, _, _, rfl, t1.t, rfl, A.p, _, rfl, p1.p, rfl, _, rfl, t, _, _, rfl, t1.t, rfl, A.p, _, rfl, p1.p, rfl, _, rfl, A, _, h, rfl, p1, ?_⟩
    rw [hs]
    refine ⟨_, rfl, A, _, f, h, r, rfl, p1, W, hf, ho, hs, fun G2 p2 k2 => ?_⟩
    refine ⟨?_, k1.trans k2, t1.keep p1 k2, _, rfl⟩
    rw [lvL_next hh]
    unfold lv1
    rw [hs]
    simp only [Option.getD_some]
    rw [getD_some hf]
    exact p2
  · rintro τ' G' ⟨p1, k1, t1, d0, rfl⟩
    rw [List.length_map, List.take_length] at p1
    exact q G' p1 k1
/-! __init__ -/
theorem PoolAt.ext {A : PA} {s : PS} {G G' : Gp} (h : PoolAt C A s G) (k : Kp G G') : PoolAt C A s G' := ⟨k _ _ h.p, k _ _ h.a, k _ _ h.b, k _ _ h.c, h.ab⟩
theorem PoolAt.upX {A : PA} {s : PS} {G : Gp} {x : Addr} {u : AO} (h : PoolAt C A s G) (n1 : x ≠ A.p) (n2 : x ≠ A.a) (n3 : x ≠ A.b) (n4 : x ≠ A.c) : PoolAt C A s (up G x u) :=
  ⟨by rw [up_ne n1.symm]; exact h.p, by rw [up_ne n2.symm]; exact h.a, by rw [up_ne n3.symm]; exact h.b, by rw [up_ne n4.symm]; exact h.c, h.ab⟩
theorem putF1 (x y : Da) : putD "owners" y [(("frames_by" : Str), x)] = ([("frames_by", x), ("owners", y)] : List (Str × Da)) := by
  unfold putD
  rw [if_neg (by decide +kernel)]
  rfl
theorem putF2 (x y z : Da) : putD "size_told" z [(("frames_by" : Str), x), ("owners", y)] = ([("frames_by", x), ("owners", y), ("size_told", z)] : List (Str × Da)) := by
  unfold putD
  rw [if_neg (by decide +kernel)]
  unfold putD
  rw [if_neg (by decide +kernel)]
  rfl
theorem putF3 (x y z u : Da) : putD "first" u [(("frames_by" : Str), x), ("owners", y), ("size_told", z)] = ([("frames_by", x), ("owners", y), ("size_told", z), ("first", u)] : List (Str × Da)) := by
  unfold putD
  rw [if_neg (by decide +kernel)]
  unfold putD
  rw [if_neg (by decide +kernel)]
  unfold putD
  rw [if_neg (by decide +kernel)]
  rfl
theorem thold_len (l n : Nat) : (thold l n).length = 1 + (n + 7) / 8 := by simp [thold]
def STInit (C D : Addr) : Sp3 := fun ds G Q => ∃ A s t l n f0 lows, ds = [.obj t, .obj A.p, .int (l : Nat), .int (n : Nat)] ∧ G t = some (.ins D []) ∧ PoolAt C A s G ∧ PWf s ∧ n ≤ 16 ∧ (∀ h ∈ thold l n, spot s.sp h = none) ∧ (thold l n).length ≤ (frees 0 s.ha).length ∧
  TkOk s (thold l n) ∧ tkFs s (thold l n) = f0 :: lows ∧ (∀ lo ∈ lows, lo ≤ 4095) ∧ PtOk (tkL s (thold l n)) (tops f0 lows ++ bots lows n) ∧
  ∀ o G', G o = none → PoolAt C A (ptL (tkL s (thold l n)) (tops f0 lows ++ bots lows n)) G' → TabAt D A t o l n f0 G' → (∀ x u, x ≠ t → x ≠ A.a → x ≠ A.b → x ≠ A.c → G x = some u → G' x = some u) → Q .non G'
abbrev nTInit : List Str := ["self", "pool", "lodge", "size", "holders", "lowers", "k", "lower", "number", "holder"]
theorem scTInit : FnScope nTInit ["self", "pool", "lodge", "size"] (defScope (tabl 0)) := ⟨rfl, rfl, rfl, by decide +kernel, rfl, by decide +kernel, by decide +kernel⟩
theorem okTInit {f : Addr} {fd : FuncData} (F : Fun K "__init__" "Table.__init__" (tabl 0) f fd) (T : Txt K w mg) (TC : PTx K mg C) (TD : TTx K mg D) (D0 : DefOk P w K mg base 1 "table_holders" [] STabHolders) (D1 : MethOk P w K mg base 1 C "spot_of" [] (SSpotOf C)) (D2 : MethOk P w K mg base 1 C "free" [] (SFree C))
    (D3 : MethOk P w K mg base 4 C "take" [pD blank] (STake C)) (D4 : MethOk P w K mg base 4 C "put" [] (SPut C)) (D5 : DefOk P w K mg base 3 "entry_with" [.bl true, .bl true, .bl false, .bl false] SEntWith)
    (D6 : KwDef P w K mg base 3 "entry_with" 1 ["here"] (fun ds es => ds ++ (es ++ [.bl true, .bl false, .bl false])) SEntWith) : FnOk P w K mg base CX0 5 f fd ["self", "pool", "lodge", "size"] (spl K (STInit C D)) := by
  obtain ⟨fe, hfe, kfe, D6⟩ := D6.ex
  refine Fun3 F scTInit (fun ds G Q ⟨_, _, _, _, _, _, _, e, _⟩ => by rw [e]; rfl) fun cdv A outer s H E hr => ⟨_, s_cons (s_set (i := 4) scTInit.nd (e_call D0 hr (a_cons (v 2) (a_cons (v 3) a_nil))))
    (s_cons (s_if (t_val (e_any rfl T.any (l_lc (own := [("holder", 9)]) rfl scTInit.nd (i_list (v 4)) (bk nTInit (defScope (tabl 0)) (by decide +kernel)) (fun s H C cl fp => g_name (i := 9) scTInit.nd) (fun s H C cl fp => ts_nil) (fun s H C cl fp => e_notN (e_meth D1 TC.cl hr (v 1) (a_cons (v 9) a_nil)) e_non)))) ss_never s_nil)
    (s_cons (s_if (t_lt (e_len T.len (e_meth0 D2 TC.cl hr (v 1))) (e_len T.len (v 4))) ss_never s_nil)
    (s_cons (s_fld TD.cl TD.f (v 0) (v 1)) (s_cons (s_fld TD.cl TD.o (v 0) (v 4)) (s_cons (s_fld TD.cl TD.s (v 0) (v 3))
    (s_cons (s_starL rfl (l_lc (own := [("holder", 9)]) rfl scTInit.nd (i_list (v 4)) (bk nTInit (defScope (tabl 0)) (by decide +kernel)) (fun s H C cl fp => g_name (i := 9) scTInit.nd) (fun s H C cl fp => ts_nil) (fun s H C cl fp => e_meth D3 TC.cl hr (v 1) (a_cons (v 9) a_nil))) (g_attr TD.cl TD.r (v 0)) (g_name (i := 5) scTInit.nd))
    (s_cons (s_for rfl (i_enumL T.enum (v 5)) (g_tup (n := 2) rfl (gs_cons (g_name (i := 6) scTInit.nd) (gs_cons (g_name (i := 7) scTInit.nd) gs_nil))) (s_one (s_expr (e_meth D4 TC.cl hr (v 1) (a_cons (e_fld TD.cl TD.r (v 0)) (a_cons (v 6) (a_cons (e_call D5 hr (a_cons (v 7) a_nil)) a_nil)))))))
    (s_one (s_for rfl (i_range T.range (v 3)) (g_name (i := 8) scTInit.nd) (s_one (s_expr (e_meth D4 TC.cl hr (v 1) (a_cons (e_ixL (v 5) (e_fdiv (v 8) (e_gi' T.PL))) (a_cons (e_mod (v 8) (e_gi' T.PL)) (a_cons (e_callN D6 hfe kfe hr (a_cons e_int a_nil) (k_cons e_bl k_nil)) a_nil))))))))))))))), ?_⟩
  rintro ds G Q ⟨A, s, t, l, n, f0, lows, rfl, gt, p, W, hn, hsp, hfr, tk, hfs, hlo, pt, q⟩
  have hlen := thold_len l n
  have hl2 := tkFs_len (thold l n) s
  rw [hfs, List.length_cons, hlen] at hl2
  have tp : t ≠ A.p := ne_kind gt p.p nofun
  have tna : t ≠ A.a := ne_kind gt p.a nofun
  have tnb : t ≠ A.b := ne_kind gt p.b nofun
  have tnc : t ≠ A.c := ne_kind gt p.c nofun
  refine ⟨_, rfl, _, rfl, l, n, rfl, hn, fun o go => ?_⟩
  have no : ∀ {x u}, G x = some u → x ≠ o := fun {x u} e z => by subst z; rw [go] at e; cases e
  have k1 : Kp G (up G o (.lst ((thold l n).map hD))) := fun x u e => by rw [up_ne (no e)]; exact e
  have p1 := p.ext k1
  have g1t := k1 _ _ gt
  have g1o : up G o (.lst ((thold l n).map hD)) o = some (.lst ((thold l n).map hD)) := up_same
  have oa : o ≠ A.a := (no p.a).symm
  have ob : o ≠ A.b := (no p.b).symm
  have oc : o ≠ A.c := (no p.c).symm
  have ot : o ≠ t := (no gt).symm
  generalize up G o (.lst ((thold l n).map hD)) = G1 at k1 p1 g1t g1o
  -- any
  refine ⟨_, rfl, o, _, rfl, g1o, lc_map (fun _ => .bl false) g1o (small_len (by rw [List.length_map, hlen]; omega)) (fun d hd R h => ?_) ?_⟩
  · obtain ⟨x, hx, rfl⟩ := List.mem_map.mp hd
    refine ⟨_, rfl, A.p, _, rfl, p1.p, rfl, _, rfl, A, s, x, rfl, p1, ?_⟩
    rw [hsp x hx]
    exact ⟨rfl, .inl ⟨rfl, h⟩⟩
  refine ⟨_, bl_map _ fun _ => false, false, ?_, ite_f Bool.false_ne_true ?_⟩
  · have : ((List.map hD (thold l n)).map fun _ => false).any (fun b => b) = false := by
      rw [List.any_eq_false]
      intro b hb
      obtain ⟨_, _, rfl⟩ := List.mem_map.mp hb
      exact Bool.false_ne_true
    rw [this]
  -- enough are free
  refine ⟨_, rfl, A.p, _, rfl, p1.p, rfl, A, s, rfl, p1, W, _, rfl, .inl ⟨_, rfl, _, rfl, _, rfl, .inr (.inl ⟨o, _, rfl, g1o, _, _, rfl, rfl, false, ?_, ite_f Bool.false_ne_true ?_⟩)⟩⟩
  · rw [List.length_map, List.length_map]
    exact bl_f (c := ((frees 0 s.ha).length : Int) < ((thold l n).length : Nat)) (by omega)
  -- the fields
  refine ⟨_, rfl, _, rfl, t, [], rfl, g1t, by decide, ?_⟩
  refine ⟨_, rfl, _, rfl, t, _, rfl, up_same, by show 1 < 1000; omega, ?_⟩
  refine ⟨_, rfl, _, rfl, t, _, rfl, up_same, (by show (putD "owners" (.obj o) [(("frames_by" : Str), .obj A.p)]).length < 1000; rw [putF1]; show 2 < 1000; omega), ?_⟩
  have e4 : putD "size_told" (.int (n : Nat)) (putD "owners" (.obj o) (putD "frames_by" (.obj A.p) [])) = ([("frames_by", .obj A.p), ("owners", .obj o), ("size_told", .int (n : Nat))] : List (Str × Da)) := by
    show putD "size_told" (.int (n : Nat)) (putD "owners" (.obj o) [(("frames_by" : Str), .obj A.p)]) = _
    rw [putF1, putF2]
  rw [e4]
  have p4 := ((p1.upX (u := .ins D (putD "frames_by" (.obj A.p) [])) tp tna tnb tnc).upX (u := .ins D (putD "owners" (.obj o) (putD "frames_by" (.obj A.p) []))) tp tna tnb tnc).upX (u := .ins D [("frames_by", .obj A.p), ("owners", .obj o), ("size_told", .int (n : Nat))]) tp tna tnb tnc
  have k4 : ∀ x u, x ≠ t → G1 x = some u → up (up (up G1 t (.ins D (putD "frames_by" (.obj A.p) []))) t (.ins D (putD "owners" (.obj o) (putD "frames_by" (.obj A.p) [])))) t (.ins D [("frames_by", .obj A.p), ("owners", .obj o), ("size_told", .int (n : Nat))]) x = some u := fun x u h e => by rw [up_ne h, up_ne h, up_ne h]; exact e
  have g4t : up (up (up G1 t (.ins D (putD "frames_by" (.obj A.p) []))) t (.ins D (putD "owners" (.obj o) (putD "frames_by" (.obj A.p) [])))) t (.ins D [("frames_by", .obj A.p), ("owners", .obj o), ("size_told", .int (n : Nat))]) t = some (.ins D [("frames_by", .obj A.p), ("owners", .obj o), ("size_told", .int (n : Nat))]) := up_same
  have g4o := k4 o _ ot g1o
  generalize up (up (up G1 t (.ins D (putD "frames_by" (.obj A.p) []))) t (.ins D (putD "owners" (.obj o) (putD "frames_by" (.obj A.p) [])))) t (.ins D [("frames_by", .obj A.p), ("owners", .obj o), ("size_told", .int (n : Nat))]) = G4 at p4 k4 g4t g4o
  -- the frames
  refine ⟨_, rfl, o, _, rfl, g4o, fun i acc G' => PoolAt C A (tkL s ((thold l n).take i)) G' ∧ PK A G4 G' ∧ acc = (tkFs s ((thold l n).take i)).map fun f => .int (f : Nat), ⟨p4, PK.refl _ _, rfl⟩, ?_, ?_, ?_⟩
  · rintro i acc G' hi ⟨p5, k5, rfl⟩
    refine ⟨k5 _ _ oa ob oc g4o, small_len ?_⟩
    rw [List.length_map, tkFs_len, List.length_take]; omega
  · rintro i d acc G' hd ⟨p5, k5, rfl⟩
    rw [List.getElem?_map] at hd
    obtain ⟨h, hh, rfl⟩ := Option.map_eq_some_iff.mp hd
    obtain ⟨W5, ho, hs, hf⟩ := tk_at tk hh
    obtain ⟨f, fl, ef⟩ : ∃ f fl, frees 0 (tkL s ((thold l n).take i)).ha = f :: fl := by
      cases e : frees 0 (tkL s ((thold l n).take i)).ha with
      | nil => exact absurd e hf
      | cons f fl => exact ⟨f, fl, rfl⟩
    have etk : tkF (tkL s ((thold l n).take i)) = f := by unfold tkF; rw [ef]; rfl
    refine ⟨_, rfl, A.p, _, rfl, p5.p, rfl, _, rfl, A, _, h, blank, f, fl, rfl, p5, W5, ho, ⟨rfl, fun x hx => by rw [List.eq_of_mem_replicate hx]; omega⟩, hs, ef, fun G2 p6 k6 => ⟨?_, k5.trans k6, ?_⟩⟩
    · rw [tkL_next hh]
      unfold tk1
      rw [etk]
      exact p6
    · rw [tkFs_next hh, etk, List.map_append]
      rfl
  rintro acc G5 ⟨p5, k5, rfl⟩
  rw [List.length_map, List.take_length] at p5 ⊢
  have g5t := k5 _ _ tna tnb tnc g4t
  have g5o := k5 _ _ oa ob oc g4o
  refine ⟨.int (f0 : Nat), lows.map fun f => .int (f : Nat), by rw [hfs]; rfl, by rw [List.length_map]; omega, fun lw glw => ?_⟩
  have nw : ∀ {x u}, G5 x = some u → x ≠ lw := fun {x u} e z => by subst z; rw [glw] at e; cases e
  refine ⟨_, rfl, t, _, rfl, by rw [up_ne (nw g5t)]; exact g5t, by show 3 < 1000; omega, ?_⟩
  rw [putF3]
  have p6 := (p5.upX (x := lw) (u := .lst (lows.map fun f => .int (f : Nat))) (nw p5.p).symm (nw p5.a).symm (nw p5.b).symm (nw p5.c).symm).upX (u := .ins D (tF A o n f0)) tp tna tnb tnc
  have k6 : ∀ x u, x ≠ t → G5 x = some u → up (up G5 lw (.lst (lows.map fun f => .int (f : Nat)))) t (.ins D (tF A o n f0)) x = some u := fun x u h e => by rw [up_ne h, up_ne (nw e)]; exact e
  have g6t : up (up G5 lw (.lst (lows.map fun f => .int (f : Nat)))) t (.ins D (tF A o n f0)) t = some (.ins D (tF A o n f0)) := up_same
  have g6o := k6 o _ ot g5o
  have g6w : up (up G5 lw (.lst (lows.map fun f => .int (f : Nat)))) t (.ins D (tF A o n f0)) lw = some (.lst (lows.map fun f => .int (f : Nat))) := by rw [up_ne (nw g5t).symm, up_same]
  have wa : lw ≠ A.a := (nw p5.a).symm
  have wb : lw ≠ A.b := (nw p5.b).symm
  have wc : lw ≠ A.c := (nw p5.c).symm
  generalize up (up G5 lw (.lst (lows.map fun f => .int (f : Nat)))) t (.ins D (tF A o n f0)) = G6 at p6 k6 g6t g6o g6w
  obtain ⟨pt1', pt2'⟩ := ptOk_append pt
  have ta6 : TabAt D A t o l n f0 G6 := ⟨oa, ob, g6t, g6o⟩
  -- the top's entries
  refine ⟨_, rfl, lw, _, rfl, g6w, ?_⟩
  refine ⟨fun i τ' G' => PoolAt C A (ptL (tkL s (thold l n)) ((tops f0 lows).take i)) G' ∧ PK A G6 G' ∧ ∃ a b, τ' = [some (.obj t), some (.obj A.p), some (.int (l : Nat)), some (.int (n : Nat)), some (.obj o), some (.obj lw), a, b, none, none], ⟨p6, PK.refl _ _, _, _, rfl⟩, fun i τ' G' hi ⟨_, k7, _⟩ => k7 _ _ wa wb wc g6w, ?_, ?_⟩
  · rintro i d τ' G' hd ⟨p7, k7, a, b, rfl⟩
    obtain ⟨d0, h0, rfl⟩ := enumD_of hd
    rw [List.getElem?_map] at h0
    obtain ⟨lo, hlo', rfl⟩ := Option.map_eq_some_iff.mp h0
    have hq : (tops f0 lows)[i]? = some (f0, i, ((lo : Nat) : Int) * 16 + 3) := by
      unfold tops
      rw [List.getElem?_mapIdx, hlo']
      rfl
    obtain ⟨W7, ⟨r, hr7, hne⟩, ⟨g, hg7⟩, hp8, c0, c1⟩ := pt_at pt1' hq
    have t7 := ta6.keep p6 k7
    have hb := hlo lo (mem_get hlo')
    refine ⟨_, rfl, rfl, _, _, rfl, _, _, rfl, rfl, _, rfl, A.p, _, rfl, p7.p, rfl, _, rfl, t, _, _, rfl, t7.t, rfl, _, rfl, _, rfl, lo, true, rfl, by omega, by omega, ?_⟩
    refine ⟨A, _, f0, i, _, r, g, rfl, p7, W7, hr7, hne, hg7, hp8, ?_, ?_, fun G2 p8 k8 => ⟨?_, k7.trans k8, _, _, rfl⟩⟩
    · simp; omega
    · simp; omega
    · rw [ptL_next hq]
      unfold pt1
      rw [getD_some hg7]
      have e : ((lo : Nat) : Int) * 16 + (if true = true then 1 else 0) + 2 = ((lo : Nat) : Int) * 16 + 3 := by simp; omega
      rw [e] at p8
      exact p8
  rintro τ' G7 ⟨p7, k7, a, b, rfl⟩
  have etop : (enumD (lows.map fun f => Da.int (f : Nat))).length = (tops f0 lows).length := by
    rw [enumD_len, List.length_map]; unfold tops; rw [List.length_mapIdx]
  rw [etop, List.take_length] at p7
  -- the lower frames' entries
  refine ⟨_, rfl, n, rfl, by omega, by omega, ?_⟩
  rw [Int.toNat_natCast]
  refine ⟨fun i τ' G' => PoolAt C A (ptL (ptL (tkL s (thold l n)) (tops f0 lows)) ((bots lows n).take i)) G' ∧ PK A G6 G' ∧ ∃ c, τ' = [some (.obj t), some (.obj A.p), some (.int (l : Nat)), some (.int (n : Nat)), some (.obj o), some (.obj lw), a, b, c, none], ⟨p7, k7, _, rfl⟩, fun _ _ _ _ _ => trivial, ?_, ?_⟩
  · rintro i d τ' G' hd ⟨p8, k8, c, rfl⟩
    have hi : i < n := by have := lt_get hd; rw [intsD_len] at this; exact this
    rw [intsD_get hi] at hd
    obtain rfl : Da.int (i : Nat) = d := Option.some.inj hd
    have hq : (bots lows n)[i]? = some (lows.getD (i / 8) 0, i % 8, 2) := by
      unfold bots
      rw [List.getElem?_map, List.getElem?_range hi]
      rfl
    obtain ⟨W8, ⟨r, hr8, hne⟩, ⟨g, hg8⟩, hp8, c0, c1⟩ := pt_at pt2' hq
    have hlt : i / 8 < lows.length := by omega
    have hlw : lows[i / 8]? = some (lows.getD (i / 8) 0) := by rw [List.getD_eq_getElem?_getD, List.getElem?_eq_getElem hlt]; rfl
    refine ⟨_, rfl, A.p, _, rfl, p8.p, rfl, _, rfl, _, rfl, _, _, rfl, rfl, ⟨by decide, by decide⟩, lw, _, _, .int ((lows.getD (i / 8) 0 : Nat) : Int), rfl, rfl, k8 _ _ wa wb wc g6w, ?_, ?_⟩
    · have e : ((i : Int) / 8) = ((i / 8 : Nat) : Int) := by omega
      show atI (lows.map fun f => Da.int (f : Nat)) ((i : Int) / 8) = _
      rw [e]
      exact at_nat (map_get (fun f : Nat => Da.int (f : Nat)) hlw)
    refine ⟨_, rfl, _, _, rfl, rfl, by show (0 : Int) < 8; omega, rfl, rfl, 0, false, rfl, by omega, by omega, ?_⟩
    refine ⟨A, _, lows.getD (i / 8) 0, i % 8, 2, r, g, ?_, p8, W8, hr8, hne, hg8, hp8, c0, c1, fun G2 p9 k9 => ⟨?_, k8.trans k9, _, rfl⟩⟩
    · have e : ((i : Int) % 8) = ((i % 8 : Nat) : Int) := by omega
      show [Da.obj A.p, .int ((lows.getD (i / 8) 0 : Nat) : Int), .int ((i : Int) % 8), .int 2] = _
      rw [e]
    · rw [ptL_next hq]
      unfold pt1
      rw [getD_some hg8]
      exact p9
  rintro τ' G8 ⟨p8, k8, c, rfl⟩
  have ebot : (intsD n).length = (bots lows n).length := by
    rw [intsD_len]; unfold bots; rw [List.length_map, List.length_range]
  rw [ebot, List.take_length] at p8
  refine q o G8 go ?_ (ta6.keep p6 k8) fun x u h1 h2 h3 h4 e => k8 x u h2 h3 h4 (k6 x u h1 (k5 x u h2 h3 h4 (k4 x u h1 (k1 x u e))))
  unfold ptL at p8 ⊢
  rw [List.foldl_append]
  exact p8
end
end Lw
set_option maxHeartbeats 4000000
/-! the law's pot, an entry, a page -/
namespace Lw
open PySem PySem.Spec PyProof.Rows L2
abbrev dPot : Stmt := top 50
abbrev dTk : Stmt := top 51
abbrev dEnt : Stmt := top 52
abbrev dPgOf : Stmt := top 53
/-- the pot at p: at most m numbers mixed -/
def PotAt (p : Addr) (m : Nat) (G : Gp) : Prop := ∃ a b c : Int, G p = some (.lst [.int a, .int b, .int c]) ∧ 0 ≤ b ∧ b < 2 ^ 61 ∧ 0 ≤ c ∧ c ≤ m
theorem log2_lt {x n : Nat} (h : x < 2 ^ n) (hn : 0 < n) : x.log2 < n := by
  by_cases h0 : x = 0
  · subst h0; simpa using hn
  · exact (Nat.log2_lt h0).mpr h
theorem big_lt : ((10 : Int) ^ (60 : Int).toNat) ^ (14 : Int).toNat < 2 ^ 2800 := by decide +kernel
theorem big_pos : (0 : Int) < ((10 : Int) ^ (60 : Int).toNat) ^ (14 : Int).toNat := by decide +kernel
section
variable {P : Program} {w : World} {K : PySem.W.Frag} {mg : Str → Option Value} {base : Heap} {k : Nat} {C D E' : Addr}
def SPot : Sp3 := fun ds G Q => ∃ (ns : List Int) (k : Nat), ds = [.scr ns, .int (k : Nat)] ∧ k ≤ 1000 ∧ ∀ p G', G p = none → PotAt p 0 G' → Kp G G' → Q (.obj p) G'
theorem scPot : FnScope ["script", "k", "cell", "mixed"] ["script", "k"] (defScope dPot) := ⟨rfl, rfl, rfl, by decide +kernel, rfl, by decide +kernel, by decide +kernel⟩
theorem okPot {f : Addr} {fd : FuncData} (F : Fun K "_law_pot" "_law_pot" dPot f fd) (T : Txt K w mg) : FnOk P w K mg base CX0 1 f fd ["script", "k"] (spl K SPot) := by
  refine Fun3 F scPot (fun ds G Q ⟨_, _, e, _⟩ => by rw [e]; rfl) fun cdv A outer s H E hr => ⟨_, s_cons (s_set (i := 2) scPot.nd e_int) (s_cons (s_if (t_lt (v 1) (e_len T.len (v 0))) (s_one (s_set (i := 2) scPot.nd (e_mod (e_abs T.abs (e_ixS (v 0) (v 1))) (e_powL (e_pow e_int e_int) e_int)))) s_nil)
    (s_cons (s_set (i := 3) scPot.nd (e_mod (e_pow (e_add (e_add (e_mod (v 2) e_int) (e_mul e_int (v 1))) e_int) e_int) e_int))
    (s_one (s_ret (e_new (l_lst (a_cons (e_mulW (v 2) (e_intB T.int (e_ge (v 2) (e_pow e_int e_int)))) (a_cons (v 3) (a_cons e_int a_nil))))))))), ?_⟩
  rintro ds G Q ⟨ns, k, rfl, hk, q⟩
  have go : ∀ c : Int, 0 ≤ c → c < 2 ^ 2800 → sSeq (sAsg (eOp (oI (fun _ j => 0 < j) fun i j => i % j) (eOp (oI CPow fun i j => i ^ j.toNat) (eOp (oI0 fun i j => i + j) (eOp (oI0 fun i j => i + j) (eOp (oI (fun _ j => 0 < j) fun i j => i % j) (eV 2) (eC (.int 2147483629))) (eOp (oI CMul fun i j => i * j) (eC (.int 7919)) (eV 1))) (eC (.int 1))) (eC (.int 5))) (eC (.int 2305843009213693951))) (gN 3))
      (sRet (eNew (lLst (aCons (eOp (oI CMulW fun i j => i * j) (eV 2) (eCB cIntB (a1 (eOp oGe (eV 2) (eOp (oI CPow fun i j => i ^ j.toNat) (eC (.int 10)) (eC (.int 18))))))) (aCons (eV 3) (aCons (eC (.int 0)) aNil))))))
      { nx := fun _ G' => Q .non G', rt := Q } [some (.scr ns), some (.int (k : Nat)), some (.int c), none] G := by
    intro c h0 h1
    have m0 : 0 ≤ c % 2147483629 := Int.emod_nonneg _ (by decide)
    have m1 : c % 2147483629 < 2147483629 := Int.emod_lt_of_pos _ (by decide)
    refine ⟨_, rfl, _, _, rfl, rfl, by show (0 : Int) < 2147483629; omega, _, rfl, _, _, rfl, rfl, .inl ⟨by decide, by decide⟩, _, _, rfl, rfl, _, _, rfl, rfl, _, _, rfl, rfl, ⟨by decide, by decide, ?_⟩, _, _, rfl, rfl, by show (0 : Int) < 2305843009213693951; omega, ?_⟩
    · show (c % 2147483629 + 7919 * (k : Int) + 1).natAbs < 2 ^ 64
      omega
    have b0 : 0 ≤ (c % 2147483629 + 7919 * (k : Int) + 1) ^ (5 : Int).toNat % 2305843009213693951 := Int.emod_nonneg _ (by decide)
    have b1 : (c % 2147483629 + 7919 * (k : Int) + 1) ^ (5 : Int).toNat % 2305843009213693951 < 2305843009213693951 := Int.emod_lt_of_pos _ (by decide)
    refine ⟨_, rfl, _, rfl, _, _, rfl, rfl, ⟨by decide, by decide, by decide⟩, _, _, rfl, rfl, _, rfl, _, _, rfl, rfl, ?_, _, rfl, sz3, fun p hp => q p _ hp ⟨_, _, _, up_same, b0, Int.lt_trans b1 (by decide), by omega, by omega⟩ fun x o e => ?_⟩
    · show c.natAbs.log2 + (if _ then (1 : Int) else 0).natAbs.log2 < 1000000
      have l1 : c.natAbs.log2 < 2800 := log2_lt (by omega) (by decide)
      split
      · have : (1 : Int).natAbs.log2 = 0 := by decide
        omega
      · have : (0 : Int).natAbs.log2 = 0 := by decide
        omega
    · have : x ≠ p := fun z => by subst z; rw [hp] at e; cases e
      rw [up_ne this]
      exact e
  refine ⟨_, rfl, _, rfl, _, rfl, .inr (.inr ⟨_, rfl, _, _, rfl, rfl, _, rfl, ?_⟩)⟩
  by_cases hlt : (k : Int) < (ns.length : Nat)
  · have hk2 : k < ns.length := by omega
    refine ite_t (decide_eq_true hlt) ?_
    refine ⟨_, rfl, _, rfl, _, _, ns[k], rfl, rfl, at_nat (List.getElem?_eq_getElem hk2), _, rfl, _, _, rfl, rfl, ⟨by decide, by decide, by decide⟩, _, _, rfl, rfl, ⟨by decide, by decide +kernel⟩, _, _, rfl, rfl, big_pos, ?_⟩
    exact go _ (Int.emod_nonneg _ (Int.ne_of_gt big_pos)) (Int.lt_trans (Int.emod_lt_of_pos _ big_pos) big_lt)
  · refine ite_f (by simpa using hlt) ?_
    exact go 0 (Int.le_refl 0) (by decide +kernel)
/-! _law_take -/
def STk : Sp3 := fun ds G Q => ∃ (p : Addr) (m k : Nat), ds = [.obj p, .int (k : Nat)] ∧ PotAt p m G ∧ m ≤ 100000 ∧ 1 ≤ k ∧ k ≤ 100000 ∧ ∀ (r : Nat) G', r < k → PotAt p (m + 1) G' → (∀ x o, x ≠ p → G x = some o → G' x = some o) → Q (.int (r : Nat)) G'
theorem scTk : FnScope ["pot", "many", "found", "one", "other"] ["pot", "many"] (defScope dTk) := ⟨rfl, rfl, rfl, by decide +kernel, rfl, by decide +kernel, by decide +kernel⟩
theorem nat_of {x : Int} {k : Nat} (h0 : 0 ≤ x) (h1 : x < (k : Nat)) : ∃ r : Nat, x = (r : Nat) ∧ r < k := ⟨x.toNat, by omega, by omega⟩
theorem okTk {f : Addr} {fd : FuncData} (F : Fun K "_law_take" "_law_take" dTk f fd) : FnOk P w K mg base CX0 1 f fd ["pot", "many"] (spl K STk) := by
  refine Fun3 F scTk (fun ds G Q ⟨_, _, _, e, _⟩ => by rw [e]; rfl) fun cdv A outer s H E hr => ⟨_, s_cons (s_if (t_gt (e_ixL (v 0) e_int) e_int) (s_cons (s_set (i := 2) scTk.nd (e_mod (e_ixL (v 0) e_int) (v 1))) (s_cons (s_asg (e_fdiv (e_ixL (v 0) e_int) (v 1)) (g_set (v 0) e_int)) (s_one (s_ret (v 2))))) s_nil)
    (s_cons (s_asg (e_add (e_ixL (v 0) e_int) e_int) (g_set (v 0) e_int)) (s_cons (s_set (i := 3) scTk.nd (e_mod (e_pow (e_add (e_ixL (v 0) e_int) (e_mul e_int (e_ixL (v 0) e_int))) e_int) e_int))
    (s_cons (s_set (i := 4) scTk.nd (e_mod (e_pow (e_add (e_add (v 3) (e_mod (e_ixL (v 0) e_int) e_int)) (e_mul e_int (e_ixL (v 0) e_int))) e_int) e_int)) (s_one (s_ret (e_mod (e_fdiv (v 4) e_int) (v 1))))))), ?_⟩
  rintro ds G Q ⟨p, m, k, rfl, ⟨a, b, c, gp, b0, b1, c0, c1⟩, hm, k0, k1, q⟩
  have kp : (0 : Int) < (k : Nat) := by omega
  refine ⟨_, rfl, p, _, 0, .int a, rfl, rfl, gp, rfl, _, _, rfl, rfl, _, rfl, ?_⟩
  by_cases ha : (0 : Int) < a
  · refine ite_t (decide_eq_true ha) ?_
    refine ⟨_, rfl, p, _, 0, .int a, rfl, rfl, gp, rfl, _, rfl, _, _, rfl, rfl, kp, ?_⟩
    refine ⟨_, rfl, p, _, 0, .int a, rfl, rfl, gp, rfl, _, rfl, _, _, rfl, rfl, ⟨kp, by omega⟩, ?_⟩
    refine ⟨_, rfl, p, _, 0, 0, rfl, rfl, gp, rfl, ?_⟩
    obtain ⟨r, er, hr⟩ := nat_of (Int.emod_nonneg a (Int.ne_of_gt kp)) (Int.emod_lt_of_pos a kp)
    refine ⟨.int (a % (k : Nat)), rfl, ?_⟩
    rw [er]
    refine q r _ hr ⟨_, b, c, up_same, b0, b1, c0, by omega⟩ fun x o nx e => ?_
    rw [up_ne nx]
    exact e
  · refine ite_f (by simpa using ha) ?_
    refine ⟨_, rfl, p, _, 2, .int c, rfl, rfl, gp, rfl, _, _, rfl, rfl, ?_⟩
    refine ⟨_, rfl, p, _, 2, 2, rfl, rfl, gp, rfl, ?_⟩
    have g2 : up G p (.lst [.int a, .int b, .int (c + 1)]) p = some (.lst [.int a, .int b, .int (c + 1)]) := up_same
    have k2 : ∀ x o, x ≠ p → G x = some o → up G p (.lst [.int a, .int b, .int (c + 1)]) x = some o := fun x o nx e => by rw [up_ne nx]; exact e
    show sSeq _ _ _ _ (up G p (.lst [.int a, .int b, .int (c + 1)]))
    generalize up G p (.lst [.int a, .int b, .int (c + 1)]) = G2 at g2 k2
    refine ⟨_, rfl, p, _, 1, .int b, rfl, rfl, g2, rfl, _, rfl, p, _, 2, .int (c + 1), rfl, rfl, g2, rfl, _, _, rfl, rfl, .inl ⟨by decide, by decide⟩, _, _, rfl, rfl, _, _, rfl, rfl, ⟨by decide, by decide, ?_⟩, _, _, rfl, rfl, by show (0 : Int) < 2305843009213693921; omega, ?_⟩
    · show (b + 104729 * (c + 1)).natAbs < 2 ^ 64
      omega
    have o0 : 0 ≤ (b + 104729 * (c + 1)) ^ (3 : Int).toNat % 2305843009213693921 := Int.emod_nonneg _ (by decide)
    have o1 : (b + 104729 * (c + 1)) ^ (3 : Int).toNat % 2305843009213693921 < 2305843009213693921 := Int.emod_lt_of_pos _ (by decide)
    have d0 : 0 ≤ b % 65537 := Int.emod_nonneg _ (by decide)
    have d1 : b % 65537 < 65537 := Int.emod_lt_of_pos _ (by decide)
    refine ⟨.int ((b + 104729 * (c + 1)) ^ (3 : Int).toNat % 2305843009213693921), rfl, ?_⟩
    generalize (b + 104729 * (c + 1)) ^ (3 : Int).toNat % 2305843009213693921 = one at o0 o1
    refine ⟨_, rfl, p, _, 1, .int b, rfl, rfl, g2, rfl, _, _, rfl, rfl, by show (0 : Int) < 65537; omega, _, _, rfl, rfl, _, rfl, p, _, 2, .int (c + 1), rfl, rfl, g2, rfl, _, _, rfl, rfl, .inl ⟨by decide, by decide⟩, _, _, rfl, rfl, _, _, rfl, rfl, ⟨by decide, by decide, ?_⟩, _, _, rfl, rfl, by show (0 : Int) < 2305843009213693907; omega, ?_⟩
    · show (one + b % 65537 + 31 * (c + 1)).natAbs < 2 ^ 64
      omega
    refine ⟨_, rfl, _, _, rfl, rfl, ⟨by decide, by decide⟩, _, rfl, _, _, rfl, rfl, kp, ?_⟩
    obtain ⟨r, er, hr⟩ := nat_of (Int.emod_nonneg ((one + b % 65537 + 31 * (c + 1)) ^ (5 : Int).toNat % 2305843009213693907 / 1024) (Int.ne_of_gt kp)) (Int.emod_lt_of_pos ((one + b % 65537 + 31 * (c + 1)) ^ (5 : Int).toNat % 2305843009213693907 / 1024) kp)
    show Q (.int ((one + b % 65537 + 31 * (c + 1)) ^ (5 : Int).toNat % 2305843009213693907 / 1024 % (k : Nat))) G2
    rw [er]
    exact q r _ hr ⟨a, b, _, g2, b0, b1, by omega, by omega⟩ k2
/-! _law_entry_of, _law_page_of -/
def SEnt (C : Addr) : Sp3 := fun ds G Q => ∃ A s f0 p lo c, ds = [.obj A.p, .int (f0 : Nat), .int (p : Nat)] ∧ PoolAt C A s G ∧ EntAt s f0 p lo c ∧ Q (.int c) G
theorem scEnt : FnScope ["pool", "top", "part", "lower"] ["pool", "top", "part"] (defScope dEnt) := ⟨rfl, rfl, rfl, by decide +kernel, rfl, by decide +kernel, by decide +kernel⟩
theorem okEnt {f : Addr} {fd : FuncData} (F : Fun K "_law_entry_of" "_law_entry_of" dEnt f fd) (TC : PTx K mg C) (D1 : MethOk P w K mg base 3 C "page" [] (SPageOf C)) : FnOk P w K mg base CX0 4 f fd ["pool", "top", "part"] (spl K (SEnt C)) := by
  refine Fun3 F scEnt (fun ds G Q ⟨_, _, _, _, _, _, e, _⟩ => by rw [e]; rfl) fun cdv A outer s H E hr => ⟨_, s_cons (s_set (i := 3) scEnt.nd (e_fdiv (e_ixT (e_meth D1 TC.cl hr (v 0) (a_cons (v 1) a_nil)) (e_fdiv (v 2) e_int)) e_int)) (s_one (s_ret (e_ixT (e_meth D1 TC.cl hr (v 0) (a_cons (v 3) a_nil)) (e_mod (v 2) e_int)))), ?_⟩
  rintro ds G Q ⟨A, s, f0, p, lo, c, rfl, pa, ⟨⟨g, t, hg, hc, h0, h1, hl⟩, g2, hg2, hc2⟩, q⟩
  refine ⟨_, rfl, A.p, _, rfl, pa.p, rfl, _, rfl, A, s, f0, g, rfl, pa, hg, ?_⟩
  refine ⟨_, rfl, _, _, rfl, rfl, ⟨by decide, by decide⟩, _, _, .int t, rfl, rfl, ?_, _, _, rfl, rfl, ⟨by decide, by decide⟩, ?_⟩
  · have e : ((p : Int) / 8) = ((p / 8 : Nat) : Int) := by omega
    show atI (g.map Da.int) ((p : Int) / 8) = _
    rw [e]
    exact at_nat (map_get _ hc)
  refine ⟨_, rfl, A.p, _, rfl, pa.p, rfl, _, rfl, A, s, lo, g2, ?_, pa, hg2, ?_⟩
  · show [Da.obj A.p, .int (t / 16)] = _
    rw [hl]
  refine ⟨_, rfl, _, _, rfl, rfl, by show (0 : Int) < 8; omega, _, _, .int c, rfl, rfl, ?_, q⟩
  have e : ((p : Int) % 8) = ((p % 8 : Nat) : Int) := by omega
  show atI (g2.map Da.int) ((p : Int) % 8) = _
  rw [e]
  exact at_nat (map_get _ hc2)
/-- what an entry tells: in the frame f, in the slot i, nowhere -/
def CodeOk : Option Nat → Option Nat → Int → Prop
  | some f, _, c => c = (f : Nat) * 16 + 1 ∨ c = (f : Nat) * 16 + 3
  | none, some i, c => c = ((i : Nat) + 1) * 16 ∨ c = ((i : Nat) + 1) * 16 + 2
  | none, none, c => c = 0 ∨ c = 2
theorem code_f {f : Nat} {S : Option Nat} {c : Int} (h : CodeOk (some f) S c) : c % 2 = 1 ∧ c / 16 = (f : Nat) := by
  rcases h with h | h <;> omega
theorem code_s {i : Nat} {c : Int} (h : CodeOk none (some i) c) : c % 2 = 0 ∧ c / 16 = (i : Nat) + 1 := by
  rcases h with h | h <;> omega
theorem code_n {c : Int} (h : CodeOk none none c) : c % 2 = 0 ∧ c / 16 = 0 := by
  rcases h with h | h <;> omega
def SPgOf (C E' : Addr) : Sp3 := fun ds G Q => ∃ A B s u f0 p lo c Fo So g, ds = [.obj A.p, .obj B.p, .int (f0 : Nat), .int (p : Nat)] ∧ PoolAt C A s G ∧ SlotsAt E' B u G ∧ EntAt s f0 p lo c ∧ CodeOk Fo So c ∧
  (∀ f, Fo = some f → s.sh[f]? = some g) ∧ (∀ i, Fo = none → So = some i → nl u.sl i = some g ∧ ∃ r, nl u.hs i = some r) ∧ (Fo = none → So = none → g = blank) ∧ Q (pD g) G
theorem scPgOf : FnScope ["pool", "slots", "top", "part", "cell"] ["pool", "slots", "top", "part"] (defScope dPgOf) := ⟨rfl, rfl, rfl, by decide +kernel, rfl, by decide +kernel, by decide +kernel⟩
theorem okPgOf {f : Addr} {fd : FuncData} (F : Fun K "_law_page_of" "_law_page_of" dPgOf f fd) (TC : PTx K mg C) (TE : PTx K mg E') (D0 : DefOk P w K mg base 4 "_law_entry_of" [] (SEnt C)) (D1 : MethOk P w K mg base 3 C "page" [] (SPageOf C)) (D2 : MethOk P w K mg base 2 E' "page" [] (SSPageOf E')) : FnOk P w K mg base CX0 5 f fd ["pool", "slots", "top", "part"] (spl K (SPgOf C E')) := by
  refine Fun3 F scPgOf (fun ds G Q ⟨_, _, _, _, _, _, _, _, _, _, _, e, _⟩ => by rw [e]; rfl) fun cdv A outer s H E hr => ⟨_, s_cons (s_set (i := 4) scPgOf.nd (e_call D0 hr (a_cons (v 0) (a_cons (v 2) (a_cons (v 3) a_nil))))) (s_cons (s_if (t_eq hr.units (e_mod (v 4) e_int) e_int) (s_one (s_ret (e_meth D1 TC.cl hr (v 0) (a_cons (e_fdiv (v 4) e_int) a_nil)))) s_nil)
    (s_one (s_ret (e_if (t_gt (e_fdiv (v 4) e_int) e_int) (e_meth D2 TE.cl hr (v 1) (a_cons (e_sub (e_fdiv (v 4) e_int) e_int) a_nil)) (e_repT (e_tup (a_cons e_int a_nil)) e_int))))), ?_⟩
  rintro ds G Q ⟨A, B, s, u, f0, p, lo, c, Fo, So, g, rfl, pa, sa, he, hc, h1, h2, h3, q⟩
  refine ⟨_, rfl, _, rfl, _, rfl, A, s, f0, p, lo, c, rfl, pa, he, ?_⟩
  refine ⟨_, rfl, _, _, rfl, rfl, by show (0 : Int) < 2; omega, rfl, rfl, _, rfl, ?_⟩
  show if eqB (.int (c % 2)) (.int 1) = true then _ else _
  rw [eqB_int]
  cases Fo with
  | some f =>
    obtain ⟨c1, c2⟩ := code_f hc
    rw [if_pos (by rw [c1]; rfl)]
    refine ⟨_, rfl, A.p, _, rfl, pa.p, rfl, _, rfl, _, _, rfl, rfl, ⟨by decide, by decide⟩, A, s, f, g, ?_, pa, h1 f rfl, q⟩
    show [Da.obj A.p, .int (c / 16)] = _
    rw [c2]
  | none =>
    cases So with
    | some i =>
      obtain ⟨c1, c2⟩ := code_s hc
      obtain ⟨hg, r, hr⟩ := h2 i rfl rfl
      rw [if_neg (by rw [c1]; decide)]
      refine ⟨_, rfl, _, _, rfl, rfl, ⟨by decide, by decide⟩, _, _, rfl, rfl, true, bl_t (by show (0 : Int) < c / 16; omega), ?_⟩
      refine ⟨_, rfl, B.p, _, rfl, sa.p, rfl, _, rfl, _, _, rfl, rfl, ⟨by decide, by decide⟩, _, _, rfl, rfl, B, u, i, r, g, ?_, sa, hr, hg, q⟩
      show [Da.obj B.p, .int (c / 16 - 1)] = _
      rw [c2, show ((i : Int) + 1 - 1) = (i : Nat) by omega]
    | none =>
      obtain ⟨c1, c2⟩ := code_n hc
      rw [if_neg (by rw [c1]; decide)]
      refine ⟨_, rfl, _, _, rfl, rfl, ⟨by decide, by decide⟩, _, _, rfl, rfl, false, bl_f (by show ¬ (0 : Int) < c / 16; omega), ?_⟩
      refine ⟨sz1, _, _, rfl, rfl, nofun, by decide, by decide, by decide, ?_⟩
      have := h3 rfl rfl
      subst this
      exact q
end
end Lw
set_option maxHeartbeats 2000000
/-! the mirror: pages, tables, the pool's invariant -/
namespace Lw
open PySem L2
abbrev Pg := Nat × Nat
def hp (q : Pg) : Hd := ⟨"page", (q.1 : Nat), (q.2 : Nat)⟩
def thd (l k : Nat) : Hd := ⟨"table", (l : Nat), (k : Nat)⟩
theorem hp_inj {q q' : Pg} (h : hp q = hp q') : q = q' := by
  unfold hp at h
  injection h with _ h1 h2
  exact Prod.ext (by omega) (by omega)
theorem thd_inj {l k l' k' : Nat} (h : thd l k = thd l' k') : l = l' ∧ k = k' := by
  unfold thd at h
  injection h with _ h1 h2
  omega
theorem pt_ne : ¬ (("page" : Str) = "table") := by decide +kernel
theorem hp_thd {q : Pg} {l k : Nat} (h : hp q = thd l k) : False := by
  unfold hp thd at h
  injection h with h1 _ _
  exact pt_ne h1
structure Tab where
  n : Nat
  f0 : Nat
  lows : List Nat
/-- the tables made; the first d of them have left -/
structure Tbs where
  l : List Tab
  d : Nat
def Tbs.length (ts : Tbs) : Nat := ts.l.length
instance : GetElem? Tbs Nat Tab fun ts i => i < ts.l.length where
  getElem ts i h := ts.l[i]
  getElem? ts i := if i < ts.d then none else ts.l[i]?
theorem Tbs.at (ts : Tbs) (i : Nat) : ts[i]? = if i < ts.d then none else ts.l[i]? := rfl
theorem Tbs.lt {ts : Tbs} {i : Nat} {t : Tab} (h : ts[i]? = some t) : i < ts.length := by
  rw [Tbs.at] at h
  split at h
  · cases h
  · exact (List.getElem?_eq_some_iff.mp h).1
def dom (ts : Tbs) (q : Pg) : Prop := ∃ t, ts[q.1]? = some t ∧ q.2 < t.n
def TabHd (ts : Tbs) (h : Hd) (f : Nat) : Prop := ∃ l t k, ts[l]? = some t ∧ h = thd l k ∧ (t.f0 :: t.lows)[k]? = some f
structure TbOk (s : PS) (l : Nat) (t : Tab) : Prop where
  n0 : t.n ≤ 16
  ln : t.lows.length = (t.n + 7) / 8
  own : ∀ (k f : Nat), (t.f0 :: t.lows)[k]? = some f → s.ha[f]? = some [thd l k]
  top : ∃ g : List Int, s.sh[t.f0]? = some g ∧ ∀ (k lo : Nat), t.lows[k]? = some lo → g[k]? = some ((lo : Nat) * 16 + 3)
/-! all holders that may be -/
def U : List Hd := (List.range 3).flatMap fun l => (List.range 3).map (fun k => thd l k) ++ (List.range 16).map fun p => hp (l, p)
theorem U_len : U.length = 57 := by decide +kernel
theorem nodup_le {α : Type} [DecidableEq α] : ∀ (l D : List α), l.Nodup → (∀ x ∈ l, x ∈ D) → l.length ≤ D.length
  | [], _, _, _ => Nat.zero_le _
  | x :: l, D, hn, hs => by
    obtain ⟨h1, h2⟩ := List.nodup_cons.mp hn
    have hx : x ∈ D := hs x List.mem_cons_self
    have ih := nodup_le l (D.erase x) h2 fun y hy => (List.mem_erase_of_ne fun e => h1 (by rw [← e]; exact hy)).2 (hs y (List.mem_cons_of_mem _ hy))
    have e := List.length_erase_of_mem hx
    have hp : 0 < D.length := List.length_pos_of_mem hx
    rw [List.length_cons]
    omega
theorem U_page {q : Pg} (h1 : q.1 < 3) (h2 : q.2 < 16) : hp q ∈ U := List.mem_flatMap.mpr ⟨q.1, List.mem_range.mpr h1, List.mem_append_right _ (List.mem_map.mpr ⟨q.2, List.mem_range.mpr h2, rfl⟩)⟩
theorem U_tab {l k : Nat} (h1 : l < 3) (h2 : k < 3) : thd l k ∈ U := List.mem_flatMap.mpr ⟨l, List.mem_range.mpr h1, List.mem_append_left _ (List.mem_map.mpr ⟨k, List.mem_range.mpr h2, rfl⟩)⟩
theorem U_ok {h : Hd} (hu : h ∈ U) : HdOk h := by
  obtain ⟨l, hl, hm⟩ := List.mem_flatMap.mp hu
  have hl := List.mem_range.mp hl
  rcases List.mem_append.mp hm with hm | hm
  · obtain ⟨k, hk, rfl⟩ := List.mem_map.mp hm
    have hk := List.mem_range.mp hk
    exact ⟨2, if_pos rfl, by show (0 : Int) ≤ (l : Nat); omega, by show ((l : Nat) : Int) ≤ 1000000; omega, by show (0 : Int) ≤ (k : Nat); omega, by show ((k : Nat) : Int) ≤ 2; omega⟩
  · obtain ⟨k, hk, rfl⟩ := List.mem_map.mp hm
    have hk := List.mem_range.mp hk
    refine ⟨15, ?_, by show (0 : Int) ≤ (l : Nat); omega, by show ((l : Nat) : Int) ≤ 1000000; omega, by show (0 : Int) ≤ (k : Nat); omega, by show ((k : Nat) : Int) ≤ 15; omega⟩
    show (if ("page" : Str) = "table" then some (2 : Int) else if ("page" : Str) = "page" then some 15 else _) = _
    rw [if_neg pt_ne, if_pos rfl]
theorem lt_nodup {r : List Hd} (h : r.Pairwise fun a b => hLt a b = true) : r.Nodup := h.imp fun {a b} h e => by
  subst e
  rw [hLt_irr] at h; cases h
theorem spot_key {sp : List (Hd × Nat)} {h : Hd} (hm : h ∈ sp.map (·.1)) : ∃ f, spot sp h = some f := by
  induction sp with
  | nil => cases hm
  | cons q r ih =>
    rw [spot_cons]
    by_cases e : q.1 = h
    · exact ⟨q.2, if_pos e⟩
    · rw [if_neg e]
      rcases List.mem_cons.mp hm with z | z
      · exact absurd z.symm e
      · exact ih z
theorem spot_mem {sp : List (Hd × Nat)} {h : Hd} {f : Nat} (hm : spot sp h = some f) : h ∈ sp.map (·.1) := by
  induction sp with
  | nil => cases hm
  | cons q r ih =>
    rw [spot_cons] at hm
    by_cases e : q.1 = h
    · exact List.mem_cons.mpr (.inl e.symm)
    · rw [if_neg e] at hm
      exact List.mem_cons_of_mem _ (ih hm)
theorem get_set {α : Type} {l : List α} {i j : Nat} {x : α} : (l.set i x)[j]? = if i = j ∧ i < l.length then some x else l[j]? := by
  by_cases h : i = j
  · subst h
    by_cases h2 : i < l.length
    · rw [List.getElem?_set_self h2, if_pos ⟨rfl, h2⟩]
    · rw [if_neg (fun z => h2 z.2), List.set_eq_of_length_le (by omega)]
  · rw [List.getElem?_set_ne h, if_neg fun z => h z.1]

structure PoolInv (ts : Tbs) (s : PS) (F : Pg → Option Nat) : Prop where
  ln : s.sh.length = s.ha.length
  l0 : 10 ≤ s.ha.length
  l1 : s.ha.length ≤ 13
  to : ts.length ≤ 3
  pgs : ∀ g ∈ s.sh, PgOk g
  srt : ∀ r ∈ s.ha, r.Pairwise fun a b => hLt a b = true
  tab : ∀ (l : Nat) (t : Tab), ts[l]? = some t → TbOk s l t
  row : ∀ (f : Nat) (r : List Hd), s.ha[f]? = some r → ∀ h ∈ r, TabHd ts h f ∨ ∃ q, dom ts q ∧ h = hp q ∧ F q = some f
  pg : ∀ q f, dom ts q → F q = some f → ∃ r, s.ha[f]? = some r ∧ hp q ∈ r
  sp : ∀ h f, spot s.sp h = some f ↔ ∃ r, s.ha[f]? = some r ∧ h ∈ r
  spn : (s.sp.map (·.1)).Nodup
  bl : ∀ f : Nat, s.ha[f]? = some [] → s.sh[f]? = some blank
section
variable {ts : Tbs} {s : PS} {F : Pg → Option Nat}
theorem PoolInv.inU (I : PoolInv ts s F) {f : Nat} {r : List Hd} (hf : s.ha[f]? = some r) {h : Hd} (hh : h ∈ r) : h ∈ U := by
  rcases I.row f r hf h hh with ⟨l, t, k, ht, rfl, hk⟩ | ⟨q, ⟨t, ht, hq⟩, rfl, _⟩
  · have T := I.tab l t ht
    have h1 := Tbs.lt ht
    have h2 := lt_get hk
    have := I.to
    have := T.n0
    have := T.ln
    rw [List.length_cons] at h2
    exact U_tab (by omega) (by omega)
  · have h1 := Tbs.lt ht
    have := I.to
    have := (I.tab _ t ht).n0
    exact U_page (by omega) (by omega)
theorem dom_bd (to : ts.length ≤ 3) (n0 : ∀ (l : Nat) (t : Tab), ts[l]? = some t → t.n ≤ 16) {q : Pg} (h : dom ts q) : q.1 < 3 ∧ q.2 < 16 := by
  obtain ⟨t, ht, hq⟩ := h
  have := Tbs.lt ht
  have := n0 _ t ht
  omega
theorem PoolInv.dom_bd (I : PoolInv ts s F) {q : Pg} (h : dom ts q) : q.1 < 3 ∧ q.2 < 16 := Lw.dom_bd I.to (fun l t e => (I.tab l t e).n0) h
theorem PoolInv.wf (I : PoolInv ts s F) : PWf s := by
  refine ⟨I.ln, by have := I.l0; omega, by have := I.l1; omega, I.pgs, fun r hr => ?_, ?_⟩
  · obtain ⟨f, hf⟩ := List.getElem?_of_mem hr
    have hs := I.srt r hr
    refine ⟨?_, fun h hh => U_ok (I.inU hf hh), hs⟩
    have := nodup_le r U (lt_nodup hs) fun h hh => I.inU hf hh
    rw [U_len] at this
    omega
  · have := nodup_le (s.sp.map (·.1)) U I.spn fun h hh => by
      obtain ⟨f, e⟩ := spot_key hh
      obtain ⟨r, hf, hr⟩ := (I.sp h f).mp e
      exact I.inU hf hr
    rw [U_len, List.length_map] at this
    omega
theorem PoolInv.uniq (I : PoolInv ts s F) {f f' : Nat} {r r' : List Hd} {h : Hd} (hf : s.ha[f]? = some r) (hh : h ∈ r) (hf' : s.ha[f']? = some r') (hh' : h ∈ r') : f = f' := by
  have e1 := (I.sp h f).mpr ⟨r, hf, hh⟩
  have e2 := (I.sp h f').mpr ⟨r', hf', hh'⟩
  rw [e1] at e2
  exact Option.some.inj e2
/-- the row of a page has pages only -/
theorem PoolInv.pages (I : PoolInv ts s F) {f : Nat} {r : List Hd} (hf : s.ha[f]? = some r) {q : Pg} (hq : hp q ∈ r) {h : Hd} (hh : h ∈ r) : ∃ q', dom ts q' ∧ h = hp q' ∧ F q' = some f := by
  rcases I.row f r hf h hh with ⟨l, t, k, ht, rfl, hk⟩ | e
  · have := (I.tab l t ht).own k f hk
    rw [hf] at this
    obtain rfl := Option.some.inj this
    exact (hp_thd (List.mem_singleton.mp hq)).elim
  · exact e
theorem PoolInv.at (I : PoolInv ts s F) {f : Nat} {r : List Hd} (hf : s.ha[f]? = some r) {q : Pg} (hq : hp q ∈ r) : F q = some f := by
  obtain ⟨q', _, e, h⟩ := I.pages hf hq hq
  rw [hp_inj e]
  exact h
theorem PoolInv.led (I : PoolInv ts s F) : LedOk s.ha := by
  have W := I.wf
  have nd : s.ha.flatten.Nodup := by
    refine List.pairwise_flatten.mpr ⟨fun r hr => lt_nodup (I.srt r hr), List.pairwise_iff_getElem.mpr fun i j hi hj hij x hx y hy e => ?_⟩
    subst e
    have := I.uniq (List.getElem?_eq_getElem hi) hx (List.getElem?_eq_getElem hj) hy
    omega
  refine ⟨W.l0, W.l1, W.ok, fun r hr h1 => ?_, nd, ?_⟩
  · obtain ⟨f, hf⟩ := List.getElem?_of_mem hr
    cases hb : tabB r with
    | false => rfl
    | true =>
      obtain ⟨h, hh, hw⟩ := List.any_eq_true.mp hb
      have hw := of_decide_eq_true hw
      rcases I.row f r hf h hh with ⟨l, t, k, ht, rfl, hk⟩ | ⟨q, _, rfl, _⟩
      · have := (I.tab l t ht).own k f hk
        rw [hf] at this
        obtain rfl := Option.some.inj this
        exact absurd h1 (by show ¬ 1 < 1; omega)
      · exact absurd hw pt_ne
  · have := nodup_le s.ha.flatten U nd fun h hh => by
      obtain ⟨r, hr, hh⟩ := List.mem_flatten.mp hh
      obtain ⟨f, hf⟩ := List.getElem?_of_mem hr
      exact I.inU hf hh
    rw [U_len] at this
    omega
/-- a page leaves its frame -/
theorem PoolInv.leave (I : PoolInv ts s F) {q : Pg} {f : Nat} {r : List Hd} (hd : dom ts q) (hq : F q = some f) (hf : s.ha[f]? = some r) :
    PoolInv ts ⟨if (drp r (hp q)).isEmpty = true then s.sh.set f blank else s.sh, s.ha.set f (drp r (hp q)), s.sp.filter fun x => decide (x.1 ≠ hp q)⟩ fun q' => if q' = q then none else F q' := by
  have hlt := lt_get hf
  have hqr : hp q ∈ r := by
    obtain ⟨r', h1, h2⟩ := I.pg q f hd hq
    rw [hf] at h1
    rw [Option.some.inj h1]
    exact h2
  have blank_ok : PgOk blank := ⟨rfl, fun x hx => by rw [List.eq_of_mem_replicate hx]; omega⟩
  have nt : ∀ (l : Nat) (t : Tab) (k f' : Nat), ts[l]? = some t → (t.f0 :: t.lows)[k]? = some f' → f ≠ f' := fun l t k f' ht hk e => by
    subst e
    have := (I.tab l t ht).own k f hk
    rw [hf] at this
    obtain rfl := Option.some.inj this
    exact hp_thd (List.mem_singleton.mp hqr)
  have sh : ∀ f', f ≠ f' → (if (drp r (hp q)).isEmpty = true then s.sh.set f blank else s.sh)[f']? = s.sh[f']? := fun f' ne => by
    split
    · exact List.getElem?_set_ne ne
    · rfl
  refine ⟨?_, by rw [List.length_set]; exact I.l0, by rw [List.length_set]; exact I.l1, I.to, ?_, ?_, ?_, ?_, ?_, ?_, ?_, ?_⟩
  · show (if (drp r (hp q)).isEmpty = true then s.sh.set f blank else s.sh).length = _
    rw [List.length_set]
    split
    · rw [List.length_set]; exact I.ln
    · exact I.ln
  · intro g hg
    have hg' : g ∈ (if (drp r (hp q)).isEmpty = true then s.sh.set f blank else s.sh) := hg
    split at hg'
    · rcases List.mem_or_eq_of_mem_set hg' with h | h
      · exact I.pgs g h
      · rw [h]; exact blank_ok
    · exact I.pgs g hg'
  · intro r' hr'
    rcases List.mem_or_eq_of_mem_set hr' with h | h
    · exact I.srt r' h
    · rw [h]
      exact (I.srt r (mem_get hf)).filter _
  · intro l t ht
    have T := I.tab l t ht
    refine ⟨T.n0, T.ln, fun k f' hk => ?_, ?_⟩
    · show (s.ha.set f _)[f']? = _
      rw [List.getElem?_set_ne (nt l t k f' ht hk)]
      exact T.own k f' hk
    · obtain ⟨g, hg, h⟩ := T.top
      exact ⟨g, (sh _ (nt l t 0 t.f0 ht rfl)).trans hg, h⟩
  · intro f' r' hr' h hh
    have hr' : (s.ha.set f (drp r (hp q)))[f']? = some r' := hr'
    rw [get_set] at hr'
    by_cases e : f = f' ∧ f < s.ha.length
    · rw [if_pos e] at hr'
      obtain rfl := Option.some.inj hr'
      obtain ⟨rfl, _⟩ := e
      obtain ⟨h1, h2⟩ := List.mem_filter.mp hh
      have h2 := of_decide_eq_true h2
      obtain ⟨q', d', rfl, hq'⟩ := I.pages hf hqr h1
      refine .inr ⟨q', d', rfl, ?_⟩
      show (if q' = q then none else F q') = _
      rw [if_neg fun e => h2 (by rw [e])]
      exact hq'
    · rw [if_neg e] at hr'
      rcases I.row f' r' hr' h hh with h | ⟨q', d', rfl, hq'⟩
      · exact .inl h
      · refine .inr ⟨q', d', rfl, ?_⟩
        show (if q' = q then none else F q') = _
        rw [if_neg fun z => ?_]
        · exact hq'
        · subst z
          rw [hq] at hq'
          exact e ⟨Option.some.inj hq', hlt⟩
  · intro q' f' d' hq'
    have hq' : (if q' = q then none else F q') = some f' := hq'
    by_cases e : q' = q
    · rw [if_pos e] at hq'; cases hq'
    · rw [if_neg e] at hq'
      obtain ⟨r', h1, h2⟩ := I.pg q' f' d' hq'
      by_cases e2 : f = f'
      · subst e2
        rw [hf] at h1
        obtain rfl := Option.some.inj h1
        exact ⟨_, List.getElem?_set_self hlt, List.mem_filter.mpr ⟨h2, decide_eq_true fun z => e (hp_inj z)⟩⟩
      · exact ⟨r', by rw [← h1]; exact List.getElem?_set_ne e2, h2⟩
  · intro h f'
    show spot (s.sp.filter fun x => decide (x.1 ≠ hp q)) h = some f' ↔ _
    rw [spot_filter]
    by_cases e : h = hp q
    · rw [if_pos e]
      constructor
      · intro z; cases z
      · rintro ⟨r', h1, h2⟩
        have h1 : (s.ha.set f (drp r (hp q)))[f']? = some r' := h1
        rw [get_set] at h1
        by_cases e2 : f = f' ∧ f < s.ha.length
        · rw [if_pos e2] at h1
          obtain rfl := Option.some.inj h1
          exact absurd e (of_decide_eq_true (List.mem_filter.mp h2).2)
        · rw [if_neg e2] at h1
          rw [e] at h2
          exact absurd ⟨I.uniq hf hqr h1 h2, hlt⟩ e2
    · rw [if_neg e, I.sp]
      constructor
      · rintro ⟨r', h1, h2⟩
        by_cases e2 : f = f'
        · subst e2
          rw [hf] at h1
          obtain rfl := Option.some.inj h1
          exact ⟨_, List.getElem?_set_self hlt, List.mem_filter.mpr ⟨h2, decide_eq_true e⟩⟩
        · exact ⟨r', by rw [← h1]; exact List.getElem?_set_ne e2, h2⟩
      · rintro ⟨r', h1, h2⟩
        have h1 : (s.ha.set f (drp r (hp q)))[f']? = some r' := h1
        rw [get_set] at h1
        by_cases e2 : f = f' ∧ f < s.ha.length
        · rw [if_pos e2] at h1
          obtain rfl := Option.some.inj h1
          obtain ⟨rfl, _⟩ := e2
          exact ⟨r, hf, (List.mem_filter.mp h2).1⟩
        · rw [if_neg e2] at h1
          exact ⟨r', h1, h2⟩
  · exact (List.Sublist.map (·.1) (List.filter_sublist (l := s.sp))).nodup I.spn
  · intro f' hf'
    have hf' : (s.ha.set f (drp r (hp q)))[f']? = some [] := hf'
    rw [get_set] at hf'
    by_cases e2 : f = f' ∧ f < s.ha.length
    · rw [if_pos e2] at hf'
      have e3 := Option.some.inj hf'
      obtain ⟨rfl, _⟩ := e2
      show (if (drp r (hp q)).isEmpty = true then s.sh.set f blank else s.sh)[f]? = _
      rw [if_pos (by rw [e3]; rfl)]
      exact List.getElem?_set_self (by rw [I.ln]; exact hlt)
    · rw [if_neg e2] at hf'
      have ne : f ≠ f' := fun z => e2 ⟨z, hlt⟩
      exact (sh f' ne).trans (I.bl f' hf')
end
end Lw
set_option maxHeartbeats 2000000
/-! the mirror: a page held, a cell put; the slots' invariant -/
namespace Lw
open PySem L2
section
variable {ts : Tbs} {s : PS} {F : Pg → Option Nat}
theorem PoolInv.notin (I : PoolInv ts s F) {q : Pg} (hq : F q = none) {f : Nat} {r : List Hd} (hf : s.ha[f]? = some r) : hp q ∉ r := fun h => by
  have := I.at hf h
  rw [hq] at this; cases this
theorem PoolInv.nospot (I : PoolInv ts s F) {q : Pg} (hq : F q = none) : spot s.sp (hp q) = none := by
  cases e : spot s.sp (hp q) with
  | none => rfl
  | some f =>
    obtain ⟨r, h1, h2⟩ := (I.sp _ f).mp e
    exact absurd h2 (I.notin hq h1)
theorem PoolInv.hold (I : PoolInv ts s F) {q : Pg} {f : Nat} {r L' : List Hd} {g : List Int} (hd : dom ts q) (hq : F q = none) (hf : s.ha[f]? = some r) (pr : ∀ h ∈ r, ∃ q', h = hp q') (hL : L'.Perm (r ++ [hp q])) (hP : L'.Pairwise fun a b => hLe a b = true) (hg : PgOk g) :
    PoolInv ts ⟨s.sh.set f g, s.ha.set f L', s.sp ++ [(hp q, f)]⟩ fun q' => if q' = q then some f else F q' := by
  have hlt := lt_get hf
  have hnr := I.notin hq hf
  have hm : ∀ h, h ∈ L' ↔ h ∈ r ∨ h = hp q := fun h => by rw [hL.mem_iff, List.mem_append, List.mem_singleton]
  have nd : L'.Nodup := hL.nodup_iff.mpr (List.nodup_append.mpr ⟨lt_nodup (I.srt r (mem_get hf)), List.nodup_cons.mpr ⟨nofun, List.nodup_nil⟩, fun a ha b hb e => by
    rw [List.mem_singleton.mp hb] at e
    rw [e] at ha
    exact hnr ha⟩)
  have nt : ∀ (l : Nat) (t : Tab) (k f' : Nat), ts[l]? = some t → (t.f0 :: t.lows)[k]? = some f' → f ≠ f' := fun l t k f' ht hk e => by
    subst e
    have := (I.tab l t ht).own k f hk
    rw [hf] at this
    obtain rfl := Option.some.inj this
    obtain ⟨q', e⟩ := pr _ List.mem_cons_self
    exact hp_thd e.symm
  refine ⟨by show (s.sh.set f g).length = (s.ha.set f L').length; rw [List.length_set, List.length_set]; exact I.ln, by rw [List.length_set]; exact I.l0, by rw [List.length_set]; exact I.l1, I.to, ?_, ?_, ?_, ?_, ?_, ?_, ?_, ?_⟩
  · intro g' hg'
    rcases List.mem_or_eq_of_mem_set hg' with h | h
    · exact I.pgs g' h
    · rw [h]; exact hg
  · intro r' hr'
    rcases List.mem_or_eq_of_mem_set hr' with h | h
    · exact I.srt r' h
    · rw [h]
      exact pw_lt nd hP
  · intro l t ht
    have T := I.tab l t ht
    refine ⟨T.n0, T.ln, fun k f' hk => ?_, ?_⟩
    · show (s.ha.set f _)[f']? = _
      rw [List.getElem?_set_ne (nt l t k f' ht hk)]
      exact T.own k f' hk
    · obtain ⟨g', hg', h⟩ := T.top
      exact ⟨g', (List.getElem?_set_ne (nt l t 0 t.f0 ht rfl)).trans hg', h⟩
  · intro f' r' hr' h hh
    have hr' : (s.ha.set f L')[f']? = some r' := hr'
    rw [get_set] at hr'
    have old : ∀ r', s.ha[f']? = some r' → h ∈ r' → TabHd ts h f' ∨ ∃ q', dom ts q' ∧ h = hp q' ∧ (if q' = q then some f else F q') = some f' := fun r' hr' hh => by
      rcases I.row f' r' hr' h hh with h | ⟨q', d', rfl, hq'⟩
      · exact .inl h
      · refine .inr ⟨q', d', rfl, ?_⟩
        rw [if_neg fun z => ?_]
        · exact hq'
        · subst z
          rw [hq] at hq'; cases hq'
    by_cases e : f = f' ∧ f < s.ha.length
    · rw [if_pos e] at hr'
      obtain rfl := Option.some.inj hr'
      obtain ⟨rfl, _⟩ := e
      rcases (hm h).mp hh with h1 | h1
      · exact old r hf h1
      · exact .inr ⟨q, hd, h1, if_pos rfl⟩
    · rw [if_neg e] at hr'
      exact old r' hr' hh
  · intro q' f' d' hq'
    have hq' : (if q' = q then some f else F q') = some f' := hq'
    by_cases e : q' = q
    · subst e
      rw [if_pos rfl] at hq'
      obtain rfl := Option.some.inj hq'
      exact ⟨L', List.getElem?_set_self hlt, (hm _).mpr (.inr rfl)⟩
    · rw [if_neg e] at hq'
      obtain ⟨r', h1, h2⟩ := I.pg q' f' d' hq'
      by_cases e2 : f = f'
      · subst e2
        rw [hf] at h1
        obtain rfl := Option.some.inj h1
        exact ⟨L', List.getElem?_set_self hlt, (hm _).mpr (.inl h2)⟩
      · exact ⟨r', by rw [← h1]; exact List.getElem?_set_ne e2, h2⟩
  · intro h f'
    show spot (s.sp ++ [(hp q, f)]) h = some f' ↔ _
    rw [spot_append, spot_cons, spot_nil]
    have key : (∃ r', (s.ha.set f L')[f']? = some r' ∧ h ∈ r') ↔ (∃ r', s.ha[f']? = some r' ∧ h ∈ r') ∨ (h = hp q ∧ f' = f) := by
      constructor
      · rintro ⟨r', h1, h2⟩
        rw [get_set] at h1
        by_cases e : f = f' ∧ f < s.ha.length
        · rw [if_pos e] at h1
          obtain rfl := Option.some.inj h1
          obtain ⟨rfl, _⟩ := e
          rcases (hm h).mp h2 with h3 | h3
          · exact .inl ⟨r, hf, h3⟩
          · exact .inr ⟨h3, rfl⟩
        · rw [if_neg e] at h1
          exact .inl ⟨r', h1, h2⟩
      · rintro (⟨r', h1, h2⟩ | ⟨h1, rfl⟩)
        · by_cases e2 : f = f'
          · subst e2
            rw [hf] at h1
            obtain rfl := Option.some.inj h1
            exact ⟨L', List.getElem?_set_self hlt, (hm _).mpr (.inl h2)⟩
          · exact ⟨r', by rw [← h1]; exact List.getElem?_set_ne e2, h2⟩
        · exact ⟨L', List.getElem?_set_self hlt, (hm _).mpr (.inr h1)⟩
    refine Iff.trans ?_ key.symm
    rw [← I.sp]
    by_cases e : h = hp q
    · subst e
      rw [I.nospot hq]
      simp [eq_comm]
    · have e2 : ¬ hp q = h := fun z => e z.symm
      simp [e, e2]
  · show ((s.sp ++ [(hp q, f)]).map (·.1)).Nodup
    rw [List.map_append, List.nodup_append]
    refine ⟨I.spn, List.nodup_cons.mpr ⟨nofun, List.nodup_nil⟩, fun a ha b hb e => ?_⟩
    rw [List.mem_singleton.mp hb] at e
    subst e
    obtain ⟨f', h⟩ := spot_key ha
    rw [I.nospot hq] at h; cases h
  · intro f' hf'
    have hf' : (s.ha.set f L')[f']? = some [] := hf'
    rw [get_set] at hf'
    by_cases e : f = f' ∧ f < s.ha.length
    · rw [if_pos e] at hf'
      have := (hm (hp q)).mpr (.inr rfl)
      rw [Option.some.inj hf'] at this
      cases this
    · rw [if_neg e] at hf'
      have ne : f ≠ f' := fun z => e ⟨z, hlt⟩
      exact (List.getElem?_set_ne ne).trans (I.bl f' hf')
/-- a sheet put, not a top's -/
theorem PoolInv.sheet (I : PoolInv ts s F) {f : Nat} {r : List Hd} {g : List Int} (hf : s.ha[f]? = some r) (hne : r ≠ []) (hg : PgOk g) (nt : ∀ (l : Nat) (t : Tab), ts[l]? = some t → t.f0 ≠ f) : PoolInv ts { s with sh := s.sh.set f g } F := by
  refine ⟨by rw [List.length_set]; exact I.ln, I.l0, I.l1, I.to, ?_, I.srt, ?_, I.row, I.pg, I.sp, I.spn, ?_⟩
  · intro g' hg'
    rcases List.mem_or_eq_of_mem_set hg' with h | h
    · exact I.pgs g' h
    · rw [h]; exact hg
  · intro l t ht
    have T := I.tab l t ht
    obtain ⟨g', hg', h⟩ := T.top
    exact ⟨T.n0, T.ln, T.own, g', (List.getElem?_set_ne (nt l t ht).symm).trans hg', h⟩
  · intro f' hf'
    have hf' : s.ha[f']? = some [] := hf'
    have ne : f ≠ f' := fun z => by
      subst z
      rw [hf] at hf'
      exact hne (Option.some.inj hf')
    exact (List.getElem?_set_ne ne).trans (I.bl f' hf')
end
/-! the slots -/
theorem nl_of_mem {α : Type} {l : List (Nat × α)} (nd : (l.map (·.1)).Nodup) {i : Nat} {x : α} (h : (i, x) ∈ l) : nl l i = some x := by
  induction l with
  | nil => cases h
  | cons q r ih =>
    rw [List.map_cons, List.nodup_cons] at nd
    rw [nl_cons]
    rcases List.mem_cons.mp h with e | h
    · rw [← e, if_pos rfl]
    · rw [if_neg fun e => nd.1 (List.mem_map.mpr ⟨_, h, e.symm⟩)]
      exact ih nd.2 h
theorem setN_nodup {α : Type} {l : List (Nat × α)} (nd : (l.map (·.1)).Nodup) (i : Nat) (x : α) : ((setN l i x).map (·.1)).Nodup := by
  unfold setN
  by_cases h : (nl l i).isSome = true
  · rw [if_pos h, List.map_map]
    have : l.map ((fun q : Nat × α => q.1) ∘ fun q => if q.1 = i then (q.1, x) else q) = l.map (·.1) := List.map_congr_left fun q _ => by
      show (if q.1 = i then (q.1, x) else q).1 = q.1
      split <;> rfl
    rw [this]
    exact nd
  · rw [if_neg h, List.map_append, List.nodup_append]
    refine ⟨nd, List.nodup_cons.mpr ⟨nofun, List.nodup_nil⟩, fun a ha b hb e => ?_⟩
    rw [List.mem_singleton.mp hb] at e
    subst e
    exact h (Option.isSome_iff_ne_none.mpr (nl_mem ha))
theorem delN_nodup {α : Type} {l : List (Nat × α)} (nd : (l.map (·.1)).Nodup) (i : Nat) : ((delN l i).map (·.1)).Nodup :=
  (List.Sublist.map (·.1) (List.filter_sublist (l := l))).nodup nd
structure SlotInv (ts : Tbs) (u : SS) (S : Pg → Option Nat) : Prop where
  to : ts.length ≤ 3
  tn : ∀ (l : Nat) (t : Tab), ts[l]? = some t → t.n ≤ 16
  kn : (u.hs.map (·.1)).Nodup
  kl : (u.sl.map (·.1)).Nodup
  row : ∀ (i : Nat) (r : List Hd), nl u.hs i = some r → r ≠ [] ∧ (r.Pairwise fun a b => hLt a b = true) ∧ ∀ h ∈ r, ∃ q, dom ts q ∧ h = hp q ∧ S q = some i
  pg : ∀ q i, dom ts q → S q = some i → ∃ r, nl u.hs i = some r ∧ hp q ∈ r
  sp : ∀ h i, spot u.sp h = some i ↔ ∃ r, nl u.hs i = some r ∧ h ∈ r
  spn : (u.sp.map (·.1)).Nodup
  sl : ∀ i, (∃ g, nl u.sl i = some g) ↔ ∃ r, nl u.hs i = some r
  spg : ∀ i g, nl u.sl i = some g → PgOk g
section
variable {ts : Tbs} {u : SS} {S : Pg → Option Nat}
theorem SlotInv.inU (I : SlotInv ts u S) {i : Nat} {r : List Hd} (hi : nl u.hs i = some r) {h : Hd} (hh : h ∈ r) : h ∈ U := by
  obtain ⟨q, d, rfl, _⟩ := (I.row i r hi).2.2 h hh
  obtain ⟨h1, h2⟩ := Lw.dom_bd I.to I.tn d
  exact U_page h1 h2
theorem SlotInv.uniq (I : SlotInv ts u S) {i j : Nat} {r r' : List Hd} {h : Hd} (hi : nl u.hs i = some r) (hh : h ∈ r) (hj : nl u.hs j = some r') (hh' : h ∈ r') : i = j := by
  have e1 := (I.sp h i).mpr ⟨r, hi, hh⟩
  have e2 := (I.sp h j).mpr ⟨r', hj, hh'⟩
  rw [e1] at e2
  exact Option.some.inj e2
theorem SlotInv.len (I : SlotInv ts u S) : u.hs.length ≤ 57 := by
  have nd : (u.hs.map fun q => q.2.headD (hp (0, 0))).Nodup := by
    refine List.pairwise_map.mpr ?_
    have k := List.pairwise_map.mp I.kn
    refine k.imp_of_mem fun {a b} ha hb ne e => ?_
    have h1 := nl_of_mem I.kn (show (a.1, a.2) ∈ u.hs from ha)
    have h2 := nl_of_mem I.kn (show (b.1, b.2) ∈ u.hs from hb)
    obtain ⟨n1, _, _⟩ := I.row _ _ h1
    obtain ⟨n2, _, _⟩ := I.row _ _ h2
    have m1 : a.2.headD (hp (0, 0)) ∈ a.2 := by
      cases e : a.2 with
      | nil => exact absurd e n1
      | cons x r => exact List.mem_cons_self
    have m2 : b.2.headD (hp (0, 0)) ∈ b.2 := by
      cases e : b.2 with
      | nil => exact absurd e n2
      | cons x r => exact List.mem_cons_self
    rw [e] at m1
    exact ne (I.uniq h1 m1 h2 m2)
  have := nodup_le _ U nd fun h hh => by
    obtain ⟨q, hq, rfl⟩ := List.mem_map.mp hh
    have h1 := nl_of_mem I.kn (show (q.1, q.2) ∈ u.hs from hq)
    obtain ⟨n1, _, _⟩ := I.row _ _ h1
    refine I.inU h1 ?_
    cases e : q.2 with
    | nil => exact absurd e n1
    | cons x r => exact List.mem_cons_self
  rw [U_len, List.length_map] at this
  exact this
theorem SlotInv.wf (I : SlotInv ts u S) : SWf u := by
  have hl := I.len
  refine ⟨by omega, ?_, fun i r hi => ?_, ?_⟩
  · have := nodup_le (u.sl.map (·.1)) (u.hs.map (·.1)) I.kl fun i hi => by
      obtain ⟨g, hg⟩ := Option.ne_none_iff_exists'.mp (nl_mem hi)
      obtain ⟨r, hr⟩ := (I.sl i).mp ⟨g, hg⟩
      exact List.mem_map.mpr ⟨_, mem_nl hr, rfl⟩
    rw [List.length_map, List.length_map] at this
    omega
  · obtain ⟨_, hs, _⟩ := I.row i r hi
    refine ⟨?_, fun h hh => U_ok (I.inU hi hh), hs⟩
    have := nodup_le r U (lt_nodup hs) fun h hh => I.inU hi hh
    rw [U_len] at this
    omega
  · have := nodup_le (u.sp.map (·.1)) U I.spn fun h hh => by
      obtain ⟨f, e⟩ := spot_key hh
      obtain ⟨r, hf, hr⟩ := (I.sp h f).mp e
      exact I.inU hf hr
    rw [U_len, List.length_map] at this
    omega
theorem SlotInv.at (I : SlotInv ts u S) {i : Nat} {r : List Hd} (hi : nl u.hs i = some r) {q : Pg} (hq : hp q ∈ r) : S q = some i := by
  obtain ⟨q', _, e, h⟩ := (I.row i r hi).2.2 _ hq
  rw [hp_inj e]
  exact h
theorem SlotInv.nospot (I : SlotInv ts u S) {q : Pg} (hq : S q = none) : spot u.sp (hp q) = none := by
  cases e : spot u.sp (hp q) with
  | none => rfl
  | some f =>
    obtain ⟨r, h1, h2⟩ := (I.sp _ f).mp e
    have := I.at h1 h2
    rw [hq] at this; cases this
end
end Lw
set_option maxHeartbeats 2000000
/-! the mirror: what is done to slots -/
namespace Lw
open PySem L2
section
variable {ts : Tbs} {u : SS} {S : Pg → Option Nat}
theorem SlotInv.put (I : SlotInv ts u S) {i : Nat} {hs : List Hd} {g : List Int} (hn : nl u.hs i = none) (ne : hs ≠ []) (srt : hs.Pairwise fun a b => hLt a b = true) (pr : ∀ h ∈ hs, ∃ q, dom ts q ∧ h = hp q ∧ S q = none) (hg : PgOk g) :
    SlotInv ts ⟨setN u.sl i g, setN u.hs i hs, u.sp ++ hs.map fun h => (h, i)⟩ fun q => if hp q ∈ hs then some i else S q := by
  have nos : ∀ h ∈ hs, spot u.sp h = none := fun h hh => by
    obtain ⟨q, _, rfl, e⟩ := pr h hh
    exact I.nospot e
  have nor : ∀ j r, nl u.hs j = some r → ∀ h ∈ hs, h ∉ r := fun j r hj h hh hr => by
    have := (I.sp h j).mpr ⟨r, hj, hr⟩
    rw [nos h hh] at this; cases this
  refine ⟨I.to, I.tn, setN_nodup I.kn _ _, setN_nodup I.kl _ _, ?_, ?_, ?_, ?_, ?_, ?_⟩
  · intro j r hj
    have hj : nl (setN u.hs i hs) j = some r := hj
    rw [nl_set] at hj
    by_cases e : j = i
    · rw [if_pos e] at hj
      obtain rfl := Option.some.inj hj
      refine ⟨ne, srt, fun h hh => ?_⟩
      obtain ⟨q, d, rfl, _⟩ := pr h hh
      exact ⟨q, d, rfl, by rw [if_pos hh, e]⟩
    · rw [if_neg e] at hj
      obtain ⟨a, b, c⟩ := I.row j r hj
      refine ⟨a, b, fun h hh => ?_⟩
      obtain ⟨q, d, rfl, e2⟩ := c h hh
      exact ⟨q, d, rfl, by rw [if_neg fun z => nor j r hj _ z hh]; exact e2⟩
  · intro q j d hq
    have hq : (if hp q ∈ hs then some i else S q) = some j := hq
    show ∃ r, nl (setN u.hs i hs) j = some r ∧ _
    rw [nl_set]
    by_cases e : hp q ∈ hs
    · rw [if_pos e] at hq
      rw [if_pos (Option.some.inj hq).symm]
      exact ⟨hs, rfl, e⟩
    · rw [if_neg e] at hq
      obtain ⟨r, h1, h2⟩ := I.pg q j d hq
      rw [if_neg fun z => by rw [z, hn] at h1; cases h1]
      exact ⟨r, h1, h2⟩
  · intro h j
    show spot (u.sp ++ hs.map fun h => (h, i)) h = some j ↔ ∃ r, nl (setN u.hs i hs) j = some r ∧ h ∈ r
    rw [spot_append, spot_map, nl_set]
    by_cases e : h ∈ hs
    · rw [nos h e, if_pos e]
      constructor
      · intro z
        have z : i = j := Option.some.inj z
        rw [if_pos z.symm]
        exact ⟨hs, rfl, e⟩
      · rintro ⟨r, h1, h2⟩
        by_cases e2 : j = i
        · rw [e2]; rfl
        · rw [if_neg e2] at h1
          exact absurd h2 (nor j r h1 h e)
    · rw [if_neg e, Option.or_none, I.sp]
      constructor
      · rintro ⟨r, h1, h2⟩
        rw [if_neg fun z => by rw [z, hn] at h1; cases h1]
        exact ⟨r, h1, h2⟩
      · rintro ⟨r, h1, h2⟩
        by_cases e2 : j = i
        · rw [if_pos e2] at h1
          rw [← Option.some.inj h1] at h2
          exact absurd h2 e
        · rw [if_neg e2] at h1
          exact ⟨r, h1, h2⟩
  · show ((u.sp ++ hs.map fun h => (h, i)).map (·.1)).Nodup
    rw [List.map_append, List.map_map, List.nodup_append]
    have e1 : hs.map ((fun q : Hd × Nat => q.1) ∘ fun h => (h, i)) = hs := by
      show hs.map (fun h => h) = hs
      rw [List.map_id']
    rw [e1]
    refine ⟨I.spn, lt_nodup srt, fun a ha b hb e => ?_⟩
    subst e
    obtain ⟨f', h⟩ := spot_key ha
    rw [nos a hb] at h; cases h
  · intro j
    show (∃ g', nl (setN u.sl i g) j = some g') ↔ ∃ r, nl (setN u.hs i hs) j = some r
    rw [nl_set, nl_set]
    by_cases e : j = i
    · rw [if_pos e, if_pos e]
      exact ⟨fun _ => ⟨hs, rfl⟩, fun _ => ⟨g, rfl⟩⟩
    · rw [if_neg e, if_neg e]
      exact I.sl j
  · intro j g' hj
    have hj : nl (setN u.sl i g) j = some g' := hj
    rw [nl_set] at hj
    by_cases e : j = i
    · rw [if_pos e] at hj
      rw [← Option.some.inj hj]
      exact hg
    · rw [if_neg e] at hj
      exact I.spg j g' hj
theorem SlotInv.share (I : SlotInv ts u S) {q : Pg} {i : Nat} {r L' : List Hd} (hd : dom ts q) (hq : S q = none) (hi : nl u.hs i = some r) (hL : L'.Perm (r ++ [hp q])) (hP : L'.Pairwise fun a b => hLe a b = true) :
    SlotInv ts { u with hs := setN u.hs i L', sp := u.sp ++ [(hp q, i)] } fun q' => if q' = q then some i else S q' := by
  have hnr : ∀ j r, nl u.hs j = some r → hp q ∉ r := fun j r hj h => by
    have := I.at hj h
    rw [hq] at this; cases this
  have hm : ∀ h, h ∈ L' ↔ h ∈ r ∨ h = hp q := fun h => by rw [hL.mem_iff, List.mem_append, List.mem_singleton]
  obtain ⟨_, hs, _⟩ := I.row i r hi
  have nd : L'.Nodup := hL.nodup_iff.mpr (List.nodup_append.mpr ⟨lt_nodup hs, List.nodup_cons.mpr ⟨nofun, List.nodup_nil⟩, fun a ha b hb e => by
    rw [List.mem_singleton.mp hb] at e
    rw [e] at ha
    exact hnr i r hi ha⟩)
  have old : ∀ j r, nl u.hs j = some r → ∀ h ∈ r, ∃ q', dom ts q' ∧ h = hp q' ∧ (if q' = q then some i else S q') = some j := fun j r hj h hh => by
    obtain ⟨q', d, rfl, e⟩ := (I.row j r hj).2.2 h hh
    exact ⟨q', d, rfl, by rw [if_neg fun z => by rw [z] at hh; exact hnr j r hj hh]; exact e⟩
  refine ⟨I.to, I.tn, setN_nodup I.kn _ _, I.kl, ?_, ?_, ?_, ?_, ?_, I.spg⟩
  · intro j r' hj
    have hj : nl (setN u.hs i L') j = some r' := hj
    rw [nl_set] at hj
    by_cases e : j = i
    · rw [if_pos e] at hj
      obtain rfl := Option.some.inj hj
      refine ⟨fun z => ?_, pw_lt nd hP, fun h hh => ?_⟩
      · have := (hm (hp q)).mpr (.inr rfl)
        rw [z] at this; cases this
      · rcases (hm h).mp hh with h1 | h1
        · rw [e]; exact old i r hi h h1
        · exact ⟨q, hd, h1, by rw [if_pos rfl, e]⟩
    · rw [if_neg e] at hj
      obtain ⟨a, b, c⟩ := I.row j r' hj
      exact ⟨a, b, old j r' hj⟩
  · intro q' j d hq'
    have hq' : (if q' = q then some i else S q') = some j := hq'
    show ∃ r, nl (setN u.hs i L') j = some r ∧ _
    rw [nl_set]
    by_cases e : q' = q
    · rw [if_pos e] at hq'
      rw [if_pos (Option.some.inj hq').symm]
      exact ⟨L', rfl, (hm _).mpr (.inr (by rw [e]))⟩
    · rw [if_neg e] at hq'
      obtain ⟨r', h1, h2⟩ := I.pg q' j d hq'
      by_cases e2 : j = i
      · rw [if_pos e2]
        subst e2
        rw [hi] at h1
        obtain rfl := Option.some.inj h1
        exact ⟨L', rfl, (hm _).mpr (.inl h2)⟩
      · rw [if_neg e2]
        exact ⟨r', h1, h2⟩
  · intro h j
    show spot (u.sp ++ [(hp q, i)]) h = some j ↔ ∃ r, nl (setN u.hs i L') j = some r ∧ h ∈ r
    rw [spot_append, spot_cons, spot_nil, nl_set]
    have key : (∃ r', (if j = i then some L' else nl u.hs j) = some r' ∧ h ∈ r') ↔ (∃ r', nl u.hs j = some r' ∧ h ∈ r') ∨ (h = hp q ∧ j = i) := by
      by_cases e : j = i
      · subst e
        rw [if_pos rfl]
        constructor
        · rintro ⟨r', h1, h2⟩
          obtain rfl := Option.some.inj h1
          rcases (hm h).mp h2 with h3 | h3
          · exact .inl ⟨r, hi, h3⟩
          · exact .inr ⟨h3, rfl⟩
        · rintro (⟨r', h1, h2⟩ | ⟨h1, _⟩)
          · rw [hi] at h1
            obtain rfl := Option.some.inj h1
            exact ⟨L', rfl, (hm _).mpr (.inl h2)⟩
          · exact ⟨L', rfl, (hm _).mpr (.inr h1)⟩
      · rw [if_neg e]
        constructor
        · exact .inl
        · rintro (h1 | ⟨_, h2⟩)
          · exact h1
          · exact absurd h2 e
    refine Iff.trans ?_ key.symm
    rw [← I.sp]
    by_cases e : h = hp q
    · subst e
      rw [I.nospot hq]
      simp [eq_comm]
    · have e2 : ¬ hp q = h := fun z => e z.symm
      simp [e, e2]
  · show ((u.sp ++ [(hp q, i)]).map (·.1)).Nodup
    rw [List.map_append, List.nodup_append]
    refine ⟨I.spn, List.nodup_cons.mpr ⟨nofun, List.nodup_nil⟩, fun a ha b hb e => ?_⟩
    rw [List.mem_singleton.mp hb] at e
    subst e
    obtain ⟨f', h⟩ := spot_key ha
    rw [I.nospot hq] at h; cases h
  · intro j
    show (∃ g', nl u.sl j = some g') ↔ ∃ r, nl (setN u.hs i L') j = some r
    rw [nl_set]
    by_cases e : j = i
    · rw [if_pos e, I.sl, e]
      exact ⟨fun _ => ⟨L', rfl⟩, fun _ => ⟨r, hi⟩⟩
    · rw [if_neg e]
      exact I.sl j
/-- what a slot's leaving leaves -/
def lvS (u : SS) (i : Nat) (r : List Hd) (h : Hd) : SS :=
  if (drp r h).isEmpty = true then ⟨delN u.sl i, delN (setN u.hs i (drp r h)) i, u.sp.filter fun q => decide (q.1 ≠ h)⟩ else ⟨u.sl, setN u.hs i (drp r h), u.sp.filter fun q => decide (q.1 ≠ h)⟩
theorem lvS_hs (u : SS) (i : Nat) (r : List Hd) (h : Hd) (j : Nat) : nl (lvS u i r h).hs j = if j = i then (if (drp r h).isEmpty = true then none else some (drp r h)) else nl u.hs j := by
  unfold lvS
  by_cases e : (drp r h).isEmpty = true
  · rw [if_pos e, if_pos e]
    show nl (delN (setN u.hs i (drp r h)) i) j = _
    rw [nl_del]
    by_cases e2 : j = i
    · rw [if_pos e2, if_pos e2]
    · rw [if_neg e2, if_neg e2, nl_set, if_neg e2]
  · rw [if_neg e, if_neg e]
    exact nl_set _ _ _ _
theorem lvS_sl (u : SS) (i : Nat) (r : List Hd) (h : Hd) (j : Nat) : nl (lvS u i r h).sl j = if j = i ∧ (drp r h).isEmpty = true then none else nl u.sl j := by
  unfold lvS
  by_cases e : (drp r h).isEmpty = true
  · rw [if_pos e]
    show nl (delN u.sl i) j = _
    rw [nl_del]
    by_cases e2 : j = i <;> simp [e, e2]
  · rw [if_neg e, if_neg fun z => e z.2]
theorem SlotInv.leave (I : SlotInv ts u S) {q : Pg} {i : Nat} {r : List Hd} (hd : dom ts q) (hq : S q = some i) (hi : nl u.hs i = some r) :
    SlotInv ts (lvS u i r (hp q)) fun q' => if q' = q then none else S q' := by
  have hqr : hp q ∈ r := by
    obtain ⟨r', h1, h2⟩ := I.pg q i hd hq
    rw [hi] at h1
    rw [Option.some.inj h1]
    exact h2
  obtain ⟨_, hs, hpr⟩ := I.row i r hi
  have hsp : (lvS u i r (hp q)).sp = u.sp.filter fun x => decide (x.1 ≠ hp q) := by
    unfold lvS
    split <;> rfl
  have mk : ∀ {x : Hd}, x ∈ drp r (hp q) ↔ x ∈ r ∧ x ≠ hp q := fun {x} => by
    rw [List.mem_filter]
    exact and_congr_right fun _ => decide_eq_true_iff
  -- the new rows
  have rw' : ∀ j r', nl (lvS u i r (hp q)).hs j = some r' ↔ (j = i ∧ drp r (hp q) ≠ [] ∧ r' = drp r (hp q)) ∨ (j ≠ i ∧ nl u.hs j = some r') := fun j r' => by
    rw [lvS_hs]
    by_cases e : j = i
    · rw [if_pos e]
      by_cases e2 : (drp r (hp q)).isEmpty = true
      · rw [if_pos e2]
        have : drp r (hp q) = [] := by simpa using e2
        constructor
        · intro z; cases z
        · rintro (⟨_, z, _⟩ | ⟨z, _⟩)
          · exact absurd this z
          · exact absurd e z
      · rw [if_neg e2]
        have : drp r (hp q) ≠ [] := by simpa using e2
        constructor
        · intro z
          exact .inl ⟨e, this, (Option.some.inj z).symm⟩
        · rintro (⟨_, _, z⟩ | ⟨z, _⟩)
          · rw [z]
          · exact absurd e z
    · rw [if_neg e]
      constructor
      · intro z; exact .inr ⟨e, z⟩
      · rintro (⟨z, _⟩ | ⟨_, z⟩)
        · exact absurd z e
        · exact z
  have mem' : ∀ h j, (∃ r', nl (lvS u i r (hp q)).hs j = some r' ∧ h ∈ r') ↔ (∃ r', nl u.hs j = some r' ∧ h ∈ r') ∧ h ≠ hp q := fun h j => by
    constructor
    · rintro ⟨r', h1, h2⟩
      rcases (rw' j r').mp h1 with ⟨rfl, _, rfl⟩ | ⟨e, h3⟩
      · obtain ⟨a, b⟩ := mk.mp h2
        exact ⟨⟨r, hi, a⟩, b⟩
      · exact ⟨⟨r', h3, h2⟩, fun z => e (by rw [z] at h2; exact I.uniq h3 h2 hi hqr)⟩
    · rintro ⟨⟨r', h1, h2⟩, h3⟩
      by_cases e : j = i
      · subst e
        rw [hi] at h1
        obtain rfl := Option.some.inj h1
        have m := mk.mpr ⟨h2, h3⟩
        exact ⟨_, (rw' j _).mpr (.inl ⟨rfl, List.ne_nil_of_mem m, rfl⟩), m⟩
      · exact ⟨r', (rw' j r').mpr (.inr ⟨e, h1⟩), h2⟩
  refine ⟨I.to, I.tn, ?_, ?_, ?_, ?_, ?_, ?_, ?_, ?_⟩
  · unfold lvS
    split
    · exact delN_nodup (setN_nodup I.kn _ _) _
    · exact setN_nodup I.kn _ _
  · unfold lvS
    split
    · exact delN_nodup I.kl _
    · exact I.kl
  · intro j r' hj
    have old : ∀ h j, (∃ r', nl (lvS u i r (hp q)).hs j = some r' ∧ h ∈ r') → ∃ q', dom ts q' ∧ h = hp q' ∧ (if q' = q then none else S q') = some j := fun h j z => by
      obtain ⟨⟨r', h1, h2⟩, h3⟩ := (mem' h j).mp z
      obtain ⟨q', d, rfl, e⟩ := (I.row j r' h1).2.2 h h2
      exact ⟨q', d, rfl, by rw [if_neg fun z => h3 (by rw [z])]; exact e⟩
    refine ⟨?_, ?_, fun h hh => old h j ⟨r', hj, hh⟩⟩
    · rcases (rw' j r').mp hj with ⟨_, e, rfl⟩ | ⟨_, e⟩
      · exact e
      · exact (I.row j r' e).1
    · rcases (rw' j r').mp hj with ⟨_, e, rfl⟩ | ⟨_, e⟩
      · exact hs.filter _
      · exact (I.row j r' e).2.1
  · intro q' j d hq'
    have hq' : (if q' = q then none else S q') = some j := hq'
    by_cases e : q' = q
    · rw [if_pos e] at hq'; cases hq'
    · rw [if_neg e] at hq'
      exact (mem' _ _).mpr ⟨I.pg q' j d hq', fun z => e (hp_inj z)⟩
  · intro h j
    rw [hsp, spot_filter, mem']
    by_cases e : h = hp q
    · rw [if_pos e]
      exact ⟨fun z => (by cases z), fun z => absurd e z.2⟩
    · rw [if_neg e, I.sp]
      exact ⟨fun z => ⟨z, e⟩, fun z => z.1⟩
  · rw [hsp]
    exact (List.Sublist.map (·.1) (List.filter_sublist (l := u.sp))).nodup I.spn
  · intro j
    rw [lvS_sl, lvS_hs]
    by_cases e : j = i
    · subst e
      by_cases e2 : (drp r (hp q)).isEmpty = true
      · rw [if_pos ⟨rfl, e2⟩, if_pos rfl, if_pos e2]
        exact ⟨fun ⟨_, z⟩ => (by cases z), fun ⟨_, z⟩ => (by cases z)⟩
      · rw [if_neg fun z => e2 z.2, if_pos rfl, if_neg e2]
        exact ⟨fun _ => ⟨_, rfl⟩, fun _ => (I.sl j).mpr ⟨r, hi⟩⟩
    · rw [if_neg fun z => e z.1, if_neg e]
      exact I.sl j
  · intro j g hj
    rw [lvS_sl] at hj
    split at hj
    · cases hj
    · exact I.spg j g hj
end
end Lw
set_option maxHeartbeats 2000000
/-! the mirror: the whole state -/
namespace Lw
open PySem L2
structure St where
  s : PS
  u : SS
  F : Pg → Option Nat
  S : Pg → Option Nat
  v : Pg → List Int
/-- all is told but the pages in D -/
structure Inv (ts : Tbs) (z : St) (D : Pg → Prop) : Prop where
  P : PoolInv ts z.s z.F
  Z : SlotInv ts z.u z.S
  vf : ∀ q f, dom ts q → z.F q = some f → z.s.sh[f]? = some (z.v q)
  vs : ∀ q i, dom ts q → z.S q = some i → nl z.u.sl i = some (z.v q)
  nb : ∀ q, dom ts q → ¬ D q → z.F q = none ∨ z.S q = none
  vb : ∀ q, dom ts q → ¬ D q → z.F q = none → z.S q = none → z.v q = blank
  en : ∀ q, dom ts q → ¬ D q → ∃ t lo g c, ts[q.1]? = some t ∧ t.lows[q.2 / 8]? = some lo ∧ z.s.sh[lo]? = some g ∧ g[q.2 % 8]? = some c ∧ CodeOk (z.F q) (z.S q) c
section
variable {ts : Tbs} {z : St} {D : Pg → Prop}
theorem pg_set {g : List Int} {i : Nat} {c : Int} (h : PgOk g) (h0 : 0 ≤ c) (h1 : c ≤ 65535) : PgOk (g.set i c) :=
  ⟨by rw [List.length_set]; exact h.1, fun x hx => by
    rcases List.mem_or_eq_of_mem_set hx with z | z
    · exact h.2 x z
    · rw [z]; exact ⟨h0, h1⟩⟩
theorem Inv.sub (I : Inv ts z D) {D' : Pg → Prop} (h : ∀ q, D q → D' q) : Inv ts z D' :=
  ⟨I.P, I.Z, I.vf, I.vs, fun q d n => I.nb q d fun x => n (h q x), fun q d n => I.vb q d fun x => n (h q x), fun q d n => I.en q d fun x => n (h q x)⟩
/-- the low frame of a page -/
theorem PoolInv.low {s : PS} {F : Pg → Option Nat} (I : PoolInv ts s F) {q : Pg} (d : dom ts q) : ∃ t lo g, ts[q.1]? = some t ∧ q.2 < t.n ∧ t.lows[q.2 / 8]? = some lo ∧ s.sh[lo]? = some g ∧ g.length = 8 ∧ s.ha[lo]? = some [thd q.1 (q.2 / 8 + 1)] ∧ lo < 13 ∧ LowAt s t.f0 q.2 lo := by
  obtain ⟨t, ht, hq⟩ := d
  have T := I.tab _ t ht
  have hl : q.2 / 8 < t.lows.length := by rw [T.ln]; omega
  have ho := T.own (q.2 / 8 + 1) t.lows[q.2 / 8] (by rw [List.getElem?_cons_succ]; exact List.getElem?_eq_getElem hl)
  have hlt := lt_get ho
  have hs : t.lows[q.2 / 8] < s.sh.length := by rw [I.ln]; exact hlt
  obtain ⟨g0, hg0, htop⟩ := T.top
  have hc := htop (q.2 / 8) _ (List.getElem?_eq_getElem hl)
  have := I.l1
  refine ⟨t, t.lows[q.2 / 8], s.sh[t.lows[q.2 / 8]], ht, hq, List.getElem?_eq_getElem hl, List.getElem?_eq_getElem hs, ?_, ho, by omega, g0, _, hg0, hc, by omega, by omega, by omega⟩
  exact (I.pgs _ (List.getElem_mem hs)).1
theorem PoolInv.notlow {s : PS} {F : Pg → Option Nat} (I : PoolInv ts s F) {q q' : Pg} {t : Tab} {f k : Nat} (d : dom ts q) (hq : F q = some f) (ht : ts[q'.1]? = some t) (hk : (t.f0 :: t.lows)[k]? = some f) : False := by
  obtain ⟨r, h1, h2⟩ := I.pg q f d hq
  have := (I.tab _ t ht).own k f hk
  rw [h1] at this
  obtain rfl := Option.some.inj this
  exact hp_thd (List.mem_singleton.mp h2)
theorem PoolInv.lowuniq {s : PS} {F : Pg → Option Nat} (I : PoolInv ts s F) {l l' k k' : Nat} {t t' : Tab} {f : Nat} (ht : ts[l]? = some t) (hk : (t.f0 :: t.lows)[k]? = some f) (ht' : ts[l']? = some t') (hk' : (t'.f0 :: t'.lows)[k']? = some f) : l = l' ∧ k = k' := by
  have h1 := (I.tab _ t ht).own k f hk
  have h2 := (I.tab _ t' ht').own k' f hk'
  rw [h1] at h2
  have := Option.some.inj h2
  exact thd_inj (List.cons.inj this).1
theorem Inv.tell (I : Inv ts z D) {q : Pg} {t : Tab} {lo : Nat} {g : List Int} {c : Int} (d : dom ts q) (ht : ts[q.1]? = some t) (hl : t.lows[q.2 / 8]? = some lo) (hg : z.s.sh[lo]? = some g)
    (hc : CodeOk (z.F q) (z.S q) c) (h0 : 0 ≤ c) (h1 : c ≤ 65535) (hn : z.F q = none ∨ z.S q = none) (hb : z.F q = none → z.S q = none → z.v q = blank) :
    Inv ts { z with s := { z.s with sh := z.s.sh.set lo (g.set (q.2 % 8) c) } } fun q' => D q' ∧ q' ≠ q := by
  have hk : (t.f0 :: t.lows)[q.2 / 8 + 1]? = some lo := by rw [List.getElem?_cons_succ]; exact hl
  have hlt := lt_get hg
  have hg8 := (I.P.pgs g (mem_get hg)).1
  have ex : ∀ q', dom ts q' → ¬ (D q' ∧ q' ≠ q) → q' = q ∨ ¬ D q' := fun q' _ n => by
    by_cases e : q' = q
    · exact .inl e
    · exact .inr fun x => n ⟨x, e⟩
  refine ⟨?_, I.Z, fun q' f d' hq' => ?_, I.vs, fun q' d' n => ?_, fun q' d' n => ?_, fun q' d' n => ?_⟩
  · refine I.P.sheet ((I.P.tab _ t ht).own _ lo hk) nofun (pg_set (I.P.pgs g (mem_get hg)) h0 h1) fun l t' ht' e => ?_
    have := I.P.lowuniq ht hk ht' (show (t'.f0 :: t'.lows)[0]? = some lo by rw [← e]; rfl)
    omega
  · rw [List.getElem?_set_ne (fun e => by subst e; exact I.P.notlow d' hq' ht hk)]
    exact I.vf q' f d' hq'
  · rcases ex q' d' n with rfl | h
    · exact hn
    · exact I.nb q' d' h
  · rcases ex q' d' n with rfl | h
    · exact hb
    · exact I.vb q' d' h
  · by_cases e : q' = q
    · subst e
      exact ⟨t, lo, _, c, ht, hl, List.getElem?_set_self hlt, List.getElem?_set_self (by rw [hg8]; omega), hc⟩
    · obtain ⟨t', lo', g', c', h1, h2, h3, h4, h5⟩ := I.en q' d' (fun x => n ⟨x, e⟩)
      by_cases e2 : lo = lo'
      · subst e2
        obtain ⟨e3, e4⟩ := I.P.lowuniq ht hk h1 (show (t'.f0 :: t'.lows)[q'.2 / 8 + 1]? = _ by rw [List.getElem?_cons_succ]; exact h2)
        rw [hg] at h3
        obtain rfl := Option.some.inj h3
        refine ⟨t', lo, _, c', h1, h2, List.getElem?_set_self hlt, ?_, h5⟩
        rw [List.getElem?_set_ne (fun e5 => e (Prod.ext e3.symm (by omega)))]
        exact h4
      · exact ⟨t', lo', g', c', h1, h2, by rw [← h3]; exact List.getElem?_set_ne e2, h4, h5⟩
end
end Lw
set_option maxHeartbeats 2000000
/-! the mirror: what is done to the whole state -/
namespace Lw
open PySem L2
section
variable {ts : Tbs} {z : St} {D : Pg → Prop}
theorem en_ext {z z' : St} {D D' : Pg → Prop} (I : Inv ts z D) (hD : ∀ q, dom ts q → ¬ D' q → ¬ D q) (hF : ∀ q, dom ts q → ¬ D' q → z'.F q = z.F q) (hS : ∀ q, dom ts q → ¬ D' q → z'.S q = z.S q)
    (hs : ∀ (l : Nat) (t : Tab) (k f : Nat), ts[l]? = some t → (t.f0 :: t.lows)[k]? = some f → z'.s.sh[f]? = z.s.sh[f]?) :
    ∀ q, dom ts q → ¬ D' q → ∃ t lo g c, ts[q.1]? = some t ∧ t.lows[q.2 / 8]? = some lo ∧ z'.s.sh[lo]? = some g ∧ g[q.2 % 8]? = some c ∧ CodeOk (z'.F q) (z'.S q) c := fun q d n => by
  obtain ⟨t, lo, g, c, h1, h2, h3, h4, h5⟩ := I.en q d (hD q d n)
  refine ⟨t, lo, g, c, h1, h2, ?_, h4, ?_⟩
  · rw [hs _ t (q.2 / 8 + 1) lo h1 (by rw [List.getElem?_cons_succ]; exact h2)]
    exact h3
  · rw [hF q d n, hS q d n]; exact h5
/-- a cell of a page that stands alone in its frame -/
theorem Inv.poke (I : Inv ts z D) {q : Pg} {f pl : Nat} {c : Int} (d : dom ts q) (hq : z.F q = some f) (ha : z.s.ha[f]? = some [hp q]) (hD : ¬ D q) (h0 : 0 ≤ c) (h1 : c ≤ 65535) :
    Inv ts { z with s := { z.s with sh := z.s.sh.set f ((z.v q).set pl c) }, v := fun q' => if q' = q then (z.v q).set pl c else z.v q' } D := by
  have hg := I.vf q f d hq
  have hS : z.S q = none := by
    rcases I.nb q d hD with h | h
    · rw [hq] at h; cases h
    · exact h
  have nt : ∀ (l : Nat) (t : Tab) (k f' : Nat), ts[l]? = some t → (t.f0 :: t.lows)[k]? = some f' → f ≠ f' := fun l t k f' ht hk e => by
    subst e
    exact I.P.notlow (q' := (l, 0)) d hq ht hk
  refine ⟨I.P.sheet ha nofun (pg_set (I.P.pgs _ (mem_get hg)) h0 h1) fun l t ht e => nt l t 0 _ ht rfl e.symm, I.Z, fun q' f' d' hq' => ?_, fun q' i d' hq' => ?_, I.nb, fun q' d' n e1 e2 => ?_, ?_⟩
  · show (z.s.sh.set f _)[f']? = some (if q' = q then _ else z.v q')
    by_cases e : q' = q
    · subst e
      have hq' : z.F q' = some f' := hq'
      rw [hq] at hq'
      obtain rfl := Option.some.inj hq'
      rw [if_pos rfl]
      exact List.getElem?_set_self (lt_get hg)
    · rw [if_neg e, List.getElem?_set_ne]
      · exact I.vf q' f' d' hq'
      · intro e2
        subst e2
        obtain ⟨r, h2, h3⟩ := I.P.pg q' f d' hq'
        rw [ha] at h2
        obtain rfl := Option.some.inj h2
        exact e (hp_inj (List.mem_singleton.mp h3))
  · show nl z.u.sl i = some (if q' = q then _ else z.v q')
    rw [if_neg fun e => by subst e; have hq' : z.S q' = some i := hq'; rw [hS] at hq'; cases hq']
    exact I.vs q' i d' hq'
  · show (if q' = q then _ else z.v q') = blank
    rw [if_neg fun e => by subst e; have e1 : z.F q' = none := e1; rw [hq] at e1; cases e1]
    exact I.vb q' d' n e1 e2
  · exact en_ext I (fun _ _ n => n) (fun _ _ _ => rfl) (fun _ _ _ => rfl) fun l t k f' ht hk => List.getElem?_set_ne (nt l t k f' ht hk)
/-- a page leaves its frame -/
theorem Inv.leaveF (I : Inv ts z D) {q : Pg} {f : Nat} {r : List Hd} (d : dom ts q) (hq : z.F q = some f) (hf : z.s.ha[f]? = some r) :
    Inv ts { z with s := ⟨if (drp r (hp q)).isEmpty = true then z.s.sh.set f blank else z.s.sh, z.s.ha.set f (drp r (hp q)), z.s.sp.filter fun x => decide (x.1 ≠ hp q)⟩, F := fun q' => if q' = q then none else z.F q' } fun q' => D q' ∨ q' = q := by
  have nt : ∀ (l : Nat) (t : Tab) (k f' : Nat), ts[l]? = some t → (t.f0 :: t.lows)[k]? = some f' → f ≠ f' := fun l t k f' ht hk e => by
    subst e
    exact I.P.notlow (q' := (l, 0)) d hq ht hk
  have nq : ∀ {q'}, ¬ (D q' ∨ q' = q) → (if q' = q then none else z.F q') = z.F q' := fun n => if_neg fun e => n (.inr e)
  refine ⟨I.P.leave d hq hf, I.Z, fun q' f' d' hq' => ?_, I.vs, fun q' d' n => ?_, fun q' d' n e1 e2 => ?_, ?_⟩
  · have hq' : (if q' = q then none else z.F q') = some f' := hq'
    by_cases e : q' = q
    · rw [if_pos e] at hq'; cases hq'
    · rw [if_neg e] at hq'
      have h := I.vf q' f' d' hq'
      show (if (drp r (hp q)).isEmpty = true then z.s.sh.set f blank else z.s.sh)[f']? = some (z.v q')
      split
      · rename_i he
        rw [List.getElem?_set_ne]
        · exact h
        · intro e2
          subst e2
          obtain ⟨r', h2, h3⟩ := I.P.pg q' f d' hq'
          rw [hf] at h2
          obtain rfl := Option.some.inj h2
          have : hp q' ∈ drp r (hp q) := List.mem_filter.mpr ⟨h3, decide_eq_true fun x => e (hp_inj x)⟩
          rw [List.isEmpty_iff.mp he] at this
          cases this
      · exact h
  · show (if q' = q then none else z.F q') = none ∨ _
    rw [nq n]
    exact I.nb q' d' fun x => n (.inl x)
  · have e1 : (if q' = q then none else z.F q') = none := e1
    rw [nq n] at e1
    exact I.vb q' d' (fun x => n (.inl x)) e1 e2
  · refine en_ext I (fun _ _ n x => n (.inl x)) (fun _ _ n => nq n) (fun _ _ _ => rfl) fun l t k f' ht hk => ?_
    show (if (drp r (hp q)).isEmpty = true then z.s.sh.set f blank else z.s.sh)[f']? = _
    split
    · exact List.getElem?_set_ne (nt l t k f' ht hk)
    · rfl
/-- a page gets a frame, fresh or shared -/
theorem Inv.holdF (I : Inv ts z D) {q : Pg} {f : Nat} {r L' : List Hd} (d : dom ts q) (hq : z.F q = none) (hf : z.s.ha[f]? = some r) (hD : D q)
    (pr : ∀ h ∈ r, ∃ q', h = hp q' ∧ z.v q' = z.v q) (hL : L'.Perm (r ++ [hp q])) (hP : L'.Pairwise fun a b => hLe a b = true) (hg : PgOk (z.v q)) :
    Inv ts { z with s := ⟨z.s.sh.set f (z.v q), z.s.ha.set f L', z.s.sp ++ [(hp q, f)]⟩, F := fun q' => if q' = q then some f else z.F q' } D := by
  have nq : ∀ {q'}, ¬ D q' → (if q' = q then some f else z.F q') = z.F q' := fun n => if_neg fun e => n (by rw [e]; exact hD)
  have hfl : f < z.s.sh.length := by rw [I.P.ln]; exact lt_get hf
  refine ⟨I.P.hold d hq hf (fun h hh => (pr h hh).imp fun _ x => x.1) hL hP hg, I.Z, fun q' f' d' hq' => ?_, I.vs, fun q' d' n => ?_, fun q' d' n e1 e2 => ?_, ?_⟩
  · have hq' : (if q' = q then some f else z.F q') = some f' := hq'
    show (z.s.sh.set f (z.v q))[f']? = some (z.v q')
    by_cases e : q' = q
    · rw [if_pos e] at hq'
      obtain rfl := Option.some.inj hq'
      rw [e]
      exact List.getElem?_set_self hfl
    · rw [if_neg e] at hq'
      by_cases e2 : f = f'
      · subst e2
        obtain ⟨r', h2, h3⟩ := I.P.pg q' f d' hq'
        rw [hf] at h2
        obtain rfl := Option.some.inj h2
        obtain ⟨q2, h4, h5⟩ := pr _ h3
        rw [hp_inj h4, h5]
        exact List.getElem?_set_self hfl
      · rw [List.getElem?_set_ne e2]
        exact I.vf q' f' d' hq'
  · show (if q' = q then some f else z.F q') = none ∨ _
    rw [nq n]
    exact I.nb q' d' n
  · have e1 : (if q' = q then some f else z.F q') = none := e1
    rw [nq n] at e1
    exact I.vb q' d' n e1 e2
  · refine en_ext I (fun _ _ n => n) (fun _ _ n => nq n) (fun _ _ _ => rfl) fun l t k f' ht hk => List.getElem?_set_ne fun e => ?_
    subst e
    have := (I.P.tab l t ht).own k f hk
    rw [hf] at this
    obtain rfl := Option.some.inj this
    obtain ⟨q', e, _⟩ := pr _ List.mem_cons_self
    exact hp_thd e.symm
/-- a page nowhere may be told anything -/
theorem Inv.setv (I : Inv ts z D) {q : Pg} {x : List Int} (hq : z.F q = none) (hS : z.S q = none) (hD : D q) : Inv ts { z with v := fun q' => if q' = q then x else z.v q' } D := by
  have nq : ∀ {q'}, q' ≠ q → (if q' = q then x else z.v q') = z.v q' := fun n => if_neg n
  refine ⟨I.P, I.Z, fun q' f' d' hq' => ?_, fun q' i d' hq' => ?_, I.nb, fun q' d' n e1 e2 => ?_, I.en⟩
  · show _ = some (if q' = q then x else z.v q')
    rw [nq fun e => by subst e; have hq' : z.F q' = some f' := hq'; rw [hq] at hq'; cases hq']
    exact I.vf q' f' d' hq'
  · show _ = some (if q' = q then x else z.v q')
    rw [nq fun e => by subst e; have hq' : z.S q' = some i := hq'; rw [hS] at hq'; cases hq']
    exact I.vs q' i d' hq'
  · show (if q' = q then x else z.v q') = _
    rw [nq fun e => n (by rw [e]; exact hD)]
    exact I.vb q' d' n e1 e2
/-- pages of a frame get a slot -/
theorem Inv.putS (I : Inv ts z D) {f i : Nat} {r : List Hd} {g : List Int} (hf : z.s.ha[f]? = some r) (hr : ∃ q, hp q ∈ r) (hD : ∀ q, hp q ∈ r → ¬ D q) (hg : z.s.sh[f]? = some g) (hn : nl z.u.hs i = none) :
    Inv ts { z with u := ⟨setN z.u.sl i g, setN z.u.hs i r, z.u.sp ++ r.map fun h => (h, i)⟩, S := fun q => if hp q ∈ r then some i else z.S q } fun q => D q ∨ hp q ∈ r := by
  obtain ⟨q0, h0⟩ := hr
  have pg : ∀ h ∈ r, ∃ q, dom ts q ∧ h = hp q ∧ z.F q = some f := fun h hh => I.P.pages hf h0 hh
  have nq : ∀ {q}, ¬ (D q ∨ hp q ∈ r) → (if hp q ∈ r then some i else z.S q) = z.S q := fun n => if_neg fun e => n (.inr e)
  have sno : ∀ q, dom ts q → hp q ∈ r → z.S q = none := fun q d h => by
    rcases I.nb q d (hD q h) with x | x
    · rw [I.P.at hf h] at x; cases x
    · exact x
  have noi : ∀ q, dom ts q → z.S q = some i → False := fun q d h => by
    obtain ⟨r', h1, _⟩ := I.Z.pg q i d h
    rw [hn] at h1; cases h1
  refine ⟨I.P, I.Z.put hn (fun e => by rw [e] at h0; cases h0) (I.P.srt r (mem_get hf)) (fun h hh => ?_) (I.P.pgs g (mem_get hg)), I.vf, fun q j d hq => ?_, fun q d n => ?_, fun q d n e1 e2 => ?_, ?_⟩
  · obtain ⟨q, d, rfl, _⟩ := pg h hh
    exact ⟨q, d, rfl, sno q d hh⟩
  · have hq : (if hp q ∈ r then some i else z.S q) = some j := hq
    show nl (setN z.u.sl i g) j = some (z.v q)
    rw [nl_set]
    by_cases e : hp q ∈ r
    · rw [if_pos e] at hq
      rw [if_pos (Option.some.inj hq).symm]
      have := I.vf q f d (I.P.at hf e)
      rw [← this, hg]
    · rw [if_neg e] at hq
      rw [if_neg fun x => noi q d (by rw [← x]; exact hq)]
      exact I.vs q j d hq
  · show _ ∨ (if hp q ∈ r then some i else z.S q) = none
    rw [nq n]
    exact I.nb q d fun x => n (.inl x)
  · have e2 : (if hp q ∈ r then some i else z.S q) = none := e2
    rw [nq n] at e2
    exact I.vb q d (fun x => n (.inl x)) e1 e2
  · exact en_ext I (fun _ _ n x => n (.inl x)) (fun _ _ _ => rfl) (fun _ _ n => nq n) fun _ _ _ _ _ _ => rfl
/-- a page leaves its slot -/
theorem Inv.leaveS (I : Inv ts z D) {q : Pg} {i : Nat} {r : List Hd} (d : dom ts q) (hq : z.S q = some i) (hi : nl z.u.hs i = some r) :
    Inv ts { z with u := lvS z.u i r (hp q), S := fun q' => if q' = q then none else z.S q' } fun q' => D q' ∨ q' = q := by
  have nq : ∀ {q'}, ¬ (D q' ∨ q' = q) → (if q' = q then none else z.S q') = z.S q' := fun n => if_neg fun e => n (.inr e)
  refine ⟨I.P, I.Z.leave d hq hi, I.vf, fun q' j d' hq' => ?_, fun q' d' n => ?_, fun q' d' n e1 e2 => ?_, ?_⟩
  · have hq' : (if q' = q then none else z.S q') = some j := hq'
    by_cases e : q' = q
    · rw [if_pos e] at hq'; cases hq'
    · rw [if_neg e] at hq'
      show nl (lvS z.u i r (hp q)).sl j = some (z.v q')
      rw [lvS_sl, if_neg]
      · exact I.vs q' j d' hq'
      · rintro ⟨ej, he⟩
        obtain ⟨r', h2, h3⟩ := I.Z.pg q' j d' hq'
        rw [ej, hi] at h2
        obtain rfl := Option.some.inj h2
        have : hp q' ∈ drp r (hp q) := List.mem_filter.mpr ⟨h3, decide_eq_true fun x => e (hp_inj x)⟩
        rw [List.isEmpty_iff.mp he] at this
        cases this
  · show _ ∨ (if q' = q then none else z.S q') = none
    rw [nq n]
    exact I.nb q' d' fun x => n (.inl x)
  · have e2 : (if q' = q then none else z.S q') = none := e2
    rw [nq n] at e2
    exact I.vb q' d' (fun x => n (.inl x)) e1 e2
  · exact en_ext I (fun _ _ n x => n (.inl x)) (fun _ _ _ => rfl) (fun _ _ n => nq n) fun _ _ _ _ _ _ => rfl
/-- a page shares a slot -/
theorem Inv.holdS (I : Inv ts z D) {q : Pg} {i : Nat} {r L' : List Hd} (d : dom ts q) (hq : z.S q = none) (hi : nl z.u.hs i = some r) (hD : D q) (hv : nl z.u.sl i = some (z.v q)) (hL : L'.Perm (r ++ [hp q])) (hP : L'.Pairwise fun a b => hLe a b = true) :
    Inv ts { z with u := { z.u with hs := setN z.u.hs i L', sp := z.u.sp ++ [(hp q, i)] }, S := fun q' => if q' = q then some i else z.S q' } D := by
  have nq : ∀ {q'}, ¬ D q' → (if q' = q then some i else z.S q') = z.S q' := fun n => if_neg fun e => n (by rw [e]; exact hD)
  refine ⟨I.P, I.Z.share d hq hi hL hP, I.vf, fun q' j d' hq' => ?_, fun q' d' n => ?_, fun q' d' n e1 e2 => ?_, ?_⟩
  · have hq' : (if q' = q then some i else z.S q') = some j := hq'
    by_cases e : q' = q
    · rw [if_pos e] at hq'
      rw [e, ← Option.some.inj hq']
      exact hv
    · rw [if_neg e] at hq'
      exact I.vs q' j d' hq'
  · show _ ∨ (if q' = q then some i else z.S q') = none
    rw [nq n]
    exact I.nb q' d' n
  · have e2 : (if q' = q then some i else z.S q') = none := e2
    rw [nq n] at e2
    exact I.vb q' d' n e1 e2
  · exact en_ext I (fun _ _ n => n) (fun _ _ _ => rfl) (fun _ _ n => nq n) fun _ _ _ _ _ _ => rfl
end
end Lw
set_option maxHeartbeats 2000000
/-! the law's house on the heap -/
namespace Lw
open PySem L2
structure Hs where
  pa : PA
  sa : PA
  hh : Addr
  tl : Addr
  tb : List (Addr × Addr)
structure HouseAt (C E D : Addr) (h : Hs) (ts : Tbs) (z : St) (G : Gp) : Prop where
  pool : PoolAt C h.pa z.s G
  slot : SlotsAt E h.sa z.u G
  hs : G h.hh = some (.lst [.obj h.pa.p, .obj h.sa.p, .obj h.tl])
  tl : G h.tl = some (.lst (h.tb.map fun x => Da.obj x.1))
  ln : h.tb.length = ts.length
  tab : ∀ (l : Nat) (t : Tab), ts[l]? = some t → ∃ x o, h.tb[l]? = some (x, o) ∧ TabAt D h.pa x o l t.n t.f0 G
  ha : h.hh ≠ h.pa.a
  hb : h.hh ≠ h.pa.b
  ta : h.tl ≠ h.pa.a
  tb : h.tl ≠ h.pa.b
  cc : h.pa.c ≠ h.sa.c
/-- all but the six that change stays -/
def HK (h : Hs) (G G' : Gp) : Prop := ∀ x o, x ≠ h.pa.a → x ≠ h.pa.b → x ≠ h.pa.c → x ≠ h.sa.a → x ≠ h.sa.b → x ≠ h.sa.c → G x = some o → G' x = some o
theorem HK.refl (h : Hs) (G : Gp) : HK h G G := fun _ _ _ _ _ _ _ _ e => e
theorem HK.trans {h : Hs} {G G1 G2 : Gp} (a : HK h G G1) (b : HK h G1 G2) : HK h G G2 := fun x o h1 h2 h3 h4 h5 h6 e => b x o h1 h2 h3 h4 h5 h6 (a x o h1 h2 h3 h4 h5 h6 e)
section
variable {C E D : Addr} {h : Hs} {ts : Tbs} {z : St} {G G' : Gp}
theorem HouseAt.upPool (H : HouseAt C E D h ts z G) {s' : PS} (p : PoolAt C h.pa s' G') (k : PK h.pa G G') : HouseAt C E D h ts { z with s := s' } G' ∧ HK h G G' := by
  have S := H.slot
  have P := H.pool
  have g := fun x o a b c e => k x o a b c e
  refine ⟨⟨p, ⟨g _ _ (ne_kind S.p P.a nofun) (ne_kind S.p P.b nofun) (ne_kind S.p P.c nofun) S.p, g _ _ (ne_kind S.a P.a nofun) (ne_kind S.a P.b nofun) (ne_kind S.a P.c nofun) S.a,
      g _ _ (ne_kind S.b P.a nofun) (ne_kind S.b P.b nofun) (ne_kind S.b P.c nofun) S.b, g _ _ (ne_kind S.c P.a nofun) (ne_kind S.c P.b nofun) H.cc.symm S.c, S.ab⟩,
      g _ _ H.ha H.hb (ne_kind H.hs P.c nofun) H.hs, g _ _ H.ta H.tb (ne_kind H.tl P.c nofun) H.tl, H.ln, fun l t ht => ?_, H.ha, H.hb, H.ta, H.tb, H.cc⟩, fun x o a b c _ _ _ e => k x o a b c e⟩
  obtain ⟨x, o, h1, h2⟩ := H.tab l t ht
  exact ⟨x, o, h1, h2.keep P k⟩
theorem HouseAt.upSlot (H : HouseAt C E D h ts z G) {u' : SS} (p : SlotsAt E h.sa u' G') (k : PK h.sa G G') : HouseAt C E D h ts { z with u := u' } G' ∧ HK h G G' := by
  have S := H.slot
  have P := H.pool
  have g := fun x o a b c e => k x o a b c e
  refine ⟨⟨⟨g _ _ (ne_kind P.p S.a nofun) (ne_kind P.p S.b nofun) (ne_kind P.p S.c nofun) P.p, g _ _ (ne_kind P.a S.a nofun) (ne_kind P.a S.b nofun) (ne_kind P.a S.c nofun) P.a,
      g _ _ (ne_kind P.b S.a nofun) (ne_kind P.b S.b nofun) (ne_kind P.b S.c nofun) P.b, g _ _ (ne_kind P.c S.a nofun) (ne_kind P.c S.b nofun) H.cc P.c, P.ab⟩, p,
      g _ _ (ne_kind H.hs S.a nofun) (ne_kind H.hs S.b nofun) (ne_kind H.hs S.c nofun) H.hs, g _ _ (ne_kind H.tl S.a nofun) (ne_kind H.tl S.b nofun) (ne_kind H.tl S.c nofun) H.tl, H.ln, fun l t ht => ?_, H.ha, H.hb, H.ta, H.tb, H.cc⟩, fun x o _ _ _ a b c e => k x o a b c e⟩
  obtain ⟨x, o, h1, h2⟩ := H.tab l t ht
  exact ⟨x, o, h1, ⟨h2.oa, h2.ob, g _ _ (ne_kind h2.t S.a nofun) (ne_kind h2.t S.b nofun) (ne_kind h2.t S.c nofun) h2.t, g _ _ (ne_kind h2.o S.a nofun) (ne_kind h2.o S.b nofun) (ne_kind h2.o S.c nofun) h2.o⟩⟩
theorem HouseAt.table (H : HouseAt C E D h ts z G) {l : Nat} {t : Tab} (ht : ts[l]? = some t) : ∃ x o, atI (h.tb.map fun x => Da.obj x.1) (l : Nat) = some (.obj x) ∧ TabAt D h.pa x o l t.n t.f0 G := by
  obtain ⟨x, o, h1, h2⟩ := H.tab l t ht
  exact ⟨x, o, at_nat (map_get (fun x : Addr × Addr => Da.obj x.1) h1), h2⟩
end
end Lw
set_option maxHeartbeats 4000000
/-! told, out -/
namespace Lw
open PySem PySem.Spec PyProof.Rows L2
abbrev dTold : Stmt := top 54
abbrev dOut : Stmt := top 55
section
variable {P : Program} {w : World} {K : PySem.W.Frag} {mg : Str → Option Value} {base : Heap} {k : Nat} {C D E' : Addr}
/-- where the page is, as told -/
def Spot (z : St) (q : Pg) (n : Nat) (here : Bool) : Prop := (here = true ∧ z.F q = some n ∧ z.S q = none) ∨ (here = false ∧ z.F q = none ∧ ∃ i, z.S q = some i ∧ n = i + 1)
def STold (C D E' : Addr) : Sp3 := fun ds G Q => ∃ h ts z X hs n here, ds = [.obj h.hh, roD hs, .int (n : Nat), .bl here] ∧ HouseAt C E' D h ts z G ∧ Inv ts z X ∧ n ≤ 4095 ∧ (∀ x ∈ hs, ∃ q, dom ts q ∧ x = hp q ∧ Spot z q n here) ∧
  ∀ sh G', HouseAt C E' D h ts { z with s := { z.s with sh := sh } } G' → Inv ts { z with s := { z.s with sh := sh } } (fun q => X q ∧ hp q ∉ hs) → HK h G G' → Q .non G'
theorem scTold : FnScope ["house", "holders", "number", "here", "pool", "slots", "tables", "word", "lodge", "part"] ["house", "holders", "number", "here"] (defScope dTold) := ⟨rfl, rfl, rfl, by decide +kernel, rfl, by decide +kernel, by decide +kernel⟩
theorem okTold {f : Addr} {fd : FuncData} (F : Fun K "_law_told" "_law_told" dTold f fd) (T : Txt K w mg) (TD : TTx K mg D) (D1 : MethOk P w K mg base 6 D "put" [] (STPut C D)) : FnOk P w K mg base CX0 7 f fd ["house", "holders", "number", "here"] (spl K (STold C D E')) := by
  refine Fun3 F scTold (fun ds G Q ⟨_, _, _, _, _, _, _, e, _⟩ => by rw [e]; rfl) fun cdv A outer s H E hr => ⟨_, s_cons (s_asg (v 0) (g_lst rfl (gs_cons (g_name (i := 4) scTold.nd) (gs_cons (g_name (i := 5) scTold.nd) (gs_cons (g_name (i := 6) scTold.nd) gs_nil)))))
    (s_one (s_for rfl (i_tup (v 1)) (g_tup rfl (gs_cons (g_name (i := 7) scTold.nd) (gs_cons (g_name (i := 8) scTold.nd) (gs_cons (g_name (i := 9) scTold.nd) gs_nil))))
      (s_one (s_expr (e_meth D1 TD.cl hr (e_ixL (v 6) (v 8)) (a_cons (v 9) (a_cons (e_add (e_add (e_mul (v 2) e_int) (e_intB T.int (v 3))) (e_mul e_int (e_intB T.int (e_eq hr.units (e_len T.len (v 1)) e_int)))) a_nil))))))), ?_⟩
  rintro ds G Q ⟨h, ts, z, X, hs, n, here, rfl, ho, I, hn, pr, q⟩
  refine ⟨_, rfl, h.hh, _, rfl, ho.hs, rfl, ?_⟩
  refine ⟨_, _, rfl, _, _, rfl, _, _, rfl, rfl, ?_⟩
  refine ⟨_, rfl, _, rfl, ?_⟩
  refine ⟨fun i τ' G' => ∃ sh, HouseAt C E' D h ts { z with s := { z.s with sh := sh } } G' ∧ Inv ts { z with s := { z.s with sh := sh } } (fun q => X q ∧ hp q ∉ hs.take i) ∧ HK h G G' ∧ ∃ d1 d2 d3, τ' = [some (.obj h.hh), some (roD hs), some (.int (n : Nat)), some (.bl here), some (.obj h.pa.p), some (.obj h.sa.p), some (.obj h.tl), d1, d2, d3],
    ⟨z.s.sh, ho, I.sub fun q x => ⟨x, nofun⟩, HK.refl _ _, _, _, _, rfl⟩, fun i τ' G' hi _ => trivial, ?_, ?_⟩
  · rintro i d τ' G' hd ⟨sh, h1, I1, k1, d1, d2, d3, rfl⟩
    rw [List.getElem?_map] at hd
    obtain ⟨x, hx, rfl⟩ := Option.map_eq_some_iff.mp hd
    obtain ⟨p, dp, rfl, sp⟩ := pr x (mem_get hx)
    obtain ⟨t, lo, g, ht, hp2, hlo, hg, hg8, hown, hlo13, hlow⟩ := I1.P.low dp
    obtain ⟨x, o, hat, ta⟩ := h1.table ht
    refine ⟨_, rfl, rfl, _, _, rfl, _, _, rfl, _, _, rfl, rfl, ?_⟩
    refine ⟨_, rfl, _, rfl, h.tl, _, (p.1 : Nat), _, rfl, rfl, h1.tl, hat, x, _, rfl, ta.t, rfl, ?_⟩
    refine ⟨_, rfl, _, rfl, _, _, rfl, rfl, .inr ⟨by decide, by decide⟩, _, rfl, _, rfl, _, _, rfl, rfl, _, rfl, _, rfl, .inl ⟨_, rfl, rfl, rfl, _, rfl, _, _, rfl, rfl, .inl ⟨by decide, by decide⟩, _, _, rfl, rfl, ?_⟩⟩
    obtain ⟨c, hc, c0, c1, hco⟩ : ∃ c : Int, (n : Int) * 16 + (if here then 1 else 0) + 2 * (if eqB (.int (((hs.map hD).length : Nat) : Int)) (.int 1) then 1 else 0) = c ∧ 0 ≤ c ∧ c ≤ 65535 ∧ CodeOk (z.F p) (z.S p) c := by
      refine ⟨_, rfl, ?_⟩
      generalize eqB (.int (((hs.map hD).length : Nat) : Int)) (.int 1) = b
      rcases sp with ⟨rfl, e1, e2⟩ | ⟨rfl, e1, i, e2, rfl⟩
      · rw [e1, e2, if_pos rfl]
        cases b
        · rw [if_neg Bool.false_ne_true]
          exact ⟨by omega, by omega, .inl (by omega)⟩
        · rw [if_pos rfl]
          exact ⟨by omega, by omega, .inr (by omega)⟩
      · rw [e1, e2, if_neg Bool.false_ne_true]
        cases b
        · rw [if_neg Bool.false_ne_true]
          exact ⟨by omega, by omega, .inl (by omega)⟩
        · rw [if_pos rfl]
          exact ⟨by omega, by omega, .inr (by omega)⟩
    have spn : z.F p = none ∨ z.S p = none := by
      rcases sp with ⟨_, e1, e2⟩ | ⟨_, e1, _⟩
      · exact .inr e2
      · exact .inl e1
    have spb : z.F p = none → z.S p = none → z.v p = blank := fun e3 e4 => by
      rcases sp with ⟨_, e1, e2⟩ | ⟨_, e1, _, e2, _⟩
      · rw [e3] at e1; cases e1
      · rw [e4] at e2; cases e2
    refine ⟨h.pa, _, x, o, p.1, t.n, t.f0, p.2, lo, c, _, g, ?_, ⟨h1.pool, ta⟩, I1.P.wf, hp2, hlow, hown, nofun, hg, c0, c1, fun G2 p2 k2 => ?_⟩
    · rw [← hc]; rfl
    obtain ⟨h3, k3⟩ := h1.upPool p2 k2
    refine ⟨_, h3, (I1.tell dp ht hlo hg hco c0 c1 spn spb).sub fun q' x' => ?_, k1.trans k3, _, _, _, rfl⟩
    refine ⟨x'.1.1, fun hm => ?_⟩
    rw [List.take_succ, hx] at hm
    rcases List.mem_append.mp hm with hm | hm
    · exact x'.1.2 hm
    · exact x'.2 (hp_inj (List.mem_singleton.mp hm))
  · rintro τ' G' ⟨sh, h1, I1, k1, _⟩
    rw [List.length_map, List.take_length] at I1
    exact q sh G' h1 I1 k1
end
end Lw
set_option maxHeartbeats 4000000
/-! out -/
namespace Lw
open PySem PySem.Spec PyProof.Rows L2
theorem hash_nodup (f : List L2.Key → Int) (hf : ∀ l p l' p' : Int, 0 ≤ l → l < 3 → 0 ≤ p → p < 16 → 0 ≤ l' → l' < 3 → 0 ≤ p' → p' < 16 → f (hk ⟨"page", l, p⟩) = f (hk ⟨"page", l', p'⟩) → l = l' ∧ p = p')
    {r : List Hd} (nd : r.Nodup) (pr : ∀ h ∈ r, ∃ q : Pg, q.1 < 3 ∧ q.2 < 16 ∧ h = hp q) : (r.map fun h => f (hk h)).Nodup := by
  refine List.pairwise_map.mpr (nd.imp_of_mem fun {a b} ha hb ne e => ne ?_)
  obtain ⟨q, h1, h2, rfl⟩ := pr a ha
  obtain ⟨q', h3, h4, rfl⟩ := pr b hb
  obtain ⟨e1, e2⟩ := hf _ _ _ _ (by omega) (by omega) (by omega) (by omega) (by omega) (by omega) (by omega) (by omega) e
  rw [show q = q' from Prod.ext (by omega) (by omega)]
theorem tabB_pages {r : List Hd} (pr : ∀ h ∈ r, ∃ q : Pg, h = hp q) : tabB r = false := by
  unfold tabB
  rw [List.any_eq_false]
  intro h hh
  obtain ⟨q, rfl⟩ := pr h hh
  exact fun e => pt_ne (of_decide_eq_true e)
theorem least_le {α : Type} {l : List (Nat × α)} {i : Nat} (h : ∀ j, j < i → nl l j ≠ none) : i ≤ l.length := by
  have := nodup_le (List.range i) (l.map (·.1)) List.nodup_range fun j hj => by
    obtain ⟨x, e⟩ := Option.ne_none_iff_exists'.mp (h j (List.mem_range.mp hj))
    exact List.mem_map.mpr ⟨_, mem_nl e, rfl⟩
  rw [List.length_range, List.length_map] at this
  exact this
theorem drp_drop {r : List Hd} {i : Nat} {h : Hd} (nd : r.Nodup) (hi : r[i]? = some h) : drp (r.drop i) h = r.drop (i + 1) := by
  have e : r.drop i = h :: r.drop (i + 1) := by
    rw [List.drop_eq_getElem_cons (lt_get hi)]
    rw [List.getElem?_eq_getElem (lt_get hi)] at hi
    rw [Option.some.inj hi]
  have nd2 : (r.drop i).Nodup := (List.drop_sublist i r).nodup nd
  rw [e] at nd2 ⊢
  obtain ⟨h1, h2⟩ := List.nodup_cons.mp nd2
  unfold drp
  rw [List.filter_cons_of_neg (by simp)]
  exact List.filter_eq_self.mpr fun x hx => decide_eq_true fun z => h1 (by rw [← z]; exact hx)
section
variable {P : Program} {w : World} {K : PySem.W.Frag} {mg : Str → Option Value} {base : Heap} {k : Nat} {C D E' : Addr}
theorem HouseAt.re {h : Hs} {ts : Tbs} {z z' : St} {G : Gp} (H : HouseAt C E' D h ts z G) (e1 : z'.s = z.s := by rfl) (e2 : z'.u = z.u := by rfl) : HouseAt C E' D h ts z' G :=
  ⟨by rw [e1]; exact H.pool, by rw [e2]; exact H.slot, H.hs, H.tl, H.ln, H.tab, H.ha, H.hb, H.ta, H.tb, H.cc⟩
def Cl : Pg → Prop := fun _ => False
structure OutOk (z z' : St) (f : Nat) (r : List Hd) : Prop where
  v : z'.v = z.v
  em : z'.s.ha[f]? = some []
  ln : z'.s.ha.length = z.s.ha.length
  F : ∀ q, z'.F q = if hp q ∈ r then none else z.F q
  S : ∃ i, ∀ q, z'.S q = if hp q ∈ r then some i else z.S q
def SOut (C D E' : Addr) : Sp3 := fun ds G Q => ∃ h ts z f r, ds = [.obj h.hh, .int (f : Nat)] ∧ HouseAt C E' D h ts z G ∧ Inv ts z Cl ∧ z.s.ha[f]? = some r ∧ (∃ q, hp q ∈ r) ∧
  ∀ z' G', HouseAt C E' D h ts z' G' → Inv ts z' Cl → HK h G G' → OutOk z z' f r → Q .non G'
theorem scOut : FnScope ["house", "frame", "pool", "slots", "tables", "holders", "slot", "holder"] ["house", "frame"] (defScope dOut) := ⟨rfl, rfl, rfl, by decide +kernel, rfl, by decide +kernel, by decide +kernel⟩
theorem okOut {f : Addr} {fd : FuncData} (F : Fun K "_law_out" "_law_out" dOut f fd) (T : Txt K w mg) (TC : PTx K mg C) (TE : PTx K mg E') (D1 : MethOk P w K mg base 3 C "holders" [] (SHoldersOf C)) (D2 : MethOk P w K mg base 3 C "page" [] (SPageOf C)) (D3 : MethOk P w K mg base 4 E' "put" [] (SSPut P w E')) (D4 : MethOk P w K mg base 3 C "leave" [] (SLeave C))
    (D5 : DefOk P w K mg base 7 "_law_told" [] (STold C D E')) : FnOk P w K mg base CX0 8 f fd ["house", "frame"] (spl K (SOut C D E')) := by
  refine Fun3 F scOut (fun ds G Q ⟨_, _, _, _, _, e, _⟩ => by rw [e]; rfl) fun cdv A outer s H E hr => ⟨_, s_cons (s_asg (v 0) (g_lst rfl (gs_cons (g_name (i := 2) scOut.nd) (gs_cons (g_name (i := 3) scOut.nd) (gs_cons (g_name (i := 4) scOut.nd) gs_nil)))))
    (s_cons (s_set (i := 5) scOut.nd (e_meth D1 TC.cl hr (v 2) (a_cons (v 1) a_nil)))
    (s_cons (s_set (i := 6) scOut.nd (e_meth D3 TE.cl hr (v 3) (a_cons (e_meth D2 TC.cl hr (v 2) (a_cons (v 1) a_nil)) (a_cons (v 5) a_nil))))
    (s_cons (s_for rfl (i_tup (v 5)) (g_name (i := 7) scOut.nd) (s_one (s_expr (e_meth D4 TC.cl hr (v 2) (a_cons (v 1) (a_cons (v 7) a_nil))))))
    (s_one (s_expr (e_call D5 hr (a_cons (v 0) (a_cons (v 5) (a_cons (e_add (v 6) e_int) (a_cons e_bl a_nil)))))))))), ?_⟩
  rintro ds G Q ⟨h, ts, z, fr, r, rfl, ho, I, hf, hq, q⟩
  have W := I.P.wf
  obtain ⟨rl, rok⟩ := W.ok r (mem_get hf)
  have nd := row_nodup rok
  obtain ⟨q0, hq0⟩ := hq
  have prs : ∀ x ∈ r, ∃ p, dom ts p ∧ x = hp p ∧ z.F p = some fr := fun x hx => I.P.pages hf hq0 hx
  have hg := I.vf q0 fr (by obtain ⟨p, d, e, _⟩ := prs _ hq0; rw [hp_inj e]; exact d) (I.P.at hf hq0)
  have sno : ∀ p, dom ts p → hp p ∈ r → z.S p = none := fun p d hp' => by
    rcases I.nb p d (fun x => x) with x | x
    · rw [I.P.at hf hp'] at x; cases x
    · exact x
  refine ⟨_, rfl, h.hh, _, rfl, ho.hs, rfl, ?_⟩
  refine ⟨_, _, rfl, _, _, rfl, _, _, rfl, rfl, ?_⟩
  refine ⟨_, rfl, h.pa.p, _, rfl, ho.pool.p, rfl, _, rfl, h.pa, _, fr, r, rfl, ho.pool, W.ln, hf, ?_⟩
  refine ⟨_, rfl, h.sa.p, _, rfl, ho.slot.p, rfl, _, rfl, h.pa.p, _, rfl, ho.pool.p, rfl, _, rfl, h.pa, _, fr, _, rfl, ho.pool, hg, _, rfl, ?_⟩
  refine ⟨h.sa, z.u, z.v q0, r, rfl, ho.slot, I.Z.wf, W.pg _ (mem_get hg), rok, fun e => (by rw [e] at hq0; cases hq0), rl, tabB_pages fun x hx => (by obtain ⟨p, _, e, _⟩ := prs x hx; exact ⟨p, e⟩), fun x hx => ?_, .inr ?_, fun i hn hlt G1 p1 k1 => ?_⟩
  · obtain ⟨p, d, rfl, _⟩ := prs x hx
    exact I.Z.nospot (sno p d hx)
  · refine hash_nodup (fun ks => keyHash P w ks) (fun l p l' p' a b c d e f g h => key_apart a b c d e f g h) nd fun x hx => ?_
    obtain ⟨p, d, rfl, _⟩ := prs x hx
    obtain ⟨a, b⟩ := I.P.dom_bd d
    exact ⟨p, a, b, rfl⟩
  have hi57 : i ≤ 57 := Nat.le_trans (least_le hlt) I.Z.len
  obtain ⟨ho1, kk1⟩ := ho.upSlot p1 k1
  have I1 := (I.putS (i := i) hf ⟨q0, hq0⟩ (fun _ _ x => x) hg hn).sub (D' := fun p => hp p ∈ r) fun p x => x.resolve_left fun y => y
  refine ⟨_, rfl, _, rfl, ?_⟩
  refine ⟨fun j τ' G' => ∃ z', HouseAt C E' D h ts z' G' ∧ Inv ts z' (fun p => hp p ∈ r) ∧ HK h G G' ∧ (z'.v = z.v ∧ z'.s.ha.length = z.s.ha.length ∧ (∀ p, z'.S p = if hp p ∈ r then some i else z.S p) ∧ (∀ p, z'.F p = if hp p ∈ r.take j then none else z.F p) ∧ z'.s.ha[fr]? = some (r.drop j)) ∧
      ∃ d, τ' = [some (.obj h.hh), some (.int (fr : Nat)), some (.obj h.pa.p), some (.obj h.sa.p), some (.obj h.tl), some (roD r), some (.int (i : Nat)), d],
    ⟨_, ho1.re, I1, kk1, ⟨rfl, rfl, fun _ => rfl, fun _ => rfl, hf⟩, _, rfl⟩, fun i τ' G' hi _ => trivial, ?_, ?_⟩
  · rintro j d τ' G' hd ⟨z', h1, J, k2, ⟨e1, e2, e3, e4, e5⟩, d1, rfl⟩
    rw [List.getElem?_map] at hd
    obtain ⟨x, hx, rfl⟩ := Option.map_eq_some_iff.mp hd
    obtain ⟨p, dp, rfl, fp⟩ := prs x (mem_get hx)
    have nt : hp p ∉ r.take j := fun m => by
      obtain ⟨a, b⟩ := List.getElem?_of_mem m
      have ha := lt_get b
      rw [List.length_take] at ha
      rw [List.getElem?_take_of_lt (by omega)] at b
      have := (List.getElem?_inj (by omega) nd).mp (b.trans hx.symm)
      omega
    have hF : z'.F p = some fr := by rw [e4, if_neg nt]; exact fp
    have hin : hp p ∈ r.drop j := List.mem_of_getElem? (i := 0) (by rw [List.getElem?_drop]; exact hx)
    refine ⟨_, rfl, h.pa.p, _, rfl, h1.pool.p, rfl, _, rfl, _, rfl, h.pa, _, fr, hp p, _, rfl, h1.pool, J.P.wf, e5, U_ok (J.P.inU e5 hin), (J.P.sp _ _).mpr ⟨_, e5, hin⟩, fun G2 p2 k3 => ?_⟩
    obtain ⟨h3, k4⟩ := h1.upPool p2 k3
    have J2 := (J.leaveF dp hF e5).sub (D' := fun p => hp p ∈ r) fun p' x => x.elim id fun y => by rw [y]; exact mem_get hx
    refine ⟨_, h3.re, J2, k2.trans k4, ⟨e1, by show (z'.s.ha.set _ _).length = _; rw [List.length_set]; exact e2, e3, fun p' => ?_, ?_⟩, _, rfl⟩
    · show (if p' = p then none else z'.F p') = _
      rw [e4, List.take_succ, hx, show (some (hp p)).toList = [hp p] from rfl]
      by_cases e : p' = p
      · rw [if_pos e, if_pos (List.mem_append_right _ (by rw [e]; exact List.mem_singleton.mpr rfl))]
      · rw [if_neg e]
        by_cases m : hp p' ∈ r.take j
        · rw [if_pos m, if_pos (List.mem_append_left _ m)]
        · rw [if_neg m, if_neg fun m2 => (List.mem_append.mp m2).elim m fun y => e (hp_inj (List.mem_singleton.mp y))]
    · show (z'.s.ha.set fr (drp (r.drop j) (hp p)))[fr]? = _
      rw [drp_drop nd hx]
      exact List.getElem?_set_self (lt_get e5)
  · rintro τ' G' ⟨z', h1, J, k2, ⟨e1, e2, e3, e4, e5⟩, d1, rfl⟩
    rw [List.length_map, List.take_length] at e4
    rw [List.length_map, List.drop_length] at e5
    refine ⟨_, rfl, _, rfl, _, rfl, _, _, rfl, rfl, h, ts, z', _, r, i + 1, false, rfl, h1, J, by omega, fun x hx => ?_, fun sh G2 h2 J2 k3 => ?_⟩
    · obtain ⟨p, d, rfl, _⟩ := prs x hx
      exact ⟨p, d, rfl, .inr ⟨rfl, by rw [e4, if_pos hx], i, by rw [e3, if_pos hx], rfl⟩⟩
    · exact q _ G2 h2 (J2.sub fun p x => x.2 x.1) (k2.trans k3) ⟨e1, e5, e2, e4, i, e3⟩
end
end Lw
set_option maxHeartbeats 4000000
/-! room -/
namespace Lw
open PySem PySem.Spec PyProof.Rows L2
abbrev dRoom : Stmt := top 56
def pgB (r : List Hd) : Bool := match r with | [] => false | h :: _ => decide (h.w = "page")
def UT : List Hd := (List.range 3).flatMap fun l => (List.range 3).map fun k => thd l k
theorem UT_len : UT.length = 9 := by decide +kernel
theorem PoolInv.somepage {ts : Tbs} {s : PS} {F : Pg → Option Nat} (I : PoolInv ts s F) (h : ∀ f : Nat, s.ha[f]? ≠ some []) : ∃ (f : Nat) (r : List Hd), s.ha[f]? = some r ∧ pgB r = true := by
  by_cases e : ∃ (f : Nat) (r : List Hd), s.ha[f]? = some r ∧ pgB r = true
  · exact e
  exfalso
  have hd : ∀ r ∈ s.ha, ∃ x y, r = x :: y ∧ x ∈ UT := fun r hr => by
    obtain ⟨f, hf⟩ := List.getElem?_of_mem hr
    cases r with
    | nil => exact absurd hf (h f)
    | cons x y =>
      refine ⟨x, y, rfl, ?_⟩
      rcases I.row f _ hf x List.mem_cons_self with ⟨l, t, k, ht, rfl, hk⟩ | ⟨q, _, rfl, _⟩
      · have T := I.tab l t ht
        have h1 := Tbs.lt ht
        have h2 := lt_get hk
        have := I.to
        have := T.n0
        have := T.ln
        rw [List.length_cons] at h2
        exact List.mem_flatMap.mpr ⟨l, List.mem_range.mpr (by omega), List.mem_map.mpr ⟨k, List.mem_range.mpr (by omega), rfl⟩⟩
      · exact absurd ⟨f, _, hf, decide_eq_true (show (hp q).w = "page" from rfl)⟩ e
  have nd : (s.ha.map fun r => r.headD (hp (0, 0))).Nodup := by
    refine List.pairwise_map.mpr (List.pairwise_iff_getElem.mpr fun i j hi hj hij e => ?_)
    obtain ⟨x, y, e1, _⟩ := hd _ (List.getElem_mem hi)
    obtain ⟨x', y', e2, _⟩ := hd _ (List.getElem_mem hj)
    rw [e1, e2] at e
    have e : x = x' := e
    have := I.uniq (List.getElem?_eq_getElem hi) (h := x) (by rw [e1]; exact List.mem_cons_self) (List.getElem?_eq_getElem hj) (by rw [e2, e]; exact List.mem_cons_self)
    omega
  have := nodup_le _ UT nd fun x hx => by
    obtain ⟨r, hr, rfl⟩ := List.mem_map.mp hx
    obtain ⟨a, b, rfl, hu⟩ := hd r hr
    exact hu
  rw [UT_len, List.length_map] at this
  have := I.l0
  omega
theorem hd_w {x : Hd} (h : HdOk x) : Ok (.str x.w) := by
  obtain ⟨m, e, _⟩ := h
  exact lastP_ok e
theorem ok_page : Ok (.str "page") := hd_w (x := hp (0, 0)) (U_ok (U_page (by decide) (by decide)))
def pP (d : Da) : Bool := match d with | .tup [_, .tup (.tup (.str w :: _) :: _)] => decide (w = "page") | _ => false
theorem pP_row (i : Nat) (r : List Hd) : pP (.tup [.int (i : Nat), roD r]) = pgB r := by
  cases r <;> rfl
/-- a pot apart from the house -/
structure PotFree (h : Hs) (p : Addr) : Prop where
  hh : p ≠ h.hh
  tl : p ≠ h.tl
  a : p ≠ h.pa.a
  b : p ≠ h.pa.b
  tb : ∀ x ∈ h.tb, p ≠ x.2
def HKP (h : Hs) (p : Addr) (G G' : Gp) : Prop := ∀ x o, x ≠ p → x ≠ h.pa.a → x ≠ h.pa.b → x ≠ h.pa.c → x ≠ h.sa.a → x ≠ h.sa.b → x ≠ h.sa.c → G x = some o → G' x = some o
section
variable {P : Program} {w : World} {K : PySem.W.Frag} {mg : Str → Option Value} {base : Heap} {k : Nat} {C D E' : Addr}
theorem PotAt.mono {p : Addr} {m m' : Nat} {G : Gp} (h : PotAt p m G) (hm : m ≤ m') : PotAt p m' G := by
  obtain ⟨a, b, c, h1, h2, h3, h4, h5⟩ := h
  exact ⟨a, b, c, h1, h2, h3, h4, by omega⟩
theorem HouseAt.pot {h : Hs} {ts : Tbs} {z : St} {G G' : Gp} {p : Addr} {m : Nat} (H : HouseAt C E' D h ts z G) (pf : PotFree h p) (pt : PotAt p m G) (k : ∀ x o, x ≠ p → G x = some o → G' x = some o) : HouseAt C E' D h ts z G' := by
  obtain ⟨a, b, c, gp, _⟩ := pt
  have P := H.pool
  have S := H.slot
  refine ⟨⟨k _ _ (ne_kind P.p gp nofun) P.p, k _ _ pf.a.symm P.a, k _ _ pf.b.symm P.b, k _ _ (ne_kind P.c gp nofun) P.c, P.ab⟩, ⟨k _ _ (ne_kind S.p gp nofun) S.p, k _ _ (ne_kind S.a gp nofun) S.a, k _ _ (ne_kind S.b gp nofun) S.b, k _ _ (ne_kind S.c gp nofun) S.c, S.ab⟩,
    k _ _ pf.hh.symm H.hs, k _ _ pf.tl.symm H.tl, H.ln, fun l t ht => ?_, H.ha, H.hb, H.ta, H.tb, H.cc⟩
  obtain ⟨x, o, h1, h2⟩ := H.tab l t ht
  exact ⟨x, o, h1, h2.oa, h2.ob, k _ _ (ne_kind h2.t gp nofun) h2.t, k _ _ (pf.tb _ (mem_get h1)).symm h2.o⟩
theorem HouseAt.ext {h : Hs} {ts : Tbs} {z : St} {G G' : Gp} (H : HouseAt C E' D h ts z G) (k : Kp G G') : HouseAt C E' D h ts z G' := by
  have S := H.slot
  refine ⟨H.pool.ext k, ⟨k _ _ S.p, k _ _ S.a, k _ _ S.b, k _ _ S.c, S.ab⟩, k _ _ H.hs, k _ _ H.tl, H.ln, fun l t ht => ?_, H.ha, H.hb, H.ta, H.tb, H.cc⟩
  obtain ⟨x, o, h1, h2⟩ := H.tab l t ht
  exact ⟨x, o, h1, h2.oa, h2.ob, k _ _ h2.t, k _ _ h2.o⟩
structure RoomOk (z z' : St) : Prop where
  v : z'.v = z.v
  fr : ∃ f : Nat, z'.s.ha[f]? = some []
  st : ∀ q, z.F q = none → z'.F q = none ∧ z'.S q = z.S q
def SRoom (C D E' : Addr) : Sp3 := fun ds G Q => ∃ p m h ts z, ds = [.obj p, .obj h.hh] ∧ PotAt p m G ∧ m ≤ 100000 ∧ PotFree h p ∧ HouseAt C E' D h ts z G ∧ Inv ts z Cl ∧
  ∀ z' G', HouseAt C E' D h ts z' G' → Inv ts z' Cl → HKP h p G G' → PotAt p (m + 1) G' → RoomOk z z' → Q .non G'
abbrev nRoom : List Str := ["pot", "house", "pool", "slots", "tables", "some", "frame", "row"]
theorem scRoom : FnScope nRoom ["pot", "house"] (defScope dRoom) := ⟨rfl, rfl, rfl, by decide +kernel, rfl, by decide +kernel, by decide +kernel⟩
theorem okRoom {f : Addr} {fd : FuncData} (F : Fun K "_law_room" "_law_room" dRoom f fd) (T : Txt K w mg) (TC : PTx K mg C) (D1 : MethOk P w K mg base 1 C "ledger" [] (SLedgerOf C)) (D2 : MethOk P w K mg base 1 C "free" [] (SFree C)) (D3 : DefOk P w K mg base 1 "_law_take" [] STk) (D4 : DefOk P w K mg base 8 "_law_out" [] (SOut C D E')) : FnOk P w K mg base CX0 9 f fd ["pot", "house"] (spl K (SRoom C D E')) := by
  refine Fun3 F scRoom (fun ds G Q ⟨_, _, _, _, _, e, _⟩ => by rw [e]; rfl) fun cdv A outer s H E hr => ⟨_, s_cons (s_asg (v 1) (g_lst rfl (gs_cons (g_name (i := 2) scRoom.nd) (gs_cons (g_name (i := 3) scRoom.nd) (gs_cons (g_name (i := 4) scRoom.nd) gs_nil)))))
    (s_cons (s_setLc (i := 5) (own := [("frame", 6), ("row", 7)]) rfl scRoom.nd (i_enumT T.enum (e_meth0 D1 TC.cl hr (v 2))) (bk nRoom (defScope dRoom) (by decide +kernel))
      (fun s H C cl fp => g_tup (n := 2) rfl (gs_cons (g_name (i := 6) scRoom.nd) (gs_cons (g_name (i := 7) scRoom.nd) gs_nil))) (fun s H C cl fp => ts_one (w_pt (w_and (t_ne hr.units (v 7) (e_tup a_nil)) (w_and1 (t_eq hr.units (e_ixT (e_ixT (v 7) e_int) e_int) e_str))))) (fun s H C cl fp => v 6))
    (s_one (s_if (t_eq hr.units (e_meth0 D2 TC.cl hr (v 2)) (e_tup a_nil)) (s_one (s_expr (e_call D4 hr (a_cons (v 1) (a_cons (e_ixL (v 5) (e_call D3 hr (a_cons (v 0) (a_cons (e_len T.len (v 5)) a_nil)))) a_nil))))) s_nil))), ?_⟩
  rintro ds G Q ⟨p, m, h, ts, z, rfl, pt, hm, pf, ho, I, q⟩
  have W := I.P.wf
  refine ⟨_, rfl, h.hh, _, rfl, ho.hs, rfl, ?_⟩
  refine ⟨_, _, rfl, _, _, rfl, _, _, rfl, rfl, ?_⟩
  refine ⟨_, rfl, h.pa.p, _, rfl, ho.pool.p, rfl, h.pa, _, rfl, ho.pool, _, rfl, lc_pure pP fE trivial (small_len ?_) (fun d hd R S hyp => ?_) ?_⟩
  · rw [enumD_len, List.length_map]; have := W.l1; omega
  · obtain ⟨i, hi⟩ := List.getElem?_of_mem hd
    obtain ⟨d0, h0, rfl⟩ := enumD_of hi
    rw [List.getElem?_map] at h0
    obtain ⟨r, hr0, rfl⟩ := Option.map_eq_some_iff.mp h0
    refine ⟨_, rfl, rfl, _, _, rfl, _, _, rfl, rfl, _, rfl, by show 0 ≤ sizeLine; decide, row_ok (W.ok r (mem_get hr0)).2.1, ok_nil, _, rfl, ?_⟩
    rw [eqB_row]
    rw [pP_row] at hyp
    cases r with
    | nil => exact ite_f Bool.false_ne_true hyp
    | cons x r =>
      refine ite_t rfl ⟨_, rfl, _, 0, hD x, rfl, rfl, at_nat (i := 0) rfl, _, 0, .str x.w, rfl, rfl, at_nat (i := 0) rfl, ?_, ok_page, _, rfl, ?_⟩
      · exact (W.ok _ (mem_get hr0)).2.1 x List.mem_cons_self |> hd_w
      · rw [eqB_str]
        by_cases hx : x.w = "page"
        · rw [show pgB (x :: r) = true from decide_eq_true hx] at hyp
          rw [decide_eq_true hx]
          exact ⟨_, rfl, hyp⟩
        · rw [show pgB (x :: r) = false from decide_eq_false hx] at hyp
          rw [decide_eq_false hx]
          exact hyp
  intro so gs
  have noso : ∀ {x u}, G x = some u → x ≠ so := fun {x u} e y => by subst y; rw [gs] at e; cases e
  have Lm : ∀ d, d ∈ ((enumD (z.s.ha.map roD)).filter pP).map fE ↔ ∃ (f : Nat) (r : List Hd), d = .int (f : Nat) ∧ z.s.ha[f]? = some r ∧ pgB r = true := by
    intro d
    constructor
    · intro hd
      obtain ⟨e, he, rfl⟩ := List.mem_map.mp hd
      obtain ⟨he, hp'⟩ := List.mem_filter.mp he
      obtain ⟨i, hi⟩ := List.getElem?_of_mem he
      obtain ⟨d0, h0, rfl⟩ := enumD_of hi
      rw [List.getElem?_map] at h0
      obtain ⟨r, hr0, rfl⟩ := Option.map_eq_some_iff.mp h0
      rw [pP_row] at hp'
      exact ⟨i, r, rfl, hr0, hp'⟩
    · rintro ⟨f, r, rfl, hf, hb⟩
      exact List.mem_map.mpr ⟨.tup [.int (f : Nat), roD r], List.mem_filter.mpr ⟨List.mem_of_getElem? (enumD_get (map_get roD hf)), by rw [pP_row]; exact hb⟩, rfl⟩
  have Ll : (((enumD (z.s.ha.map roD)).filter pP).map fE).length ≤ 48 := by
    rw [List.length_map]
    have := List.length_filter_le pP (enumD (z.s.ha.map roD))
    rw [enumD_len, List.length_map] at this
    have := W.l1
    omega
  generalize ((enumD (z.s.ha.map roD)).filter pP).map fE = L at Lm Ll
  have k1 : Kp G (up G so (.lst L)) := fun x u e => by rw [up_ne (noso e)]; exact e
  have g1 : up G so (.lst L) so = some (.lst L) := up_same
  generalize up G so (.lst L) = G1 at k1 g1
  have ho1 := ho.ext k1
  have pt1 : PotAt p m G1 := by
    obtain ⟨a, b, c, e, r⟩ := pt
    exact ⟨a, b, c, k1 _ _ e, r⟩
  have sop : so ≠ p := by
    obtain ⟨a, b, c, e, r⟩ := pt
    exact (noso e).symm
  refine ⟨_, rfl, h.pa.p, _, rfl, ho1.pool.p, rfl, h.pa, z.s, rfl, ho1.pool, W, by show 0 ≤ sizeLine; decide, ok_intsN _, ok_nil, _, rfl, ?_⟩
  cases hfr : frees 0 z.s.ha with
  | cons f0 l =>
    refine ite_f (by rw [show eqB (intsN (f0 :: l)) (.tup []) = false from eqB_f nofun]; decide) ?_
    refine q z G1 ho1 I (fun x o _ _ _ _ _ _ _ e => k1 x o e) (pt1.mono (by omega)) ⟨rfl, ⟨f0, ?_⟩, fun q hq => ⟨hq, rfl⟩⟩
    exact (frees_mem.mp (by rw [hfr]; exact List.mem_cons_self)).2
  | nil =>
    refine ite_t (eqB_t rfl) ?_
    obtain ⟨fp, rp, hfp, hbp⟩ := I.P.somepage fun f hf => by
      have : f ∈ frees 0 z.s.ha := frees_mem.mpr ⟨Nat.zero_le _, hf⟩
      rw [hfr] at this; cases this
    have hL : 0 < L.length := List.length_pos_of_mem ((Lm _).mpr ⟨fp, rp, rfl, hfp, hbp⟩)
    refine ⟨_, rfl, _, rfl, _, rfl, _, rfl, _, rfl, .inr (.inl ⟨so, L, rfl, g1, p, m, L.length, rfl, pt1, hm, hL, by omega, fun r G2 hr pt2 k2 => ?_⟩)⟩
    obtain ⟨f, row, hd, hf, hb⟩ := (Lm L[r]).mp (List.getElem_mem hr)
    refine ⟨so, L, (r : Nat), _, rfl, rfl, k2 _ _ sop g1, at_nat (List.getElem?_eq_getElem hr), ?_⟩
    rw [hd]
    have hpg : ∃ q, hp q ∈ row := by
      cases row with
      | nil => cases hb
      | cons x y =>
        rcases I.P.row f _ hf x List.mem_cons_self with ⟨l, t, k, ht, rfl, hk⟩ | ⟨q, _, rfl, _⟩
        · exact absurd (of_decide_eq_true (show decide (("table" : Str) = "page") = true from hb)).symm pt_ne
        · exact ⟨q, List.mem_cons_self⟩
    have ho2 := ho1.pot pf pt1 k2
    refine ⟨h, ts, z, f, row, rfl, ho2, I, hf, hpg, fun z' G3 h3 J k3 o => ?_⟩
    have pt3 : PotAt p (m + 1) G3 := by
      obtain ⟨a, b, c, e, r'⟩ := pt2
      exact ⟨a, b, c, k3 _ _ pf.a pf.b (ne_kind e ho2.pool.c nofun) (ne_kind e ho2.slot.a nofun) (ne_kind e ho2.slot.b nofun) (ne_kind e ho2.slot.c nofun) e, r'⟩
    refine q z' G3 h3 J (fun x u n0 n1 n2 n3 n4 n5 n6 e => k3 x u n1 n2 n3 n4 n5 n6 (k2 x u n0 (k1 x u e))) pt3 ⟨o.v, ⟨f, o.em⟩, fun q hq => ?_⟩
    have nm : hp q ∉ row := fun e => by
      have := I.P.at hf e
      rw [hq] at this; cases this
    obtain ⟨i, hS⟩ := o.S
    exact ⟨by rw [o.F, if_neg nm]; exact hq, by rw [hS, if_neg nm]⟩
end
end Lw
set_option maxHeartbeats 4000000
/-! alone -/
namespace Lw
open PySem PySem.Spec PyProof.Rows L2
/-- both ways of an if meet at M -/
theorem seq_cut {a b b2 c : TS3} {D : Ends3} {τ : St3} {G : Gp} (M : St3 → Gp → Prop) (h2 : ∀ τ' G', M τ' G' → c D τ' G') (h1 : (∀ τ' G', M τ' G' → c D τ' G') → sSeq a (sSeq b (sSeq b2 c)) D τ G) : sSeq a (sSeq b (sSeq b2 c)) D τ G := h1 h2
theorem seq_cut2 {a b c : TS3} {D : Ends3} {τ : St3} {G : Gp} (M : St3 → Gp → Prop) (h2 : ∀ τ' G', M τ' G' → c D τ' G') (h1 : (∀ τ' G', M τ' G' → c D τ' G') → sSeq a (sSeq b c) D τ G) : sSeq a (sSeq b c) D τ G := h1 h2
theorem Inv.ent {ts : Tbs} {z : St} {X : Pg → Prop} (I : Inv ts z X) {q : Pg} (d : dom ts q) (n : ¬ X q) : ∃ t lo c, ts[q.1]? = some t ∧ q.2 < t.n ∧ EntAt z.s t.f0 q.2 lo c ∧ CodeOk (z.F q) (z.S q) c ∧ c ≤ 65535 := by
  obtain ⟨t, lo, g, h1, h2, h3, h4, h5, h6, h7, h8⟩ := I.P.low d
  obtain ⟨t', lo', g', c, e1, e2, e3, e4, e5⟩ := I.en q d n
  rw [h1] at e1
  obtain rfl := Option.some.inj e1
  rw [h3] at e2
  obtain rfl := Option.some.inj e2
  exact ⟨t, lo, c, h1, h2, ⟨h8, g', e3, e4⟩, e5, ((I.P.pgs g' (mem_get e3)).2 c (mem_get e4)).2⟩
theorem row_inj {r : List Hd} {x : Hd} (e : roD r = .tup [hD x]) : r = [x] := by
  have e : r.map hD = [hD x] := Da.tup.inj e
  cases r with
  | nil => cases e
  | cons y r =>
    obtain ⟨e2, e3⟩ := List.cons.inj e
    have := eqB_hd (x := y) (h := x)
    rw [e2, eqB_hd, decide_eq_true rfl] at this
    rw [of_decide_eq_true this.symm, List.map_eq_nil_iff.mp e3]
theorem HKP.of {h : Hs} {p : Addr} {G G' : Gp} (k : HK h G G') : HKP h p G G' := fun x o _ => k x o
theorem HKP.refl (h : Hs) (p : Addr) (G : Gp) : HKP h p G G := fun _ _ _ _ _ _ _ _ _ e => e
theorem HKP.trans {h : Hs} {p : Addr} {G G1 G2 : Gp} (a : HKP h p G G1) (b : HKP h p G1 G2) : HKP h p G G2 := fun x o h0 h1 h2 h3 h4 h5 h6 e => b x o h0 h1 h2 h3 h4 h5 h6 (a x o h0 h1 h2 h3 h4 h5 h6 e)
theorem PotAt.hk {C E' D : Addr} {h : Hs} {ts : Tbs} {z : St} {p : Addr} {m : Nat} {G G' : Gp} (t : PotAt p m G) (ho : HouseAt C E' D h ts z G) (pf : PotFree h p) (k : HK h G G') : PotAt p m G' := by
  obtain ⟨a, b, c, e, r⟩ := t
  exact ⟨a, b, c, k _ _ pf.a pf.b (ne_kind e ho.pool.c nofun) (ne_kind e ho.slot.a nofun) (ne_kind e ho.slot.b nofun) (ne_kind e ho.slot.c nofun) e, r⟩
abbrev dAlone : Stmt := top 57
section
variable {P : Program} {w : World} {K : PySem.W.Frag} {mg : Str → Option Value} {base : Heap} {k : Nat} {C D E' : Addr}
abbrev nAlone : List Str := ["pot", "house", "lodge", "part", "pool", "slots", "tables", "own", "cell", "sheet", "others", "frame", "one"]
theorem scAlone : FnScope nAlone ["pot", "house", "lodge", "part"] (defScope dAlone) := ⟨rfl, rfl, rfl, by decide +kernel, rfl, by decide +kernel, by decide +kernel⟩
def SAlone (C D E' : Addr) : Sp3 := fun ds G Q => ∃ p m h ts z q, ds = [.obj p, .obj h.hh, .int (q.1 : Nat), .int (q.2 : Nat)] ∧ PotAt p m G ∧ m ≤ 100000 ∧ PotFree h p ∧ HouseAt C E' D h ts z G ∧ Inv ts z Cl ∧ dom ts q ∧
  ∀ z' f G', HouseAt C E' D h ts z' G' → Inv ts z' Cl → HKP h p G G' → PotAt p (m + 1) G' → z'.v = z.v → z'.F q = some f → z'.s.ha[f]? = some [hp q] → Q (.int (f : Nat)) G'
theorem okAlone {f : Addr} {fd : FuncData} {ft : Addr} (F : Fun K "_law_alone" "_law_alone" dAlone f fd) (T : Txt K w mg) (TC : PTx K mg C) (TE : PTx K mg E') (TD : TTx K mg D) (D0 : MethOk P w K mg base 6 D "cell" [] (STCell C D)) (D1 : MethOk P w K mg base 3 C "holders" [] (SHoldersOf C)) (D2 : DefOk P w K mg base 8 "_law_out" [] (SOut C D E'))
    (D3 : DefOk P w K mg base 9 "_law_room" [] (SRoom C D E')) (D4 : MethOk P w K mg base 2 E' "page" [] (SSPageOf E')) (D5 : MethOk P w K mg base 2 E' "holders" [] (SSHoldersOf E')) (D6 : MethOk P w K mg base 3 E' "leave" [] (SSLeave E')) (D7 : DefOk P w K mg base 7 "_law_told" [] (STold C D E'))
    (D8 : KwOk P w K mg base 4 ft 2 ["page"] (fun ds es => ds ++ es) (STake C)) (mt : Meth K C "take" ft) : FnOk P w K mg base CX0 10 f fd ["pot", "house", "lodge", "part"] (spl K (SAlone C D E')) := by
  refine Fun3 F scAlone (fun ds G Q ⟨_, _, _, _, _, _, e, _⟩ => by rw [e]; rfl) fun cdv A outer s H E hr => ⟨_, s_cons (s_asg (v 1) (g_lst rfl (gs_cons (g_name (i := 4) scAlone.nd) (gs_cons (g_name (i := 5) scAlone.nd) (gs_cons (g_name (i := 6) scAlone.nd) gs_nil)))))
    (s_cons (s_set (i := 7) scAlone.nd (e_tup (a_cons e_str (a_cons (v 2) (a_cons (v 3) a_nil)))))
    (s_cons (s_set (i := 8) scAlone.nd (e_meth D0 TD.cl hr (e_ixL (v 6) (v 2)) (a_cons (v 3) a_nil)))
    (s_cons (s_if (w_pt (w_and (t_eq hr.units (e_mod (v 8) e_int) e_int) (w_and1 (t_eq hr.units (e_meth D1 TC.cl hr (v 4) (a_cons (e_fdiv (v 8) e_int) a_nil)) (e_tup (a_cons (v 7) a_nil)))))) (s_one (s_ret (e_fdiv (v 8) e_int))) s_nil)
    (s_cons (s_if (t_eq hr.units (e_mod (v 8) e_int) e_int) (s_cons (s_expr (e_call D2 hr (a_cons (v 1) (a_cons (e_fdiv (v 8) e_int) a_nil)))) (s_one (s_set (i := 8) scAlone.nd (e_meth D0 TD.cl hr (e_ixL (v 6) (v 2)) (a_cons (v 3) a_nil))))) s_nil)
    (s_cons (s_expr (e_call D3 hr (a_cons (v 0) (a_cons (v 1) a_nil))))
    (s_cons (s_set (i := 9) scAlone.nd (e_repT (e_tup (a_cons e_int a_nil)) e_int))
    (s_cons (s_if (t_gt (e_fdiv (v 8) e_int) e_int) (s_cons (s_set (i := 9) scAlone.nd (e_meth D4 TE.cl hr (v 5) (a_cons (e_sub (e_fdiv (v 8) e_int) e_int) a_nil)))
      (s_cons (s_set (i := 10) scAlone.nd (e_tuple T.tuple (l_lc (own := [("one", 12)]) rfl scAlone.nd (i_tup (e_meth D5 TE.cl hr (v 5) (a_cons (e_sub (e_fdiv (v 8) e_int) e_int) a_nil))) (bk nAlone (defScope dAlone) (by decide +kernel)) (fun s H C cl fp => g_name (i := 12) scAlone.nd) (fun s H C cl fp => ts_one (t_ne hr.units (v 12) (v 7))) (fun s H C cl fp => v 12))))
      (s_cons (s_expr (e_meth D6 TE.cl hr (v 5) (a_cons (e_sub (e_fdiv (v 8) e_int) e_int) (a_cons (v 7) a_nil))))
      (s_one (s_expr (e_call D7 hr (a_cons (v 1) (a_cons (v 10) (a_cons (e_fdiv (v 8) e_int) (a_cons e_bl a_nil)))))))))) s_nil)
    (s_cons (s_set (i := 11) scAlone.nd (e_methN D8 TC.cl mt hr (v 4) (a_cons (v 7) a_nil) (k_cons (v 9) k_nil)))
    (s_cons (s_expr (e_call D7 hr (a_cons (v 1) (a_cons (e_tup (a_cons (v 7) a_nil)) (a_cons (v 11) (a_cons e_bl a_nil))))))
    (s_one (s_ret (v 11)))))))))))), ?_⟩
  rintro ds G Q ⟨p, m, h, ts, z, q, rfl, pt, hm, pf, ho, I, dq, k⟩
  obtain ⟨t, lo, c, ht, hq2, he, hc, hcm⟩ := I.ent dq fun x => x
  obtain ⟨x, o, hat, ta⟩ := ho.table ht
  refine ⟨_, rfl, h.hh, _, rfl, ho.hs, rfl, ?_⟩
  refine ⟨_, _, rfl, _, _, rfl, _, _, rfl, rfl, ?_⟩
  refine ⟨_, rfl, _, rfl, sz3, ?_⟩
  refine ⟨_, rfl, _, rfl, h.tl, _, (q.1 : Nat), _, rfl, rfl, ho.tl, hat, x, _, rfl, ta.t, rfl, _, rfl, h.pa, z.s, x, o, q.1, t.n, t.f0, q.2, lo, c, rfl, ⟨ho.pool, ta⟩, hq2, he, ?_⟩
  show sSeq _ (sSeq _ (sSeq _ _)) _ _ _
  refine seq_cut (fun τ' G' => ∃ z1 c1, τ' = [some (.obj p), some (.obj h.hh), some (.int (q.1 : Nat)), some (.int (q.2 : Nat)), some (.obj h.pa.p), some (.obj h.sa.p), some (.obj h.tl), some (hD (hp q)), some (.int c1), none, none, none, none] ∧ HouseAt C E' D h ts z1 G' ∧ Inv ts z1 Cl ∧ HKP h p G G' ∧ PotAt p m G' ∧ z1.v = z.v ∧ z1.F q = none ∧ CodeOk none (z1.S q) c1 ∧ c1 ≤ 65535) ?_ fun cut => ?_
  · rintro τ' G' ⟨z1, c1, rfl, h1, I1, k1, pt1, v1, F1, hc1, hm1⟩
    refine ⟨_, rfl, _, rfl, p, m, h, ts, z1, rfl, pt1, hm, pf, h1, I1, fun z2 G2 h2 I2 k2 pt2 ro => ?_⟩
    obtain ⟨F2, S2⟩ := ro.st q F1
    show sSeq _ (sSeq _ (sSeq _ _)) _ _ _
    refine seq_cut (fun τ' G' => ∃ z3 oth, τ' = [some (.obj p), some (.obj h.hh), some (.int (q.1 : Nat)), some (.int (q.2 : Nat)), some (.obj h.pa.p), some (.obj h.sa.p), some (.obj h.tl), some (hD (hp q)), some (.int c1), some (pD (z3.v q)), oth, none, none] ∧ HouseAt C E' D h ts z3 G' ∧ Inv ts z3 (fun q' => q' = q) ∧ HKP h p G G' ∧ PotAt p (m + 1) G' ∧ z3.v = z.v ∧ z3.F q = none ∧ z3.S q = none ∧ (∃ f : Nat, z3.s.ha[f]? = some []) ∧ PgOk (z3.v q)) ?_ fun cut => ?_
    · rintro τ' G' ⟨z3, oth, rfl, h3, I3, k3, pt3, v3, F3, S3, ⟨f0, hf0⟩, pg3⟩
      obtain ⟨f1, l1, hfr⟩ : ∃ f l, frees 0 z3.s.ha = f :: l := by
        cases e : frees 0 z3.s.ha with
        | nil =>
          have : f0 ∈ frees 0 z3.s.ha := frees_mem.mpr ⟨Nat.zero_le _, hf0⟩
          rw [e] at this; cases this
        | cons f l => exact ⟨f, l, rfl⟩
      have hf1 : z3.s.ha[f1]? = some [] := (frees_mem.mp (by rw [hfr]; exact List.mem_cons_self)).2
      have hb := I3.P.dom_bd dq
      refine ⟨_, rfl, h.pa.p, _, rfl, h3.pool.p, rfl, _, rfl, _, rfl, rfl, rfl, h.pa, z3.s, hp q, z3.v q, f1, l1, rfl, h3.pool, I3.P.wf, U_ok (U_page hb.1 hb.2), pg3, I3.P.nospot F3, hfr, fun G4 p4 k4 => ?_⟩
      obtain ⟨h4, kk4⟩ := h3.upPool p4 k4
      have I4 := I3.holdF (f := f1) (L' := [hp q]) dq F3 hf1 rfl nofun (List.Perm.refl _) (List.pairwise_singleton _ _) pg3
      have hl := lt_get hf1
      have := I3.P.l1
      refine ⟨_, rfl, _, rfl, sz1, _, rfl, h, ts, _, _, [hp q], f1, true, rfl, h4.re, I4, by omega, fun x hx => ⟨q, dq, List.mem_singleton.mp hx, .inl ⟨rfl, if_pos rfl, S3⟩⟩, fun sh G5 h5 I5 k5 => ?_⟩
      refine ⟨_, rfl, ?_⟩
      exact k _ f1 G5 h5 (I5.sub fun q' x => x.2 (List.mem_singleton.mpr (by rw [x.1]))) ((k3.trans (HKP.of kk4)).trans (HKP.of k5)) ((pt3.hk h3 pf kk4).hk h4 pf k5) v3 (if_pos rfl) (List.getElem?_set_self hl)
    refine ⟨sz1, _, _, rfl, rfl, nofun, by decide, by decide, by decide, ?_⟩
    cases hS : z1.S q with
    | none =>
      rw [hS] at hc1 S2
      obtain ⟨_, c2⟩ := code_n hc1
      refine ⟨_, rfl, _, _, rfl, rfl, ⟨by decide, by decide⟩, _, _, rfl, rfl, false, bl_f (by show ¬ (0 : Int) < c1 / 16; omega), ?_⟩
      have vb := I2.vb q dq (fun x => x) F2 S2
      refine cut _ _ ⟨z2, none, ?_, h2, I2.sub fun q x => x.elim, k1.trans k2, pt2, ro.v.trans v1, F2, S2, ro.fr, ?_⟩
      · rw [vb]; rfl
      · rw [vb]; exact ⟨rfl, fun x hx => by rw [List.eq_of_mem_replicate hx]; omega⟩
    | some i =>
      rw [hS] at hc1 S2
      obtain ⟨_, c2⟩ := code_s hc1
      obtain ⟨rw0, hrw, hqr⟩ := I2.Z.pg q i dq S2
      have hg := I2.vs q i dq S2
      have Z := I2.Z.wf
      obtain ⟨rl, rok⟩ := Z.ok i rw0 hrw
      have ce : c1 / 16 - 1 = (i : Nat) := by omega
      refine ⟨_, rfl, _, _, rfl, rfl, ⟨by decide, by decide⟩, _, _, rfl, rfl, true, bl_t (by show (0 : Int) < c1 / 16; omega), ?_⟩
      refine ⟨_, rfl, h.sa.p, _, rfl, h2.slot.p, rfl, _, rfl, _, _, rfl, rfl, ⟨by decide, by decide⟩, _, _, rfl, rfl, h.sa, z2.u, i, rw0, z2.v q, (by show [Da.obj _, .int (c1 / 16 - 1)] = _; rw [ce]), h2.slot, hrw, hg, ?_⟩
      refine ⟨_, rfl, h.sa.p, _, rfl, h2.slot.p, rfl, _, rfl, _, _, rfl, rfl, ⟨by decide, by decide⟩, _, _, rfl, rfl, h.sa, z2.u, i, rw0, (by show [Da.obj _, .int (c1 / 16 - 1)] = _; rw [ce]), h2.slot, hrw, ?_⟩
      have hq' : HdOk (hp q) := U_ok (I2.Z.inU hrw hqr)
      refine ⟨_, rfl, lc_pure (fun d => !eqB d (hD (hp q))) (fun d => d) trivial (small_len (by rw [List.length_map]; omega)) (fun d hd R S hx => ?_) ?_⟩
      · obtain ⟨x, hxr, rfl⟩ := List.mem_map.mp hd
        refine ⟨_, rfl, _, rfl, ok_hd (rok.1 x hxr), ok_hd hq', _, rfl, ?_⟩
        by_cases hb : (!eqB (hD x) (hD (hp q))) = true
        · rw [if_pos hb] at hx
          exact ite_t hb ⟨_, rfl, hx⟩
        · rw [if_neg hb] at hx
          exact ite_f hb hx
      rw [filt_hd]
      refine ⟨_, rfl, h.sa.p, _, rfl, h2.slot.p, rfl, _, rfl, _, _, rfl, rfl, ⟨by decide, by decide⟩, _, _, rfl, rfl, _, rfl, h.sa, z2.u, i, hp q, rw0, z2.v q, (by show [Da.obj _, .int (c1 / 16 - 1), _] = _; rw [ce]), h2.slot, Z, hrw, hg, hq', (I2.Z.sp _ _).mpr ⟨_, hrw, hqr⟩, fun G3 p3 k3 => ?_⟩
      obtain ⟨h3, kk3⟩ := h2.upSlot p3 k3
      have I3 := I2.leaveS dq S2 hrw
      have hi57 : i + 1 ≤ 4095 := by omega
      have eu : (lvS z2.u i rw0 (hp q)) = (if (drp rw0 (hp q)).isEmpty = true then ⟨delN z2.u.sl i, delN (setN z2.u.hs i (drp rw0 (hp q))) i, z2.u.sp.filter fun x => decide (x.1 ≠ hp q)⟩ else ⟨z2.u.sl, setN z2.u.hs i (drp rw0 (hp q)), z2.u.sp.filter fun x => decide (x.1 ≠ hp q)⟩) := rfl
      refine ⟨_, rfl, _, rfl, _, rfl, _, _, rfl, rfl, ⟨by decide, by decide⟩, h, ts, _, _, drp rw0 (hp q), i + 1, false, ?_, h3.re, I3, by omega, fun x hx => ?_, fun sh G4 h4 I4 k4 => ?_⟩
      · show [Da.obj _, _, .int (c1 / 16), _] = _
        rw [c2]; rfl
      · obtain ⟨hxr, hne⟩ := List.mem_filter.mp hx
        obtain ⟨q', d', rfl, e'⟩ := (I2.Z.row i rw0 hrw).2.2 x hxr
        have nq : q' ≠ q := fun e => of_decide_eq_true hne (by rw [e])
        have f' : z2.F q' = none := by
          rcases I2.nb q' d' (fun x => x) with y | y
          · exact y
          · rw [e'] at y; cases y
        exact ⟨q', d', rfl, .inr ⟨rfl, f', i, (if_neg nq).trans e', rfl⟩⟩
      · refine cut _ _ ⟨{ z2 with s := { z2.s with sh := sh }, u := lvS z2.u i rw0 (hp q), S := fun q' => if q' = q then none else z2.S q' }, _, rfl, h4, I4.sub fun q' x => x.1.resolve_left fun y => y, (k1.trans k2).trans ((HKP.of kk3).trans (HKP.of k4)), (pt2.hk h2 pf kk3).hk h3 pf k4, ro.v.trans v1, F2, if_pos rfl, ro.fr, I2.Z.spg i _ hg⟩
  have W := I.P.wf
  refine ⟨_, rfl, _, _, rfl, rfl, by show (0 : Int) < 2; omega, rfl, rfl, _, rfl, ?_⟩
  show if eqB (.int (c % 2)) (.int 1) = true then _ else _
  rw [eqB_int]
  cases hF : z.F q with
  | none =>
    rw [hF] at hc
    have c2 : c % 2 = 0 := by
      cases hS : z.S q with
      | none => rw [hS] at hc; exact (code_n hc).1
      | some i => rw [hS] at hc; exact (code_s hc).1
    rw [if_neg (by rw [c2]; decide)]
    refine ite_f Bool.false_ne_true ?_
    refine ⟨_, rfl, _, _, rfl, rfl, by show (0 : Int) < 2; omega, rfl, rfl, _, rfl, ?_⟩
    refine ite_f (by show ¬ eqB (.int (c % 2)) (.int 1) = true; rw [eqB_int, c2]; decide) ?_
    exact cut _ _ ⟨z, c, rfl, ho, I, HKP.refl _ _ _, pt, rfl, hF, hc, hcm⟩
  | some fr =>
    rw [hF] at hc
    obtain ⟨c1, c2⟩ := code_f hc
    obtain ⟨r, hr1, hr2⟩ := I.P.pg q fr dq hF
    rw [if_pos (by rw [c1]; rfl)]
    refine ⟨_, rfl, h.pa.p, _, rfl, ho.pool.p, rfl, _, rfl, _, _, rfl, rfl, ⟨by decide, by decide⟩, h.pa, z.s, fr, r, (by show [Da.obj _, .int (c / 16)] = _; rw [c2]), ho.pool, W.ln, hr1, _, rfl, sz1, row_ok (W.ok r (mem_get hr1)).2.1, row_ok (r := [hp q]) (fun x hx => by rw [List.mem_singleton.mp hx]; exact U_ok (I.P.inU hr1 hr2)), _, rfl, ?_⟩
    by_cases hr : r = [hp q]
    · refine ite_t (eqB_t (by rw [hr]; rfl)) ?_
      refine ⟨_, rfl, _, _, rfl, rfl, ⟨by decide, by decide⟩, ?_⟩
      show Q (.int (c / 16)) G
      rw [c2]
      exact k z fr G ho I (HKP.refl _ _ _) (pt.mono (by omega)) rfl hF (by rw [hr1, hr])
    · have ne : eqB (roD r) (.tup [hD (hp q)]) = false := eqB_f fun e => hr (row_inj e)
      refine ite_f (fun e2 => Bool.false_ne_true (ne.symm.trans e2)) ?_
      refine ⟨_, rfl, _, _, rfl, rfl, by show (0 : Int) < 2; omega, rfl, rfl, _, rfl, ?_⟩
      refine ite_t (by show eqB (.int (c % 2)) (.int 1) = true; rw [eqB_int, c1]; rfl) ?_
      refine ⟨_, rfl, _, rfl, _, _, rfl, rfl, ⟨by decide, by decide⟩, h, ts, z, fr, r, (by show [Da.obj _, .int (c / 16)] = _; rw [c2]), ho, I, hr1, ⟨q, hr2⟩, fun z1 G1 h1 I1 k1 o => ?_⟩
      obtain ⟨t1, lo1, c', ht1, hq1, he1, hc', hcm'⟩ := I1.ent dq fun x => x
      obtain ⟨x1, o1, hat1, ta1⟩ := h1.table ht1
      refine ⟨_, rfl, _, rfl, h.tl, _, (q.1 : Nat), _, rfl, rfl, h1.tl, hat1, x1, _, rfl, ta1.t, rfl, _, rfl, h.pa, z1.s, x1, o1, q.1, t1.n, t1.f0, q.2, lo1, c', rfl, ⟨h1.pool, ta1⟩, hq1, he1, ?_⟩
      have F1 : z1.F q = none := by rw [o.F, if_pos hr2]
      rw [F1] at hc'
      exact cut _ _ ⟨z1, c', rfl, h1, I1, HKP.of k1, pt.hk ho pf k1, o.v, F1, hc', hcm'⟩
end
end Lw
set_option maxHeartbeats 4000000
/-! left -/
namespace Lw
open PySem PySem.Spec PyProof.Rows L2
abbrev dLeft : Stmt := top 58
section
variable {P : Program} {w : World} {K : PySem.W.Frag} {mg : Str → Option Value} {base : Heap} {k : Nat} {C D E' : Addr}
abbrev nLeft : List Str := ["house", "lodge", "part", "pool", "slots", "tables", "own", "cell", "others", "one"]
theorem scLeft : FnScope nLeft ["house", "lodge", "part"] (defScope dLeft) := ⟨rfl, rfl, rfl, by decide +kernel, rfl, by decide +kernel, by decide +kernel⟩
def SLeft (C D E' : Addr) : Sp3 := fun ds G Q => ∃ h ts z q, ds = [.obj h.hh, .int (q.1 : Nat), .int (q.2 : Nat)] ∧ HouseAt C E' D h ts z G ∧ Inv ts z Cl ∧ dom ts q ∧
  ∀ z' G', HouseAt C E' D h ts z' G' → Inv ts z' Cl → HK h G G' → (∀ q', z'.v q' = if q' = q then blank else z.v q') → (∀ q', z'.F q' = if q' = q then none else z.F q') → (∀ q', z'.S q' = if q' = q then none else z.S q') → Q .non G'
theorem okLeft {f : Addr} {fd : FuncData} (F : Fun K "_law_left" "_law_left" dLeft f fd) (T : Txt K w mg) (TC : PTx K mg C) (TE : PTx K mg E') (TD : TTx K mg D) (D0 : MethOk P w K mg base 6 D "cell" [] (STCell C D)) (D1 : MethOk P w K mg base 3 C "holders" [] (SHoldersOf C)) (D2 : MethOk P w K mg base 3 C "leave" [] (SLeave C))
    (D5 : MethOk P w K mg base 2 E' "holders" [] (SSHoldersOf E')) (D6 : MethOk P w K mg base 3 E' "leave" [] (SSLeave E')) (D7 : DefOk P w K mg base 7 "_law_told" [] (STold C D E')) (D8 : MethOk P w K mg base 6 D "put" [] (STPut C D)) : FnOk P w K mg base CX0 8 f fd ["house", "lodge", "part"] (spl K (SLeft C D E')) := by
  refine Fun3 F scLeft (fun ds G Q ⟨_, _, _, _, e, _⟩ => by rw [e]; rfl) fun cdv A outer s H E hr => ⟨_, s_cons (s_asg (v 0) (g_lst rfl (gs_cons (g_name (i := 3) scLeft.nd) (gs_cons (g_name (i := 4) scLeft.nd) (gs_cons (g_name (i := 5) scLeft.nd) gs_nil)))))
    (s_cons (s_set (i := 6) scLeft.nd (e_tup (a_cons e_str (a_cons (v 1) (a_cons (v 2) a_nil)))))
    (s_cons (s_set (i := 7) scLeft.nd (e_meth D0 TD.cl hr (e_ixL (v 5) (v 1)) (a_cons (v 2) a_nil)))
    (s_cons (s_if (t_eq hr.units (e_mod (v 7) e_int) e_int) (s_cons (s_expr (e_meth D2 TC.cl hr (v 3) (a_cons (e_fdiv (v 7) e_int) (a_cons (v 6) a_nil)))) (s_one (s_expr (e_call D7 hr (a_cons (v 0) (a_cons (e_meth D1 TC.cl hr (v 3) (a_cons (e_fdiv (v 7) e_int) a_nil)) (a_cons (e_fdiv (v 7) e_int) (a_cons e_bl a_nil))))))))
      (s_one (s_if (t_gt (e_fdiv (v 7) e_int) e_int)
        (s_cons (s_set (i := 8) scLeft.nd (e_tuple T.tuple (l_lc (own := [("one", 9)]) rfl scLeft.nd (i_tup (e_meth D5 TE.cl hr (v 4) (a_cons (e_sub (e_fdiv (v 7) e_int) e_int) a_nil))) (bk nLeft (defScope dLeft) (by decide +kernel)) (fun s H C cl fp => g_name (i := 9) scLeft.nd) (fun s H C cl fp => ts_one (t_ne hr.units (v 9) (v 6))) (fun s H C cl fp => v 9))))
        (s_cons (s_expr (e_meth D6 TE.cl hr (v 4) (a_cons (e_sub (e_fdiv (v 7) e_int) e_int) (a_cons (v 6) a_nil))))
        (s_one (s_expr (e_call D7 hr (a_cons (v 0) (a_cons (v 8) (a_cons (e_fdiv (v 7) e_int) (a_cons e_bl a_nil))))))))) s_nil)))
    (s_one (s_expr (e_meth D8 TD.cl hr (e_ixL (v 5) (v 1)) (a_cons (v 2) (a_cons e_int a_nil)))))))), ?_⟩
  rintro ds G Q ⟨h, ts, z, q, rfl, ho, I, dq, k⟩
  obtain ⟨t, lo, c, ht, hq2, he, hc, hcm⟩ := I.ent dq fun x => x
  obtain ⟨x, o, hat, ta⟩ := ho.table ht
  have W := I.P.wf
  have hb := I.P.dom_bd dq
  have hown : HdOk (hp q) := U_ok (U_page hb.1 hb.2)
  refine ⟨_, rfl, h.hh, _, rfl, ho.hs, rfl, ?_⟩
  refine ⟨_, _, rfl, _, _, rfl, _, _, rfl, rfl, ?_⟩
  refine ⟨_, rfl, _, rfl, sz3, ?_⟩
  refine ⟨_, rfl, _, rfl, h.tl, _, (q.1 : Nat), _, rfl, rfl, ho.tl, hat, x, _, rfl, ta.t, rfl, _, rfl, h.pa, z.s, x, o, q.1, t.n, t.f0, q.2, lo, c, rfl, ⟨ho.pool, ta⟩, hq2, he, ?_⟩
  show sSeq _ (sSeq _ _) _ _ _
  refine seq_cut2 (fun τ' G' => ∃ z1 oth, τ' = [some (.obj h.hh), some (.int (q.1 : Nat)), some (.int (q.2 : Nat)), some (.obj h.pa.p), some (.obj h.sa.p), some (.obj h.tl), some (hD (hp q)), some (.int c), oth, none] ∧ HouseAt C E' D h ts z1 G' ∧ Inv ts z1 (fun q' => q' = q) ∧ HK h G G' ∧ z1.v = z.v ∧ (∀ q', z1.F q' = if q' = q then none else z.F q') ∧ (∀ q', z1.S q' = if q' = q then none else z.S q')) ?_ fun cut => ?_
  · rintro τ' G' ⟨z1, oth, rfl, h1, I1, k1, v1, F1, S1⟩
    have f1 : z1.F q = none := by rw [F1, if_pos rfl]
    have s1 : z1.S q = none := by rw [S1, if_pos rfl]
    obtain ⟨t, lo, g, ht, hq2, hlo, hg, hg8, hown, hlo13, hlow⟩ := I1.P.low dq
    obtain ⟨x, o, hat, ta⟩ := h1.table ht
    refine ⟨_, rfl, _, rfl, h.tl, _, (q.1 : Nat), _, rfl, rfl, h1.tl, hat, x, _, rfl, ta.t, rfl, _, rfl, h.pa, z1.s, x, o, q.1, t.n, t.f0, q.2, lo, 2, _, g, rfl, ⟨h1.pool, ta⟩, I1.P.wf, hq2, hlow, hown, nofun, hg, by decide, by decide, fun G2 p2 k2 => ?_⟩
    obtain ⟨h2, kk2⟩ := h1.upPool p2 k2
    have I2 := (I1.setv (x := blank) f1 s1 rfl).tell (c := 2) dq ht hlo hg (by show CodeOk (z1.F q) (z1.S q) 2; rw [f1, s1]; exact .inr rfl) (by decide) (by decide) (.inl f1) (fun _ _ => if_pos rfl)
    refine k _ G2 h2.re (I2.sub fun q' x => x.2 x.1) (k1.trans kk2) (fun q' => ?_) F1 S1
    show (if q' = q then blank else z1.v q') = _
    rw [v1]
  refine ⟨_, rfl, _, _, rfl, rfl, by show (0 : Int) < 2; omega, rfl, rfl, _, rfl, ?_⟩
  cases hF : z.F q with
  | some fr =>
    rw [hF] at hc
    obtain ⟨c1, c2⟩ := code_f hc
    obtain ⟨r, hr1, hr2⟩ := I.P.pg q fr dq hF
    have hS : z.S q = none := by
      rcases I.nb q dq (fun x => x) with y | y
      · rw [hF] at y; cases y
      · exact y
    refine ite_t (by show eqB (.int (c % 2)) (.int 1) = true; rw [eqB_int, c1]; rfl) ?_
    refine ⟨_, rfl, h.pa.p, _, rfl, ho.pool.p, rfl, _, rfl, _, _, rfl, rfl, ⟨by decide, by decide⟩, _, rfl, h.pa, z.s, fr, hp q, r, (by show [Da.obj _, .int (c / 16), _] = _; rw [c2]; rfl), ho.pool, W, hr1, hown, (I.P.sp _ _).mpr ⟨r, hr1, hr2⟩, fun G1 p1 k1 => ?_⟩
    obtain ⟨h1, kk1⟩ := ho.upPool p1 k1
    have I1 := I.leaveF dq hF hr1
    have hl := lt_get hr1
    have := W.l1
    refine ⟨_, rfl, _, rfl, h.pa.p, _, rfl, h1.pool.p, rfl, _, rfl, _, _, rfl, rfl, ⟨by decide, by decide⟩, h.pa, _, fr, drp r (hp q), (by show [Da.obj _, .int (c / 16)] = _; rw [c2]), h1.pool, I1.P.ln, List.getElem?_set_self hl, ?_⟩
    refine ⟨_, rfl, _, _, rfl, rfl, ⟨by decide, by decide⟩, h, ts, _, _, drp r (hp q), fr, true, (by show [Da.obj _, _, .int (c / 16), _] = _; rw [c2]), h1.re, I1, by omega, fun x hx => ?_, fun sh G2 h2 I2 k2 => ?_⟩
    · obtain ⟨hxr, hne⟩ := List.mem_filter.mp hx
      obtain ⟨q', d', rfl, e'⟩ := I.P.pages hr1 hr2 hxr
      have nq : q' ≠ q := fun e => of_decide_eq_true hne (by rw [e])
      have s' : z.S q' = none := by
        rcases I.nb q' d' (fun x => x) with y | y
        · rw [e'] at y; cases y
        · exact y
      exact ⟨q', d', rfl, .inl ⟨rfl, (if_neg nq).trans e', s'⟩⟩
    · refine cut _ _ ⟨{ z with s := { sh := sh, ha := z.s.ha.set fr (drp r (hp q)), sp := z.s.sp.filter fun x => decide (x.1 ≠ hp q) }, F := fun q' => if q' = q then none else z.F q' }, _, rfl, h2, I2.sub fun q' x => x.1.resolve_left fun y => y, kk1.trans k2, rfl, fun _ => rfl, fun q' => ?_⟩
      show z.S q' = _
      by_cases e : q' = q
      · rw [if_pos e, e]; exact hS
      · rw [if_neg e]
  | none =>
    rw [hF] at hc
    have Fq : ∀ q', z.F q' = if q' = q then none else z.F q' := fun q' => by
      by_cases e : q' = q
      · rw [if_pos e, e]; exact hF
      · rw [if_neg e]
    have c0 : c % 2 = 0 := by
      cases hS : z.S q with
      | none => rw [hS] at hc; exact (code_n hc).1
      | some i => rw [hS] at hc; exact (code_s hc).1
    refine ite_f (by show ¬ eqB (.int (c % 2)) (.int 1) = true; rw [eqB_int, c0]; decide) ?_
    cases hS : z.S q with
    | none =>
      rw [hS] at hc
      obtain ⟨_, c2⟩ := code_n hc
      refine ⟨_, rfl, _, _, rfl, rfl, ⟨by decide, by decide⟩, _, _, rfl, rfl, false, bl_f (by show ¬ (0 : Int) < c / 16; omega), ?_⟩
      refine cut _ _ ⟨z, none, rfl, ho, I.sub fun q x => x.elim, HK.refl _ _, rfl, Fq, fun q' => ?_⟩
      by_cases e : q' = q
      · rw [if_pos e, e]; exact hS
      · rw [if_neg e]
    | some i =>
      rw [hS] at hc
      obtain ⟨_, c2⟩ := code_s hc
      obtain ⟨rw0, hrw, hqr⟩ := I.Z.pg q i dq hS
      have hg := I.vs q i dq hS
      have Z := I.Z.wf
      obtain ⟨rl, rok⟩ := Z.ok i rw0 hrw
      have ce : c / 16 - 1 = (i : Nat) := by omega
      refine ⟨_, rfl, _, _, rfl, rfl, ⟨by decide, by decide⟩, _, _, rfl, rfl, true, bl_t (by show (0 : Int) < c / 16; omega), ?_⟩
      refine ⟨_, rfl, h.sa.p, _, rfl, ho.slot.p, rfl, _, rfl, _, _, rfl, rfl, ⟨by decide, by decide⟩, _, _, rfl, rfl, h.sa, z.u, i, rw0, (by show [Da.obj _, .int (c / 16 - 1)] = _; rw [ce]), ho.slot, hrw, ?_⟩
      refine ⟨_, rfl, lc_pure (fun d => !eqB d (hD (hp q))) (fun d => d) trivial (small_len (by rw [List.length_map]; omega)) (fun d hd R S hx => ?_) ?_⟩
      · obtain ⟨x, hxr, rfl⟩ := List.mem_map.mp hd
        refine ⟨_, rfl, _, rfl, ok_hd (rok.1 x hxr), ok_hd hown, _, rfl, ?_⟩
        by_cases hb : (!eqB (hD x) (hD (hp q))) = true
        · rw [if_pos hb] at hx
          exact ite_t hb ⟨_, rfl, hx⟩
        · rw [if_neg hb] at hx
          exact ite_f hb hx
      rw [filt_hd]
      refine ⟨_, rfl, h.sa.p, _, rfl, ho.slot.p, rfl, _, rfl, _, _, rfl, rfl, ⟨by decide, by decide⟩, _, _, rfl, rfl, _, rfl, h.sa, z.u, i, hp q, rw0, z.v q, (by show [Da.obj _, .int (c / 16 - 1), _] = _; rw [ce]; rfl), ho.slot, Z, hrw, hg, hown, (I.Z.sp _ _).mpr ⟨_, hrw, hqr⟩, fun G3 p3 k3 => ?_⟩
      obtain ⟨h3, kk3⟩ := ho.upSlot p3 k3
      have I3 := I.leaveS dq hS hrw
      have hi57 : i + 1 ≤ 4095 := by omega
      refine ⟨_, rfl, _, rfl, _, rfl, _, _, rfl, rfl, ⟨by decide, by decide⟩, h, ts, _, _, drp rw0 (hp q), i + 1, false, ?_, h3.re, I3, by omega, fun x hx => ?_, fun sh G4 h4 I4 k4 => ?_⟩
      · show [Da.obj _, _, .int (c / 16), _] = _
        rw [c2]; rfl
      · obtain ⟨hxr, hne⟩ := List.mem_filter.mp hx
        obtain ⟨q', d', rfl, e'⟩ := (I.Z.row i rw0 hrw).2.2 x hxr
        have nq : q' ≠ q := fun e => of_decide_eq_true hne (by rw [e])
        have f' : z.F q' = none := by
          rcases I.nb q' d' (fun x => x) with y | y
          · exact y
          · rw [e'] at y; cases y
        exact ⟨q', d', rfl, .inr ⟨rfl, f', i, (if_neg nq).trans e', rfl⟩⟩
      · refine cut _ _ ⟨{ z with s := { z.s with sh := sh }, u := lvS z.u i rw0 (hp q), S := fun q' => if q' = q then none else z.S q' }, _, rfl, h4, I4.sub fun q' x => x.1.resolve_left fun y => y, kk3.trans k4, rfl, Fq, fun _ => rfl⟩
end
end Lw
set_option maxHeartbeats 4000000
/-! beside -/
namespace Lw
open PySem PySem.Spec PyProof.Rows L2
abbrev dBeside : Stmt := top 59
theorem set_id {α : Type} {l : List α} {i : Nat} {x : α} (h : l[i]? = some x) : l.set i x = l := by
  apply List.ext_getElem?
  intro j
  rw [get_set]
  by_cases e : i = j ∧ i < l.length
  · rw [if_pos e, ← e.1, h]
  · rw [if_neg e]
theorem PoolInv.rowlen {ts : Tbs} {s : PS} {F : Pg → Option Nat} (I : PoolInv ts s F) {f : Nat} {r : List Hd} (hf : s.ha[f]? = some r) : r.length < 60 := by
  have := nodup_le r U (lt_nodup (I.srt r (mem_get hf))) fun h hh => I.inU hf hh
  rw [U_len] at this
  omega
theorem SlotInv.rowlen {ts : Tbs} {u : SS} {S : Pg → Option Nat} (I : SlotInv ts u S) {i : Nat} {r : List Hd} (hi : nl u.hs i = some r) : r.length < 60 := by
  have := nodup_le r U (lt_nodup (I.row i r hi).2.1) fun h hh => I.inU hi hh
  rw [U_len] at this
  omega
section
variable {P : Program} {w : World} {K : PySem.W.Frag} {mg : Str → Option Value} {base : Heap} {k : Nat} {C D E' : Addr}
abbrev nBeside : List Str := ["house", "lodge", "part", "place", "pool", "slots", "tables", "other", "number", "cell", "own"]
theorem scBeside : FnScope nBeside ["house", "lodge", "part", "place"] (defScope dBeside) := ⟨rfl, rfl, rfl, by decide +kernel, rfl, by decide +kernel, by decide +kernel⟩
def SBeside (C D E' : Addr) : Sp3 := fun ds G Q => ∃ h ts z q q2, ds = [.obj h.hh, .int (q.1 : Nat), .int (q.2 : Nat), .tup [.int (q2.1 : Nat), .int (q2.2 : Nat)]] ∧ HouseAt C E' D h ts z G ∧ Inv ts z Cl ∧ dom ts q ∧ dom ts q2 ∧ q2 ≠ q ∧
  ∀ z' G', HouseAt C E' D h ts z' G' → Inv ts z' Cl → HK h G G' → (∀ q', z'.v q' = if q' = q then z.v q2 else z.v q') → Q .non G'
theorem okBeside {f : Addr} {fd : FuncData} (F : Fun K "_law_beside" "_law_beside" dBeside f fd) (T : Txt K w mg) (TC : PTx K mg C) (TE : PTx K mg E') (TD : TTx K mg D) (D0 : MethOk P w K mg base 6 D "cell" [] (STCell C D)) (D1 : MethOk P w K mg base 3 C "holders" [] (SHoldersOf C)) (D2 : MethOk P w K mg base 4 C "share" [] (SShare C))
    (D5 : MethOk P w K mg base 2 E' "holders" [] (SSHoldersOf E')) (D6 : MethOk P w K mg base 3 E' "share" [] (SSShare E')) (D7 : DefOk P w K mg base 7 "_law_told" [] (STold C D E')) (D8 : DefOk P w K mg base 8 "_law_left" [] (SLeft C D E')) : FnOk P w K mg base CX0 9 f fd ["house", "lodge", "part", "place"] (spl K (SBeside C D E')) := by
  refine Fun3 F scBeside (fun ds G Q ⟨_, _, _, _, _, e, _⟩ => by rw [e]; rfl) fun cdv A outer s H E hr => ⟨_, s_cons (s_asg (v 0) (g_lst rfl (gs_cons (g_name (i := 4) scBeside.nd) (gs_cons (g_name (i := 5) scBeside.nd) (gs_cons (g_name (i := 6) scBeside.nd) gs_nil)))))
    (s_cons (s_asg (v 3) (g_tup rfl (gs_cons (g_name (i := 7) scBeside.nd) (gs_cons (g_name (i := 8) scBeside.nd) gs_nil))))
    (s_cons (s_set (i := 9) scBeside.nd (e_meth D0 TD.cl hr (e_ixL (v 6) (v 7)) (a_cons (v 8) a_nil)))
    (s_cons (s_expr (e_call D8 hr (a_cons (v 0) (a_cons (v 1) (a_cons (v 2) a_nil)))))
    (s_cons (s_set (i := 10) scBeside.nd (e_tup (a_cons e_str (a_cons (v 1) (a_cons (v 2) a_nil)))))
    (s_one (s_if (t_eq hr.units (e_mod (v 9) e_int) e_int) (s_cons (s_expr (e_meth D2 TC.cl hr (v 4) (a_cons (e_fdiv (v 9) e_int) (a_cons (v 10) a_nil)))) (s_one (s_expr (e_call D7 hr (a_cons (v 0) (a_cons (e_meth D1 TC.cl hr (v 4) (a_cons (e_fdiv (v 9) e_int) a_nil)) (a_cons (e_fdiv (v 9) e_int) (a_cons e_bl a_nil))))))))
      (s_one (s_if (t_gt (e_fdiv (v 9) e_int) e_int)
        (s_cons (s_expr (e_meth D6 TE.cl hr (v 5) (a_cons (e_sub (e_fdiv (v 9) e_int) e_int) (a_cons (v 10) a_nil)))) (s_one (s_expr (e_call D7 hr (a_cons (v 0) (a_cons (e_meth D5 TE.cl hr (v 5) (a_cons (e_sub (e_fdiv (v 9) e_int) e_int) a_nil)) (a_cons (e_fdiv (v 9) e_int) (a_cons e_bl a_nil)))))))) s_nil)))))))), ?_⟩
  rintro ds G Q ⟨h, ts, z, q, q2, rfl, ho, I, dq, dq2, nq, k⟩
  obtain ⟨t, lo, c, ht, hq2, he, hc, hcm⟩ := I.ent dq2 fun x => x
  obtain ⟨x, o, hat, ta⟩ := ho.table ht
  have hb := I.P.dom_bd dq
  have hown : HdOk (hp q) := U_ok (U_page hb.1 hb.2)
  refine ⟨_, rfl, h.hh, _, rfl, ho.hs, rfl, ?_⟩
  refine ⟨_, _, rfl, _, _, rfl, _, _, rfl, rfl, ?_⟩
  refine ⟨_, rfl, _, rfl, rfl, ?_⟩
  refine ⟨_, _, rfl, _, _, rfl, rfl, ?_⟩
  refine ⟨_, rfl, _, rfl, h.tl, _, (q2.1 : Nat), _, rfl, rfl, ho.tl, hat, x, _, rfl, ta.t, rfl, _, rfl, h.pa, z.s, x, o, q2.1, t.n, t.f0, q2.2, lo, c, rfl, ⟨ho.pool, ta⟩, hq2, he, ?_⟩
  refine ⟨_, rfl, _, rfl, _, rfl, h, ts, z, q, rfl, ho, I, dq, fun z1 G1 h1 I1 k1 v1 F1 S1 => ?_⟩
  refine ⟨_, rfl, _, rfl, sz3, ?_⟩
  refine ⟨_, rfl, _, _, rfl, rfl, by show (0 : Int) < 2; omega, rfl, rfl, _, rfl, ?_⟩
  have fq : z1.F q = none := by rw [F1, if_pos rfl]
  have sq : z1.S q = none := by rw [S1, if_pos rfl]
  have eF : z1.F q2 = z.F q2 := by rw [F1, if_neg nq]
  have eS : z1.S q2 = z.S q2 := by rw [S1, if_neg nq]
  have eV : z1.v q2 = z.v q2 := by rw [v1, if_neg nq]
  have W := I1.P.wf
  have J := (I1.sub (D' := fun q' => q' = q) fun _ x => x.elim).setv (x := z1.v q2) fq sq rfl
  have vv : ∀ q', (if q' = q then z1.v q2 else z1.v q') = if q' = q then z.v q2 else z.v q' := fun q' => by
    by_cases e : q' = q
    · rw [if_pos e, if_pos e, eV]
    · rw [if_neg e, if_neg e, v1, if_neg e]
  cases hF : z.F q2 with
  | some fr =>
    rw [hF] at hc eF
    obtain ⟨c1, c2⟩ := code_f hc
    obtain ⟨r, hr1, hr2⟩ := I1.P.pg q2 fr dq2 eF
    obtain ⟨rl, rok⟩ := W.ok r (mem_get hr1)
    have hg := I1.vf q2 fr dq2 eF
    have pgs : ∀ x ∈ r, ∃ p, dom ts p ∧ x = hp p ∧ z1.F p = some fr := fun x hx => I1.P.pages hr1 hr2 hx
    have hpg : PgOk (z1.v q2) := I1.P.pgs _ (mem_get hg)
    refine ite_t (by show eqB (.int (c % 2)) (.int 1) = true; rw [eqB_int, c1]; rfl) ?_
    refine ⟨_, rfl, h.pa.p, _, rfl, h1.pool.p, rfl, _, rfl, _, _, rfl, rfl, ⟨by decide, by decide⟩, _, rfl, h.pa, z1.s, fr, hp q, r, (by show [Da.obj _, .int (c / 16), _] = _; rw [c2]; rfl), h1.pool, W, hr1, List.ne_nil_of_mem hr2, I1.P.rowlen hr1, hown, tabB_pages (fun x hx => ?_), I1.P.nospot fq, fun L' hL hP G2 p2 k2 => ?_⟩
    · rcases List.mem_cons.mp hx with e | e
      · exact ⟨q, e⟩
      · obtain ⟨p, _, e, _⟩ := pgs x e
        exact ⟨p, e⟩
    obtain ⟨h2, kk2⟩ := h1.upPool p2 k2
    have I2 := J.holdF (f := fr) (r := r) (L' := L') dq fq hr1 rfl (fun x hx => by
      obtain ⟨p, d, e, fp⟩ := pgs x hx
      refine ⟨p, e, ?_⟩
      have np : p ≠ q := fun e => by rw [e, fq] at fp; cases fp
      show (if p = q then z1.v q2 else z1.v p) = (if q = q then z1.v q2 else z1.v q)
      rw [if_neg np, if_pos rfl]
      have := I1.vf p fr d fp
      rw [hg] at this
      exact (Option.some.inj this).symm) hL hP (by show PgOk (if q = q then z1.v q2 else z1.v q); rw [if_pos rfl]; exact hpg)
    have esh : z1.s.sh.set fr (if q = q then z1.v q2 else z1.v q) = z1.s.sh := by rw [if_pos rfl]; exact set_id hg
    have h2' := h2.re (z' := { z1 with s := ⟨z1.s.sh.set fr (if q = q then z1.v q2 else z1.v q), z1.s.ha.set fr L', z1.s.sp ++ [(hp q, fr)]⟩, F := fun q' => if q' = q then some fr else z1.F q', v := fun q' => if q' = q then z1.v q2 else z1.v q' }) (by rw [esh])
    have hl := lt_get hr1
    have := W.l1
    refine ⟨_, rfl, _, rfl, h.pa.p, _, rfl, h2.pool.p, rfl, _, rfl, _, _, rfl, rfl, ⟨by decide, by decide⟩, h.pa, _, fr, L', (by show [Da.obj _, .int (c / 16)] = _; rw [c2]), h2.pool, (by show z1.s.sh.length = (z1.s.ha.set fr L').length; rw [List.length_set]; exact W.ln), List.getElem?_set_self hl, ?_⟩
    refine ⟨_, rfl, _, _, rfl, rfl, ⟨by decide, by decide⟩, h, ts, _, _, L', fr, true, (by show [Da.obj _, _, .int (c / 16), _] = _; rw [c2]), h2', I2, by omega, fun x hx => ?_, fun sh G3 h3 I3 k3 => ?_⟩
    · rcases List.mem_append.mp (hL.mem_iff.mp hx) with hx | hx
      · obtain ⟨p, d, e, fp⟩ := pgs x hx
        have np : p ≠ q := fun e => by rw [e, fq] at fp; cases fp
        refine ⟨p, d, e, .inl ⟨rfl, (if_neg np).trans fp, ?_⟩⟩
        rcases I1.nb p d (fun x => x) with y | y
        · rw [fp] at y; cases y
        · exact y
      · exact ⟨q, dq, List.mem_singleton.mp hx, .inl ⟨rfl, if_pos rfl, sq⟩⟩
    · exact k _ G3 h3 (I3.sub fun q' x => x.2 (by rw [x.1]; exact hL.mem_iff.mpr (List.mem_append_right _ (List.mem_singleton.mpr rfl)))) ((k1.trans kk2).trans k3) vv
  | none =>
    rw [hF] at hc eF
    have c0 : c % 2 = 0 := by
      cases hS : z.S q2 with
      | none => rw [hS] at hc; exact (code_n hc).1
      | some i => rw [hS] at hc; exact (code_s hc).1
    refine ite_f (by show ¬ eqB (.int (c % 2)) (.int 1) = true; rw [eqB_int, c0]; decide) ?_
    cases hS : z.S q2 with
    | none =>
      rw [hS] at hc
      obtain ⟨_, c2⟩ := code_n hc
      have b2 := I.vb q2 dq2 (fun x => x) hF hS
      refine ⟨_, rfl, _, _, rfl, rfl, ⟨by decide, by decide⟩, _, _, rfl, rfl, false, bl_f (by show ¬ (0 : Int) < c / 16; omega), ?_⟩
      refine k z1 G1 h1 I1 k1 fun q' => ?_
      rw [v1, b2]
    | some i =>
      rw [hS] at hc eS
      obtain ⟨_, c2⟩ := code_s hc
      obtain ⟨rw0, hrw, hqr⟩ := I1.Z.pg q2 i dq2 eS
      have hg := I1.vs q2 i dq2 eS
      have Z := I1.Z.wf
      obtain ⟨rl, rok⟩ := Z.ok i rw0 hrw
      have ce : c / 16 - 1 = (i : Nat) := by omega
      have hi57 : i + 1 ≤ 4095 := by omega
      refine ⟨_, rfl, _, _, rfl, rfl, ⟨by decide, by decide⟩, _, _, rfl, rfl, true, bl_t (by show (0 : Int) < c / 16; omega), ?_⟩
      refine ⟨_, rfl, h.sa.p, _, rfl, h1.slot.p, rfl, _, rfl, _, _, rfl, rfl, ⟨by decide, by decide⟩, _, _, rfl, rfl, _, rfl, h.sa, z1.u, i, hp q, rw0, (by show [Da.obj _, .int (c / 16 - 1), _] = _; rw [ce]; rfl), h1.slot, Z, hrw, I1.Z.rowlen hrw, hown, tabB_pages (fun x hx => ⟨q, List.mem_singleton.mp hx⟩), I1.Z.nospot sq, fun L' hL hP G2 p2 k2 => ?_⟩
      obtain ⟨h2, kk2⟩ := h1.upSlot p2 k2
      have I2 := J.holdS (i := i) (r := rw0) (L' := L') dq sq hrw rfl (by show nl z1.u.sl i = some (if q = q then z1.v q2 else z1.v q); rw [if_pos rfl]; exact hg) hL hP
      refine ⟨_, rfl, _, rfl, h.sa.p, _, rfl, h2.slot.p, rfl, _, rfl, _, _, rfl, rfl, ⟨by decide, by decide⟩, _, _, rfl, rfl, h.sa, _, i, L', (by show [Da.obj _, .int (c / 16 - 1)] = _; rw [ce]), h2.slot, (by show nl (setN z1.u.hs i L') i = _; rw [nl_set, if_pos rfl]), ?_⟩
      refine ⟨_, rfl, _, _, rfl, rfl, ⟨by decide, by decide⟩, h, ts, _, _, L', i + 1, false, ?_, h2.re, I2, hi57, fun x hx => ?_, fun sh G3 h3 I3 k3 => ?_⟩
      · show [Da.obj _, _, .int (c / 16), _] = _
        rw [c2]; rfl
      · rcases List.mem_append.mp (hL.mem_iff.mp hx) with hx | hx
        · obtain ⟨p, d, e, fp⟩ := (I1.Z.row i rw0 hrw).2.2 x hx
          have np : p ≠ q := fun e => by rw [e, sq] at fp; cases fp
          refine ⟨p, d, e, .inr ⟨rfl, ?_, i, (if_neg np).trans fp, rfl⟩⟩
          rcases I1.nb p d (fun x => x) with y | y
          · exact y
          · rw [fp] at y; cases y
        · exact ⟨q, dq, List.mem_singleton.mp hx, .inr ⟨rfl, fq, i, if_pos rfl, rfl⟩⟩
      · exact k _ G3 h3 (I3.sub fun q' x => x.2 (by rw [x.1]; exact hL.mem_iff.mpr (List.mem_append_right _ (List.mem_singleton.mpr rfl)))) ((k1.trans kk2).trans k3) vv
end
end Lw
set_option maxHeartbeats 4000000
/-! the law's sheets; a deed -/
namespace Lw
open PySem PySem.Spec PyProof.Rows L2
abbrev dDeed : Stmt := top 60
/-- the pages of a lodge, as the law has them -/
def pgsD (v : Pg → List Int) (l n : Nat) : List Da := (List.range n).map fun p => pD (v (l, p))
theorem pgsD_get {v : Pg → List Int} {l n p : Nat} (h : p < n) : (pgsD v l n)[p]? = some (pD (v (l, p))) := by
  unfold pgsD
  rw [List.getElem?_map, List.getElem?_range h]
  rfl
theorem pgsD_len (v : Pg → List Int) (l n : Nat) : (pgsD v l n).length = n := by unfold pgsD; rw [List.length_map, List.length_range]
structure SheetsAt (h : Hs) (p sd : Addr) (la : List Addr) (ts : Tbs) (v : Pg → List Int) (G : Gp) : Prop where
  gd : G sd = some (.lst (la.map Da.obj))
  ln : la.length = ts.length
  nd : la.Nodup
  row : ∀ (l : Nat) (t : Tab), ts[l]? = some t → ∃ a, la[l]? = some a ∧ G a = some (.lst (pgsD v l t.n))
  pf : ∀ a ∈ la, PotFree h a ∧ a ≠ p ∧ a ≠ sd
  sp : sd ≠ p ∧ sd ≠ h.pa.a ∧ sd ≠ h.pa.b
  t1 : 1 ≤ ts.length
  al : ∀ l, l < ts.length → ∃ t, ts[l]? = some t
  n1 : ∀ (l : Nat) (t : Tab), ts[l]? = some t → 1 ≤ t.n
/-- all stays but the pot, the sheets, the house's six -/
def DK (h : Hs) (p : Addr) (la : List Addr) (G G' : Gp) : Prop := ∀ x o, x ≠ p → x ∉ la → x ≠ h.pa.a → x ≠ h.pa.b → x ≠ h.pa.c → x ≠ h.sa.a → x ≠ h.sa.b → x ≠ h.sa.c → G x = some o → G' x = some o
theorem DK.refl (h : Hs) (p : Addr) (la : List Addr) (G : Gp) : DK h p la G G := fun _ _ _ _ _ _ _ _ _ _ e => e
theorem DK.trans {h : Hs} {p : Addr} {la : List Addr} {G G1 G2 : Gp} (a : DK h p la G G1) (b : DK h p la G1 G2) : DK h p la G G2 := fun x o n1 n2 n3 n4 n5 n6 n7 n8 e => b x o n1 n2 n3 n4 n5 n6 n7 n8 (a x o n1 n2 n3 n4 n5 n6 n7 n8 e)
theorem DK.of {h : Hs} {p : Addr} {la : List Addr} {G G' : Gp} (k : HKP h p G G') : DK h p la G G' := fun x o n1 _ n3 n4 n5 n6 n7 n8 e => k x o n1 n3 n4 n5 n6 n7 n8 e
theorem HKP.pot {h : Hs} {p : Addr} {G G' : Gp} (k : ∀ x o, x ≠ p → G x = some o → G' x = some o) : HKP h p G G' := fun x o n _ _ _ _ _ _ e => k x o n e
section
variable {C D E' : Addr} {h : Hs} {p sd : Addr} {la : List Addr} {ts : Tbs} {z : St} {v : Pg → List Int} {G G' : Gp}
theorem SheetsAt.keep (S : SheetsAt h p sd la ts v G) (ho : HouseAt C E' D h ts z G) (k : HKP h p G G') : SheetsAt h p sd la ts v G' := by
  have P := ho.pool
  have Z := ho.slot
  refine ⟨k _ _ S.sp.1 S.sp.2.1 S.sp.2.2 (ne_kind S.gd P.c nofun) (ne_kind S.gd Z.a nofun) (ne_kind S.gd Z.b nofun) (ne_kind S.gd Z.c nofun) S.gd, S.ln, S.nd, fun l t ht => ?_, S.pf, S.sp, S.t1, S.al, S.n1⟩
  obtain ⟨a, h1, h2⟩ := S.row l t ht
  obtain ⟨pf, np, ns⟩ := S.pf a (mem_get h1)
  exact ⟨a, h1, k _ _ np pf.a pf.b (ne_kind h2 P.c nofun) (ne_kind h2 Z.a nofun) (ne_kind h2 Z.b nofun) (ne_kind h2 Z.c nofun) h2⟩
theorem HouseAt.wrL {a : Addr} {l : List Da} (H : HouseAt C E' D h ts z G) (pf : PotFree h a) (gp : G a = some (.lst l)) (k : ∀ x o, x ≠ a → G x = some o → G' x = some o) : HouseAt C E' D h ts z G' := by
  have P := H.pool
  have S := H.slot
  refine ⟨⟨k _ _ (ne_kind P.p gp nofun) P.p, k _ _ pf.a.symm P.a, k _ _ pf.b.symm P.b, k _ _ (ne_kind P.c gp nofun) P.c, P.ab⟩, ⟨k _ _ (ne_kind S.p gp nofun) S.p, k _ _ (ne_kind S.a gp nofun) S.a, k _ _ (ne_kind S.b gp nofun) S.b, k _ _ (ne_kind S.c gp nofun) S.c, S.ab⟩,
    k _ _ pf.hh.symm H.hs, k _ _ pf.tl.symm H.tl, H.ln, fun l t ht => ?_, H.ha, H.hb, H.ta, H.tb, H.cc⟩
  obtain ⟨x, o, h1, h2⟩ := H.tab l t ht
  exact ⟨x, o, h1, h2.oa, h2.ob, k _ _ (ne_kind h2.t gp nofun) h2.t, k _ _ (pf.tb _ (mem_get h1)).symm h2.o⟩
theorem pgsD_set {v : Pg → List Int} {l n i : Nat} (x : List Int) : (pgsD v l n).set i (pD x) = pgsD (fun q => if q = (l, i) then x else v q) l n := by
  apply List.ext_getElem?
  intro j
  rw [get_set, pgsD_len]
  by_cases hj : j < n
  · rw [pgsD_get hj, pgsD_get hj]
    by_cases e : i = j
    · subst e
      rw [if_pos ⟨rfl, hj⟩, if_pos rfl]
    · rw [if_neg fun z => e z.1, if_neg fun z => e (Prod.mk.inj z).2.symm]
  · have e1 : (pgsD v l n)[j]? = none := List.getElem?_eq_none (by rw [pgsD_len]; omega)
    have e2 : (pgsD (fun q => if q = (l, i) then x else v q) l n)[j]? = none := List.getElem?_eq_none (by rw [pgsD_len]; omega)
    rw [if_neg fun z => hj (by omega), e1, e2]
theorem pgsD_other {v : Pg → List Int} {l l' n i : Nat} {x : List Int} (ne : l' ≠ l) : pgsD (fun q => if q = (l, i) then x else v q) l' n = pgsD v l' n := by
  unfold pgsD
  refine List.map_congr_left fun j _ => ?_
  show pD (if (l', j) = (l, i) then x else v (l', j)) = _
  rw [if_neg fun z => ne (Prod.mk.inj z).1]
/-- a page of the sheets is put -/
theorem SheetsAt.write (S : SheetsAt h p sd la ts v G) {q : Pg} {t : Tab} {a : Addr} (x : List Int) (ht : ts[q.1]? = some t) (ha : la[q.1]? = some a) : SheetsAt h p sd la ts (fun q' => if q' = q then x else v q') (up G a (.lst ((pgsD v q.1 t.n).set q.2 (pD x)))) := by
  obtain ⟨pf, np, ns⟩ := S.pf a (mem_get ha)
  refine ⟨by rw [up_ne ns.symm]; exact S.gd, S.ln, S.nd, fun l t' ht' => ?_, S.pf, S.sp, S.t1, S.al, S.n1⟩
  obtain ⟨b, h1, h2⟩ := S.row l t' ht'
  refine ⟨b, h1, ?_⟩
  by_cases e : l = q.1
  · subst e
    rw [ha] at h1
    obtain rfl := Option.some.inj h1
    rw [ht] at ht'
    obtain rfl := Option.some.inj ht'
    rw [up_same, pgsD_set]
  · have : b ≠ a := fun z => by
      subst z
      exact e ((List.getElem?_inj (lt_get h1) S.nd).mp (h1.trans ha.symm))
    rw [up_ne this, h2]
    show some (AO.lst _) = some (AO.lst (pgsD (fun q' => if q' = (q.1, q.2) then x else v q') l t'.n))
    rw [pgsD_other e]
theorem SheetsAt.at (S : SheetsAt h p sd la ts v G) {l : Nat} {t : Tab} {a : Addr} (ht : ts[l]? = some t) (ha : la[l]? = some a) : G a = some (.lst (pgsD v l t.n)) := by
  obtain ⟨b, h1, h2⟩ := S.row l t ht
  rw [ha] at h1
  rw [Option.some.inj h1]
  exact h2
theorem SheetsAt.congr {v' : Pg → List Int} (S : SheetsAt h p sd la ts v G) (e : ∀ q, v' q = v q) : SheetsAt h p sd la ts v' G := by
  rw [show v' = v from funext e]
  exact S
end
section
variable {P : Program} {w : World} {K : PySem.W.Frag} {mg : Str → Option Value} {base : Heap} {k : Nat} {C D E' : Addr}
abbrev nDeed : List Str := ["pot", "house", "sheets", "way", "lodge", "part", "other", "number", "frame", "place", "cell", "ahead"]
theorem scDeed : FnScope nDeed ["pot", "house", "sheets"] (defScope dDeed) := ⟨rfl, rfl, rfl, by decide +kernel, rfl, by decide +kernel, by decide +kernel⟩
def SDeed (C D E' : Addr) : Sp3 := fun ds G Q => ∃ p m h ts z sd la, ds = [.obj p, .obj h.hh, .obj sd] ∧ PotAt p m G ∧ m ≤ 90000 ∧ PotFree h p ∧ HouseAt C E' D h ts z G ∧ Inv ts z Cl ∧ SheetsAt h p sd la ts z.v G ∧
  ∀ z' G', HouseAt C E' D h ts z' G' → Inv ts z' Cl → PotAt p (m + 8) G' → SheetsAt h p sd la ts z'.v G' → DK h p la G G' → Q .non G'
theorem okDeed {f : Addr} {fd : FuncData} (F : Fun K "_law_deed" "_law_deed" dDeed f fd) (T : Txt K w mg) (TC : PTx K mg C) (TD : TTx K mg D) (D0 : MethOk P w K mg base 6 D "cell" [] (STCell C D)) (D1 : DefOk P w K mg base 1 "_law_take" [] STk) (D2 : DefOk P w K mg base 10 "_law_alone" [] (SAlone C D E'))
    (D3 : MethOk P w K mg base 4 C "put" [] (SPut C)) (D4 : DefOk P w K mg base 8 "_law_out" [] (SOut C D E')) (D5 : DefOk P w K mg base 8 "_law_left" [] (SLeft C D E')) (D6 : DefOk P w K mg base 9 "_law_beside" [] (SBeside C D E')) : FnOk P w K mg base CX0 11 f fd ["pot", "house", "sheets"] (spl K (SDeed C D E')) := by
  refine Fun3 F scDeed (fun ds G Q ⟨_, _, _, _, _, _, _, e, _⟩ => by rw [e]; rfl) fun cdv A outer s H E hr => ⟨_, s_cons (s_set (i := 3) scDeed.nd (e_call D1 hr (a_cons (v 0) (a_cons e_int a_nil))))
    (s_cons (s_set (i := 4) scDeed.nd (e_call D1 hr (a_cons (v 0) (a_cons (e_len T.len (v 2)) a_nil))))
    (s_cons (s_set (i := 5) scDeed.nd (e_call D1 hr (a_cons (v 0) (a_cons (e_len T.len (e_ixL (v 2) (v 4))) a_nil))))
    (s_cons (s_set (i := 6) scDeed.nd (e_call D1 hr (a_cons (v 0) (a_cons (e_len T.len (v 2)) a_nil))))
    (s_cons (s_set (i := 7) scDeed.nd (e_call D1 hr (a_cons (v 0) (a_cons (e_len T.len (e_ixL (v 2) (v 6))) a_nil))))
    (s_one (s_if (t_lt (v 3) e_int)
      (s_cons (s_set (i := 8) scDeed.nd (e_call D2 hr (a_cons (v 0) (a_cons (v 1) (a_cons (v 4) (a_cons (v 5) a_nil))))))
        (s_cons (s_par (i := 9) (j := 10) rfl scDeed.nd (a_cons (e_call D1 hr (a_cons (v 0) (a_cons e_int a_nil))) (a_cons (e_call D1 hr (a_cons (v 0) (a_cons e_int a_nil))) a_nil)))
        (s_cons (s_expr (e_meth D3 TC.cl hr (e_ixL (v 1) e_int) (a_cons (v 8) (a_cons (v 9) (a_cons (v 10) a_nil)))))
        (s_cons (s_set (i := 11) scDeed.nd (e_ixL (e_ixL (v 2) (v 4)) (v 5)))
        (s_one (s_asg (e_cat (e_cat (e_sl (v 11) o_none (o_some (v 9))) (e_tup (a_cons (v 10) a_nil))) (e_sl (v 11) (o_some (e_add (v 9) e_int)) o_none)) (g_set (e_ixL (v 2) (v 4)) (v 5))))))))
      (s_one (s_if (t_eq hr.units (v 3) e_int)
        (s_cons (s_set (i := 10) scDeed.nd (e_meth D0 TD.cl hr (e_ixL (e_ixL (v 1) e_int) (v 4)) (a_cons (v 5) a_nil)))
          (s_one (s_if (t_eq hr.units (e_mod (v 10) e_int) e_int) (s_one (s_expr (e_call D4 hr (a_cons (v 1) (a_cons (e_fdiv (v 10) e_int) a_nil))))) s_nil)))
        (s_one (s_if (t_eq hr.units (v 3) e_int)
          (s_cons (s_expr (e_call D5 hr (a_cons (v 1) (a_cons (v 4) (a_cons (v 5) a_nil))))) (s_one (s_asg (e_repT (e_tup (a_cons e_int a_nil)) e_int) (g_set (e_ixL (v 2) (v 4)) (v 5)))))
          (s_one (s_if (t_ne hr.units (e_tup (a_cons (v 6) (a_cons (v 7) a_nil))) (e_tup (a_cons (v 4) (a_cons (v 5) a_nil))))
            (s_cons (s_expr (e_call D6 hr (a_cons (v 1) (a_cons (v 4) (a_cons (v 5) (a_cons (e_tup (a_cons (v 6) (a_cons (v 7) a_nil))) a_nil))))))
              (s_one (s_asg (e_ixL (e_ixL (v 2) (v 6)) (v 7)) (g_set (e_ixL (v 2) (v 4)) (v 5))))) s_nil)))))))))))), ?_⟩
  rintro ds G Q ⟨p, m, h, ts, z, sd, la, rfl, pt, hm, pf, ho, I, S, k⟩
  -- the five numbers
  refine ⟨_, rfl, p, m, 8, rfl, pt, by omega, by omega, by omega, fun way G1 hw pt1 k1 => ?_⟩
  have ho1 := ho.pot pf pt k1
  have S1 := S.keep ho (HKP.pot k1)
  refine ⟨_, rfl, _, rfl, _, rfl, .inr (.inl ⟨sd, _, rfl, S1.gd, p, m + 1, (la.map Da.obj).length, rfl, pt1, by omega, (by rw [List.length_map, S.ln]; exact S.t1), (by rw [List.length_map, S.ln]; have := I.P.to; omega), fun lodge G2 hl pt2 k2 => ?_⟩)⟩
  rw [List.length_map, S.ln] at hl
  have ho2 := ho1.pot pf pt1 k2
  have S2 := S1.keep ho1 (HKP.pot k2)
  obtain ⟨t, ht⟩ : ∃ t, ts[lodge]? = some t := S.al _ hl
  obtain ⟨a, ha, ga⟩ := S2.row lodge t ht
  have tn := (I.P.tab _ t ht).n0
  refine ⟨_, rfl, _, rfl, _, rfl, sd, _, (lodge : Nat), _, rfl, rfl, S2.gd, at_nat (map_get Da.obj ha), _, rfl, .inr (.inl ⟨a, _, rfl, ga, p, m + 2, (pgsD z.v lodge t.n).length, rfl, pt2, by omega, (by rw [pgsD_len]; exact S.n1 _ t ht), (by rw [pgsD_len]; omega), fun part G3 hp3 pt3 k3 => ?_⟩)⟩
  rw [pgsD_len] at hp3
  have ho3 := ho2.pot pf pt2 k3
  have S3 := S2.keep ho2 (HKP.pot k3)
  refine ⟨_, rfl, _, rfl, _, rfl, .inr (.inl ⟨sd, _, rfl, S3.gd, p, m + 3, (la.map Da.obj).length, rfl, pt3, by omega, (by rw [List.length_map, S.ln]; exact S.t1), (by rw [List.length_map, S.ln]; have := I.P.to; omega), fun other G4 hl4 pt4 k4 => ?_⟩)⟩
  rw [List.length_map, S.ln] at hl4
  have ho4 := ho3.pot pf pt3 k4
  have S4 := S3.keep ho3 (HKP.pot k4)
  obtain ⟨t2, ht2⟩ : ∃ t, ts[other]? = some t := S.al _ hl4
  obtain ⟨a2, ha2, ga2⟩ := S4.row other t2 ht2
  have tn2 := (I.P.tab _ t2 ht2).n0
  refine ⟨_, rfl, _, rfl, _, rfl, sd, _, (other : Nat), _, rfl, rfl, S4.gd, at_nat (map_get Da.obj ha2), _, rfl, .inr (.inl ⟨a2, _, rfl, ga2, p, m + 4, (pgsD z.v other t2.n).length, rfl, pt4, by omega, (by rw [pgsD_len]; exact S.n1 _ t2 ht2), (by rw [pgsD_len]; omega), fun number G5 hp5 pt5 k5 => ?_⟩)⟩
  rw [pgsD_len] at hp5
  have ho5 := ho4.pot pf pt4 k5
  have S5 := S4.keep ho4 (HKP.pot k5)
  have kk5 : HKP h p G G5 := ((((HKP.pot k1).trans (HKP.pot k2)).trans (HKP.pot k3)).trans (HKP.pot k4)).trans (HKP.pot k5)
  clear k1 k2 k3 k4 k5 ho1 ho2 ho3 ho4 S1 S2 S3 S4 pt1 pt2 pt3 pt4 ga ga2
  obtain ⟨pfa, nap, nas⟩ := S.pf a (mem_get ha)
  have dq : dom ts (lodge, part) := ⟨t, ht, hp3⟩
  have dq2 : dom ts (other, number) := ⟨t2, ht2, hp5⟩
  have fin : ∀ z2 G9 x, HouseAt C E' D h ts z2 G9 → Inv ts z2 Cl → PotAt p (m + 8) G9 → SheetsAt h p sd la ts z.v G9 → DK h p la G G9 → (∀ q', z2.v q' = if q' = (lodge, part) then x else z.v q') → Q .non (up G9 a (.lst ((pgsD z.v lodge t.n).set part (pD x)))) := fun z2 G9 x h9 I9 pt9 S9 k9 e => by
    have g9 := S9.at ht ha
    refine k z2 _ (h9.wrL pfa g9 fun y o n e => (up_ne n).trans e) I9 ?_ ((S9.write (q := (lodge, part)) x ht ha).congr e) (k9.trans fun y o _ n2 _ _ _ _ _ _ e => (up_ne fun z => n2 (by rw [z]; exact mem_get ha)).trans e)
    obtain ⟨c1, c2, c3, e9, r9⟩ := pt9
    exact ⟨c1, c2, c3, (up_ne nap.symm).trans e9, r9⟩
  refine ⟨_, rfl, _, _, rfl, rfl, _, rfl, ?_⟩
  by_cases hw4 : (way : Int) < 4
  · refine ite_t (decide_eq_true hw4) ?_
    refine ⟨_, rfl, _, rfl, _, rfl, _, rfl, p, m + 5, h, ts, z, (lodge, part), rfl, pt5, by omega, pf, ho5, I, dq, fun z' f G6 h6 I6 k6 pt6 v6 F6 ha6 => ?_⟩
    have S6 := S5.keep ho5 k6
    refine ⟨_, rfl, p, m + 6, 8, rfl, pt6, by omega, by omega, by omega, fun pl G7 hpl pt7 k7 => ?_⟩
    have h7 := h6.pot pf pt6 k7
    have S7 := S6.keep h6 (HKP.pot k7)
    refine ⟨_, rfl, p, m + 7, 65536, rfl, pt7, by omega, by omega, by omega, fun ce G8 hce pt8 k8 => ?_⟩
    have h8 := h7.pot pf pt7 k8
    have S8 := S7.keep h7 (HKP.pot k8)
    refine ⟨_, _, rfl, ?_⟩
    have hg := I6.vf _ f dq F6
    refine ⟨_, rfl, h.hh, _, 0, _, rfl, rfl, h8.hs, rfl, h.pa.p, _, rfl, h8.pool.p, rfl, _, rfl, _, rfl, _, rfl, h.pa, z'.s, f, pl, (ce : Nat), [hp (lodge, part)], z'.v (lodge, part), rfl, h8.pool, I6.P.wf, ha6, nofun, hg, hpl, by omega, by omega, fun G9 p9 k9 => ?_⟩
    obtain ⟨h9, kk9⟩ := h8.upPool p9 k9
    have S9 := S8.keep h8 (HKP.of kk9)
    have I9 := I6.poke (pl := pl) (c := (ce : Nat)) dq F6 ha6 (fun x => x) (by omega) (by omega)
    have pt9 := pt8.hk h8 pf kk9
    refine ⟨_, rfl, _, rfl, sd, _, (lodge : Nat), _, rfl, rfl, S9.gd, at_nat (map_get Da.obj ha), _, rfl, a, _, (part : Nat), _, rfl, rfl, S9.at ht ha, at_nat (pgsD_get hp3), ?_⟩
    have hpg : PgOk (z.v (lodge, part)) := by rw [← v6]; exact I6.P.pgs _ (mem_get hg)
    refine ⟨_, rfl, _, rfl, _, rfl, _, rfl, _, rfl, sz1, _, _, rfl, rfl, ?_, _, rfl, _, rfl, _, _, rfl, rfl, _, rfl, _, rfl, _, _, rfl, rfl, ?_, ?_⟩
    · have := cut_len ((z.v (lodge, part)).map .int) none (some (pl : Int))
      rw [List.length_map, hpg.1] at this
      show (cutD ((z.v (lodge, part)).map .int) none (some (pl : Int))).length + 1 ≤ _
      rw [sizeLine_eq]; omega
    · have h2 := cut_len ((z.v (lodge, part)).map .int) none (some (pl : Int))
      have h3 := cut_len ((z.v (lodge, part)).map .int) (some ((pl : Int) + 1)) none
      rw [List.length_map, hpg.1] at h2 h3
      show (cutD ((z.v (lodge, part)).map .int) none (some (pl : Int)) ++ [Da.int (ce : Nat)]).length + (cutD ((z.v (lodge, part)).map .int) (some ((pl : Int) + 1)) none).length ≤ _
      rw [List.length_append, sizeLine_eq]
      show _ + 1 + _ ≤ _
      omega
    · refine ⟨_, rfl, _, rfl, sd, _, (lodge : Nat), _, rfl, rfl, S9.gd, at_nat (map_get Da.obj ha), _, rfl, a, _, part, part, rfl, rfl, S9.at ht ha, ix_nat (by rw [pgsD_len]; exact hp3), ?_⟩
      show Q .non (up G9 a (.lst ((pgsD z.v lodge t.n).set part (.tup (cutD ((z.v (lodge, part)).map .int) none (some (pl : Int)) ++ [Da.int (ce : Nat)] ++ cutD ((z.v (lodge, part)).map .int) (some ((pl : Int) + 1)) none)))))
      rw [cut_put _ pl _ (by rw [hpg.1]; exact hpl)]
      refine fin _ G9 ((z.v (lodge, part)).set pl (ce : Nat)) h9.re I9 pt9 S9 ((((((DK.of kk5).trans (DK.of k6)).trans (DK.of (HKP.pot k7))).trans (DK.of (HKP.pot k8)))).trans (DK.of (HKP.of kk9))) fun q' => ?_
      show (if q' = (lodge, part) then (z'.v (lodge, part)).set pl (ce : Nat) else z'.v q') = _
      rw [v6]
  refine ite_f (by simpa using hw4) ?_
  refine ⟨_, rfl, rfl, rfl, _, rfl, ?_⟩
  by_cases hw5 : (way : Int) = 4
  · refine ite_t (by rw [eqB_int]; exact decide_eq_true hw5) ?_
    obtain ⟨t', lo, c, ht', hq2, he, hc, hcm⟩ := I.ent dq fun x => x
    obtain ⟨x, o, hat, ta⟩ := ho5.table ht'
    refine ⟨_, rfl, h.hh, _, 2, _, rfl, rfl, ho5.hs, rfl, _, rfl, h.tl, _, (lodge : Nat), _, rfl, rfl, ho5.tl, hat, x, _, rfl, ta.t, rfl, _, rfl, h.pa, z.s, x, o, lodge, t'.n, t'.f0, part, lo, c, rfl, ⟨ho5.pool, ta⟩, hq2, he, ?_⟩
    refine ⟨_, rfl, _, _, rfl, rfl, by show (0 : Int) < 2; omega, rfl, rfl, _, rfl, ?_⟩
    have stay : Q .non G5 := k z G5 ho5 I (pt5.mono (by omega)) S5 (DK.of kk5)
    cases hF : z.F (lodge, part) with
    | some fr =>
      rw [hF] at hc
      obtain ⟨c1, c2⟩ := code_f hc
      obtain ⟨r, hr1, hr2⟩ := I.P.pg _ fr dq hF
      refine ite_t (by show eqB (.int (c % 2)) (.int 1) = true; rw [eqB_int, c1]; rfl) ?_
      refine ⟨_, rfl, _, rfl, _, _, rfl, rfl, ⟨by decide, by decide⟩, h, ts, z, fr, r, (by show [Da.obj _, .int (c / 16)] = _; rw [c2]), ho5, I, hr1, ⟨_, hr2⟩, fun z' G6 h6 I6 k6 oo => ?_⟩
      refine k z' G6 h6 I6 ((pt5.hk ho5 pf k6).mono (by omega)) ?_ ((DK.of kk5).trans (DK.of (HKP.of k6)))
      rw [oo.v]
      exact S5.keep ho5 (HKP.of k6)
    | none =>
      rw [hF] at hc
      have c0 : c % 2 = 0 := by
        cases hS : z.S (lodge, part) with
        | none => rw [hS] at hc; exact (code_n hc).1
        | some i => rw [hS] at hc; exact (code_s hc).1
      refine ite_f (by show ¬ eqB (.int (c % 2)) (.int 1) = true; rw [eqB_int, c0]; decide) stay
  refine ite_f (by rw [eqB_int]; simpa using hw5) ?_
  refine ⟨_, rfl, rfl, rfl, _, rfl, ?_⟩
  by_cases hw6 : (way : Int) = 5
  · refine ite_t (by rw [eqB_int]; exact decide_eq_true hw6) ?_
    refine ⟨_, rfl, _, rfl, _, rfl, h, ts, z, (lodge, part), rfl, ho5, I, dq, fun z' G6 h6 I6 k6 v6 F6 S6' => ?_⟩
    have S6 := S5.keep ho5 (HKP.of k6)
    refine ⟨sz1, _, _, rfl, rfl, nofun, by decide, by decide, by decide, ?_⟩
    refine ⟨_, rfl, _, rfl, sd, _, (lodge : Nat), _, rfl, rfl, S6.gd, at_nat (map_get Da.obj ha), _, rfl, a, _, part, part, rfl, rfl, S6.at ht ha, ix_nat (by rw [pgsD_len]; exact hp3), ?_⟩
    exact fin z' G6 blank h6 I6 ((pt5.hk ho5 pf k6).mono (by omega)) S6 ((DK.of kk5).trans (DK.of (HKP.of k6))) v6
  refine ite_f (by rw [eqB_int]; simpa using hw6) ?_
  refine ⟨_, rfl, _, rfl, sz2, _, rfl, _, rfl, sz2, rfl, rfl, _, rfl, ?_⟩
  by_cases hn : (other, number) = (lodge, part)
  · refine ite_f ?_ (k z G5 ho5 I (pt5.mono (by omega)) S5 (DK.of kk5))
    obtain ⟨e1, e2⟩ := Prod.mk.inj hn
    rw [eqB_t (by rw [e1, e2])]
    decide
  · refine ite_t ?_ ?_
    · rw [eqB_f fun e => ?_]
      · rfl
      · injection e with e
        obtain ⟨e1, e2⟩ := List.cons.inj e
        obtain ⟨e2, _⟩ := List.cons.inj e2
        injection e1 with e1
        injection e2 with e2
        exact hn (Prod.ext (by omega) (by omega))
    refine ⟨_, rfl, _, rfl, _, rfl, _, rfl, _, rfl, sz2, h, ts, z, (lodge, part), (other, number), rfl, ho5, I, dq, dq2, hn, fun z' G6 h6 I6 k6 v6 => ?_⟩
    have S6 := S5.keep ho5 (HKP.of k6)
    refine ⟨_, rfl, _, rfl, sd, _, (other : Nat), _, rfl, rfl, S6.gd, at_nat (map_get Da.obj ha2), _, rfl, a2, _, (number : Nat), _, rfl, rfl, S6.at ht2 ha2, at_nat (pgsD_get hp5), ?_⟩
    refine ⟨_, rfl, _, rfl, sd, _, (lodge : Nat), _, rfl, rfl, S6.gd, at_nat (map_get Da.obj ha), _, rfl, a, _, part, part, rfl, rfl, S6.at ht ha, ix_nat (by rw [pgsD_len]; exact hp3), ?_⟩
    exact fin z' G6 (z.v (other, number)) h6 I6 ((pt5.hk ho5 pf k6).mono (by omega)) S6 ((DK.of kk5).trans (DK.of (HKP.of k6))) v6
end
end Lw
set_option maxHeartbeats 4000000
/-! right -/
namespace Lw
open PySem PySem.Spec PyProof.Rows L2
abbrev dRight : Stmt := top 61
theorem ub65 {k : Nat} {A : Around} (r : Room k A) : A.units + 65 < cLine := by have := r.un; omega
section
variable {P : Program} {w : World} {K : PySem.W.Frag} {mg : Str → Option Value} {base : Heap} {k : Nat} {C D E' : Addr}
abbrev nRight : List Str := ["house", "sheets", "pool", "slots", "tables", "spots", "frame", "row", "holder", "lodge", "pages", "part", "sheet", "own", "cell"]
theorem scRight : FnScope nRight ["house", "sheets"] (defScope dRight) := ⟨rfl, rfl, rfl, by decide +kernel, rfl, by decide +kernel, by decide +kernel⟩
def SRight (C D E' : Addr) : Sp3 := fun ds G Q => ∃ p h ts z sd la, ds = [.obj h.hh, .obj sd] ∧ HouseAt C E' D h ts z G ∧ Inv ts z Cl ∧ SheetsAt h p sd la ts z.v G ∧ ∀ G', Kp G G' → Q (.bl true) G'
theorem okRight {f : Addr} {fd : FuncData} (F : Fun K "_law_right" "_law_right" dRight f fd) (T : Txt K w mg) (TC : PTx K mg C) (TE : PTx K mg E') (TD : TTx K mg D) (D0 : MethOk P w K mg base 6 D "cell" [] (STCell C D)) (D1 : DefOk P w K mg base 4 "is_ledger" [] SLedger) (D2 : MethOk P w K mg base 1 C "ledger" [] (SLedgerOf C))
    (D3 : DefOk P w K mg base 4 "_law_entry_of" [] (SEnt C)) (D4 : MethOk P w K mg base 1 D "top" [] (STTop D)) (D5 : DefOk P w K mg base 5 "_law_page_of" [] (SPgOf C E')) (D6 : MethOk P w K mg base 2 E' "holders" [] (SSHoldersOf E')) : FnOk P w K mg base CX0 7 f fd ["house", "sheets"] (spl K (SRight C D E')) := by
  refine Fun3 F scRight (fun ds G Q ⟨_, _, _, _, _, _, e, _⟩ => by rw [e]; rfl) fun cdv A outer s H E hr => ⟨_, s_cons (s_asg (v 0) (g_lst rfl (gs_cons (g_name (i := 2) scRight.nd) (gs_cons (g_name (i := 3) scRight.nd) (gs_cons (g_name (i := 4) scRight.nd) gs_nil)))))
    (s_cons (s_if (t_notB (e_call D1 hr (a_cons (e_meth0 D2 TC.cl hr (v 2)) a_nil)) e_bl) ss_never s_nil)
    (s_cons (s_set (i := 5) scRight.nd e_newT)
    (s_cons (s_for rfl (i_enumT T.enum (e_meth0 D2 TC.cl hr (v 2))) (g_tup (n := 2) rfl (gs_cons (g_name (i := 6) scRight.nd) (gs_cons (g_name (i := 7) scRight.nd) gs_nil))) (s_one (s_for rfl (i_tup (v 7)) (g_name (i := 8) scRight.nd) (s_one (s_putT (ub hr) (v 5) (v 8) (v 6))))))
    (s_cons (s_for rfl (i_enumL T.enum (v 1)) (g_tup (n := 2) rfl (gs_cons (g_name (i := 9) scRight.nd) (gs_cons (g_name (i := 10) scRight.nd) gs_nil)))
      (s_one (s_for rfl (i_enumL T.enum (v 10)) (g_tup (n := 2) rfl (gs_cons (g_name (i := 11) scRight.nd) (gs_cons (g_name (i := 12) scRight.nd) gs_nil)))
        (s_cons (s_set (i := 13) scRight.nd (e_tup (a_cons e_str (a_cons (v 9) (a_cons (v 11) a_nil)))))
        (s_cons (s_set (i := 14) scRight.nd (e_call D3 hr (a_cons (v 2) (a_cons (e_meth0 D4 TD.cl hr (e_ixL (v 4) (v 9))) (a_cons (v 11) a_nil)))))
        (s_cons (s_if (w_pt (w_or (t_ne hr.units (v 14) (e_meth D0 TD.cl hr (e_ixL (v 4) (v 9)) (a_cons (v 11) a_nil))) (w_or1 (t_ne hr.units (e_call D5 hr (a_cons (v 2) (a_cons (v 3) (a_cons (e_meth0 D4 TD.cl hr (e_ixL (v 4) (v 9))) (a_cons (v 11) a_nil))))) (v 12))))) ss_never s_nil)
        (s_cons (s_if (t_ne hr.units (e_getT (ub hr) (v 5) (v 13)) (e_ixN (l_lst (a_cons e_non (a_cons (e_fdiv (v 14) e_int) a_nil))) (e_mod (v 14) e_int))) ss_never s_nil)
        (s_one (s_if (w_pt (w_and (t_eq hr.units (e_mod (v 14) e_int) e_int) (w_and (t_gt (e_fdiv (v 14) e_int) e_int) (w_and1 (t_notIn (ub65 hr) (v 13) (e_meth D6 TE.cl hr (v 3) (a_cons (e_sub (e_fdiv (v 14) e_int) e_int) a_nil))))))) ss_never s_nil)))))))))
    (s_one (s_ret e_bl)))))), ?_⟩
  rintro ds G Q ⟨p, h, ts, z, sd, la, rfl, ho, I, S, k⟩
  have W := I.P.wf
  refine ⟨_, rfl, h.hh, _, rfl, ho.hs, rfl, ?_⟩
  refine ⟨_, _, rfl, _, _, rfl, _, _, rfl, rfl, ?_⟩
  refine ⟨_, rfl, h.pa.p, _, rfl, ho.pool.p, rfl, h.pa, _, rfl, ho.pool, _, rfl, I.P.led, _, _, rfl, rfl, _, rfl, ite_f (by decide) ?_⟩
  intro so gs
  have noso : ∀ {x u}, G x = some u → x ≠ so := fun {x u} e y => by subst y; rw [gs] at e; cases e
  have k1 : Kp G (up G so (.dT [])) := fun x u e => by rw [up_ne (noso e)]; exact e
  have g1 : up G so (.dT []) so = some (.dT []) := up_same
  show sSeq _ _ _ _ (up G so (.dT []))
  generalize up G so (.dT []) = G1 at k1 g1
  have ho1 := ho.ext k1
  refine ⟨_, rfl, h.pa.p, _, rfl, ho1.pool.p, rfl, h.pa, _, rfl, ho1.pool, _, rfl, ?_⟩
  refine ⟨fun i τ' G' => ∃ l, G' so = some (.dT (l.map spD)) ∧ (∀ x f, spot l x = some f ↔ f < i ∧ ∃ r, z.s.ha[f]? = some r ∧ x ∈ r) ∧ l.length ≤ 60 * i ∧ Kp G G' ∧ ∃ d6 d7 d8, τ' = [some (.obj h.hh), some (.obj sd), some (.obj h.pa.p), some (.obj h.sa.p), some (.obj h.tl), some (.obj so), d6, d7, d8, none, none, none, none, none, none],
    ⟨[], g1, fun x f => ⟨nofun, fun ⟨a, _⟩ => absurd a (Nat.not_lt_zero _)⟩, Nat.zero_le _, k1, _, _, _, rfl⟩, fun _ _ _ _ _ => trivial, ?_, ?_⟩
  · rintro i d τ' G' hd ⟨l, gl, hl, ll, kk, d6, d7, d8, rfl⟩
    obtain ⟨d0, h0, rfl⟩ := enumD_of hd
    rw [List.getElem?_map] at h0
    obtain ⟨r, hr0, rfl⟩ := Option.map_eq_some_iff.mp h0
    have nd := lt_nodup (I.P.srt r (mem_get hr0))
    have rl := I.P.rowlen hr0
    have il := lt_get hr0
    have := W.l1
    refine ⟨_, rfl, rfl, _, _, rfl, _, _, rfl, rfl, ?_⟩
    refine ⟨_, rfl, _, rfl, ?_⟩
    refine ⟨fun j τ' G' => ∃ l, G' so = some (.dT (l.map spD)) ∧ (∀ x f, spot l x = some f ↔ (f < i ∧ ∃ r, z.s.ha[f]? = some r ∧ x ∈ r) ∨ (f = i ∧ x ∈ r.take j)) ∧ l.length ≤ 60 * i + j ∧ Kp G G' ∧ ∃ d8, τ' = [some (.obj h.hh), some (.obj sd), some (.obj h.pa.p), some (.obj h.sa.p), some (.obj h.tl), some (.obj so), some (.int (i : Nat)), some (roD r), d8, none, none, none, none, none, none],
      ⟨l, gl, fun x f => (hl x f).trans ⟨.inl, fun y => y.resolve_right fun y => nomatch y.2⟩, ll, kk, _, rfl⟩, fun _ _ _ _ _ => trivial, ?_, ?_⟩
    · rintro j d τ' G' hd ⟨l, gl, hl, ll, kk, d8, rfl⟩
      rw [List.getElem?_map] at hd
      obtain ⟨x, hx, rfl⟩ := Option.map_eq_some_iff.mp hd
      have jl := lt_get hx
      have nx : spot l x = none := by
        cases e : spot l x with
        | none => rfl
        | some f =>
          rcases (hl x f).mp e with ⟨a, r', b, c⟩ | ⟨a, b⟩
          · have := I.P.uniq b c hr0 (mem_get hx)
            omega
          · obtain ⟨u, hu⟩ := List.getElem?_of_mem b
            have hul := lt_get hu
            rw [List.length_take] at hul
            rw [List.getElem?_take_of_lt (by omega)] at hu
            have := (List.getElem?_inj (by omega) nd).mp (hu.trans hx.symm)
            omega
      refine ⟨_, rfl, _, rfl, _, rfl, so, _, hk x, rfl, rfl, hk_t x, gl, small_len (by rw [List.length_map]; omega), ?_⟩
      rw [put_sp i nx]
      refine ⟨l ++ [(x, i)], up_same, fun y f => ?_, by rw [List.length_append]; show _ + 1 ≤ _; omega, fun y u e => by rw [up_ne (noso e)]; exact kk y u e, _, rfl⟩
      rw [spot_append, spot_cons, spot_nil, List.take_succ, hx, show (some x).toList = [x] from rfl]
      by_cases e : y = x
      · subst e
        rw [nx, if_pos rfl]
        constructor
        · intro e2
          exact .inr ⟨(Option.some.inj e2).symm, List.mem_append_right _ (List.mem_singleton.mpr rfl)⟩
        · rintro (⟨a, r', b, c⟩ | ⟨a, b⟩)
          · have := I.P.uniq b c hr0 (mem_get hx)
            omega
          · rw [a]; rfl
      · rw [if_neg fun e2 => e e2.symm, Option.or_none, hl]
        refine or_congr Iff.rfl (and_congr_right fun _ => ?_)
        rw [List.mem_append, List.mem_singleton]
        exact ⟨.inl, fun y => y.resolve_right e⟩
    · rintro τ' G' ⟨l, gl, hl, ll, kk, d8, rfl⟩
      rw [List.length_map, List.take_length] at hl
      refine ⟨l, gl, fun x f => (hl x f).trans ?_, by rw [List.length_map] at ll; omega, kk, _, _, _, rfl⟩
      constructor
      · rintro (⟨a, b⟩ | ⟨rfl, b⟩)
        · exact ⟨by omega, b⟩
        · exact ⟨by omega, r, hr0, b⟩
      · rintro ⟨a, r', b, c⟩
        by_cases e : f = i
        · subst e
          rw [hr0] at b
          obtain rfl := Option.some.inj b
          exact .inr ⟨rfl, c⟩
        · exact .inl ⟨by omega, r', b, c⟩
  · rintro τ' G2 ⟨l, gl, hl, ll, k2, d6, d7, d8, rfl⟩
    rw [enumD_len, List.length_map] at hl
    have ho2 := ho.ext k2
    have S2 : SheetsAt h p sd la ts z.v G2 := S.keep ho fun x o _ _ _ _ _ _ _ e => k2 x o e
    have lF : ∀ q, dom ts q → spot l (hp q) = z.F q := fun q d => by
      cases e : z.F q with
      | none =>
        cases e2 : spot l (hp q) with
        | none => rfl
        | some f =>
          obtain ⟨_, r, b, c⟩ := (hl _ f).mp e2
          have := I.P.at b c
          rw [e] at this; cases this
      | some f =>
        obtain ⟨r, b, c⟩ := I.P.pg q f d e
        exact (hl _ f).mpr ⟨lt_get b, r, b, c⟩
    refine ⟨_, rfl, sd, _, rfl, S2.gd, ?_⟩
    refine ⟨fun i τ' G' => G' = G2 ∧ ∃ d9 d10 d11 d12 d13 d14, τ' = [some (.obj h.hh), some (.obj sd), some (.obj h.pa.p), some (.obj h.sa.p), some (.obj h.tl), some (.obj so), d6, d7, d8, d9, d10, d11, d12, d13, d14],
      ⟨rfl, _, _, _, _, _, _, rfl⟩, fun _ _ G' _ ⟨e, _⟩ => (by rw [e]; exact S2.gd), ?_, ?_⟩
    · rintro i d τ' Gx hd ⟨rfl, d9, d10, d11, d12, d13, d14, rfl⟩
      obtain ⟨d0, h0, rfl⟩ := enumD_of hd
      rw [List.getElem?_map] at h0
      obtain ⟨a, ha, rfl⟩ := Option.map_eq_some_iff.mp h0
      obtain ⟨t, ht⟩ : ∃ t, ts[i]? = some t := S.al _ (by rw [← S.ln]; exact lt_get ha)
      have ga := S2.at ht ha
      obtain ⟨x, o, hat, ta⟩ := ho2.table ht
      refine ⟨_, rfl, rfl, _, _, rfl, _, _, rfl, rfl, ?_⟩
      refine ⟨_, rfl, a, _, rfl, ga, ?_⟩
      refine ⟨fun j τ' G' => G' = Gx ∧ ∃ d11 d12 d13 d14, τ' = [some (.obj h.hh), some (.obj sd), some (.obj h.pa.p), some (.obj h.sa.p), some (.obj h.tl), some (.obj so), d6, d7, d8, some (.int (i : Nat)), some (.obj a), d11, d12, d13, d14],
        ⟨rfl, _, _, _, _, rfl⟩, fun _ _ G' _ ⟨e, _⟩ => (by rw [e]; exact ga), ?_, ?_⟩
      · rintro j d τ' Gy hd ⟨rfl, d11, d12, d13, d14, rfl⟩
        obtain ⟨d0, h0, rfl⟩ := enumD_of hd
        have hj : j < t.n := by have := lt_get h0; rw [pgsD_len] at this; exact this
        rw [pgsD_get hj] at h0
        obtain rfl := Option.some.inj h0
        have dq : dom ts (i, j) := ⟨t, ht, hj⟩
        obtain ⟨t', lo, c, ht', hq2, he, hc, hcm⟩ := I.ent dq fun x => x
        rw [ht] at ht'
        obtain rfl := Option.some.inj ht'
        have nb := I.nb _ dq fun x => x
        have b := I.P.dom_bd dq
        have hown : HdOk (hp (i, j)) := U_ok (U_page b.1 b.2)
        refine ⟨_, rfl, rfl, _, _, rfl, _, _, rfl, rfl, ?_⟩
        refine ⟨_, rfl, _, rfl, sz3, ?_⟩
        refine ⟨_, rfl, _, rfl, _, rfl, h.tl, _, (i : Nat), _, rfl, rfl, ho2.tl, hat, x, _, rfl, ta.t, rfl, h.pa, x, o, i, t.n, t.f0, rfl, ta, _, rfl, h.pa, z.s, t.f0, j, lo, c, rfl, ho2.pool, he, ?_⟩
        refine ⟨_, rfl, _, rfl, _, rfl, h.tl, _, (i : Nat), _, rfl, rfl, ho2.tl, hat, x, _, rfl, ta.t, rfl, _, rfl, h.pa, z.s, x, o, i, t.n, t.f0, j, lo, c, rfl, ⟨ho2.pool, ta⟩, hj, he, rfl, rfl, _, rfl, ?_⟩
        refine ite_f (by rw [eqB_t rfl]; decide) ?_
        refine ⟨_, rfl, _, rfl, _, rfl, _, rfl, h.tl, _, (i : Nat), _, rfl, rfl, ho2.tl, hat, x, _, rfl, ta.t, rfl, h.pa, x, o, i, t.n, t.f0, rfl, ta, _, rfl, h.pa, h.sa, z.s, z.u, t.f0, j, lo, c, z.F (i, j), z.S (i, j), z.v (i, j), rfl, ho2.pool, ho2.slot, he, hc, fun f e => I.vf _ f dq e, fun k e1 e2 => ⟨I.vs _ k dq e2, (I.Z.pg _ k dq e2).imp fun _ y => y.1⟩, fun e1 e2 => I.vb _ dq (fun x => x) e1 e2, ?_⟩
        refine ⟨_, rfl, ok_ints _, ok_ints _, _, rfl, ?_⟩
        refine ite_f (by rw [eqB_t rfl]; decide) ?_
        obtain ⟨dd, e3, e4, okd⟩ : ∃ dd, (look (l.map spD) (hk (hp (i, j)))).getD .non = dd ∧ atI [Da.non, .int (c / 16)] (c % 2) = some dd ∧ Ok dd := by
          rw [look_sp, lF _ dq]
          cases hF : z.F (i, j) with
          | some f =>
            rw [hF] at hc
            obtain ⟨c1, c2⟩ := code_f hc
            refine ⟨.int (f : Nat), rfl, ?_, rfl⟩
            rw [c1, c2]
            rfl
          | none =>
            rw [hF] at hc
            have c0 : c % 2 = 0 := by
              cases hS : z.S (i, j) with
              | none => rw [hS] at hc; exact (code_n hc).1
              | some i => rw [hS] at hc; exact (code_s hc).1
            refine ⟨.non, rfl, ?_, rfl⟩
            rw [c0]
            rfl
        refine ⟨_, rfl, so, _, rfl, gl, _, rfl, _, hk (hp (i, j)), gl, rfl, hk_t _, ?_⟩
        rw [e3]
        refine ⟨_, rfl, _, _, rfl, rfl, ⟨by decide, by decide⟩, sz2, _, rfl, _, _, rfl, rfl, by show (0 : Int) < 2; omega, c % 2, dd, rfl, e4, okd, okd, _, rfl, ite_f (by rw [eqB_t rfl]; decide) ?_⟩
        refine ⟨_, rfl, _, _, rfl, rfl, by show (0 : Int) < 2; omega, rfl, rfl, _, rfl, ?_⟩
        show if eqB (.int (c % 2)) (.int 0) = true then _ else _
        rw [eqB_int]
        cases hF : z.F (i, j) with
        | some f =>
          rw [hF] at hc
          obtain ⟨c1, c2⟩ := code_f hc
          exact ite_f (by rw [c1]; decide) (ite_f Bool.false_ne_true ⟨rfl, _, _, _, _, rfl⟩)
        | none =>
          rw [hF] at hc
          cases hS : z.S (i, j) with
          | none =>
            rw [hS] at hc
            obtain ⟨c1, c2⟩ := code_n hc
            refine ite_t (by rw [c1]; decide) ?_
            refine ⟨_, rfl, _, _, rfl, rfl, ⟨by decide, by decide⟩, _, _, rfl, rfl, false, bl_f (by show ¬ (0 : Int) < c / 16; omega), ?_⟩
            exact ite_f Bool.false_ne_true (ite_f Bool.false_ne_true ⟨rfl, _, _, _, _, rfl⟩)
          | some u =>
            rw [hS] at hc
            obtain ⟨c1, c2⟩ := code_s hc
            obtain ⟨r, hr1, hr2⟩ := I.Z.pg _ u dq hS
            obtain ⟨rl, rok⟩ := I.Z.wf.ok u r hr1
            refine ite_t (by rw [c1]; decide) ?_
            refine ⟨_, rfl, _, _, rfl, rfl, ⟨by decide, by decide⟩, _, _, rfl, rfl, true, bl_t (by show (0 : Int) < c / 16; omega), ?_⟩
            refine ite_t rfl ?_
            refine ⟨_, rfl, _, rfl, h.sa.p, _, rfl, ho2.slot.p, rfl, _, rfl, _, _, rfl, rfl, ⟨by decide, by decide⟩, _, _, rfl, rfl, h.sa, z.u, u, r, ?_, ho2.slot, hr1, _, rfl, ok_hd hown, row_ok rok.1, fun b hb => ⟨b, rfl, ite_f (fun e => hb.mp e (List.mem_map.mpr ⟨_, hr2, rfl⟩)) ⟨rfl, _, _, _, _, rfl⟩⟩⟩
            show [Da.obj _, .int (c / 16 - 1)] = _
            rw [c2, show ((u : Int) + 1 - 1) = (u : Nat) by omega]
      · rintro τ' G' ⟨rfl, d11, d12, d13, d14, rfl⟩
        exact ⟨rfl, _, _, _, _, _, _, rfl⟩
    · rintro τ' G' ⟨rfl, d9, d10, d11, d12, d13, d14, rfl⟩
      exact k _ k2
end
end Lw
set_option maxHeartbeats 2000000
/-! the mirror: a table is made -/
namespace Lw
open PySem L2
theorem Tbs.at0 (l : List Tab) (i : Nat) : (⟨l, 0⟩ : Tbs)[i]? = l[i]? := by
  rw [Tbs.at]
  exact if_neg (Nat.not_lt_zero _)
theorem frees_set : ∀ (k : Nat) (ha : List (List Hd)) (f : Nat) (r : List Hd), ha[f]? = some [] → r ≠ [] → (frees k (ha.set f r)).length + 1 = (frees k ha).length
  | k, [], f, r, h, _ => by simp at h
  | k, x :: xs, 0, r, h, hr => by
    obtain rfl : x = [] := Option.some.inj h
    show (frees k (r :: xs)).length + 1 = (frees k ([] :: xs)).length
    unfold frees
    rw [if_neg (by simpa using hr)]
    rfl
  | k, x :: xs, f + 1, r, h, hr => by
    have ih := frees_set (k + 1) xs f r h hr
    show (frees k (x :: xs.set f r)).length + 1 = _
    unfold frees
    split
    · rw [List.length_cons, List.length_cons, ih]
    · exact ih
structure TkR (s s' : PS) (hs : List Hd) (fs : List Nat) : Prop where
  sh : s'.sh = s.sh
  nd : fs.Nodup
  was : ∀ f ∈ fs, s.ha[f]? = some []
  row : ∀ (k f : Nat) (h : Hd), fs[k]? = some f → hs[k]? = some h → s'.ha[f]? = some [h]
  oh : ∀ f : Nat, f ∉ fs → s'.ha[f]? = s.ha[f]?
  lh : s'.ha.length = s.ha.length
  sp : ∀ (h : Hd) (f : Nat), spot s'.sp h = some f ↔ spot s.sp h = some f ∨ ∃ k : Nat, fs[k]? = some f ∧ hs[k]? = some h
  spn : (s.sp.map (·.1)).Nodup → (s'.sp.map (·.1)).Nodup
  fr : (frees 0 s'.ha).length + hs.length = (frees 0 s.ha).length
  wf : PWf s'
theorem spot_none {sp : List (Hd × Nat)} {h : Hd} (e : spot sp h = none) : h ∉ sp.map (·.1) := fun m => by
  obtain ⟨f, h2⟩ := spot_key m
  rw [e] at h2; cases h2
theorem tk_all : ∀ (hs : List Hd) (s : PS), PWf s → (∀ f : Nat, s.ha[f]? = some [] → s.sh[f]? = some blank) → hs.Nodup → (∀ h ∈ hs, HdOk h ∧ spot s.sp h = none) → hs.length ≤ (frees 0 s.ha).length → s.sp.length + hs.length ≤ 60 →
    TkOk s hs ∧ TkR s (tkL s hs) hs (tkFs s hs)
  | [], s, W, _, _, _, _, _ => ⟨trivial, rfl, List.nodup_nil, nofun, nofun, fun _ _ => rfl, rfl, fun h f => ⟨.inl, fun x => x.elim id fun ⟨_, x, _⟩ => nomatch x⟩, id, rfl, W⟩
  | h :: hs, s, W, bl, nd, ok, len, few => by
    rw [List.length_cons] at len few
    obtain ⟨nh, nd⟩ := List.nodup_cons.mp nd
    obtain ⟨ok0, hs0⟩ := ok h List.mem_cons_self
    obtain ⟨f, fl, ef⟩ : ∃ f fl, frees 0 s.ha = f :: fl := by
      cases e : frees 0 s.ha with
      | nil => rw [e] at len; simp at len
      | cons f fl => exact ⟨f, fl, rfl⟩
    have etk : tkF s = f := by unfold tkF; rw [ef]; rfl
    have hf : s.ha[f]? = some [] := (frees_mem.mp (by rw [ef]; exact List.mem_cons_self)).2
    have hlt := lt_get hf
    have hsh := bl f hf
    have e1 : tk1 s h = ⟨s.sh, s.ha.set f [h], s.sp ++ [(h, f)]⟩ := by
      unfold tk1
      rw [etk, set_id hsh]
    have W1 : PWf ⟨s.sh, s.ha.set f [h], s.sp ++ [(h, f)]⟩ := by
      refine ⟨by rw [List.length_set]; exact W.ln, by rw [List.length_set]; exact W.l0, by rw [List.length_set]; exact W.l1, W.pg, fun r hr => ?_, ?_⟩
      · rcases List.mem_or_eq_of_mem_set hr with e | e
        · exact W.ok r e
        · rw [e]
          exact ⟨by show 1 ≤ 60; omega, fun x hx => by rw [List.mem_singleton.mp hx]; exact ok0, List.pairwise_singleton _ _⟩
      · show (s.sp ++ [(h, f)]).length ≤ 60
        rw [List.length_append]
        show s.sp.length + 1 ≤ 60
        omega
    have hfr := frees_set 0 s.ha f [h] hf nofun
    obtain ⟨a, R⟩ := tk_all hs _ W1 (fun f' e => by
      have e : (s.ha.set f [h])[f']? = some [] := e
      rw [get_set] at e
      split at e
      · cases e
      · exact bl f' e) nd (fun h' hh => by
      obtain ⟨b, c⟩ := ok h' (List.mem_cons_of_mem _ hh)
      refine ⟨b, ?_⟩
      show spot (s.sp ++ [(h, f)]) h' = none
      rw [spot_append, c, spot_cons, spot_nil, if_neg fun e => nh (by rw [show h = h' from e]; exact hh)]
      rfl) (by show hs.length ≤ (frees 0 (s.ha.set f [h])).length; omega) (by show (s.sp ++ [(h, f)]).length + hs.length ≤ 60; rw [List.length_append]; show s.sp.length + 1 + hs.length ≤ 60; omega)
    rw [← e1] at a R
    have es : (tk1 s h).ha = s.ha.set f [h] := by rw [e1]
    have ep : (tk1 s h).sp = s.sp ++ [(h, f)] := by rw [e1]
    have eh : (tk1 s h).sh = s.sh := by rw [e1]
    have nf : f ∉ tkFs (tk1 s h) hs := fun m => by
      have := R.was f m
      rw [es, List.getElem?_set_self hlt] at this
      cases this
    refine ⟨⟨W, ok0, hs0, by rw [ef]; exact nofun, a⟩, ?_⟩
    show TkR s (tkL (tk1 s h) hs) (h :: hs) (tkF s :: tkFs (tk1 s h) hs)
    rw [etk]
    refine ⟨R.sh.trans eh, List.nodup_cons.mpr ⟨nf, R.nd⟩, ?_, ?_, ?_, ?_, ?_, ?_, ?_, R.wf⟩
    · intro f' hm
      rcases List.mem_cons.mp hm with e | e
      · rw [e]; exact hf
      · have := R.was f' e
        rw [es, List.getElem?_set_ne fun z => nf (by rw [z]; exact e)] at this
        exact this
    · intro k f' h' e1 e2
      cases k with
      | zero =>
        obtain rfl := Option.some.inj e1
        obtain rfl := Option.some.inj e2
        rw [R.oh _ nf, es]
        exact List.getElem?_set_self hlt
      | succ k => exact R.row k f' h' e1 e2
    · intro f' n
      rw [R.oh f' fun m => n (List.mem_cons_of_mem _ m), es]
      exact List.getElem?_set_ne fun z => n (by rw [z]; exact List.mem_cons_self)
    · rw [R.lh, es, List.length_set]
    · intro x f'
      rw [R.sp, ep, spot_append, spot_cons, spot_nil]
      constructor
      · rintro (e | ⟨k, e, e2⟩)
        · by_cases z : h = x
          · subst z
            rw [hs0, if_pos rfl] at e
            exact .inr ⟨0, e, rfl⟩
          · rw [if_neg z, Option.or_none] at e
            exact .inl e
        · exact .inr ⟨k + 1, e, e2⟩
      · rintro (e | ⟨k, e, e2⟩)
        · rw [e]
          exact .inl rfl
        · cases k with
          | zero =>
            obtain rfl := Option.some.inj e
            obtain rfl := Option.some.inj e2
            rw [hs0, if_pos rfl]
            exact .inl rfl
          | succ k => exact .inr ⟨k, e, e2⟩
    · intro n
      refine R.spn ?_
      rw [ep, List.map_append, List.nodup_append]
      refine ⟨n, List.nodup_cons.mpr ⟨nofun, List.nodup_nil⟩, fun a ha b hb e => ?_⟩
      rw [List.mem_singleton.mp hb] at e
      subst e
      exact spot_none hs0 ha
    · rw [List.length_cons]
      have := R.fr
      rw [es] at this
      omega
/-! cells put -/
abbrev PtC (s : PS) (q : Nat × Nat × Int) : Prop := (∃ r, s.ha[q.1]? = some r ∧ r ≠ []) ∧ q.2.1 < 8 ∧ 0 ≤ q.2.2 ∧ q.2.2 ≤ 65535
theorem pt_step {s : PS} {q : Nat × Nat × Int} (W : PWf s) (c : PtC s q) : ∃ g, s.sh[q.1]? = some g ∧ g.length = 8 ∧ pt1 s q = { s with sh := s.sh.set q.1 (g.set q.2.1 q.2.2) } ∧ PWf (pt1 s q) := by
  obtain ⟨⟨r, hr, _⟩, h8, h0, h1⟩ := c
  have hl : q.1 < s.sh.length := by rw [W.ln]; exact lt_get hr
  have hg := List.getElem?_eq_getElem hl
  have hp := W.pg _ (mem_get hg)
  have e : pt1 s q = { s with sh := s.sh.set q.1 (s.sh[q.1].set q.2.1 q.2.2) } := by
    unfold pt1
    rw [getD_some hg]
  refine ⟨_, hg, hp.1, e, ?_⟩
  rw [e]
  refine ⟨by rw [List.length_set]; exact W.ln, W.l0, W.l1, fun g hg' => ?_, W.ok, W.few⟩
  rcases List.mem_or_eq_of_mem_set hg' with z | z
  · exact W.pg g z
  · rw [z]
    exact pg_set hp h0 h1
theorem pt_all : ∀ (qs : List (Nat × Nat × Int)) (s : PS), PWf s → (∀ q ∈ qs, PtC s q) → PtOk s qs ∧ PWf (ptL s qs) ∧ (ptL s qs).ha = s.ha ∧ (ptL s qs).sp = s.sp ∧ ∀ f : Nat, (∀ q ∈ qs, q.1 ≠ f) → (ptL s qs).sh[f]? = s.sh[f]?
  | [], s, W, _ => ⟨trivial, W, rfl, rfl, fun _ _ => rfl⟩
  | q :: qs, s, W, c => by
    have c0 := c q List.mem_cons_self
    obtain ⟨g, hg, _, e, W1⟩ := pt_step W c0
    have ea : (pt1 s q).ha = s.ha := by rw [e]
    have ep : (pt1 s q).sp = s.sp := by rw [e]
    obtain ⟨a, b, h1, h2, h3⟩ := pt_all qs (pt1 s q) W1 fun x hx => by
      obtain ⟨y, z⟩ := c x (List.mem_cons_of_mem _ hx)
      exact ⟨by rw [ea]; exact y, z⟩
    refine ⟨⟨W, c0.1, ⟨g, hg⟩, c0.2.1, c0.2.2.1, c0.2.2.2, a⟩, b, h1.trans ea, h2.trans ep, fun f n => ?_⟩
    have := h3 f fun x hx => n x (List.mem_cons_of_mem _ hx)
    refine this.trans ?_
    rw [e]
    exact List.getElem?_set_ne (n q List.mem_cons_self)
def cellAt (s : PS) (f p : Nat) : Option Int := (s.sh[f]?).bind fun g => g[p]?
theorem pt_cell : ∀ (qs : List (Nat × Nat × Int)) (s : PS), PWf s → (∀ q ∈ qs, PtC s q) → ∀ (f p : Nat) (c : Int), (cellAt s f p = some c ∨ (f, p, c) ∈ qs) → (∀ q ∈ qs, q.1 = f → q.2.1 = p → q.2.2 = c) → cellAt (ptL s qs) f p = some c
  | [], s, W, _, f, p, c, h, _ => h.elim id nofun
  | q :: qs, s, W, C, f, p, c, h, u => by
    have c0 := C q List.mem_cons_self
    obtain ⟨g, hg, g8, e, W1⟩ := pt_step W c0
    have ea : (pt1 s q).ha = s.ha := by rw [e]
    refine pt_cell qs (pt1 s q) W1 (fun x hx => by
      obtain ⟨y, z⟩ := C x (List.mem_cons_of_mem _ hx)
      exact ⟨by rw [ea]; exact y, z⟩) f p c ?_ fun x hx => u x (List.mem_cons_of_mem _ hx)
    have ec : cellAt (pt1 s q) f p = if q.1 = f ∧ q.2.1 = p then some q.2.2 else cellAt s f p := by
      unfold cellAt
      rw [e]
      show ((s.sh.set q.1 (g.set q.2.1 q.2.2))[f]?).bind _ = _
      by_cases e1 : q.1 = f
      · subst e1
        rw [List.getElem?_set_self (lt_get hg), hg]
        show (g.set q.2.1 q.2.2)[p]? = if _ then _ else g[p]?
        by_cases e2 : q.2.1 = p
        · rw [if_pos ⟨rfl, e2⟩, ← e2]
          exact List.getElem?_set_self (by rw [g8]; exact c0.2.1)
        · rw [if_neg fun z => e2 z.2]
          exact List.getElem?_set_ne e2
      · rw [List.getElem?_set_ne e1, if_neg fun z => e1 z.1]
    rw [ec]
    by_cases z : q.1 = f ∧ q.2.1 = p
    · rw [if_pos z, u q List.mem_cons_self z.1 z.2]
      exact .inl rfl
    · rw [if_neg z]
      rcases h with h | h
      · exact .inl h
      · rcases List.mem_cons.mp h with h | h
        · exact absurd ⟨by rw [← h], by rw [← h]⟩ z
        · exact .inr h
/-! the whole state before anything lies anywhere -/
def z0 (s : PS) : St := ⟨s, ⟨[], [], []⟩, fun _ => none, fun _ => none, fun _ => blank⟩
theorem SlotInv.empty {ts : Tbs} (to : ts.length ≤ 3) (tn : ∀ (l : Nat) (t : Tab), ts[l]? = some t → t.n ≤ 16) : SlotInv ts ⟨[], [], []⟩ fun _ => none :=
  ⟨to, tn, List.nodup_nil, List.nodup_nil, nofun, nofun, fun h i => ⟨nofun, fun ⟨_, a, _⟩ => (nomatch a)⟩, List.nodup_nil, fun i => ⟨fun ⟨_, a⟩ => (nomatch a), fun ⟨_, a⟩ => (nomatch a)⟩, nofun⟩
theorem Inv.fresh (m : Nat) (h0 : 10 ≤ m) (h1 : m ≤ 13) : Inv ⟨[], 0⟩ (z0 (PS.new m)) Cl := by
  have nt : ∀ (l : Nat) (t : Tab), (⟨[], 0⟩ : Tbs)[l]? = some t → False := fun l t e => by rw [Tbs.at0] at e; cases e
  have nd : ∀ q, dom ⟨[], 0⟩ q → False := fun q ⟨t, e, _⟩ => nt _ _ e
  refine ⟨?_, .empty (Nat.zero_le _) fun l t e => (nt l t e).elim, fun q _ d => (nd q d).elim, fun q _ d => (nd q d).elim, fun q d => (nd q d).elim, fun q d => (nd q d).elim, fun q d => (nd q d).elim⟩
  have gr : ∀ (f : Nat) (r : List Hd), (List.replicate m ([] : List Hd))[f]? = some r → r = [] := fun f r e => List.eq_of_mem_replicate (mem_get e)
  refine ⟨?_, ?_, ?_, Nat.zero_le _, fun g hg => ?_, fun r hr => ?_, fun l t e => (nt l t e).elim, fun f r e h hh => ?_, fun q f d => (nd q d).elim, fun h f => ⟨nofun, fun ⟨r, e, hr⟩ => ?_⟩, List.nodup_nil, fun f e => ?_⟩
  · show (List.replicate m blank).length = (List.replicate m ([] : List Hd)).length
    rw [List.length_replicate, List.length_replicate]
  · show 10 ≤ (List.replicate m ([] : List Hd)).length
    rw [List.length_replicate]; exact h0
  · show (List.replicate m ([] : List Hd)).length ≤ 13
    rw [List.length_replicate]; exact h1
  · rw [List.eq_of_mem_replicate hg]
    exact ⟨rfl, fun x hx => by rw [List.eq_of_mem_replicate hx]; omega⟩
  · rw [List.eq_of_mem_replicate hr]
    exact List.Pairwise.nil
  · rw [gr f r e] at hh; cases hh
  · rw [gr f r e] at hr; cases hr
  · have e := lt_get e
    have e : f < (List.replicate m ([] : List Hd)).length := e
    rw [List.length_replicate] at e
    show (List.replicate m blank)[f]? = _
    rw [List.getElem?_replicate, if_pos e]
end Lw
set_option maxHeartbeats 2000000
/-! the mirror: a table more -/
namespace Lw
open PySem L2
theorem thold_eq (l n : Nat) : thold l n = (List.range (1 + (n + 7) / 8)).map (thd l) := rfl
theorem thold_get {l n k : Nat} (h : k < 1 + (n + 7) / 8) : (thold l n)[k]? = some (thd l k) := by
  rw [thold_eq, List.getElem?_map, List.getElem?_range h]
  rfl
theorem thold_of {l n k : Nat} {h : Hd} (e : (thold l n)[k]? = some h) : h = thd l k ∧ k < 1 + (n + 7) / 8 := by
  have := lt_get e
  rw [thold_len] at this
  rw [thold_get this] at e
  exact ⟨(Option.some.inj e).symm, this⟩
theorem thold_mem {l n : Nat} {h : Hd} (e : h ∈ thold l n) : ∃ k : Nat, k < 1 + (n + 7) / 8 ∧ h = thd l k := by
  obtain ⟨k, hk⟩ := List.getElem?_of_mem e
  obtain ⟨a, b⟩ := thold_of hk
  exact ⟨k, b, a⟩
theorem thold_nodup (l n : Nat) : (thold l n).Nodup := by
  rw [thold_eq]
  refine List.pairwise_map.mpr (List.nodup_range.imp fun {a b} ne e => ne (thd_inj e).2)
theorem getD_mem {l : List Nat} {i : Nat} (h : i < l.length) : l[i]? = some (l.getD i 0) := by
  rw [List.getD_eq_getElem?_getD, List.getElem?_eq_getElem h]
  rfl
theorem tops_mem {f0 : Nat} {lows : List Nat} {q : Nat × Nat × Int} (h : q ∈ tops f0 lows) : ∃ (k lo : Nat), lows[k]? = some lo ∧ q = (f0, k, ((lo : Nat) : Int) * 16 + 3) := by
  obtain ⟨k, hk⟩ := List.getElem?_of_mem h
  unfold tops at hk
  rw [List.getElem?_mapIdx] at hk
  obtain ⟨lo, h1, h2⟩ := Option.map_eq_some_iff.mp hk
  exact ⟨k, lo, h1, h2.symm⟩
theorem mem_tops {f0 : Nat} {lows : List Nat} {k lo : Nat} (h : lows[k]? = some lo) : (f0, k, ((lo : Nat) : Int) * 16 + 3) ∈ tops f0 lows := by
  refine List.mem_of_getElem? (i := k) ?_
  unfold tops
  rw [List.getElem?_mapIdx, h]
  rfl
theorem bots_mem {lows : List Nat} {n : Nat} {q : Nat × Nat × Int} (h : q ∈ bots lows n) : ∃ j : Nat, j < n ∧ q = (lows.getD (j / 8) 0, j % 8, 2) := by
  obtain ⟨j, hj, e⟩ := List.mem_map.mp h
  exact ⟨j, List.mem_range.mp hj, e.symm⟩
theorem PoolInv.few {ts : Tbs} {s : PS} {F : Pg → Option Nat} (I : PoolInv ts s F) : s.sp.length ≤ 57 := by
  have := nodup_le (s.sp.map (·.1)) U I.spn fun h hh => by
    obtain ⟨f, e⟩ := spot_key hh
    obtain ⟨r, hf, hr⟩ := (I.sp h f).mp e
    exact I.inU hf hr
  rw [U_len, List.length_map] at this
  exact this
structure Made (ts : List Tab) (s : PS) (n f0 : Nat) (lows : List Nat) : Prop where
  ns : ∀ h ∈ thold ts.length n, spot s.sp h = none
  en : (thold ts.length n).length ≤ (frees 0 s.ha).length
  tk : TkOk s (thold ts.length n)
  fs : tkFs s (thold ts.length n) = f0 :: lows
  lo : ∀ lo ∈ lows, lo ≤ 4095
  pt : PtOk (tkL s (thold ts.length n)) (tops f0 lows ++ bots lows n)
  iv : Inv ⟨ts ++ [⟨n, f0, lows⟩], 0⟩ (z0 (ptL (tkL s (thold ts.length n)) (tops f0 lows ++ bots lows n))) Cl
  fr : (frees 0 s.ha).length ≤ (frees 0 (ptL (tkL s (thold ts.length n)) (tops f0 lows ++ bots lows n)).ha).length + 3
  hl : (ptL (tkL s (thold ts.length n)) (tops f0 lows ++ bots lows n)).ha.length = s.ha.length
theorem Inv.made {ts : List Tab} {s : PS} {n : Nat} (I : Inv ⟨ts, 0⟩ (z0 s) Cl) (hn : n ≤ 16) (hl : ts.length < 3) (hfr : 3 ≤ (frees 0 s.ha).length) : ∃ f0 lows, Made ts s n f0 lows := by
  have IP : PoolInv ⟨ts, 0⟩ s fun _ => none := I.P
  have hlen := thold_len ts.length n
  have ns : ∀ h ∈ thold ts.length n, spot s.sp h = none := fun h hh => by
    obtain ⟨k, hk, rfl⟩ := thold_mem hh
    cases e : spot s.sp (thd ts.length k) with
    | none => rfl
    | some f =>
      obtain ⟨r, h1, h2⟩ := (IP.sp _ f).mp e
      rcases IP.row f r h1 _ h2 with ⟨l', t, k', ht, e2, _⟩ | ⟨q, _, e2, _⟩
      · have := Tbs.lt ht
        obtain ⟨e3, _⟩ := thd_inj e2
        have : l' < ts.length := this
        omega
      · exact (hp_thd e2.symm).elim
  have en : (thold ts.length n).length ≤ (frees 0 s.ha).length := by omega
  have few := IP.few
  have nd := thold_nodup ts.length n
  obtain ⟨tk, R⟩ := tk_all (thold ts.length n) s IP.wf IP.bl nd (fun h hh => ⟨by obtain ⟨k, hk, rfl⟩ := thold_mem hh; exact U_ok (U_tab hl (by omega)), ns h hh⟩) en (by omega)
  have hfl := tkFs_len (thold ts.length n) s
  generalize hs1 : tkL s (thold ts.length n) = s1 at R
  obtain ⟨f0, lows, hfs⟩ : ∃ f0 lows, tkFs s (thold ts.length n) = f0 :: lows := by
    cases e : tkFs s (thold ts.length n) with
    | nil => rw [e, hlen] at hfl; simp at hfl; omega
    | cons a b => exact ⟨a, b, rfl⟩
  rw [hfs] at R hfl
  have ll : lows.length = (n + 7) / 8 := by rw [List.length_cons, hlen] at hfl; omega
  have own : ∀ k f : Nat, (f0 :: lows)[k]? = some f → s1.ha[f]? = some [thd ts.length k] := fun k f hk => R.row k f _ hk (thold_get (by have := lt_get hk; rw [List.length_cons] at this; omega))
  have low_lt : ∀ lo ∈ lows, lo < 13 := fun lo hm => by
    have := lt_get (R.was lo (List.mem_cons_of_mem _ hm))
    have := IP.l1
    omega
  obtain ⟨f0n, lnd⟩ := List.nodup_cons.mp R.nd
  have ptc : ∀ q ∈ tops f0 lows ++ bots lows n, PtC s1 q := fun q hq => by
    rcases List.mem_append.mp hq with hq | hq
    · obtain ⟨k, lo, h1, rfl⟩ := tops_mem hq
      have := lt_get h1
      have := low_lt lo (mem_get h1)
      exact ⟨⟨_, own 0 f0 rfl, nofun⟩, by show k < 8; omega, by show (0 : Int) ≤ (lo : Int) * 16 + 3; omega, by show (lo : Int) * 16 + 3 ≤ 65535; omega⟩
    · obtain ⟨j, hj, rfl⟩ := bots_mem hq
      have hj8 : j / 8 < lows.length := by omega
      exact ⟨⟨_, own (j / 8 + 1) _ (by rw [List.getElem?_cons_succ]; exact getD_mem hj8), nofun⟩, Nat.mod_lt _ (by omega), by show (0 : Int) ≤ 2; omega, by show (2 : Int) ≤ 65535; omega⟩
  have inq : ∀ q ∈ tops f0 lows ++ bots lows n, q.1 ∈ f0 :: lows := fun q hq => by
    rcases List.mem_append.mp hq with hq | hq
    · obtain ⟨k, lo, h1, rfl⟩ := tops_mem hq
      exact List.mem_cons_self
    · obtain ⟨j, hj, rfl⟩ := bots_mem hq
      exact List.mem_cons_of_mem _ (mem_get (getD_mem (by omega)))
  obtain ⟨pt, W2, h2a, h2p, h2s⟩ := pt_all _ s1 R.wf ptc
  have cell := pt_cell (tops f0 lows ++ bots lows n) s1 R.wf ptc
  refine ⟨f0, lows, ⟨ns, en, tk, hfs, fun lo hm => by have := low_lt lo hm; omega, by rw [hs1]; exact pt, ?_, ?_, ?_⟩⟩
  · rw [hs1]
    generalize ptL s1 (tops f0 lows ++ bots lows n) = s2 at W2 h2a h2p h2s cell
    have out : ∀ f : Nat, f ∉ f0 :: lows → s2.ha[f]? = s.ha[f]? ∧ s2.sh[f]? = s.sh[f]? := fun f nf => by
      refine ⟨by rw [h2a]; exact R.oh f nf, ?_⟩
      rw [h2s f fun q hq e => nf (by rw [← e]; exact inq q hq), R.sh]
    have notin : ∀ {f : Nat} {r : List Hd}, s.ha[f]? = some r → r ≠ [] → f ∉ f0 :: lows := fun {f r} hf hr hm => by
      have := R.was f hm
      rw [hf] at this
      exact hr (Option.some.inj this)
    have look : ∀ (l : Nat) (t : Tab), (⟨ts ++ [⟨n, f0, lows⟩], 0⟩ : Tbs)[l]? = some t → (⟨ts, 0⟩ : Tbs)[l]? = some t ∨ (l = ts.length ∧ t = ⟨n, f0, lows⟩) := fun l t e => by
      rw [Tbs.at0] at e ⊢
      rcases Nat.lt_trichotomy l ts.length with c | c | c
      · rw [List.getElem?_append_left c] at e
        exact .inl e
      · subst c
        rw [List.getElem?_append_right (Nat.le_refl _), Nat.sub_self] at e
        exact .inr ⟨rfl, (Option.some.inj e).symm⟩
      · have := lt_get e
        rw [List.length_append] at this
        have : l < ts.length + 1 := this
        omega
    have lift : ∀ (l : Nat) (t : Tab), (⟨ts, 0⟩ : Tbs)[l]? = some t → (⟨ts ++ [⟨n, f0, lows⟩], 0⟩ : Tbs)[l]? = some t := fun l t e => by
      rw [Tbs.at0] at e ⊢
      rw [List.getElem?_append_left (lt_get e)]
      exact e
    have new : (⟨ts ++ [⟨n, f0, lows⟩], 0⟩ : Tbs)[ts.length]? = some ⟨n, f0, lows⟩ := by
      rw [Tbs.at0, List.getElem?_append_right (Nat.le_refl _), Nat.sub_self]
      rfl
    have tn : ∀ (l : Nat) (t : Tab), (⟨ts ++ [⟨n, f0, lows⟩], 0⟩ : Tbs)[l]? = some t → t.n ≤ 16 := fun l t e => by
      rcases look l t e with e | ⟨_, rfl⟩
      · exact (IP.tab l t e).n0
      · exact hn
    have to : (⟨ts ++ [⟨n, f0, lows⟩], 0⟩ : Tbs).length ≤ 3 := by
      show (ts ++ [_]).length ≤ 3
      rw [List.length_append]
      show ts.length + 1 ≤ 3
      omega
    have l2 : s2.ha.length = s.ha.length := by rw [h2a, R.lh]
    refine ⟨?_, .empty to tn, fun q f _ e => (nomatch e), fun q f _ e => (nomatch e), fun q _ _ => .inl rfl, fun q _ _ _ _ => rfl, fun q d _ => ?_⟩
    · show PoolInv _ s2 fun _ => none
      refine ⟨W2.ln, by rw [l2]; exact IP.l0, by rw [l2]; exact IP.l1, to, W2.pg, fun r hr => (W2.ok r hr).2.2, fun l t e => ?_, fun f r hf h hh => ?_, nofun, fun h f => ?_, ?_, fun f hf => ?_⟩
      · rcases look l t e with e | ⟨rfl, rfl⟩
        · have T := IP.tab l t e
          refine ⟨T.n0, T.ln, fun k f hk => ?_, ?_⟩
          · have := T.own k f hk
            rw [(out f (notin this nofun)).1]
            exact this
          · obtain ⟨g, h1, h2⟩ := T.top
            refine ⟨g, ?_, h2⟩
            rw [(out t.f0 (notin (T.own 0 t.f0 rfl) nofun)).2]
            exact h1
        · refine ⟨hn, ll, fun k f hk => by rw [h2a]; exact own k f hk, ?_⟩
          have hf0 : f0 < s2.sh.length := by
            rw [W2.ln, h2a]
            exact lt_get (own 0 f0 rfl)
          refine ⟨_, List.getElem?_eq_getElem hf0, fun k lo hk => ?_⟩
          have := cell f0 k _ (.inr (List.mem_append_left _ (mem_tops hk))) fun q hq e1 e2 => ?_
          · unfold cellAt at this
            rw [List.getElem?_eq_getElem hf0] at this
            exact this
          · rcases List.mem_append.mp hq with hq | hq
            · obtain ⟨k', lo', h3, rfl⟩ := tops_mem hq
              obtain rfl : k' = k := e2
              rw [hk] at h3
              rw [Option.some.inj h3]
            · obtain ⟨j, hj, rfl⟩ := bots_mem hq
              exact absurd (show f0 ∈ lows by rw [← show lows.getD (j / 8) 0 = f0 from e1]; exact mem_get (getD_mem (by omega))) f0n
      · by_cases hm : f ∈ f0 :: lows
        · obtain ⟨k, hk⟩ := List.getElem?_of_mem hm
          have := own k f hk
          rw [← h2a, hf] at this
          rw [Option.some.inj this] at hh
          exact .inl ⟨_, _, k, new, List.mem_singleton.mp hh, hk⟩
        · rw [(out f hm).1] at hf
          rcases IP.row f r hf h hh with ⟨l, t, k, a, b, c⟩ | ⟨q, _, _, e⟩
          · exact .inl ⟨l, t, k, lift l t a, b, c⟩
          · cases e
      · rw [h2p, R.sp, IP.sp]
        constructor
        · rintro (⟨r, a, b⟩ | ⟨k, a, b⟩)
          · refine ⟨r, ?_, b⟩
            rw [(out f (notin a (List.ne_nil_of_mem b))).1]
            exact a
          · obtain ⟨rfl, _⟩ := thold_of b
            exact ⟨_, by rw [h2a]; exact own k f a, List.mem_singleton.mpr rfl⟩
        · rintro ⟨r, a, b⟩
          by_cases hm : f ∈ f0 :: lows
          · obtain ⟨k, hk⟩ := List.getElem?_of_mem hm
            have := own k f hk
            rw [← h2a, a] at this
            rw [Option.some.inj this] at b
            obtain rfl := List.mem_singleton.mp b
            refine .inr ⟨k, hk, thold_get ?_⟩
            have := lt_get hk
            rw [List.length_cons] at this
            omega
          · rw [(out f hm).1] at a
            exact .inl ⟨r, a, b⟩
      · rw [h2p]
        exact R.spn IP.spn
      · by_cases hm : f ∈ f0 :: lows
        · obtain ⟨k, hk⟩ := List.getElem?_of_mem hm
          have := own k f hk
          rw [← h2a, hf] at this
          cases this
        · rw [(out f hm).1] at hf
          rw [(out f hm).2]
          exact IP.bl f hf
    · obtain ⟨t, ht, hq⟩ := d
      rcases look _ t ht with e | ⟨e1, rfl⟩
      · obtain ⟨t', lo, g, c, a1, a2, a3, a4, a5⟩ := I.en q ⟨t, e, hq⟩ fun x => x
        refine ⟨t', lo, g, c, lift _ _ a1, a2, ?_, a4, a5⟩
        have := (IP.tab _ t' a1).own (q.2 / 8 + 1) lo (by rw [List.getElem?_cons_succ]; exact a2)
        show s2.sh[lo]? = some g
        rw [(out lo (notin this nofun)).2]
        exact a3
      · have hj : q.2 / 8 < lows.length := by have : q.2 < n := hq; omega
        have hlo := getD_mem hj
        generalize lows.getD (q.2 / 8) 0 = lo at hlo
        have hl2 : lo < s2.sh.length := by
          rw [W2.ln, h2a]
          exact lt_get (own (q.2 / 8 + 1) lo (by rw [List.getElem?_cons_succ]; exact hlo))
        have := cell lo (q.2 % 8) 2 (.inr (List.mem_append_right _ (List.mem_map.mpr ⟨q.2, List.mem_range.mpr hq, by rw [getD_some hlo]⟩))) fun x hx e1 e2 => ?_
        · unfold cellAt at this
          rw [List.getElem?_eq_getElem hl2] at this
          exact ⟨_, lo, _, 2, by rw [e1]; exact new, hlo, List.getElem?_eq_getElem hl2, this, .inr rfl⟩
        · rcases List.mem_append.mp hx with hx | hx
          · obtain ⟨k', lo', h3, rfl⟩ := tops_mem hx
            exact absurd (show f0 ∈ lows by rw [show f0 = lo from e1]; exact mem_get hlo) f0n
          · obtain ⟨j, hj, rfl⟩ := bots_mem hx
            rfl
  · rw [hs1, h2a]
    have := R.fr
    omega
  · rw [hs1, h2a, R.lh]
end Lw
set_option maxHeartbeats 2000000
/-! the mirror: a table leaves; all have left -/
namespace Lw
open PySem L2
structure LvR (s s' : PS) (hs : List Hd) (fs : List Nat) : Prop where
  ha : ∀ f : Nat, s'.ha[f]? = if f ∈ fs then some [] else s.ha[f]?
  sh : ∀ f : Nat, s'.sh[f]? = if f ∈ fs then some blank else s.sh[f]?
  lh : s'.ha.length = s.ha.length
  ls : s'.sh.length = s.sh.length
  sp : ∀ h, spot s'.sp h = if h ∈ hs then none else spot s.sp h
  spn : (s.sp.map (·.1)).Nodup → (s'.sp.map (·.1)).Nodup
theorem lv_all : ∀ (hs : List Hd) (fs : List Nat) (s : PS), PWf s → hs.Nodup → fs.length = hs.length → (∀ h ∈ hs, HdOk h) → (∀ (k f : Nat) (h : Hd), hs[k]? = some h → fs[k]? = some f → spot s.sp h = some f ∧ s.ha[f]? = some [h]) →
    LvOk s hs ∧ LvR s (lvL s hs) hs fs
  | [], fs, s, W, _, hl, _, _ => by
    obtain rfl := List.length_eq_zero_iff.mp hl
    exact ⟨trivial, fun f => (if_neg nofun).symm, fun f => (if_neg nofun).symm, rfl, rfl, fun h => (if_neg nofun).symm, id⟩
  | h :: hs, [], s, W, _, hl, _, _ => by cases hl
  | h :: hs, f :: fs, s, W, nd, hl, ok, al => by
    obtain ⟨nh, nd⟩ := List.nodup_cons.mp nd
    obtain ⟨hsp, hha⟩ := al 0 f h rfl rfl
    have hlt := lt_get hha
    have hlt2 : f < s.sh.length := by rw [W.ln]; exact hlt
    have dr : drp [h] h = [] := by
      unfold drp
      rw [List.filter_cons_of_neg (by simp)]
      rfl
    have e1 : lv1 s h = ⟨s.sh.set f blank, s.ha.set f [], s.sp.filter fun q => decide (q.1 ≠ h)⟩ := by
      unfold lv1
      rw [hsp]
      simp only [Option.getD_some]
      rw [getD_some hha, dr]
      rfl
    have W1 : PWf (lv1 s h) := by
      rw [e1]
      refine ⟨by rw [List.length_set, List.length_set]; exact W.ln, by rw [List.length_set]; exact W.l0, by rw [List.length_set]; exact W.l1, fun g hg => ?_, fun r hr => ?_, Nat.le_trans (List.length_filter_le _ _) W.few⟩
      · rcases List.mem_or_eq_of_mem_set hg with e | e
        · exact W.pg g e
        · rw [e]
          exact ⟨rfl, fun x hx => by rw [List.eq_of_mem_replicate hx]; omega⟩
      · rcases List.mem_or_eq_of_mem_set hr with e | e
        · exact W.ok r e
        · rw [e]
          exact ⟨Nat.zero_le _, nofun, List.Pairwise.nil⟩
    have ne : ∀ (k f' : Nat) (h' : Hd), hs[k]? = some h' → fs[k]? = some f' → h' ≠ h ∧ f' ≠ f := fun k f' h' a b => by
      have n1 : h' ≠ h := fun e => nh (by rw [← e]; exact mem_get a)
      refine ⟨n1, fun e => ?_⟩
      have := (al (k + 1) f' h' a b).2
      rw [e, hha] at this
      exact n1 (List.cons.inj (Option.some.inj this)).1.symm
    obtain ⟨a, R⟩ := lv_all hs fs (lv1 s h) W1 nd (Nat.succ.inj hl) (fun x hx => ok x (List.mem_cons_of_mem _ hx)) fun k f' h' a b => by
      obtain ⟨n1, n2⟩ := ne k f' h' a b
      obtain ⟨c, d⟩ := al (k + 1) f' h' a b
      rw [e1]
      refine ⟨?_, ?_⟩
      · show spot (s.sp.filter _) h' = _
        rw [spot_filter, if_neg n1]
        exact c
      · show (s.ha.set f [])[f']? = _
        rw [List.getElem?_set_ne n2.symm]
        exact d
    refine ⟨⟨W, ok h List.mem_cons_self, ⟨f, [h], hsp, hha⟩, a⟩, ?_⟩
    show LvR s (lvL (lv1 s h) hs) (h :: hs) (f :: fs)
    have mm : ∀ f' : Nat, f' ≠ f → (f' ∈ f :: fs ↔ f' ∈ fs) := fun f' n => ⟨fun m => (List.mem_cons.mp m).resolve_left n, List.mem_cons_of_mem _⟩
    refine ⟨fun f' => ?_, fun f' => ?_, ?_, ?_, fun x => ?_, fun n => R.spn ?_⟩
    · rw [R.ha, e1]
      show (if f' ∈ fs then some [] else (s.ha.set f [])[f']?) = _
      by_cases e : f' = f
      · subst e
        rw [List.getElem?_set_self hlt, if_pos List.mem_cons_self]
        split <;> rfl
      · rw [List.getElem?_set_ne fun z => e z.symm]
        simp only [mm f' e]
    · rw [R.sh, e1]
      show (if f' ∈ fs then some blank else (s.sh.set f blank)[f']?) = _
      by_cases e : f' = f
      · subst e
        rw [List.getElem?_set_self hlt2, if_pos List.mem_cons_self]
        split <;> rfl
      · rw [List.getElem?_set_ne fun z => e z.symm]
        simp only [mm f' e]
    · rw [R.lh, e1]
      exact List.length_set
    · rw [R.ls, e1]
      exact List.length_set
    · rw [R.sp, e1]
      show (if x ∈ hs then none else spot (s.sp.filter _) x) = _
      rw [spot_filter]
      by_cases e : x = h
      · subst e
        rw [if_pos rfl, if_pos List.mem_cons_self]
        split <;> rfl
      · rw [if_neg e]
        have : x ∈ h :: hs ↔ x ∈ hs := ⟨fun m => (List.mem_cons.mp m).resolve_left e, List.mem_cons_of_mem _⟩
        simp only [this]
    · rw [e1]
      exact (List.Sublist.map (·.1) (List.filter_sublist (l := s.sp))).nodup n
theorem Inv.gone {ts : Tbs} {z : St} {t : Tab} (I : Inv ts z Cl) (ht : ts[ts.d]? = some t) (hq : ∀ q, q.1 = ts.d → dom ts q → z.F q = none ∧ z.S q = none) :
    LvOk z.s (thold ts.d t.n) ∧ Inv ⟨ts.l, ts.d + 1⟩ { z with s := lvL z.s (thold ts.d t.n) } Cl := by
  have IP := I.P
  have T := IP.tab _ t ht
  have hd3 : ts.d < 3 := by have := Tbs.lt ht; have := IP.to; omega
  have fl : (t.f0 :: t.lows).length = (thold ts.d t.n).length := by rw [List.length_cons, T.ln, thold_len]; omega
  obtain ⟨lo, R⟩ := lv_all (thold ts.d t.n) (t.f0 :: t.lows) z.s IP.wf (thold_nodup _ _) fl (fun h hh => by
    obtain ⟨k, hk, rfl⟩ := thold_mem hh
    have := T.n0
    exact U_ok (U_tab hd3 (by omega))) fun k f h a b => by
    obtain ⟨rfl, _⟩ := thold_of a
    have o := T.own k f b
    exact ⟨(IP.sp _ _).mpr ⟨_, o, List.mem_singleton.mpr rfl⟩, o⟩
  refine ⟨lo, ?_⟩
  generalize lvL z.s (thold ts.d t.n) = s' at R
  have out : ∀ f : Nat, f ∉ t.f0 :: t.lows → s'.ha[f]? = z.s.ha[f]? ∧ s'.sh[f]? = z.s.sh[f]? := fun f n => ⟨by rw [R.ha, if_neg n], by rw [R.sh, if_neg n]⟩
  have look : ∀ (l : Nat) (t' : Tab), (⟨ts.l, ts.d + 1⟩ : Tbs)[l]? = some t' → ts[l]? = some t' ∧ l ≠ ts.d := fun l t' e => by
    rw [Tbs.at] at e ⊢
    have e : (if l < ts.d + 1 then none else ts.l[l]?) = some t' := e
    by_cases c : l < ts.d + 1
    · rw [if_pos c] at e; cases e
    · rw [if_neg c] at e
      exact ⟨by rw [if_neg (by omega)]; exact e, by omega⟩
  have back : ∀ (l : Nat) (t' : Tab), ts[l]? = some t' → l ≠ ts.d → (⟨ts.l, ts.d + 1⟩ : Tbs)[l]? = some t' := fun l t' e n => by
    rw [Tbs.at] at e ⊢
    show (if l < ts.d + 1 then none else ts.l[l]?) = some t'
    by_cases c : l < ts.d
    · rw [if_pos c] at e; cases e
    · rw [if_neg c] at e
      rw [if_neg (by omega)]
      exact e
  have dm : ∀ q, dom ⟨ts.l, ts.d + 1⟩ q → dom ts q ∧ q.1 ≠ ts.d := fun q ⟨t', e, h⟩ => ⟨⟨t', (look _ _ e).1, h⟩, (look _ _ e).2⟩
  have otherT : ∀ (l k f : Nat) (t' : Tab), ts[l]? = some t' → l ≠ ts.d → (t'.f0 :: t'.lows)[k]? = some f → f ∉ t.f0 :: t.lows := fun l k f t' e n hk hm => by
    obtain ⟨k', hk'⟩ := List.getElem?_of_mem hm
    exact n (IP.lowuniq e hk ht hk').1
  have pageF : ∀ (q : Pg) (f : Nat), dom ts q → z.F q = some f → f ∉ t.f0 :: t.lows := fun q f d hF hm => by
    obtain ⟨k', hk'⟩ := List.getElem?_of_mem hm
    exact IP.notlow (q' := (ts.d, 0)) d hF ht hk'
  have to : (⟨ts.l, ts.d + 1⟩ : Tbs).length ≤ 3 := IP.to
  have IZ := I.Z
  refine ⟨?_, ?_, fun q f d hF => ?_, fun q i d => I.vs q i (dm q d).1, fun q d n => I.nb q (dm q d).1 n, fun q d n => I.vb q (dm q d).1 n, fun q d n => ?_⟩
  · show PoolInv _ s' z.F
    refine ⟨by rw [R.ls, R.lh]; exact IP.ln, by rw [R.lh]; exact IP.l0, by rw [R.lh]; exact IP.l1, to, fun g hg => ?_, fun r hr => ?_, fun l t' e => ?_, fun f r hf h hh => ?_, fun q f d hF => ?_, fun h f => ?_, R.spn IP.spn, fun f hf => ?_⟩
    · obtain ⟨f, hf⟩ := List.getElem?_of_mem hg
      rw [R.sh] at hf
      split at hf
      · rw [← Option.some.inj hf]
        exact ⟨rfl, fun x hx => by rw [List.eq_of_mem_replicate hx]; omega⟩
      · exact IP.pgs g (mem_get hf)
    · obtain ⟨f, hf⟩ := List.getElem?_of_mem hr
      rw [R.ha] at hf
      split at hf
      · rw [← Option.some.inj hf]
        exact List.Pairwise.nil
      · exact IP.srt r (mem_get hf)
    · obtain ⟨e1, n⟩ := look l t' e
      have T' := IP.tab l t' e1
      refine ⟨T'.n0, T'.ln, fun k f hk => ?_, ?_⟩
      · rw [(out f (otherT l k f t' e1 n hk)).1]
        exact T'.own k f hk
      · obtain ⟨g, h1, h2⟩ := T'.top
        refine ⟨g, ?_, h2⟩
        rw [(out _ (otherT l 0 t'.f0 t' e1 n rfl)).2]
        exact h1
    · rw [R.ha] at hf
      split at hf
      · rw [← Option.some.inj hf] at hh; cases hh
      · rename_i nm
        rcases IP.row f r hf h hh with ⟨l, t', k, a, b, c⟩ | ⟨q, d, b, c⟩
        · refine .inl ⟨l, t', k, back l t' a fun e => ?_, b, c⟩
          subst e
          rw [ht] at a
          obtain rfl := Option.some.inj a
          exact nm (mem_get c)
        · refine .inr ⟨q, ?_, b, c⟩
          obtain ⟨t', a1, a2⟩ := d
          refine ⟨t', back _ _ a1 fun e => ?_, a2⟩
          rw [(hq q e ⟨t', a1, a2⟩).1] at c
          cases c
    · obtain ⟨d1, n⟩ := dm q d
      obtain ⟨r, a, b⟩ := IP.pg q f d1 hF
      refine ⟨r, ?_, b⟩
      rw [(out f (pageF q f d1 hF)).1]
      exact a
    · rw [R.sp]
      by_cases hm : h ∈ thold ts.d t.n
      · rw [if_pos hm]
        refine ⟨nofun, fun ⟨r, a, b⟩ => ?_⟩
        obtain ⟨k, hk, rfl⟩ := thold_mem hm
        rw [R.ha] at a
        split at a
        · rw [← Option.some.inj a] at b; cases b
        · rename_i nm
          rcases IP.row f r a _ b with ⟨l, t', k', a1, a2, a3⟩ | ⟨q, _, b2, _⟩
          · obtain ⟨e1, e2⟩ := thd_inj a2
            rw [← e1, ht] at a1
            obtain rfl := Option.some.inj a1
            exact absurd (mem_get a3) nm
          · exact (hp_thd b2.symm).elim
      · rw [if_neg hm, IP.sp]
        constructor
        · rintro ⟨r, a, b⟩
          refine ⟨r, ?_, b⟩
          rw [(out f fun m => ?_).1]
          · exact a
          · obtain ⟨k, hk⟩ := List.getElem?_of_mem m
            have o := T.own k f hk
            rw [a] at o
            rw [Option.some.inj o] at b
            rw [List.mem_singleton.mp b] at hm
            have := lt_get hk
            rw [fl, thold_len] at this
            exact hm (mem_get (thold_get this))
        · rintro ⟨r, a, b⟩
          rw [R.ha] at a
          split at a
          · rw [← Option.some.inj a] at b; cases b
          · exact ⟨r, a, b⟩
    · rw [R.ha] at hf
      rw [R.sh]
      split at hf
      · rename_i m
        rw [if_pos m]
      · rename_i m
        rw [if_neg m]
        exact IP.bl f hf
  · refine ⟨to, fun l t' e => IZ.tn l t' (look l t' e).1, IZ.kn, IZ.kl, fun i r hi => ?_, fun q i d => IZ.pg q i (dm q d).1, IZ.sp, IZ.spn, IZ.sl, IZ.spg⟩
    obtain ⟨a, b, c⟩ := IZ.row i r hi
    refine ⟨a, b, fun h hh => ?_⟩
    obtain ⟨q, ⟨t', a1, a2⟩, e, e2⟩ := c h hh
    refine ⟨q, ⟨t', back _ _ a1 fun e => ?_, a2⟩, e, e2⟩
    rw [(hq q e ⟨t', a1, a2⟩).2] at e2
    cases e2
  · obtain ⟨d1, n⟩ := dm q d
    show s'.sh[f]? = _
    rw [(out f (pageF q f d1 hF)).2]
    exact I.vf q f d1 hF
  · obtain ⟨d1, nd⟩ := dm q d
    obtain ⟨t', lo, g, c, a1, a2, a3, a4, a5⟩ := I.en q d1 n
    refine ⟨t', lo, g, c, back _ _ a1 nd, a2, ?_, a4, a5⟩
    show s'.sh[lo]? = _
    rw [(out lo (otherT q.1 (q.2 / 8 + 1) lo t' a1 nd (by rw [List.getElem?_cons_succ]; exact a2))).2]
    exact a3
theorem Inv.allGone {ts : Tbs} {z : St} (I : Inv ts z Cl) (h : ts.length ≤ ts.d) : (∀ f : Nat, f < z.s.ha.length → z.s.ha[f]? = some [] ∧ z.s.sh[f]? = some blank) ∧ ∀ i, nl z.u.hs i = none := by
  have nt : ∀ (l : Nat) (t : Tab), ts[l]? = some t → False := fun l t e => by
    have h1 := Tbs.lt e
    rw [Tbs.at, if_pos (by omega)] at e
    cases e
  have nd : ∀ q, dom ts q → False := fun q ⟨t, e, _⟩ => nt _ _ e
  refine ⟨fun f hf => ?_, fun i => ?_⟩
  · have e := List.getElem?_eq_getElem hf
    have : z.s.ha[f] = [] := by
      cases e2 : z.s.ha[f] with
      | nil => rfl
      | cons x r =>
        rw [e2] at e
        rcases I.P.row f _ e x List.mem_cons_self with ⟨l, t, k, a, _⟩ | ⟨q, d, _⟩
        · exact (nt l t a).elim
        · exact (nd q d).elim
    rw [this] at e
    exact ⟨e, I.P.bl f e⟩
  · cases e : nl z.u.hs i with
    | none => rfl
    | some r =>
      obtain ⟨a, _, c⟩ := I.Z.row i r e
      cases r with
      | nil => exact absurd rfl a
      | cons x r =>
        obtain ⟨q, d, _⟩ := c x List.mem_cons_self
        exact (nd q d).elim
end Lw
set_option maxHeartbeats 4000000
/-! the law -/
namespace Lw
open PySem PySem.Spec PyProof.Rows L2
abbrev dLaw : Stmt := top 62
def noFree (scope : Scope) : Bool := scope.names.all fun y => !(y.2 == .free)
/-- a comprehension in a comprehension, nothing of it free -/
theorem bkN (N : List Str) (sc' : Scope) {sc scope : Scope} {own : List (Str × Nat)} (h : bkB N sc' scope own = true) (hf : noFree scope = true) : BlkOk N sc scope own := by
  have b := bk N sc' h
  refine ⟨b.kind, b.uniq, b.ix, fun y hy e => ?_, b.own⟩
  unfold noFree at hf
  rw [List.all_eq_true] at hf
  have := hf y hy
  rw [e] at this
  exact absurd this (by decide)
theorem PotAt.kp {p : Addr} {m : Nat} {G G' : Gp} (h : PotAt p m G) (k : ∀ {x o}, G x = some o → G' x = some o) : PotAt p m G' := by
  obtain ⟨a, b, c, e, r⟩ := h
  exact ⟨a, b, c, k e, r⟩
theorem frees_new : ∀ (k m : Nat), (frees k (List.replicate m [])).length = m
  | _, 0 => rfl
  | k, m + 1 => by
    rw [List.replicate_succ]
    show (frees (k + 1) (List.replicate m [])).length + 1 = m + 1
    rw [frees_new (k + 1) m]
theorem some_ne {G : Gp} {x y : Addr} {u : AO} (e : G x = some u) (n : G y = none) : x ≠ y := fun z => by
  rw [z, n] at e; cases e
theorem frees_all {ha : List (List Hd)} (h : ∀ f : Nat, f < ha.length → ha[f]? = some []) : frees 0 ha = List.range ha.length := by
  have : ha = List.replicate ha.length [] := by
    refine List.ext_getElem? fun f => ?_
    rw [List.getElem?_replicate]
    by_cases c : f < ha.length
    · rw [if_pos c, h f c]
    · rw [if_neg c, List.getElem?_eq_none (by omega)]
  have go : ∀ (k m : Nat), frees k (List.replicate m []) = List.range' k m := by
    intro k m
    induction m generalizing k with
    | zero => rfl
    | succ m ih =>
      rw [List.replicate_succ]
      show k :: frees (k + 1) (List.replicate m []) = k :: List.range' (k + 1) m
      rw [ih]
  rw [this, go, List.length_replicate, List.range_eq_range']
theorem HouseAt.less {C E' D : Addr} {h : Hs} {l : List Tab} {d : Nat} {z : St} {G : Gp} (H : HouseAt C E' D h ⟨l, d⟩ z G) : HouseAt C E' D h ⟨l, d + 1⟩ z G :=
  ⟨H.pool, H.slot, H.hs, H.tl, H.ln, fun i t e => H.tab i t (by
    rw [Tbs.at] at e ⊢
    have e : (if i < d + 1 then none else l[i]?) = some t := e
    show (if i < d then none else l[i]?) = some t
    by_cases c : i < d + 1
    · rw [if_pos c] at e; cases e
    · rw [if_neg c] at e
      rw [if_neg (by omega)]
      exact e), H.ha, H.hb, H.ta, H.tb, H.cc⟩
section
variable {P : Program} {w : World} {K : PySem.W.Frag} {mg : Str → Option Value} {base : Heap} {k : Nat} {C D E' : Addr}
abbrev nLaw : List Str := ["script", "k", "pot", "sizes", "pool", "house", "sheets", "turn", "lodge", "size", "part", "many", "frame"]
theorem scLaw : FnScope nLaw ["script"] (defScope dLaw) := ⟨rfl, rfl, rfl, by decide +kernel, rfl, by decide +kernel, by decide +kernel⟩
def SLaw : Sp3 := fun ds G Q => ∃ ns, ds = [.scr ns] ∧ ∀ G', Q (.bl true) G'
theorem okLaw {f : Addr} {fd : FuncData} (F : Fun K "law" "law" dLaw f fd) (T : Txt K w mg) (TC : PTx K mg C) (TE : PTx K mg E') (TD : TTx K mg D)
    (D1 : DefOk P w K mg base 1 "_law_pot" [] SPot) (D2 : DefOk P w K mg base 1 "_law_take" [] STk) (D3 : MakeOk P w K mg base 2 C "Pool" (SPoolInit C)) (D4 : MakeOk P w K mg base 1 E' "Slots" (SSlotsInit E')) (D5 : MakeOk P w K mg base 5 D "Table" (STInit C D))
    (D6 : DefOk P w K mg base 11 "_law_deed" [] (SDeed C D E')) (D7 : DefOk P w K mg base 7 "_law_right" [] (SRight C D E')) (D8 : DefOk P w K mg base 8 "_law_left" [] (SLeft C D E')) (D9 : MethOk P w K mg base 4 D "leave" [] (STLeave C D))
    (D10 : MethOk P w K mg base 1 C "ledger" [] (SLedgerOf C)) (D11 : MethOk P w K mg base 1 C "free" [] (SFree C)) (D12 : MethOk P w K mg base 3 C "page" [] (SPageOf C)) (D13 : MethOk P w K mg base 4 E' "put" [] (SSPut P w E')) : FnOk P w K mg base CX0 12 f fd ["script"] (spl K SLaw) := by
  refine Fun3 F scLaw (fun ds G Q ⟨_, e, _⟩ => by rw [e]; rfl) fun cdv A outer s H E hr => ⟨_, s_cons (s_for rfl (i_range T.range (e_max2 rfl T.max e_int (e_min2 rfl T.min e_int (e_len T.len (v 0))))) (g_name (i := 1) scLaw.nd)
    (s_cons (s_set (i := 2) scLaw.nd (e_call D1 hr (a_cons (v 0) (a_cons (v 1) a_nil))))
    (s_cons (s_setLc (i := 3) (own := [("lodge", 8)]) rfl scLaw.nd (i_range T.range (e_add e_int (e_call D2 hr (a_cons (v 2) (a_cons e_int a_nil))))) (bk nLaw (defScope dLaw) (by decide +kernel)) (fun s H C cl fp => g_name (i := 8) scLaw.nd) (fun s H C cl fp => ts_nil)
      (fun s H C cl fp => e_ixN (l_lst (a_cons (e_add e_int (e_call D2 hr (a_cons (v 2) (a_cons e_int a_nil)))) (a_cons e_int (a_cons e_int a_nil)))) (e_call D2 hr (a_cons (v 2) (a_cons e_int a_nil)))))
    (s_cons (s_set (i := 4) scLaw.nd (e_make D3 hr (a_cons (e_add e_int (e_call D2 hr (a_cons (v 2) (a_cons e_int a_nil)))) a_nil)))
    (s_cons (s_set (i := 5) scLaw.nd (e_new (l_lst (a_cons (v 4) (a_cons (e_make0 D4 hr) (a_cons (e_new (l_lc (own := [("lodge", 8), ("size", 9)]) rfl scLaw.nd (i_enumL T.enum (v 3)) (bk nLaw (defScope dLaw) (by decide +kernel)) (fun s H C cl fp => g_tup (n := 2) rfl (gs_cons (g_name (i := 8) scLaw.nd) (gs_cons (g_name (i := 9) scLaw.nd) gs_nil))) (fun s H C cl fp => ts_nil)
      (fun s H C cl fp => e_make D5 hr (a_cons (v 4) (a_cons (v 8) (a_cons (v 9) a_nil)))))) a_nil))))))
    (s_cons (s_setLc (i := 6) (own := [("size", 9)]) rfl scLaw.nd (i_list (v 3)) (bk nLaw (defScope dLaw) (by decide +kernel)) (fun s H C cl fp => g_name (i := 9) scLaw.nd) (fun s H C cl fp => ts_nil)
      (fun s H C cl fp => e_new (l_lc (own := [("part", 10)]) rfl scLaw.nd (i_range T.range (v 9)) (bkN nLaw (defScope dLaw) (by decide +kernel) (by decide +kernel)) (fun s H C cl fp => g_name (i := 10) scLaw.nd) (fun s H C cl fp => ts_nil) (fun s H C cl fp => e_repT (e_tup (a_cons e_int a_nil)) e_int))))
    (s_cons (s_for rfl (i_range T.range e_int) (g_name (i := 7) scLaw.nd) (s_cons (s_expr (e_call D6 hr (a_cons (v 2) (a_cons (v 5) (a_cons (v 6) a_nil))))) (s_one (s_if (t_not (t_val (e_call D7 hr (a_cons (v 5) (a_cons (v 6) a_nil))))) ss_never s_nil))))
    (s_cons (s_for rfl (i_enumL T.enum (v 3)) (g_tup (n := 2) rfl (gs_cons (g_name (i := 8) scLaw.nd) (gs_cons (g_name (i := 9) scLaw.nd) gs_nil)))
      (s_cons (s_for rfl (i_range T.range (v 9)) (g_name (i := 10) scLaw.nd) (s_one (s_expr (e_call D8 hr (a_cons (v 5) (a_cons (v 8) (a_cons (v 10) a_nil)))))))
        (s_one (s_expr (e_meth0 D9 TD.cl hr (e_ixL (e_ixL (v 5) e_int) (v 8)))))))
    (s_cons (s_set (i := 11) scLaw.nd (e_len T.len (e_meth0 D10 TC.cl hr (v 4))))
    (s_cons (s_if (w_pt (w_or (t_ne hr.units (e_meth0 D11 TC.cl hr (v 4)) (e_tupR rfl T.tuple T.range (v 11))) (w_or1 (t_neL hr.units
        (l_lc (own := [("frame", 12)]) rfl scLaw.nd (i_range T.range (v 11)) (bk nLaw (defScope dLaw) (by decide +kernel)) (fun s H C cl fp => g_name (i := 12) scLaw.nd) (fun s H C cl fp => ts_one (t_ne hr.units (e_meth D12 TC.cl hr (v 4) (a_cons (v 12) a_nil)) (e_repT (e_tup (a_cons e_int a_nil)) e_int))) (fun s H C cl fp => v 12)) (l_lst a_nil))))) ss_never s_nil)
    (s_one (s_if (t_ne hr.units (e_meth D13 TE.cl hr (e_ixL (v 5) e_int) (a_cons (e_repT (e_tup (a_cons e_int a_nil)) e_int) (a_cons (e_tup (a_cons (e_tup (a_cons e_str (a_cons e_int (a_cons e_int a_nil)))) a_nil)) a_nil))) e_int) ss_never s_nil))))))))))))
    (s_one (s_ret e_bl)), ?_⟩
  rintro ds G Q ⟨ns, rfl, q⟩
  have hb : ∀ x : Int, 1 ≤ (if (if x < 3 then x else 3) > 1 then (if x < 3 then x else 3) else 1) ∧ (if (if x < 3 then x else 3) > 1 then (if x < 3 then x else 3) else 1) ≤ 3 := fun x => by
    by_cases h : x < 3
    · rw [if_pos h]
      by_cases h2 : x > 1
      · rw [if_pos h2]; omega
      · rw [if_neg h2]; omega
    · rw [if_neg h, if_pos (by decide)]; omega
  obtain ⟨b1, b3⟩ := hb (ns.length : Nat)
  refine ⟨_, rfl, _, rfl, .inr (.inr ⟨_, rfl, _, _, rfl, _, _, rfl, _, rfl, by omega, by omega, ?_⟩)⟩
  generalize (if (if ((ns.length : Nat) : Int) < 3 then ((ns.length : Nat) : Int) else 3) > 1 then (if ((ns.length : Nat) : Int) < 3 then ((ns.length : Nat) : Int) else 3) else 1) = n at b1 b3
  refine ⟨fun i τ' G' => ∃ a1 a2 a3 a4 a5 a6 a7 a8 a9 a10 a11 a12, τ' = [some (.scr ns), a1, a2, a3, a4, a5, a6, a7, a8, a9, a10, a11, a12], ⟨_, _, _, _, _, _, _, _, _, _, _, _, rfl⟩, fun _ _ _ _ _ => trivial, ?_, fun τ' G' _ => q G'⟩
  rintro k d τ' G0 hd ⟨a1, a2, a3, a4, a5, a6, a7, a8, a9, a10, a11, a12, rfl⟩
  have hk := lt_get hd
  rw [intsD_len] at hk
  rw [intsD_get hk] at hd
  obtain rfl : Da.int (k : Nat) = d := Option.some.inj hd
  -- the pot
  refine ⟨_, rfl, _, rfl, ns, k, rfl, by omega, fun p G1 gp pt1 k1 => ?_⟩
  clear k1 gp
  -- the sizes
  refine ⟨_, rfl, p, 0, 3, rfl, pt1, by omega, by omega, by omega, fun r G2 hr3 pt2 k2 => ⟨_, _, rfl, rfl, _, rfl, ?_⟩⟩
  clear k2 pt1
  have e0 : (fun (i j : Int) => i + j) 1 (r : Nat) = ((1 + r : Nat) : Int) := by show (1 : Int) + (r : Nat) = _; omega
  rw [e0]
  refine ⟨by omega, by omega, ?_⟩
  rw [Int.toNat_natCast]
  refine ⟨fun i acc G' => ∃ szs : List Nat, acc = szs.map (fun s => Da.int (s : Nat)) ∧ szs.length = i ∧ (∀ s ∈ szs, 1 ≤ s ∧ s ≤ 16) ∧ PotAt p (1 + 2 * i) G', ⟨[], rfl, rfl, nofun, pt2⟩, fun i acc G' hi ⟨szs, e, l, _⟩ => ⟨trivial, small_len (by rw [intsD_len] at hi; rw [e, List.length_map]; omega)⟩, ?_, ?_⟩
  · rintro i d acc G' hd ⟨szs, rfl, hl, hs, pt⟩
    have hi := lt_get hd
    rw [intsD_len] at hi
    refine ⟨_, rfl, p, 1 + 2 * i, 16, rfl, pt, by omega, by omega, by omega, fun x G3 hx pt3 _ => ⟨_, _, rfl, rfl, sz3, _, rfl, p, 1 + 2 * i + 1, 3, rfl, pt3, by omega, by omega, by omega, fun y G4 hy pt4 _ => ?_⟩⟩
    obtain ⟨s, h1, h2, hat⟩ : ∃ s : Nat, 1 ≤ s ∧ s ≤ 16 ∧ atI [Da.int ((fun (i j : Int) => i + j) 1 (x : Nat)), .int 9, .int 3] (y : Nat) = some (.int (s : Nat)) := by
      match y, hy with
      | 0, _ => exact ⟨1 + x, by omega, by omega, at_nat (by show some (Da.int (1 + (x : Nat))) = some (.int ((1 + x : Nat) : Int)); rw [show ((1 + x : Nat) : Int) = 1 + (x : Nat) by omega])⟩
      | 1, _ => exact ⟨9, by omega, by omega, at_nat rfl⟩
      | 2, _ => exact ⟨3, by omega, by omega, at_nat rfl⟩
    refine ⟨_, _, rfl, hat, szs ++ [s], by rw [List.map_append]; rfl, by rw [List.length_append, hl]; rfl, fun z hz => ?_, pt4⟩
    rcases List.mem_append.mp hz with hz | hz
    · exact hs z hz
    · rw [List.mem_singleton.mp hz]
      exact ⟨h1, h2⟩
  rintro acc G3 ⟨szs, rfl, hl, hs, pt3⟩
  rw [intsD_len] at hl pt3
  intro sl gsl
  have slp : p ≠ sl := by
    obtain ⟨_, _, _, e, _⟩ := pt3
    exact some_ne e gsl
  have g4s : up G3 sl (.lst (szs.map fun s => Da.int (s : Nat))) sl = some (.lst (szs.map fun s => Da.int (s : Nat))) := up_same
  have pt4 : PotAt p (1 + 2 * (1 + r)) (up G3 sl (.lst (szs.map fun s => Da.int (s : Nat)))) := pt3.kp fun {x o} e => (up_ne (some_ne e gsl)).trans e
  show sSeq _ _ _ _ (up G3 sl (.lst (szs.map fun s => Da.int (s : Nat))))
  generalize up G3 sl (.lst (szs.map fun s => Da.int (s : Nat))) = G4 at g4s pt4
  clear gsl pt3 pt2 G3 G2
  -- the pool
  refine ⟨_, rfl, p, _, 4, rfl, pt4, by omega, by omega, by omega, fun r4 G5 hr4 pt5 k5 => ⟨_, _, rfl, rfl, ?_⟩⟩
  intro qa gqa
  have e1 : (fun (i j : Int) => i + j) 10 (r4 : Nat) = ((10 + r4 : Nat) : Int) := by show (10 : Int) + (r4 : Nat) = _; omega
  rw [e1]
  refine ⟨qa, 10 + r4, rfl, up_same, by omega, by omega, fun A G6 eA n1 n2 n3 P6 k6 => ⟨rfl, ?_⟩⟩
  subst eA
  have ex5 : ∀ {x u}, G5 x = some u → x ≠ A.p ∧ x ≠ A.a ∧ x ≠ A.b ∧ x ≠ A.c ∧ G6 x = some u := fun {x u} e => by
    have np := some_ne e gqa
    have e' := (up_ne (o := .ins C []) np).trans e
    exact ⟨np, some_ne e' n1, some_ne e' n2, some_ne e' n3, k6 x u np e'⟩
  obtain ⟨_, sa, sb, sc, g6s⟩ := ex5 (k5 sl _ slp.symm g4s)
  have pt6 : PotAt p (1 + 2 * (1 + r) + 1) G6 := pt5.kp fun {x o} e => (ex5 e).2.2.2.2
  obtain ⟨pa, pb, pc⟩ : p ≠ A.a ∧ p ≠ A.b ∧ p ≠ A.c := by
    obtain ⟨_, _, _, e, _⟩ := pt5
    exact ⟨(ex5 e).2.1, (ex5 e).2.2.1, (ex5 e).2.2.2.1⟩
  clear ex5 n1 n2 n3 k6 gqa g4s pt4 pt5 k5 G4
  -- the slots
  refine ⟨_, rfl, ?_⟩
  intro qb gqb
  refine ⟨qb, rfl, up_same, fun B G7 eB n1 n2 n3 S7 k7 => ⟨rfl, ?_⟩⟩
  subst eB
  have ex6 : ∀ {x u}, G6 x = some u → x ≠ B.c ∧ G7 x = some u := fun {x u} e => by
    have np := some_ne e gqb
    have e' := (up_ne (o := .ins E' []) np).trans e
    exact ⟨some_ne e' n3, k7 x u np e'⟩
  have P7 : PoolAt C A (PS.new (10 + r4)) G7 := ⟨(ex6 P6.p).2, (ex6 P6.a).2, (ex6 P6.b).2, (ex6 P6.c).2, P6.ab⟩
  have pt7 : PotAt p (1 + 2 * (1 + r) + 1) G7 := pt6.kp fun {x o} e => (ex6 e).2
  have g7s := (ex6 g6s).2
  have cc := (ex6 P6.c).1
  clear ex6 n1 n2 n3 k7 gqb P6 pt6 g6s G6
  -- the tables
  refine ⟨_, rfl, sl, _, rfl, g7s, ?_⟩
  refine ⟨fun i acc G' => ∃ (ts : List Tab) (s : PS) (tb : List (Addr × Addr)), acc = tb.map (fun x => Da.obj x.1) ∧ tb.length = i ∧ ts.length = i ∧ PoolAt C A s G' ∧ SlotsAt E' B ⟨[], [], []⟩ G' ∧ PotAt p (1 + 2 * (1 + r) + 1) G' ∧ G' sl = some (.lst (szs.map fun s => Da.int (s : Nat))) ∧ Inv ⟨ts, 0⟩ (z0 s) Cl ∧
      10 ≤ (frees 0 s.ha).length + 3 * i ∧ (∀ (l : Nat) (t : Tab), ts[l]? = some t → szs[l]? = some t.n ∧ ∃ x o, tb[l]? = some (x, o) ∧ TabAt D A x o l t.n t.f0 G') ∧ ∀ x ∈ tb, p ≠ x.2,
    ⟨[], _, [], rfl, rfl, rfl, P7, S7, pt7, g7s, Inv.fresh _ (by omega) (by omega), (by show 10 ≤ (frees 0 (List.replicate (10 + r4) ([] : List Hd))).length + 0; rw [frees_new]; omega), fun l t e => (by cases e), nofun⟩,
    fun i acc G' hi ⟨ts, s, tb, e, l1, _, _, _, _, g, _⟩ => ⟨g, small_len (by rw [enumD_len, List.length_map] at hi; rw [e, List.length_map]; omega)⟩, ?_, ?_⟩
  · rintro i d acc G' hd ⟨ts, s, tb, rfl, hl1, hl2, P1, S1, pt1', gs1, I1, f1, tab1, tb1⟩
    obtain ⟨d0, h0, rfl⟩ := enumD_of hd
    rw [List.getElem?_map] at h0
    obtain ⟨n', hn', rfl⟩ := Option.map_eq_some_iff.mp h0
    obtain ⟨n1', n16⟩ := hs n' (mem_get hn')
    have hi := lt_get hn'
    subst hl2
    obtain ⟨f0, lows, M⟩ := I1.made (n := n') n16 (by omega) (by omega)
    refine ⟨_, rfl, rfl, _, _, rfl, _, _, rfl, rfl, ?_⟩
    refine ⟨_, rfl, _, rfl, _, rfl, fun t gt => ?_⟩
    refine ⟨A, s, t, ts.length, n', f0, lows, rfl, up_same, P1.upX (some_ne P1.p gt).symm (some_ne P1.a gt).symm (some_ne P1.b gt).symm (some_ne P1.c gt).symm, I1.P.wf, n16, M.ns, M.en, M.tk, M.fs, M.lo, M.pt, fun o G2 go P2 T2 k2 => ⟨rfl, ?_⟩⟩
    have kk : ∀ {x u}, x ≠ A.a → x ≠ A.b → x ≠ A.c → G' x = some u → G2 x = some u := fun {x u} a b c e => k2 x u (some_ne e gt) a b c ((up_ne (some_ne e gt)).trans e)
    refine ⟨ts ++ [⟨n', f0, lows⟩], _, tb ++ [(t, o)], by rw [List.map_append]; rfl, by rw [List.length_append, hl1]; rfl, by rw [List.length_append]; rfl, P2,
      ⟨kk (ne_kind S1.p P1.a nofun) (ne_kind S1.p P1.b nofun) (ne_kind S1.p P1.c nofun) S1.p, kk (ne_kind S1.a P1.a nofun) (ne_kind S1.a P1.b nofun) (ne_kind S1.a P1.c nofun) S1.a, kk (ne_kind S1.b P1.a nofun) (ne_kind S1.b P1.b nofun) (ne_kind S1.b P1.c nofun) S1.b, kk (ne_kind S1.c P1.a nofun) (ne_kind S1.c P1.b nofun) cc.symm S1.c, S1.ab⟩,
      ?_, kk sa sb sc gs1, M.iv, by have := M.fr; omega, fun l t' e => ?_, fun x hx => ?_⟩
    · obtain ⟨a, b, c, e, r⟩ := pt1'
      exact ⟨a, b, c, kk pa pb pc e, r⟩
    · rcases Nat.lt_trichotomy l ts.length with c | c | c
      · rw [List.getElem?_append_left c] at e
        obtain ⟨a1, x, o', a2, a3⟩ := tab1 l t' e
        refine ⟨a1, x, o', by rw [List.getElem?_append_left (by omega)]; exact a2, a3.oa, a3.ob, kk (ne_kind a3.t P1.a nofun) (ne_kind a3.t P1.b nofun) (ne_kind a3.t P1.c nofun) a3.t, kk a3.oa a3.ob (ne_kind a3.o P1.c nofun) a3.o⟩
      · subst c
        rw [List.getElem?_append_right (Nat.le_refl _), Nat.sub_self] at e
        obtain rfl := Option.some.inj e
        exact ⟨hn', t, o, by rw [List.getElem?_append_right (by omega), hl1, Nat.sub_self]; rfl, T2⟩
      · have := lt_get e
        rw [List.length_append] at this
        have : l < ts.length + 1 := this
        omega
    · rcases List.mem_append.mp hx with hx | hx
      · exact tb1 x hx
      · rw [List.mem_singleton.mp hx]
        obtain ⟨_, _, _, e, _⟩ := pt1'
        exact some_ne ((up_ne (some_ne e gt)).trans e) go
  rintro acc G8 ⟨ts, s, tb, rfl, hl1, hl2, P8, S8, pt8, g8s, I8, f8, tab8, tb8⟩
  rw [enumD_len, List.length_map, hl] at hl1 hl2
  intro tl gtl
  refine ⟨sz3, fun hh ghh => ?_⟩
  have ex8 : ∀ {x u}, G8 x = some u → x ≠ tl ∧ x ≠ hh ∧ up (up G8 tl (.lst (tb.map fun x => Da.obj x.1))) hh (.lst [.obj A.p, .obj B.p, .obj tl]) x = some u := fun {x u} e => by
    have n1 := some_ne e gtl
    have e' := (up_ne (o := .lst (tb.map fun x => Da.obj x.1)) n1).trans e
    have n2 := some_ne e' ghh
    exact ⟨n1, n2, (up_ne n2).trans e'⟩
  have nth : tl ≠ hh := some_ne (up_same (o := .lst (tb.map fun x => Da.obj x.1))) ghh
  have ho : HouseAt C E' D ⟨A, B, hh, tl, tb⟩ ⟨ts, 0⟩ (z0 s) (up (up G8 tl (.lst (tb.map fun x => Da.obj x.1))) hh (.lst [.obj A.p, .obj B.p, .obj tl])) := by
    refine ⟨⟨(ex8 P8.p).2.2, (ex8 P8.a).2.2, (ex8 P8.b).2.2, (ex8 P8.c).2.2, P8.ab⟩, ⟨(ex8 S8.p).2.2, (ex8 S8.a).2.2, (ex8 S8.b).2.2, (ex8 S8.c).2.2, S8.ab⟩, up_same, (up_ne nth).trans up_same, by rw [hl1]; exact hl2.symm, fun l t e => ?_, (ex8 P8.a).2.1.symm, (ex8 P8.b).2.1.symm, (ex8 P8.a).1.symm, (ex8 P8.b).1.symm, cc⟩
    rw [Tbs.at0] at e
    obtain ⟨_, x, o, a2, a3⟩ := tab8 l t e
    exact ⟨x, o, a2, a3.oa, a3.ob, (ex8 a3.t).2.2, (ex8 a3.o).2.2⟩
  have pf : PotFree ⟨A, B, hh, tl, tb⟩ p := by
    obtain ⟨_, _, _, e, _⟩ := pt8
    exact ⟨(ex8 e).2.1, (ex8 e).1, pa, pb, tb8⟩
  have pt9 : PotAt p (1 + 2 * (1 + r) + 1) (up (up G8 tl (.lst (tb.map fun x => Da.obj x.1))) hh (.lst [.obj A.p, .obj B.p, .obj tl])) := pt8.kp fun {x o} e => (ex8 e).2.2
  have g9s := (ex8 g8s).2.2
  have slh : sl ≠ hh ∧ sl ≠ tl := ⟨(ex8 g8s).2.1, (ex8 g8s).1⟩
  have tbx : ∀ x ∈ tb, ∃ u, up (up G8 tl (.lst (tb.map fun x => Da.obj x.1))) hh (.lst [.obj A.p, .obj B.p, .obj tl]) x.2 = some u := fun x hx => by
    obtain ⟨l, hlx⟩ := List.getElem?_of_mem hx
    have := lt_get hlx
    obtain ⟨_, x', o', a2, a3⟩ := tab8 l ts[l] (List.getElem?_eq_getElem (by omega))
    rw [hlx] at a2
    rw [Option.some.inj a2]
    exact ⟨_, (ex8 a3.o).2.2⟩
  have szt : ∀ (l : Nat) (t : Tab), ts[l]? = some t → szs[l]? = some t.n := fun l t e => (tab8 l t e).1
  show sSeq _ _ _ _ (up (up G8 tl (.lst (tb.map fun x => Da.obj x.1))) hh (.lst [.obj A.p, .obj B.p, .obj tl]))
  generalize up (up G8 tl (.lst (tb.map fun x => Da.obj x.1))) hh (.lst [.obj A.p, .obj B.p, .obj tl]) = G9 at ho pt9 g9s tbx
  clear ex8 ghh gtl tab8 tb8 P8 S8 pt8 g8s nth P7 S7 pt7 g7s G8 G7
  -- the sheets
  refine ⟨_, rfl, sl, _, rfl, g9s, ?_⟩
  refine ⟨fun i acc G' => ∃ la : List Addr, acc = la.map Da.obj ∧ la.length = i ∧ la.Nodup ∧ Kp G9 G' ∧ (∀ a ∈ la, G9 a = none) ∧ ∀ (l n : Nat) (a : Addr), szs[l]? = some n → la[l]? = some a → G' a = some (.lst (pgsD (fun _ => blank) l n)),
    ⟨[], rfl, rfl, List.nodup_nil, fun _ _ e => e, nofun, fun l n a _ e => (by cases e)⟩, fun i acc G' hi ⟨la, e, l1, _, k', _⟩ => ⟨k' _ _ g9s, small_len (by rw [List.length_map] at hi; rw [e, List.length_map]; omega)⟩, ?_, ?_⟩
  · rintro i d acc G' hd ⟨la, rfl, l1, nd, k', fr, ga⟩
    rw [List.getElem?_map] at hd
    obtain ⟨n', hn', rfl⟩ := Option.map_eq_some_iff.mp hd
    obtain ⟨n1', n16⟩ := hs n' (mem_get hn')
    refine ⟨_, rfl, n', rfl, by omega, by omega, ?_⟩
    rw [Int.toNat_natCast]
    refine lc_map (fun _ => pD blank) trivial (small_len (by rw [intsD_len]; omega)) (fun d hd R h => ⟨sz1, _, _, rfl, rfl, nofun, by decide, by decide, by decide, h⟩) ?_
    intro a ga'
    have e2 : (intsD n').map (fun _ => pD blank) = pgsD (fun _ => blank) i n' := by
      unfold intsD pgsD
      rw [List.map_map]
      rfl
    rw [e2]
    have ne : ∀ {x u}, G' x = some u → up G' a (.lst (pgsD (fun _ => blank) i n')) x = some u := fun {x u} e => (up_ne (some_ne e ga')).trans e
    refine ⟨la ++ [a], by rw [List.map_append]; rfl, by rw [List.length_append, l1]; rfl, ?_, fun x u e => ne (k' x u e), fun b hb => ?_, fun l n'' b e1 e2 => ?_⟩
    · refine List.nodup_append.mpr ⟨nd, List.nodup_cons.mpr ⟨nofun, List.nodup_nil⟩, fun b hb b' hb' e => ?_⟩
      rw [List.mem_singleton.mp hb'] at e
      subst e
      obtain ⟨l, hl3⟩ := List.getElem?_of_mem hb
      have := lt_get hl3
      have := ga l (szs[l]'(by have := lt_get hn'; omega)) _ (List.getElem?_eq_getElem (by have := lt_get hn'; omega)) hl3
      rw [ga'] at this; cases this
    · rcases List.mem_append.mp hb with hb | hb
      · exact fr b hb
      · rw [List.mem_singleton.mp hb]
        cases e : G9 a with
        | none => rfl
        | some u =>
          have := k' _ _ e
          rw [ga'] at this; cases this
    · by_cases c : l < la.length
      · rw [List.getElem?_append_left c] at e2
        exact ne (ga l n'' b e1 e2)
      · have c2 := lt_get e2
        rw [List.length_append] at c2
        have c2 : l < la.length + 1 := c2
        have c3 : l = la.length := by omega
        subst c3
        rw [List.getElem?_append_right (Nat.le_refl _), Nat.sub_self] at e2
        obtain rfl := Option.some.inj e2
        rw [l1, hn'] at e1
        obtain rfl := Option.some.inj e1
        rw [l1]
        exact up_same
  rintro acc G10 ⟨la, rfl, ll, nd, k10, fr, ga⟩
  rw [List.length_map, hl] at ll
  intro sd gsd
  have ho11 : HouseAt C E' D ⟨A, B, hh, tl, tb⟩ ⟨ts, 0⟩ (z0 s) (up G10 sd (.lst (la.map Da.obj))) := ho.ext fun x u e => (up_ne (some_ne (k10 x u e) gsd)).trans (k10 x u e)
  have pt11 : PotAt p (1 + 2 * (1 + r) + 1) (up G10 sd (.lst (la.map Da.obj))) := pt9.kp fun {x u} e => (up_ne (some_ne (k10 x u e) gsd)).trans (k10 x u e)
  have g11s : up G10 sd (.lst (la.map Da.obj)) sl = some (.lst (szs.map fun s => Da.int (s : Nat))) := (up_ne (some_ne (k10 _ _ g9s) gsd)).trans (k10 _ _ g9s)
  have S11 : SheetsAt ⟨A, B, hh, tl, tb⟩ p sd la ⟨ts, 0⟩ (fun _ => blank) (up G10 sd (.lst (la.map Da.obj))) := by
    have P9 := ho.pool
    have no9 : ∀ {x u}, G9 x = some u → ∀ a ∈ la, a ≠ x := fun {x u} e a hm => (some_ne e (fr a hm)).symm
    obtain ⟨_, _, _, gp9, _⟩ := pt9
    refine ⟨up_same, by rw [ll]; exact hl2.symm, nd, fun l t e => ?_, fun a hm => ⟨⟨no9 ho.hs a hm, no9 ho.tl a hm, no9 P9.a a hm, no9 P9.b a hm, fun x hx => ?_⟩, no9 gp9 a hm, ?_⟩, ⟨(some_ne (k10 _ _ gp9) gsd).symm, (some_ne (k10 _ _ P9.a) gsd).symm, (some_ne (k10 _ _ P9.b) gsd).symm⟩, by show 1 ≤ ts.length; omega, fun l h => ⟨ts[l], by rw [Tbs.at0]; exact List.getElem?_eq_getElem h⟩, fun l t e => ?_⟩
    · rw [Tbs.at0] at e
      have hlt := lt_get e
      have hla : l < la.length := by omega
      have h1 := ga l t.n la[l] (szt l t e) (List.getElem?_eq_getElem hla)
      exact ⟨la[l], List.getElem?_eq_getElem hla, (up_ne (some_ne h1 gsd)).trans h1⟩
    · obtain ⟨u, e⟩ := tbx x hx
      exact no9 e a hm
    · obtain ⟨l, hl3⟩ := List.getElem?_of_mem hm
      have := lt_get hl3
      have h1 := ga l szs[l] a (List.getElem?_eq_getElem (by omega)) hl3
      exact some_ne h1 gsd
    · rw [Tbs.at0] at e
      exact (hs _ (mem_get (szt l t e))).1
  have slla : sl ∉ la := fun hm => by
    have := fr sl hm
    rw [g9s] at this; cases this
  show sSeq _ _ _ _ (up G10 sd (.lst (la.map Da.obj)))
  generalize up G10 sd (.lst (la.map Da.obj)) = G11 at ho11 pt11 g11s S11
  clear gsd k10 fr ga ho pt9 g9s tbx G10 G9
  have t0 : (⟨ts, 0⟩ : Tbs).length ≤ 3 := I8.P.to
  -- the deeds
  refine ⟨24, rfl, by omega, by omega, ?_⟩
  refine ⟨fun i τ' G' => ∃ z, HouseAt C E' D ⟨A, B, hh, tl, tb⟩ ⟨ts, 0⟩ z G' ∧ Inv ⟨ts, 0⟩ z Cl ∧ PotAt p (1 + 2 * (1 + r) + 1 + 8 * i) G' ∧ SheetsAt ⟨A, B, hh, tl, tb⟩ p sd la ⟨ts, 0⟩ z.v G' ∧ G' sl = some (.lst (szs.map fun s => Da.int (s : Nat))) ∧
      ∃ d, τ' = [some (.scr ns), some (.int (k : Nat)), some (.obj p), some (.obj sl), some (.obj A.p), some (.obj hh), some (.obj sd), d, a8, a9, a10, a11, a12],
    ⟨_, ho11, I8, pt11, S11, g11s, _, rfl⟩, fun _ _ _ _ _ => trivial, ?_, ?_⟩
  · rintro i d τ' G' hd ⟨z, h1, I1, pt1, S1, gs1, d7, rfl⟩
    have hi := lt_get hd
    rw [intsD_len] at hi
    have hi : i < 24 := hi
    refine ⟨_, rfl, _, rfl, _, rfl, p, _, ⟨A, B, hh, tl, tb⟩, ⟨ts, 0⟩, z, sd, la, rfl, pt1, by omega, pf, h1, I1, S1, fun z' G2 h2 I2 pt2 S2 k2 => ?_⟩
    refine ⟨_, rfl, _, rfl, p, ⟨A, B, hh, tl, tb⟩, ⟨ts, 0⟩, z', sd, la, rfl, h2, I2, S2, fun G3 k3 => ⟨true, rfl, ite_f Bool.false_ne_true ?_⟩⟩
    exact ⟨z', h2.ext k3, I2, (pt2.kp fun {x o} e => k3 x o e).mono (by omega), S2.keep h2 fun x o _ _ _ _ _ _ _ e => k3 x o e, k3 _ _ (k2 _ _ slp.symm slla sa sb sc (ne_kind gs1 h1.slot.a nofun) (ne_kind gs1 h1.slot.b nofun) (ne_kind gs1 h1.slot.c nofun) gs1), _, rfl⟩
  rintro τ' G12 ⟨z, ho12, I12, pt12, S12, g12s, d7, rfl⟩
  clear ho11 I8 pt11 S11 g11s pt12 S12 G11
  -- all is left
  refine ⟨_, rfl, sl, _, rfl, g12s, ?_⟩
  refine ⟨fun l τ' G' => ∃ z, HouseAt C E' D ⟨A, B, hh, tl, tb⟩ ⟨ts, l⟩ z G' ∧ Inv ⟨ts, l⟩ z Cl ∧ G' sl = some (.lst (szs.map fun s => Da.int (s : Nat))) ∧
      ∃ d8 d9 d10, τ' = [some (.scr ns), some (.int (k : Nat)), some (.obj p), some (.obj sl), some (.obj A.p), some (.obj hh), some (.obj sd), d7, d8, d9, d10, a11, a12],
    ⟨_, ho12, I12, g12s, _, _, _, rfl⟩, fun _ _ _ _ ⟨_, _, _, g, _⟩ => g, ?_, ?_⟩
  · rintro l d τ' G' hd ⟨z, h1, I1, gs1, d8, d9, d10, rfl⟩
    obtain ⟨d0, h0, rfl⟩ := enumD_of hd
    rw [List.getElem?_map] at h0
    obtain ⟨n', hn', rfl⟩ := Option.map_eq_some_iff.mp h0
    obtain ⟨n1', n16⟩ := hs n' (mem_get hn')
    have hl3 := lt_get hn'
    obtain ⟨t, ht0⟩ : ∃ t, ts[l]? = some t := ⟨_, List.getElem?_eq_getElem (by omega)⟩
    have ht : (⟨ts, l⟩ : Tbs)[l]? = some t := by
      rw [Tbs.at]
      exact (if_neg (Nat.lt_irrefl l)).trans ht0
    obtain rfl : n' = t.n := by
      have := szt l t ht0
      rw [hn'] at this
      exact Option.some.inj this
    refine ⟨_, rfl, rfl, _, _, rfl, _, _, rfl, rfl, ?_⟩
    refine ⟨_, rfl, _, rfl, by omega, by omega, ?_⟩
    rw [Int.toNat_natCast]
    refine ⟨fun j τ' G' => ∃ z, HouseAt C E' D ⟨A, B, hh, tl, tb⟩ ⟨ts, l⟩ z G' ∧ Inv ⟨ts, l⟩ z Cl ∧ G' sl = some (.lst (szs.map fun s => Da.int (s : Nat))) ∧ (∀ q : Pg, q.1 = l → q.2 < j → z.F q = none ∧ z.S q = none) ∧
        ∃ d10, τ' = [some (.scr ns), some (.int (k : Nat)), some (.obj p), some (.obj sl), some (.obj A.p), some (.obj hh), some (.obj sd), d7, some (.int (l : Nat)), some (.int (t.n : Nat)), d10, a11, a12],
      ⟨z, h1, I1, gs1, fun _ _ h => absurd h (Nat.not_lt_zero _), _, rfl⟩, fun _ _ _ _ _ => trivial, ?_, ?_⟩
    · rintro j d τ' G' hd ⟨z, h1, I1, gs1, hq, d10, rfl⟩
      have hj := lt_get hd
      rw [intsD_len] at hj
      rw [intsD_get hj] at hd
      obtain rfl : Da.int (j : Nat) = d := Option.some.inj hd
      refine ⟨_, rfl, _, rfl, _, rfl, ⟨A, B, hh, tl, tb⟩, ⟨ts, l⟩, z, (l, j), rfl, h1, I1, ⟨t, ht, hj⟩, fun z' G2 h2 I2 k2 v2 F2 S2 => ⟨z', h2, I2, k2 _ _ sa sb sc (ne_kind gs1 h1.slot.a nofun) (ne_kind gs1 h1.slot.b nofun) (ne_kind gs1 h1.slot.c nofun) gs1, fun q e1 e2 => ?_, _, rfl⟩⟩
      rw [F2, S2]
      by_cases e : q = (l, j)
      · rw [if_pos e, if_pos e]
        exact ⟨rfl, rfl⟩
      · rw [if_neg e, if_neg e]
        exact hq q e1 (by
          have : q.2 ≠ j := fun z => e (Prod.ext e1 z)
          omega)
    · rintro τ' G' ⟨z, h1, I1, gs1, hq, d10, rfl⟩
      rw [intsD_len] at hq
      obtain ⟨x, o, hat, ta⟩ := h1.table ht
      obtain ⟨LO, I2⟩ := I1.gone ht fun q e ⟨t', e1, e2⟩ => hq q e (by
        have e : q.1 = l := e
        rw [e, ht] at e1
        rw [Option.some.inj e1]
        exact e2)
      refine ⟨_, rfl, hh, _, 2, _, rfl, rfl, h1.hs, rfl, _, rfl, tl, _, (l : Nat), _, rfl, rfl, h1.tl, hat, x, _, rfl, ta.t, rfl, A, z.s, x, o, l, t.n, t.f0, rfl, ⟨h1.pool, ta⟩, LO, fun G2 P2 k2 => ?_⟩
      obtain ⟨h2, kk2⟩ := h1.upPool P2 k2
      exact ⟨_, h2.less, I2, kk2 _ _ sa sb sc (ne_kind gs1 h1.slot.a nofun) (ne_kind gs1 h1.slot.b nofun) (ne_kind gs1 h1.slot.c nofun) gs1, _, _, _, rfl⟩
  rintro τ' G13 ⟨z, h1, I1, gs1, d8, d9, d10, rfl⟩
  clear ho12 I12 g12s G12
  obtain ⟨AF, AS⟩ := I1.allGone (by show ts.length ≤ (enumD _).length; rw [enumD_len, List.length_map]; omega)
  have W := I1.P.wf
  have hm13 := W.l1
  refine ⟨_, rfl, A.p, _, rfl, h1.pool.p, rfl, A, z.s, rfl, h1.pool, _, rfl, .inl ⟨_, rfl, ?_⟩⟩
  have lm : (z.s.ha.map roD).length = z.s.ha.length := List.length_map _
  refine ⟨_, rfl, A.p, _, rfl, h1.pool.p, rfl, A, z.s, rfl, h1.pool, W, _, rfl, (z.s.ha.map roD).length, rfl, by omega, ok_intsN _, ok_intsN (List.range (z.s.ha.map roD).length), _, rfl, ite_f ?_ ?_⟩
  · rw [eqB_t (by rw [frees_all fun f hf => (AF f hf).1, lm]; rfl)]
    decide
  refine ⟨_, rfl, ((z.s.ha.map roD).length : Nat), rfl, by omega, by omega, ?_⟩
  rw [Int.toNat_natCast]
  refine lc_pure (fun _ => false) (fun d => d) trivial (small_len (by rw [intsD_len]; omega)) (fun d hd R S hyp => ?_) ?_
  · obtain ⟨f, hf⟩ := List.getElem?_of_mem hd
    have hf2 := lt_get hf
    rw [intsD_len] at hf2
    rw [intsD_get hf2] at hf
    obtain rfl : Da.int (f : Nat) = d := Option.some.inj hf
    have hyp : S G13 := hyp
    refine ⟨_, rfl, A.p, _, rfl, h1.pool.p, rfl, _, rfl, A, z.s, f, blank, rfl, h1.pool, (AF f (by omega)).2, sz1, _, _, rfl, rfl, nofun, by decide, by decide, by decide, ok_ints _, rfl, _, rfl, ite_f (by rw [show eqB (pD blank) (Da.tup (List.replicate (Int.toNat 8) [Da.int 0]).flatten) = true from eqB_t rfl]; decide) hyp⟩
  rw [List.filter_eq_nil_iff.mpr fun _ _ => Bool.false_ne_true]
  refine ⟨by show 0 ≤ sizeLine; decide, rfl, rfl, fun b hb' => ite_f (fun e => hb'.mp e rfl) ?_⟩
  have hk : HdOk ⟨"kept", 0, 0⟩ := ⟨15, by decide +kernel, by decide, by decide, by decide, by decide⟩
  refine ⟨_, rfl, hh, _, 1, _, rfl, rfl, h1.hs, rfl, B.p, _, rfl, h1.slot.p, rfl, sz1, _, _, rfl, rfl, nofun, by decide, by decide, by decide, sz3, sz1, B, z.u, List.replicate 8 1, [⟨"kept", 0, 0⟩], rfl, h1.slot, I1.Z.wf, ⟨rfl, fun x hx => by rw [List.eq_of_mem_replicate hx]; omega⟩, ⟨fun x hx => by rw [List.mem_singleton.mp hx]; exact hk, List.pairwise_singleton _ _⟩, nofun, by decide, by decide +kernel, fun x hx => ?_, .inr (List.nodup_cons.mpr ⟨nofun, List.nodup_nil⟩), fun i hn hlt G2 p2 k2 => ?_⟩
  · cases e : spot z.u.sp x with
    | none => rfl
    | some i =>
      obtain ⟨r', e2, _⟩ := (I1.Z.sp x i).mp e
      rw [AS i] at e2; cases e2
  obtain rfl : i = 0 := by
    cases i with
    | zero => rfl
    | succ i => exact absurd (AS 0) (hlt 0 (Nat.succ_pos _))
  exact ⟨rfl, rfl, _, rfl, ite_f (by rw [show eqB (Da.int ((0 : Nat) : Int)) (Da.int 0) = true from eqB_t rfl]; decide) ⟨_, _, _, _, _, _, _, _, _, _, _, _, rfl⟩⟩
end
end Lw
set_option maxHeartbeats 4000000
namespace Lw
open PySem PySem.Spec PyProof.Rows L2
theorem ch_ent (D : Addr) (doc pm : Value) (an : Option Addr) (cdv ct : Value) (us ks : List Value) (l1 : us.length = 1) (l2 : ks.length = 4) :
    KwChain D ((["here", "write", "seen", "put"] : List Str).zip ks) (bindArgs (PySem.W.fnOf "entry_with" "entry_with" (defArgs dEntWith) (defBody dEntWith) (defScope dEntWith) .none (.ref D) doc pm an cdv ct) ⟨us, []⟩) ((["number", "here", "write", "seen", "put"] : List Str).zip (us ++ ks)) :=
  match us, ks, l1, l2 with
  | [_], [_, _, _, _], _, _ => ⟨_, _, _, _, _, _, rfl, rfl, _, _, _, _, _, _, rfl, rfl, _, _, _, _, _, _, rfl, rfl, _, _, _, _, _, _, rfl, rfl, rfl⟩
theorem ch_ent1 (D : Addr) (doc pm : Value) (an : Option Addr) (cdv ct : Value) (us mv ws : List Value) (l1 : us.length = 1) (l2 : mv.length = 3) (l3 : ws.length = 1) :
    KwChain D ((["write", "seen", "put"] : List Str).zip mv) (bindArgs (PySem.W.fnOf "entry_with" "entry_with" (defArgs dEntWith) (defBody dEntWith) (defScope dEntWith) .none (.ref D) doc pm an cdv ct) ⟨us, (["here"] : List Str).zip ws⟩) ((["number", "here", "write", "seen", "put"] : List Str).zip (us ++ (ws ++ mv))) :=
  match us, mv, ws, l1, l2, l3 with
  | [_], [_, _, _], [_], _, _, _ => ⟨_, _, _, _, _, _, rfl, rfl, _, _, _, _, _, _, rfl, rfl, _, _, _, _, _, _, rfl, rfl, rfl⟩
theorem ch_take (D : Addr) (doc pm : Value) (an : Option Addr) (cdv ct : Value) (us ks : List Value) (l1 : us.length = 2) (l2 : ks.length = 1) :
    KwChain D ((["page"] : List Str).zip ks) (bindArgs (PySem.W.fnOf "take" "Pool.take" (defArgs (pool 6)) (defBody (pool 6)) (defScope (pool 6)) .none (.ref D) doc pm an cdv ct) ⟨us, []⟩) ((["self", "holder", "page"] : List Str).zip (us ++ ks)) :=
  match us, ks, l1, l2 with
  | [_, _], [_], _, _ => ⟨_, _, _, _, _, _, rfl, rfl, rfl⟩
theorem ch_take1 (D : Addr) (doc pm : Value) (an : Option Addr) (cdv ct : Value) (us mv ws : List Value) (l1 : us.length = 2) (l2 : mv.length = 0) (l3 : ws.length = 1) :
    KwChain D (([] : List Str).zip mv) (bindArgs (PySem.W.fnOf "take" "Pool.take" (defArgs (pool 6)) (defBody (pool 6)) (defScope (pool 6)) .none (.ref D) doc pm an cdv ct) ⟨us, (["page"] : List Str).zip ws⟩) ((["self", "holder", "page"] : List Str).zip (us ++ ws)) :=
  match us, mv, ws, l1, l2, l3 with
  | [_, _], [], [_], _, _, _ => rfl
end Lw
set_option maxHeartbeats 4000000
/-! the join: what the top has left, and the walk (printed by gen_join.py) -/
namespace Lw
open PySem PySem.Spec PyProof.Rows L2
structure DF (K : PySem.W.Frag) (x : Str) (st : Stmt) : Prop where
  ex : ∃ (f : Addr) (fd : FuncData), PySem.W.nsIn K mainGlobals x = some (some (.ref f)) ∧ Fun K x x st f fd
structure MF (K : PySem.W.Frag) (C : Addr) (m qual : Str) (st : Stmt) : Prop where
  ex : ∃ (f : Addr) (fd : FuncData), Meth K C m f ∧ Fun K m qual st f fd
structure EF (K : PySem.W.Frag) : Prop where
  ex : ∃ (f : Addr) (fd : FuncData), PySem.W.nsIn K mainGlobals "entry_with" = some (some (.ref f)) ∧ FunD K "entry_with" "entry_with" (defArgs dEntWith) (defBody dEntWith) (defScope dEntWith) [] [("here", .bl true), ("write", .bl true), ("seen", .bl false), ("put", .bl false)] f fd
structure TkF (K : PySem.W.Frag) (C aB : Addr) : Prop where
  ex : ∃ (f : Addr) (fd : FuncData), Meth K C "take" f ∧ FunD K "take" "Pool.take" (defArgs (pool 6)) (defBody (pool 6)) (defScope (pool 6)) [] [("page", .ref aB)] f fd
section
variable {K : PySem.W.Frag} {f C : Addr} {x m qual : Str} {st : Stmt} {oc kV doc pm cdv ct : Value} {od an : Option Addr} {osl : Array (Option Value)}
theorem df_mk (a : PySem.W.nsIn K mainGlobals x = some (some (.ref f))) (l : K.lookup f = some ⟨oc, od, .func (PySem.W.fnOf x x (defArgs st) (defBody st) (defScope st) .none kV doc pm an cdv ct), osl⟩) (c : PySem.W.codeIn K cdv x = true) (k : PySem.W.keepIn K (.ref f) = true) : DF K x st := ⟨f, _, a, fun_mk l c k⟩
theorem mf_mk (a : PySem.W.findIn K (.ref C) m = some (some (.ref f))) (i : PySem.W.isFn K (.ref f) = true) (l : K.lookup f = some ⟨oc, od, .func (PySem.W.fnOf m qual (defArgs st) (defBody st) (defScope st) .none kV doc pm an cdv ct), osl⟩) (c : PySem.W.codeIn K cdv qual = true) (k : PySem.W.keepIn K (.ref f) = true) : MF K C m qual st := ⟨f, _, ⟨a, i, k⟩, fun_mk l c k⟩
theorem ef_mk {Dk : Addr} (a : PySem.W.nsIn K mainGlobals "entry_with" = some (some (.ref f))) (l : K.lookup f = some ⟨oc, od, .func (PySem.W.fnOf "entry_with" "entry_with" (defArgs dEntWith) (defBody dEntWith) (defScope dEntWith) .none (.ref Dk) doc pm an cdv ct), osl⟩) (c : PySem.W.codeIn K cdv "entry_with" = true) (k : PySem.W.keepIn K (.ref f) = true)
    (q1 : PySem.W.nsIn K Dk "here" = some (some (.bool true))) (q2 : PySem.W.nsIn K Dk "write" = some (some (.bool true))) (q3 : PySem.W.nsIn K Dk "seen" = some (some (.bool false))) (q4 : PySem.W.nsIn K Dk "put" = some (some (.bool false))) : EF K := by
  refine ⟨f, _, a, ⟨oc, od, .none, .ref Dk, doc, pm, an, cdv, ct, osl, rfl, l, c, .inl ⟨rfl, rfl⟩, .inr ⟨Dk, rfl, fun q hq => ?_⟩⟩, k⟩
  simp only [List.mem_cons, List.not_mem_nil, or_false] at hq
  rcases hq with rfl | rfl | rfl | rfl
  · exact ⟨_, q1, rfl⟩
  · exact ⟨_, q2, rfl⟩
  · exact ⟨_, q3, rfl⟩
  · exact ⟨_, q4, rfl⟩
theorem tf_mk {Dk aB : Addr} (a : PySem.W.findIn K (.ref C) "take" = some (some (.ref f))) (i : PySem.W.isFn K (.ref f) = true) (l : K.lookup f = some ⟨oc, od, .func (PySem.W.fnOf "take" "Pool.take" (defArgs (pool 6)) (defBody (pool 6)) (defScope (pool 6)) .none (.ref Dk) doc pm an cdv ct), osl⟩) (c : PySem.W.codeIn K cdv "Pool.take" = true) (k : PySem.W.keepIn K (.ref f) = true)
    (q1 : PySem.W.nsIn K Dk "page" = some (some (.ref aB))) : TkF K C aB := by
  refine ⟨f, _, ⟨a, i, k⟩, ⟨oc, od, .none, .ref Dk, doc, pm, an, cdv, ct, osl, rfl, l, c, .inl ⟨rfl, rfl⟩, .inr ⟨Dk, rfl, fun q hq => ?_⟩⟩, k⟩
  obtain rfl := List.mem_singleton.mp hq
  exact ⟨_, q1, rfl⟩
end
section
variable {P : Program} {w : World} {K : PySem.W.Frag} {mg : Str → Option Value} {base : Heap} {C aB : Addr}
theorem bls {H : Hp} : ∀ {bs : List Bool}, Dzs K H (bs.map Da.bl) (bs.map V.bl)
  | [] => rfl
  | _ :: _ => ⟨_, _, rfl, rfl, bls⟩
theorem ew_ok (MG : ∀ {x : Str} {u : Value}, PySem.W.nsIn K mainGlobals x = some (some u) → mg x = some u) (e : EF K) (T : Txt K w mg) (D : DefOk P w K mg base 2 "is_number" [] SNumber) :
    DefOk P w K mg base 3 "entry_with" [.bl true, .bl true, .bl false, .bl false] SEntWith ∧ KwDef P w K mg base 3 "entry_with" 1 ["here"] (fun ds es => ds ++ (es ++ [.bl true, .bl false, .bl false])) SEntWith := by
  obtain ⟨f, fd, a, F⟩ := e.ex
  have G := okEntWith (P := P) (base := base) F T D
  obtain ⟨ds, h1, h2⟩ := F.binds0 (ps := ["number", "here", "write", "seen", "put"]) 1 nofun rfl ch_ent
  obtain ⟨mv, hk⟩ := kbinds0 F (ps := ["number", "here", "write", "seen", "put"]) 1 ["here"] [("write", .bl true), ("seen", .bl false), ("put", .bl false)] (fun us mv ws => us ++ (ws ++ mv)) nofun (fun q hq => List.mem_cons_of_mem _ hq) (fun a b c => a.append (c.append b)) ch_ent1
  refine ⟨⟨f, fd, _, _, ds, G, MG a, F.kp, h2, h1, fun H => bls (bs := [true, true, false, false])⟩, ⟨f, MG a, F.kp, ⟨fd, _, _, _, G, hk, fun H ds es vs us z1 z2 _ _ => ?_⟩⟩⟩
  exact z1.append (z2.append (bls (bs := [true, false, false])))
theorem tk_ok (sq : SqT K (fun _ => none) aB (List.replicate 8 (.int 0))) (e : TkF K C aB) (TC : PTx K mg C)
    (D1 : DefOk P w K mg base 3 "need_holder" [] SNeedHolder) (D2 : MethOk P w K mg base 2 C "need_new" [] (SNeedNew C)) (D3 : DefOk P w K mg base 3 "is_page" [] SPage) (D4 : MethOk P w K mg base 1 C "free" [] (SFree C)) (D5 : MethOk P w K mg base 1 C "hold" [] (SHold C)) :
    ∃ ft, MethOk P w K mg base 4 C "take" [pD blank] (STake C) ∧ KwOk P w K mg base 4 ft 2 ["page"] (fun ds es => ds ++ es) (STake C) ∧ Meth K C "take" ft := by
  obtain ⟨f, fd, a, F⟩ := e.ex
  have G := okTake (P := P) (base := base) F TC D1 D2 D3 D4 D5
  obtain ⟨ds, h1, h2⟩ := F.binds0 (ps := ["self", "holder", "page"]) 2 nofun rfl ch_take
  obtain ⟨mv, hk⟩ := kbinds0 F (ps := ["self", "holder", "page"]) 2 ["page"] [] (fun us mv ws => us ++ ws) nofun (fun q hq => nomatch hq) (fun a b c => a.append c) ch_take1
  refine ⟨f, ⟨f, fd, _, _, ds, G, a, h2, h1, fun H => ⟨_, _, rfl, ⟨aB, _, rfl, .inr ⟨sq, fun x r => nofun⟩, ?_⟩, rfl⟩⟩, ⟨fd, _, _, _, G, hk, fun H ds es vs us z1 z2 _ _ => z1.append z2⟩, a⟩
  exact ⟨_, _, rfl, rfl, _, _, rfl, rfl, _, _, rfl, rfl, _, _, rfl, rfl, _, _, rfl, rfl, _, _, rfl, rfl, _, _, rfl, rfl, _, _, rfl, rfl, rfl⟩
end
theorem all_mk {P : Program} {w : World} {K : PySem.W.Frag} {h : Heap} {mg : Str → Option Value} {fa C D E' aB aL : Addr} {tPL tME tMN tHE tWR tSE tPU tMA tFE tMP tFA tTA tA tB tC : Tok} {odB : Option Addr} {itB : Array Value} {nB nL : Nat} {slB : Array (Option Value)} {esL : Array DictEntry} (X : K.In h) (G : h.Ns mainGlobals mg) (hfa : mg "law" = some (.ref fa))
    (cPL : PySem.W.nsIn K mainGlobals "PLACES" = some (some (.int 8 tPL)))
    (cME : PySem.W.nsIn K mainGlobals "MOST_entries" = some (some (.int 65535 tME)))
    (cMN : PySem.W.nsIn K mainGlobals "MOST_NUMBER" = some (some (.int 4095 tMN)))
    (cHE : PySem.W.nsIn K mainGlobals "HERE" = some (some (.int 1 tHE)))
    (cWR : PySem.W.nsIn K mainGlobals "WRITE" = some (some (.int 2 tWR)))
    (cSE : PySem.W.nsIn K mainGlobals "SEEN" = some (some (.int 4 tSE)))
    (cPU : PySem.W.nsIn K mainGlobals "PUT" = some (some (.int 8 tPU)))
    (cMA : PySem.W.nsIn K mainGlobals "MARKS" = some (some (.int 16 tMA)))
    (cFE : PySem.W.nsIn K mainGlobals "FEWEST" = some (some (.int 4 tFE)))
    (cMP : PySem.W.nsIn K mainGlobals "MOST_pool" = some (some (.int 48 tMP)))
    (cFA : PySem.W.nsIn K mainGlobals "FARTHEST" = some (some (.int 1000000 tFA)))
    (cTA : PySem.W.nsIn K mainGlobals "TABLE" = some (some (.str "table" tTA)))
    (cBL : PySem.W.nsIn K mainGlobals "BLANK" = some (some (.ref aB))) (lBL : K.lookup aB = some ⟨.type "tuple", odB, .seq itB nB, slB⟩) (zBL : itB.size ≤ sizeLine) (vBL : Vals (List.replicate 8 (V.int 0)) itB.toList)
    (cLP : PySem.W.nsIn K mainGlobals "LAST_PART" = some (some (.ref aL))) (lLP : K.lookup aL = some ⟨.type "dict", none, .dict esL nL, #[]⟩) (kLP : PySem.W.KeysLit w.params esL.toList) (sLP : (aL == sysModules) = false) (pA : PySem.W.nsIn K aL "table" = some (some (.int 2 tA))) (pB : PySem.W.nsIn K aL "page" = some (some (.int 15 tB))) (pC : PySem.W.nsIn K aL "kept" = some (some (.int 15 tC)))
    (zlen : PySem.W.nsIn K mainGlobals "len" = some none)
    (zisi : PySem.W.nsIn K mainGlobals "isinstance" = some none)
    (zall : PySem.W.nsIn K mainGlobals "all" = some none)
    (zany : PySem.W.nsIn K mainGlobals "any" = some none)
    (zsum : PySem.W.nsIn K mainGlobals "sum" = some none)
    (zmin : PySem.W.nsIn K mainGlobals "min" = some none)
    (zmax : PySem.W.nsIn K mainGlobals "max" = some none)
    (zabs : PySem.W.nsIn K mainGlobals "abs" = some none)
    (zint : PySem.W.nsIn K mainGlobals "int" = some none)
    (zbool : PySem.W.nsIn K mainGlobals "bool" = some none)
    (zstr : PySem.W.nsIn K mainGlobals "str" = some none)
    (ztuple : PySem.W.nsIn K mainGlobals "tuple" = some none)
    (zsorted : PySem.W.nsIn K mainGlobals "sorted" = some none)
    (zrange : PySem.W.nsIn K mainGlobals "range" = some none)
    (zenum : PySem.W.nsIn K mainGlobals "enumerate" = some none)
    (zzip : PySem.W.nsIn K mainGlobals "zip" = some none)
    (aP : PySem.W.nsIn K mainGlobals "Pool" = some (some (.ref C))) (pgP : PySem.W.plainGet K C Str.empty = true) (hdP : PySem.W.hasDictIn K C = true) (poP : PySem.W.plainOver K C = true) (saP : PySem.W.findIn K (.ref C) "__setattr__" = some (some (.builtin "object.__setattr__"))) (mkP : PySem.W.makesIn K C = true) (kcP : PySem.W.keepIn K (.ref C) = true)
    (nPs : PySem.W.findIn K (.ref C) "sheets" = some none)
    (nPh : PySem.W.findIn K (.ref C) "hands" = some none)
    (nPt : PySem.W.findIn K (.ref C) "spots" = some none)
    (aS : PySem.W.nsIn K mainGlobals "Slots" = some (some (.ref E'))) (pgS : PySem.W.plainGet K E' Str.empty = true) (hdS : PySem.W.hasDictIn K E' = true) (poS : PySem.W.plainOver K E' = true) (saS : PySem.W.findIn K (.ref E') "__setattr__" = some (some (.builtin "object.__setattr__"))) (mkS : PySem.W.makesIn K E' = true) (kcS : PySem.W.keepIn K (.ref E') = true)
    (nSs : PySem.W.findIn K (.ref E') "sheets" = some none)
    (nSh : PySem.W.findIn K (.ref E') "hands" = some none)
    (nSt : PySem.W.findIn K (.ref E') "spots" = some none)
    (aD : PySem.W.nsIn K mainGlobals "Table" = some (some (.ref D))) (pgD : PySem.W.plainGet K D Str.empty = true) (hdD : PySem.W.hasDictIn K D = true) (poD : PySem.W.plainOver K D = true) (saD : PySem.W.findIn K (.ref D) "__setattr__" = some (some (.builtin "object.__setattr__"))) (mkD : PySem.W.makesIn K D = true) (kcD : PySem.W.keepIn K (.ref D) = true)
    (nDf : PySem.W.findIn K (.ref D) "frames_by" = some none)
    (nDo : PySem.W.findIn K (.ref D) "owners" = some none)
    (nDs : PySem.W.findIn K (.ref D) "size_told" = some none)
    (nDr : PySem.W.findIn K (.ref D) "first" = some none)
    (h_is_within : DF K "is_within" dWithin)
    (h_is_cell : DF K "is_cell" dCell)
    (h_is_number : DF K "is_number" dNumber)
    (h_is_page : DF K "is_page" dPage)
    (h_need_cell : DF K "need_cell" dNeedCell)
    (h_number_in : DF K "number_in" dNumIn)
    (h_has_mark : DF K "has_mark" dMark)
    (h_entry_of : DF K "entry_of" dEntOf)
    (h_is_holder : DF K "is_holder" dHolder)
    (h_are_rising : DF K "are_rising" dRising)
    (h_are_holders : DF K "are_holders" dHolders)
    (h_of_table : DF K "of_table" dOfTable)
    (h_is_ledger : DF K "is_ledger" dLedger)
    (h_need_holder : DF K "need_holder" dNeedHolder)
    (mP_need_frame : MF K C "need_frame" "Pool.need_frame" (pool 1))
    (mP_need_held : MF K C "need_held" "Pool.need_held" (pool 2))
    (mP_spot_of : MF K C "spot_of" "Pool.spot_of" (pool 4))
    (mP_need_new : MF K C "need_new" "Pool.need_new" (pool 3))
    (mP_hold : MF K C "hold" "Pool.hold" (pool 5))
    (mP_page : MF K C "page" "Pool.page" (pool 10))
    (mP_holders : MF K C "holders" "Pool.holders" (pool 11))
    (mP_ledger : MF K C "ledger" "Pool.ledger" (pool 12))
    (mP_free : MF K C "free" "Pool.free" (pool 13))
    (mP_share : MF K C "share" "Pool.share" (pool 7))
    (mP_leave : MF K C "leave" "Pool.leave" (pool 8))
    (mP_put : MF K C "put" "Pool.put" (pool 9))
    (mP_init : MF K C "__init__" "Pool.__init__" (pool 0))
    (mS_init : MF K E' "__init__" "Slots.__init__" (slots 0))
    (mS_need_slot : MF K E' "need_slot" "Slots.need_slot" (slots 1))
    (mS_need_new : MF K E' "need_new" "Slots.need_new" (slots 2))
    (mS_hold : MF K E' "hold" "Slots.hold" (slots 3))
    (mS_page : MF K E' "page" "Slots.page" (slots 5))
    (mS_holders : MF K E' "holders" "Slots.holders" (slots 6))
    (mS_put : MF K E' "put" "Slots.put" (slots 4))
    (mS_share : MF K E' "share" "Slots.share" (slots 7))
    (mS_leave : MF K E' "leave" "Slots.leave" (slots 8))
    (h_table_holders : DF K "table_holders" dTabHolders)
    (eEW : EF K)
    (eTK : TkF K C aB)
    (mD_need_page : MF K D "need_page" "Table.need_page" (tabl 1))
    (mD_top : MF K D "top" "Table.top" (tabl 3))
    (mD_lower : MF K D "lower" "Table.lower" (tabl 2))
    (mD_cell : MF K D "cell" "Table.cell" (tabl 4))
    (mD_put : MF K D "put" "Table.put" (tabl 5))
    (mD_leave : MF K D "leave" "Table.leave" (tabl 6))
    (mD_init : MF K D "__init__" "Table.__init__" (tabl 0))
    (h__law_pot : DF K "_law_pot" dPot)
    (h__law_take : DF K "_law_take" dTk)
    (h__law_entry_of : DF K "_law_entry_of" dEnt)
    (h__law_page_of : DF K "_law_page_of" dPgOf)
    (h__law_told : DF K "_law_told" dTold)
    (h__law_out : DF K "_law_out" dOut)
    (h__law_room : DF K "_law_room" dRoom)
    (h__law_alone : DF K "_law_alone" dAlone)
    (h__law_left : DF K "_law_left" dLeft)
    (h__law_beside : DF K "_law_beside" dBeside)
    (h__law_deed : DF K "_law_deed" dDeed)
    (h__law_right : DF K "_law_right" dRight)
    (h_law : DF K "law" dLaw) :
    ∃ fd : FuncData, (∀ (s : Shared) (v : Value), BindsTo s fd ⟨[v], []⟩ [("script", v)]) ∧ ∀ base : Heap, K.In base → base.Ns mainGlobals mg → FnOk P w K mg base CX0 12 fa fd ["script"] (spl K SLaw) := by
  have MG : ∀ {x : Str} {u : Value}, PySem.W.nsIn K mainGlobals x = some (some u) → mg x = some u := fun {x u} e => PySem.W.mg_of X G e
  have MN : ∀ {x : Str}, PySem.W.nsIn K mainGlobals x = some none → mg x = none := fun {x} e => PySem.W.mg_none_of X G e
  obtain ⟨f_law, fd_law, a_law, F_law⟩ := h_law.ex
  have e := hfa.symm.trans (MG a_law)
  cases e
  have sqB : SqT K (fun _ => none) aB (List.replicate 8 (.int 0)) := .inr ⟨_, itB, nB, lBL, rfl, rfl, zBL, vBL⟩
  have T : Txt K w mg := ⟨⟨_, MG cPL⟩, ⟨_, MG cME⟩, ⟨_, MG cMN⟩, ⟨_, MG cHE⟩, ⟨_, MG cWR⟩, ⟨_, MG cSE⟩, ⟨_, MG cPU⟩, ⟨_, MG cMA⟩, ⟨_, MG cFE⟩, ⟨_, MG cMP⟩, ⟨_, MG cFA⟩, ⟨_, MG cTA⟩, ⟨aB, MG cBL, sqB⟩, ⟨aL, esL, nL, MG cLP, ⟨lLP, kLP, sLP⟩, fun z i e => ?_⟩, MN zlen, MN zisi, MN zall, MN zany, MN zsum, MN zmin, MN zmax, MN zabs, MN zint, MN zbool, MN zstr, MN ztuple, MN zsorted, MN zrange, MN zenum, MN zzip⟩
  rotate_left
  · unfold lastP at e
    split at e
    · rename_i hz
      obtain rfl := Option.some.inj e
      rw [hz]
      exact ⟨_, pA⟩
    · split at e
      · rename_i hz
        obtain rfl := Option.some.inj e
        rw [hz]
        exact ⟨_, pB⟩
      · split at e
        · rename_i hz
          obtain rfl := Option.some.inj e
          rw [hz]
          exact ⟨_, pC⟩
        · cases e
  have TC : PTx K mg C := ⟨⟨pgP, hdP, poP, saP⟩, nPs, nPh, nPt⟩
  have TE : PTx K mg E' := ⟨⟨pgS, hdS, poS, saS⟩, nSs, nSh, nSt⟩
  have TD : TTx K mg D := ⟨⟨pgD, hdD, poD, saD⟩, nDf, nDo, nDs, nDr⟩
  refine ⟨fd_law, ?_, fun base _ _ => ?_⟩
  · obtain ⟨oc, od, kV, doc, pm, an, cdv, ct, osl, rfl, _⟩ := F_law.ex
    exact fun s v => .of_eq rfl
  obtain ⟨_, _, a_d_is_within, F_d_is_within⟩ := h_is_within.ex
  have d_is_within : DefOk P w K mg base 1 "is_within" [] (SWithin) := toDef F_d_is_within (okWithin F_d_is_within T) (MG a_d_is_within) (F_d_is_within.binds (ps := ["thing", "least", "most"]) fun _ _ _ _ _ _ us hl => match us, hl with | [_, _, _], _ => rfl)
  obtain ⟨_, _, a_d_is_cell, F_d_is_cell⟩ := h_is_cell.ex
  have d_is_cell : DefOk P w K mg base 2 "is_cell" [] (SCell) := toDef F_d_is_cell (okCell F_d_is_cell T d_is_within) (MG a_d_is_cell) (F_d_is_cell.binds (ps := ["thing"]) fun _ _ _ _ _ _ us hl => match us, hl with | [_], _ => rfl)
  obtain ⟨_, _, a_d_is_number, F_d_is_number⟩ := h_is_number.ex
  have d_is_number : DefOk P w K mg base 2 "is_number" [] (SNumber) := toDef F_d_is_number (okNumber F_d_is_number T d_is_within) (MG a_d_is_number) (F_d_is_number.binds (ps := ["thing"]) fun _ _ _ _ _ _ us hl => match us, hl with | [_], _ => rfl)
  obtain ⟨_, _, a_d_is_page, F_d_is_page⟩ := h_is_page.ex
  have d_is_page : DefOk P w K mg base 3 "is_page" [] (SPage) := toDef F_d_is_page (okPage F_d_is_page T d_is_cell) (MG a_d_is_page) (F_d_is_page.binds (ps := ["thing"]) fun _ _ _ _ _ _ us hl => match us, hl with | [_], _ => rfl)
  obtain ⟨_, _, a_d_need_cell, F_d_need_cell⟩ := h_need_cell.ex
  have d_need_cell : DefOk P w K mg base 3 "need_cell" [] (SNeedCell) := toDef F_d_need_cell (okNeedCell F_d_need_cell d_is_cell) (MG a_d_need_cell) (F_d_need_cell.binds (ps := ["thing"]) fun _ _ _ _ _ _ us hl => match us, hl with | [_], _ => rfl)
  obtain ⟨_, _, a_d_number_in, F_d_number_in⟩ := h_number_in.ex
  have d_number_in : DefOk P w K mg base 1 "number_in" [] (SNumIn) := toDef F_d_number_in (okNumIn F_d_number_in T) (MG a_d_number_in) (F_d_number_in.binds (ps := ["cell"]) fun _ _ _ _ _ _ us hl => match us, hl with | [_], _ => rfl)
  obtain ⟨_, _, a_d_has_mark, F_d_has_mark⟩ := h_has_mark.ex
  have d_has_mark : DefOk P w K mg base 1 "has_mark" [] (SMark) := toDef F_d_has_mark (okMark F_d_has_mark ) (MG a_d_has_mark) (F_d_has_mark.binds (ps := ["cell", "mark"]) fun _ _ _ _ _ _ us hl => match us, hl with | [_, _], _ => rfl)
  obtain ⟨_, _, a_d_entry_of, F_d_entry_of⟩ := h_entry_of.ex
  have d_entry_of : DefOk P w K mg base 4 "entry_of" [] (SEntOf) := toDef F_d_entry_of (okEntOf F_d_entry_of T d_need_cell d_has_mark d_number_in) (MG a_d_entry_of) (F_d_entry_of.binds (ps := ["cell"]) fun _ _ _ _ _ _ us hl => match us, hl with | [_], _ => rfl)
  obtain ⟨_, _, a_d_is_holder, F_d_is_holder⟩ := h_is_holder.ex
  have d_is_holder : DefOk P w K mg base 2 "is_holder" [] (SHolder) := toDef F_d_is_holder (okHolder F_d_is_holder T d_is_within) (MG a_d_is_holder) (F_d_is_holder.binds (ps := ["thing"]) fun _ _ _ _ _ _ us hl => match us, hl with | [_], _ => rfl)
  obtain ⟨_, _, a_d_are_rising, F_d_are_rising⟩ := h_are_rising.ex
  have d_are_rising : DefOk P w K mg base 1 "are_rising" [] (SRising) := toDef F_d_are_rising (okRising F_d_are_rising T) (MG a_d_are_rising) (F_d_are_rising.binds (ps := ["holders"]) fun _ _ _ _ _ _ us hl => match us, hl with | [_], _ => rfl)
  obtain ⟨_, _, a_d_are_holders, F_d_are_holders⟩ := h_are_holders.ex
  have d_are_holders : DefOk P w K mg base 3 "are_holders" [] (SHolders) := toDef F_d_are_holders (okHolders F_d_are_holders T d_is_holder d_are_rising) (MG a_d_are_holders) (F_d_are_holders.binds (ps := ["thing"]) fun _ _ _ _ _ _ us hl => match us, hl with | [_], _ => rfl)
  obtain ⟨_, _, a_d_of_table, F_d_of_table⟩ := h_of_table.ex
  have d_of_table : DefOk P w K mg base 1 "of_table" [] (SOfTable) := toDef F_d_of_table (okOfTable F_d_of_table T) (MG a_d_of_table) (F_d_of_table.binds (ps := ["holders"]) fun _ _ _ _ _ _ us hl => match us, hl with | [_], _ => rfl)
  obtain ⟨_, _, a_d_is_ledger, F_d_is_ledger⟩ := h_is_ledger.ex
  have d_is_ledger : DefOk P w K mg base 4 "is_ledger" [] (SLedger) := toDef F_d_is_ledger (okLedger F_d_is_ledger T d_are_holders d_of_table) (MG a_d_is_ledger) (F_d_is_ledger.binds (ps := ["thing"]) fun _ _ _ _ _ _ us hl => match us, hl with | [_], _ => rfl)
  obtain ⟨_, _, a_d_need_holder, F_d_need_holder⟩ := h_need_holder.ex
  have d_need_holder : DefOk P w K mg base 3 "need_holder" [] (SNeedHolder) := toDef F_d_need_holder (okNeedHolder F_d_need_holder d_is_holder) (MG a_d_need_holder) (F_d_need_holder.binds (ps := ["thing"]) fun _ _ _ _ _ _ us hl => match us, hl with | [_], _ => rfl)
  obtain ⟨_, _, m_p_need_frame, F_p_need_frame⟩ := mP_need_frame.ex
  have p_need_frame : MethOk P w K mg base 2 C "need_frame" [] (SNeedFrame C) := ⟨_, _, _, [], [], okNeedFrame F_p_need_frame T TC d_is_within, m_p_need_frame, F_p_need_frame.binds (ps := ["self", "frame"]) fun _ _ _ _ _ _ us hl => match us, hl with | [_, _], _ => rfl, .nil, fun _ => rfl⟩
  obtain ⟨_, _, m_p_need_held, F_p_need_held⟩ := mP_need_held.ex
  have p_need_held : MethOk P w K mg base 3 C "need_held" [] (SNeedHeld C) := ⟨_, _, _, [], [], okNeedHeld F_p_need_held T TC p_need_frame, m_p_need_held, F_p_need_held.binds (ps := ["self", "frame"]) fun _ _ _ _ _ _ us hl => match us, hl with | [_, _], _ => rfl, .nil, fun _ => rfl⟩
  obtain ⟨_, _, m_p_spot_of, F_p_spot_of⟩ := mP_spot_of.ex
  have p_spot_of : MethOk P w K mg base 1 C "spot_of" [] (SSpotOf C) := ⟨_, _, _, [], [], okSpotOf F_p_spot_of TC, m_p_spot_of, F_p_spot_of.binds (ps := ["self", "holder"]) fun _ _ _ _ _ _ us hl => match us, hl with | [_, _], _ => rfl, .nil, fun _ => rfl⟩
  obtain ⟨_, _, m_p_need_new, F_p_need_new⟩ := mP_need_new.ex
  have p_need_new : MethOk P w K mg base 2 C "need_new" [] (SNeedNew C) := ⟨_, _, _, [], [], okNeedNew F_p_need_new TC p_spot_of, m_p_need_new, F_p_need_new.binds (ps := ["self", "holder"]) fun _ _ _ _ _ _ us hl => match us, hl with | [_, _], _ => rfl, .nil, fun _ => rfl⟩
  obtain ⟨_, _, m_p_hold, F_p_hold⟩ := mP_hold.ex
  have p_hold : MethOk P w K mg base 1 C "hold" [] (SHold C) := ⟨_, _, _, [], [], okHold F_p_hold T TC, m_p_hold, F_p_hold.binds (ps := ["self", "frame", "holder"]) fun _ _ _ _ _ _ us hl => match us, hl with | [_, _, _], _ => rfl, .nil, fun _ => rfl⟩
  obtain ⟨_, _, m_p_page, F_p_page⟩ := mP_page.ex
  have p_page : MethOk P w K mg base 3 C "page" [] (SPageOf C) := ⟨_, _, _, [], [], okPageOf F_p_page TC p_need_frame, m_p_page, F_p_page.binds (ps := ["self", "frame"]) fun _ _ _ _ _ _ us hl => match us, hl with | [_, _], _ => rfl, .nil, fun _ => rfl⟩
  obtain ⟨_, _, m_p_holders, F_p_holders⟩ := mP_holders.ex
  have p_holders : MethOk P w K mg base 3 C "holders" [] (SHoldersOf C) := ⟨_, _, _, [], [], okHoldersOf F_p_holders TC p_need_frame, m_p_holders, F_p_holders.binds (ps := ["self", "frame"]) fun _ _ _ _ _ _ us hl => match us, hl with | [_, _], _ => rfl, .nil, fun _ => rfl⟩
  obtain ⟨_, _, m_p_ledger, F_p_ledger⟩ := mP_ledger.ex
  have p_ledger : MethOk P w K mg base 1 C "ledger" [] (SLedgerOf C) := ⟨_, _, _, [], [], okLedgerOf F_p_ledger T TC, m_p_ledger, F_p_ledger.binds (ps := ["self"]) fun _ _ _ _ _ _ us hl => match us, hl with | [_], _ => rfl, .nil, fun _ => rfl⟩
  obtain ⟨_, _, m_p_free, F_p_free⟩ := mP_free.ex
  have p_free : MethOk P w K mg base 1 C "free" [] (SFree C) := ⟨_, _, _, [], [], okFree F_p_free T TC, m_p_free, F_p_free.binds (ps := ["self"]) fun _ _ _ _ _ _ us hl => match us, hl with | [_], _ => rfl, .nil, fun _ => rfl⟩
  obtain ⟨_, _, m_p_share, F_p_share⟩ := mP_share.ex
  have p_share : MethOk P w K mg base 4 C "share" [] (SShare C) := ⟨_, _, _, [], [], okShare F_p_share TC p_need_held d_need_holder p_need_new d_of_table p_hold, m_p_share, F_p_share.binds (ps := ["self", "frame", "holder"]) fun _ _ _ _ _ _ us hl => match us, hl with | [_, _, _], _ => rfl, .nil, fun _ => rfl⟩
  obtain ⟨_, _, m_p_leave, F_p_leave⟩ := mP_leave.ex
  have p_leave : MethOk P w K mg base 3 C "leave" [] (SLeave C) := ⟨_, _, _, [], [], okLeave F_p_leave T TC p_need_frame d_is_holder p_spot_of, m_p_leave, F_p_leave.binds (ps := ["self", "frame", "holder"]) fun _ _ _ _ _ _ us hl => match us, hl with | [_, _, _], _ => rfl, .nil, fun _ => rfl⟩
  obtain ⟨_, _, m_p_put, F_p_put⟩ := mP_put.ex
  have p_put : MethOk P w K mg base 4 C "put" [] (SPut C) := ⟨_, _, _, [], [], okPut F_p_put T TC p_need_held d_is_within d_need_cell, m_p_put, F_p_put.binds (ps := ["self", "frame", "place", "cell"]) fun _ _ _ _ _ _ us hl => match us, hl with | [_, _, _, _], _ => rfl, .nil, fun _ => rfl⟩
  obtain ⟨_, _, m_p_init, F_p_init⟩ := mP_init.ex
  have p_init : MakeOk P w K mg base 2 C "Pool" (SPoolInit C) := ⟨_, _, _, okPoolInit F_p_init T TC d_is_within, MG aP, ⟨mkP, m_p_init.at_, m_p_init.fn, kcP⟩, F_p_init.binds (ps := ["self", "many"]) fun _ _ _ _ _ _ us hl => match us, hl with | [_, _], _ => rfl⟩
  obtain ⟨_, _, m_s_init, F_s_init⟩ := mS_init.ex
  have s_init : MakeOk P w K mg base 1 E' "Slots" (SSlotsInit E') := ⟨_, _, _, okSlotsInit F_s_init TE, MG aS, ⟨mkS, m_s_init.at_, m_s_init.fn, kcS⟩, F_s_init.binds (ps := ["self"]) fun _ _ _ _ _ _ us hl => match us, hl with | [_], _ => rfl⟩
  obtain ⟨_, _, m_s_need_slot, F_s_need_slot⟩ := mS_need_slot.ex
  have s_need_slot : MethOk P w K mg base 1 E' "need_slot" [] (SNeedSlot E') := ⟨_, _, _, [], [], okNeedSlot F_s_need_slot T TE, m_s_need_slot, F_s_need_slot.binds (ps := ["self", "slot"]) fun _ _ _ _ _ _ us hl => match us, hl with | [_, _], _ => rfl, .nil, fun _ => rfl⟩
  obtain ⟨_, _, m_s_need_new, F_s_need_new⟩ := mS_need_new.ex
  have s_need_new : MethOk P w K mg base 1 E' "need_new" [] (SSNeedNew E') := ⟨_, _, _, [], [], okSNeedNew F_s_need_new T TE, m_s_need_new, F_s_need_new.binds (ps := ["self", "holders"]) fun _ _ _ _ _ _ us hl => match us, hl with | [_, _], _ => rfl, .nil, fun _ => rfl⟩
  obtain ⟨_, _, m_s_hold, F_s_hold⟩ := mS_hold.ex
  have s_hold : MethOk P w K mg base 1 E' "hold" [] (SSHold P w E') := ⟨_, _, _, [], [], okSHold F_s_hold T TE, m_s_hold, F_s_hold.binds (ps := ["self", "slot", "holders"]) fun _ _ _ _ _ _ us hl => match us, hl with | [_, _, _], _ => rfl, .nil, fun _ => rfl⟩
  obtain ⟨_, _, m_s_page, F_s_page⟩ := mS_page.ex
  have s_page : MethOk P w K mg base 2 E' "page" [] (SSPageOf E') := ⟨_, _, _, [], [], okSPageOf F_s_page TE s_need_slot, m_s_page, F_s_page.binds (ps := ["self", "slot"]) fun _ _ _ _ _ _ us hl => match us, hl with | [_, _], _ => rfl, .nil, fun _ => rfl⟩
  obtain ⟨_, _, m_s_holders, F_s_holders⟩ := mS_holders.ex
  have s_holders : MethOk P w K mg base 2 E' "holders" [] (SSHoldersOf E') := ⟨_, _, _, [], [], okSHoldersOf F_s_holders TE s_need_slot, m_s_holders, F_s_holders.binds (ps := ["self", "slot"]) fun _ _ _ _ _ _ us hl => match us, hl with | [_, _], _ => rfl, .nil, fun _ => rfl⟩
  obtain ⟨_, _, m_s_put, F_s_put⟩ := mS_put.ex
  have s_put : MethOk P w K mg base 4 E' "put" [] (SSPut P w E') := ⟨_, _, _, [], [], okSPut F_s_put T TE d_is_page d_are_holders d_of_table s_need_new s_hold, m_s_put, F_s_put.binds (ps := ["self", "page", "holders"]) fun _ _ _ _ _ _ us hl => match us, hl with | [_, _, _], _ => rfl, .nil, fun _ => rfl⟩
  obtain ⟨_, _, m_s_share, F_s_share⟩ := mS_share.ex
  have s_share : MethOk P w K mg base 3 E' "share" [] (SSShare E') := ⟨_, _, _, [], [], okSShare F_s_share TE s_need_slot d_is_holder d_of_table s_need_new s_hold, m_s_share, F_s_share.binds (ps := ["self", "slot", "holder"]) fun _ _ _ _ _ _ us hl => match us, hl with | [_, _, _], _ => rfl, .nil, fun _ => rfl⟩
  obtain ⟨_, _, m_s_leave, F_s_leave⟩ := mS_leave.ex
  have s_leave : MethOk P w K mg base 3 E' "leave" [] (SSLeave E') := ⟨_, _, _, [], [], okSLeave F_s_leave T TE s_need_slot d_is_holder, m_s_leave, F_s_leave.binds (ps := ["self", "slot", "holder"]) fun _ _ _ _ _ _ us hl => match us, hl with | [_, _, _], _ => rfl, .nil, fun _ => rfl⟩
  obtain ⟨_, _, a_d_table_holders, F_d_table_holders⟩ := h_table_holders.ex
  have d_table_holders : DefOk P w K mg base 1 "table_holders" [] (STabHolders) := toDef F_d_table_holders (okTabHolders F_d_table_holders T) (MG a_d_table_holders) (F_d_table_holders.binds (ps := ["lodge", "size"]) fun _ _ _ _ _ _ us hl => match us, hl with | [_, _], _ => rfl)
  obtain ⟨d_entry_with, k_entry_with⟩ := ew_ok (P := P) (base := base) MG eEW T d_is_number
  obtain ⟨f_take, p_take, k_take, m_take⟩ := tk_ok (P := P) (base := base) (mg := mg) sqB eTK TC d_need_holder p_need_new d_is_page p_free p_hold
  obtain ⟨_, _, m_t_need_page, F_t_need_page⟩ := mD_need_page.ex
  have t_need_page : MethOk P w K mg base 2 D "need_page" [] (STNeedPage D) := ⟨_, _, _, [], [], okTNeedPage F_t_need_page TD d_is_within, m_t_need_page, F_t_need_page.binds (ps := ["self", "page"]) fun _ _ _ _ _ _ us hl => match us, hl with | [_, _], _ => rfl, .nil, fun _ => rfl⟩
  obtain ⟨_, _, m_t_top, F_t_top⟩ := mD_top.ex
  have t_top : MethOk P w K mg base 1 D "top" [] (STTop D) := ⟨_, _, _, [], [], okTTop F_t_top TD, m_t_top, F_t_top.binds (ps := ["self"]) fun _ _ _ _ _ _ us hl => match us, hl with | [_], _ => rfl, .nil, fun _ => rfl⟩
  obtain ⟨_, _, m_t_lower, F_t_lower⟩ := mD_lower.ex
  have t_lower : MethOk P w K mg base 5 D "lower" [] (STLower C D) := ⟨_, _, _, [], [], okTLower F_t_lower T TC TD d_entry_of p_page, m_t_lower, F_t_lower.binds (ps := ["self", "page"]) fun _ _ _ _ _ _ us hl => match us, hl with | [_, _], _ => rfl, .nil, fun _ => rfl⟩
  obtain ⟨_, _, m_t_cell, F_t_cell⟩ := mD_cell.ex
  have t_cell : MethOk P w K mg base 6 D "cell" [] (STCell C D) := ⟨_, _, _, [], [], okTCell F_t_cell T TC TD t_need_page t_lower p_page, m_t_cell, F_t_cell.binds (ps := ["self", "page"]) fun _ _ _ _ _ _ us hl => match us, hl with | [_, _], _ => rfl, .nil, fun _ => rfl⟩
  obtain ⟨_, _, m_t_put, F_t_put⟩ := mD_put.ex
  have t_put : MethOk P w K mg base 6 D "put" [] (STPut C D) := ⟨_, _, _, [], [], okTPut F_t_put T TC TD t_need_page t_lower d_need_cell p_put, m_t_put, F_t_put.binds (ps := ["self", "page", "cell"]) fun _ _ _ _ _ _ us hl => match us, hl with | [_, _, _], _ => rfl, .nil, fun _ => rfl⟩
  obtain ⟨_, _, m_t_leave, F_t_leave⟩ := mD_leave.ex
  have t_leave : MethOk P w K mg base 4 D "leave" [] (STLeave C D) := ⟨_, _, _, [], [], okTLeave F_t_leave TC TD p_leave p_spot_of, m_t_leave, F_t_leave.binds (ps := ["self"]) fun _ _ _ _ _ _ us hl => match us, hl with | [_], _ => rfl, .nil, fun _ => rfl⟩
  obtain ⟨_, _, m_t_init, F_t_init⟩ := mD_init.ex
  have t_init : MakeOk P w K mg base 5 D "Table" (STInit C D) := ⟨_, _, _, okTInit F_t_init T TC TD d_table_holders p_spot_of p_free p_take p_put d_entry_with k_entry_with, MG aD, ⟨mkD, m_t_init.at_, m_t_init.fn, kcD⟩, F_t_init.binds (ps := ["self", "pool", "lodge", "size"]) fun _ _ _ _ _ _ us hl => match us, hl with | [_, _, _, _], _ => rfl⟩
  obtain ⟨_, _, a_d__law_pot, F_d__law_pot⟩ := h__law_pot.ex
  have d__law_pot : DefOk P w K mg base 1 "_law_pot" [] (SPot) := toDef F_d__law_pot (okPot F_d__law_pot T) (MG a_d__law_pot) (F_d__law_pot.binds (ps := ["script", "k"]) fun _ _ _ _ _ _ us hl => match us, hl with | [_, _], _ => rfl)
  obtain ⟨_, _, a_d__law_take, F_d__law_take⟩ := h__law_take.ex
  have d__law_take : DefOk P w K mg base 1 "_law_take" [] (STk) := toDef F_d__law_take (okTk F_d__law_take ) (MG a_d__law_take) (F_d__law_take.binds (ps := ["pot", "many"]) fun _ _ _ _ _ _ us hl => match us, hl with | [_, _], _ => rfl)
  obtain ⟨_, _, a_d__law_entry_of, F_d__law_entry_of⟩ := h__law_entry_of.ex
  have d__law_entry_of : DefOk P w K mg base 4 "_law_entry_of" [] (SEnt C) := toDef F_d__law_entry_of (okEnt F_d__law_entry_of TC p_page) (MG a_d__law_entry_of) (F_d__law_entry_of.binds (ps := ["pool", "top", "part"]) fun _ _ _ _ _ _ us hl => match us, hl with | [_, _, _], _ => rfl)
  obtain ⟨_, _, a_d__law_page_of, F_d__law_page_of⟩ := h__law_page_of.ex
  have d__law_page_of : DefOk P w K mg base 5 "_law_page_of" [] (SPgOf C E') := toDef F_d__law_page_of (okPgOf F_d__law_page_of TC TE d__law_entry_of p_page s_page) (MG a_d__law_page_of) (F_d__law_page_of.binds (ps := ["pool", "slots", "top", "part"]) fun _ _ _ _ _ _ us hl => match us, hl with | [_, _, _, _], _ => rfl)
  obtain ⟨_, _, a_d__law_told, F_d__law_told⟩ := h__law_told.ex
  have d__law_told : DefOk P w K mg base 7 "_law_told" [] (STold C D E') := toDef F_d__law_told (okTold F_d__law_told T TD t_put) (MG a_d__law_told) (F_d__law_told.binds (ps := ["house", "holders", "number", "here"]) fun _ _ _ _ _ _ us hl => match us, hl with | [_, _, _, _], _ => rfl)
  obtain ⟨_, _, a_d__law_out, F_d__law_out⟩ := h__law_out.ex
  have d__law_out : DefOk P w K mg base 8 "_law_out" [] (SOut C D E') := toDef F_d__law_out (okOut F_d__law_out T TC TE p_holders p_page s_put p_leave d__law_told) (MG a_d__law_out) (F_d__law_out.binds (ps := ["house", "frame"]) fun _ _ _ _ _ _ us hl => match us, hl with | [_, _], _ => rfl)
  obtain ⟨_, _, a_d__law_room, F_d__law_room⟩ := h__law_room.ex
  have d__law_room : DefOk P w K mg base 9 "_law_room" [] (SRoom C D E') := toDef F_d__law_room (okRoom F_d__law_room T TC p_ledger p_free d__law_take d__law_out) (MG a_d__law_room) (F_d__law_room.binds (ps := ["pot", "house"]) fun _ _ _ _ _ _ us hl => match us, hl with | [_, _], _ => rfl)
  obtain ⟨_, _, a_d__law_alone, F_d__law_alone⟩ := h__law_alone.ex
  have d__law_alone : DefOk P w K mg base 10 "_law_alone" [] (SAlone C D E') := toDef F_d__law_alone (okAlone F_d__law_alone T TC TE TD t_cell p_holders d__law_out d__law_room s_page s_holders s_leave d__law_told k_take m_take) (MG a_d__law_alone) (F_d__law_alone.binds (ps := ["pot", "house", "lodge", "part"]) fun _ _ _ _ _ _ us hl => match us, hl with | [_, _, _, _], _ => rfl)
  obtain ⟨_, _, a_d__law_left, F_d__law_left⟩ := h__law_left.ex
  have d__law_left : DefOk P w K mg base 8 "_law_left" [] (SLeft C D E') := toDef F_d__law_left (okLeft F_d__law_left T TC TE TD t_cell p_holders p_leave s_holders s_leave d__law_told t_put) (MG a_d__law_left) (F_d__law_left.binds (ps := ["house", "lodge", "part"]) fun _ _ _ _ _ _ us hl => match us, hl with | [_, _, _], _ => rfl)
  obtain ⟨_, _, a_d__law_beside, F_d__law_beside⟩ := h__law_beside.ex
  have d__law_beside : DefOk P w K mg base 9 "_law_beside" [] (SBeside C D E') := toDef F_d__law_beside (okBeside F_d__law_beside T TC TE TD t_cell p_holders p_share s_holders s_share d__law_told d__law_left) (MG a_d__law_beside) (F_d__law_beside.binds (ps := ["house", "lodge", "part", "place"]) fun _ _ _ _ _ _ us hl => match us, hl with | [_, _, _, _], _ => rfl)
  obtain ⟨_, _, a_d__law_deed, F_d__law_deed⟩ := h__law_deed.ex
  have d__law_deed : DefOk P w K mg base 11 "_law_deed" [] (SDeed C D E') := toDef F_d__law_deed (okDeed F_d__law_deed T TC TD t_cell d__law_take d__law_alone p_put d__law_out d__law_left d__law_beside) (MG a_d__law_deed) (F_d__law_deed.binds (ps := ["pot", "house", "sheets"]) fun _ _ _ _ _ _ us hl => match us, hl with | [_, _, _], _ => rfl)
  obtain ⟨_, _, a_d__law_right, F_d__law_right⟩ := h__law_right.ex
  have d__law_right : DefOk P w K mg base 7 "_law_right" [] (SRight C D E') := toDef F_d__law_right (okRight F_d__law_right T TC TE TD t_cell d_is_ledger p_ledger d__law_entry_of t_top d__law_page_of s_holders) (MG a_d__law_right) (F_d__law_right.binds (ps := ["house", "sheets"]) fun _ _ _ _ _ _ us hl => match us, hl with | [_, _], _ => rfl)
  exact okLaw F_law T TC TE TD d__law_pot d__law_take p_init s_init t_init d__law_deed d__law_right d__law_left t_leave p_ledger p_free p_page s_put
theorem walk {l : PySem.W.OpenLaw} {q : Program} {loose : List Str} {XP : (Str → Option Value) → Heap → Prop} {YP : World → Heap → Prop} {d : DefRec} {K : Params → PySem.W.Frag} (hn : l.most = some 63) (hdf : d.params.defaults = [])
    (hY : ∀ (w : World) (h : Heap), YP w h → (K w.params).In h)
    (F : ∀ (w : World) (mg : Str → Option Value) (fa : Addr) (h : Heap), (K w.params).In h → h.Ns mainGlobals mg → mg d.name = some (.ref fa) →
      ∃ fd : FuncData, (∀ (s : Shared) (u : Value), BindsTo s fd ⟨[u], []⟩ [("script", u)]) ∧ ∀ base : Heap, (K w.params).In base → base.Ns mainGlobals mg → FnOk l.prog w (K w.params) mg base CX0 12 fa fd ["script"] (spl (K w.params) SLaw)) :
    PySem.W.WalkO q loose XP YP l.row.toRowW d [] (fun f vs => PySem.call f vs) :=
  L2.walk_of (n := 63) (k := 12) (x := "script") (CX := fun _ => CX0) (sp := fun w => spl (K w.params) SLaw) hn (by decide) hdf ⟨rfl, by decide, by decide⟩ hY F (fun w H a ns hl hO hS => by
    refine ⟨[.scr ns], fun _ => none, fun d _ => d = .bl true, ⟨_, _, rfl, ⟨a, rfl, ?_⟩, rfl⟩, fun _ _ e => (by cases e), ⟨ns, rfl, fun _ => rfl⟩, fun v H' d G' _ _ z q => ?_⟩
    · rcases hS with (e | ⟨o, e⟩) | e
      · rcases hO a with e2 | ⟨_, _, e2⟩
        · rw [e] at e2; cases e2
        · rw [e] at e2; cases e2
      · exact .inl ⟨o, e⟩
      · exact .inr (.inr e)
    · subst q
      exact z) fun _ _ _ _ _ z => z
end Lw
open PySem PySem.W PyProof.Rows
set_option maxRecDepth 100000 in
set_option maxHeartbeats 0 in
theorem PySem.Challenge.cw_lodgewalk_k36_whole_in_and_out_holds : PySem.Challenge.rw_lodgewalk_k36_whole_in_and_out.Holds := by
  w_on; o_law; k_head; (case hw => w_witness2)
  k_fill
  refine Lw.walk (l := PySem.Challenge.rw_lodgewalk_k36_whole_in_and_out) rfl rfl (fun w h Y => PySem.W.kIn_of Y) ?F
  case F =>
    intro w mg fa h KX G hmg
    refine' Lw.all_mk KX G hmg ?cPL ?cME ?cMN ?cHE ?cWR ?cSE ?cPU ?cMA ?cFE ?cMP ?cFA ?cTA ?cBL ?lBL ?zBL ?vBL ?cLP ?lLP ?kLP ?sLP ?pA ?pB ?pC ?zlen ?zisi ?zall ?zany ?zsum ?zmin ?zmax ?zabs ?zint ?zbool ?zstr ?ztuple ?zsorted ?zrange ?zenum ?zzip ?aP ?pgP ?hdP ?poP ?saP ?mkP ?kcP ?nPs ?nPh ?nPt ?aS ?pgS ?hdS ?poS ?saS ?mkS ?kcS ?nSs ?nSh ?nSt ?aD ?pgD ?hdD ?poD ?saD ?mkD ?kcD ?nDf ?nDo ?nDs ?nDr ?h_is_within ?h_is_cell ?h_is_number ?h_is_page ?h_need_cell ?h_number_in ?h_has_mark ?h_entry_of ?h_is_holder ?h_are_rising ?h_are_holders ?h_of_table ?h_is_ledger ?h_need_holder ?mP_need_frame ?mP_need_held ?mP_spot_of ?mP_need_new ?mP_hold ?mP_page ?mP_holders ?mP_ledger ?mP_free ?mP_share ?mP_leave ?mP_put ?mP_init ?mS_init ?mS_need_slot ?mS_need_new ?mS_hold ?mS_page ?mS_holders ?mS_put ?mS_share ?mS_leave ?h_table_holders ?eEW ?eTK ?mD_need_page ?mD_top ?mD_lower ?mD_cell ?mD_put ?mD_leave ?mD_init ?h__law_pot ?h__law_take ?h__law_entry_of ?h__law_page_of ?h__law_told ?h__law_out ?h__law_room ?h__law_alone ?h__law_left ?h__law_beside ?h__law_deed ?h__law_right ?h_law
    (case cPL => k_is)
    (case cME => k_is)
    (case cMN => k_is)
    (case cHE => k_is)
    (case cWR => k_is)
    (case cSE => k_is)
    (case cPU => k_is)
    (case cMA => k_is)
    (case cFE => k_is)
    (case cMP => k_is)
    (case cFA => k_is)
    (case cTA => k_is)
    (case cBL => k_is)
    (case lBL => k_is)
    (case zBL => decide)
    (case vBL => exact .cons ⟨_, rfl⟩ (.cons ⟨_, rfl⟩ (.cons ⟨_, rfl⟩ (.cons ⟨_, rfl⟩ (.cons ⟨_, rfl⟩ (.cons ⟨_, rfl⟩ (.cons ⟨_, rfl⟩ (.cons ⟨_, rfl⟩ .nil))))))))
    (case cLP => k_is)
    (case lLP => k_is)
    (case kLP => exact ⟨⟨_, _, rfl, rfl⟩, ⟨_, _, rfl, rfl⟩, ⟨_, _, rfl, rfl⟩, trivial⟩)
    (case sLP => rfl)
    (case pA => k_is)
    (case pB => k_is)
    (case pC => k_is)
    (case zlen => k_is)
    (case zisi => k_is)
    (case zall => k_is)
    (case zany => k_is)
    (case zsum => k_is)
    (case zmin => k_is)
    (case zmax => k_is)
    (case zabs => k_is)
    (case zint => k_is)
    (case zbool => k_is)
    (case zstr => k_is)
    (case ztuple => k_is)
    (case zsorted => k_is)
    (case zrange => k_is)
    (case zenum => k_is)
    (case zzip => k_is)
    (case aP => k_is)
    (case pgP => k_is)
    (case hdP => k_is)
    (case poP => k_is)
    (case saP => k_is)
    (case mkP => k_is)
    (case kcP => k_is)
    (case nPs => k_is)
    (case nPh => k_is)
    (case nPt => k_is)
    (case aS => k_is)
    (case pgS => k_is)
    (case hdS => k_is)
    (case poS => k_is)
    (case saS => k_is)
    (case mkS => k_is)
    (case kcS => k_is)
    (case nSs => k_is)
    (case nSh => k_is)
    (case nSt => k_is)
    (case aD => k_is)
    (case pgD => k_is)
    (case hdD => k_is)
    (case poD => k_is)
    (case saD => k_is)
    (case mkD => k_is)
    (case kcD => k_is)
    (case nDf => k_is)
    (case nDo => k_is)
    (case nDs => k_is)
    (case nDr => k_is)
    (case h_is_within => refine' Lw.df_mk ?a ?l ?c ?k; (case a => k_is); (case l => k_is); (case c => k_is); (case k => k_is))
    (case h_is_cell => refine' Lw.df_mk ?a ?l ?c ?k; (case a => k_is); (case l => k_is); (case c => k_is); (case k => k_is))
    (case h_is_number => refine' Lw.df_mk ?a ?l ?c ?k; (case a => k_is); (case l => k_is); (case c => k_is); (case k => k_is))
    (case h_is_page => refine' Lw.df_mk ?a ?l ?c ?k; (case a => k_is); (case l => k_is); (case c => k_is); (case k => k_is))
    (case h_need_cell => refine' Lw.df_mk ?a ?l ?c ?k; (case a => k_is); (case l => k_is); (case c => k_is); (case k => k_is))
    (case h_number_in => refine' Lw.df_mk ?a ?l ?c ?k; (case a => k_is); (case l => k_is); (case c => k_is); (case k => k_is))
    (case h_has_mark => refine' Lw.df_mk ?a ?l ?c ?k; (case a => k_is); (case l => k_is); (case c => k_is); (case k => k_is))
    (case h_entry_of => refine' Lw.df_mk ?a ?l ?c ?k; (case a => k_is); (case l => k_is); (case c => k_is); (case k => k_is))
    (case h_is_holder => refine' Lw.df_mk ?a ?l ?c ?k; (case a => k_is); (case l => k_is); (case c => k_is); (case k => k_is))
    (case h_are_rising => refine' Lw.df_mk ?a ?l ?c ?k; (case a => k_is); (case l => k_is); (case c => k_is); (case k => k_is))
    (case h_are_holders => refine' Lw.df_mk ?a ?l ?c ?k; (case a => k_is); (case l => k_is); (case c => k_is); (case k => k_is))
    (case h_of_table => refine' Lw.df_mk ?a ?l ?c ?k; (case a => k_is); (case l => k_is); (case c => k_is); (case k => k_is))
    (case h_is_ledger => refine' Lw.df_mk ?a ?l ?c ?k; (case a => k_is); (case l => k_is); (case c => k_is); (case k => k_is))
    (case h_need_holder => refine' Lw.df_mk ?a ?l ?c ?k; (case a => k_is); (case l => k_is); (case c => k_is); (case k => k_is))
    (case mP_need_frame => refine' Lw.mf_mk ?a ?i ?l ?c ?k; (case a => k_is); (case i => k_is); (case l => k_is); (case c => k_is); (case k => k_is))
    (case mP_need_held => refine' Lw.mf_mk ?a ?i ?l ?c ?k; (case a => k_is); (case i => k_is); (case l => k_is); (case c => k_is); (case k => k_is))
    (case mP_spot_of => refine' Lw.mf_mk ?a ?i ?l ?c ?k; (case a => k_is); (case i => k_is); (case l => k_is); (case c => k_is); (case k => k_is))
    (case mP_need_new => refine' Lw.mf_mk ?a ?i ?l ?c ?k; (case a => k_is); (case i => k_is); (case l => k_is); (case c => k_is); (case k => k_is))
    (case mP_hold => refine' Lw.mf_mk ?a ?i ?l ?c ?k; (case a => k_is); (case i => k_is); (case l => k_is); (case c => k_is); (case k => k_is))
    (case mP_page => refine' Lw.mf_mk ?a ?i ?l ?c ?k; (case a => k_is); (case i => k_is); (case l => k_is); (case c => k_is); (case k => k_is))
    (case mP_holders => refine' Lw.mf_mk ?a ?i ?l ?c ?k; (case a => k_is); (case i => k_is); (case l => k_is); (case c => k_is); (case k => k_is))
    (case mP_ledger => refine' Lw.mf_mk ?a ?i ?l ?c ?k; (case a => k_is); (case i => k_is); (case l => k_is); (case c => k_is); (case k => k_is))
    (case mP_free => refine' Lw.mf_mk ?a ?i ?l ?c ?k; (case a => k_is); (case i => k_is); (case l => k_is); (case c => k_is); (case k => k_is))
    (case mP_share => refine' Lw.mf_mk ?a ?i ?l ?c ?k; (case a => k_is); (case i => k_is); (case l => k_is); (case c => k_is); (case k => k_is))
    (case mP_leave => refine' Lw.mf_mk ?a ?i ?l ?c ?k; (case a => k_is); (case i => k_is); (case l => k_is); (case c => k_is); (case k => k_is))
    (case mP_put => refine' Lw.mf_mk ?a ?i ?l ?c ?k; (case a => k_is); (case i => k_is); (case l => k_is); (case c => k_is); (case k => k_is))
    (case mP_init => refine' Lw.mf_mk ?a ?i ?l ?c ?k; (case a => k_is); (case i => k_is); (case l => k_is); (case c => k_is); (case k => k_is))
    (case mS_init => refine' Lw.mf_mk ?a ?i ?l ?c ?k; (case a => k_is); (case i => k_is); (case l => k_is); (case c => k_is); (case k => k_is))
    (case mS_need_slot => refine' Lw.mf_mk ?a ?i ?l ?c ?k; (case a => k_is); (case i => k_is); (case l => k_is); (case c => k_is); (case k => k_is))
    (case mS_need_new => refine' Lw.mf_mk ?a ?i ?l ?c ?k; (case a => k_is); (case i => k_is); (case l => k_is); (case c => k_is); (case k => k_is))
    (case mS_hold => refine' Lw.mf_mk ?a ?i ?l ?c ?k; (case a => k_is); (case i => k_is); (case l => k_is); (case c => k_is); (case k => k_is))
    (case mS_page => refine' Lw.mf_mk ?a ?i ?l ?c ?k; (case a => k_is); (case i => k_is); (case l => k_is); (case c => k_is); (case k => k_is))
    (case mS_holders => refine' Lw.mf_mk ?a ?i ?l ?c ?k; (case a => k_is); (case i => k_is); (case l => k_is); (case c => k_is); (case k => k_is))
    (case mS_put => refine' Lw.mf_mk ?a ?i ?l ?c ?k; (case a => k_is); (case i => k_is); (case l => k_is); (case c => k_is); (case k => k_is))
    (case mS_share => refine' Lw.mf_mk ?a ?i ?l ?c ?k; (case a => k_is); (case i => k_is); (case l => k_is); (case c => k_is); (case k => k_is))
    (case mS_leave => refine' Lw.mf_mk ?a ?i ?l ?c ?k; (case a => k_is); (case i => k_is); (case l => k_is); (case c => k_is); (case k => k_is))
    (case h_table_holders => refine' Lw.df_mk ?a ?l ?c ?k; (case a => k_is); (case l => k_is); (case c => k_is); (case k => k_is))
    (case eEW => refine' Lw.ef_mk ?a ?l ?c ?k ?q1 ?q2 ?q3 ?q4; (case a => k_is); (case l => k_is); (case c => k_is); (case k => k_is); (case q1 => k_is); (case q2 => k_is); (case q3 => k_is); (case q4 => k_is))
    (case eTK => refine' Lw.tf_mk ?a ?i ?l ?c ?k ?q1; (case a => k_is); (case i => k_is); (case l => k_is); (case c => k_is); (case k => k_is); (case q1 => k_is))
    (case mD_need_page => refine' Lw.mf_mk ?a ?i ?l ?c ?k; (case a => k_is); (case i => k_is); (case l => k_is); (case c => k_is); (case k => k_is))
    (case mD_top => refine' Lw.mf_mk ?a ?i ?l ?c ?k; (case a => k_is); (case i => k_is); (case l => k_is); (case c => k_is); (case k => k_is))
    (case mD_lower => refine' Lw.mf_mk ?a ?i ?l ?c ?k; (case a => k_is); (case i => k_is); (case l => k_is); (case c => k_is); (case k => k_is))
    (case mD_cell => refine' Lw.mf_mk ?a ?i ?l ?c ?k; (case a => k_is); (case i => k_is); (case l => k_is); (case c => k_is); (case k => k_is))
    (case mD_put => refine' Lw.mf_mk ?a ?i ?l ?c ?k; (case a => k_is); (case i => k_is); (case l => k_is); (case c => k_is); (case k => k_is))
    (case mD_leave => refine' Lw.mf_mk ?a ?i ?l ?c ?k; (case a => k_is); (case i => k_is); (case l => k_is); (case c => k_is); (case k => k_is))
    (case mD_init => refine' Lw.mf_mk ?a ?i ?l ?c ?k; (case a => k_is); (case i => k_is); (case l => k_is); (case c => k_is); (case k => k_is))
    (case h__law_pot => refine' Lw.df_mk ?a ?l ?c ?k; (case a => k_is); (case l => k_is); (case c => k_is); (case k => k_is))
    (case h__law_take => refine' Lw.df_mk ?a ?l ?c ?k; (case a => k_is); (case l => k_is); (case c => k_is); (case k => k_is))
    (case h__law_entry_of => refine' Lw.df_mk ?a ?l ?c ?k; (case a => k_is); (case l => k_is); (case c => k_is); (case k => k_is))
    (case h__law_page_of => refine' Lw.df_mk ?a ?l ?c ?k; (case a => k_is); (case l => k_is); (case c => k_is); (case k => k_is))
    (case h__law_told => refine' Lw.df_mk ?a ?l ?c ?k; (case a => k_is); (case l => k_is); (case c => k_is); (case k => k_is))
    (case h__law_out => refine' Lw.df_mk ?a ?l ?c ?k; (case a => k_is); (case l => k_is); (case c => k_is); (case k => k_is))
    (case h__law_room => refine' Lw.df_mk ?a ?l ?c ?k; (case a => k_is); (case l => k_is); (case c => k_is); (case k => k_is))
    (case h__law_alone => refine' Lw.df_mk ?a ?l ?c ?k; (case a => k_is); (case l => k_is); (case c => k_is); (case k => k_is))
    (case h__law_left => refine' Lw.df_mk ?a ?l ?c ?k; (case a => k_is); (case l => k_is); (case c => k_is); (case k => k_is))
    (case h__law_beside => refine' Lw.df_mk ?a ?l ?c ?k; (case a => k_is); (case l => k_is); (case c => k_is); (case k => k_is))
    (case h__law_deed => refine' Lw.df_mk ?a ?l ?c ?k; (case a => k_is); (case l => k_is); (case c => k_is); (case k => k_is))
    (case h__law_right => refine' Lw.df_mk ?a ?l ?c ?k; (case a => k_is); (case l => k_is); (case c => k_is); (case k => k_is))
    (case h_law => refine' Lw.df_mk ?a ?l ?c ?k; (case a => k_is); (case l => k_is); (case c => k_is); (case k => k_is))
